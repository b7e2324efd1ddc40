/- Functions of the program, walked by the evaluator. -/
import Derived.Test.YtpoannkeaajngaaGreatDoorWb
import Derived.Test.YtpoannkeaajngaaGreatDoorWa
import Derived.Test.YtpoannkeaajngaaGreatDoorFa
import Derived.Test.YtpoannkeaajngaaGreatDoorFb
import Derived.Test.YtpoannkeaajngaaGreatDoorFc
import Derived.Test.YtpoannkeaajngaaGreatDoorFe
import Derived.Test.YtpoannkeaajngaaGreatDoorFi
set_option linter.unusedVariables false
set_option linter.unusedSimpArgs false
set_option autoImplicit false
set_option maxRecDepth 100000
set_option maxHeartbeats 4000000
set_option linter.defProp false
namespace Go.Vm.A
open Go.Proofs
open Nat renaming reduceAdd -> nA, reduceSub -> nS, reduceMul -> nM, reduceBEq -> nB, reduceEqDiff -> nE, reduceLeDiff -> nL, reduceLT -> nT, reduceBneDiff -> nN
open Int renaming reduceLE -> iL, reduceLT -> iT, reduceEq -> iE, reduceAdd -> iA, reduceMul -> iM, reduceSub -> iS, reduceNeg -> iG, reduceBEq -> iB, reduceBNe -> iN, reduceToNat -> iZ
noncomputable section
def s74:SP Tryz.prog:=mkS tyA 74 Tryz.f74 [Xp3] {md:=[.ro 1,.ro 1],rets:=some ([4],[])} Tryz.func74 (by kernel_rfl)
@[go_sem] def d74:s74.g=74/\s74.fs=⟨[.ro 1,.ro 1],s74.F,false⟩:=⟨nr rfl,nr rfl⟩
@[go_sem] def e74(a b:ByteArray)(h0:(a.size<=9223372036854775806/\b.size<=9223372036854775806)):s74.F [.s a,.s b]=some (.b (eqv (Xbr a) (Xbr b)),[.u,.u]):=Xj (0) rfl rfl (λcx h=>by
 simp only[go_sem,reduceIte,↓reduceIte,reduceCtorEq,nA,nS,nM,nB,nE,nL,nT,nN,iL,iT,iE,iA,iM,iS,iG,iB,iN,iZ,h,h0.1,h0.2,Xa]) (rfl)
def s53:SP Tryz.prog:=mkS tyA 53 Tryz.f53 [s74] {md:=[.ro 1,.ro 1],rg:=[(0,[0,1],[]),(1,[0,1,5],[]),(2,[0,1,5,9,10,11],[]),(3,[0,1,5,9,10,11,12],[]),(4,[0,1,5,7,9,10,11],[7]),(5,[0,1,5,7,9,10,11,18],[7]),(6,[0,1,5,9,10,11],[]),(7,[0,1,5,9,10,11],[]),(8,[4],[])],lv:=[(0,[0,1,5,9,10,11],[])],out:=[(0,[5],[])],rets:=some ([4],[])} Tryz.func53 (by kernel_rfl)
@[go_sem] def d53:s53.g=53/\s53.fs=⟨[.ro 1,.ro 1],s53.F,false⟩:=⟨nr rfl,nr rfl⟩
@[go_sem] def e53(hs:List Xg)(name:ByteArray)(h0:(hs.length<=20/\smL Ye hs/\okN name=true)):s53.F [.sl .ro 2 (hs.map (Xb .ro)),.s name]=some (.sl .mut 1 ((XeF hs name).map X8),[.u,.u]):=Xj (hs.length+1) rfl rfl (λcx h=>by
 have hl:=h0.1
 have hx:hs.length<=9223372036854775806:=by omega
 have hb0:=XF Tryz.f53 0 _ _ rfl rfl
 obtain⟨hI,hr⟩:=YG (cx:=cx) (blk:=0) (body:=YN Tryz.f53 0) hs (λk (s:List ByteArray)=>⟨E [(0,.sl .ro 2 (hs.map (Xb .ro))),(1,.s name),(5,.sl .mut 1 (s.map X8)),(9,.sl .ro 2 (hs.map (Xb .ro))),(10,.i .i64 hs.length),(11,.i .i64 k)],B []⟩) (λs=>⟨E [(5,.sl .mut 1 (s.map X8))],B []⟩) (λx s=>(if eqv (Xbr x.Name) (Xbr name)=true then s++[x.Value] else s)) (λk s=>s.length<=k)
   (λs hI G=>by simp only[go_sem,reduceIte,↓reduceIte,reduceCtorEq,nA,nS,nM,nB,nE,nL,nT,nN,iL,iT,iE,iA,iM,iS,iG,iB,iN,iZ,h,Int.lt_irrefl,hb0,h0.1]) (λk hk s hI=>by
    have h1:((k:Int)<(hs.length:Int)):=Int.ofNat_lt.2 hk
    have t3:(s.length+1)*16<=140737488355328:=by omega
    have t4:s.map X8++[[.s hs[k].Value]]=(s++[hs[k].Value]).map X8:=by simp[X8]
    obtain⟨u1,u2⟩:=h0.2.1.2 _ (List.getElem_mem hk)
    have n1:hs[k].Name.size<=9223372036854775806/\name.size<=9223372036854775806:=⟨by have:hs[k].Name.size<=1048576:=u1; omega,of_decide_eq_true h0.2.2⟩
    cases d1:eqv (Xbr hs[k].Name) (Xbr name)
    all_goals exact⟨by split<;>(try simp only[List.length_append,List.length_cons,List.length_nil])<;>omega,_,λG=>by simp only[go_sem,reduceIte,↓reduceIte,reduceCtorEq,nA,nS,nM,nB,nE,nL,nT,nN,iL,iT,iE,iA,iM,iS,iG,iB,iN,iZ,h,t3,t4,YH (Xb .ro) hs k hk,n1,d1,h1,Xt _ _ hk,Xm (show k<9223372036854775807 by omega),hb0]<;>with_reducible rfl,by simp only[go_sem,reduceIte,↓reduceIte,reduceCtorEq,nA,nS,nM,nB,nE,nL,nT,nN,iL,iT,iE,iA,iM,iS,iG,iB,iN,iZ,h,d1]⟩) [] (by simp) (hs.length+1) (Nat.le_refl _)
 rw[hb0] at hr
 have hff:=XpE (λx:Xg=>eqv (Xbr x.Name) (Xbr name)) (λx=>x.Value) hs []
 simp only[List.nil_append] at hff
 rw[hff] at hr
 simp only[go_sem,reduceIte,↓reduceIte,reduceCtorEq,nA,nS,nM,nB,nE,nL,nT,nN,iL,iT,iE,iA,iM,iS,iG,iB,iN,iZ,h,hr,XeF]) (by simp only[go_sem,reduceIte,↓reduceIte,reduceCtorEq,nA,nS,nM,nB,nE,nL,nT,nN,iL,iT,iE,iA,iM,iS,iG,iB,iN,iZ,ZS,XJ])
def s19:SP Tryz.prog:=mkS tyA 19 Tryz.f19 [s46,s50,s51,s52,s53] {md:=[.ro 1],rg:=[(0,[1],[1]),(1,[1,19],[1]),(2,[2],[]),(3,[1,3],[1]),(4,[1,3,24],[1]),(5,[2],[]),(6,[1,26],[1]),(7,[2],[]),(8,[32],[]),(9,[2],[]),(10,[2],[])],rets:=some ([2],[])} Tryz.func19 (by kernel_rfl)
@[go_sem] def d19:s19.g=19/\s19.fs=⟨[.ro 1],s19.F,false⟩:=⟨nr rfl,nr rfl⟩
@[go_sem] def e19(w0 w1 w2:ByteArray)(w3:List Xg)(h0:smL Ye (Request.mk w0 w1 w2 w3).Headers):s19.F [.agg [.s w0,.s w1,.s w2,.sl .ro 2 (w3.map (Xb .ro))]]=some (.i .i64 (Xs (Request.mk w0 w1 w2 w3)),[.u]):=Xj (0) rfl rfl (λcx h=>by
 have key:∀m:Bool,ZH w0=m->(ZH w0&&UI w1&&UJ w2)=(m&&UI w1&&UJ w2):=λm h=>by rw[h]
 have hn1:okN ⟨#[72,111,115,116]⟩=true:=by decide
 have hn2:okN ⟨#[104,111,115,116]⟩=true:=by decide
 cases m0:ZH w0
 ·simp only[go_sem,reduceIte,↓reduceIte,reduceCtorEq,nA,nS,nM,nB,nE,nL,nT,nN,iL,iT,iE,iA,iM,iS,iG,iB,iN,iZ,h,m0,Xs]
 cases h2:UI w1
 ·simp only[go_sem,reduceIte,↓reduceIte,reduceCtorEq,nA,nS,nM,nB,nE,nL,nT,nN,iL,iT,iE,iA,iM,iS,iG,iB,iN,iZ,h,h2,m0,Xs]
 cases h3:UJ w2
 ·simp only[go_sem,reduceIte,↓reduceIte,reduceCtorEq,nA,nS,nM,nB,nE,nL,nT,nN,iL,iT,iE,iA,iM,iS,iG,iB,iN,iZ,h,h2,h3,m0,Xs]
 by_cases z:Xr w3=0
 rotate_left
 ·have z':(Xr w3 !=0)=true:=by simpa using z
  simp only[go_sem,reduceIte,↓reduceIte,reduceCtorEq,nA,nS,nM,nB,nE,nL,nT,nN,iL,iT,iE,iA,iM,iS,iG,iB,iN,iZ,h,h2,h3,z',m0,Xs]
 have z':(Xr w3 !=0)=false:=by simpa using z
 have h4:w3.length<=20/\smL Ye w3/\okN ⟨#[72,111,115,116]⟩=true:=⟨YR z,h0,hn1⟩
 have h5:w3.length<=20/\smL Ye w3/\okN ⟨#[104,111,115,116]⟩=true:=⟨YR z,h0,hn2⟩
 have h6:=Xba w3 ⟨#[72,111,115,116]⟩
 have h7:=Xb1 w3
 cases h8:XfR w3 ⟨#[72,111,115,116]⟩
 ·by_cases h9:20<=(w3.length:Int)
  ·have h10:((w3.length:Int)==20)=true:=by have:=h4.1; simp; omega
   simp only[go_sem,reduceIte,↓reduceIte,reduceCtorEq,nA,nS,nM,nB,nE,nL,nT,nN,iL,iT,iE,iA,iM,iS,iG,iB,iN,iZ,h,h2,h3,z,h4,h5,h6,h7,h8,h9,h10,m0,Xs]
  ·have h10:((w3.length:Int)==20)=false:=by have:=h4.1; simp; omega
   simp only[go_sem,reduceIte,↓reduceIte,reduceCtorEq,nA,nS,nM,nB,nE,nL,nT,nN,iL,iT,iE,iA,iM,iS,iG,iB,iN,iZ,h,h2,h3,z,h4,h5,h6,h7,h8,h9,h10,m0,Xs]
 ·simp only[go_sem,reduceIte,↓reduceIte,reduceCtorEq,nA,nS,nM,nB,nE,nL,nT,nN,iL,iT,iE,iA,iM,iS,iG,iB,iN,iZ,h,h2,h3,z,h4,h5,h6,h7,h8,m0,Xs]) (rfl)
def Xp4:SP Tryz.prog:=mkS tyA 110 Tryz.f110 [s16,s19] {md:=[.ro 1],rg:=[(0,[0],[]),(1,[0,3],[]),(2,[0,3,4],[]),(3,[1],[]),(4,[0,9],[]),(5,[1],[]),(6,[1],[])],rets:=some ([1],[])} Tryz.func110 (by kernel_rfl)
@[go_sem] def XHk:Xp4.g=110/\Xp4.fs=⟨[.ro 1],Xp4.F,false⟩:=⟨nr rfl,nr rfl⟩
@[go_sem] def XHl(w4 eId w5:Int)(w6 w7 w8:ByteArray)(w9:List Xg)(w10:Int)(w11:List Xg)(w12:List UInt8)(w13:ByteArray)(w14:Bool)(h0:smL Ye w9):Xp4.F [.pr [.i .i64 w4,.i .i64 eId,.i .i64 w5,.s w6,.s w7,.s w8,.sl .ro 2 (w9.map (Xb .ro)),.i .i64 w10,.sl .ro 2 (w11.map (Xb .ro)),.sl .ro 1 (w12.map XE),.s w13,.b w14]]=some (.i .i64 (Zo (Event.mk w4 eId w5 (Request.mk w6 w7 w8 w9) (Response.mk w10 w11 w12) w13 w14)),[.u]):=Xj (0) rfl rfl (λcx h=>by
 have hu:Zo (Event.mk w4 eId w5 (Request.mk w6 w7 w8 w9) (Response.mk w10 w11 w12) w13 w14)=(if(w4==1)=true then Xs (Request.mk w6 w7 w8 w9) else if(w4==2)=true then XZ (Response.mk w10 w11 w12) else 0):=rfl
 cases h1:w4==1
 ·cases h2:w4==2<;>simp only[go_sem,reduceIte,↓reduceIte,reduceCtorEq,nA,nS,nM,nB,nE,nL,nT,nN,iL,iT,iE,iA,iM,iS,iG,iB,iN,iZ,h,h1,h2,hu]
 ·simp only[go_sem,reduceIte,↓reduceIte,reduceCtorEq,nA,nS,nM,nB,nE,nL,nT,nN,iL,iT,iE,iA,iM,iS,iG,iB,iN,iZ,h,h1,h0,hu]) (rfl)
def cl(p:Bool×Int):AV:=.fn 155 [.pr [.b p.1],.pr [.i .i64 p.2]]
@[go_sem] def Xs9(p:Bool×Int):cl p=.fn 155 [.pr [.b p.1],.pr [.i .i64 p.2]]:=nr rfl
@[go_sem] def Xm2(kp kr:Pl->Bool):∀xs:List (Bool×Int),X6 kp kr (xs.map cl)=xs.map cl
 | []=>rfl
 | x :: xs=>by simp only[List.map_cons,X6,Xm2 kp kr xs,cl,filt]
def clv(p:Bool×Int):Int:=if p.1=true then p.2 else 0
def QU:List (Bool×Int)->Int
 | []=>0
 | p :: r=>if(clv p !=0)=true then clv p else QU r
def Xdh:∀{xs:List (Bool×Int)} {u u':Unit},XaG (λx _=>clv x !=0) (λ_ _=>()) xs u=.inl u'->QU xs=0
 | [],_,_,_=>rfl
 | x :: xs,u,u',h=>by
  rw[YW] at h
  split at h
  ·cases h
  ·rename_i hc; rw[QU,if_neg hc]; exact Xdh h
def Xdi:∀{xs:List (Bool×Int)} {u:Unit} {q:(Bool×Int)×Unit},XaG (λx _=>clv x !=0) (λ_ _=>()) xs u=.inr q->QU xs=clv q.1
 | [],_,_,h=>by cases h
 | x :: xs,u,q,h=>by
  rw[YW] at h
  split at h
  ·rename_i hc; injection h with h; subst h; rw[QU,if_pos hc]
  ·rename_i hc; rw[QU,if_neg hc]; exact Xdi h
def map_gdA{α:Type}(f:α->AV)(xs:List α)(k:Nat)(h:k<xs.length):(xs.map f).getD k .u=f xs[k]:=by simp[List.getD,h]
def Xho:SP Tryz.prog:=mkS tyA 107 Tryz.f107 [Xp4,Xp0] {md:=[.ro 1],rg:=[(0,[0],[]),(1,[0,6,7,8],[]),(2,[0,6,7,8,9],[]),(3,[0,4,6,7,8],[]),(4,[0,5,6,7,8],[]),(5,[0,5,6,7,8,15],[]),(6,[2],[]),(7,[0,6,7,8],[]),(8,[2],[])],lv:=[(0,[0,6,7,8],[])],out:=[(0,[],[])],rets:=some ([2],[])} Tryz.func107 (by kernel_rfl)
@[go_sem] def XHm:Xho.g=107/\Xho.fs=⟨[.ro 1],Xho.F,false⟩:=⟨nr rfl,nr rfl⟩
def Xm3(xs:List (Bool×Int))(hb:xs.length<=1000):Xho.F [.fs (xs.map cl)]=some (.i .i64 (QU xs),[.u]):=Xj (xs.length+1) rfl rfl (λcx h=>by
 have hx:=hb
 have hb0:=XF Tryz.f107 0 _ _ rfl rfl
 obtain⟨r,hr,hq⟩:=Yz (cx:=cx) (blk:=0) (body:=YN Tryz.f107 0) xs (λk (s:Unit)=>⟨E [(0,.fs (xs.map cl)),(6,.fs (xs.map cl)),(7,.i .i64 xs.length),(8,.i .i64 k)],B []⟩) (λs=>⟨E [],B []⟩) (λx s=>clv x !=0) (λx s=>()) (λx s=>(.ret,⟨E [(2,.i .i64 (clv x))],B []⟩)) (λk s=>True)
   (λs hI G=>by simp only[go_sem,reduceIte,↓reduceIte,reduceCtorEq,nA,nS,nM,nB,nE,nL,nT,nN,iL,iT,iE,iA,iM,iS,iG,iB,iN,iZ,h,Int.lt_irrefl,hb0,hx]) (λk hk s hI=>by
    have h1:((k:Int)<(xs.length:Int)):=Int.ofNat_lt.2 hk
    have h3:clv xs[k]=(if xs[k].1=true then xs[k].2 else 0):=rfl
    exact⟨_,_,_,λG=>by simp only[go_sem,reduceIte,↓reduceIte,reduceCtorEq,nA,nS,nM,nB,nE,nL,nT,nN,iL,iT,iE,iA,iM,iS,iG,iB,iN,iZ,h,map_gdA cl xs k hk,h3,h1,Xt _ _ hk,Xm (show k<9223372036854775807 by omega),hb0]<;>with_reducible rfl,by simp[h3],λhc=>⟨trivial,by simp only[go_sem,reduceIte,↓reduceIte,reduceCtorEq,nA,nS,nM,nB,nE,nL,nT,nN,iL,iT,iE,iA,iM,iS,iG,iB,iN,iZ,h]⟩⟩) () trivial (xs.length+1) (Nat.le_refl _)
 rw[hb0] at hr
 rcases hq with⟨s',e1,_,e3⟩ | ⟨x,s',e1,e3⟩
 ·simp only[go_sem,reduceIte,↓reduceIte,reduceCtorEq,nA,nS,nM,nB,nE,nL,nT,nN,iL,iT,iE,iA,iM,iS,iG,iB,iN,iZ,h,hr,e3,Xdh e1]
 ·simp only[go_sem,reduceIte,↓reduceIte,reduceCtorEq,nA,nS,nM,nB,nE,nL,nT,nN,iL,iT,iE,iA,iM,iS,iG,iB,iN,iZ,h,hr,e3,Xdi e1]) (rfl)
@[go_sem] def Xta(a0:Bool)(x0:Int):Xho.F [.fs [.fn 155 [.pr [.b a0],.pr [.i .i64 x0]]]]=some (.i .i64 (QU [(a0,x0)]),[.u]):=Xm3 [(a0,x0)] (by simp)
@[go_sem] def Xtb(a0:Bool)(x0:Int)(a1:Bool)(x1:Int):Xho.F [.fs [.fn 155 [.pr [.b a0],.pr [.i .i64 x0]],.fn 155 [.pr [.b a1],.pr [.i .i64 x1]]]]=some (.i .i64 (QU [(a0,x0),(a1,x1)]),[.u]):=Xm3 [(a0,x0),(a1,x1)] (by simp)
@[go_sem] def Xtc(a0:Bool)(x0:Int)(a1:Bool)(x1:Int)(a2:Bool)(x2:Int):Xho.F [.fs [.fn 155 [.pr [.b a0],.pr [.i .i64 x0]],.fn 155 [.pr [.b a1],.pr [.i .i64 x1]],.fn 155 [.pr [.b a2],.pr [.i .i64 x2]]]]=some (.i .i64 (QU [(a0,x0),(a1,x1),(a2,x2)]),[.u]):=Xm3 [(a0,x0),(a1,x1),(a2,x2)] (by simp)
@[go_sem] def Xtd(a0:Bool)(x0:Int)(a1:Bool)(x1:Int)(a2:Bool)(x2:Int)(a3:Bool)(x3:Int):Xho.F [.fs [.fn 155 [.pr [.b a0],.pr [.i .i64 x0]],.fn 155 [.pr [.b a1],.pr [.i .i64 x1]],.fn 155 [.pr [.b a2],.pr [.i .i64 x2]],.fn 155 [.pr [.b a3],.pr [.i .i64 x3]]]]=some (.i .i64 (QU [(a0,x0),(a1,x1),(a2,x2),(a3,x3)]),[.u]):=Xm3 [(a0,x0),(a1,x1),(a2,x2),(a3,x3)] (by simp)
@[go_sem] def Xte(a0:Bool)(x0:Int)(a1:Bool)(x1:Int)(a2:Bool)(x2:Int)(a3:Bool)(x3:Int)(a4:Bool)(x4:Int):Xho.F [.fs [.fn 155 [.pr [.b a0],.pr [.i .i64 x0]],.fn 155 [.pr [.b a1],.pr [.i .i64 x1]],.fn 155 [.pr [.b a2],.pr [.i .i64 x2]],.fn 155 [.pr [.b a3],.pr [.i .i64 x3]],.fn 155 [.pr [.b a4],.pr [.i .i64 x4]]]]=some (.i .i64 (QU [(a0,x0),(a1,x1),(a2,x2),(a3,x3),(a4,x4)]),[.u]):=Xm3 [(a0,x0),(a1,x1),(a2,x2),(a3,x3),(a4,x4)] (by simp)
@[go_sem] def Xtf(a0:Bool)(x0:Int)(a1:Bool)(x1:Int)(a2:Bool)(x2:Int)(a3:Bool)(x3:Int)(a4:Bool)(x4:Int)(a5:Bool)(x5:Int):Xho.F [.fs [.fn 155 [.pr [.b a0],.pr [.i .i64 x0]],.fn 155 [.pr [.b a1],.pr [.i .i64 x1]],.fn 155 [.pr [.b a2],.pr [.i .i64 x2]],.fn 155 [.pr [.b a3],.pr [.i .i64 x3]],.fn 155 [.pr [.b a4],.pr [.i .i64 x4]],.fn 155 [.pr [.b a5],.pr [.i .i64 x5]]]]=some (.i .i64 (QU [(a0,x0),(a1,x1),(a2,x2),(a3,x3),(a4,x4),(a5,x5)]),[.u]):=Xm3 [(a0,x0),(a1,x1),(a2,x2),(a3,x3),(a4,x4),(a5,x5)] (by simp)
@[go_sem] def Xtg(a0:Bool)(x0:Int)(a1:Bool)(x1:Int)(a2:Bool)(x2:Int)(a3:Bool)(x3:Int)(a4:Bool)(x4:Int)(a5:Bool)(x5:Int)(a6:Bool)(x6:Int):Xho.F [.fs [.fn 155 [.pr [.b a0],.pr [.i .i64 x0]],.fn 155 [.pr [.b a1],.pr [.i .i64 x1]],.fn 155 [.pr [.b a2],.pr [.i .i64 x2]],.fn 155 [.pr [.b a3],.pr [.i .i64 x3]],.fn 155 [.pr [.b a4],.pr [.i .i64 x4]],.fn 155 [.pr [.b a5],.pr [.i .i64 x5]],.fn 155 [.pr [.b a6],.pr [.i .i64 x6]]]]=some (.i .i64 (QU [(a0,x0),(a1,x1),(a2,x2),(a3,x3),(a4,x4),(a5,x5),(a6,x6)]),[.u]):=Xm3 [(a0,x0),(a1,x1),(a2,x2),(a3,x3),(a4,x4),(a5,x5),(a6,x6)] (by simp)
def Xp5:SP Tryz.prog:=mkS tyA 108 Tryz.f108 [] {md:=[.ro 1,.ro 1],wk:=true,rets:=some ([4],[2,3]),fz:=[2,3]} Tryz.func108 (by kernel_rfl)
@[go_sem] def XHn:Xp5.g=108/\Xp5.fs=⟨[.ro 1,.ro 1],Xp5.F,true⟩:=⟨nr rfl,nr rfl⟩
@[go_sem] def XHo(x:Bool)(c:Int):Xp5.F [.b x,.i .i64 c]=some (.fn 155 [.pr [.b x],.pr [.i .i64 c]],[.u,.u]):=Xj (0) rfl rfl (λcx h=>by
 simp only[go_sem,reduceIte,↓reduceIte,reduceCtorEq,nA,nS,nM,nB,nE,nL,nT,nN,iL,iT,iE,iA,iM,iS,iG,iB,iN,iZ,h]) (rfl)
def Xp6:SP Tryz.prog:=mkS tyA 109 Tryz.f109 [s43] {md:=[.ro 1],rets:=some ([2],[])} Tryz.func109 (by kernel_rfl)
@[go_sem] def XHp:Xp6.g=109/\Xp6.fs=⟨[.ro 1],Xp6.F,false⟩:=⟨nr rfl,nr rfl⟩
@[go_sem] def XHq(a:Int):Xp6.F [.i .i64 a]=some (.b (QL a),[.u]):=Xj (0) rfl rfl (λcx h=>by
 simp only[go_sem,reduceIte,↓reduceIte,reduceCtorEq,nA,nS,nM,nB,nE,nL,nT,nN,iL,iT,iE,iA,iM,iS,iG,iB,iN,iZ,h,QL]) (rfl)
@[go_sem] def Xth(w15 w16 w17:ByteArray)(w18:List Xg)(h0:Qq (Request.mk w15 w16 w17 w18)):Xo1.F [.agg [.s w15,.s w16,.s w17,.sl .ro 2 (w18.map (Xb .ro))],.agg [.s ⟨#[]⟩,.s ⟨#[]⟩,.s ⟨#[]⟩,.sl .ro 2 []]]=some (.b (Xv (Request.mk w15 w16 w17 w18)),[.u,.u]):=(Xtz w15 w16 w17 w18 ⟨#[]⟩ ⟨#[]⟩ ⟨#[]⟩ [] h0).trans (by rw[Xhl])
@[go_sem] def Xti(w19:Int)(w18:List Xg)(w20:List UInt8)(h0:ZR (Response.mk w19 w18 w20)):Xo2.F [.agg [.i .i64 w19,.sl .ro 2 (w18.map (Xb .ro)),.sl .ro 1 (w20.map XE)],.agg [.i .i64 0,.sl .ro 2 [],.sl .ro 1 []]]=some (.b (Xw (Response.mk w19 w18 w20)),[.u,.u]):=(XtA w19 w18 w20 0 [] [] h0).trans (by rw[Xhm])
@[go_sem] def XrO(w4 eId w5:Int)(w6 w7 w8:ByteArray)(w9:List Xg)(w10:Int)(w11:List Xg)(w12:List UInt8)(w13:ByteArray)(w14 q1 q2 q3:Bool)(x1 x2 x3:Int)(h0:smL Ye w9):Xho.F [.fs [.fn 155 [.pr [.b q1],.pr [.i .i64 x1]],.fn 155 [.pr [.b q2],.pr [.i .i64 x2]],.fn 110 [.pr [.i .i64 w4,.i .i64 eId,.i .i64 w5,.s w6,.s w7,.s w8,.sl .ro 2 (w9.map (Xb .ro)),.i .i64 w10,.sl .ro 2 (w11.map (Xb .ro)),.sl .ro 1 (w12.map XE),.s w13,.b w14]],.fn 155 [.pr [.b q3],.pr [.i .i64 x3]]]]=some (.i .i64 (Xab [(if q1=true then x1 else 0),(if q2=true then x2 else 0),Zo (Event.mk w4 eId w5 (Request.mk w6 w7 w8 w9) (Response.mk w10 w11 w12) w13 w14),(if q3=true then x3 else 0)]),[.u]):=Xj (5) rfl rfl (λcx h=>by
 have hH:=h0
 by_cases z0:(if q1=true then x1 else 0)=0
 rotate_left
 ·have y0:((if q1=true then x1 else 0) !=0)=true:=by simpa using z0
  simp only[go_sem,reduceIte,↓reduceIte,reduceCtorEq,nA,nS,nM,nB,nE,nL,nT,nN,iL,iT,iE,iA,iM,iS,iG,iB,iN,iZ,h,hH,y0,Xh,XoI,XfC,Xfu,Xfv,Xfw,Xfx,Xfy,Xfz,XfA,XfB,XcE,XcF,XcG,XcH,XcI,XcJ,XcK]
 have y0:((if q1=true then x1 else 0) !=0)=false:=by simpa using z0
 by_cases z1:(if q2=true then x2 else 0)=0
 rotate_left
 ·have y1:((if q2=true then x2 else 0) !=0)=true:=by simpa using z1
  simp only[go_sem,reduceIte,↓reduceIte,reduceCtorEq,nA,nS,nM,nB,nE,nL,nT,nN,iL,iT,iE,iA,iM,iS,iG,iB,iN,iZ,h,hH,y0,y1,Xh,XoI,XfC,Xfu,Xfv,Xfw,Xfx,Xfy,Xfz,XfA,XfB,XcE,XcF,XcG,XcH,XcI,XcJ,XcK]
 have y1:((if q2=true then x2 else 0) !=0)=false:=by simpa using z1
 by_cases z2:Zo (Event.mk w4 eId w5 (Request.mk w6 w7 w8 w9) (Response.mk w10 w11 w12) w13 w14)=0
 rotate_left
 ·have y2:(Zo (Event.mk w4 eId w5 (Request.mk w6 w7 w8 w9) (Response.mk w10 w11 w12) w13 w14) !=0)=true:=by simpa using z2
  simp only[go_sem,reduceIte,↓reduceIte,reduceCtorEq,nA,nS,nM,nB,nE,nL,nT,nN,iL,iT,iE,iA,iM,iS,iG,iB,iN,iZ,h,hH,y0,y1,y2,Xh,XoI,XfC,Xfu,Xfv,Xfw,Xfx,Xfy,Xfz,XfA,XfB,XcE,XcF,XcG,XcH,XcI,XcJ,XcK]
 have y2:(Zo (Event.mk w4 eId w5 (Request.mk w6 w7 w8 w9) (Response.mk w10 w11 w12) w13 w14) !=0)=false:=by simpa using z2
 by_cases z3:(if q3=true then x3 else 0)=0
 rotate_left
 ·have y3:((if q3=true then x3 else 0) !=0)=true:=by simpa using z3
  simp only[go_sem,reduceIte,↓reduceIte,reduceCtorEq,nA,nS,nM,nB,nE,nL,nT,nN,iL,iT,iE,iA,iM,iS,iG,iB,iN,iZ,h,hH,y0,y1,y2,y3,Xh,XoI,XfC,Xfu,Xfv,Xfw,Xfx,Xfy,Xfz,XfA,XfB,XcE,XcF,XcG,XcH,XcI,XcJ,XcK]
 have y3:((if q3=true then x3 else 0) !=0)=false:=by simpa using z3
 simp only[go_sem,reduceIte,↓reduceIte,reduceCtorEq,nA,nS,nM,nB,nE,nL,nT,nN,iL,iT,iE,iA,iM,iS,iG,iB,iN,iZ,h,hH,y0,y1,y2,y3,Xh,Xx,XoI,XfC,Xfu,Xfv,Xfw,Xfx,Xfy,Xfz,XfA,XfB,XcE,XcF,XcG,XcH,XcI,XcJ,XcK]) (rfl)
def s59:SP Tryz.prog:=mkS tyA 59 Tryz.f59 [s43,Xj7,Xo1,Xo2,Xho,Xp5,Xp6] {md:=[.ro 1],rg:=[(0,[1],[1]),(1,[1,3,4],[1]),(2,[1,3,4,5,6],[1]),(3,[1,3,4,5,6,7,8],[1]),(4,[1,9],[1]),(5,[2],[])],rets:=some ([2],[]),plan:=[(1,(.take 0 (.take 1 (.take 2 (.take 3 (.take 4 (.take 5 (.take 9 (.take 10 (.take 11 (.one 6 (.one 7 (.take 8 (.take 12 (.take 13 (.take 14 (.take 15 (.take 16 (.one 17 (.one 18 .done)))))))))))))))))))),(2,(.take 0 (.take 1 (.take 2 (.take 9 (.take 10 (.take 11 (.one 3 (.take 4 (.take 5 (.take 6 (.take 7 (.take 8 (.one 12 (.take 13 (.take 14 (.take 15 (.take 16 (.take 17 (.one 18 (.one 19 .done))))))))))))))))))))),(3,(.take 0 (.take 1 (.take 2 (.take 3 (.take 4 (.take 5 (.take 9 (.take 10 (.take 11 (.one 6 (.one 7 (.take 8 (.take 12 (.take 13 (.take 14 (.one 15 (.one 16 (.take 17 (.one 18 (.one 19 .done))))))))))))))))))))),(5,(.take 0 (.take 1 (.take 3 (.take 4 (.take 14 (.take 15 (.take 16 (.take 17 (.take 18 (.one 2 (.one 5 (.take 6 (.take 7 (.take 8 (.take 9 (.one 10 (.take 11 (.take 12 (.one 13 (.one 19 (.one 20 (.one 21 (.one 22 .done))))))))))))))))))))))))],fz:=[1]} Tryz.func59 (by kernel_rfl)
@[go_sem] def d59:s59.g=59/\s59.fs=⟨[.ro 1],s59.F,false⟩:=⟨nr rfl,nr rfl⟩
@[go_sem] def e59(w4 eId w5:Int)(w6 w7 w8:ByteArray)(w9:List Xg)(w10:Int)(w11:List Xg)(w12:List UInt8)(w13:ByteArray)(w14:Bool)(h0:smL Ye w9/\Qq (Request.mk w6 w7 w8 w9)/\ZR (Response.mk w10 w11 w12)):s59.F [.agg [.i .i64 w4,.i .i64 eId,.i .i64 w5,.s w6,.s w7,.s w8,.sl .ro 2 (w9.map (Xb .ro)),.i .i64 w10,.sl .ro 2 (w11.map (Xb .ro)),.sl .ro 1 (w12.map XE),.s w13,.b w14]]=some (.i .i64 (Yf (Event.mk w4 eId w5 (Request.mk w6 w7 w8 w9) (Response.mk w10 w11 w12) w13 w14)),[.u]):=Xj (0) rfl rfl (λcx h=>by
 obtain⟨hH,hq,hs⟩:=h0
 have g1:=Xer Tryz.f59 1 _ _ rfl rfl
 have g2:=Xer Tryz.f59 2 _ _ rfl rfl
 have g3:=Xer Tryz.f59 3 _ _ rfl rfl
 have g4:=Xer Tryz.f59 4 _ _ rfl rfl
 have r1:Xq cx 0 (Xpn Tryz.f59 1) ⟨E [(1,.pr [.i .i64 w4,.i .i64 eId,.i .i64 w5,.s w6,.s w7,.s w8,.sl .ro 2 (w9.map (Xb .ro)),.i .i64 w10,.sl .ro 2 (w11.map (Xb .ro)),.sl .ro 1 (w12.map XE),.s w13,.b w14])],B [(1,[])]⟩=some (.nor,⟨E [(1,.pr [.i .i64 w4,.i .i64 eId,.i .i64 w5,.s w6,.s w7,.s w8,.sl .ro 2 (w9.map (Xb .ro)),.i .i64 w10,.sl .ro 2 (w11.map (Xb .ro)),.sl .ro 1 (w12.map XE),.s w13,.b w14]),(3,.b ((eId==0)||YC w4 [1,2,3,4])),(4,.b ((w5==0)||(w4==1)))],B [(1,[])]⟩):=by
  rw[g1]
  cases h1:eId==0<;>cases h2:YC w4 [1,2,3,4]<;>cases h3:w5==0<;>cases h4:w4==1<;>simp only[go_sem,reduceIte,↓reduceIte,reduceCtorEq,nA,nS,nM,nB,nE,nL,nT,nN,iL,iT,iE,iA,iM,iS,iG,iB,iN,iZ,h,h1,h2,h3,h4]
 have r2:∀a1 a2:Bool,Xq cx 0 (Xpn Tryz.f59 2) ⟨E [(1,.pr [.i .i64 w4,.i .i64 eId,.i .i64 w5,.s w6,.s w7,.s w8,.sl .ro 2 (w9.map (Xb .ro)),.i .i64 w10,.sl .ro 2 (w11.map (Xb .ro)),.sl .ro 1 (w12.map XE),.s w13,.b w14]),(3,.b a1),(4,.b a2)],B [(1,[])]⟩=some (.nor,⟨E [(1,.pr [.i .i64 w4,.i .i64 eId,.i .i64 w5,.s w6,.s w7,.s w8,.sl .ro 2 (w9.map (Xb .ro)),.i .i64 w10,.sl .ro 2 (w11.map (Xb .ro)),.sl .ro 1 (w12.map XE),.s w13,.b w14]),(3,.b a1),(4,.b a2),(5,.b (Xv (Request.mk w6 w7 w8 w9)||(w4==1))),(6,.b (Xw (Response.mk w10 w11 w12)||(w4==2)))],B [(1,[])]⟩):=λa1 a2=>by
  rw[g2]
  cases h1:Xv (Request.mk w6 w7 w8 w9)<;>cases h2:Xw (Response.mk w10 w11 w12)<;>cases h3:w4==1<;>cases h4:w4==2<;>simp only[go_sem,reduceIte,↓reduceIte,reduceCtorEq,nA,nS,nM,nB,nE,nL,nT,nN,iL,iT,iE,iA,iM,iS,iG,iB,iN,iZ,h,h1,h2,h3,h4,hq,hs]
 have r3:∀a1 a2 a3 a4:Bool,Xq cx 0 (Xpn Tryz.f59 3) ⟨E [(1,.pr [.i .i64 w4,.i .i64 eId,.i .i64 w5,.s w6,.s w7,.s w8,.sl .ro 2 (w9.map (Xb .ro)),.i .i64 w10,.sl .ro 2 (w11.map (Xb .ro)),.sl .ro 1 (w12.map XE),.s w13,.b w14]),(3,.b a1),(4,.b a2),(5,.b a3),(6,.b a4)],B [(1,[])]⟩=some (.nor,⟨E [(1,.pr [.i .i64 w4,.i .i64 eId,.i .i64 w5,.s w6,.s w7,.s w8,.sl .ro 2 (w9.map (Xb .ro)),.i .i64 w10,.sl .ro 2 (w11.map (Xb .ro)),.sl .ro 1 (w12.map XE),.s w13,.b w14]),(3,.b a1),(4,.b a2),(5,.b a3),(6,.b a4),(7,.b (eqv w13 ⟨#[]⟩||YC w4 [5,6])),(8,.b (!w14||YC w4 [5,6,7]))],B [(1,[])]⟩):=λa1 a2 a3 a4=>by
  rw[g3]
  cases h1:eqv w13 ⟨#[]⟩<;>cases h2:YC w4 [5,6]<;>cases h3:w14<;>cases h4:YC w4 [5,6,7]<;>simp only[go_sem,reduceIte,↓reduceIte,reduceCtorEq,nA,nS,nM,nB,nE,nL,nT,nN,iL,iT,iE,iA,iM,iS,iG,iB,iN,iZ,h,h1,h2,h3,h4,Xa]
 have r4:∀a1 a2 a3 a4 a5 a6:Bool,Xq cx 0 (Xpn Tryz.f59 4) ⟨E [(1,.pr [.i .i64 w4,.i .i64 eId,.i .i64 w5,.s w6,.s w7,.s w8,.sl .ro 2 (w9.map (Xb .ro)),.i .i64 w10,.sl .ro 2 (w11.map (Xb .ro)),.sl .ro 1 (w12.map XE),.s w13,.b w14]),(3,.b a1),(4,.b a2),(5,.b a3),(6,.b a4),(7,.b a5),(8,.b a6)],B [(1,[])]⟩=some (.nor,⟨E [(1,.pr [.i .i64 w4,.i .i64 eId,.i .i64 w5,.s w6,.s w7,.s w8,.sl .ro 2 (w9.map (Xb .ro)),.i .i64 w10,.sl .ro 2 (w11.map (Xb .ro)),.sl .ro 1 (w12.map XE),.s w13,.b w14]),(9,.b (within w4 1 7&&a1&&a2&&a3&&a4&&a5&&a6))],B [(1,[])]⟩):=λa1 a2 a3 a4 a5 a6=>by
  rw[g4]
  cases h1:within w4 1 7
  ·simp only[go_sem,reduceIte,↓reduceIte,reduceCtorEq,nA,nS,nM,nB,nE,nL,nT,nN,iL,iT,iE,iA,iM,iS,iG,iB,iN,iZ,h,h1]
  cases a1
  ·simp only[go_sem,reduceIte,↓reduceIte,reduceCtorEq,nA,nS,nM,nB,nE,nL,nT,nN,iL,iT,iE,iA,iM,iS,iG,iB,iN,iZ,h,h1]
  cases a2
  ·simp only[go_sem,reduceIte,↓reduceIte,reduceCtorEq,nA,nS,nM,nB,nE,nL,nT,nN,iL,iT,iE,iA,iM,iS,iG,iB,iN,iZ,h,h1]
  cases a3
  ·simp only[go_sem,reduceIte,↓reduceIte,reduceCtorEq,nA,nS,nM,nB,nE,nL,nT,nN,iL,iT,iE,iA,iM,iS,iG,iB,iN,iZ,h,h1]
  cases a4
  ·simp only[go_sem,reduceIte,↓reduceIte,reduceCtorEq,nA,nS,nM,nB,nE,nL,nT,nN,iL,iT,iE,iA,iM,iS,iG,iB,iN,iZ,h,h1]
  cases a5
  ·simp only[go_sem,reduceIte,↓reduceIte,reduceCtorEq,nA,nS,nM,nB,nE,nL,nT,nN,iL,iT,iE,iA,iM,iS,iG,iB,iN,iZ,h,h1]
  cases a6<;>simp only[go_sem,reduceIte,↓reduceIte,reduceCtorEq,nA,nS,nM,nB,nE,nL,nT,nN,iL,iT,iE,iA,iM,iS,iG,iB,iN,iZ,h,h1]
 have hu:Yf (Event.mk w4 eId w5 (Request.mk w6 w7 w8 w9) (Response.mk w10 w11 w12) w13 w14)=Xab [if(!(within w4 1 7&&((eId==0)||YC w4 [1,2,3,4])&&((w5==0)||(w4==1))&&(Xv (Request.mk w6 w7 w8 w9)||(w4==1))&&(Xw (Response.mk w10 w11 w12)||(w4==2))&&(eqv w13 ⟨#[]⟩||YC w4 [5,6])&&(!w14||YC w4 [5,6,7])))=true then 1 else 0,if(!(QL eId&&within w5 0 999))=true then 3 else 0,Zo (Event.mk w4 eId w5 (Request.mk w6 w7 w8 w9) (Response.mk w10 w11 w12) w13 w14),if decide (500<(w13.size:Int))=true then 2 else 0]:=rfl
 generalize hk:Zo (Event.mk w4 eId w5 (Request.mk w6 w7 w8 w9) (Response.mk w10 w11 w12) w13 w14)=K at hu
 rw[<-g1,<-g2,<-g3,<-g4]
 cases t1:QL eId
 ·simp only[go_sem,reduceIte,↓reduceIte,reduceCtorEq,nA,nS,nM,nB,nE,nL,nT,nN,iL,iT,iE,iA,iM,iS,iG,iB,iN,iZ,h,hH,hk,r1,r2,r3,r4,t1,hu]
 cases t2:within w5 0 999<;>simp only[go_sem,reduceIte,↓reduceIte,reduceCtorEq,nA,nS,nM,nB,nE,nL,nT,nN,iL,iT,iE,iA,iM,iS,iG,iB,iN,iZ,h,hH,hk,r1,r2,r3,r4,t1,t2,hu]) (rfl)
end
end Go.Vm.A
