/- Functions of the program, walked by the evaluator. -/
import Derived.Test.YtbgfaonlbpkfhaaGreatDoorWb
import Derived.Test.YtbgfaonlbpkfhaaGreatDoorWa
import Derived.Test.YtbgfaonlbpkfhaaGreatDoorFa
set_option linter.unusedVariables false
set_option linter.unusedSimpArgs false
set_option autoImplicit false
set_option maxRecDepth 100000
set_option maxHeartbeats 4000000
set_option linter.defProp false
namespace Go.Vm.A
open Go.Proofs
open Nat renaming reduceAdd -> nA, reduceSub -> nS, reduceMul -> nM, reduceBEq -> nB, reduceEqDiff -> nE, reduceLeDiff -> nL, reduceLT -> nT, reduceBneDiff -> nN
open Int renaming reduceLE -> iL, reduceLT -> iT, reduceEq -> iE, reduceAdd -> iA, reduceMul -> iM, reduceSub -> iS, reduceNeg -> iG, reduceBEq -> iB, reduceBNe -> iN, reduceToNat -> iZ
noncomputable section
def Xib(c:UInt8):Bool:=Q0 c||Q9 c||((c.toNat:Int)==46)||((c.toNat:Int)==45)
def Xic:List UInt8:=[47,63,61,38,58,64,44,59,40,41]
def Xid(c:UInt8):Bool:=Xae c||Xic.contains c
def XjS(c:UInt8):decide (0<=ixB ⟨#[47,63,61,38,58,64,44,59,40,41]⟩ c)=Xic.contains c:=Xh7 Xic c
@[go_sem] def Xl7(xs:List UInt8):xs.map XbC=xs.map YL:=nr rfl
def okN(n:ByteArray):Bool:=decide (n.size<=9223372036854775806)
def Xaf{α:Type}(xs:List α)(k:Nat)(h:k<xs.length):xs.take (k+1)=xs.take k++[xs[k]]:=by
 rw[List.take_add_one,List.getElem?_eq_getElem h]; rfl
def runS_any{α:Type}{p:α->Bool}:∀{xs:List α} {u u':Unit},Xad (λx _=>p x) (λ_ _=>()) xs u=.inl u'->xs.any p=false
 | [],_,_,_=>rfl
 | x :: xs,u,u',h=>by
  rw[YO] at h
  split at h
  ·cases h
  ·rename_i hc
   simp only[List.any_cons,runS_any h,Bool.or_false]
   simpa using hc
def Xcx{α:Type}{p:α->Bool}:∀{xs:List α} {u:Unit} {q:α×Unit},Xad (λx _=>p x) (λ_ _=>()) xs u=.inr q->xs.any p=true
 | [],_,_,h=>by cases h
 | x :: xs,u,q,h=>by
  rw[YO] at h
  split at h
  ·rename_i hc; simp[hc]
  ·simp only[List.any_cons,Xcx h,Bool.or_true]
def YN(xs:List ByteArray):Int:=if 4<(xs.length:Int) then 2 else if(xs.any λx=>!Ua x)=true then 5 else 0
def XfJ{α:Type}(p:α->Bool):∀xs:List α,(xs.any λx=>!p x)=!xs.all p
 | []=>rfl
 | x :: xs=>by rw[List.any_cons,List.all_cons,XfJ p xs]; cases p x<;>rfl
def XeG(t:ByteArray):Bool:=decide (1<=(t.size:Int))&&decide ((t.size:Int)<=500)
def Xcy(s:Int):Bool:=s !=200&&s !=404&&s !=410
def Xi(e:XM):Int :=
 if XeG e.Key=false then 2 else if(Xcy e.Status||!within e.Pins 0 20)=true then 3 else if(Xq e.Headers !=0)=true then Xq e.Headers
 else if(decide (2000<(e.Body.length:Int))||decide (10<(e.Tags.length:Int)))=true then 2 else Ut e.Meta
def XgE{s:Int}(h:Xcy s=false):s=200\/(s≠200/\s=404)\/(s≠200/\s≠404/\s=410):=by
 unfold Xcy at h
 simp only[Bool.and_eq_false_iff,bne_eq_false_iff_eq] at h
 omega
def XoS:SP Tryz.prog:=mkS tyA 112 Tryz.f112 [s86,XoQ,XoR] {md:=[.ro 1],rg:=[(0,[1],[1]),(1,[1,13],[1]),(2,[2],[]),(3,[1,32],[1]),(4,[2],[]),(5,[1,3],[1]),(6,[1,3,37],[1]),(7,[2],[]),(8,[1,48],[1]),(9,[2],[]),(10,[2],[])],rets:=some ([2],[])} Tryz.func112 (by kernel_rfl)
@[go_sem] def XFp:XoS.g=112/\XoS.fs=⟨[.ro 1],XoS.F,false⟩:=⟨nr rfl,nr rfl⟩
@[go_sem] def XFq(y0:ByteArray)(y1:Int)(y2:List XL)(y3:List UInt8)(y4 y5 y6 y7 y8:Int)(y9 y10:Bool)(y11:List ByteArray)(y12:Int)(h0:smL Yv (XM.mk y0 y1 y2 y3 (Meta.mk y4 y5 y6 y7 y8 y9 y10) y11 y12).Headers):XoS.F [.agg [.s y0,.i .i64 y1,.sl .ro 2 (y2.map (Xl .ro)),.sl .ro 1 (y3.map YL),.i .i64 y4,.i .i64 y5,.i .i64 y6,.i .i64 y7,.i .i64 y8,.b y9,.b y10,.sl .ro 1 (y11.map Yf),.i .i64 y12]]=some (.i .i64 (Xi (XM.mk y0 y1 y2 y3 (Meta.mk y4 y5 y6 y7 y8 y9 y10) y11 y12)),[.u]):=Xd (0) rfl rfl (λcx h=>by
 have hku:XeG y0=(decide (1<=(y0.size:Int))&&decide ((y0.size:Int)<=500)):=rfl
 by_cases k1:(y0.size:Int)<1
 ·have hk:XeG y0=false:=by rw[hku]; simp; omega
  simp only[go_sem,reduceIte,↓reduceIte,reduceCtorEq,nA,nS,nM,nB,nE,nL,nT,nN,iL,iT,iE,iA,iM,iS,iG,iB,iN,iZ,h,k1,hk,Xi]
 by_cases k2:500<(y0.size:Int)
 ·have hk:XeG y0=false:=by rw[hku]; simp; omega
  simp only[go_sem,reduceIte,↓reduceIte,reduceCtorEq,nA,nS,nM,nB,nE,nL,nT,nN,iL,iT,iE,iA,iM,iS,iG,iB,iN,iZ,h,k1,k2,hk,Xi]
 have hk:XeG y0=true:=by rw[hku]; simp; omega
 cases hp:Xcy y1
 rotate_left
 ·have hp':=hp
  unfold Xcy at hp'
  simp only[Bool.and_eq_true] at hp'
  obtain⟨⟨s1,s2⟩,s3⟩:=hp'
  simp only[go_sem,reduceIte,↓reduceIte,reduceCtorEq,nA,nS,nM,nB,nE,nL,nT,nN,iL,iT,iE,iA,iM,iS,iG,iB,iN,iZ,h,k1,k2,hk,Xi,hp,s1,s2,s3]
 rcases XgE hp with rfl | ⟨s1,rfl⟩ | ⟨s1,s2,rfl⟩
 ·cases w1:within y12 0 20
  ·simp only[go_sem,reduceIte,↓reduceIte,reduceCtorEq,nA,nS,nM,nB,nE,nL,nT,nN,iL,iT,iE,iA,iM,iS,iG,iB,iN,iZ,h,k1,k2,hk,Xi,hp,w1]
  by_cases z:Xq y2=0
  rotate_left
  ·have z':(Xq y2 !=0)=true:=by simpa using z
   simp only[go_sem,reduceIte,↓reduceIte,reduceCtorEq,nA,nS,nM,nB,nE,nL,nT,nN,iL,iT,iE,iA,iM,iS,iG,iB,iN,iZ,h,k1,k2,hk,Xi,hp,w1,z']
  have z':(Xq y2 !=0)=false:=by simpa using z
  by_cases b1:2000<(y3.length:Int)
  ·simp only[go_sem,reduceIte,↓reduceIte,reduceCtorEq,nA,nS,nM,nB,nE,nL,nT,nN,iL,iT,iE,iA,iM,iS,iG,iB,iN,iZ,h,k1,k2,hk,Xi,hp,w1,z,b1]
  by_cases b2:10<(y11.length:Int)
  ·simp only[go_sem,reduceIte,↓reduceIte,reduceCtorEq,nA,nS,nM,nB,nE,nL,nT,nN,iL,iT,iE,iA,iM,iS,iG,iB,iN,iZ,h,k1,k2,hk,Xi,hp,w1,z,b1,b2]
  simp only[go_sem,reduceIte,↓reduceIte,reduceCtorEq,nA,nS,nM,nB,nE,nL,nT,nN,iL,iT,iE,iA,iM,iS,iG,iB,iN,iZ,h,k1,k2,hk,Xi,hp,w1,z,b1,b2]
 ·cases w1:within y12 0 20
  ·simp only[go_sem,reduceIte,↓reduceIte,reduceCtorEq,nA,nS,nM,nB,nE,nL,nT,nN,iL,iT,iE,iA,iM,iS,iG,iB,iN,iZ,h,k1,k2,hk,Xi,hp,w1]
  by_cases z:Xq y2=0
  rotate_left
  ·have z':(Xq y2 !=0)=true:=by simpa using z
   simp only[go_sem,reduceIte,↓reduceIte,reduceCtorEq,nA,nS,nM,nB,nE,nL,nT,nN,iL,iT,iE,iA,iM,iS,iG,iB,iN,iZ,h,k1,k2,hk,Xi,hp,w1,z']
  have z':(Xq y2 !=0)=false:=by simpa using z
  by_cases b1:2000<(y3.length:Int)
  ·simp only[go_sem,reduceIte,↓reduceIte,reduceCtorEq,nA,nS,nM,nB,nE,nL,nT,nN,iL,iT,iE,iA,iM,iS,iG,iB,iN,iZ,h,k1,k2,hk,Xi,hp,w1,z,b1]
  by_cases b2:10<(y11.length:Int)
  ·simp only[go_sem,reduceIte,↓reduceIte,reduceCtorEq,nA,nS,nM,nB,nE,nL,nT,nN,iL,iT,iE,iA,iM,iS,iG,iB,iN,iZ,h,k1,k2,hk,Xi,hp,w1,z,b1,b2]
  simp only[go_sem,reduceIte,↓reduceIte,reduceCtorEq,nA,nS,nM,nB,nE,nL,nT,nN,iL,iT,iE,iA,iM,iS,iG,iB,iN,iZ,h,k1,k2,hk,Xi,hp,w1,z,b1,b2]
 ·cases w1:within y12 0 20
  ·simp only[go_sem,reduceIte,↓reduceIte,reduceCtorEq,nA,nS,nM,nB,nE,nL,nT,nN,iL,iT,iE,iA,iM,iS,iG,iB,iN,iZ,h,k1,k2,hk,Xi,hp,w1]
  by_cases z:Xq y2=0
  rotate_left
  ·have z':(Xq y2 !=0)=true:=by simpa using z
   simp only[go_sem,reduceIte,↓reduceIte,reduceCtorEq,nA,nS,nM,nB,nE,nL,nT,nN,iL,iT,iE,iA,iM,iS,iG,iB,iN,iZ,h,k1,k2,hk,Xi,hp,w1,z']
  have z':(Xq y2 !=0)=false:=by simpa using z
  by_cases b1:2000<(y3.length:Int)
  ·simp only[go_sem,reduceIte,↓reduceIte,reduceCtorEq,nA,nS,nM,nB,nE,nL,nT,nN,iL,iT,iE,iA,iM,iS,iG,iB,iN,iZ,h,k1,k2,hk,Xi,hp,w1,z,b1]
  by_cases b2:10<(y11.length:Int)
  ·simp only[go_sem,reduceIte,↓reduceIte,reduceCtorEq,nA,nS,nM,nB,nE,nL,nT,nN,iL,iT,iE,iA,iM,iS,iG,iB,iN,iZ,h,k1,k2,hk,Xi,hp,w1,z,b1,b2]
  simp only[go_sem,reduceIte,↓reduceIte,reduceCtorEq,nA,nS,nM,nB,nE,nL,nT,nN,iL,iT,iE,iA,iM,iS,iG,iB,iN,iZ,h,k1,k2,hk,Xi,hp,w1,z,b1,b2]) (rfl)
def UE(hs:List XL):ByteArray:=Xfu (hs.map λx=>(x.Name,x.Value))
def Xie{hs:List XL}(h:smL Yv hs):Xd2 (hs.map λx=>(x.Name,x.Value))=true:=by
 simp only[Xd2,Bool.and_eq_true,decide_eq_true_eq,List.all_eq_true,List.length_map,List.mem_map]
 refine⟨h.1,?_⟩
 rintro p ⟨x,hx,rfl⟩
 exact h.2 x hx
def XbA(hs:List XL):Int:=(UE hs).size
def Xg6(hs:List (ByteArray×ByteArray)):(Xfu hs).size=(packL hs).length:=by
 show(packL hs).toArray.size=_
 simp
def XbB{hs:List XL}(h:smL Yv hs):0<=XbA hs/\XbA hs<=2199028498432:=by
 have h1:=packL_len (hs.map λx=>(x.Name,x.Value)) (by rintro p hp; obtain⟨x,hx,rfl⟩:=List.mem_map.1 hp; exact h.2 x hx)
 have h2:=h.1
 rw[List.length_map] at h1
 unfold XbA UE
 rw[Xg6]
 omega
def Ub(s:ByteArray)(x:XL):ByteArray:=s++x.Name++⟨#[58,32]⟩++x.Value++⟨#[13,10]⟩
def XjT(a b:ByteArray):(a++b).data.toList=a.data.toList++b.data.toList:=by simp[ByteArray.data_append]
def XgF:∀(hs:List XL) (s:ByteArray),(hs.foldl (λs x=>Ub s x) s).data.toList=s.data.toList++packL (hs.map λx=>(x.Name,x.Value))
 | [],s=>by simp[packL]
 | x :: hs,s=>by
  rw[List.foldl_cons,XgF hs]
  simp only[Ub,packL,List.map_cons,List.flatMap_cons,lineB,XjT,List.append_assoc]
def ba_ext{a b:ByteArray}(h:a.data.toList=b.data.toList):a=b:=by
 cases a; cases b
 congr 1
 exact Array.ext' h
def Xif(hs:List XL):hs.foldl (λs x=>Ub s x) ⟨#[]⟩=UE hs:=by
 apply ba_ext
 rw[XgF]
 simp[UE,Xfu]
def Xd4(s:ByteArray)(x:XL):(Ub s x).size=s.size+x.Name.size+2+x.Value.size+2:=by
 simp only[Ub,ByteArray.size_append]
 rfl
def XoT:SP Tryz.prog:=mkS tyA 235 Tryz.f235 [] {md:=[.ro 1],rg:=[(0,[0],[]),(1,[0,3],[]),(2,[0,3,4],[]),(3,[0,3,4,8],[]),(4,[0,3,4],[]),(5,[0,3,4],[]),(6,[2],[])],lv:=[(0,[0,3,4],[])],out:=[(0,[3],[])],rets:=some ([2],[]),plan:=[(5,(.take 0 (.take 1 (.take 2 (.take 3 (.take 4 (.take 5 (.take 6 (.take 7 (.take 8 (.take 9 (.take 10 (.take 11 (.take 12 (.take 13 (.take 14 (.one 15 .done)))))))))))))))))]} Tryz.func235 (by kernel_rfl)
@[go_sem] def XFr:XoT.g=235/\XoT.fs=⟨[.ro 1],XoT.F,false⟩:=⟨nr rfl,nr rfl⟩
@[go_sem] def XFs(hs:List XL)(h0:smL Yv hs):XoT.F [.sl .ro 2 (hs.map (Xl .ro))]=some (.s (UE hs),[.u]):=Xd (hs.length+1) rfl rfl (λcx h=>by
 have hx:=h0.1
 have hb0:=Xn Tryz.f235 0 _ _ rfl rfl
 obtain⟨hI,hr⟩:=XY (cx:=cx) (blk:=0) (body:=Yl Tryz.f235 0) hs (λk (s:ByteArray)=>⟨E [(0,.sl .ro 2 (hs.map (Xl .ro))),(3,.s s),(4,.i .i64 k)],B []⟩) (λs=>⟨E [(3,.s s)],B []⟩) (λx s=>Ub s x) (λk s=>s.size<=k*2097156)
   (λs hI G=>by simp only[go_sem,reduceIte,↓reduceIte,reduceCtorEq,nA,nS,nM,nB,nE,nL,nT,nN,iL,iT,iE,iA,iM,iS,iG,iB,iN,iZ,h,Int.lt_irrefl,hb0,h0.1]) (λk hk s hI=>by
    have h1:((k:Int)<(hs.length:Int)):=Int.ofNat_lt.2 hk
    obtain⟨u1,u2⟩:=h0.2 _ (List.getElem_mem hk)
    have u1':hs[k].Name.size<=1048576:=u1
    have u2':hs[k].Value.size<=1048576:=u2
    have hz:=Xd4 s hs[k]
    have hJ:(Ub s hs[k]).size<=(k+1)*2097156:=by rw[hz,Nat.succ_mul]; omega
    have e0:(⟨#[58,32]⟩:ByteArray).size=2:=rfl
    have e0':(⟨#[13,10]⟩:ByteArray).size=2:=rfl
    have hl:k*2097156<=1048576*2097156:=Nat.mul_le_mul_right _ (by omega)
    have e1:s.size+hs[k].Name.size<=9223372036854775807:=by omega
    have e2:s.size+hs[k].Name.size+2<=9223372036854775807:=by omega
    have e3:s.size+hs[k].Name.size+2+hs[k].Value.size<=9223372036854775807:=by omega
    have e4:s.size+hs[k].Name.size+2+hs[k].Value.size+2<=9223372036854775807:=by omega
    exact⟨hJ,_,λG=>by simp only[go_sem,reduceIte,↓reduceIte,reduceCtorEq,nA,nS,nM,nB,nE,nL,nT,nN,iL,iT,iE,iA,iM,iS,iG,iB,iN,iZ,h,e0,e0',e1,e2,e3,e4,XP (Xl .ro) hs k hk,ByteArray.size_append,h1,Xp _ _ hk,Xe (show k<9223372036854775807 by omega),hb0]<;>with_reducible rfl,by simp only[go_sem,reduceIte,↓reduceIte,reduceCtorEq,nA,nS,nM,nB,nE,nL,nT,nN,iL,iT,iE,iA,iM,iS,iG,iB,iN,iZ,h,Ub]⟩) ⟨#[]⟩ (Nat.zero_le _) (hs.length+1) (Nat.le_refl _)
 rw[hb0] at hr
 rw[Xif] at hr
 simp only[go_sem,reduceIte,↓reduceIte,reduceCtorEq,nA,nS,nM,nB,nE,nL,nT,nN,iL,iT,iE,iA,iM,iS,iG,iB,iN,iZ,h,hr]) (rfl)
def Qx(e:XM):Int:=50+((e.Key.size:Int)+((UE e.Headers).size:Int)+(e.Body.length:Int))
def XjU{e:XM}(h1:e.Key.size<=1048576)(h2:smL Yv e.Headers)(h3:e.Body.length<=1048576):50<=Qx e/\Qx e<=2199030595634:=by
 have:=XbB h2
 unfold XbA at this
 unfold Qx
 omega
def Xd5{e:XM}(h:Y0 e):50<=Qx e/\Qx e<=2199030595634:=XjU h.1 h.2.2.1 h.2.2.2.1.1
def ZK(es:List XM):Int:=es.foldl (λs e=>s+Qx e) 0
def Xax:∀(es:List XM) (s:Int),es.foldl (λs e=>s+Qx e) s=s+ZK es
 | [],s=>by simp[ZK]
 | e :: es,s=>by
  unfold ZK
  rw[List.foldl_cons,List.foldl_cons,Xax es,Xax es (0+Qx e)]
  omega
def Xig(a b:List XM):ZK (a++b)=ZK a+ZK b:=by
 unfold ZK
 rw[List.foldl_append,Xax b]
 rfl
def Xd6:∀{es:List XM},(∀e∈es,Y0 e)->0<=ZK es/\ZK es<=es.length*2199030595634
 | [],_=>by simp[ZK]
 | e :: es,h=>by
  have h1:=Xd5 (h e (List.mem_cons_self ..))
  have h2:=Xd6 (es:=es) (λx hx=>h x (List.mem_cons_of_mem _ hx))
  have h3:ZK (e :: es)=Qx e+ZK es:=by
   show(e :: es).foldl _ 0=_
   rw[List.foldl_cons,Xax]; omega
  rw[h3,List.length_cons]
  have h4:((es.length+1:Nat):Int)*2199030595634=(es.length:Int)*2199030595634+2199030595634:=by rw[Int.natCast_add,Int.add_mul]; rfl
  rw[h4]
  omega
def XoU:SP Tryz.prog:=mkS tyA 184 Tryz.f184 [XoT] {md:=[.ro 1],rets:=some ([2],[]),plan:=[(1,(.take 0 (.take 1 (.take 2 (.take 3 (.take 4 (.take 5 (.take 6 (.take 7 (.take 8 (.take 12 (.take 13 (.take 14 (.take 15 (.take 16 (.one 9 (.take 10 (.take 11 (.take 17 (.take 18 (.one 19 .done)))))))))))))))))))))]} Tryz.func184 (by kernel_rfl)
@[go_sem] def XFt:XoU.g=184/\XoU.fs=⟨[.ro 1],XoU.F,false⟩:=⟨nr rfl,nr rfl⟩
@[go_sem] def XFu(y0:ByteArray)(y1:Int)(y2:List XL)(y3:List UInt8)(y4 y5 y6 y7 y8:Int)(y9 y10:Bool)(y11:List ByteArray)(y12:Int)(h0:(smL Yv (XM.mk y0 y1 y2 y3 (Meta.mk y4 y5 y6 y7 y8 y9 y10) y11 y12).Headers/\(XM.mk y0 y1 y2 y3 (Meta.mk y4 y5 y6 y7 y8 y9 y10) y11 y12).Key.size<=1048576/\(XM.mk y0 y1 y2 y3 (Meta.mk y4 y5 y6 y7 y8 y9 y10) y11 y12).Body.length<=1048576)):XoU.F [.pr [.s y0,.i .i64 y1,.sl .ro 2 (y2.map (Xl .ro)),.sl .ro 1 (y3.map YL),.i .i64 y4,.i .i64 y5,.i .i64 y6,.i .i64 y7,.i .i64 y8,.b y9,.b y10,.sl .ro 1 (y11.map Yf),.i .i64 y12]]=some (.i .i64 (Qx (XM.mk y0 y1 y2 y3 (Meta.mk y4 y5 y6 y7 y8 y9 y10) y11 y12)),[.u]):=Xd (0) rfl rfl (λcx h=>by
 obtain⟨g1,g2,g3⟩:=h0
 simp only at g1 g2 g3
 have hp:=XbB g1
 unfold XbA at hp
 have w1:(IntKind.i64).wrap ((y0.size:Int)+((UE y2).size:Int))=(y0.size:Int)+((UE y2).size:Int):=Xc (by omega) (by omega)
 have w2:(IntKind.i64).wrap ((y0.size:Int)+((UE y2).size:Int)+(y3.length:Int))=(y0.size:Int)+((UE y2).size:Int)+(y3.length:Int):=Xc (by omega) (by omega)
 have w3:(IntKind.i64).wrap (50+((y0.size:Int)+((UE y2).size:Int)+(y3.length:Int)))=50+((y0.size:Int)+((UE y2).size:Int)+(y3.length:Int)):=Xc (by omega) (by omega)
 simp only[go_sem,reduceIte,↓reduceIte,reduceCtorEq,nA,nS,nM,nB,nE,nL,nT,nN,iL,iT,iE,iA,iM,iS,iG,iB,iN,iZ,h,g1,w1,w2,w3,Qx]) (rfl)
def Xn1:SP Tryz.prog:=mkS tyA 113 Tryz.f113 [XoU] {md:=[.ro 1],rg:=[(0,[0],[]),(1,[0,3],[]),(2,[0,3,4],[]),(3,[0,3,4,8],[]),(4,[0,3,4],[]),(5,[0,3,4],[]),(6,[2],[])],lv:=[(0,[0,3,4],[])],out:=[(0,[3],[])],rets:=some ([2],[])} Tryz.func113 (by kernel_rfl)
@[go_sem] def XFv:Xn1.g=113/\Xn1.fs=⟨[.ro 1],Xn1.F,false⟩:=⟨nr rfl,nr rfl⟩
@[go_sem] def XsN(xs:List XM)(h0:(xs.length<=2097152/\Xfr Y0 xs)):Xn1.F [.sl .ro 13 (xs.map (Xa .ro))]=some (.i .i64 (ZK xs),[.u]):=Xd (xs.length+1) rfl rfl (λcx h=>by
 have hx:xs.length<=9223372036854775806:=by have:=h0.1; omega
 have hb0:=Xn Tryz.f113 0 _ _ rfl rfl
 obtain⟨hI,hr⟩:=XY (cx:=cx) (blk:=0) (body:=Yl Tryz.f113 0) xs (λk (s:Int)=>⟨E [(0,.sl .ro 13 (xs.map (Xa .ro))),(3,.i .i64 s),(4,.i .i64 k)],B []⟩) (λs=>⟨E [(3,.i .i64 s)],B []⟩) (λx s=>s+Qx x) (λk s=>0<=s/\s<=(k:Int)*2199030595634)
   (λs hI G=>by simp only[go_sem,reduceIte,↓reduceIte,reduceCtorEq,nA,nS,nM,nB,nE,nL,nT,nN,iL,iT,iE,iA,iM,iS,iG,iB,iN,iZ,h,Int.lt_irrefl,hb0,hx]) (λk hk s hI=>by
    have h1:((k:Int)<(xs.length:Int)):=Int.ofNat_lt.2 hk
    obtain⟨i1,i2⟩:=hI
    have hm:=h0.2 _ (List.getElem_mem hk)
    have hc:=Xd5 hm
    have hJ:0<=s+Qx xs[k]/\s+Qx xs[k]<=((k+1:Nat):Int)*2199030595634:=by
     rw[Int.natCast_add,Int.add_mul]; constructor<;>omega
    have hb1:(k:Int)*2199030595634<=2097152*2199030595634:=Int.mul_le_mul_of_nonneg_right (by omega) (by decide)
    have hw:(IntKind.i64).wrap (s+Qx xs[k])=s+Qx xs[k]:=Xc (by omega) (by omega)
    have hm1:=hm.2.2.1
    have hm2:xs[k].Key.size<=1048576:=hm.1
    have hm3:=hm.2.2.2.1.1
    exact⟨hJ,_,λG=>by simp only[go_sem,reduceIte,↓reduceIte,reduceCtorEq,nA,nS,nM,nB,nE,nL,nT,nN,iL,iT,iE,iA,iM,iS,iG,iB,iN,iZ,h,hw,hm1,hm2,hm3,XP (Xa .ro) xs k hk,h1,Xp _ _ hk,Xe (show k<9223372036854775807 by omega),hb0]<;>with_reducible rfl,by simp only[go_sem,reduceIte,↓reduceIte,reduceCtorEq,nA,nS,nM,nB,nE,nL,nT,nN,iL,iT,iE,iA,iM,iS,iG,iB,iN,iZ,h]⟩) 0 (by simp) (xs.length+1) (Nat.le_refl _)
 rw[hb0] at hr
 have hcs:ZK xs=xs.foldl (λs x=>s+Qx x) 0:=rfl
 rw[<-hcs] at hr
 simp only[go_sem,reduceIte,↓reduceIte,reduceCtorEq,nA,nS,nM,nB,nE,nL,nT,nN,iL,iT,iE,iA,iM,iS,iG,iB,iN,iZ,h,hr]) (rfl)
@[go_sem] def Xso:Xn1.F [.sl .ro 13 []]=some (.i .i64 0,[.u]):=XsN [] ⟨Nat.zero_le _,λx hx=>by cases hx⟩
def dup{α:Type}(q:α->α->Bool)(s:List α):List α->Bool
 | []=>false
 | x :: r=>if(s.any λy=>q y x)=true then true else dup q (s++[x]) r
def XfK{α:Type}{p:α->α->Bool}:∀{xs s s':List α},Xad (λx s=>s.any λy=>p y x) (λx s=>s++[x]) xs s=.inl s'->dup p s xs=false
 | [],_,_,_=>rfl
 | x :: xs,s,s',h=>by
  rw[YO] at h
  split at h
  ·cases h
  ·rename_i hc; rw[dup,if_neg hc]; exact XfK h
def XfL{α:Type}{p:α->α->Bool}:∀{xs s:List α} {q:α×List α},Xad (λx s=>s.any λy=>p y x) (λx s=>s++[x]) xs s=.inr q->dup p s xs=true
 | [],_,_,h=>by cases h
 | x :: xs,s,q,h=>by
  rw[YO] at h
  split at h
  ·rename_i hc; rw[dup,if_pos hc]
  ·rename_i hc; rw[dup,if_neg hc]; exact XfL h
def Xd7{α σ:Type}{c:α->σ->Bool}{g:α->σ->σ}:∀{xs:List α} {s:σ} {q:α×σ},Xad c g xs s=.inr q->c q.1 q.2=true
 | [],s,q,h=>by cases h
 | x :: xs,s,q,h=>by
  rw[YO] at h
  split at h
  ·rename_i hc; injection h with h; subst h; exact hc
  ·exact Xd7 h
def X6(b g:Int):Int:=if(within b 0 1000000&&within g 0 b)=true then 0 else 3
def XeH{a b c:Int}(h:within a b c=true):¬(a<b):=by
 have:=XjO.1 h
 omega
def Xcz(y x:XM):Bool:=eqv y.Key x.Key
def Yc(s:Store):Int :=
 if(within s.Budget 0 1000000&&within s.Guard 0 s.Budget)=false then 3 else if 40<((s.Trial++s.Kept).length:Int) then 2
 else if(Xas ((s.Trial++s.Kept).map Xi) !=0)=true then Xas ((s.Trial++s.Kept).map Xi)
 else if dup Xcz [] (s.Trial++s.Kept)=true then 6
 else if s.Budget<ZK s.Trial+ZK s.Kept then 7 else if s.Guard<ZK s.Kept then 7 else 0
def Xih(es:List XM)(x:XM):(es.any λy=>eqv x.Key y.Key)=es.any λy=>Xcz y x:=by
 congr 1; funext y
 unfold Xcz
 rw[Bool.eq_iff_iff,Ys,Ys]
 exact eq_comm
def XaK(b g:Int):Yc ⟨b,g,[],[]⟩=X6 b g:=by
 unfold Yc X6
 by_cases h:(within b 0 1000000&&within g 0 b)=true
 ·rw[if_neg (by rw[h]; decide),if_pos h]
  have h1:within b 0 1000000=true/\within g 0 b=true:=by simpa using h
  have h2:=XeH h1.1
  have h3:=XeH h1.2
  have e0:ZK []=0:=rfl
  simp only[List.append_nil,List.length_nil,List.map_nil,e0]
  rw[if_neg (by decide),if_neg (by decide),if_neg (by decide),if_neg (by simpa using h2),if_neg h3]
 ·rw[if_pos (by simpa using h),if_neg h]
def Xii{α:Type}{p:α->Prop}{a b:List α}(h1:smL p a)(h2:smL p b):Xfr p (a++b):=λx hx=>by
 rcases List.mem_append.1 hx with h | h
 ·exact h1.2 x h
 ·exact h2.2 x h
def s50:SP Tryz.prog:=mkS tyA 50 Tryz.f50 [s86,XnZ,XoS,Xn1] {md:=[.ro 1],rg:=[(0,[1],[1]),(1,[1,19],[1]),(2,[2],[]),(3,[1,27],[1]),(4,[2],[]),(5,[1,3],[1]),(6,[1,3,4],[1]),(7,[1,3,4,32],[1]),(8,[1,3,4],[1]),(9,[1,3,4,5],[1]),(10,[1,3,4,5,41],[1]),(11,[2],[]),(12,[1,3,6],[1]),(13,[1,3,6,46],[1]),(14,[1,3,6],[1]),(15,[1,3,6,7],[1]),(16,[1,3,6,7,51],[1]),(17,[1,3,6,7],[1]),(18,[1,3,6,7,64],[1]),(19,[2],[]),(20,[77],[]),(21,[2],[]),(22,[2],[])],lv:=[(0,[1,3,4],[1]),(2,[1,3,6],[1]),(4,[1,3,6,7],[1])],out:=[(0,[1,3],[1]),(2,[1,3],[1]),(4,[1,3,6],[1])],rets:=some ([2],[]),plan:=[(18,(.take 0 (.take 1 (.take 2 (.take 3 (.take 4 (.take 5 (.take 6 (.take 7 (.take 8 (.take 9 (.take 10 .done)))))))))))),(20,(.take 0 (.take 2 (.take 3 (.one 1 (.take 4 (.take 5 (.take 6 (.take 7 (.take 9 (.take 10 (.one 8 (.take 11 (.take 12 .done))))))))))))))],fz:=[1]} Tryz.func50 (by kernel_rfl)
@[go_sem] def d50:s50.g=50/\s50.fs=⟨[.ro 1],s50.F,false⟩:=⟨nr rfl,nr rfl⟩
@[go_sem] def e50(y13 y14:Int)(y15 vKept:List XM)(h0:Xdf (Store.mk y13 y14 y15 vKept)):s50.F [.agg [.i .i64 y13,.i .i64 y14,.sl .ro 13 (y15.map (Xa .ro)),.sl .ro 13 (vKept.map (Xa .ro))]]=some (.i .i64 (Yc (Store.mk y13 y14 y15 vKept)),[.u]):=Xd (41) rfl rfl (λcx h=>by
 obtain⟨q0,q1,q2,q3⟩:=h0
 simp only at q2 q3
 have hle:y15.length<=1048576/\vKept.length<=1048576:=⟨q2.1,q3.1⟩
 obtain⟨all,hall⟩:∃all,y15++vKept=all:=⟨_,rfl⟩
 have hln:(all.length:Int)=(y15.length:Int)+(vKept.length:Int):=by rw[<-hall,List.length_append]; rfl
 have hw:(IntKind.i64).wrap ((y15.length:Int)+(vKept.length:Int))=(all.length:Int):=by rw[hln]; exact Xc (by omega) (by omega)
 have hsm:∀x∈all,Y0 x:=by rw[<-hall]; exact Xii q2 q3
 have hlk:vKept.length<=2097152:=by omega
 have hek:Xfr Y0 vKept:=q3.2
 have hla:all.length<=2097152:=by omega
 have hea:Xfr Y0 all:=hsm
 have hcs:ZK all=ZK y15+ZK vKept:=by rw[<-hall]; exact Xig _ _
 cases b1:within y13 0 1000000
 ·simp only[go_sem,reduceIte,↓reduceIte,reduceCtorEq,nA,nS,nM,nB,nE,nL,nT,nN,iL,iT,iE,iA,iM,iS,iG,iB,iN,iZ,h,hle,hall,b1,Yc]
 cases b2:within y14 0 y13
 ·simp only[go_sem,reduceIte,↓reduceIte,reduceCtorEq,nA,nS,nM,nB,nE,nL,nT,nN,iL,iT,iE,iA,iM,iS,iG,iB,iN,iZ,h,hle,hall,b1,b2,Yc]
 by_cases b3:40<(all.length:Int)
 ·simp only[go_sem,reduceIte,↓reduceIte,reduceCtorEq,nA,nS,nM,nB,nE,nL,nT,nN,iL,iT,iE,iA,iM,iS,iG,iB,iN,iZ,h,hle,hall,b1,b2,b3,hw,List.length_map,Yc]
 have hx:all.length<=9223372036854775806:=by omega
 have hb0:=Xn Tryz.f50 0 _ _ rfl rfl
 obtain⟨z0,hz0,hqz0⟩:=Yj (cx:=cx) (blk:=0) (body:=Yl Tryz.f50 0) all (λk (s:Unit)=>⟨E [(1,.pr [.i .i64 y13,.i .i64 y14,.sl .ro 13 (y15.map (Xa .ro)),.sl .ro 13 (vKept.map (Xa .ro))]),(3,.sl .mut 13 (all.map (Xa .ro))),(4,.i .i64 k)],B [(1,[])]⟩) (λs=>⟨E [(1,.pr [.i .i64 y13,.i .i64 y14,.sl .ro 13 (y15.map (Xa .ro)),.sl .ro 13 (vKept.map (Xa .ro))]),(3,.sl .mut 13 (all.map (Xa .ro)))],B [(1,[])]⟩) (λx s=>Xi x !=0) (λx s=>()) (λx s=>(.ret,⟨E [(2,.i .i64 (Xi x))],B []⟩)) (λk s=>True)
   (λs hI G=>by simp only[go_sem,reduceIte,↓reduceIte,reduceCtorEq,nA,nS,nM,nB,nE,nL,nT,nN,iL,iT,iE,iA,iM,iS,iG,iB,iN,iZ,h,Int.lt_irrefl,hb0,hx,List.length_map,show List.take all.length (List.map (Xa .ro) all)=List.map (Xa .ro) all from List.take_of_length_le (by simp)]) (λk hk s hI=>by
    have h1:((k:Int)<(all.length:Int)):=Int.ofNat_lt.2 hk
    have tk:List.take all.length (List.map (Xa .ro) all)=List.map (Xa .ro) all:=List.take_of_length_le (by simp)
    have hH:smL Yv all[k].Headers:=(hsm _ (List.getElem_mem hk)).2.2.1
    exact⟨_,_,_,λG=>by simp only[go_sem,reduceIte,↓reduceIte,reduceCtorEq,nA,nS,nM,nB,nE,nL,nT,nN,iL,iT,iE,iA,iM,iS,iG,iB,iN,iZ,h,XP (Xa .ro) all k hk,Xfq (Xa .ro) all k hk,tk,List.length_map,hH,h1,Xp _ _ hk,Xe (show k<9223372036854775807 by omega),hb0]<;>with_reducible rfl,Iff.rfl,λhc=>⟨trivial,by simp only[go_sem,reduceIte,↓reduceIte,reduceCtorEq,nA,nS,nM,nB,nE,nL,nT,nN,iL,iT,iE,iA,iM,iS,iG,iB,iN,iZ,h]⟩⟩) () trivial 41 (by omega)
 rw[hb0] at hz0
 rcases hqz0 with⟨s0,e1,_,e3⟩ | ⟨x,s0,e1,e3⟩
 rotate_left
 ·have e2:=Ur e1
  have e4:(Xi x !=0)=true:=Xd7 e1
  simp only[go_sem,reduceIte,↓reduceIte,reduceCtorEq,nA,nS,nM,nB,nE,nL,nT,nN,iL,iT,iE,iA,iM,iS,iG,iB,iN,iZ,h,hle,hall,b1,b2,b3,hw,List.length_map,hz0,e3,e2,e4,Yc]
 have e2:=Uq e1
 have hb1:=Xn Tryz.f50 1 _ _ rfl rfl
 obtain⟨z2,hz2,hqz2⟩:=Yj (cx:=cx) (blk:=2) (body:=Yl Tryz.f50 1) all (λk (s:List XM)=>⟨E [(1,.pr [.i .i64 y13,.i .i64 y14,.sl .ro 13 (y15.map (Xa .ro)),.sl .ro 13 (vKept.map (Xa .ro))]),(3,.sl .mut 13 (all.map (Xa .ro))),(6,.i .i64 k)],B [(1,[])]⟩) (λs=>⟨E [(1,.pr [.i .i64 y13,.i .i64 y14,.sl .ro 13 (y15.map (Xa .ro)),.sl .ro 13 (vKept.map (Xa .ro))]),(3,.sl .mut 13 (all.map (Xa .ro)))],B [(1,[])]⟩) (λx s=>s.any λy=>Xcz y x) (λx s=>s++[x]) (λx s=>(.ret,⟨E [(2,.i .i64 6)],B []⟩)) (λk s=>s=all.take k)
   (λs hI G=>by simp only[go_sem,reduceIte,↓reduceIte,reduceCtorEq,nA,nS,nM,nB,nE,nL,nT,nN,iL,iT,iE,iA,iM,iS,iG,iB,iN,iZ,h,Int.lt_irrefl,hb1,hx,List.length_map,show List.take all.length (List.map (Xa .ro) all)=List.map (Xa .ro) all from List.take_of_length_le (by simp)]) (λk hk s hI=>by
    have h1:((k:Int)<(all.length:Int)):=Int.ofNat_lt.2 hk
    have tk:List.take all.length (List.map (Xa .ro) all)=List.map (Xa .ro) all:=List.take_of_length_le (by simp)
    obtain⟨q,hq0⟩:∃q,q=k:=⟨k,rfl⟩
    have hq1:q<all.length:=by omega
    have hlen:(all.take q).length=q:=by rw[List.length_take]; omega
    have hb2:=Xn Tryz.f50 2 _ _ rfl rfl
    obtain⟨r2,hr2,hqr2⟩:=Yj (cx:=cx) (blk:=4) (body:=Yl Tryz.f50 2) (all.take q) (λk (s:Unit)=>⟨E [(1,.pr [.i .i64 y13,.i .i64 y14,.sl .ro 13 (y15.map (Xa .ro)),.sl .ro 13 (vKept.map (Xa .ro))]),(3,.sl .mut 13 (all.map (Xa .ro))),(6,.i .i64 q),(7,.i .i64 k)],B [(1,[])]⟩) (λs=>⟨E [(1,.pr [.i .i64 y13,.i .i64 y14,.sl .ro 13 (y15.map (Xa .ro)),.sl .ro 13 (vKept.map (Xa .ro))]),(3,.sl .mut 13 (all.map (Xa .ro))),(6,.i .i64 q)],B [(1,[])]⟩) (λx s=>eqv all[q].Key x.Key) (λx s=>()) (λx s=>(.ret,⟨E [(2,.i .i64 6)],B []⟩)) (λk s=>True)
      (λs hI G=>by simp only[go_sem,reduceIte,↓reduceIte,reduceCtorEq,nA,nS,nM,nB,nE,nL,nT,nN,iL,iT,iE,iA,iM,iS,iG,iB,iN,iZ,h,Int.lt_irrefl,hb2,hlen,Int.lt_irrefl,tk,List.length_map]) (λk hk s hI=>by
       have h1:((k:Int)<((all.take q).length:Int)):=Int.ofNat_lt.2 hk
       have hk2:k<q:=by rw[List.length_take] at hk; omega
       have hk3:k<all.length:=by omega
       have hkq:(k:Int)<(q:Int):=by omega
       have e1:(all.take q)[k]=all[k]:=by simp
       have i1:=Xp all.length k hk3
       have i2:=Xp all.length q hq1
       have w1:=Xe (show k<9223372036854775807 by omega)
       all_goals exact⟨_,_,_,λG=>by simp only[go_sem,reduceIte,↓reduceIte,reduceCtorEq,nA,nS,nM,nB,nE,nL,nT,nN,iL,iT,iE,iA,iM,iS,iG,iB,iN,iZ,h,hkq,e1,i1,i2,w1,X8,tk,XP (Xa .ro) all k hk3,XP (Xa .ro) all q hq1,Xfq (Xa .ro) all k hk3,Xfq (Xa .ro) all q hq1,List.length_map,h1,Xp _ _ hk,Xe (show k<9223372036854775807 by omega),hb2]<;>with_reducible rfl,by rw[e1],λhc=>⟨trivial,by simp only[go_sem,reduceIte,↓reduceIte,reduceCtorEq,nA,nS,nM,nB,nE,nL,nT,nN,iL,iT,iE,iA,iM,iS,iG,iB,iN,iZ,h,hlen]⟩⟩) () trivial 41 (by rw[List.length_take]; omega)
    rw[hb2] at hr2
    subst hq0
    have hfl:=Xih (all.take q) all[q]
    have hy:r2=(if(s.any λy=>Xcz y all[q])=true then some (.ret,⟨E [(2,.i .i64 6)],B []⟩) else some (.ex 4,⟨E [(1,.pr [.i .i64 y13,.i .i64 y14,.sl .ro 13 (y15.map (Xa .ro)),.sl .ro 13 (vKept.map (Xa .ro))]),(3,.sl .mut 13 (all.map (Xa .ro))),(6,.i .i64 q)],B [(1,[])]⟩)):=by
     subst hI
     rcases hqr2 with⟨s',e1,_,e3⟩ | ⟨x,s',e1,e3⟩
     ·rw[<-hfl,runS_any e1,e3]; rfl
     ·rw[<-hfl,Xcx e1,e3]; rfl
    rw[hy] at hr2
    exact⟨_,_,_,λG=>by simp only[go_sem,reduceIte,↓reduceIte,reduceCtorEq,nA,nS,nM,nB,nE,nL,nT,nN,iL,iT,iE,iA,iM,iS,iG,iB,iN,iZ,h,hr2,tk,List.length_map,h1,Xp all.length q hk,Xe (show q<9223372036854775807 by omega),hb1]<;>with_reducible rfl,Iff.rfl,λhc=>⟨(by rw[hI]; exact(Xaf all q hk).symm),by simp only[go_sem,reduceIte,↓reduceIte,reduceCtorEq,nA,nS,nM,nB,nE,nL,nT,nN,iL,iT,iE,iA,iM,iS,iG,iB,iN,iZ,h]⟩⟩) [] rfl 41 (by omega)
 rw[hb1] at hz2
 rcases hqz2 with⟨s1,k1,_,k3⟩ | ⟨x,s1,k1,k3⟩
 rotate_left
 ·have k2:=XfL k1
  simp only[go_sem,reduceIte,↓reduceIte,reduceCtorEq,nA,nS,nM,nB,nE,nL,nT,nN,iL,iT,iE,iA,iM,iS,iG,iB,iN,iZ,h,hle,hall,b1,b2,b3,hw,List.length_map,hz0,e3,e2,hz2,k3,k2,Yc]
 have k2:=XfK k1
 have tk:List.take all.length (List.map (Xa .ro) all)=List.map (Xa .ro) all:=List.take_of_length_le (by simp)
 by_cases d1:y13<ZK y15+ZK vKept
 ·simp only[go_sem,reduceIte,↓reduceIte,reduceCtorEq,nA,nS,nM,nB,nE,nL,nT,nN,iL,iT,iE,iA,iM,iS,iG,iB,iN,iZ,h,hle,hall,b1,b2,b3,hw,List.length_map,hz0,e3,e2,hz2,k3,k2,hla,hea,hcs,tk,d1,Yc]
 by_cases d2:y14<ZK vKept<;>simp only[go_sem,reduceIte,↓reduceIte,reduceCtorEq,nA,nS,nM,nB,nE,nL,nT,nN,iL,iT,iE,iA,iM,iS,iG,iB,iN,iZ,h,hle,hall,b1,b2,b3,hw,List.length_map,hz0,e3,e2,hz2,k3,k2,hla,hea,hcs,tk,d1,d2,hlk,hek,Yc]) (rfl)
@[go_sem] def XsO(b g:Int):s50.F [.agg [.i .i64 b,.i .i64 g,.sl .ro 13 [],.sl .ro 13 []]]=some (.i .i64 (X6 b g),[.u]):=(e50 b g [] [] ⟨trivial,trivial,⟨Nat.zero_le _,λx hx=>by cases hx⟩,⟨Nat.zero_le _,λx hx=>by cases hx⟩⟩).trans (by rw[XaK])
end
end Go.Vm.A
