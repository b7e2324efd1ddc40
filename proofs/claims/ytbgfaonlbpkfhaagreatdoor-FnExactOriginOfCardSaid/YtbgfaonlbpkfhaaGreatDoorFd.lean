/- Functions of the program, walked by the evaluator. -/
import Derived.Test.YtbgfaonlbpkfhaaGreatDoorWb
import Derived.Test.YtbgfaonlbpkfhaaGreatDoorWa
import Derived.Test.YtbgfaonlbpkfhaaGreatDoorFa
import Derived.Test.YtbgfaonlbpkfhaaGreatDoorFb
import Derived.Test.YtbgfaonlbpkfhaaGreatDoorFc
set_option linter.unusedVariables false
set_option linter.unusedSimpArgs false
set_option autoImplicit false
set_option maxRecDepth 100000
set_option maxHeartbeats 4000000
set_option linter.defProp false
namespace Go.Vm.A
open Go.Proofs
open Nat renaming reduceAdd -> nA, reduceSub -> nS, reduceMul -> nM, reduceBEq -> nB, reduceEqDiff -> nE, reduceLeDiff -> nL, reduceLT -> nT, reduceBneDiff -> nN
open Int renaming reduceLE -> iL, reduceLT -> iT, reduceEq -> iE, reduceAdd -> iA, reduceMul -> iM, reduceSub -> iS, reduceNeg -> iG, reduceBEq -> iB, reduceBNe -> iN, reduceToNat -> iZ
noncomputable section
def XqU:SP Tryz.prog:=mkS tyA 119 Tryz.f119 [] {md:=[.ro 1],rg:=[(0,[0],[]),(1,[0,3],[]),(2,[0,3,8],[]),(3,[0,3],[]),(4,[0,3,4],[]),(5,[0,3,4,13],[]),(6,[0,3,4],[]),(7,[0,3,4,26],[]),(8,[2],[]),(9,[2],[])],lv:=[(0,[0,3],[]),(2,[0,3,4],[])],out:=[(0,[],[]),(2,[0,3],[])],rets:=some ([2],[]),plan:=[(7,(.take 0 (.take 1 (.take 2 (.take 3 (.take 4 (.take 5 (.take 6 (.take 7 (.take 8 (.take 9 (.take 10 .done))))))))))))]} Tryz.func119 (by kernel_rfl)
@[go_sem] def XJI:XqU.g=119/\XqU.fs=⟨[.ro 1],XqU.F,false⟩:=⟨nr rfl,nr rfl⟩
@[go_sem] def XJJ(ws:List X2)(h0:ws.length<=9223372036854775806):XqU.F [.sl .ro 4 (ws.map (Xk .ro))]=some (.b (tw [] ws),[.u]):=Xb (ws.length+1) rfl rfl (λcx h=>by
 have hx:=h0
 have hb0:=Xg Tryz.f119 0 _ _ rfl rfl
 obtain⟨r,hr,hq⟩:=Xq (cx:=cx) (blk:=0) (body:=XN Tryz.f119 0) ws (λk (s:List X2)=>⟨E [(0,.sl .ro 4 (ws.map (Xk .ro))),(3,.i .i64 k)],B []⟩) (λs=>⟨E [],B []⟩) (λx s=>s.any λy=>y.Req==x.Req) (λx s=>s++[x]) (λx s=>(.ret,⟨E [(2,.b true)],B []⟩)) (λk s=>s=ws.take k)
   (λs hI G=>by simp only[go_sem,reduceIte,↓reduceIte,nB,nE,h,Int.lt_irrefl,hb0]) (λk hk s hI=>by
    have h1:((k:Int)<(ws.length:Int)):=Int.ofNat_lt.2 hk
    obtain⟨q,hq0⟩:∃q,q=k:=⟨k,rfl⟩
    have hq1:q<ws.length:=by omega
    have hlen:(ws.take q).length=q:=by rw[List.length_take]; omega
    have hb1:=Xg Tryz.f119 1 _ _ rfl rfl
    obtain⟨r2,hr2,hqr2⟩:=Xq (cx:=cx) (blk:=2) (body:=XN Tryz.f119 1) (ws.take q) (λk (s:Unit)=>⟨E [(0,.sl .ro 4 (ws.map (Xk .ro))),(3,.i .i64 q),(4,.i .i64 k)],B []⟩) (λs=>⟨E [(0,.sl .ro 4 (ws.map (Xk .ro))),(3,.i .i64 q)],B []⟩) (λx s=>ws[q].Req==x.Req) (λx s=>()) (λx s=>(.ret,⟨E [(2,.b true)],B []⟩)) (λk s=>True)
      (λs hI G=>by simp only[go_sem,reduceIte,↓reduceIte,nB,nE,h,Int.lt_irrefl,hb1,hlen,Int.lt_irrefl]) (λk hk s hI=>by
       have h1:((k:Int)<((ws.take q).length:Int)):=Int.ofNat_lt.2 hk
       have hk2:k<q:=by rw[List.length_take] at hk; omega
       have hk3:k<ws.length:=by omega
       have hkq:(k:Int)<(q:Int):=by omega
       have e1:(ws.take q)[k]=ws[k]:=by simp
       have i1:=Xh ws.length k hk3
       have i2:=Xh ws.length q hq1
       have w1:=Xd (show k<9223372036854775807 by omega)
       all_goals exact⟨_,_,_,λG=>by simp only[go_sem,reduceIte,↓reduceIte,nA,nB,nE,nL,h,hkq,i1,i2,w1,Xi (Xk .ro) ws k hk3,Xi (Xk .ro) ws q hq1,List.length_map,hb1]<;>with_reducible rfl,by simp[e1],λhc=>⟨trivial,by simp only[go_sem,reduceIte,↓reduceIte,nB,h]⟩⟩) () trivial (ws.length+1) (by rw[List.length_take]; omega)
    rw[hb1] at hr2
    subst hq0
    have hfl:=Xmv (ws.take q) ws[q].Req
    have hy:r2=(if(s.any λy=>y.Req==ws[q].Req)=true then some (.ret,⟨E [(2,.b true)],B []⟩) else some (.ex 2,⟨E [(0,.sl .ro 4 (ws.map (Xk .ro))),(3,.i .i64 q)],B []⟩)):=by
     subst hI
     rcases hqr2 with⟨s',e1,_,e3⟩ | ⟨x,s',e1,e3⟩
     ·rw[<-hfl,runS_any e1,e3]; rfl
     ·rw[<-hfl,QJ e1,e3]; rfl
    rw[hy] at hr2
    exact⟨_,_,_,λG=>by simp only[go_sem,reduceIte,↓reduceIte,nB,nE,h,hr2,h1,Xd (show q<9223372036854775807 by omega),hb0]<;>with_reducible rfl,Iff.rfl,λhc=>⟨(by rw[hI]; exact(ZN ws q hk).symm),by simp only[go_sem,reduceIte,↓reduceIte,nB,h]⟩⟩) [] rfl (ws.length+1) (Nat.le_refl _)
 rw[hb0] at hr
 rcases hq with⟨s',e1,_,e3⟩ | ⟨x,s',e1,e3⟩
 ·simp only[go_sem,reduceIte,↓reduceIte,nB,nE,h,hr,e3,Xkz e1]
 ·simp only[go_sem,reduceIte,↓reduceIte,nB,h,hr,e3,XkA e1]) (rfl)
def Xr9:SP Tryz.prog:=mkS tyA 265 Tryz.f265 [XqP] {md:=[.ro 1],rg:=[(0,[0],[]),(1,[0,3],[]),(2,[0,3,4],[]),(3,[0,3,4],[]),(4,[0,3,4],[]),(5,[0,3,4],[]),(6,[0,3,4],[]),(7,[0,3,4],[]),(8,[0,3,4],[]),(9,[0,3,4],[]),(10,[0,3,4],[]),(11,[0,4],[]),(12,[2],[]),(13,[2],[])],rets:=some ([2],[])} Tryz.func265 (by kernel_rfl)
@[go_sem] def XJK:Xr9.g=265/\Xr9.fs=⟨[.ro 1],Xr9.F,false⟩:=⟨nr rfl,nr rfl⟩
@[go_sem] def XJL(c:UInt8):Xr9.F [.i .u8 c.toNat]=some (.b (Xb1 c),[.u]):=Xb (0) rfl rfl (λcx h=>by
 by_cases m:c∈Xd7
 ·have hw:=Xkt m
  simp only[Xd7,List.mem_cons,List.not_mem_nil,or_false] at m
  have u47:(((47:UInt8).toNat:Nat):Int)=47:=rfl
  have u63:(((63:UInt8).toNat:Nat):Int)=63:=rfl
  have u61:(((61:UInt8).toNat:Nat):Int)=61:=rfl
  have u38:(((38:UInt8).toNat:Nat):Int)=38:=rfl
  have u58:(((58:UInt8).toNat:Nat):Int)=58:=rfl
  have u64:(((64:UInt8).toNat:Nat):Int)=64:=rfl
  have u44:(((44:UInt8).toNat:Nat):Int)=44:=rfl
  have u59:(((59:UInt8).toNat:Nat):Int)=59:=rfl
  have u40:(((40:UInt8).toNat:Nat):Int)=40:=rfl
  have u41:(((41:UInt8).toNat:Nat):Int)=41:=rfl
  rcases m with rfl | rfl | rfl | rfl | rfl | rfl | rfl | rfl | rfl | rfl<;>simp only[go_sem,reduceIte,↓reduceIte,nB,nE,iB,h,hw,u47,u63,u61,u38,u58,u64,u44,u59,u40,u41]
 ·have hw:=Xku m
  have q47:((c.toNat:Int)==47)=false:=XdQ (v:=47) (λe=>m (by subst e; decide))
  have q63:((c.toNat:Int)==63)=false:=XdQ (v:=63) (λe=>m (by subst e; decide))
  have q61:((c.toNat:Int)==61)=false:=XdQ (v:=61) (λe=>m (by subst e; decide))
  have q38:((c.toNat:Int)==38)=false:=XdQ (v:=38) (λe=>m (by subst e; decide))
  have q58:((c.toNat:Int)==58)=false:=XdQ (v:=58) (λe=>m (by subst e; decide))
  have q64:((c.toNat:Int)==64)=false:=XdQ (v:=64) (λe=>m (by subst e; decide))
  have q44:((c.toNat:Int)==44)=false:=XdQ (v:=44) (λe=>m (by subst e; decide))
  have q59:((c.toNat:Int)==59)=false:=XdQ (v:=59) (λe=>m (by subst e; decide))
  have q40:((c.toNat:Int)==40)=false:=XdQ (v:=40) (λe=>m (by subst e; decide))
  have q41:((c.toNat:Int)==41)=false:=XdQ (v:=41) (λe=>m (by subst e; decide))
  cases h1:XaL c<;>simp only[go_sem,reduceIte,↓reduceIte,nB,nE,h,hw,h1,q47,q63,q61,q38,q58,q64,q44,q59,q40,q41]) (rfl)
def Xsa:SP Tryz.prog:=mkS tyA 236 Tryz.f236 [Xr9] {md:=[.ro 1],rg:=[(0,[0],[]),(1,[0,16],[]),(2,[2],[]),(3,[0,3],[]),(4,[0,3,20],[]),(5,[0,3],[]),(6,[0,3,27],[]),(7,[2],[]),(8,[2],[])],lv:=[(0,[0,3],[])],out:=[(0,[],[])],rets:=some ([2],[])} Tryz.func236 (by kernel_rfl)
@[go_sem] def XJM:Xsa.g=236/\Xsa.fs=⟨[.ro 1],Xsa.F,false⟩:=⟨nr rfl,nr rfl⟩
@[go_sem] def XJN(t:ByteArray):Xsa.F [.s t]=some (.b (Xbl t),[.u]):=Xb (t.data.toList.length+1) rfl rfl (λcx h=>by
 have hu:Xbl t=(XdR Xb1 1 100 t&&(((t.data[0]?.getD 0).toNat:Int)==47)):=rfl
 by_cases h1:(t.size:Int)<1
 ·simp only[go_sem,reduceIte,↓reduceIte,nB,nE,h,h1,hu,Qy h1]
 by_cases h2:100<(t.size:Int)
 ·simp only[go_sem,reduceIte,↓reduceIte,nB,nE,h,h1,h2,hu,Ue h2]
 have hi:Qj t.size 0=some 0:=Xh t.size 0 (by omega)
 have hi':Qj t.data.toList.length 0=some 0:=by rw[<-Xr]; exact hi
 cases h3:(((t.data[0]?.getD 0).toNat:Int)==47)
 ·simp only[go_sem,reduceIte,↓reduceIte,nB,nE,h,h1,h2,h3,hi,hu,bne]
 have hx:t.data.toList.length<=9223372036854775806:=by rw[<-Xr]; omega
 have ha:=UF (p:=Xb1) h1 h2
 rw[Xr t] at h1 h2
 ·have hb0:=Xg Tryz.f236 0 _ _ rfl rfl
  obtain⟨r,hr,hq⟩:=Xq (cx:=cx) (blk:=0) (body:=XN Tryz.f236 0) t.data.toList (λk (s:Unit)=>⟨E [(0,.s t),(3,.i .i64 k)],B []⟩) (λs=>⟨E [],B []⟩) (λx s=>!Xb1 x) (λx s=>()) (λx s=>(.ret,⟨E [(2,.b false)],B []⟩)) (λk s=>True)
    (λs hI G=>by simp only[go_sem,reduceIte,↓reduceIte,nB,nE,h,Int.lt_irrefl,hb0,Xr t]) (λk hk s hI=>by
     have h1:((k:Int)<(t.data.toList.length:Int)):=Int.ofNat_lt.2 hk
     have hz:=Xcn t k hk
     exact⟨_,_,_,λG=>by simp only[go_sem,reduceIte,↓reduceIte,nB,nE,h,hz,Xr t,h1,Xh _ _ hk,Xd (show k<9223372036854775807 by omega),hb0]<;>with_reducible rfl,Iff.rfl,λhc=>⟨trivial,by simp only[go_sem,reduceIte,↓reduceIte,nB,h]⟩⟩) () trivial (t.data.toList.length+1) (Nat.le_refl _)
  rw[hb0] at hr
  rcases hq with⟨s',e1,_,e3⟩ | ⟨x,s',e1,e3⟩
  ·simp only[go_sem,reduceIte,↓reduceIte,nB,nE,h,h1,h2,h3,hi',bne,Xr t,hr,e3,hu,ha,ZV e1]
  ·simp only[go_sem,reduceIte,↓reduceIte,nB,nE,h,h1,h2,h3,hi',bne,Xr t,hr,e3,hu,ha,Zk e1]) (rfl)
def Xsb:SP Tryz.prog:=mkS tyA 266 Tryz.f266 [XoP] {md:=[.ro 1,.ro 1],rets:=some ([4],[])} Tryz.func266 (by kernel_rfl)
@[go_sem] def XJO:Xsb.g=266/\Xsb.fs=⟨[.ro 1,.ro 1],Xsb.F,false⟩:=⟨nr rfl,nr rfl⟩
@[go_sem] def XJP(a b:ByteArray)(h0:(a.size<=9223372036854775806/\b.size<=9223372036854775806)):Xsb.F [.s a,.s b]=some (.b (eqv (QH a) (QH b)),[.u,.u]):=Xb (0) rfl rfl (λcx h=>by
 simp only[go_sem,reduceIte,↓reduceIte,nB,h,h0.1,h0.2,XH]) (rfl)
def Xsc:SP Tryz.prog:=mkS tyA 237 Tryz.f237 [Xsb] {md:=[.ro 1,.ro 1],rg:=[(0,[0,1],[]),(1,[0,1,6],[]),(2,[0,1,6,7],[]),(3,[0,1,6,7,8],[]),(4,[0,1,6,7,8,12],[]),(5,[0,1,6,7,8],[]),(6,[0,1,6,7,8,22],[]),(7,[0,1,6,8,23],[]),(8,[0,1,6,8],[]),(9,[0,1,6,8],[]),(10,[0,1,6,7,8],[]),(11,[4,5],[])],lv:=[(0,[0,1,6,7,8],[])],out:=[(0,[6,7],[])],rets:=some ([4,5],[])} Tryz.func237 (by kernel_rfl)
@[go_sem] def XJQ:Xsc.g=237/\Xsc.fs=⟨[.ro 1,.ro 1],Xsc.F,false⟩:=⟨nr rfl,nr rfl⟩
@[go_sem] def XJR(hs:List Xx)(name:ByteArray)(h0:(hs.length<=20/\smL X6 hs/\okN name=true)):Xsc.F [.sl .ro 2 (hs.map (Xj .ro)),.s name]=some (.tup [.s (Xky hs name).1,.b (XhW hs name)],[.u,.u]):=Xb (hs.length+1) rfl rfl (λcx h=>by
 have hl:=h0.1
 have hx:hs.length<=9223372036854775806:=by omega
 have hj:=XoN hs name
 have hb0:=Xg Tryz.f237 0 _ _ rfl rfl
 obtain⟨hI,hr⟩:=X0 (cx:=cx) (blk:=0) (body:=XN Tryz.f237 0) hs (λk (s:ByteArray×Bool)=>⟨E [(0,.sl .ro 2 (hs.map (Xj .ro))),(1,.s name),(6,.s s.1),(7,.b s.2),(8,.i .i64 k)],B []⟩) (λs=>⟨E [(6,.s s.1),(7,.b s.2)],B []⟩) (λx s=>XaM name s x) (λk s=>s.1.size<=k*1048578)
   (λs hI G=>by simp only[go_sem,reduceIte,↓reduceIte,nB,nE,h,Int.lt_irrefl,hb0]) (λk hk s hI=>by
    have h1:((k:Int)<(hs.length:Int)):=Int.ofNat_lt.2 hk
    obtain⟨u1,u2⟩:=h0.2.1.2 _ (List.getElem_mem hk)
    have u2':hs[k].Value.size<=1048576:=u2
    have hJ:=XfU (n:=name) hI u2'
    have hl:=h0.1
    have e0:(⟨#[44,32]⟩:ByteArray).size=2:=rfl
    have e1:s.1.size+2<=9223372036854775807:=by omega
    have e1':s.1.size+(⟨#[44,32]⟩:ByteArray).size<=9223372036854775807:=e1
    have e2:s.1.size+hs[k].Value.size<=9223372036854775807:=by omega
    have e3:s.1.size+2+hs[k].Value.size<=9223372036854775807:=by omega
    have n1:hs[k].Name.size<=9223372036854775806/\name.size<=9223372036854775806:=⟨by have:hs[k].Name.size<=1048576:=u1; omega,of_decide_eq_true h0.2.2⟩
    cases d1:eqv (QH hs[k].Name) (QH name)<;>cases d2:s.2
    all_goals exact⟨hJ,_,λG=>by simp only[go_sem,reduceIte,↓reduceIte,nA,nB,nE,nL,h,e0,e1,e2,e3,Xi (Xj .ro) hs k hk,n1,d1,ByteArray.size_append,h1,Xh _ _ hk,Xd (show k<9223372036854775807 by omega),hb0]<;>with_reducible rfl,by simp only[go_sem,reduceIte,↓reduceIte,nB,h,d1,d2,XaM]⟩) (⟨#[]⟩,false) (by show 0<=_; omega) (hs.length+1) (Nat.le_refl _)
 rw[hb0] at hr
 unfold Xky at hj
 simp only[go_sem,reduceIte,↓reduceIte,nB,nE,h,hr,Xky,hj]) (rfl)
def Xsd:SP Tryz.prog:=mkS tyA 187 Tryz.f187 [XqT,XqR,Xsa,Xsc] {md:=[.ro 1],rg:=[(0,[1],[1]),(1,[1,25],[1]),(2,[2],[]),(3,[1,3],[1]),(4,[1,3,30],[1]),(5,[2],[]),(6,[1,5],[1]),(7,[1,38],[1]),(8,[2],[]),(9,[42],[]),(10,[2],[]),(11,[2],[])],rets:=some ([2],[]),al:=[32]} Tryz.func187 (by kernel_rfl)
@[go_sem] def XJS:Xsd.g=187/\Xsd.fs=⟨[.ro 1],Xsd.F,false⟩:=⟨nr rfl,nr rfl⟩
@[go_sem] def XJT(y0 y1 y2:ByteArray)(y3:List Xx)(h0:smL X6 (XQ.mk y0 y1 y2 y3).Headers):Xsd.F [.agg [.s y0,.s y1,.s y2,.sl .ro 2 (y3.map (Xj .ro))]]=some (.i .i64 (XA (XQ.mk y0 y1 y2 y3)),[.u]):=Xb (0) rfl rfl (λcx h=>by
 have hm:Qq y0=(eqv y0 ⟨#[71,69,84]⟩||eqv y0 ⟨#[72,69,65,68]⟩):=rfl
 have key:∀m:Bool,Qq y0=m->(Qq y0&&QI y1&&Xbl y2)=(m&&QI y1&&Xbl y2):=λm h=>by rw[h]
 have hn1:okN ⟨#[72,111,115,116]⟩=true:=by decide
 have hn2:okN ⟨#[104,111,115,116]⟩=true:=by decide
 rcases(show(Qq y0=false/\eqv y0 ⟨#[71,69,84]⟩=false/\eqv y0 ⟨#[72,69,65,68]⟩=false)\/(Qq y0=true/\eqv y0 ⟨#[71,69,84]⟩=true)\/(Qq y0=true/\eqv y0 ⟨#[71,69,84]⟩=false/\eqv y0 ⟨#[72,69,65,68]⟩=true) from by
  rw[hm]; cases eqv y0 ⟨#[71,69,84]⟩<;>cases eqv y0 ⟨#[72,69,65,68]⟩<;>simp) with⟨m0,m1,m2⟩ | ⟨m0,m1⟩ | ⟨m0,m1,m2⟩
 ·simp only[go_sem,reduceIte,↓reduceIte,nA,nB,nE,nL,h,m0,m1,m2,XH,XA]
 ·cases h2:QI y1
  ·simp only[go_sem,reduceIte,↓reduceIte,nA,nB,nE,nL,h,h2,m0,m1,XH,XA]
  cases h3:Xbl y2
  ·simp only[go_sem,reduceIte,↓reduceIte,nA,nB,nE,nL,h,h2,h3,m0,m1,XH,XA]
  by_cases z:Xn y3=0
  rotate_left
  ·have z':(Xn y3 !=0)=true:=by simpa using z
   simp only[go_sem,reduceIte,↓reduceIte,nA,nB,nE,nL,h,h2,h3,z',m0,m1,XH,XA]
  have z':(Xn y3 !=0)=false:=by simpa using z
  have h4:y3.length<=20/\smL X6 y3/\okN ⟨#[72,111,115,116]⟩=true:=⟨Zt z,h0,hn1⟩
  have h5:y3.length<=20/\smL X6 y3/\okN ⟨#[104,111,115,116]⟩=true:=⟨Zt z,h0,hn2⟩
  have h6:=XcX y3 ⟨#[72,111,115,116]⟩
  have h7:=Xd8 y3
  cases h8:XhW y3 ⟨#[72,111,115,116]⟩
  ·by_cases h9:20<=(y3.length:Int)
   ·have h10:((y3.length:Int)==20)=true:=by have:=h4.1; simp; omega
    simp only[go_sem,reduceIte,↓reduceIte,nA,nB,nE,nL,h,h2,h3,z,h4,h5,h7,h8,h9,m0,m1,XH,XA]
   ·have h10:((y3.length:Int)==20)=false:=by have:=h4.1; simp; omega
    simp only[go_sem,reduceIte,↓reduceIte,nA,nB,nE,nL,h,h2,h3,z,h4,h5,h7,h8,h9,m0,m1,XH,XA]
  ·simp only[go_sem,reduceIte,↓reduceIte,nA,nB,nE,nL,h,h2,h3,z,h4,h5,h7,h8,m0,m1,XH,XA]
 ·cases h2:QI y1
  ·simp only[go_sem,reduceIte,↓reduceIte,nA,nB,nE,nL,h,h2,m0,m1,m2,XH,XA]
  cases h3:Xbl y2
  ·simp only[go_sem,reduceIte,↓reduceIte,nA,nB,nE,nL,h,h2,h3,m0,m1,m2,XH,XA]
  by_cases z:Xn y3=0
  rotate_left
  ·have z':(Xn y3 !=0)=true:=by simpa using z
   simp only[go_sem,reduceIte,↓reduceIte,nA,nB,nE,nL,h,h2,h3,z',m0,m1,m2,XH,XA]
  have z':(Xn y3 !=0)=false:=by simpa using z
  have h4:y3.length<=20/\smL X6 y3/\okN ⟨#[72,111,115,116]⟩=true:=⟨Zt z,h0,hn1⟩
  have h5:y3.length<=20/\smL X6 y3/\okN ⟨#[104,111,115,116]⟩=true:=⟨Zt z,h0,hn2⟩
  have h6:=XcX y3 ⟨#[72,111,115,116]⟩
  have h7:=Xd8 y3
  cases h8:XhW y3 ⟨#[72,111,115,116]⟩
  ·by_cases h9:20<=(y3.length:Int)
   ·have h10:((y3.length:Int)==20)=true:=by have:=h4.1; simp; omega
    simp only[go_sem,reduceIte,↓reduceIte,nA,nB,nE,nL,h,h2,h3,z,h4,h5,h7,h8,h9,m0,m1,m2,XH,XA]
   ·have h10:((y3.length:Int)==20)=false:=by have:=h4.1; simp; omega
    simp only[go_sem,reduceIte,↓reduceIte,nA,nB,nE,nL,h,h2,h3,z,h4,h5,h7,h8,h9,m0,m1,m2,XH,XA]
  ·simp only[go_sem,reduceIte,↓reduceIte,nA,nB,nE,nL,h,h2,h3,z,h4,h5,h7,h8,m0,m1,m2,XH,XA]) (rfl)
def Xse:SP Tryz.prog:=mkS tyA 118 Tryz.f118 [s49,XqU,Xsd] {md:=[.ro 1],rg:=[(0,[1],[1]),(1,[1,14],[1]),(2,[2],[]),(3,[1,24],[1]),(4,[2],[]),(5,[1,3],[1]),(6,[1,3,29],[1]),(7,[2],[]),(8,[1,38],[1]),(9,[2],[]),(10,[1,42],[1]),(11,[2],[]),(12,[1,4],[1]),(13,[1,4,47],[1]),(14,[1,4],[1]),(15,[1,4,67],[1]),(16,[2],[]),(17,[70],[]),(18,[2],[]),(19,[2],[])],lv:=[(0,[1,4],[1])],out:=[(0,[1],[1])],rets:=some ([2],[])} Tryz.func118 (by kernel_rfl)
@[go_sem] def XJU:Xse.g=118/\Xse.fs=⟨[.ro 1],Xse.F,false⟩:=⟨nr rfl,nr rfl⟩
@[go_sem] def XJV(fId:Int)(y4:ByteArray)(y5 y6:Bool)(y7:Int)(y8:Bool)(y9 y10 y11:ByteArray)(fGetHeaders:List Xx)(y12:List X2)(h0:smL X6 (Xl.mk fId y4 y5 y6 y7 y8 (XQ.mk y9 y10 y11 fGetHeaders) y12).Get.Headers):Xse.F [.agg [.i .i64 fId,.s y4,.b y5,.b y6,.i .i64 y7,.b y8,.s y9,.s y10,.s y11,.sl .ro 2 (fGetHeaders.map (Xj .ro)),.sl .ro 4 (y12.map (Xk .ro))]]=some (.i .i64 (XD (Xl.mk fId y4 y5 y6 y7 y8 (XQ.mk y9 y10 y11 fGetHeaders) y12)),[.u]):=Xb (y12.length+1) rfl rfl (λcx h=>by
 have hH:smL X6 fGetHeaders:=h0
 cases t1:XC fId
 ·simp only[go_sem,reduceIte,↓reduceIte,nA,nB,nE,nL,h,t1,XD]
 cases t2:XC y7
 ·simp only[go_sem,reduceIte,↓reduceIte,nA,nB,nE,nL,h,t1,t2,XD]
 have hku:Xcq y4=(decide (1<=(y4.size:Int))&&decide ((y4.size:Int)<=500)):=rfl
 by_cases k1:(y4.size:Int)<1
 ·have hk:Xcq y4=false:=by rw[hku]; simp; omega
  simp only[go_sem,reduceIte,↓reduceIte,nA,nB,nE,nL,h,t1,t2,k1,hk,XD]
 by_cases k2:500<(y4.size:Int)
 ·have hk:Xcq y4=false:=by rw[hku]; simp; omega
  simp only[go_sem,reduceIte,↓reduceIte,nA,nB,nE,nL,h,t1,t2,k1,k2,hk,XD]
 have hk:Xcq y4=true:=by rw[hku]; simp; omega
 by_cases z:XA (XQ.mk y9 y10 y11 fGetHeaders)=0
 rotate_left
 ·have z':(XA (XQ.mk y9 y10 y11 fGetHeaders) !=0)=true:=by simpa using z
  simp only[go_sem,reduceIte,↓reduceIte,nA,nB,nE,nL,h,t1,t2,k1,k2,hk,hH,z',XD]
 rcases(show(y6=true/\True)\/(y6=false/\(y7 !=0)=false)\/(y6=false/\(y7 !=0)=true) from by cases y6<;>cases (y7 !=0)<;>simp) with⟨o1,o2⟩ | ⟨o1,o2⟩ | ⟨o1,o2⟩
 rotate_left
 rotate_left
 ·simp only[go_sem,reduceIte,↓reduceIte,nA,nB,nE,nL,h,t1,t2,k1,k2,hk,hH,z,o1,o2,XD]
 all_goals
  by_cases w1:10<(y12.length:Int)
  ·simp only[go_sem,reduceIte,↓reduceIte,nA,nB,nE,nL,h,t1,t2,k1,k2,hk,hH,z,o1,o2,w1,XD]
  have hx:y12.length<=9223372036854775806:=by omega
  have hb0:=Xg Tryz.f118 0 _ _ rfl rfl
  obtain⟨r,hr,hq⟩:=YH (cx:=cx) (blk:=0) (body:=XN Tryz.f118 0) y12 (λk (s:Unit)=>⟨E [(1,.p ⟨false,1,[],0⟩),(4,.i .i64 k)],B [(1,[.i .i64 fId,.s y4,.b y5,.b y6,.i .i64 y7,.b y8,.s y9,.s y10,.s y11,.sl .ro 2 (fGetHeaders.map (Xj .ro)),.sl .ro 4 (y12.map (Xk .ro))])]⟩) (λs=>⟨E [(1,.p ⟨false,1,[],0⟩)],B [(1,[.i .i64 fId,.s y4,.b y5,.b y6,.i .i64 y7,.b y8,.s y9,.s y10,.s y11,.sl .ro 2 (fGetHeaders.map (Xj .ro)),.sl .ro 4 (y12.map (Xk .ro))])]⟩) (λx s=>!XaC x) (λx s=>()) (λx s=>(.ret,⟨E [(2,.i .i64 3)],B []⟩)) (λk s=>True)
    (λs hI G=>by simp only[go_sem,reduceIte,↓reduceIte,nA,nB,nE,h,Int.lt_irrefl,hb0,o1]) (λk hk s hI=>by
     have h1:((k:Int)<(y12.length:Int)):=Int.ofNat_lt.2 hk
     have hu:XaC y12[k]=(XC y12[k].Req&&XC y12[k].Due):=rfl
     by_cases c0:XaC y12[k]=true
     ·skip
      have c2:=c0
      rw[hu,Bool.and_eq_true] at c2
      obtain⟨a1,a2⟩:=c2
      all_goals exact .inr ⟨by rw[c0]; rfl,trivial,_,λG=>by simp only[go_sem,reduceIte,↓reduceIte,nA,nB,nE,nL,h,Xi (Xk .ro) y12 _ hk,o1,a1,a2,h1,Xh _ _ hk,Xd (show k<9223372036854775807 by omega),hb0]<;>with_reducible rfl,by simp only[go_sem,reduceIte,↓reduceIte,nB,h,o1]⟩
     ·have c1:XaC y12[k]=false:=by simpa using c0
      have c2:=c1
      rw[hu] at c2
      rcases(show(XC y12[k].Req=false/\True)\/(XC y12[k].Req=true/\XC y12[k].Due=false) from by cases h3:XC y12[k].Req<;>simp[h3] at c2 ⊢; exact c2) with⟨a1,a2⟩ | ⟨a1,a2⟩
      all_goals exact .inl ⟨by rw[c1]; rfl,λG=>by simp only[go_sem,reduceIte,↓reduceIte,nA,nB,nE,nL,h,Xi (Xk .ro) y12 _ hk,o1,a1,a2,h1,Xh _ _ hk,hb0]⟩) () trivial (y12.length+1) (Nat.le_refl _)
  rw[hb0] at hr
  simp only[o1] at hr
  have hn:=XfV XaC y12
  rcases hq with⟨s',e1,_,e3⟩ | ⟨x,s',e1,e3⟩
  ·have e2:=ZV e1
   cases w3:tw [] y12<;>simp only[go_sem,reduceIte,↓reduceIte,nA,nB,nE,nL,h,t1,t2,k1,k2,hk,hH,z,o1,o2,w1,hx,hr,e3,hn,e2,w3,XD]
  ·have e2:=Zk e1
   simp only[go_sem,reduceIte,↓reduceIte,nA,nB,nE,nL,h,t1,t2,k1,k2,hk,hH,z,o1,o2,w1,hr,e3,hn,e2,XD]) (rfl)
def XkJ(fs:List Xl)(x:Xl):(fs.any λy=>eqv x.Key y.Key)=fs.any λy=>Xcb y x:=by
 congr 1; funext y
 unfold Xcb
 rw[Bool.eq_iff_iff,Yx,Yx]
 exact eq_comm
def s52:SP Tryz.prog:=mkS tyA 52 Tryz.f52 [Xse,XqU] {md:=[.ro 1],rg:=[(0,[0],[]),(1,[0,11],[]),(2,[2],[]),(3,[0,3],[]),(4,[0,3,4],[]),(5,[0,3,4,16],[]),(6,[0,3,4],[]),(7,[0,3,4,5],[]),(8,[0,3,4,5,25],[]),(9,[2],[]),(10,[0,3,4],[]),(11,[0,3,6],[]),(12,[0,3,6,37],[]),(13,[0,3,6],[]),(14,[0,3,6,51],[]),(15,[2],[]),(16,[0,3,7],[]),(17,[0,3,7,55],[]),(18,[0,3,7],[]),(19,[0,3,7,8],[]),(20,[0,3,7,8,60],[]),(21,[0,3,7,8],[]),(22,[0,3,7,8,73],[]),(23,[2],[]),(24,[75],[]),(25,[2],[]),(26,[2],[])],lv:=[(0,[0,3,4],[]),(2,[0,3,6],[]),(4,[0,3,7],[]),(6,[0,3,7,8],[])],out:=[(0,[0,3],[]),(2,[0,3],[]),(4,[3],[]),(6,[0,3,7],[])],rets:=some ([2],[]),plan:=[(14,(.take 0 (.take 1 (.take 2 (.take 3 (.take 4 (.take 5 (.take 6 (.take 7 (.take 8 (.take 9 (.take 10 (.take 11 .done))))))))))))),(22,(.take 0 (.take 1 (.take 2 (.take 3 (.take 4 (.take 5 (.take 6 (.take 7 (.take 8 (.take 9 (.take 10 .done))))))))))))]} Tryz.func52 (by kernel_rfl)
@[go_sem] def d52:s52.g=52/\s52.fs=⟨[.ro 1],s52.F,false⟩:=⟨nr rfl,nr rfl⟩
@[go_sem] def e52(fs:List Xl)(h0:smL QX fs):s52.F [.sl .ro 11 (fs.map (Xc .ro))]=some (.i .i64 (XV fs),[.u]):=Xb (fs.length+1) rfl rfl (λcx h=>by
 by_cases h1:24<(fs.length:Int)
 ·simp only[go_sem,reduceIte,↓reduceIte,nB,nE,h,XV,h1]
 have hx:fs.length<=9223372036854775806:=by omega
 have hb0:=Xg Tryz.f52 0 _ _ rfl rfl
 obtain⟨z0,hz0,hqz0⟩:=YH (cx:=cx) (blk:=0) (body:=XN Tryz.f52 0) fs (λk (s:Unit)=>⟨E [(0,.sl .ro 11 (fs.map (Xc .ro))),(3,.sl .mut 4 ((Xb2 (fs.take k)).map (Xk .ro))),(4,.i .i64 k)],B []⟩) (λs=>⟨E [(0,.sl .ro 11 (fs.map (Xc .ro))),(3,.sl .mut 4 ((Xb2 (fs.take (fs.length))).map (Xk .ro)))],B []⟩) (λx s=>XD x !=0) (λx s=>()) (λx s=>(.ret,⟨E [(2,.i .i64 (XD x))],B []⟩)) (λk s=>(Xb2 (fs.take k)).length<=10*k)
   (λs hI G=>by simp only[go_sem,reduceIte,↓reduceIte,nB,nE,h,Int.lt_irrefl,hb0,List.take_length]) (λk hk s hI=>by
    have h1:((k:Int)<(fs.length:Int)):=Int.ofNat_lt.2 hk
    obtain⟨u0,u1,u2,u3,u4,u5,u6,u7⟩:=h0.2 _ (List.getElem_mem hk)
    have hH:smL X6 fs[k].Get.Headers:=u6.2.2.2
    by_cases c0:XD fs[k]=0
    ·skip
     have hw:=Xao c0
     have p1:=Xfl fs[k].Waiters
     have p2:(Xb2 (fs.take k)).map (Xk .ro)++fs[k].Waiters.map (Xk .ro)=(Xb2 (fs.take (k+1))).map (Xk .ro):=by rw[Xeb fs k hk,List.map_append]
     have p3:((Xb2 (fs.take k)).length+fs[k].Waiters.length)*32<=140737488355328:=by omega
     have p4:(fs[k].Waiters.map (Xk .ro)).take fs[k].Waiters.length=fs[k].Waiters.map (Xk .ro):=List.take_of_length_le (by simp)
     all_goals exact .inr ⟨by rw[c0]; rfl,(by rw[Xeb fs k hk,List.length_append]; omega),_,λG=>by simp only[go_sem,reduceIte,↓reduceIte,nA,nB,nE,nT,h,Xi (Xc .ro) fs _ hk,hH,c0,p1,p2,p3,List.length_map,h1,Xh _ _ hk,Xd (show k<9223372036854775807 by omega),hb0]<;>with_reducible rfl,by simp only[go_sem,reduceIte,↓reduceIte,nB,h]⟩
    ·have c1:(XD fs[k] !=0)=true:=by simpa using c0
     all_goals exact .inl ⟨c1,λG=>by simp only[go_sem,reduceIte,↓reduceIte,nA,nB,nE,h,Xi (Xc .ro) fs _ hk,hH,List.length_map,c1,h1,Xh _ _ hk,hb0]⟩) () (Nat.zero_le _) (fs.length+1) (Nat.le_refl _)
 rw[hb0] at hz0
 have hT:Xb2 (fs.take 0)=[]:=rfl
 simp only[hT,List.map_nil] at hz0
 rcases hqz0 with⟨s0,e1,_,e3⟩ | ⟨x,s0,e1,e3⟩
 rotate_left
 ·have e2:=Z9 e1
  have e4:(XD x !=0)=true:=XaQ e1
  simp only[go_sem,reduceIte,↓reduceIte,nA,nM,nB,nE,h,hz0,e3,e2,e4,XV,h1]
 have e2:=Z8 e1
 have hall:∀x∈fs,x.Waiters.length<=10:=λx hx=>Xao (Xea e1 x hx)
 have hb1:=Xg Tryz.f52 1 _ _ rfl rfl
 obtain⟨z1,hz1,hqz1⟩:=Xq (cx:=cx) (blk:=2) (body:=XN Tryz.f52 1) (fs.zip fs.tail) (λk (s:Unit)=>⟨E [(0,.sl .ro 11 (fs.map (Xc .ro))),(3,.sl .mut 4 ((Xb2 fs).map (Xk .ro))),(6,.i .i64 ((k+1:Nat):Int))],B []⟩) (λs=>⟨E [(0,.sl .ro 11 (fs.map (Xc .ro))),(3,.sl .mut 4 ((Xb2 fs).map (Xk .ro)))],B []⟩) (λx s=>decide (x.2.Id<=x.1.Id)) (λx s=>()) (λx s=>(.ret,⟨E [(2,.i .i64 1)],B []⟩)) (λk s=>True)
   (λs hI G=>by simp only[go_sem,reduceIte,↓reduceIte,nB,nE,h,hb1,show ¬((((fs.zip fs.tail).length+1:Nat):Int)<(fs.length:Int)) by simp; omega]) (λk hk s hI=>by
    have h1:((k:Int)<((fs.zip fs.tail).length:Int)):=Int.ofNat_lt.2 hk
    have hk2:k+1<fs.length:=by simp at hk; omega
    have h3:(fs.zip fs.tail)[k]=(fs[k]'(by omega),fs[k+1]'hk2):=by simp
    rw[h3]
    have i0:((k+1:Nat):Int)<(fs.length:Int):=Int.ofNat_lt.2 hk2
    have i2:(IntKind.i64).wrap (((k+1:Nat):Int)-1)=(k:Int):=by rw[Xo (by omega) (by omega)]; omega
    have i3:(IntKind.i64).wrap (((k+1:Nat):Int)+1)=((k+1+1:Nat):Int):=Xd (by omega)
    exact⟨_,_,_,λG=>by simp only[go_sem,reduceIte,↓reduceIte,nA,nB,nE,nL,h,i0,i2,i3,Xh fs.length _ hk2,Xh fs.length k (by omega),Xi (Xc .ro) fs _ hk2,Xi (Xc .ro) fs k (by omega),hb1]<;>with_reducible rfl,by simp,λhc=>⟨trivial,by simp only[go_sem,reduceIte,↓reduceIte,nB,h]⟩⟩) () trivial (fs.length+1) (by simp<;>omega)
 rw[hb1] at hz1
 rcases hqz1 with⟨s1,g1,_,g3⟩ | ⟨x,s1,g1,g3⟩
 rotate_left
 ·have g2:Xum fs=true:=QJ g1
  simp only[go_sem,reduceIte,↓reduceIte,nA,nM,nB,nE,h,hz0,e3,e2,hz1,g3,g2,List.take_length,XV,h1]
 have g2:Xum fs=false:=runS_any g1
 have hb2:=Xg Tryz.f52 2 _ _ rfl rfl
 obtain⟨z2,hz2,hqz2⟩:=Xq (cx:=cx) (blk:=4) (body:=XN Tryz.f52 2) fs (λk (s:List Xl)=>⟨E [(0,.sl .ro 11 (fs.map (Xc .ro))),(3,.sl .mut 4 ((Xb2 fs).map (Xk .ro))),(7,.i .i64 k)],B []⟩) (λs=>⟨E [(3,.sl .mut 4 ((Xb2 fs).map (Xk .ro)))],B []⟩) (λx s=>s.any λy=>Xcb y x) (λx s=>s++[x]) (λx s=>(.ret,⟨E [(2,.i .i64 6)],B []⟩)) (λk s=>s=fs.take k)
   (λs hI G=>by simp only[go_sem,reduceIte,↓reduceIte,nB,nE,h,Int.lt_irrefl,hb2]) (λk hk s hI=>by
    have h1:((k:Int)<(fs.length:Int)):=Int.ofNat_lt.2 hk
    obtain⟨q,hq0⟩:∃q,q=k:=⟨k,rfl⟩
    have hq1:q<fs.length:=by omega
    have hlen:(fs.take q).length=q:=by rw[List.length_take]; omega
    have hb3:=Xg Tryz.f52 3 _ _ rfl rfl
    obtain⟨r2,hr2,hqr2⟩:=Xq (cx:=cx) (blk:=6) (body:=XN Tryz.f52 3) (fs.take q) (λk (s:Unit)=>⟨E [(0,.sl .ro 11 (fs.map (Xc .ro))),(3,.sl .mut 4 ((Xb2 fs).map (Xk .ro))),(7,.i .i64 q),(8,.i .i64 k)],B []⟩) (λs=>⟨E [(0,.sl .ro 11 (fs.map (Xc .ro))),(3,.sl .mut 4 ((Xb2 fs).map (Xk .ro))),(7,.i .i64 q)],B []⟩) (λx s=>eqv fs[q].Key x.Key) (λx s=>()) (λx s=>(.ret,⟨E [(2,.i .i64 6)],B []⟩)) (λk s=>True)
      (λs hI G=>by simp only[go_sem,reduceIte,↓reduceIte,nB,nE,h,Int.lt_irrefl,hb3,hlen,Int.lt_irrefl]) (λk hk s hI=>by
       have h1:((k:Int)<((fs.take q).length:Int)):=Int.ofNat_lt.2 hk
       have hk2:k<q:=by rw[List.length_take] at hk; omega
       have hk3:k<fs.length:=by omega
       have hkq:(k:Int)<(q:Int):=by omega
       have e1:(fs.take q)[k]=fs[k]:=by simp
       have i1:=Xh fs.length k hk3
       have i2:=Xh fs.length q hq1
       have w1:=Xd (show k<9223372036854775807 by omega)
       all_goals exact⟨_,_,_,λG=>by simp only[go_sem,reduceIte,↓reduceIte,nA,nB,nE,nL,h,hkq,i1,i2,w1,XH,Xi (Xc .ro) fs k hk3,Xi (Xc .ro) fs q hq1,List.length_map,hb3]<;>with_reducible rfl,by rw[e1],λhc=>⟨trivial,by simp only[go_sem,reduceIte,↓reduceIte,nB,nE,h]⟩⟩) () trivial (fs.length+1) (by rw[List.length_take]; omega)
    rw[hb3] at hr2
    subst hq0
    have hfl:=XkJ (fs.take q) fs[q]
    have hy:r2=(if(s.any λy=>Xcb y fs[q])=true then some (.ret,⟨E [(2,.i .i64 6)],B []⟩) else some (.ex 6,⟨E [(0,.sl .ro 11 (fs.map (Xc .ro))),(3,.sl .mut 4 ((Xb2 fs).map (Xk .ro))),(7,.i .i64 q)],B []⟩)):=by
     subst hI
     rcases hqr2 with⟨s',e1,_,e3⟩ | ⟨x,s',e1,e3⟩
     ·rw[<-hfl,runS_any e1,e3]; rfl
     ·rw[<-hfl,QJ e1,e3]; rfl
    rw[hy] at hr2
    exact⟨_,_,_,λG=>by simp only[go_sem,reduceIte,↓reduceIte,nB,nE,h,hr2,h1,Xd (show q<9223372036854775807 by omega),hb2]<;>with_reducible rfl,Iff.rfl,λhc=>⟨(by rw[hI]; exact(ZN fs q hk).symm),by simp only[go_sem,reduceIte,↓reduceIte,nB,nE,h]⟩⟩) [] rfl (fs.length+1) (Nat.le_refl _)
 rw[hb2] at hz2
 have hal:(Xb2 fs).length<=9223372036854775806:=by have:=XdS hall; omega
 rcases hqz2 with⟨s2,k1,_,k3⟩ | ⟨x,s2,k1,k3⟩
 ·have k2:=XaO k1
  cases k4:tw [] (Xb2 fs)<;>simp only[go_sem,reduceIte,↓reduceIte,nA,nM,nB,nE,h,hz0,e3,e2,hz1,g3,g2,hz2,k3,k2,k4,hal,List.take_length,XV,h1]
 ·have k2:=XaP k1
  simp only[go_sem,reduceIte,↓reduceIte,nA,nM,nB,nE,h,hz0,e3,e2,hz1,g3,g2,hz2,k3,k2,List.take_length,XV,h1]) (rfl)
def s73:SP Tryz.prog:=mkS tyA 73 Tryz.f73 [XoP] {md:=[.ro 1],rets:=some ([2],[])} Tryz.func73 (by kernel_rfl)
@[go_sem] def d73:s73.g=73/\s73.fs=⟨[.ro 1],s73.F,false⟩:=⟨nr rfl,nr rfl⟩
@[go_sem] def e73(fId:Int)(y4:ByteArray)(y5 y6:Bool)(y7:Int)(y8:Bool)(y9 y10 y11:ByteArray)(fGetHeaders:List Xx)(y12:List X2)(h0:(Xl.mk fId y4 y5 y6 y7 y8 (XQ.mk y9 y10 y11 fGetHeaders) y12).Get.Host.size<=9223372036854775806):s73.F [.pr [.i .i64 fId,.s y4,.b y5,.b y6,.i .i64 y7,.b y8,.s y9,.s y10,.s y11,.sl .ro 2 (fGetHeaders.map (Xj .ro)),.sl .ro 4 (y12.map (Xk .ro))]]=some (.s (QH (Xl.mk fId y4 y5 y6 y7 y8 (XQ.mk y9 y10 y11 fGetHeaders) y12).Get.Host),[.u]):=Xb (0) rfl rfl (λcx h=>by
 simp only[go_sem,reduceIte,↓reduceIte,nA,nB,nL,h,h0]) (rfl)
def XqV:SP Tryz.prog:=mkS tyA 120 Tryz.f120 [] {md:=[.ro 1,.ro 1],rg:=[(0,[0,1],[]),(1,[0,1,5],[]),(2,[0,1,5,12],[]),(3,[0,1,5],[]),(4,[0,1,5,24],[]),(5,[4],[]),(6,[4],[])],lv:=[(0,[0,1,5],[])],out:=[(0,[],[])],rets:=some ([4],[])} Tryz.func120 (by kernel_rfl)
@[go_sem] def XJW:XqV.g=120/\XqV.fs=⟨[.ro 1,.ro 1],XqV.F,false⟩:=⟨nr rfl,nr rfl⟩
@[go_sem] def XJX(y13:Int)(y14:List ZM)(id:Int)(h0:(Bulk.mk y13 y14).Queue.length<=9223372036854775806):XqV.F [.pr [.i .i64 y13,.sl .ro 2 (y14.map (XF .ro))],.i .i64 id]=some (.i .i64 (Qg (Bulk.mk y13 y14) id),[.u,.u]):=Xb (y14.length+1) rfl rfl (λcx h=>by
 have hx:=h0
 simp only at hx
 have hb0:=Xg Tryz.f120 0 _ _ rfl rfl
 obtain⟨r,hr,hq⟩:=Xq (cx:=cx) (blk:=0) (body:=XN Tryz.f120 0) y14 (λk (s:Nat)=>⟨E [(0,.pr [.i .i64 y13,.sl .ro 2 (y14.map (XF .ro))]),(1,.i .i64 id),(5,.i .i64 k)],B []⟩) (λs=>⟨E [],B []⟩) (λx s=>x.Id==id) (λx s=>s+1) (λx s=>(.ret,⟨E [(4,.i .i64 s)],B []⟩)) (λk s=>k=s)
   (λs hI G=>by simp only[go_sem,reduceIte,↓reduceIte,nB,nE,h,Int.lt_irrefl,hb0,hI]) (λk hk s hI=>by
    have h1:((k:Int)<(y14.length:Int)):=Int.ofNat_lt.2 hk
    obtain rfl:=hI
    exact⟨_,_,_,λG=>by simp only[go_sem,reduceIte,↓reduceIte,nA,nB,nE,nL,h,Xi (XF .ro) y14 _ hk,h1,Xh _ _ hk,Xd (show k<9223372036854775807 by omega),hb0]<;>with_reducible rfl,Iff.rfl,λhc=>⟨rfl,by simp only[go_sem,reduceIte,↓reduceIte,nB,h]⟩⟩) 0 rfl (y14.length+1) (Nat.le_refl _)
 rw[hb0] at hr
 rcases hq with⟨s',e1,_,e3⟩ | ⟨x,s',e1,e3⟩
 ·simp only[go_sem,reduceIte,↓reduceIte,nB,nE,iG,h,hr,e3,Qg,ZJ e1]
 ·simp only[go_sem,reduceIte,↓reduceIte,nB,h,hr,e3,Qg,Zc e1]) (rfl)
def Qz(os:List Origin)(f:Xl):Int:=X8 os (QH f.Get.Host)
def Yv(os:List Origin)(i:Int)(s:Int×Int)(f:Xl):Int×Int:=if(Qz os f !=i)=true then s else if f.Out=true then(s.1+1,s.2) else(s.1,s.2+1)
def X5(os:List Origin)(fs:List Xl)(i:Int):Int×Int:=fs.foldl (λs f=>Yv os i s f) (0,0)
def YK(os:List Origin)(next:Int)(f:Xl):Bool:=decide (f.Id<next)&&decide (0<=Qz os f)&&(f.Out||decide (0<=Qg ((os[(Qz os f).toNat]?.map (·.Bulk)).getD ⟨0,[]⟩) f.Id))
def Y6(os:List Origin)(fs:List Xl)(i:Int)(o:Origin):Bool:=((X5 os fs i).1==o.Bulk.Busy)&&((X5 os fs i).2==(o.Bulk.Queue.length:Int))
def Q3(os:List Origin)(fs:List Xl):Nat->List Origin->Bool
 | _,[]=>true
 | i,o :: r=>if(!Y6 os fs i o)=true then false else Q3 os fs (i+1) r
def ZO(now:Int)(e:XK):Bool:=decide (e.Meta.At<=now)&&decide ((e.Headers.length:Int)<=17)
def UZ(v:Shield):Bool:=v.Flights.all (YK v.Origins v.Next)&&Q3 v.Origins v.Flights 0 v.Origins&&!(v.Store.Trial++v.Store.Kept).any λx=>!ZO v.Now x
def Xap{os:List Origin}{fs:List Xl}:∀{xs:List Origin} {i i':Nat},Xac (λx i=>!Y6 os fs (i:Nat) x) (λx i=>i+1) xs i=.inl i'->Q3 os fs i xs=true
 | [],_,_,_=>rfl
 | x :: xs,i,i',h=>by
  rw[Yp] at h
  split at h
  ·cases h
  ·rename_i hc; rw[Q3,if_neg hc]; exact Xap h
def Xaq{os:List Origin}{fs:List Xl}:∀{xs:List Origin} {i:Nat} {q:Origin×Nat},Xac (λx i=>!Y6 os fs (i:Nat) x) (λx i=>i+1) xs i=.inr q->Q3 os fs i xs=false
 | [],_,_,h=>by cases h
 | x :: xs,i,q,h=>by
  rw[Yp] at h
  split at h
  ·rename_i hc; rw[Q3,if_pos hc]
  ·rename_i hc; rw[Q3,if_neg hc]; exact Xaq h
def Xc1(os:List Origin)(fs:List Xl)(k:Nat):List Int:=(List.range os.length).map λi:Nat=>(X5 os (fs.take k) (i:Int)).1
def Xc2(os:List Origin)(fs:List Xl)(k:Nat):List Int:=(List.range os.length).map λi:Nat=>(X5 os (fs.take k) (i:Int)).2
def XdT(os:List Origin)(fs:List Xl)(k:Nat):(Xc1 os fs k).length=os.length:=by simp[Xc1]
def XdU(os:List Origin)(fs:List Xl)(k:Nat):(Xc2 os fs k).length=os.length:=by simp[Xc2]
def XdV{os:List Origin}{fs:List Xl}{k i:Nat}(h:i<(Xc1 os fs k).length):(Xc1 os fs k)[i]=(X5 os (fs.take k) (i:Int)).1:=by simp[Xc1]
def XdW{os:List Origin}{fs:List Xl}{k i:Nat}(h:i<(Xc2 os fs k).length):(Xc2 os fs k)[i]=(X5 os (fs.take k) (i:Int)).2:=by simp[Xc2]
def Xeh{α β:Type}(b:β):∀xs:List α,xs.map (λ_=>b)=List.replicate xs.length b
 | []=>rfl
 | x :: xs=>by rw[List.map_cons,Xeh b xs]; rfl
def XkK(os:List Origin)(fs:List Xl):(Xc1 os fs 0).map Xca=List.replicate os.length [.i .i64 0]:=by
 have:Xc1 os fs 0=(List.range os.length).map λ_=>(0:Int):=rfl
 rw[this,Xeh,List.map_replicate,List.length_range]; rfl
def XkL(os:List Origin)(fs:List Xl):(Xc2 os fs 0).map Xca=List.replicate os.length [.i .i64 0]:=by
 have:Xc2 os fs 0=(List.range os.length).map λ_=>(0:Int):=rfl
 rw[this,Xeh,List.map_replicate,List.length_range]; rfl
def XhY(os:List Origin)(fs:List Xl)(k:Nat)(h:k<fs.length)(i:Int):X5 os (fs.take (k+1)) i=Yv os i (X5 os (fs.take k) i) fs[k]:=by
 unfold X5
 rw[ZN fs k h,List.foldl_append]; rfl
def XgQ(os:List Origin)(i:Int):∀(fs:List Xl) (s:Int×Int),s.1<=(fs.foldl (λs f=>Yv os i s f) s).1/\(fs.foldl (λs f=>Yv os i s f) s).1<=s.1+fs.length/\s.2<=(fs.foldl (λs f=>Yv os i s f) s).2/\(fs.foldl (λs f=>Yv os i s f) s).2<=s.2+fs.length
 | [],s=>by simp
 | f :: fs,s=>by
  rw[List.foldl_cons]
  have:=XgQ os i fs (Yv os i s f)
  have h2:s.1<=(Yv os i s f).1/\(Yv os i s f).1<=s.1+1/\s.2<=(Yv os i s f).2/\(Yv os i s f).2<=s.2+1:=by
   unfold Yv; split<;>(try split)<;>(try simp only)<;>omega
  simp only[List.length_cons]
  omega
def XgR(os:List Origin)(fs:List Xl)(i:Int):0<=(X5 os fs i).1/\(X5 os fs i).1<=fs.length/\0<=(X5 os fs i).2/\(X5 os fs i).2<=fs.length:=by
 have:=XgQ os i fs (0,0)
 simp only[Int.zero_add] at this
 exact this
def XiZ{os:List Origin}{fs:List Xl}{k j:Nat}(h:k<fs.length)(hj:j<os.length)(hp:Qz os fs[k]=(j:Int)) :
  (fs[k].Out=true->(Xc1 os fs (k+1))=(Xc1 os fs k).set j ((X5 os (fs.take k) (j:Int)).1+1)/\Xc2 os fs (k+1)=Xc2 os fs k) /\
  (fs[k].Out=false->(Xc2 os fs (k+1))=(Xc2 os fs k).set j ((X5 os (fs.take k) (j:Int)).2+1)/\Xc1 os fs (k+1)=Xc1 os fs k):=by
 have e:∀i:Nat,X5 os (fs.take (k+1)) (i:Int)=if j=i then(if fs[k].Out=true then((X5 os (fs.take k) (i:Int)).1+1,(X5 os (fs.take k) (i:Int)).2) else((X5 os (fs.take k) (i:Int)).1,(X5 os (fs.take k) (i:Int)).2+1)) else X5 os (fs.take k) (i:Int):=λi=>by
  rw[XhY os fs k h]
  unfold Yv
  rw[hp]
  by_cases c:j=i
  ·subst c; simp
  ·have c':((j:Int) !=(i:Int))=true:=by simp; omega
   rw[if_pos c',if_neg c]
 refine⟨λho=>⟨?_,?_⟩,λho=>⟨?_,?_⟩⟩
 all_goals
  apply List.ext_getElem
  ·simp[Xc1,Xc2]
  ·intro i h1 h2
   simp only[Xc1,Xc2,List.getElem_set,List.getElem_map,List.getElem_range,e,ho]
   by_cases c:j=i
   ·subst c; simp
   ·simp[c]
@[go_sem] def Xva(ttt1 ttt2 ttt3 ttt4:AV)(y13:Int)(y14:List ZM)(id:Int)(h0:(Bulk.mk y13 y14).Queue.length<=9223372036854775806):XqV.F [.pr [.i .i64 y13,.sl .ro 2 (y14.map (XF .ro)),ttt1,ttt2,ttt3,ttt4],.i .i64 id]=some (.i .i64 (Qg (Bulk.mk y13 y14) id),[.u,.u]):=Xb (y14.length+1) rfl rfl (λcx h=>by
 have hx:=h0
 simp only at hx
 have hb0:=Xg Tryz.f120 0 _ _ rfl rfl
 obtain⟨r,hr,hq⟩:=Xq (cx:=cx) (blk:=0) (body:=XN Tryz.f120 0) y14 (λk (s:Nat)=>⟨E [(0,.pr [.i .i64 y13,.sl .ro 2 (y14.map (XF .ro)),ttt1,ttt2,ttt3,ttt4]),(1,.i .i64 id),(5,.i .i64 k)],B []⟩) (λs=>⟨E [],B []⟩) (λx s=>x.Id==id) (λx s=>s+1) (λx s=>(.ret,⟨E [(4,.i .i64 s)],B []⟩)) (λk s=>k=s)
   (λs hI G=>by simp only[go_sem,reduceIte,↓reduceIte,nA,nB,nE,nL,h,Int.lt_irrefl,hb0,hI]) (λk hk s hI=>by
    have h1:((k:Int)<(y14.length:Int)):=Int.ofNat_lt.2 hk
    obtain rfl:=hI
    exact⟨_,_,_,λG=>by simp only[go_sem,reduceIte,↓reduceIte,nA,nB,nE,nL,h,Xi (XF .ro) y14 _ hk,h1,Xh _ _ hk,Xd (show k<9223372036854775807 by omega),hb0]<;>with_reducible rfl,Iff.rfl,λhc=>⟨rfl,by simp only[go_sem,reduceIte,↓reduceIte,nB,h]⟩⟩) 0 rfl (y14.length+1) (Nat.le_refl _)
 rw[hb0] at hr
 rcases hq with⟨s',e1,_,e3⟩ | ⟨x,s',e1,e3⟩
 ·simp only[go_sem,reduceIte,↓reduceIte,nB,nE,iG,h,hr,e3,Qg,ZJ e1]
 ·simp only[go_sem,reduceIte,↓reduceIte,nB,h,hr,e3,Qg,Zc e1]) (rfl)
@[go_sem] def Xvb(ttt1 ttt2:AV)(y15 y16:Int)(y17 y18:List XK)(h0:((Store.mk y15 y16 y17 y18).Trial.length<=1048576/\(Store.mk y15 y16 y17 y18).Kept.length<=1048576)):Xod.F [.pr [.i .i64 y15,.i .i64 y16,.sl .ro 13 (y17.map (Xa .ro)),.sl .ro 13 (y18.map (Xa .ro)),ttt1,ttt2]]=some (.sl .mut 13 (((Store.mk y15 y16 y17 y18).Trial++(Store.mk y15 y16 y17 y18).Kept).map (Xa .ro)),[.u]):=Xb (0) rfl rfl (λcx h=>by
 obtain⟨g1,g2⟩:=h0
 simp only at g1 g2
 have p1:=XqM y17
 have p2:=XqM y18
 have t1:y17.length*152<=140737488355328:=by omega
 have t2:(y17.length+y18.length)*152<=140737488355328:=by omega
 have t3:y17.map (Xa .ro)++y18.map (Xa .ro)=(y17++y18).map (Xa .ro):=List.map_append.symm
 simp only[go_sem,reduceIte,↓reduceIte,nA,nM,nB,nL,h,p1,p2,t1,t2,t3]) (rfl)
def s53:SP Tryz.prog:=mkS tyA 53 Tryz.f53 [s73,s76,Xod,XqV] {md:=[.ro 1],rg:=[(0,[0],[]),(1,[0,3],[]),(2,[0,3,4],[]),(3,[0,3,4,5],[]),(4,[0,3,4,5,29],[]),(5,[0,3,4,5],[]),(6,[0,3,4,5,6,35],[6]),(7,[0,3,4,5,6,7,35],[6]),(8,[0,3,4,5,6,7,35,70],[6]),(9,[2],[]),(10,[0,3,4,5,7,72],[]),(11,[0,3,4,5],[]),(12,[0,3,4,5],[]),(13,[0,3,4,8],[]),(14,[0,3,4,8,91],[]),(15,[0,3,4,8],[]),(16,[0,3,4,8,124],[]),(17,[2],[]),(18,[0,9],[]),(19,[0,9,10],[]),(20,[0,9,10,132],[]),(21,[0,9,10],[]),(22,[0,9,10,154],[]),(23,[2],[]),(24,[2],[])],lv:=[(0,[0,3,4,5],[]),(2,[0,3,4,8],[]),(4,[0,9,10],[])],out:=[(0,[0,3,4],[]),(2,[0],[]),(4,[],[])],rets:=some ([2],[]),plan:=[(8,(.take 0 (.take 1 (.take 2 (.take 3 (.take 4 (.take 5 (.take 6 (.take 7 (.take 8 (.take 9 (.take 10 (.take 11 (.take 12 (.take 13 (.take 14 (.take 15 (.take 16 (.take 17 (.take 18 (.take 19 (.take 20 (.take 21 (.take 22 (.take 23 (.take 24 (.one 25 (.take 26 (.take 27 (.take 28 .done)))))))))))))))))))))))))))))),(16,(.take 0 (.take 1 (.take 2 (.take 3 (.take 4 (.take 5 (.take 6 (.take 7 (.take 8 (.take 9 (.take 10 (.take 11 (.take 12 (.take 13 (.take 14 (.take 15 (.take 16 (.take 17 (.take 18 (.take 19 (.take 20 (.take 21 (.take 22 (.take 23 (.take 24 (.take 25 (.take 26 (.take 27 (.take 28 (.take 29 (.take 30 .done)))))))))))))))))))))))))))))))),(22,(.take 0 (.take 1 (.take 2 (.take 3 (.take 4 (.take 5 (.take 6 (.take 7 (.take 8 (.take 9 (.take 10 (.take 11 (.take 12 (.take 13 (.take 14 (.take 15 (.take 16 (.take 17 (.take 18 (.take 19 .done)))))))))))))))))))))]} Tryz.func53 (by kernel_rfl)
@[go_sem] def d53:s53.g=53/\s53.fs=⟨[.ro 1],s53.F,false⟩:=⟨nr rfl,nr rfl⟩
@[go_sem] def e53(y19 y20 y21 y22 y23 y24 y25 y26:Int)(y27:List ByteArray)(y28 y29 y30 y31 y32 y33 y34 y35 vNow vNext y36 y37:Int)(y38 y39:List XK)(y40:List Origin)(y41:List Xl)(h0:YS (Shield.mk (Config.mk y19 y20 y21 y22 y23 y24 y25 y26 y27 (Lanes.mk y28 y29 y30) (Rules.mk y31 y32 y33 y34 y35)) vNow vNext (Store.mk y36 y37 y38 y39) y40 y41)):s53.F [.pr [.i .i64 y19,.i .i64 y20,.i .i64 y21,.i .i64 y22,.i .i64 y23,.i .i64 y24,.i .i64 y25,.i .i64 y26,.sl .ro 1 (y27.map Ye),.i .i64 y28,.i .i64 y29,.i .i64 y30,.i .i64 y31,.i .i64 y32,.i .i64 y33,.i .i64 y34,.i .i64 y35,.i .i64 vNow,.i .i64 vNext,.i .i64 y36,.i .i64 y37,.sl .ro 13 (y38.map (Xa .ro)),.sl .ro 13 (y39.map (Xa .ro)),.sl .ro 7 (y40.map (Xe .ro)),.sl .ro 11 (y41.map (Xc .ro))]]=some (.b (UZ (Shield.mk (Config.mk y19 y20 y21 y22 y23 y24 y25 y26 y27 (Lanes.mk y28 y29 y30) (Rules.mk y31 y32 y33 y34 y35)) vNow vNext (Store.mk y36 y37 y38 y39) y40 y41)),[.u]):=Xb ((max y41.length (max y40.length (y38++y39).length)+1)) rfl rfl (λcx h=>by
 obtain⟨q0,q1,q2,q3,q4,q5⟩:=h0
 simp only at q3 q4 q5
 have hx0:=q5.1
 have hx1:=q4.1
 have hL:y40.length<=9223372036854775806:=by omega
 have hle:y38.length<=1048576/\y39.length<=1048576:=⟨q3.2.2.1.1,q3.2.2.2.1⟩
 have hnn:(0:Int)<=(y40.length:Int):=by omega
 have hmk:(y40.length:Int)*8<=140737488355328:=by omega
 have t0:List.replicate y40.length [AV.i .i64 0]=(Xc1 y40 y41 0).map Xca:=(XkK _ _).symm
 have t1:List.replicate y40.length [AV.i .i64 0]=(Xc2 y40 y41 0).map Xca:=(XkL _ _).symm
 have hb0:=Xg Tryz.f53 0 _ _ rfl rfl
 obtain⟨z0,hz0,hqz0⟩:=Xq (cx:=cx) (blk:=0) (body:=XN Tryz.f53 0) y41 (λk (s:Unit)=>⟨E [(0,.pr [.i .i64 y19,.i .i64 y20,.i .i64 y21,.i .i64 y22,.i .i64 y23,.i .i64 y24,.i .i64 y25,.i .i64 y26,.sl .ro 1 (y27.map Ye),.i .i64 y28,.i .i64 y29,.i .i64 y30,.i .i64 y31,.i .i64 y32,.i .i64 y33,.i .i64 y34,.i .i64 y35,.i .i64 vNow,.i .i64 vNext,.i .i64 y36,.i .i64 y37,.sl .ro 13 (y38.map (Xa .ro)),.sl .ro 13 (y39.map (Xa .ro)),.sl .ro 7 (y40.map (Xe .ro)),.sl .ro 11 (y41.map (Xc .ro))]),(3,.sl .mut 1 ((Xc1 y40 y41 k).map Xca)),(4,.sl .mut 1 ((Xc2 y40 y41 k).map Xca)),(5,.i .i64 k)],B []⟩) (λs=>⟨E [(0,.pr [.i .i64 y19,.i .i64 y20,.i .i64 y21,.i .i64 y22,.i .i64 y23,.i .i64 y24,.i .i64 y25,.i .i64 y26,.sl .ro 1 (y27.map Ye),.i .i64 y28,.i .i64 y29,.i .i64 y30,.i .i64 y31,.i .i64 y32,.i .i64 y33,.i .i64 y34,.i .i64 y35,.i .i64 vNow,.i .i64 vNext,.i .i64 y36,.i .i64 y37,.sl .ro 13 (y38.map (Xa .ro)),.sl .ro 13 (y39.map (Xa .ro)),.sl .ro 7 (y40.map (Xe .ro)),.sl .ro 11 (y41.map (Xc .ro))]),(3,.sl .mut 1 ((Xc1 y40 y41 (y41.length)).map Xca)),(4,.sl .mut 1 ((Xc2 y40 y41 (y41.length)).map Xca))],B []⟩) (λx s=>!YK y40 vNext x) (λx s=>()) (λx s=>(.ret,⟨E [(2,.b false)],B []⟩)) (λk s=>True)
   (λs hI G=>by simp only[go_sem,reduceIte,↓reduceIte,nB,nE,h,Int.lt_irrefl,hb0]) (λk hk s hI=>by
    have h1:((k:Int)<(y41.length:Int)):=Int.ofNat_lt.2 hk
    have hm:=q5.2 _ (List.getElem_mem hk)
    have hh:y41[k].Get.Host.size<=9223372036854775806:=by have:y41[k].Get.Host.size<=1048576:=hm.2.2.2.2.2.2.1.2.1; omega
    have hp:Qz y40 y41[k]=X8 y40 (QH y41[k].Get.Host):=rfl
    have hf:YK y40 vNext y41[k]=(decide (y41[k].Id<vNext)&&decide (0<=Qz y40 y41[k])&&(y41[k].Out||decide (0<=Qg ((y40[(Qz y40 y41[k]).toNat]?.map (·.Bulk)).getD ⟨0,[]⟩) y41[k].Id))):=rfl
    have hp':=hp
    rw[hp] at hf
    generalize hA:X8 y40 (QH y41[k].Get.Host)=A at hf hp'
    by_cases c1:vNext<=y41[k].Id
    ·have hC:(!YK y40 vNext y41[k])=true:=by
      have c1':¬(y41[k].Id<vNext):=by omega
      rw[hf]; simp[c1']
     exact⟨True,inferInstance,⟨E [],B []⟩,λG=>by rw[if_pos trivial]; simp only[go_sem,reduceIte,↓reduceIte,nA,nB,nE,nL,h,Xi (Xc .ro) y41 k hk,hL,hh,c1,hA,h1,Xh _ _ hk,hb0],⟨λ_=>hC,λ_=>trivial⟩,λhc=>absurd (hC.symm.trans hc) (by decide)⟩
    have c1':y41[k].Id<vNext:=by omega
    by_cases c2:A<0
    ·have hC:(!YK y40 vNext y41[k])=true:=by
      have c2':¬(0<=A):=by omega
      rw[hf]; simp[c2']
     exact⟨True,inferInstance,⟨E [],B []⟩,λG=>by rw[if_pos trivial]; simp only[go_sem,reduceIte,↓reduceIte,nA,nB,nE,nL,h,Xi (Xc .ro) y41 k hk,hL,hh,c1,c2,hA,h1,Xh _ _ hk,hb0],⟨λ_=>hC,λ_=>trivial⟩,λhc=>absurd (hC.symm.trans hc) (by decide)⟩
    have c2':0<=A:=by omega
    obtain⟨j,hj1,hj2⟩:=Xed (λx:Origin=>eqv x.Host (QH y41[k].Get.Host)) y40 (by have:X8 y40 (QH y41[k].Get.Host)=U6 (λx:Origin=>eqv x.Host (QH y41[k].Get.Host)) y40 0:=rfl; rw[<-this,hA]; exact c2)
    have hAj:A=(j:Int):=by rw[<-hA]; exact hj2
    rw[hAj] at hf hA hp'
    have hpj:Qz y40 y41[k]=(j:Int):=hp'
    have hg:((y40[((j:Nat):Int).toNat]?.map (·.Bulk)).getD ⟨0,[]⟩)=y40[j].Bulk:=by rw[Int.toNat_natCast,List.getElem?_eq_getElem hj1]; rfl
    rw[hg] at hf
    have hjn:¬((j:Int)<0):=by omega
    have hjz:(0:Int)<=(j:Int):=by omega
    have hq:y40[j].Bulk.Queue.length<=9223372036854775806:=by have:y40[j].Bulk.Queue.length<=1048576:=(q4.2 _ (List.getElem_mem hj1)).2.1.2.1; omega
    have hwm:Qg (Bulk.mk y40[j].Bulk.Busy y40[j].Bulk.Queue) y41[k].Id=Qg y40[j].Bulk y41[k].Id:=rfl
    have e1:=Xh y40.length j hj1
    have e2:=Xi (Xe .ro) y40 j hj1
    rcases Bool.eq_false_or_eq_true y41[k].Out with c3 | c3
    ·have hst:=(XiZ (os:=y40) (fs:=y41) hk hj1 hpj).1 c3
     have hl:j<(Xc1 y40 y41 k).length:=by rw[XdT]; exact hj1
     have hg1:=Xi Xca (Xc1 y40 y41 k) j hl
     rw[XdV hl] at hg1
     have hg2:((Xc1 y40 y41 k).map Xca)[j]?=some (Xca (X5 y40 (y41.take k) (j:Int)).1):=by rw[List.getElem?_map,List.getElem?_eq_getElem hl,XdV hl]; rfl
     have hbd:=XgR y40 (y41.take k) (j:Int)
     have hbl:(y41.take k).length<=k:=by rw[List.length_take]; omega
     have hw:(IntKind.i64).wrap ((X5 y40 (y41.take k) (j:Int)).1+1)=(X5 y40 (y41.take k) (j:Int)).1+1:=Xo (by omega) (by omega)
     have hs1:((Xc1 y40 y41 k).map Xca).set j [.i .i64 ((X5 y40 (y41.take k) (j:Int)).1+1)]=(Xc1 y40 y41 (k+1)).map Xca:=by rw[hst.1,List.map_set]; rfl
     have hs2:=hst.2
     have hln:(Xc1 y40 y41 k).length=y40.length:=XdT _ _ _
     have hit:=Xh y40.length j hj1
     have hC:(!YK y40 vNext y41[k])=false:=by rw[hf]; simp[c1',c3,hjz]
     exact⟨False,inferInstance,_,λG=>by rw[if_neg (λh=>h)]; simp only[go_sem,reduceIte,↓reduceIte,nA,nB,nE,nL,h,Xi (Xc .ro) y41 k hk,hL,hh,c1,hjn,hA,c3,hln,hit,hg1,hg2,hw,hs1,List.length_map,h1,Xh _ _ hk,Xd (show k<9223372036854775807 by omega),hb0]<;>with_reducible rfl,⟨λh=>h.elim,λh=>absurd (h.symm.trans hC) (by decide)⟩,λhc=>⟨trivial,by simp only[go_sem,reduceIte,↓reduceIte,nB,h,hs2]⟩⟩
    by_cases c4:Qg y40[j].Bulk y41[k].Id<0
    ·have hC:(!YK y40 vNext y41[k])=true:=by
      have c4':¬(0<=Qg y40[j].Bulk y41[k].Id):=by omega
      rw[hf]; simp[c3,c4']
     exact⟨True,inferInstance,⟨E [],B []⟩,λG=>by rw[if_pos trivial]; simp only[go_sem,reduceIte,↓reduceIte,nA,nB,nE,nL,h,Xi (Xc .ro) y41 k hk,hL,hh,c1,hjn,hA,e1,e2,c3,c4,hq,h1,Xh _ _ hk,hb0],⟨λ_=>hC,λ_=>trivial⟩,λhc=>absurd (hC.symm.trans hc) (by decide)⟩
    ·have hst:=(XiZ (os:=y40) (fs:=y41) hk hj1 hpj).2 c3
     have hl:j<(Xc2 y40 y41 k).length:=by rw[XdU]; exact hj1
     have hg1:=Xi Xca (Xc2 y40 y41 k) j hl
     rw[XdW hl] at hg1
     have hg2:((Xc2 y40 y41 k).map Xca)[j]?=some (Xca (X5 y40 (y41.take k) (j:Int)).2):=by rw[List.getElem?_map,List.getElem?_eq_getElem hl,XdW hl]; rfl
     have hbd:=XgR y40 (y41.take k) (j:Int)
     have hbl:(y41.take k).length<=k:=by rw[List.length_take]; omega
     have hw:(IntKind.i64).wrap ((X5 y40 (y41.take k) (j:Int)).2+1)=(X5 y40 (y41.take k) (j:Int)).2+1:=Xo (by omega) (by omega)
     have hs1:((Xc2 y40 y41 k).map Xca).set j [.i .i64 ((X5 y40 (y41.take k) (j:Int)).2+1)]=(Xc2 y40 y41 (k+1)).map Xca:=by rw[hst.1,List.map_set]; rfl
     have hs2:=hst.2
     have hln:(Xc2 y40 y41 k).length=y40.length:=XdU _ _ _
     have hit:=Xh y40.length j hj1
     have hC:(!YK y40 vNext y41[k])=false:=by
      have c4':0<=Qg y40[j].Bulk y41[k].Id:=by omega
      rw[hf]; simp[c1',c3,c4',hjz]
     exact⟨False,inferInstance,_,λG=>by rw[if_neg (λh=>h)]; simp only[go_sem,reduceIte,↓reduceIte,nA,nB,nE,nL,h,Xi (Xc .ro) y41 k hk,hL,hh,c1,hjn,hA,e1,e2,c3,c4,hq,hln,hg1,hg2,hw,hs1,List.length_map,h1,Xh _ _ hk,Xd (show k<9223372036854775807 by omega),hb0]<;>with_reducible rfl,⟨λh=>h.elim,λh=>absurd (h.symm.trans hC) (by decide)⟩,λhc=>⟨trivial,by simp only[go_sem,reduceIte,↓reduceIte,nB,h,hs2]⟩⟩) () trivial (max y41.length (max y40.length (y38++y39).length)+1) (by omega)
 rw[hb0] at hz0
 rw[<-t0,<-t1] at hz0
 rcases hqz0 with⟨s0,e1,_,e3⟩ | ⟨x,s0,e1,e3⟩
 rotate_left
 ·have e2:=Zk e1
  simp only[go_sem,reduceIte,↓reduceIte,nA,nB,nE,nL,h,hmk,hnn,Int.toNat_natCast,hz0,e3,e2,UZ]
 have e2:=ZV e1
 have hb1:=Xg Tryz.f53 1 _ _ rfl rfl
 obtain⟨z1,hz1,hqz1⟩:=Xq (cx:=cx) (blk:=2) (body:=XN Tryz.f53 1) y40 (λk (s:Nat)=>⟨E [(0,.pr [.i .i64 y19,.i .i64 y20,.i .i64 y21,.i .i64 y22,.i .i64 y23,.i .i64 y24,.i .i64 y25,.i .i64 y26,.sl .ro 1 (y27.map Ye),.i .i64 y28,.i .i64 y29,.i .i64 y30,.i .i64 y31,.i .i64 y32,.i .i64 y33,.i .i64 y34,.i .i64 y35,.i .i64 vNow,.i .i64 vNext,.i .i64 y36,.i .i64 y37,.sl .ro 13 (y38.map (Xa .ro)),.sl .ro 13 (y39.map (Xa .ro)),.sl .ro 7 (y40.map (Xe .ro)),.sl .ro 11 (y41.map (Xc .ro))]),(3,.sl .mut 1 ((Xc1 y40 y41 y41.length).map Xca)),(4,.sl .mut 1 ((Xc2 y40 y41 y41.length).map Xca)),(8,.i .i64 k)],B []⟩) (λs=>⟨E [(0,.pr [.i .i64 y19,.i .i64 y20,.i .i64 y21,.i .i64 y22,.i .i64 y23,.i .i64 y24,.i .i64 y25,.i .i64 y26,.sl .ro 1 (y27.map Ye),.i .i64 y28,.i .i64 y29,.i .i64 y30,.i .i64 y31,.i .i64 y32,.i .i64 y33,.i .i64 y34,.i .i64 y35,.i .i64 vNow,.i .i64 vNext,.i .i64 y36,.i .i64 y37,.sl .ro 13 (y38.map (Xa .ro)),.sl .ro 13 (y39.map (Xa .ro)),.sl .ro 7 (y40.map (Xe .ro)),.sl .ro 11 (y41.map (Xc .ro))])],B []⟩) (λx s=>!Y6 y40 y41 (s:Nat) x) (λx s=>s+1) (λx s=>(.ret,⟨E [(2,.b false)],B []⟩)) (λk s=>k=s)
   (λs hI G=>by simp only[go_sem,reduceIte,↓reduceIte,nA,nB,nE,nL,h,Int.lt_irrefl,hb1]) (λk hk s hI=>by
    have h1:((k:Int)<(y40.length:Int)):=Int.ofNat_lt.2 hk
    obtain rfl:=hI
    have hltabO:k<(Xc1 y40 y41 y41.length).length:=by rw[XdT]; exact hk
    have g1tabO:=Xi Xca (Xc1 y40 y41 y41.length) k hltabO
    rw[XdV hltabO,List.take_length] at g1tabO
    have g2tabO:((Xc1 y40 y41 y41.length).map Xca)[k]?=some (Xca (X5 y40 y41 (k:Int)).1):=by rw[List.getElem?_map,List.getElem?_eq_getElem hltabO,XdV hltabO,List.take_length]; rfl
    have g3tabO:(Xc1 y40 y41 y41.length).length=y40.length:=XdT _ _ _
    have hltabW:k<(Xc2 y40 y41 y41.length).length:=by rw[XdU]; exact hk
    have g1tabW:=Xi Xca (Xc2 y40 y41 y41.length) k hltabW
    rw[XdW hltabW,List.take_length] at g1tabW
    have g2tabW:((Xc2 y40 y41 y41.length).map Xca)[k]?=some (Xca (X5 y40 y41 (k:Int)).2):=by rw[List.getElem?_map,List.getElem?_eq_getElem hltabW,XdW hltabW,List.take_length]; rfl
    have g3tabW:(Xc2 y40 y41 y41.length).length=y40.length:=XdU _ _ _
    have hf:Y6 y40 y41 (k:Int) y40[k]=(((X5 y40 y41 (k:Int)).1==y40[k].Bulk.Busy)&&((X5 y40 y41 (k:Int)).2==(y40[k].Bulk.Queue.length:Int))):=rfl
    rcases Bool.eq_false_or_eq_true ((X5 y40 y41 (k:Int)).1==y40[k].Bulk.Busy) with d1 | d1
    rotate_left
    ·have hC:(!Y6 y40 y41 (k:Int) y40[k])=true:=by rw[hf,d1]; rfl
     exact⟨True,inferInstance,⟨E [],B []⟩,λG=>by rw[if_pos trivial]; simp only[go_sem,reduceIte,↓reduceIte,nA,nB,nE,nL,h,Xi (Xe .ro) y40 k hk,g2tabO,g3tabO,List.length_map,bne,d1,h1,Xh _ _ hk,hb1],⟨λ_=>hC,λ_=>trivial⟩,λhc=>absurd (hC.symm.trans hc) (by decide)⟩
    rcases Bool.eq_false_or_eq_true ((X5 y40 y41 (k:Int)).2==(y40[k].Bulk.Queue.length:Int)) with d2 | d2
    rotate_left
    ·have hC:(!Y6 y40 y41 (k:Int) y40[k])=true:=by rw[hf,d1,d2]; rfl
     exact⟨True,inferInstance,⟨E [],B []⟩,λG=>by rw[if_pos trivial]; simp only[go_sem,reduceIte,↓reduceIte,nA,nB,nE,nL,h,Xi (Xe .ro) y40 k hk,g2tabO,g2tabW,g3tabO,g3tabW,List.length_map,bne,d1,d2,h1,Xh _ _ hk,hb1],⟨λ_=>hC,λ_=>trivial⟩,λhc=>absurd (hC.symm.trans hc) (by decide)⟩
    ·have hC:(!Y6 y40 y41 (k:Int) y40[k])=false:=by rw[hf,d1,d2]; rfl
     exact⟨False,inferInstance,_,λG=>by rw[if_neg (λh=>h)]; simp only[go_sem,reduceIte,↓reduceIte,nA,nB,nE,nL,h,Xi (Xe .ro) y40 k hk,g2tabO,g2tabW,g3tabO,g3tabW,List.length_map,bne,d1,d2,h1,Xh _ _ hk,Xd (show k<9223372036854775807 by omega),hb1]<;>with_reducible rfl,⟨λh=>h.elim,λh=>absurd (h.symm.trans hC) (by decide)⟩,λhc=>⟨rfl,by simp only[go_sem,reduceIte,↓reduceIte,nB,h]⟩⟩) 0 rfl (max y41.length (max y40.length (y38++y39).length)+1) (by omega)
 rw[hb1] at hz1
 rcases hqz1 with⟨s1,k1,_,k3⟩ | ⟨x,s1,k1,k3⟩
 rotate_left
 ·have k2:=Xaq k1
  simp only[go_sem,reduceIte,↓reduceIte,nA,nB,nE,nL,h,hmk,hnn,Int.toNat_natCast,hz0,e3,e2,hz1,k3,k2,UZ]
 have k2:=Xap k1
 obtain⟨all,hall⟩:∃all,y38++y39=all:=⟨_,rfl⟩
 have hx2:all.length<=9223372036854775806:=by rw[<-hall,List.length_append]; omega
 have tk:List.take all.length (List.map (Xa .ro) all)=List.map (Xa .ro) all:=List.take_of_length_le (by simp)
 have hb2:=Xg Tryz.f53 2 _ _ rfl rfl
 obtain⟨z2,hz2,hqz2⟩:=Xq (cx:=cx) (blk:=4) (body:=XN Tryz.f53 2) all (λk (s:Unit)=>⟨E [(0,.pr [.i .i64 y19,.i .i64 y20,.i .i64 y21,.i .i64 y22,.i .i64 y23,.i .i64 y24,.i .i64 y25,.i .i64 y26,.sl .ro 1 (y27.map Ye),.i .i64 y28,.i .i64 y29,.i .i64 y30,.i .i64 y31,.i .i64 y32,.i .i64 y33,.i .i64 y34,.i .i64 y35,.i .i64 vNow,.i .i64 vNext,.i .i64 y36,.i .i64 y37,.sl .ro 13 (y38.map (Xa .ro)),.sl .ro 13 (y39.map (Xa .ro)),.sl .ro 7 (y40.map (Xe .ro)),.sl .ro 11 (y41.map (Xc .ro))]),(9,.sl .mut 13 (all.map (Xa .ro))),(10,.i .i64 k)],B []⟩) (λs=>⟨E [],B []⟩) (λx s=>!ZO vNow x) (λx s=>()) (λx s=>(.ret,⟨E [(2,.b false)],B []⟩)) (λk s=>True)
   (λs hI G=>by simp only[go_sem,reduceIte,↓reduceIte,nB,nE,h,Int.lt_irrefl,hb2,List.length_map,tk]) (λk hk s hI=>by
    have h1:((k:Int)<(all.length:Int)):=Int.ofNat_lt.2 hk
    have hf:ZO vNow all[k]=(decide (all[k].Meta.At<=vNow)&&decide ((all[k].Headers.length:Int)<=17)):=rfl
    by_cases d1:vNow<all[k].Meta.At
    ·have hC:(!ZO vNow all[k])=true:=by
      have d1':¬(all[k].Meta.At<=vNow):=by omega
      rw[hf]; simp[d1']
     exact⟨True,inferInstance,⟨E [],B []⟩,λG=>by rw[if_pos trivial]; simp only[go_sem,reduceIte,↓reduceIte,nA,nB,nE,nL,h,XdC (Xa .ro) all k hk,tk,List.length_map,d1,h1,Xh _ _ hk,hb2],⟨λ_=>hC,λ_=>trivial⟩,λhc=>absurd (hC.symm.trans hc) (by decide)⟩
    have d1':all[k].Meta.At<=vNow:=by omega
    by_cases d2:17<(all[k].Headers.length:Int)
    ·have hC:(!ZO vNow all[k])=true:=by
      have d2':¬((all[k].Headers.length:Int)<=17):=by omega
      rw[hf]; simp[d2']
      done
     exact⟨True,inferInstance,⟨E [],B []⟩,λG=>by rw[if_pos trivial]; simp only[go_sem,reduceIte,↓reduceIte,nA,nB,nE,nL,h,XdC (Xa .ro) all k hk,tk,List.length_map,d1,d2,h1,Xh _ _ hk,hb2],⟨λ_=>hC,λ_=>trivial⟩,λhc=>absurd (hC.symm.trans hc) (by decide)⟩
    ·have hC:(!ZO vNow all[k])=false:=by
      have d2':(all[k].Headers.length:Int)<=17:=by omega
      rw[hf]; simp only[d1',d2',decide_true,Bool.and_self,Bool.not_true]
     exact⟨False,inferInstance,_,λG=>by rw[if_neg (λh=>h)]; simp only[go_sem,reduceIte,↓reduceIte,nA,nB,nE,nL,h,XdC (Xa .ro) all k hk,tk,List.length_map,d1,d2,h1,Xh _ _ hk,Xd (show k<9223372036854775807 by omega),hb2]<;>with_reducible rfl,⟨λh=>h.elim,λh=>absurd (h.symm.trans hC) (by decide)⟩,λhc=>⟨trivial,by simp only[go_sem,reduceIte,↓reduceIte,nB,nE,h]⟩⟩) () trivial (max y41.length (max y40.length (y38++y39).length)+1) (by rw[hall]; omega)
 rw[hb2] at hz2
 rw[hall] at hz0 hz1 hz2
 rcases hqz2 with⟨s2,m1,_,m3⟩ | ⟨x,s2,m1,m3⟩
 ·have m2:=runS_any m1
  simp only[go_sem,reduceIte,↓reduceIte,nA,nB,nE,nL,h,hmk,hnn,Int.toNat_natCast,hz0,e3,e2,hz1,k3,k2,hle,hall,hz2,m3,m2,UZ]
 ·have m2:=QJ m1
  simp only[go_sem,reduceIte,↓reduceIte,nA,nB,nE,nL,h,hmk,hnn,Int.toNat_natCast,hz0,e3,e2,hz1,k3,k2,hle,hall,hz2,m3,m2,UZ]) (rfl)
end
end Go.Vm.A
