/- Functions of the program, walked by the evaluator. -/
import Derived.Test.YtebnbhjcfanddaaDoorWb
import Derived.Test.YtebnbhjcfanddaaDoorWa
set_option linter.unusedVariables false
set_option linter.unusedSimpArgs false
set_option autoImplicit false
set_option maxRecDepth 100000
set_option maxHeartbeats 4000000
set_option linter.defProp false
namespace Go.Vm.A
open Go.Proofs
open Nat renaming reduceAdd -> nA, reduceSub -> nS, reduceMul -> nM, reduceBEq -> nB, reduceEqDiff -> nE, reduceLeDiff -> nL, reduceLT -> nT, reduceBneDiff -> nN
open Int renaming reduceLE -> iL, reduceLT -> iT, reduceEq -> iE, reduceAdd -> iA, reduceMul -> iM, reduceSub -> iS, reduceNeg -> iG, reduceBEq -> iB, reduceBNe -> iN, reduceToNat -> iZ
noncomputable section
def UY(t:ByteArray):List ByteArray:=(Xcx t 32).filter λx=>!(eqv x ⟨#[]⟩)
def Xcz(t:ByteArray)(c:UInt8):∀(xs:List (Option UInt8)) (s:List ByteArray×Nat×Nat),(∀x∈s.1,x.size<=t.size)->(xs.foldl (λs x=>Yj t c s x) s).1.length<=s.1.length+xs.length/\∀x∈(xs.foldl (λs x=>Yj t c s x) s).1,x.size<=t.size
 | [],s,h=>⟨by simp,h⟩
 | x :: xs,s,h=>by
  rw[List.foldl_cons]
  have hx:∀y∈(Yj t c s x).1,y.size<=t.size:=by
   intro y hy
   unfold Yj at hy
   split at hy
   ·rcases List.mem_append.1 hy with hy | hy
    ·exact h y hy
    ·rw[List.mem_singleton.1 hy]; simp; omega
   ·exact h y hy
  obtain⟨h1,h2⟩:=Xcz t c xs (Yj t c s x) hx
  refine⟨?_,h2⟩
  have h3:(Yj t c s x).1.length<=s.1.length+1:=by unfold Yj; split<;>simp
  simp only[List.length_cons]
  omega
def Xbe(t:ByteArray)(c:UInt8):(Xcx t c).length<=t.size+1:=by
 have:=(Xcz t c (XaN t) ([],0,0) (λx hx=>by cases hx)).1
 rw[Z8] at this
 simpa[Xcx] using this
def Xir(t:ByteArray)(c:UInt8):∀x∈Xcx t c,x.size<=t.size:=(Xcz t c (XaN t) ([],0,0) (λx hx=>by cases hx)).2
def XeH{t:ByteArray}(h:t.size<=3000):smL XjY (UY t):=⟨by
  have h1:=Xbe t 32
  have h2:(UY t).length<=(Xcx t 32).length:=List.length_filter_le _ _
  omega,λx hx=>by
  have:=Xir t 32 x ((List.mem_filter.1 hx).1)
  show x.size<=1048576
  omega⟩
def QN(t:ByteArray):Xi:=if(3000:Int)<(t.size:Int) then⟨2,[]⟩ else⟨0,UY t⟩
def XeI(t:ByteArray):Z9 (QN t):=by
 unfold QN
 split
 ·exact⟨trivial,Nat.zero_le _,λx hx=>by cases hx⟩
 ·exact⟨trivial,XeH (by omega)⟩
def Xly(a b:UInt8):(((a.toNat:Int))==((b.toNat:Nat):Int))=(a==b):=by
 rw[Bool.eq_iff_iff,beq_iff_eq,beq_iff_eq]
 constructor
 ·intro h; exact UInt8.toNat_inj.1 (by omega)
 ·intro h; rw[h]
def s54:SP Tryd.prog:=mkS tyA 54 Tryd.f54 [] {md:=[.ro 1,.ro 1],rg:=[(0,[0,1],[]),(1,[0,1,5],[]),(2,[0,1,5,6],[]),(3,[0,1,5,6,7],[]),(4,[0,1,5,6,7,12],[]),(5,[0,1,5,6,7],[]),(6,[0,1,5,6,7,25],[]),(7,[0,1,5,7],[]),(8,[0,1,5,6,7],[]),(9,[4],[])],lv:=[(0,[0,1,5,6,7],[])],out:=[(0,[5],[])],rets:=some ([4],[])} Tryd.func54 (by kernel_rfl)
@[go_sem] def d54:s54.g=54/\s54.fs=⟨[.ro 1,.ro 1],s54.F,false⟩:=⟨nr rfl,nr rfl⟩
@[go_sem] def e54(t:ByteArray)(c:UInt8)(h0:t.size<=1048576):s54.F [.s t,.i .u8 c.toNat]=some (.sl .mut 1 ((Xcx t c).map Yk),[.u,.u]):=Zf (t.size+2) rfl rfl (λcx h=>by
 have hx:t.size<=1048576:=h0
 have hend:¬(((XaN t).length:Int)<=(t.size:Int)):=by rw[Z8]; omega
 have hb0:=ZB Tryd.f54 0 _ _ rfl rfl
 obtain⟨hI,hr⟩:=Qt (cx:=cx) (blk:=0) (body:=XaK Tryd.f54 0) (XaN t) (λk (s:List ByteArray×Nat×Nat)=>⟨E [(0,.s t),(1,.i .u8 c.toNat),(5,.sl .mut 1 (s.1.map Yk)),(6,.i .i64 (s.2.1:Nat)),(7,.i .i64 (s.2.2:Nat))],B []⟩) (λs=>⟨E [(5,.sl .mut 1 (s.1.map Yk))],B []⟩) (λx s=>Yj t c s x) (λk s=>(s.2.2=k/\s.2.1<=k/\s.1.length<=k))
   (λs hI G=>by simp only[go_sem,reduceIte,↓reduceIte,reduceCtorEq,nA,nS,nM,nB,nE,nL,nT,nN,iL,iT,iE,iA,iM,iS,iG,iB,iN,iZ,h,Int.lt_irrefl,hb0,hI.1,hend]) (λk hk s hI=>by
    have h1:((k:Int)<((XaN t).length:Int)):=Int.ofNat_lt.2 hk
    obtain⟨i1,i2,i3⟩:=hI
    have hkl:k<=t.size:=by have:=Z8 t; omega
    have q1:((k:Int)<=(t.size:Int)):=by omega
    have t3:(s.1.length+1)*16<=140737488355328:=by omega
    have t4:∀y:ByteArray,s.1.map Yk++[[.s y]]=(s.1++[y]).map Yk:=λy=>by simp[Yk]
    have w1:(IntKind.i64).wrap ((k:Int)+1)=((k+1:Nat):Int):=Yl (by omega)
    have s0:(0:Int)<=(k:Int):=by omega
    have s1:(0:Int)<=((s.2.1:Nat):Int):=by omega
    have s2:((s.2.1:Nat):Int)<=(k:Int):=by omega
    have hJ:(Yj t c s (XaN t)[k]).2.2=k+1/\(Yj t c s (XaN t)[k]).2.1<=k+1/\(Yj t c s (XaN t)[k]).1.length<=k+1:=by
     unfold Yj
     split<;>simp<;>omega
    have g1:∀x,(XaN t)[k]=x->Yj t c s (XaN t)[k]=if(x.getD c==c)=true then(s.1++[t.extract s.2.1 s.2.2],s.2.2+1,s.2.2+1) else(s.1,s.2.1,s.2.2+1):=by intro x hx; rw[hx]; rfl
    rw[i1] at g1
    rcases Nat.lt_or_ge k t.size with hlt | hge
    case' inr =>
     have hke:k=t.size:=by omega
     have hx:=Xcr t (by rw[Z8]; omega)
     have hx1:(XaN t)[k]=none:=by subst hke; exact hx
     have q2:((k:Int)==(t.size:Int))=true:=by simp; omega
     have q3:=trivial
     have q4:=trivial
     have g0:=g1 _ hx1
     rw[Option.getD_none,if_pos (by simp)] at g0
     have d1:=trivial
    case' inl =>
     have q2:((k:Int)==(t.size:Int))=false:=by simp; omega
     have q3:=ZO t.size k hlt
     have hx:=XdM t k hlt hk
     have g0:=g1 _ hx
     rw[Option.getD_some] at g0
     have q4:(((t.data[k]?.getD 0).toNat:Int)==((c.toNat:Nat):Int))=(t.data[k]?.getD 0==c):=Xly _ _
     rcases Bool.eq_false_or_eq_true (t.data[k]?.getD 0==c) with d1 | d1
     all_goals simp only[d1,reduceIte,Bool.false_eq_true] at g0
    all_goals skip
    all_goals exact⟨hJ,_,λG=>by simp only[go_sem,reduceIte,↓reduceIte,reduceCtorEq,nA,nS,nM,nB,nE,nL,nT,nN,iL,iT,iE,iA,iM,iS,iG,iB,iN,iZ,h,i1,q1,s0,q2,q3,q4,d1,t3,t4,w1,s1,s2,Int.toNat_natCast,h1,ZO _ _ hk,Yl (show k<9223372036854775807 by omega),hb0]<;>with_reducible rfl,by simp only[go_sem,reduceIte,↓reduceIte,reduceCtorEq,nA,nS,nM,nB,nE,nL,nT,nN,iL,iT,iE,iA,iM,iS,iG,iB,iN,iZ,h,g0]⟩) ([],0,0) (by simp) (t.size+2) (by rw[Z8]; exact Nat.le_refl _)
 rw[hb0] at hr
 simp only[go_sem,reduceIte,↓reduceIte,reduceCtorEq,nA,nS,nM,nB,nE,nL,nT,nN,iL,iT,iE,iA,iM,iS,iG,iB,iN,iZ,h,hr]
 rfl) (by simp only[go_sem,reduceIte,↓reduceIte,reduceCtorEq,nA,nS,nM,nB,nE,nL,nT,nN,iL,iT,iE,iA,iM,iS,iG,iB,iN,iZ,Q9,XF])
@[go_sem] def XmN(t:ByteArray)(h0:t.size<=1048576):s54.F [.s t,.i .u8 32]=some (.sl .mut 1 ((Xcx t 32).map Yk),[.u,.u]):=e54 t 32 h0
def Xgn(l:List UInt8)(c:UInt8):0<=Lib.indexByte l c↔c∈l:=by
 induction l with
 | nil=>simp[Lib.indexByte]
 | cons b l ih =>
  have:=Lib.indexByte_ge l c
  unfold Lib.indexByte
  by_cases hb:b=c
  ·simp[hb]
  ·by_cases hx:Lib.indexByte l c =-1
   ·have hn:¬c∈l:=λh=>by have:=ih.2 h; omega
    simp[hx,hn,hb,Ne.symm hb]
   ·have h2:0<=Lib.indexByte l c:=by omega
    simp[hb,hx,ih.1 h2]; omega
def ixB(s:ByteArray)(c:UInt8):Int:=Lib.indexByte s.data.toList c
def Xkl(l:List UInt8)(c:UInt8):decide (0<=ixB ⟨l.toArray⟩ c)=l.contains c:=by
 rw[Bool.eq_iff_iff,decide_eq_true_eq,List.contains_iff_mem]
 exact Xgn l c
@[go_sem] def Xis(xs:List UInt8):xs.map Uf=xs.map Ud:=nr rfl
def okN(n:ByteArray):Bool:=decide (n.size<=9223372036854775806)
def XbD{α:Type}(p:α->Bool):∀(xs s:List α),xs.foldl (λs x=>if p x=true then s else s++[x]) s=s++xs.filter λx=>!p x
 | [],s=>by simp
 | x :: xs,s=>by
  rw[List.foldl_cons,XbD p xs]
  cases hp:p x<;>simp[hp]
def XmO:List UInt8:=[33,35,36,37,38,39,42,43,45,46,94,95,124,126]
@[go_sem] def Xla(c:UInt8):decide (ixB ⟨#[33,35,36,37,38,39,42,43,45,46,94,95,124,126]⟩ c>=0)=XmO.contains c:=Xkl XmO c
def XcA(a b:ByteArray):(a.toList !=b.toList)=!eqv a b:=by rw[bne,ZP]
def s26:SP Tryd.prog:=mkS tyA 26 Tryd.f26 [s54] {md:=[.ro 1],rg:=[(0,[0],[]),(1,[0,3],[]),(2,[3,4],[]),(3,[3,4,5],[]),(4,[3,4,5,12],[]),(5,[3,4,5],[]),(6,[3,4,5,19],[]),(7,[3,4,5],[]),(8,[2],[])],lv:=[(0,[3,4,5],[])],out:=[(0,[3],[])],rets:=some ([2],[])} Tryd.func26 (by kernel_rfl)
@[go_sem] def d26:s26.g=26/\s26.fs=⟨[.ro 1],s26.F,false⟩:=⟨nr rfl,nr rfl⟩
@[go_sem] def e26(t:ByteArray)(h0:t.size<=1048576):s26.F [.s t]=some (.sl .mut 1 ((UY t).map Yk),[.u]):=Zf (t.size+2) rfl rfl (λcx h=>by
 have hl:=Xbe t 32
 have hw:UY t=(Xcx t 32).filter λx=>!(eqv x ⟨#[]⟩):=rfl
 obtain⟨ps,hps⟩:∃ps,Xcx t 32=ps:=⟨_,rfl⟩
 rw[hps] at hl hw
 have hx:ps.length<=9223372036854775806:=by omega
 have hb0:=ZB Tryd.f26 0 _ _ rfl rfl
 obtain⟨hI,hr⟩:=Qt (cx:=cx) (blk:=0) (body:=XaK Tryd.f26 0) ps (λk (s:List ByteArray)=>⟨E [(3,.sl .mut 1 (s.map Yk)),(4,.sl .mut 1 (ps.map Yk)),(5,.i .i64 k)],B []⟩) (λs=>⟨E [(3,.sl .mut 1 (s.map Yk))],B []⟩) (λx s=>(if eqv x ⟨#[]⟩=true then s else s++[x])) (λk s=>s.length<=k)
   (λs hI G=>by simp only[go_sem,reduceIte,↓reduceIte,reduceCtorEq,nA,nS,nM,nB,nE,nL,nT,nN,iL,iT,iE,iA,iM,iS,iG,iB,iN,iZ,h,Int.lt_irrefl,hb0,hx,List.length_map,show List.take ps.length (List.map Yk ps)=List.map Yk ps from List.take_of_length_le (by simp)]) (λk hk s hI=>by
    have h1:((k:Int)<(ps.length:Int)):=Int.ofNat_lt.2 hk
    have t3:(s.length+1)*16<=140737488355328:=by omega
    have t4:s.map Yk++[[.s ps[k]]]=(s++[ps[k]]).map Yk:=by simp[Yk]
    have tk:List.take ps.length (List.map Yk ps)=List.map Yk ps:=List.take_of_length_le (by simp)
    rcases Bool.eq_false_or_eq_true (eqv ps[k] ⟨#[]⟩) with d1 | d1
    all_goals exact⟨by split<;>(try simp only[List.length_append,List.length_cons,List.length_nil])<;>omega,_,λG=>by simp only[go_sem,reduceIte,↓reduceIte,reduceCtorEq,nA,nS,nM,nB,nE,nL,nT,nN,iL,iT,iE,iA,iM,iS,iG,iB,iN,iZ,h,t3,t4,d1,tk,UM Yk ps k hk,XfZ Yk ps k hk,ZP,XcA,List.length_map,h1,ZO _ _ hk,Yl (show k<9223372036854775807 by omega),hb0]<;>with_reducible rfl,by simp only[go_sem,reduceIte,↓reduceIte,reduceCtorEq,nA,nS,nM,nB,nE,nL,nT,nN,iL,iT,iE,iA,iM,iS,iG,iB,iN,iZ,h,d1]⟩) [] (by simp) (t.size+2) (by omega)
 rw[hb0] at hr
 have hff:=XbD (λx:ByteArray=>eqv x ⟨#[]⟩) ps []
 rw[List.nil_append] at hff
 rw[hff] at hr
 simp only[go_sem,reduceIte,↓reduceIte,reduceCtorEq,nA,nS,nM,nB,nE,nL,nT,nN,iL,iT,iE,iA,iM,iS,iG,iB,iN,iZ,h,h0,hps,hr,hw,List.length_map]) (by simp only[go_sem,reduceIte,↓reduceIte,reduceCtorEq,nA,nS,nM,nB,nE,nL,nT,nN,iL,iT,iE,iA,iM,iS,iG,iB,iN,iZ,Q9,XF])
def s6:SP Tryd.prog:=mkS tyA 6 Tryd.f6 [s26] {md:=[.ro 1],rg:=[(0,[0,2,8],[2]),(1,[0,2,5,8],[2]),(2,[2,8],[2]),(3,[2,8],[2])],rets:=some ([2,8],[2])} Tryd.func6 (by kernel_rfl)
@[go_sem] def d6:s6.g=6/\s6.fs=⟨[.ro 1],s6.F,false⟩:=⟨nr rfl,nr rfl⟩
@[go_sem] def e6(t:ByteArray):s6.F [.s t]=some (.agg (X4 .mut (QN t)),[.u]):=Zf (0) rfl rfl (λcx h=>by
 by_cases c:(3000:Int)<(t.size:Int)
 ·simp only[go_sem,reduceIte,↓reduceIte,reduceCtorEq,nA,nS,nM,nB,nE,nL,nT,nN,iL,iT,iE,iA,iM,iS,iG,iB,iN,iZ,h,c,QN]
 ·have h1:t.size<=1048576:=by omega
  have h2:t.size<=1048575:=by omega
  simp only[go_sem,reduceIte,↓reduceIte,reduceCtorEq,nA,nS,nM,nB,nE,nL,nT,nN,iL,iT,iE,iA,iM,iS,iG,iB,iN,iZ,h,c,h1,h2,QN]) (by simp only[go_sem,reduceIte,↓reduceIte,reduceCtorEq,nA,nS,nM,nB,nE,nL,nT,nN,iL,iT,iE,iA,iM,iS,iG,iB,iN,iZ,Q9,XF,X0,XU])
def s57:SP Tryd.prog:=mkS tyA 57 Tryd.f57 [] {md:=[.ro 1],rets:=some ([2],[])} Tryd.func57 (by kernel_rfl)
@[go_sem] def d57:s57.g=57/\s57.fs=⟨[.ro 1],s57.F,false⟩:=⟨nr rfl,nr rfl⟩
@[go_sem] def e57(x:ByteArray):s57.F [.s x]=some (.b (eqv x ⟨#[]⟩),[.u]):=Zf (0) rfl rfl (λcx h=>by
 simp only[go_sem,reduceIte,↓reduceIte,reduceCtorEq,nA,nS,nM,nB,nE,nL,nT,nN,iL,iT,iE,iA,iM,iS,iG,iB,iN,iZ,h,ZP]) (rfl)
def s82:SP Tryd.prog:=mkS tyA 82 Tryd.f82 [s57] {md:=[.ro 1,.ro 1],rg:=[(0,[0,1],[]),(1,[0,1,7,8],[]),(2,[0,1,7,8,9],[]),(3,[0,1,5,7,8],[]),(4,[0,1,5,7,8,16],[]),(5,[4],[]),(6,[0,1,7,8],[]),(7,[4],[])],lv:=[(0,[0,1,7,8],[])],out:=[(0,[],[])],rets:=some ([4],[])} Tryd.func82 (by kernel_rfl)
@[go_sem] def d82:s82.g=82/\s82.fs=⟨[.ro 1,.ro 1],s82.F,false⟩:=⟨nr rfl,nr rfl⟩
@[go_sem] def XmP(xs:List ByteArray)(hb:xs.length<=9223372036854775806):s82.F [.sl .ro 1 (xs.map Yk),.fn 57 []]=some (.i .i64 (XaL (λx=>eqv x ⟨#[]⟩) xs 0),[.u,.u]):=Zf (xs.length+1) rfl rfl (λcx h=>by
 have hx:=hb
 have hb0:=ZB Tryd.f82 0 _ _ rfl rfl
 obtain⟨r,hr,hq⟩:=XfY (cx:=cx) (blk:=0) (body:=XaK Tryd.f82 0) xs (λk (s:Nat)=>⟨E [(0,.sl .ro 1 (xs.map Yk)),(1,.fn 57 []),(7,.i .i64 xs.length),(8,.i .i64 k)],B []⟩) (λs=>⟨E [],B []⟩) (λx s=>eqv x ⟨#[]⟩) (λx s=>s+1) (λx s=>(.ret,⟨E [(4,.i .i64 s)],B []⟩)) (λk s=>k=s)
   (λs hI G=>by simp only[go_sem,reduceIte,↓reduceIte,reduceCtorEq,nA,nS,nM,nB,nE,nL,nT,nN,iL,iT,iE,iA,iM,iS,iG,iB,iN,iZ,h,Int.lt_irrefl,hb0,hI]) (λk hk s hI=>by
    have h1:((k:Int)<(xs.length:Int)):=Int.ofNat_lt.2 hk
    obtain rfl:=hI
    exact⟨_,_,_,λG=>by simp only[go_sem,reduceIte,↓reduceIte,reduceCtorEq,nA,nS,nM,nB,nE,nL,nT,nN,iL,iT,iE,iA,iM,iS,iG,iB,iN,iZ,h,UM Yk xs _ hk,decide_eq_true_eq,h1,ZO _ _ hk,Yl (show k<9223372036854775807 by omega),hb0]<;>with_reducible rfl,by first | exact Iff.rfl | simp,λhc=>⟨rfl,by simp only[go_sem,reduceIte,↓reduceIte,reduceCtorEq,nA,nS,nM,nB,nE,nL,nT,nN,iL,iT,iE,iA,iM,iS,iG,iB,iN,iZ,h]⟩⟩) 0 rfl (xs.length+1) (Nat.le_refl _)
 rw[hb0] at hr
 rcases hq with⟨s',e1,_,e3⟩ | ⟨x,s',e1,e3⟩
 ·simp only[go_sem,reduceIte,↓reduceIte,reduceCtorEq,nA,nS,nM,nB,nE,nL,nT,nN,iL,iT,iE,iA,iM,iS,iG,iB,iN,iZ,h,hr,e3,XdH e1]
 ·simp only[go_sem,reduceIte,↓reduceIte,reduceCtorEq,nA,nS,nM,nB,nE,nL,nT,nN,iL,iT,iE,iA,iM,iS,iG,iB,iN,iZ,h,hr,e3,Xcm e1]) (rfl)
def Xdq{α:Type}(p:α->Bool):∀(xs:List α) (k:Nat),XaL p xs k<0->XaL p xs k =-1
 | [],_,_=>rfl
 | x :: xs,k,h=>by
  rw[XaL] at h ⊢
  split at h
  ·omega
  ·rename_i hc; rw[if_neg hc]; exact Xdq p xs (k+1) h
def XeJ{α:Type}(p:α->Bool)(xs:List α)(h:XaL p xs 0 =-1):xs.filter (λx=>!(p x))=xs:=by
 have h2:=XdI (p:=p) xs 0
 rw[h] at h2
 rw[List.filter_eq_self]
 intro x hx
 have:=List.any_eq_false.1 h2.symm x hx
 simpa using this
def Xgo{α:Type}(p:α->Bool)(xs:List α)(h:0<=XaL p xs 0):∃i:Nat,XaL p xs 0=(i:Int)/\i<xs.length/\(∀x,xs[i]?=some x->p x=true)/\∀j x,j<i->xs[j]?=some x->p x=false:=by
 have key:∀(xs:List α) (k:Nat),0<=XaL p xs k->∃i:Nat,XaL p xs k=((k+i:Nat):Int)/\i<xs.length/\(∀x,xs[i]?=some x->p x=true)/\∀j x,j<i->xs[j]?=some x->p x=false:=by
  intro xs
  induction xs with
  | nil=>intro k h; simp[XaL] at h
  | cons x xs ih =>
   intro k h
   rw[XaL] at h ⊢
   by_cases hc:p x=true
   ·rw[if_pos hc]
    exact⟨0,rfl,by simp,λy hy=>by simp at hy; rw[<-hy]; exact hc,λj y hj=>absurd hj (by omega)⟩
   ·rw[if_neg hc] at h ⊢
    obtain⟨i,h1,h2,h3,h4⟩:=ih (k+1) h
    refine⟨i+1,by rw[h1]; omega,by simp; omega,λy hy=>h3 y (by simpa using hy),λj y hj hy=>?_⟩
    cases j with
    | zero=>simp at hy; rw[<-hy]; simpa using hc
    | succ j=>exact h4 j y (by omega) (by simpa using hy)
 obtain⟨i,h1,h2⟩:=key xs 0 h
 exact⟨i,by rw[h1]; omega,h2⟩
def Xit{α:Type}(p:α->Bool)(xs:List α)(j:Nat)(s:List α×Nat):Prop:=s.1.length=xs.length/\s.1.take s.2=(xs.take j).filter (λx=>!(p x))/\s.1.drop j=xs.drop j/\s.2<j
def XeK{α:Type}{p:α->Bool}{xs:List α}{i:Nat}(h1:i<xs.length)(h2:∀x,xs[i]?=some x->p x=true)(h3:∀j x,j<i->xs[j]?=some x->p x=false):Xit p xs (i+1+0) (xs,i):=by
 refine⟨rfl,?_,rfl,by simp⟩
 simp only[Nat.add_zero]
 rw[List.take_succ_eq_append_getElem h1,List.filter_append]
 have e1:(xs.take i).filter (λx=>!(p x))=xs.take i:=by
  rw[List.filter_eq_self]
  intro x hx
  obtain⟨j,hj⟩:=List.getElem?_of_mem hx
  rw[List.getElem?_take] at hj
  split at hj
  ·rename_i hji; simp[h3 j x hji hj]
  ·cases hj
 rw[e1,List.filter_cons,h2 _ (List.getElem?_eq_getElem h1)]
 simp
def Xgp{α:Type}{p:α->Bool}{xs:List α}{j:Nat}{s:List α×Nat}(h:Xit p xs j s)(hj:j<xs.length):s.1[j]'(by rw[h.1]; exact hj)=xs[j]:=by
 have h1:=h.2.2.1
 rw[List.drop_eq_getElem_cons hj,List.drop_eq_getElem_cons (by rw[h.1]; exact hj)] at h1
 exact(List.cons.inj h1).1
def XeL{α:Type}{p:α->Bool}{xs:List α}{j:Nat}{s:List α×Nat}(h:Xit p xs j s)(hj:j<xs.length):Xit p xs (j+1) (if p xs[j]=true then s else(s.1.set s.2 xs[j],s.2+1)):=by
 obtain⟨h1,h2,h3,h4⟩:=h
 have h5:s.1.drop (j+1)=xs.drop (j+1):=by
  have:=congrArg (List.drop 1) h3
  simpa[List.drop_drop,Nat.add_comm] using this
 by_cases hp:p xs[j]=true
 ·rw[if_pos hp]
  refine⟨h1,?_,h5,by omega⟩
  rw[h2,List.take_succ_eq_append_getElem hj,List.filter_append,List.filter_cons,hp]
  simp
 ·rw[if_neg hp]
  refine⟨by simp[h1],?_,?_,by simp; omega⟩
  ·simp only
   rw[List.take_succ_eq_append_getElem (by simp; omega),List.getElem_set_self,List.take_set_of_le (Nat.le_refl _),h2,List.take_succ_eq_append_getElem hj,List.filter_append,List.filter_cons]
   simp[hp]
  ·simp only
   rw[List.drop_set_of_lt (by omega)]
   exact h5
def Xgq{α:Type}{p:α->Bool}{xs:List α}{j:Nat}{s:List α×Nat}(h:Xit p xs j s):s.1.length=xs.length:=h.1
def Xgr{α:Type}{p:α->Bool}{xs:List α}{j:Nat}{s:List α×Nat}(h:Xit p xs j s)(hj:xs.length<=j):s.1.take s.2=xs.filter (λx=>!(p x)):=by
 rw[h.2.1,List.take_of_length_le hj]
def Xax(z lo n:Nat)(es:List (List AV))(h:lo<=es.length):(X1 z lo n es).take lo=es.take lo:=by
 unfold X1
 rw[List.append_assoc,List.take_append_of_le_length (by simp; omega),List.take_take,Nat.min_self]
def s55:SP Tryd.prog:=mkS tyA 55 Tryd.f55 [s57,s82] {md:=[.mv,.ro 1],rg:=[(0,[0,1],[]),(1,[0,1,5],[]),(2,[0,1,5,12],[]),(3,[0,4],[]),(4,[0,1,5,6],[]),(5,[0,1,5,6,19],[]),(6,[0,1,5,6],[]),(7,[0,1,5,6,7],[]),(8,[0,1,5,6,7,29],[]),(9,[0,1,5,6],[]),(10,[0,1,5,6],[]),(11,[0,5],[]),(12,[0,4],[])],lv:=[(0,[0,1,5,6],[])],out:=[(0,[0,5],[])],rets:=some ([0,4],[])} Tryd.func55 (by kernel_rfl)
@[go_sem] def d55:s55.g=55/\s55.fs=⟨[.mv,.ro 1],s55.F,false⟩:=⟨nr rfl,nr rfl⟩
@[go_sem] def XmQ(xs:List ByteArray)(hb:xs.length<=1048576):s55.F [.sl .mut 1 (xs.map Yk),.fn 57 []]=some (.sl .mut 1 ((xs.filter (λx=>!(eqv x ⟨#[]⟩))).map Yk),[.u,.u]):=Zf (xs.length+1) rfl rfl (λcx h=>by
 have hx:xs.length<=9223372036854775806:=by omega
 rcases Int.lt_or_le (XaL (λ(x:ByteArray)=>eqv x ⟨#[]⟩) xs 0) 0 with hn | hn
 ·have hm1:=Xdq (λ(x:ByteArray)=>eqv x ⟨#[]⟩) xs 0 hn
  have hf:=XeJ (λ(x:ByteArray)=>eqv x ⟨#[]⟩) xs hm1
  simp only[go_sem,reduceIte,↓reduceIte,reduceCtorEq,nA,nS,nM,nB,nE,nL,nT,nN,iL,iT,iE,iA,iM,iS,iG,iB,iN,iZ,h,hx,hm1,hf]
 ·obtain⟨i,hi0,hi1,hi2,hi3⟩:=Xgo (λ(x:ByteArray)=>eqv x ⟨#[]⟩) xs hn
  have w1:(IntKind.i64).wrap ((i:Int)+1)=((i+1:Nat):Int):=Yl (by omega)
  have hb0:=ZB Tryd.f55 0 _ _ rfl rfl
  obtain⟨hI,hr⟩:=Qt (cx:=cx) (blk:=0) (body:=XaK Tryd.f55 0) (xs.drop (i+1)) (λk (s:List ByteArray×Nat)=>⟨E [(0,.sl .mut 1 (s.1.map Yk)),(1,.fn 57 []),(5,.i .i64 (s.2:Nat)),(6,.i .i64 ((i+1+k:Nat):Int))],B []⟩) (λs=>⟨E [(0,.sl .mut 1 (s.1.map Yk)),(5,.i .i64 (s.2:Nat))],B []⟩) (λx s=>(if eqv x ⟨#[]⟩ then s else(s.1.set s.2 x,s.2+1))) (λk s=>Xit (λ(x:ByteArray)=>eqv x ⟨#[]⟩) xs (i+1+k) s)
    (λs hI G=>by simp only[go_sem,reduceIte,↓reduceIte,reduceCtorEq,nA,nS,nM,nB,nE,nL,nT,nN,iL,iT,iE,iA,iM,iS,iG,iB,iN,iZ,h,Int.lt_irrefl,hb0,Xgq hI,show List.take xs.length (List.map Yk s.1)=List.map Yk s.1 from List.take_of_length_le (by rw[List.length_map,hI.1]; exact Nat.le_refl _),show ¬(((i+1+(xs.drop (i+1)).length:Nat):Int)<(xs.length:Int)) by simp; omega]) (λk hk s hI=>by
     have h1:((k:Int)<((xs.drop (i+1)).length:Int)):=Int.ofNat_lt.2 hk
     have hkl:i+1+k<xs.length:=by simp at hk; omega
     have hget:(xs.drop (i+1))[k]=xs[i+1+k]:=by simp
     have hlen:s.1.length=xs.length:=hI.1
     have hsi:s.2<s.1.length:=by have:=hI.2.2.2; omega
     have hcur:s.1[i+1+k]'(by omega)=xs[i+1+k]:=Xgp hI hkl
     have j1:(((i+1+k:Nat):Int)<(xs.length:Int)):=Int.ofNat_lt.2 hkl
     have j2:(IntKind.i64).wrap (((i+1+k:Nat):Int)+1)=((i+1+(k+1):Nat):Int):=Yl (by omega)
     have j3:(IntKind.i64).wrap (((s.2:Nat):Int)+1)=((s.2+1:Nat):Int):=Yl (by omega)
     have j4:=UM Yk s.1 (i+1+k) (by omega)
     rw[hcur] at j4
     have j6:=XfZ Yk s.1 (i+1+k) (by omega)
     rw[hcur] at j6
     have j7:=XfZ Yk s.1 s.2 hsi
     have j5:(s.1.map Yk).set s.2 (Yk xs[i+1+k])=(s.1.set s.2 xs[i+1+k]).map Yk:=(List.map_set).symm
     have j8:List.take xs.length (List.map Yk s.1)=List.map Yk s.1:=List.take_of_length_le (by rw[List.length_map,hlen]; exact Nat.le_refl _)
     simp only[Yk] at j5
     by_cases hd:eqv xs[i+1+k] ⟨#[]⟩=true
     all_goals have hd':=hd
     all_goals try simp only[decide_eq_true_eq] at hd'
     all_goals exact⟨by rw[hget]; exact XeL hI (by omega),_,λG=>by simp only[go_sem,reduceIte,↓reduceIte,reduceCtorEq,nA,nS,nM,nB,nE,nL,nT,nN,iL,iT,iE,iA,iM,iS,iG,iB,iN,iZ,h,j1,j2,j3,j4,j5,j6,j7,j8,hlen,ZO xs.length _ hkl,ZO xs.length s.2 (by omega),hd,hd',h1,ZO _ _ hk,Yl (show k<9223372036854775807 by omega),hb0]<;>with_reducible rfl,by simp only[go_sem,reduceIte,↓reduceIte,reduceCtorEq,nA,nS,nM,nB,nE,nL,nT,nN,iL,iT,iE,iA,iM,iS,iG,iB,iN,iZ,h,hget,hd,hd']⟩) (xs,i) (XeK hi1 hi2 hi3) (xs.length+1) (by simp<;>omega)
  rw[hb0] at hr
  generalize List.foldl _ _ _=q at hI hr
  have e9:=Xgr hI (by simp<;>omega)
  have e8:q.1.length=xs.length:=hI.1
  have e7:q.2<=xs.length:=by have h1:=hI.2.2.2; simp only[List.length_drop] at h1; omega
  have e6:(0:Int)<=(q.2:Int):=by omega
  have e5:(q.2:Int)<=(xs.length:Int):=by omega
  have e4:((i:Int) ==-1)=false:=by simp<;>omega
  have c1:(X1 1 q.2 (xs.length-q.2) (q.1.map Yk)).length=xs.length:=by rw[Q6 (by rw[List.length_map]; omega),List.length_map,e8]
  have c2:(X1 1 q.2 (xs.length-q.2) (q.1.map Yk)).take q.2=(xs.filter (λx=>!(eqv x ⟨#[]⟩))).map Yk:=by rw[Xax _ _ _ _ (by rw[List.length_map]; omega),<-List.map_take,e9]
  have e3:q.2+(xs.length-q.2)<=xs.length:=by omega
  simp only[go_sem,reduceIte,↓reduceIte,reduceCtorEq,nA,nS,nM,nB,nE,nL,nT,nN,iL,iT,iE,iA,iM,iS,iG,iB,iN,iZ,h,hx,hi0,w1,hr,e8,e7,e6,e5,e4,e3,c1,c2,Int.toNat_natCast,Nat.sub_zero]) (by simp only[go_sem,reduceIte,↓reduceIte,reduceCtorEq,nA,nS,nM,nB,nE,nL,nT,nN,iL,iT,iE,iA,iM,iS,iG,iB,iN,iZ,Q9,XF])
end
end Go.Vm.A
