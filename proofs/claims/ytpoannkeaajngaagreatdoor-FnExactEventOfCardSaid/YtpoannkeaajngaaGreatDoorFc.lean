/- Functions of the program, walked by the evaluator. -/
import Derived.Test.YtpoannkeaajngaaGreatDoorWb
import Derived.Test.YtpoannkeaajngaaGreatDoorWa
import Derived.Test.YtpoannkeaajngaaGreatDoorFa
import Derived.Test.YtpoannkeaajngaaGreatDoorFb
set_option linter.unusedVariables false
set_option linter.unusedSimpArgs false
set_option autoImplicit false
set_option maxRecDepth 100000
set_option maxHeartbeats 4000000
set_option linter.defProp false
namespace Go.Vm.A
open Go.Proofs
open Nat renaming reduceAdd -> nA, reduceSub -> nS, reduceMul -> nM, reduceBEq -> nB, reduceEqDiff -> nE, reduceLeDiff -> nL, reduceLT -> nT, reduceBneDiff -> nN
open Int renaming reduceLE -> iL, reduceLT -> iT, reduceEq -> iE, reduceAdd -> iA, reduceMul -> iM, reduceSub -> iS, reduceNeg -> iG, reduceBEq -> iB, reduceBNe -> iN, reduceToNat -> iZ
noncomputable section
def Y7(t:ByteArray):List ByteArray:=(XfK t 32).filter λx=>!(eqv x ⟨#[]⟩)
def XfS(t:ByteArray)(c:UInt8):∀(xs:List (Option UInt8)) (s:List ByteArray×Nat×Nat),(∀x∈s.1,x.size<=t.size)->(xs.foldl (λs x=>Y5 t c s x) s).1.length<=s.1.length+xs.length/\∀x∈(xs.foldl (λs x=>Y5 t c s x) s).1,x.size<=t.size
 | [],s,h=>⟨by simp,h⟩
 | x :: xs,s,h=>by
  rw[List.foldl_cons]
  have hx:∀y∈(Y5 t c s x).1,y.size<=t.size:=by
   intro y hy
   unfold Y5 at hy
   split at hy
   ·rcases List.mem_append.1 hy with hy | hy
    ·exact h y hy
    ·rw[List.mem_singleton.1 hy]; simp; omega
   ·exact h y hy
  obtain⟨h1,h2⟩:=XfS t c xs (Y5 t c s x) hx
  refine⟨?_,h2⟩
  have h3:(Y5 t c s x).1.length<=s.1.length+1:=by unfold Y5; split<;>simp
  simp only[List.length_cons]
  omega
def XdW(t:ByteArray)(c:UInt8):(XfK t c).length<=t.size+1:=by
 have:=(XfS t c (Xc4 t) ([],0,0) (λx hx=>by cases hx)).1
 rw[UC] at this
 simpa[XfK] using this
def XmW(t:ByteArray)(c:UInt8):∀x∈XfK t c,x.size<=t.size:=(XfS t c (Xc4 t) ([],0,0) (λx hx=>by cases hx)).2
def Xb4{t:ByteArray}(h:t.size<=3000):smL Zy (Y7 t):=⟨by
  have h1:=XdW t 32
  have h2:(Y7 t).length<=(XfK t 32).length:=List.length_filter_le _ _
  omega,λx hx=>by
  have:=XmW t 32 x ((List.mem_filter.1 hx).1)
  show x.size<=1048576
  omega⟩
def s94:SP Tryz.prog:=mkS tyA 94 Tryz.f94 [] {md:=[.ro 1,.ro 1],rg:=[(0,[0,1],[]),(1,[0,1,5],[]),(2,[0,1,5,6],[]),(3,[0,1,5,6,7],[]),(4,[0,1,5,6,7,12],[]),(5,[0,1,5,6,7],[]),(6,[0,1,5,6,7,25],[]),(7,[0,1,5,7],[]),(8,[0,1,5,6,7],[]),(9,[4],[])],lv:=[(0,[0,1,5,6,7],[])],out:=[(0,[5],[])],rets:=some ([4],[])} Tryz.func94 (by kernel_rfl)
@[go_sem] def d94:s94.g=94/\s94.fs=⟨[.ro 1,.ro 1],s94.F,false⟩:=⟨nr rfl,nr rfl⟩
@[go_sem] def e94(t:ByteArray)(c:UInt8)(h0:t.size<=1048576):s94.F [.s t,.i .u8 c.toNat]=some (.sl .mut 1 ((XfK t c).map X8),[.u,.u]):=Xj (t.size+2) rfl rfl (λcx h=>by
 have hx:t.size<=1048576:=h0
 have hend:¬(((Xc4 t).length:Int)<=(t.size:Int)):=by rw[UC]; omega
 have hb0:=XF Tryz.f94 0 _ _ rfl rfl
 obtain⟨hI,hr⟩:=YG (cx:=cx) (blk:=0) (body:=YN Tryz.f94 0) (Xc4 t) (λk (s:List ByteArray×Nat×Nat)=>⟨E [(0,.s t),(1,.i .u8 c.toNat),(5,.sl .mut 1 (s.1.map X8)),(6,.i .i64 (s.2.1:Nat)),(7,.i .i64 (s.2.2:Nat))],B []⟩) (λs=>⟨E [(5,.sl .mut 1 (s.1.map X8))],B []⟩) (λx s=>Y5 t c s x) (λk s=>(s.2.2=k/\s.2.1<=k/\s.1.length<=k))
   (λs hI G=>by simp only[go_sem,reduceIte,↓reduceIte,reduceCtorEq,nA,nS,nM,nB,nE,nL,nT,nN,iL,iT,iE,iA,iM,iS,iG,iB,iN,iZ,h,Int.lt_irrefl,hb0,hI.1,hend]) (λk hk s hI=>by
    have h1:((k:Int)<((Xc4 t).length:Int)):=Int.ofNat_lt.2 hk
    obtain⟨i1,i2,i3⟩:=hI
    have hkl:k<=t.size:=by have:=UC t; omega
    have q1:((k:Int)<=(t.size:Int)):=by omega
    have t3:(s.1.length+1)*16<=140737488355328:=by omega
    have t4:∀y:ByteArray,s.1.map X8++[[.s y]]=(s.1++[y]).map X8:=λy=>by simp[X8]
    have w1:(IntKind.i64).wrap ((k:Int)+1)=((k+1:Nat):Int):=Xm (by omega)
    have s0:(0:Int)<=(k:Int):=by omega
    have s1:(0:Int)<=((s.2.1:Nat):Int):=by omega
    have s2:((s.2.1:Nat):Int)<=(k:Int):=by omega
    have hJ:(Y5 t c s (Xc4 t)[k]).2.2=k+1/\(Y5 t c s (Xc4 t)[k]).2.1<=k+1/\(Y5 t c s (Xc4 t)[k]).1.length<=k+1:=by
     unfold Y5
     split<;>simp<;>omega
    have g1:∀x,(Xc4 t)[k]=x->Y5 t c s (Xc4 t)[k]=if(x.getD c==c)=true then(s.1++[t.extract s.2.1 s.2.2],s.2.2+1,s.2.2+1) else(s.1,s.2.1,s.2.2+1):=by intro x hx; rw[hx]; rfl
    rw[i1] at g1
    rcases Nat.lt_or_ge k t.size with hlt | hge
    case' inr =>
     have hke:k=t.size:=by omega
     have hx:=XfD t (by rw[UC]; omega)
     have hx1:(Xc4 t)[k]=none:=by subst hke; exact hx
     have q2:((k:Int)==(t.size:Int))=true:=by simp; omega
     have q3:=trivial
     have q4:=trivial
     have g0:=g1 _ hx1
     rw[Option.getD_none,if_pos (by simp)] at g0
     have d1:=trivial
    case' inl =>
     have q2:((k:Int)==(t.size:Int))=false:=by simp; omega
     have q3:=Xt t.size k hlt
     have hx:=Xhf t k hlt hk
     have g0:=g1 _ hx
     rw[Option.getD_some] at g0
     have q4:(((t.data[k]?.getD 0).toNat:Int)==((c.toNat:Nat):Int))=(t.data[k]?.getD 0==c):=XmN _ _
     rcases Bool.eq_false_or_eq_true (t.data[k]?.getD 0==c) with d1 | d1
     all_goals simp only[d1,reduceIte,Bool.false_eq_true] at g0
    all_goals skip
    all_goals exact⟨hJ,_,λG=>by simp only[go_sem,reduceIte,↓reduceIte,reduceCtorEq,nA,nS,nM,nB,nE,nL,nT,nN,iL,iT,iE,iA,iM,iS,iG,iB,iN,iZ,h,i1,q1,s0,q2,q3,q4,d1,t3,t4,w1,s1,s2,Int.toNat_natCast,h1,Xt _ _ hk,Xm (show k<9223372036854775807 by omega),hb0]<;>with_reducible rfl,by simp only[go_sem,reduceIte,↓reduceIte,reduceCtorEq,nA,nS,nM,nB,nE,nL,nT,nN,iL,iT,iE,iA,iM,iS,iG,iB,iN,iZ,h,g0]⟩) ([],0,0) (by simp) (t.size+2) (by rw[UC]; exact Nat.le_refl _)
 rw[hb0] at hr
 simp only[go_sem,reduceIte,↓reduceIte,reduceCtorEq,nA,nS,nM,nB,nE,nL,nT,nN,iL,iT,iE,iA,iM,iS,iG,iB,iN,iZ,h,hr]
 rfl) (by simp only[go_sem,reduceIte,↓reduceIte,reduceCtorEq,nA,nS,nM,nB,nE,nL,nT,nN,iL,iT,iE,iA,iM,iS,iG,iB,iN,iZ,ZS,XJ])
@[go_sem] def Xs1(t:ByteArray)(h0:t.size<=1048576):s94.F [.s t,.i .u8 32]=some (.sl .mut 1 ((XfK t 32).map X8),[.u,.u]):=e94 t 32 h0
def XpE{α β:Type}(p:α->Bool)(f:α->β):∀(xs:List α) (acc:List β),xs.foldl (λs x=>if p x=true then s++[f x] else s) acc=acc++(xs.filter p).map f
 | [],acc=>by simp
 | x :: xs,acc=>by
  rw[List.foldl_cons,XpE p f xs,List.filter_cons]
  cases p x<;>simp
def XeH{α:Type}(p:α->Bool):∀(xs s:List α),xs.foldl (λs x=>if p x=true then s else s++[x]) s=s++xs.filter λx=>!p x
 | [],s=>by simp
 | x :: xs,s=>by
  rw[List.foldl_cons,XeH p xs]
  cases hp:p x<;>simp[hp]
def s55:SP Tryz.prog:=mkS tyA 55 Tryz.f55 [s94] {md:=[.ro 1],rg:=[(0,[0],[]),(1,[0,3],[]),(2,[3,4],[]),(3,[3,4,5],[]),(4,[3,4,5,12],[]),(5,[3,4,5],[]),(6,[3,4,5,19],[]),(7,[3,4,5],[]),(8,[2],[])],lv:=[(0,[3,4,5],[])],out:=[(0,[3],[])],rets:=some ([2],[])} Tryz.func55 (by kernel_rfl)
@[go_sem] def d55:s55.g=55/\s55.fs=⟨[.ro 1],s55.F,false⟩:=⟨nr rfl,nr rfl⟩
@[go_sem] def e55(t:ByteArray)(h0:t.size<=1048576):s55.F [.s t]=some (.sl .mut 1 ((Y7 t).map X8),[.u]):=Xj (t.size+2) rfl rfl (λcx h=>by
 have hl:=XdW t 32
 have hw:Y7 t=(XfK t 32).filter λx=>!(eqv x ⟨#[]⟩):=rfl
 obtain⟨ps,hps⟩:∃ps,XfK t 32=ps:=⟨_,rfl⟩
 rw[hps] at hl hw
 have hx:ps.length<=9223372036854775806:=by omega
 have hb0:=XF Tryz.f55 0 _ _ rfl rfl
 obtain⟨hI,hr⟩:=YG (cx:=cx) (blk:=0) (body:=YN Tryz.f55 0) ps (λk (s:List ByteArray)=>⟨E [(3,.sl .mut 1 (s.map X8)),(4,.sl .mut 1 (ps.map X8)),(5,.i .i64 k)],B []⟩) (λs=>⟨E [(3,.sl .mut 1 (s.map X8))],B []⟩) (λx s=>(if eqv x ⟨#[]⟩=true then s else s++[x])) (λk s=>s.length<=k)
   (λs hI G=>by simp only[go_sem,reduceIte,↓reduceIte,reduceCtorEq,nA,nS,nM,nB,nE,nL,nT,nN,iL,iT,iE,iA,iM,iS,iG,iB,iN,iZ,h,Int.lt_irrefl,hb0,hx,List.length_map,show List.take ps.length (List.map X8 ps)=List.map X8 ps from List.take_of_length_le (by simp)]) (λk hk s hI=>by
    have h1:((k:Int)<(ps.length:Int)):=Int.ofNat_lt.2 hk
    have t3:(s.length+1)*16<=140737488355328:=by omega
    have t4:s.map X8++[[.s ps[k]]]=(s++[ps[k]]).map X8:=by simp[X8]
    have tk:List.take ps.length (List.map X8 ps)=List.map X8 ps:=List.take_of_length_le (by simp)
    rcases Bool.eq_false_or_eq_true (eqv ps[k] ⟨#[]⟩) with d1 | d1
    all_goals exact⟨by split<;>(try simp only[List.length_append,List.length_cons,List.length_nil])<;>omega,_,λG=>by simp only[go_sem,reduceIte,↓reduceIte,reduceCtorEq,nA,nS,nM,nB,nE,nL,nT,nN,iL,iT,iE,iA,iM,iS,iG,iB,iN,iZ,h,t3,t4,d1,tk,YH X8 ps k hk,XjP X8 ps k hk,Xa,Xc,List.length_map,h1,Xt _ _ hk,Xm (show k<9223372036854775807 by omega),hb0]<;>with_reducible rfl,by simp only[go_sem,reduceIte,↓reduceIte,reduceCtorEq,nA,nS,nM,nB,nE,nL,nT,nN,iL,iT,iE,iA,iM,iS,iG,iB,iN,iZ,h,d1]⟩) [] (by simp) (t.size+2) (by omega)
 rw[hb0] at hr
 have hff:=XeH (λx:ByteArray=>eqv x ⟨#[]⟩) ps []
 rw[List.nil_append] at hff
 rw[hff] at hr
 simp only[go_sem,reduceIte,↓reduceIte,reduceCtorEq,nA,nS,nM,nB,nE,nL,nT,nN,iL,iT,iE,iA,iM,iS,iG,iB,iN,iZ,h,h0,hps,hr,hw,List.length_map]) (by simp only[go_sem,reduceIte,↓reduceIte,reduceCtorEq,nA,nS,nM,nB,nE,nL,nT,nN,iL,iT,iE,iA,iM,iS,iG,iB,iN,iZ,ZS,XJ])
def within(a b c:Int):Bool:=decide (b<=a)&&decide (a<=c)
def Xkp{a b c:Int}:within a b c=true↔b<=a/\a<=c:=by simp[within]
def Xkq{a b c:Int}:within a b c=false↔¬(b<=a/\a<=c):=by rw[<-Xkp]; simp
def s41:SP Tryz.prog:=mkS tyA 41 Tryz.f41 [] {md:=[.ro 1,.ro 1,.ro 1],rets:=some ([6],[])} Tryz.func41 (by kernel_rfl)
@[go_sem] def d41:s41.g=41/\s41.fs=⟨[.ro 1,.ro 1,.ro 1],s41.F,false⟩:=⟨nr rfl,nr rfl⟩
@[go_sem] def e41(a b c:Int):s41.F [.i .i64 a,.i .i64 b,.i .i64 c]=some (.b (within a b c),[.u,.u,.u]):=Xj (0) rfl rfl (λcx h=>by
 simp only[go_sem,reduceIte,↓reduceIte,reduceCtorEq,nA,nS,nM,nB,nE,nL,nT,nN,iL,iT,iE,iA,iM,iS,iG,iB,iN,iZ,h,within]
 by_cases h:b<=a<;>simp[h]) (rfl)
def XoO:SP Tryz.prog:=mkS tyA 126 Tryz.f126 [] {md:=[.ro 1],rets:=some ([2],[])} Tryz.func126 (by kernel_rfl)
@[go_sem] def XGb:XoO.g=126/\XoO.fs=⟨[.ro 1],XoO.F,false⟩:=⟨nr rfl,nr rfl⟩
@[go_sem] def XGc(c:UInt8):XoO.F [.i .u8 c.toNat]=some (.b (Z5 c),[.u]):=Xj (0) rfl rfl (λcx h=>by
 by_cases h1:97<=(c.toNat:Int)<;>by_cases h2:(c.toNat:Int)<=122<;>by_cases h3:65<=(c.toNat:Int)<;>by_cases h4:(c.toNat:Int)<=90<;>simp only[go_sem,reduceIte,↓reduceIte,reduceCtorEq,nA,nS,nM,nB,nE,nL,nT,nN,iL,iT,iE,iA,iM,iS,iG,iB,iN,iZ,h,h1,h2,h3,h4,Z5]) (rfl)
def wx:(1:Int)=1:=rfl
def XoP:SP Tryz.prog:=mkS tyA 164 Tryz.f164 [XoO,XmM] {md:=[.ro 1],rg:=[(0,[0],[]),(1,[0,3],[]),(2,[0,3,4],[]),(3,[0,3,4],[]),(4,[0,3,4],[]),(5,[0,3,4],[]),(6,[0,3,4],[]),(7,[0,3,4],[]),(8,[0,3,4],[]),(9,[0,3,4],[]),(10,[0,3,4],[]),(11,[0,3,4],[]),(12,[0,3,4],[]),(13,[0,3,4],[]),(14,[0,3,4],[]),(15,[0,4],[]),(16,[2],[]),(17,[2],[])],rets:=some ([2],[])} Tryz.func164 (by kernel_rfl)
@[go_sem] def XGd:XoP.g=164/\XoP.fs=⟨[.ro 1],XoP.F,false⟩:=⟨nr rfl,nr rfl⟩
@[go_sem] def XGe(c:UInt8):XoP.F [.i .u8 c.toNat]=some (.b (Uf c),[.u]):=Xj (0) rfl rfl (λcx h=>by
 by_cases m:c∈Xhj
 ·have hw:=Xin m
  simp only[Xhj,List.mem_cons,List.not_mem_nil,or_false] at m
  have u33:(((33:UInt8).toNat:Nat):Int)=33:=rfl
  have u35:(((35:UInt8).toNat:Nat):Int)=35:=rfl
  have u36:(((36:UInt8).toNat:Nat):Int)=36:=rfl
  have u37:(((37:UInt8).toNat:Nat):Int)=37:=rfl
  have u38:(((38:UInt8).toNat:Nat):Int)=38:=rfl
  have u39:(((39:UInt8).toNat:Nat):Int)=39:=rfl
  have u42:(((42:UInt8).toNat:Nat):Int)=42:=rfl
  have u43:(((43:UInt8).toNat:Nat):Int)=43:=rfl
  have u45:(((45:UInt8).toNat:Nat):Int)=45:=rfl
  have u46:(((46:UInt8).toNat:Nat):Int)=46:=rfl
  have u94:(((94:UInt8).toNat:Nat):Int)=94:=rfl
  have u95:(((95:UInt8).toNat:Nat):Int)=95:=rfl
  have u124:(((124:UInt8).toNat:Nat):Int)=124:=rfl
  have u126:(((126:UInt8).toNat:Nat):Int)=126:=rfl
  rcases m with rfl | rfl | rfl | rfl | rfl | rfl | rfl | rfl | rfl | rfl | rfl | rfl | rfl | rfl<;>simp only[go_sem,reduceIte,↓reduceIte,reduceCtorEq,nA,nS,nM,nB,nE,nL,nT,nN,iL,iT,iE,iA,iM,iS,iG,iB,iN,iZ,h,hw,wx,u33,u35,u36,u37,u38,u39,u42,u43,u45,u46,u94,u95,u124,u126]
 ·have hw:=Xio m
  have q33:((c.toNat:Int)==33)=false:=XbL (v:=33) (λe=>m (by subst e; decide))
  have q35:((c.toNat:Int)==35)=false:=XbL (v:=35) (λe=>m (by subst e; decide))
  have q36:((c.toNat:Int)==36)=false:=XbL (v:=36) (λe=>m (by subst e; decide))
  have q37:((c.toNat:Int)==37)=false:=XbL (v:=37) (λe=>m (by subst e; decide))
  have q38:((c.toNat:Int)==38)=false:=XbL (v:=38) (λe=>m (by subst e; decide))
  have q39:((c.toNat:Int)==39)=false:=XbL (v:=39) (λe=>m (by subst e; decide))
  have q42:((c.toNat:Int)==42)=false:=XbL (v:=42) (λe=>m (by subst e; decide))
  have q43:((c.toNat:Int)==43)=false:=XbL (v:=43) (λe=>m (by subst e; decide))
  have q45:((c.toNat:Int)==45)=false:=XbL (v:=45) (λe=>m (by subst e; decide))
  have q46:((c.toNat:Int)==46)=false:=XbL (v:=46) (λe=>m (by subst e; decide))
  have q94:((c.toNat:Int)==94)=false:=XbL (v:=94) (λe=>m (by subst e; decide))
  have q95:((c.toNat:Int)==95)=false:=XbL (v:=95) (λe=>m (by subst e; decide))
  have q124:((c.toNat:Int)==124)=false:=XbL (v:=124) (λe=>m (by subst e; decide))
  have q126:((c.toNat:Int)==126)=false:=XbL (v:=126) (λe=>m (by subst e; decide))
  cases h1:Z5 c<;>cases h2:Zv c<;>simp only[go_sem,reduceIte,↓reduceIte,reduceCtorEq,nA,nS,nM,nB,nE,nL,nT,nN,iL,iT,iE,iA,iM,iS,iG,iB,iN,iZ,h,hw,h1,h2,q33,q35,q36,q37,q38,q39,q42,q43,q45,q46,q94,q95,q124,q126]) (rfl)
def XpF:SP Tryz.prog:=mkS tyA 132 Tryz.f132 [XoP] {md:=[.ro 1],rg:=[(0,[0],[]),(1,[0,11],[]),(2,[2],[]),(3,[0,3],[]),(4,[0,3,15],[]),(5,[0,3],[]),(6,[0,3,22],[]),(7,[2],[]),(8,[2],[])],lv:=[(0,[0,3],[])],out:=[(0,[],[])],rets:=some ([2],[])} Tryz.func132 (by kernel_rfl)
@[go_sem] def XGf:XpF.g=132/\XpF.fs=⟨[.ro 1],XpF.F,false⟩:=⟨nr rfl,nr rfl⟩
@[go_sem] def XGg(t:ByteArray):XpF.F [.s t]=some (.b (Xb0 t),[.u]):=Xj (t.data.toList.length+1) rfl rfl (λcx h=>by
 have hu:Xb0 t=Xa7 Uf 1 64 t:=rfl
 by_cases h1:(t.size:Int)<1
 ·simp only[go_sem,reduceIte,↓reduceIte,reduceCtorEq,nA,nS,nM,nB,nE,nL,nT,nN,iL,iT,iE,iA,iM,iS,iG,iB,iN,iZ,h,h1,hu,Y9 h1]
 by_cases h2:64<(t.size:Int)
 ·simp only[go_sem,reduceIte,↓reduceIte,reduceCtorEq,nA,nS,nM,nB,nE,nL,nT,nN,iL,iT,iE,iA,iM,iS,iG,iB,iN,iZ,h,h1,h2,hu,Zz h2]
 have hx:t.data.toList.length<=9223372036854775806:=by rw[<-Xe]; omega
 have ha:=Qd (p:=Uf) h1 h2
 rw[Xe t] at h1 h2
 ·have hb0:=XF Tryz.f132 0 _ _ rfl rfl
  obtain⟨r,hr,hq⟩:=Yz (cx:=cx) (blk:=0) (body:=YN Tryz.f132 0) t.data.toList (λk (s:Unit)=>⟨E [(0,.s t),(3,.i .i64 k)],B []⟩) (λs=>⟨E [],B []⟩) (λx s=>!Uf x) (λx s=>()) (λx s=>(.ret,⟨E [(2,.b false)],B []⟩)) (λk s=>True)
    (λs hI G=>by simp only[go_sem,reduceIte,↓reduceIte,reduceCtorEq,nA,nS,nM,nB,nE,nL,nT,nN,iL,iT,iE,iA,iM,iS,iG,iB,iN,iZ,h,Int.lt_irrefl,hb0,Xe t]) (λk hk s hI=>by
     have h1:((k:Int)<(t.data.toList.length:Int)):=Int.ofNat_lt.2 hk
     have hz:=UH t k hk
     exact⟨_,_,_,λG=>by simp only[go_sem,reduceIte,↓reduceIte,reduceCtorEq,nA,nS,nM,nB,nE,nL,nT,nN,iL,iT,iE,iA,iM,iS,iG,iB,iN,iZ,h,hz,Xe t,h1,Xt _ _ hk,Xm (show k<9223372036854775807 by omega),hb0]<;>with_reducible rfl,Iff.rfl,λhc=>⟨trivial,by simp only[go_sem,reduceIte,↓reduceIte,reduceCtorEq,nA,nS,nM,nB,nE,nL,nT,nN,iL,iT,iE,iA,iM,iS,iG,iB,iN,iZ,h,Xe t]⟩⟩) () trivial (t.data.toList.length+1) (Nat.le_refl _)
  rw[hb0] at hr
  rcases hq with⟨s',e1,_,e3⟩ | ⟨x,s',e1,e3⟩
  ·simp only[go_sem,reduceIte,↓reduceIte,reduceCtorEq,nA,nS,nM,nB,nE,nL,nT,nN,iL,iT,iE,iA,iM,iS,iG,iB,iN,iZ,h,h1,h2,Xe t,hr,e3,hu,ha,Qe e1]
  ·simp only[go_sem,reduceIte,↓reduceIte,reduceCtorEq,nA,nS,nM,nB,nE,nL,nT,nN,iL,iT,iE,iA,iM,iS,iG,iB,iN,iZ,h,h1,h2,Xe t,hr,e3,hu,ha,ZA e1]) (rfl)
def XpG:SP Tryz.prog:=mkS tyA 166 Tryz.f166 [] {md:=[.ro 1],rets:=some ([2],[])} Tryz.func166 (by kernel_rfl)
@[go_sem] def XGh:XpG.g=166/\XpG.fs=⟨[.ro 1],XpG.F,false⟩:=⟨nr rfl,nr rfl⟩
@[go_sem] def XGi(c:UInt8):XpG.F [.i .u8 c.toNat]=some (.b (Xan c),[.u]):=Xj (0) rfl rfl (λcx h=>by
 cases h1:((c.toNat:Int)==9)<;>by_cases h2:32<=(c.toNat:Int)<;>by_cases h3:(c.toNat:Int)<=126<;>simp only[go_sem,reduceIte,↓reduceIte,reduceCtorEq,nA,nS,nM,nB,nE,nL,nT,nN,iL,iT,iE,iA,iM,iS,iG,iB,iN,iZ,h,h1,h2,h3,Xan]) (rfl)
def XpH:SP Tryz.prog:=mkS tyA 133 Tryz.f133 [XpG] {md:=[.ro 1],rg:=[(0,[0],[]),(1,[0,3],[]),(2,[0,3,7],[]),(3,[0,3],[]),(4,[0,3,14],[]),(5,[2],[]),(6,[2],[])],lv:=[(0,[0,3],[])],out:=[(0,[],[])],rets:=some ([2],[])} Tryz.func133 (by kernel_rfl)
@[go_sem] def XGj:XpH.g=133/\XpH.fs=⟨[.ro 1],XpH.F,false⟩:=⟨nr rfl,nr rfl⟩
@[go_sem] def XGk(t:ByteArray)(h0:(t.size:Int)<=1000000):XpH.F [.s t]=some (.b (Xmh t),[.u]):=Xj (t.data.toList.length+1) rfl rfl (λcx h=>by
 have hx:t.data.toList.length<=9223372036854775806:=by rw[<-Xe]; omega
 have hb0:=XF Tryz.f133 0 _ _ rfl rfl
 obtain⟨r,hr,hq⟩:=Yz (cx:=cx) (blk:=0) (body:=YN Tryz.f133 0) t.data.toList (λk (s:Unit)=>⟨E [(0,.s t),(3,.i .i64 k)],B []⟩) (λs=>⟨E [],B []⟩) (λx s=>!Xan x) (λx s=>()) (λx s=>(.ret,⟨E [(2,.b false)],B []⟩)) (λk s=>True)
   (λs hI G=>by simp only[go_sem,reduceIte,↓reduceIte,reduceCtorEq,nA,nS,nM,nB,nE,nL,nT,nN,iL,iT,iE,iA,iM,iS,iG,iB,iN,iZ,h,Int.lt_irrefl,hb0,Xe t]) (λk hk s hI=>by
    have h1:((k:Int)<(t.data.toList.length:Int)):=Int.ofNat_lt.2 hk
    have hz:=UH t k hk
    exact⟨_,_,_,λG=>by simp only[go_sem,reduceIte,↓reduceIte,reduceCtorEq,nA,nS,nM,nB,nE,nL,nT,nN,iL,iT,iE,iA,iM,iS,iG,iB,iN,iZ,h,hz,Xe t,h1,Xt _ _ hk,Xm (show k<9223372036854775807 by omega),hb0]<;>with_reducible rfl,Iff.rfl,λhc=>⟨trivial,by simp only[go_sem,reduceIte,↓reduceIte,reduceCtorEq,nA,nS,nM,nB,nE,nL,nT,nN,iL,iT,iE,iA,iM,iS,iG,iB,iN,iZ,h,Xe t]⟩⟩) () trivial (t.data.toList.length+1) (Nat.le_refl _)
 rw[hb0] at hr
 rcases hq with⟨s',e1,_,e3⟩ | ⟨x,s',e1,e3⟩
 ·simp only[go_sem,reduceIte,↓reduceIte,reduceCtorEq,nA,nS,nM,nB,nE,nL,nT,nN,iL,iT,iE,iA,iM,iS,iG,iB,iN,iZ,h,hr,e3,Xmh,Qe e1]
 ·simp only[go_sem,reduceIte,↓reduceIte,reduceCtorEq,nA,nS,nM,nB,nE,nL,nT,nN,iL,iT,iE,iA,iM,iS,iG,iB,iN,iZ,h,hr,e3,Xmh,ZA e1]) (rfl)
def XpI:SP Tryz.prog:=mkS tyA 167 Tryz.f167 [] {md:=[.ro 1],rets:=some ([2],[])} Tryz.func167 (by kernel_rfl)
@[go_sem] def XGl:XpI.g=167/\XpI.fs=⟨[.ro 1],XpI.F,false⟩:=⟨nr rfl,nr rfl⟩
@[go_sem] def XGm(c:UInt8):XpI.F [.i .u8 c.toNat]=some (.b (XaK c),[.u]):=Xj (0) rfl rfl (λcx h=>by
 cases h1:((c.toNat:Int)==32)<;>cases h2:((c.toNat:Int)==9)<;>simp only[go_sem,reduceIte,↓reduceIte,reduceCtorEq,nA,nS,nM,nB,nE,nL,nT,nN,iL,iT,iE,iA,iM,iS,iG,iB,iN,iZ,h,h1,h2,XaK]) (rfl)
def XpJ:SP Tryz.prog:=mkS tyA 134 Tryz.f134 [XpI] {md:=[.ro 1],rg:=[(0,[0],[]),(1,[0,3],[]),(2,[0,3,4],[]),(3,[0,3,4,15],[]),(4,[0,3,4],[]),(5,[0,3,4,27],[]),(6,[0,3,4],[]),(7,[2],[])],lv:=[(0,[0,3,4],[]),(2,[0,3,4],[])],out:=[(0,[0,3,4],[]),(2,[0,3,4],[])],rets:=some ([2],[])} Tryz.func134 (by kernel_rfl)
@[go_sem] def XGn:XpJ.g=134/\XpJ.fs=⟨[.ro 1],XpJ.F,false⟩:=⟨nr rfl,nr rfl⟩
@[go_sem] def XGo(t:ByteArray)(h0:t.size<=9223372036854775806):XpJ.F [.s t]=some (.s (XfQ t),[.u]):=Xj (t.size+1) rfl rfl (λcx h=>by
 have hb:=XF Tryz.f134 0 _ _ rfl rfl
 have hb1:=XF Tryz.f134 1 _ _ rfl rfl
 have lp:=Xeh (cx:=cx) (blk:=0) (body:=YN Tryz.f134 0) (λ(k:Nat)=>⟨E [(0,.s t),(3,.i .i64 k),(4,.i .i64 t.size)],B []⟩) (λk=>k<=t.size) (λk=>t.size-k)
  (λk r=>∃f:Nat,k<=f/\f<=t.size/\(∀j,k<=j->j<f->bl t j=true)/\(f<t.size->bl t f=false)/\r=some (.ex 0,⟨E [(0,.s t),(3,.i .i64 f),(4,.i .i64 t.size)],B []⟩)) (λk hk=>by
  by_cases h1:(k:Int)<(t.size:Int)
  ·have i1:=Xt t.size k (by omega)
   have w1:=Xm (show k<9223372036854775807 by omega)
   cases h2:bl t k
   ·have h3:XaK (t.data[k]?.getD 0)=false:=h2
    exact .inl λG=>⟨k,Nat.le_refl _,hk,λj a b=>by omega,λ_=>h2,by simp only[go_sem,reduceIte,↓reduceIte,reduceCtorEq,nA,nS,nM,nB,nE,nL,nT,nN,iL,iT,iE,iA,iM,iS,iG,iB,iN,iZ,h,hb,h1,h3,i1]⟩
   ·have h3:XaK (t.data[k]?.getD 0)=true:=h2
    refine .inr ⟨_,k+1,?_,by omega,by omega,λr ⟨f,a,b,c,d,e⟩=>⟨f,by omega,b,λj x y=>?_,d,e⟩,λG=>by simp only[go_sem,reduceIte,↓reduceIte,reduceCtorEq,nA,nS,nM,nB,nE,nL,nT,nN,iL,iT,iE,iA,iM,iS,iG,iB,iN,iZ,h,hb,h1,h3,i1,w1]; rfl⟩
    ·simp only[go_sem,reduceIte,↓reduceIte,reduceCtorEq,nA,nS,nM,nB,nE,nL,nT,nN,iL,iT,iE,iA,iM,iS,iG,iB,iN,iZ,h]
    ·rcases Nat.eq_or_lt_of_le x with rfl | x
     ·exact h2
     ·exact c j x y
  ·exact .inl λG=>⟨k,Nat.le_refl _,hk,λj a b=>by omega,λx=>by omega,by simp only[go_sem,reduceIte,↓reduceIte,reduceCtorEq,nA,nS,nM,nB,nE,nL,nT,nN,iL,iT,iE,iA,iM,iS,iG,iB,iN,iZ,h,hb,h1]⟩)
 rw[hb] at lp
 obtain⟨f,_,f2,f3,f4,l1⟩:=lp (t.size+1) 0 (Nat.zero_le _) (by omega) ⟨E [(0,.s t),(3,.i .i64 0),(4,.i .i64 t.size)],B []⟩ (by simp only[go_sem,reduceIte,↓reduceIte,reduceCtorEq,nA,nS,nM,nB,nE,nL,nT,nN,iL,iT,iE,iA,iM,iS,iG,iB,iN,iZ,h])
 have lp2:=Xeh (cx:=cx) (blk:=2) (body:=YN Tryz.f134 1) (λ(k:Nat)=>⟨E [(0,.s t),(3,.i .i64 f),(4,.i .i64 k)],B []⟩) (λk=>f<=k/\k<=t.size) (λk=>k)
  (λk r=>∃e:Nat,f<=e/\e<=k/\(∀j,e<=j->j<k->bl t j=true)/\(f<e->bl t (e-1)=false)/\r=some (.ex 2,⟨E [(0,.s t),(3,.i .i64 f),(4,.i .i64 e)],B []⟩)) (λk hk=>by
  by_cases h1:(f:Int)<(k:Int)
  ·obtain⟨m,rfl⟩:∃m,k=m+1:=⟨k-1,by omega⟩
   have i1:=Xt t.size m (by omega)
   have w1:(IntKind.i64).wrap (((m+1:Nat):Int)-1)=(m:Int):=by rw[YL (by omega) (by omega)]; omega
   cases h2:bl t m
   ·have h3:XaK (t.data[m]?.getD 0)=false:=h2
    exact .inl λG=>⟨m+1,hk.1,Nat.le_refl _,λj a b=>by omega,λ_=>by simpa using h2,by simp only[go_sem,reduceIte,↓reduceIte,reduceCtorEq,nA,nS,nM,nB,nE,nL,nT,nN,iL,iT,iE,iA,iM,iS,iG,iB,iN,iZ,h,hb1,h1,h3,i1,w1]⟩
   ·have h3:XaK (t.data[m]?.getD 0)=true:=h2
    refine .inr ⟨_,m,?_,⟨by omega,by omega⟩,by omega,λr ⟨e,a,b,c,d,g⟩=>⟨e,a,by omega,λj x y=>?_,d,g⟩,λG=>by simp only[go_sem,reduceIte,↓reduceIte,reduceCtorEq,nA,nS,nM,nB,nE,nL,nT,nN,iL,iT,iE,iA,iM,iS,iG,iB,iN,iZ,h,hb1,h1,h3,i1,w1]; rfl⟩
    ·simp only[go_sem,reduceIte,↓reduceIte,reduceCtorEq,nA,nS,nM,nB,nE,nL,nT,nN,iL,iT,iE,iA,iM,iS,iG,iB,iN,iZ,h]
    ·rcases Nat.lt_or_ge j m with y' | y'
     ·exact c j x y'
     ·obtain rfl:j=m:=by omega
      exact h2
  ·exact .inl λG=>⟨k,hk.1,Nat.le_refl _,λj a b=>by omega,λx=>by omega,by simp only[go_sem,reduceIte,↓reduceIte,reduceCtorEq,nA,nS,nM,nB,nE,nL,nT,nN,iL,iT,iE,iA,iM,iS,iG,iB,iN,iZ,h,hb1,h1]⟩)
 rw[hb1] at lp2
 obtain⟨e,e1,e2,e3,e4,l2⟩:=lp2 (t.size+1) t.size ⟨f2,Nat.le_refl _⟩ (by omega) ⟨E [(0,.s t),(3,.i .i64 f),(4,.i .i64 t.size)],B []⟩ (by simp only[go_sem,reduceIte,↓reduceIte,reduceCtorEq,nA,nS,nM,nB,nE,nL,nT,nN,iL,iT,iE,iA,iM,iS,iG,iB,iN,iZ,h])
 have hc:=Xkm t f e e1 e2 (λj hj=>f3 j (Nat.zero_le _) hj) f4 e3 e4
 have c1:(0:Int)<=(e:Int):=by omega
 have c2:(e:Int)<=(t.size:Int):=by omega
 have c3:(0:Int)<=(f:Int):=by omega
 have c4:(f:Int)<=(e:Int):=by omega
 simp only[go_sem,reduceIte,↓reduceIte,reduceCtorEq,nA,nS,nM,nB,nE,nL,nT,nN,iL,iT,iE,iA,iM,iS,iG,iB,iN,iZ,h,l1,l2,c1,c2,c3,c4,Int.toNat_natCast,hc]) (rfl)
end
end Go.Vm.A
