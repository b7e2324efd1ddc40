/- Functions of the program, walked by the evaluator. -/
import Derived.Test.YtebnbhjcfanddaaDoorWb
import Derived.Test.YtebnbhjcfanddaaDoorWa
import Derived.Test.YtebnbhjcfanddaaDoorFa
set_option linter.unusedVariables false
set_option linter.unusedSimpArgs false
set_option autoImplicit false
set_option maxRecDepth 100000
set_option maxHeartbeats 4000000
set_option linter.defProp false
namespace Go.Vm.A
open Go.Proofs
open Nat renaming reduceAdd -> nA, reduceSub -> nS, reduceMul -> nM, reduceBEq -> nB, reduceEqDiff -> nE, reduceLeDiff -> nL, reduceLT -> nT, reduceBneDiff -> nN
open Int renaming reduceLE -> iL, reduceLT -> iT, reduceEq -> iE, reduceAdd -> iA, reduceMul -> iM, reduceSub -> iS, reduceNeg -> iG, reduceBEq -> iB, reduceBNe -> iN, reduceToNat -> iZ
noncomputable section
def s95:SP Tryd.prog:=mkS tyA 95 Tryd.f95 [] {md:=[.ro 1],rg:=[(0,[0],[]),(1,[3],[]),(2,[3,4],[]),(3,[3,4,10],[]),(4,[3,4],[]),(5,[3,4,24],[]),(6,[3,4],[]),(7,[2],[])],lv:=[(0,[3,4],[])],out:=[(0,[3],[])],rets:=some ([2],[])} Tryd.func95 (by kernel_rfl)
@[go_sem] def d95:s95.g=95/\s95.fs=⟨[.ro 1],s95.F,false⟩:=⟨nr rfl,nr rfl⟩
@[go_sem] def e95(t:ByteArray)(h0:t.size<=9223372036854775806):s95.F [.s t]=some (.s (Z7 t),[.u]):=Xs (t.data.toList.length+1) rfl rfl (λcx h=>by
 have hz:t.data.toList.length<=9223372036854775807:=by rw[<-Xv]; omega
 have hx:t.data.toList.length<=9223372036854775806:=by rw[<-Xv]; exact h0
 have hb0:=XS Tryd.f95 0 _ _ rfl rfl
 obtain⟨hI,hr⟩:=YY (cx:=cx) (blk:=0) (body:=Zw Tryd.f95 0) t.data.toList (λk (s:Unit)=>⟨E [(3,.sl .mut 1 ((Zi t.data.toList k).map Xw)),(4,.i .i64 k)],B []⟩) (λs=>⟨E [(3,.sl .mut 1 ((t.data.toList.map XdP).map Xw))],B []⟩) (λx s=>s) (λk s=>True)
   (λs hI G=>by simp only[go_sem,reduceIte,↓reduceIte,nB,nE,h,Int.lt_irrefl,hb0,XcN t.data.toList,List.length_map]) (λk hk s hI=>by
    have h1:((k:Int)<(t.data.toList.length:Int)):=Int.ofNat_lt.2 hk
    have g1:=XeG t.data.toList k hk
    have g2:=Xf9 t.data.toList k hk
    have g3:=XcO t.data.toList k (Nat.le_of_lt hk)
    have g4:(List.take t.data.toList.length ((Zi t.data.toList k).map Xw))=(Zi t.data.toList k).map Xw:=List.take_of_length_le (by rw[List.length_map,g3]; exact Nat.le_refl _)
    rcases Xgb t.data.toList k hk with⟨a1,a2,w1,w2,hs,hv⟩ | ⟨a1,a2,w1,w2,hs,hv⟩ | ⟨a1,a2,w1,w2,hs,hv⟩
    all_goals exact⟨trivial,_,λG=>by simp only[go_sem,reduceIte,↓reduceIte,nB,nE,h,g1,g2,g3,g4,a1,a2,w2,hs,List.length_map,h1,Yi _ _ hk,XN (show k<9223372036854775807 by omega),hb0]<;>with_reducible rfl,by simp only[go_sem,reduceIte,↓reduceIte,nB,h,hv]⟩) () trivial (t.data.toList.length+1) (Nat.le_refl _)
 rw[hb0] at hr
 rw[XbE] at hr
 simp only[go_sem,reduceIte,↓reduceIte,nB,nE,h,hz,hr,Xv t,Z7]) (rfl)
def s84:SP Tryd.prog:=mkS tyA 84 Tryd.f84 [s95] {md:=[.ro 1,.ro 1],rets:=some ([4],[])} Tryd.func84 (by kernel_rfl)
@[go_sem] def d84:s84.g=84/\s84.fs=⟨[.ro 1,.ro 1],s84.F,false⟩:=⟨nr rfl,nr rfl⟩
@[go_sem] def e84(a b:ByteArray)(h0:(a.size<=9223372036854775806/\b.size<=9223372036854775806)):s84.F [.s a,.s b]=some (.b (eqv (Z7 a) (Z7 b)),[.u,.u]):=Xs (0) rfl rfl (λcx h=>by
 simp only[go_sem,reduceIte,↓reduceIte,nB,h,h0.1,h0.2,Q1]) (rfl)
def okN(n:ByteArray):Bool:=decide (n.size<=9223372036854775806)
def ZJ(hs:List Xh)(n:ByteArray):List Xh:=hs.filter λx=>!eqv (Z7 x.Name) (Z7 n)
def XaQ(hs:List Xh)(n:ByteArray):(ZJ hs n).length<=hs.length:=List.length_filter_le _ _
def XcP{α:Type}(p:α->Bool):∀(xs s:List α),xs.foldl (λs x=>if p x=true then s else s++[x]) s=s++xs.filter λx=>!p x
 | [],s=>by simp
 | x :: xs,s=>by
  rw[List.foldl_cons,XcP p xs]
  cases hp:p x<;>simp[hp]
def XdQ{α:Type}(p:α->Bool):∀(xs:List α) (m:Nat),XcK p xs m =-1\/∃i,i<xs.length/\XcK p xs m=((m+i:Nat):Int)
 | [],_=>.inl rfl
 | x :: xs,m=>by
  rw[XcK]
  split
  ·exact .inr ⟨0,by simp,by simp⟩
  ·rcases XdQ p xs (m+1) with h | ⟨i,h1,h2⟩
   ·exact .inl h
   ·exact .inr ⟨i+1,by simp; omega,by rw[h2]; congr 1; omega⟩
def Xj1{α:Type}(p:α->Bool)(xs:List α)(h:¬XcK p xs 0<0):∃i,i<xs.length/\XcK p xs 0=(i:Int):=by
 rcases XdQ p xs 0 with h1 | ⟨i,h1,h2⟩
 ·rw[h1] at h; exact absurd (by decide) h
 ·exact⟨i,h1,by rw[h2,Nat.zero_add]⟩
def setV(n v:ByteArray):List Xh->List Xh
 | []=>[⟨n,v⟩]
 | x :: r=>if eqv (Z7 x.Name) (Z7 n)=true then⟨n,v⟩ :: ZJ r n else x :: setV n v r
def Qh(x:Xh)(r:List Xh)(n:ByteArray):ZJ (x :: r) n=if eqv (Z7 x.Name) (Z7 n)=true then ZJ r n else x :: ZJ r n:=by
 unfold ZJ
 rw[List.filter_cons]
 cases eqv (Z7 x.Name) (Z7 n)<;>rfl
def XeH{n v:ByteArray}:∀(hs:List Xh) (m:Nat),XcK (λx:Xh=>eqv (Z7 x.Name) (Z7 n)) hs m<0->setV n v hs=ZJ hs n++[⟨n,v⟩]
 | [],_,_=>rfl
 | x :: r,m,h=>by
  rw[XcK] at h
  split at h
  ·omega
  ·rename_i hc; rw[setV,Qh,if_neg hc,if_neg hc,XeH r (m+1) h]; rfl
def XeI{n v:ByteArray}:∀(hs:List Xh) (m i:Nat),XcK (λx:Xh=>eqv (Z7 x.Name) (Z7 n)) hs m=((m+i:Nat):Int)->setV n v hs=(ZJ hs n).take i++[⟨n,v⟩]++(ZJ hs n).drop i/\i<=(ZJ hs n).length
 | [],m,i,h=>by rw[XcK] at h; omega
 | x :: r,m,i,h=>by
  rw[XcK] at h
  split at h
  ·rename_i hc
   obtain rfl:i=0:=by omega
   rw[setV,Qh,if_pos hc,if_pos hc]
   exact⟨rfl,Nat.zero_le _⟩
  ·rename_i hc
   rcases XdQ (λx:Xh=>eqv (Z7 x.Name) (Z7 n)) r (m+1) with h1 | ⟨q,h1,h2⟩
   ·omega
   ·obtain rfl:i=q+1:=by omega
    obtain⟨k1,k2⟩:=XeI (v:=v) r (m+1) q (by omega)
    rw[setV,Qh,if_neg hc,if_neg hc,k1]
    exact⟨rfl,by simpa using k2⟩
def XeJ(n v:ByteArray):∀hs:List Xh,(setV n v hs).length<=hs.length+1
 | []=>Nat.le_refl _
 | x :: r=>by
  rw[setV]
  split
  ·have:=XaQ r n; simp only[List.length_cons]; omega
  ·have:=XeJ n v r; simp only[List.length_cons]; omega
def Xgc{n v:ByteArray}(hn:n.size<=1048576)(hv:v.size<=1048576):∀{hs:List Xh},Xjl Ya hs->Xjl Ya (setV n v hs)
 | [],_=>λx hx=>by obtain rfl:=List.mem_singleton.1 hx; exact⟨hn,hv⟩
 | y :: r,h=>by
  rw[setV]
  split
  ·intro x hx
   rcases List.mem_cons.1 hx with rfl | hx
   ·exact⟨hn,hv⟩
   ·exact h x (List.mem_cons_of_mem _ ((List.mem_filter.1 hx).1))
  ·intro x hx
   rcases List.mem_cons.1 hx with rfl | hx
   ·exact h x (List.mem_cons_self ..)
   ·exact Xgc hn hv (λz hz=>h z (List.mem_cons_of_mem _ hz)) x hx
def Xf4(n v:ByteArray)(s:List Xh×Bool)(x:Xh):List Xh×Bool:=if eqv (Z7 x.Name) (Z7 n)=true then(if s.2=true then s else(s.1++[⟨n,v⟩],true)) else(s.1++[x],s.2)
def Xgd(n v:ByteArray):∀(hs acc:List Xh),hs.foldl (λs x=>Xf4 n v s x) (acc,true)=(acc++ZJ hs n,true)
 | [],acc=>by simp[ZJ]
 | x :: r,acc=>by
  rw[List.foldl_cons,Qh]
  unfold Xf4
  cases c:eqv (Z7 x.Name) (Z7 n)
  ·rw[if_neg (by decide),if_neg (by decide)]
   have:=Xgd n v r (acc++[x])
   unfold Xf4 at this
   rw[this]; simp
  ·rw[if_pos rfl,if_pos rfl,if_pos rfl]
   exact Xgd n v r acc
def Xjx(n v:ByteArray):∀(hs acc:List Xh),hs.foldl (λs x=>Xf4 n v s x) (acc,false)=(acc++setV n v hs,true)\/(hs.foldl (λs x=>Xf4 n v s x) (acc,false)=(acc++ZJ hs n,false)/\setV n v hs=ZJ hs n++[⟨n,v⟩])
 | [],acc=>.inr ⟨by simp[ZJ],rfl⟩
 | x :: r,acc=>by
  rw[List.foldl_cons,Qh,setV]
  unfold Xf4
  cases c:eqv (Z7 x.Name) (Z7 n)
  ·rw[if_neg (by decide),if_neg (by decide)]
   have h:=Xjx n v r (acc++[x])
   unfold Xf4 at h
   rcases h with h | ⟨h1,h2⟩
   ·exact .inl (by rw[h]; simp)
   ·exact .inr ⟨by rw[h1]; simp,by rw[if_neg (by decide),h2]; rfl⟩
  ·have hz:∀(a b:List Xh×Bool),(if(acc,false).2=true then a else b)=b:=λa b=>if_neg (λe=>by cases e)
   rw[if_pos rfl,hz,if_pos rfl]
   have h:=Xgd n v r (acc++[⟨n,v⟩])
   unfold Xf4 at h
   exact .inl (by rw[h]; simp)
def s67:SP Tryd.prog:=mkS tyA 67 Tryd.f67 [s84] {md:=[.ro 1,.ro 1],rg:=[(0,[0,3],[3]),(1,[0,3,5],[3]),(2,[0,3,5,6],[3]),(3,[0,3,5,6,7],[3]),(4,[0,3,5,6,7,12],[3]),(5,[0,3,5,6,7],[3]),(6,[0,3,5,6,7,23],[3]),(7,[0,3,5,6,7],[3]),(8,[0,3,5,6,7,32],[3]),(9,[0,3,5,7],[3]),(10,[0,3,5,6,7],[3]),(11,[3,5,38],[3]),(12,[5],[]),(13,[4],[])],lv:=[(0,[0,3,5,6,7],[3])],out:=[(0,[3,5,6],[3])],rets:=some ([4],[]),plan:=[(6,(.take 0 (.take 1 (.take 2 (.take 3 (.take 4 (.take 5 (.take 6 (.one 7 (.take 8 .done))))))))))],fz:=[3]} Tryd.func67 (by kernel_rfl)
@[go_sem] def d67:s67.g=67/\s67.fs=⟨[.ro 1,.ro 1],s67.F,false⟩:=⟨nr rfl,nr rfl⟩
@[go_sem] def e67(hs:List Xh)(name value:ByteArray)(h0:(hs.length<=20/\smL Ya hs/\okN name=true)):s67.F [.sl .ro 2 (hs.map (Xb .ro)),.agg [.s name,.s value]]=some (.sl .mut 2 ((setV name value hs).map (Xb .mut)),[.u,.u]):=Xs (hs.length+1) rfl rfl (λcx h=>by
 have hl:=h0.1
 have hx:hs.length<=9223372036854775806:=by omega
 have hb0:=XS Tryd.f67 0 _ _ rfl rfl
 obtain⟨hI,hr⟩:=YY (cx:=cx) (blk:=0) (body:=Zw Tryd.f67 0) hs (λk (s:List Xh×Bool)=>⟨E [(0,.sl .ro 2 (hs.map (Xb .ro))),(3,.pr [.s name,.s value]),(5,.sl .mut 2 (s.1.map (Xb .mut))),(6,.b s.2),(7,.i .i64 k)],B [(3,[])]⟩) (λs=>⟨E [(3,.pr [.s name,.s value]),(5,.sl .mut 2 (s.1.map (Xb .mut))),(6,.b s.2)],B [(3,[])]⟩) (λx s=>Xf4 name value s x) (λk s=>s.1.length<=k+1)
   (λs hI G=>by simp only[go_sem,reduceIte,↓reduceIte,nB,nE,h,Int.lt_irrefl,hb0]) (λk hk s hI=>by
    have h1:((k:Int)<(hs.length:Int)):=Int.ofNat_lt.2 hk
    have t3:(s.1.length+1)*32<=140737488355328:=by omega
    have t4:s.1.map (Xb .mut)++[[.s hs[k].Name,.s hs[k].Value]]=(s.1++[hs[k]]).map (Xb .mut):=by simp[Xb]
    have t5:s.1.map (Xb .mut)++[[.s name,.s value]]=(s.1++[Xh.mk name value]).map (Xb .mut):=by simp[Xb]
    obtain⟨u1,u2⟩:=h0.2.1.2 _ (List.getElem_mem hk)
    have n1:hs[k].Name.size<=9223372036854775806/\name.size<=9223372036854775806:=⟨by have:hs[k].Name.size<=1048576:=u1; omega,of_decide_eq_true h0.2.2⟩
    have hJ:(Xf4 name value s hs[k]).1.length<=k+1+1:=by
     unfold Xf4; split<;>(try split)<;>(try simp only[List.length_append,List.length_cons,List.length_nil])<;>omega
    rcases Bool.eq_false_or_eq_true (eqv (Z7 hs[k].Name) (Z7 name)) with d1 | d1<;>rcases Bool.eq_false_or_eq_true s.2 with d2 | d2
    all_goals exact⟨hJ,_,λG=>by simp only[go_sem,reduceIte,↓reduceIte,nA,nM,nB,nE,nL,nT,h,t3,t4,t5,Zg (Xb .ro) hs k hk,n1,d1,d2,Xb,h1,Yi _ _ hk,XN (show k<9223372036854775807 by omega),hb0]<;>with_reducible rfl,by simp only[go_sem,reduceIte,↓reduceIte,nB,h,Xf4,d1,d2]⟩) ([],false) (by simp) (hs.length+1) (Nat.le_refl _)
 rw[hb0] at hr
 rcases Xjx name value hs [] with h1 | ⟨h1,h2⟩
 ·rw[List.nil_append] at h1
  rw[h1] at hr
  simp only[go_sem,reduceIte,↓reduceIte,nA,nM,nB,nE,nT,h,hr]
 ·rw[List.nil_append] at h1
  rw[h1] at hr
  have hd:=XaQ hs name
  have t3:((ZJ hs name).length+1)*32<=140737488355328:=by omega
  have t4:(ZJ hs name).map (Xb .mut)++[[.s name,.s value]]=(setV name value hs).map (Xb .mut):=by rw[h2,List.map_append]; rfl
  simp only[go_sem,reduceIte,↓reduceIte,nA,nM,nB,nE,nL,nT,h,hr,t3,t4,List.length_map]) (by simp only[go_sem,Zl,XG])
def s68:SP Tryd.prog:=mkS tyA 68 Tryd.f68 [] {md:=[.ro 1],rets:=some ([2],[])} Tryd.func68 (by kernel_rfl)
@[go_sem] def d68:s68.g=68/\s68.fs=⟨[.ro 1],s68.F,false⟩:=⟨nr rfl,nr rfl⟩
@[go_sem] def e68(xs:List Xh)(h0:smL Ya xs):s68.F [.sl .ro 2 (xs.map (Xb .ro))]=some (.sl .mut 2 (xs.map (Xb .mut)),[.u]):=Xs (0) rfl rfl (λcx h=>by
 have h1:(xs.map (Xb .ro)).all (·.all plain)=true:=by simp[Xb,plain]
 have h2:xs.length*32<=140737488355328:=by have:=h0.1; omega
 have h3:xs.map (Xb .ro)=xs.map (Xb .mut):=rfl
 simp only[go_sem,reduceIte,↓reduceIte,nA,nM,nB,h,h1,h2]
 rw[h3]) (by simp only[go_sem,Zl,XG])
def s87:SP Tryd.prog:=mkS tyA 87 Tryd.f87 [] {md:=[.ro 1],rets:=some ([2],[])} Tryd.func87 (by kernel_rfl)
@[go_sem] def d87:s87.g=87/\s87.fs=⟨[.ro 1],s87.F,false⟩:=⟨nr rfl,nr rfl⟩
@[go_sem] def e87(xs:List UInt8)(h0:smL Q4 xs):s87.F [.sl .ro 1 (xs.map Xw)]=some (.sl .mut 1 (xs.map Xw),[.u]):=Xs (0) rfl rfl (λcx h=>by
 have h1:(xs.map Xw).all (·.all plain)=true:=by simp[Xw,plain]
 have h2:xs.length*1<=140737488355328:=by have:=h0.1; omega
 simp only[go_sem,reduceIte,↓reduceIte,nA,nM,nB,h,h1,h2]) (by simp only[go_sem,Zl,XG])
def s69:SP Tryd.prog:=mkS tyA 69 Tryd.f69 [s87] {md:=[.ro 1,.ro 1],rg:=[(0,[0,1],[]),(1,[0,5],[]),(2,[4],[]),(3,[4],[])],rets:=some ([4],[])} Tryd.func69 (by kernel_rfl)
@[go_sem] def d69:s69.g=69/\s69.fs=⟨[.ro 1,.ro 1],s69.F,false⟩:=⟨nr rfl,nr rfl⟩
@[go_sem] def e69(body:List UInt8)(head:Bool)(h0:smL Q4 body):s69.F [.sl .ro 1 (body.map Xw),.b head]=some (.sl .mut 1 ((if head=true then[] else body).map Xw),[.u,.u]):=Xs (0) rfl rfl (λcx h=>by
 cases head<;>simp only[go_sem,reduceIte,↓reduceIte,nB,nE,h,h0]) (by simp only[go_sem,Zl,XG])
def ZY{hs:List Xh}(h:XC hs=0):hs.length<=20:=by
 unfold XC at h
 split at h
 ·cases h
 ·omega
def U4(r:Response):List Xh:=if(20:Int)<((setV ⟨#[88,45,67,97,99,104,101]⟩ ⟨#[109,105,115,115]⟩ r.Headers).length:Int) then r.Headers else setV ⟨#[88,45,67,97,99,104,101]⟩ ⟨#[109,105,115,115]⟩ r.Headers
def Uk(r:Response)(head:Bool):Xf:=if(Xt r !=0)=true then⟨Xt r,⟨0,[],[]⟩⟩ else⟨0,⟨r.Status,U4 r,if head=true then[] else r.Body⟩⟩
def Xfd{r:Response}(h:smL Ya r.Headers)(h2:r.Headers.length<=20):smL Ya (U4 r):=by
 unfold U4
 split
 ·exact h
 ·exact⟨by have:=XeJ ⟨#[88,45,67,97,99,104,101]⟩ ⟨#[109,105,115,115]⟩ r.Headers; omega,Xgc (by decide) (by decide) h.2⟩
def Zz{r:Response}(h:Xt r=0):XC r.Headers=0:=by
 unfold Xt at h
 split at h
 ·cases h
 split at h
 ·rename_i hc; rw[h] at hc; exact absurd hc (by decide)
 ·rename_i hc; simpa using hc
def Xge{r:Response}(h:YE r)(head:Bool):ZF (Uk r head):=by
 unfold Uk
 split
 ·exact⟨trivial,trivial,⟨Nat.zero_le _,λx hx=>by cases hx⟩,⟨Nat.zero_le _,λx hx=>by cases hx⟩⟩
 ·rename_i hc
  have h0:Xt r=0:=by simpa using hc
  refine⟨trivial,trivial,Xfd h.2.1 (ZY (Zz h0)),?_⟩
  show smL Q4 (if head=true then[] else r.Body)
  split
  ·exact⟨Nat.zero_le _,λx hx=>by cases hx⟩
  ·exact h.2.2
def s42:SP Tryd.prog:=mkS tyA 42 Tryd.f42 [s67,s68,s69] {md:=[.ro 1,.ro 1],rg:=[(0,[0,1,4,5,24,30],[4]),(1,[0,1,4,5,24,30],[4]),(2,[0,1,4,5,14,24,30],[4]),(3,[0,1,4,5,24,30],[4]),(4,[4,5,24,30],[4])],rets:=some ([4,5,24,30],[4]),plan:=[(4,(.take 0 (.take 1 (.take 2 (.take 3 (.take 4 (.take 5 (.take 6 (.take 7 (.take 8 (.take 9 (.one 10 (.take 11 (.one 12 .done))))))))))))))]} Tryd.func42 (by kernel_rfl)
@[go_sem] def d42:s42.g=42/\s42.fs=⟨[.ro 1,.ro 1],s42.F,false⟩:=⟨nr rfl,nr rfl⟩
@[go_sem] def e42(z0:Int)(rHeaders:List Xh)(rBody:List UInt8)(head:Bool)(h0:(YE (Response.mk z0 rHeaders rBody)/\Xt (Response.mk z0 rHeaders rBody)=0)):s42.F [.pr [.i .i64 z0,.sl .ro 2 (rHeaders.map (Xb .ro)),.sl .ro 1 (rBody.map Xw)],.b head]=some (.agg (YQ .mut (Response.mk (Response.mk z0 rHeaders rBody).Status (U4 (Response.mk z0 rHeaders rBody)) (if head=true then[] else(Response.mk z0 rHeaders rBody).Body))),[.u,.u]):=Xs (0) rfl rfl (λcx h=>by
 have z:=h0.2
 have h0:=h0.1
 have h1:rHeaders.length<=20/\smL Ya rHeaders/\okN ⟨#[88,45,67,97,99,104,101]⟩=true:=⟨ZY (Zz z),h0.2.1,by decide⟩
 have hh:smL Ya rHeaders:=h0.2.1
 have hb:smL Q4 rBody:=h0.2.2
 have hu:U4 (Response.mk z0 rHeaders rBody)=if(20:Int)<((setV ⟨#[88,45,67,97,99,104,101]⟩ ⟨#[109,105,115,115]⟩ rHeaders).length:Int) then rHeaders else setV ⟨#[88,45,67,97,99,104,101]⟩ ⟨#[109,105,115,115]⟩ rHeaders:=rfl
 by_cases c:(20:Int)<((setV ⟨#[88,45,67,97,99,104,101]⟩ ⟨#[109,105,115,115]⟩ rHeaders).length:Int)
 ·rw[if_pos c] at hu
  cases head<;>simp only[go_sem,reduceIte,↓reduceIte,nA,nB,nE,nL,nT,h,h1,hb,c,hu,List.length_map]
 ·rw[if_neg c] at hu
  cases head<;>simp only[go_sem,reduceIte,↓reduceIte,nA,nB,nE,nL,nT,h,h1,hb,c,hu,List.length_map]) (by simp only[go_sem,Zl,XG,X7])
def s18:SP Tryd.prog:=mkS tyA 18 Tryd.f18 [s41,s42] {md:=[.ro 1,.ro 1],rg:=[(0,[1,2,4,13],[2,4]),(1,[1,2,4,5,13],[2,4]),(2,[1,2,4,5,9,13],[2,4]),(3,[4,13],[4]),(4,[4,13],[4])],rets:=some ([4,13],[4]),fz:=[2]} Tryd.func18 (by kernel_rfl)
@[go_sem] def d18:s18.g=18/\s18.fs=⟨[.ro 1,.ro 1],s18.F,false⟩:=⟨nr rfl,nr rfl⟩
@[go_sem] def e18(z0:Int)(rHeaders:List Xh)(rBody:List UInt8)(head:Bool)(h0:YE (Response.mk z0 rHeaders rBody)):s18.F [.agg [.i .i64 z0,.sl .ro 2 (rHeaders.map (Xb .ro)),.sl .ro 1 (rBody.map Xw)],.b head]=some (.agg (XZ .mut (Uk (Response.mk z0 rHeaders rBody) head)),[.u,.u]):=Xs (0) rfl rfl (λcx h=>by
 by_cases z:Xt (Response.mk z0 rHeaders rBody)=0
 rotate_left
 ·have z':(Xt (Response.mk z0 rHeaders rBody) !=0)=true:=by simpa using z
  simp only[go_sem,reduceIte,↓reduceIte,nA,nB,nE,h,z',Uk]
 have hz:YE (Response.mk z0 rHeaders rBody)/\Xt (Response.mk z0 rHeaders rBody)=0:=⟨h0,z⟩
 cases head<;>simp only[go_sem,reduceIte,↓reduceIte,nA,nB,nE,nL,nT,h,h0,z,Uk]) (by simp only[go_sem,Zl,XG,X7])
def s70:SP Tryd.prog:=mkS tyA 70 Tryd.f70 [] {md:=[.ro 1],rg:=[(0,[1,2],[1,2,3]),(1,[1,2,3],[1,2,3]),(2,[1,2,3],[1,2,3]),(3,[2,3],[2,3]),(4,[2],[2,3])],rets:=some ([2],[2,3])} Tryd.func70 (by kernel_rfl)
@[go_sem] def d70:s70.g=70/\s70.fs=⟨[.ro 1],s70.F,false⟩:=⟨nr rfl,nr rfl⟩
@[go_sem] def e70(z1 z2:ByteArray)(h0:Ya (Xh.mk z1 z2)):s70.F [.agg [.s z1,.s z2]]=some (.agg (Xb .mut (Xh.mk z1 z2)),[.u]):=Xs (0) rfl rfl (λcx h=>by
 obtain⟨q0,q1⟩:=h0
 simp only[go_sem,reduceIte,↓reduceIte,nA,nB,nE,nL,h]) (by simp only[go_sem,Zl,XG,X7])
def s43:SP Tryd.prog:=mkS tyA 43 Tryd.f43 [s70] {md:=[.ro 1],rg:=[(0,[0],[]),(1,[0,3],[]),(2,[0,3,4],[]),(3,[0,3,4,11],[]),(4,[0,3,4],[]),(5,[0,3,4],[]),(6,[2],[])],lv:=[(0,[0,3,4],[])],out:=[(0,[3],[])],rets:=some ([2],[])} Tryd.func43 (by kernel_rfl)
@[go_sem] def d43:s43.g=43/\s43.fs=⟨[.ro 1],s43.F,false⟩:=⟨nr rfl,nr rfl⟩
@[go_sem] def e43(xs:List Xh)(h0:smL Ya xs):s43.F [.sl .ro 2 (xs.map (Xb .ro))]=some (.sl .mut 2 (xs.map (Xb .mut)),[.u]):=Xs (xs.length+1) rfl rfl (λcx h=>by
 have hb:=XS Tryd.f43 0 _ _ rfl rfl
 have hx:=h0.1
 have c1:((xs.length:Int)*(32:Nat)<=140737488355328):=by omega
 have c2:0<=(xs.length:Int):=by omega
 have hr:=(YY (cx:=cx) (blk:=0) (body:=Zw Tryd.f43 0) xs (λk (_:Unit)=>⟨E [(0,.sl .ro 2 (xs.map (Xb .ro))),(3,.sl .mut 2 (Zh (Xb .mut) [.s ⟨#[]⟩,.s ⟨#[]⟩] xs k)),(4,.i .i64 k)],B []⟩) (λ_=>⟨E [(3,.sl .mut 2 (xs.map (Xb .mut)))],B []⟩) (λ_ _=>()) (λ_ _=>True)
  (λl _ G=>by simp only[go_sem,reduceIte,↓reduceIte,nB,nE,h,Int.lt_irrefl,hb,Xca]) (λk hk l _=>by
   have h1:((k:Int)<(xs.length:Int)):=Int.ofNat_lt.2 hk
   have h2:=h0.2 _ (List.getElem_mem hk)
   have h3:(Zh (Xb .mut) [.s ⟨#[]⟩,.s ⟨#[]⟩] xs k).set k [.s xs[k].Name,.s xs[k].Value]=Zh (Xb .mut) [.s ⟨#[]⟩,.s ⟨#[]⟩] xs (k+1):=Xcc (Xb .mut) [.s ⟨#[]⟩,.s ⟨#[]⟩] xs k hk
   exact⟨trivial,_,λG=>by simp only[go_sem,reduceIte,↓reduceIte,nA,nB,nE,h,h2,h3,Zg (Xb .ro) xs k hk,Xam (Xb .mut) [.s ⟨#[]⟩,.s ⟨#[]⟩] xs k hk,Xbq (Xb .mut) [.s ⟨#[]⟩,.s ⟨#[]⟩] xs k hk,Xcb (Xb .mut) [.s ⟨#[]⟩,.s ⟨#[]⟩] xs k (Nat.le_of_lt hk),h1,Yi _ _ hk,XN (show k<9223372036854775807 by omega),hb]<;>with_reducible rfl,by simp only[go_sem,reduceIte,↓reduceIte,nB,h]⟩) () trivial (xs.length+1) (Nat.le_refl _)).2
 rw[hb] at hr
 simp only[go_sem,reduceIte,↓reduceIte,nA,nB,nE,nT,h,c1,c2,Int.toNat_natCast,Xbp (Xb .mut) [.s ⟨#[]⟩,.s ⟨#[]⟩],hr]) (by simp only[go_sem,Zl,XG])
def s44:SP Tryd.prog:=mkS tyA 44 Tryd.f44 [] {md:=[.ro 1],rg:=[(0,[0],[]),(1,[0,3],[]),(2,[0,3,4],[]),(3,[0,3,4,11],[]),(4,[0,3,4],[]),(5,[0,3,4],[]),(6,[2],[])],lv:=[(0,[0,3,4],[])],out:=[(0,[3],[])],rets:=some ([2],[])} Tryd.func44 (by kernel_rfl)
@[go_sem] def d44:s44.g=44/\s44.fs=⟨[.ro 1],s44.F,false⟩:=⟨nr rfl,nr rfl⟩
@[go_sem] def e44(xs:List UInt8)(h0:smL Q4 xs):s44.F [.sl .ro 1 (xs.map Xw)]=some (.sl .mut 1 (xs.map Xw),[.u]):=Xs (xs.length+1) rfl rfl (λcx h=>by
 have hb:=XS Tryd.f44 0 _ _ rfl rfl
 have hx:=h0.1
 have c1:((xs.length:Int)*1<=140737488355328):=by omega
 have c2:0<=(xs.length:Int):=by omega
 have hr:=(YY (cx:=cx) (blk:=0) (body:=Zw Tryd.f44 0) xs (λk (_:Unit)=>⟨E [(0,.sl .ro 1 (xs.map Xw)),(3,.sl .mut 1 (Zh Xw [.i .u8 0] xs k)),(4,.i .i64 k)],B []⟩) (λ_=>⟨E [(3,.sl .mut 1 (xs.map Xw))],B []⟩) (λ_ _=>()) (λ_ _=>True)
  (λl _ G=>by simp only[go_sem,reduceIte,↓reduceIte,nB,nE,h,Int.lt_irrefl,hb,Xca]) (λk hk l _=>by
   have h1:((k:Int)<(xs.length:Int)):=Int.ofNat_lt.2 hk
   have h2:=h0.2 _ (List.getElem_mem hk)
   have h3:(Zh Xw [.i .u8 0] xs k).set k [.i .u8 xs[k].toNat]=Zh Xw [.i .u8 0] xs (k+1):=Xcc Xw [.i .u8 0] xs k hk
   exact⟨trivial,_,λG=>by simp only[go_sem,reduceIte,↓reduceIte,nB,nE,h,h3,Zg Xw xs k hk,Xam Xw [.i .u8 0] xs k hk,Xbq Xw [.i .u8 0] xs k hk,Xcb Xw [.i .u8 0] xs k (Nat.le_of_lt hk),h1,Yi _ _ hk,XN (show k<9223372036854775807 by omega),hb]<;>with_reducible rfl,by simp only[go_sem,reduceIte,↓reduceIte,nB,h]⟩) () trivial (xs.length+1) (Nat.le_refl _)).2
 rw[hb] at hr
 simp only[go_sem,reduceIte,↓reduceIte,nB,nE,nT,h,c1,c2,Int.toNat_natCast,Xbp Xw [.i .u8 0],hr]) (by simp only[go_sem,Zl,XG])
def s19:SP Tryd.prog:=mkS tyA 19 Tryd.f19 [s43,s44] {md:=[.ro 1],rg:=[(0,[1,2],[1,2,3]),(1,[1,2,3],[1,2,3]),(2,[1,2,3],[1,2,3]),(3,[1,2,3],[1,2,3]),(4,[2,3],[2,3]),(5,[2],[2,3])],rets:=some ([2],[2,3])} Tryd.func19 (by kernel_rfl)
@[go_sem] def d19:s19.g=19/\s19.fs=⟨[.ro 1],s19.F,false⟩:=⟨nr rfl,nr rfl⟩
@[go_sem] def e19(z3:Int)(z4:List Xh)(z5:List UInt8)(h0:YE (Response.mk z3 z4 z5)):s19.F [.agg [.i .i64 z3,.sl .ro 2 (z4.map (Xb .ro)),.sl .ro 1 (z5.map Xw)]]=some (.agg (YQ .mut (Response.mk z3 z4 z5)),[.u]):=Xs (0) rfl rfl (λcx h=>by
 obtain⟨q0,q1,q2⟩:=h0
 simp only[go_sem,reduceIte,↓reduceIte,nA,nB,nE,nL,nT,h,q1,q2]) (by simp only[go_sem,Zl,XG,X7])
def s35:SP Tryd.prog:=mkS tyA 35 Tryd.f35 [] {md:=[.ro 1,.ro 1,.ro 1],rets:=some ([6],[])} Tryd.func35 (by kernel_rfl)
@[go_sem] def d35:s35.g=35/\s35.fs=⟨[.ro 1,.ro 1,.ro 1],s35.F,false⟩:=⟨nr rfl,nr rfl⟩
@[go_sem] def e35(a b c:Int):s35.F [.i .i64 a,.i .i64 b,.i .i64 c]=some (.b (within a b c),[.u,.u,.u]):=Xs (0) rfl rfl (λcx h=>by
 simp only[go_sem,reduceIte,↓reduceIte,nA,nB,h,within]
 by_cases h:b<=a<;>simp[h]) (rfl)
def s71:SP Tryd.prog:=mkS tyA 71 Tryd.f71 [s35] {md:=[.ro 1],rets:=some ([2],[])} Tryd.func71 (by kernel_rfl)
@[go_sem] def d71:s71.g=71/\s71.fs=⟨[.ro 1],s71.F,false⟩:=⟨nr rfl,nr rfl⟩
@[go_sem] def e71(v:Int):s71.F [.i .i64 v]=some (.b (within v 200 599),[.u]):=Xs (0) rfl rfl (λcx h=>by
 simp only[go_sem,reduceIte,↓reduceIte,nA,nB,h]) (rfl)
def Xl4:SP Tryd.prog:=mkS tyA 139 Tryd.f139 [] {md:=[.ro 1],rets:=some ([2],[])} Tryd.func139 (by kernel_rfl)
@[go_sem] def XBf:Xl4.g=139/\Xl4.fs=⟨[.ro 1],Xl4.F,false⟩:=⟨nr rfl,nr rfl⟩
@[go_sem] def XBg(c:UInt8):Xl4.F [.i .u8 c.toNat]=some (.b (Qr c),[.u]):=Xs (0) rfl rfl (λcx h=>by
 by_cases h1:97<=(c.toNat:Int)<;>by_cases h2:(c.toNat:Int)<=122<;>by_cases h3:65<=(c.toNat:Int)<;>by_cases h4:(c.toNat:Int)<=90<;>simp only[go_sem,reduceIte,↓reduceIte,nB,h,h1,h2,h3,h4,Qr]) (rfl)
def XlA:SP Tryd.prog:=mkS tyA 140 Tryd.f140 [] {md:=[.ro 1],rets:=some ([2],[])} Tryd.func140 (by kernel_rfl)
@[go_sem] def XBh:XlA.g=140/\XlA.fs=⟨[.ro 1],XlA.F,false⟩:=⟨nr rfl,nr rfl⟩
@[go_sem] def XBi(c:UInt8):XlA.F [.i .u8 c.toNat]=some (.b (QI c),[.u]):=Xs (0) rfl rfl (λcx h=>by
 by_cases h1:48<=(c.toNat:Int)<;>by_cases h2:(c.toNat:Int)<=57<;>simp only[go_sem,reduceIte,↓reduceIte,nB,h,h1,h2,QI]) (rfl)
def Xl5:SP Tryd.prog:=⟨145,⟨[.ro 1,.ro 1],Xnr,false⟩,XmP Tryd.func145 (by kernel_rfl) (by kernel_rfl) (by kernel_rfl) (by kernel_rfl)⟩
@[go_sem] def XBj:Xl5.g=145/\Xl5.fs=⟨[.ro 1,.ro 1],Xl5.F,false⟩:=⟨nr rfl,nr rfl⟩
@[go_sem] def XBk(s:ByteArray)(c:UInt8):Xl5.F [.s s,.i .u8 c.toNat]=some (.i .i64 (ixB s c),[.u,.u]):=by
 show Xnr [.s s,.i .u8 c.toNat]=_
 rw[Xlt,XlV]
 rfl
def Xl6:SP Tryd.prog:=mkS tyA 131 Tryd.f131 [Xl5] {md:=[.ro 1,.ro 1],rets:=some ([4],[])} Tryd.func131 (by kernel_rfl)
@[go_sem] def XBl:Xl6.g=131/\Xl6.fs=⟨[.ro 1,.ro 1],Xl6.F,false⟩:=⟨nr rfl,nr rfl⟩
@[go_sem] def XBm(s:ByteArray)(c:UInt8):Xl6.F [.s s,.i .u8 c.toNat]=some (.i .i64 (ixB s c),[.u,.u]):=Xs (0) rfl rfl (λcx h=>by
 simp only[go_sem,reduceIte,↓reduceIte,nA,nB,h]) (rfl)
def Xl7:SP Tryd.prog:=mkS tyA 141 Tryd.f141 [Xl6] {md:=[.ro 1,.ro 1],rets:=some ([4],[])} Tryd.func141 (by kernel_rfl)
@[go_sem] def XBn:Xl7.g=141/\Xl7.fs=⟨[.ro 1,.ro 1],Xl7.F,false⟩:=⟨nr rfl,nr rfl⟩
@[go_sem] def XBo(s:ByteArray)(c:UInt8):Xl7.F [.s s,.i .u8 c.toNat]=some (.i .i64 (ixB s c),[.u,.u]):=Xs (0) rfl rfl (λcx h=>by
 simp only[go_sem,reduceIte,↓reduceIte,nA,nB,h]) (rfl)
end
end Go.Vm.A
