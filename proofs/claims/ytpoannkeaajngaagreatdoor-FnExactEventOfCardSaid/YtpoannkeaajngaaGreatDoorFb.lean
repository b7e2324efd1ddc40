/- Functions of the program, walked by the evaluator. -/
import Derived.Test.YtpoannkeaajngaaGreatDoorWb
import Derived.Test.YtpoannkeaajngaaGreatDoorWa
import Derived.Test.YtpoannkeaajngaaGreatDoorFa
set_option linter.unusedVariables false
set_option linter.unusedSimpArgs false
set_option autoImplicit false
set_option maxRecDepth 100000
set_option maxHeartbeats 4000000
set_option linter.defProp false
namespace Go.Vm.A
open Go.Proofs
open Nat renaming reduceAdd -> nA, reduceSub -> nS, reduceMul -> nM, reduceBEq -> nB, reduceEqDiff -> nE, reduceLeDiff -> nL, reduceLT -> nT, reduceBneDiff -> nN
open Int renaming reduceLE -> iL, reduceLT -> iT, reduceEq -> iE, reduceAdd -> iA, reduceMul -> iM, reduceSub -> iS, reduceNeg -> iG, reduceBEq -> iB, reduceBNe -> iN, reduceToNat -> iZ
noncomputable section
def XG:Event:=⟨0,0,0,⟨⟨#[]⟩,⟨#[]⟩,⟨#[]⟩,[]⟩,⟨0,[],[]⟩,⟨#[]⟩,false⟩
def XfP:List ByteArray->Option Event
 | a :: b :: m :: h :: p :: r=>if YQ a=true/\YQ b=true/\r.all XaB=true then some ⟨1,Zn a,Zn b,⟨m,h,p,UR (λx=>x) r⟩,⟨0,[],[]⟩,⟨#[]⟩,false⟩ else none
 | _=>none
def Zw(e:Option Event):Event:=e.getD XG
def XbJ(c:UInt8):Bool:=Z5 c||Zv c||((c.toNat:Int)==46)||((c.toNat:Int)==45)
def Xhj:List UInt8:=[33,35,36,37,38,39,42,43,45,46,94,95,124,126]
def Uf(c:UInt8):Bool:=Z5 c||Zv c||Xhj.contains c
def Xin{c:UInt8}(h:c∈Xhj):Uf c=true:=by
 have:Xhj.contains c=true:=List.contains_iff_mem.2 h
 simp[Uf,this,-List.contains_eq_mem]
def Xio{c:UInt8}(h:¬c∈Xhj):Uf c=(Z5 c||Zv c):=by
 have:Xhj.contains c=false:=by rw[Bool.eq_false_iff]; exact λe=>h (List.contains_iff_mem.1 e)
 simp[Uf,this,-List.contains_eq_mem]
def XmS(c:UInt8):decide (0<=ixB ⟨#[33,35,36,37,38,39,42,43,45,46,94,95,124,126]⟩ c)=Xhj.contains c:=Xii Xhj c
@[go_sem] def Xre(c:UInt8):decide (ixB ⟨#[33,35,36,37,38,39,42,43,45,46,94,95,124,126]⟩ c>=0)=Xhj.contains c:=Xii Xhj c
def XbZ:List UInt8:=[47,63,61,38,58,64,44,59,40,41]
def Xam(c:UInt8):Bool:=Uf c||XbZ.contains c
def Xip{c:UInt8}(h:c∈XbZ):Xam c=true:=by
 have:XbZ.contains c=true:=List.contains_iff_mem.2 h
 simp[Xam,this,-List.contains_eq_mem]
def Xiq{c:UInt8}(h:¬c∈XbZ):Xam c=Uf c:=by
 have:XbZ.contains c=false:=by rw[Bool.eq_false_iff]; exact λe=>h (List.contains_iff_mem.1 e)
 simp[Xam,this,-List.contains_eq_mem]
def Xkk(c:UInt8):decide (0<=ixB ⟨#[47,63,61,38,58,64,44,59,40,41]⟩ c)=XbZ.contains c:=Xii XbZ c
def Xb0(t:ByteArray):Bool:=Xa7 Uf 1 64 t
def Xan(c:UInt8):Bool:=((c.toNat:Int)==9)||(decide (32<=(c.toNat:Int))&&decide ((c.toNat:Int)<=126))
def Xmh(t:ByteArray):Bool:=t.data.toList.all Xan
def XmT(t:ByteArray):Xa7 Xan 0 (t.size:Int) t=Xmh t:=Qd (by omega) (by omega)
def XfQ(t:ByteArray):ByteArray:=⟨(Lib.trimS t.data.toList [32,9]).toArray⟩
def XaK(c:UInt8):Bool:=((c.toNat:Int)==32)||((c.toNat:Int)==9)
def bl(t:ByteArray)(j:Nat):Bool:=XaK (t.data[j]?.getD 0)
def Xkl(c:UInt8):[32,9].contains c=XaK c:=by
 have h32:(c==32)=((c.toNat:Int)==32):=by
  rw[Bool.eq_iff_iff,beq_iff_eq,beq_iff_eq]
  constructor
  ·rintro rfl; rfl
  ·intro h; exact UInt8.toNat_inj.1 (by have:(32:UInt8).toNat=32:=rfl; omega)
 have h9:(c==9)=((c.toNat:Int)==9):=by
  rw[Bool.eq_iff_iff,beq_iff_eq,beq_iff_eq]
  constructor
  ·rintro rfl; rfl
  ·intro h; exact UInt8.toNat_inj.1 (by have:(9:UInt8).toNat=9:=rfl; omega)
 simp only[List.contains_cons,List.contains_nil,Bool.or_false,h32,h9,XaK]
def XeE{t:ByteArray}{j:Nat}{b:UInt8}(h:t.data.toList[j]?=some b):bl t j=[32,9].contains b:=by
 rw[Xkl]
 unfold bl
 rw[Array.getElem?_toList] at h
 rw[h]; rfl
def Xkm(t:ByteArray)(f e:Nat)(hf:f<=e)(he:e<=t.size)(h1:∀j,j<f->bl t j=true)(h2:f<t.size->bl t f=false)(h3:∀j,e<=j->j<t.size->bl t j=true)(h4:f<e->bl t (e-1)=false):XfQ t=t.extract f e:=by
 have hn:t.size=t.data.toList.length:=Xe t
 have hext:t.extract f e=⟨((t.data.toList.take e).drop f).toArray⟩:=by
  have:(t.extract f e).data=t.data.extract f e:=by simp
  cases hx:t.extract f e with
  | mk d =>
   rw[hx] at this
   congr 1
   simp only at this
   rw[this]
   apply Array.ext'
   rw[Array.toList_extract,List.extract_eq_take_drop,List.drop_take]
 rw[hext]
 unfold XfQ Lib.trimS
 congr 2
 by_cases hall:f<e
 ·rw[Lib.trimRightS_take t.data.toList [32,9] e (by omega) (λj b hj hb=>?_) (λb hk hb=>?_)]
  ·refine Lib.trimLeftS_drop _ _ f (by simp; omega) (λj b hj hb=>?_) (λb hb=>?_)
   ·rw[List.getElem?_take] at hb
    split at hb
    ·rw[<-XeE hb]; exact h1 j hj
    ·cases hb
   ·rw[List.getElem?_take,if_pos hall] at hb
    rw[<-XeE hb]; exact h2 (by omega)
  ·rw[<-XeE hb]; exact h3 j hj (by have:=(List.getElem?_eq_some_iff.1 hb).1; omega)
  ·rw[<-XeE hb]; exact h4 hall
 ·obtain rfl:f=e:=by omega
  have hfn:f=t.size:=by
   rcases Nat.lt_or_ge f t.size with h | h
   ·have:=h2 h; rw[h3 f (Nat.le_refl _) h] at this; cases this
   ·omega
  have hr:Lib.trimRightS t.data.toList [32,9]=t.data.toList.take 0:=Lib.trimRightS_take _ _ 0 (by omega) (λj b _ hb=>by
   rw[<-XeE hb]; exact h1 j (by have:=(List.getElem?_eq_some_iff.1 hb).1; omega)) (λb hk _=>by omega)
  rw[hr]
  have:(t.data.toList.take f).drop f=[]:=by
   apply List.drop_eq_nil_of_le
   simp
   omega
  rw[this]
  rfl
def Yk(h:Xg):Int:=if Xb0 h.Name=false then 5 else if 200<(h.Value.size:Int) then 2 else if(Xmh h.Value&&eqv (XfQ h.Value) h.Value)=true then 0 else 5
def Xr(hs:List Xg):Int:=if 20<(hs.length:Int) then 2 else Xab (hs.map Yk)
def Xa8{α:Type}{f:α->Int}:∀{xs:List α} {u u':Unit},XaG (λx _=>f x !=0) (λ_ _=>()) xs u=.inl u'->Xab (xs.map f)=0
 | [],_,_,_=>rfl
 | x :: xs,u,u',h=>by
  rw[YW] at h
  split at h
  ·cases h
  ·rename_i hc; rw[List.map_cons,Xh,if_neg hc]; exact Xa8 h
def Xa9{α:Type}{f:α->Int}:∀{xs:List α} {u:Unit} {q:α×Unit},XaG (λx _=>f x !=0) (λ_ _=>()) xs u=.inr q->Xab (xs.map f)=f q.1
 | [],_,_,h=>by cases h
 | x :: xs,u,q,h=>by
  rw[YW] at h
  split at h
  ·rename_i hc; injection h with h; subst h; rw[List.map_cons,Xh,if_pos hc]
  ·rename_i hc; rw[List.map_cons,Xh,if_neg hc]; exact Xa9 h
def okN(n:ByteArray):Bool:=decide (n.size<=9223372036854775806)
def XeF(hs:List Xg)(n:ByteArray):List ByteArray:=(hs.filter λx=>eqv (Xbr x.Name) (Xbr n)).map (·.Value)
def XfR(hs:List Xg)(n:ByteArray):Bool:=hs.any λx=>eqv (Xbr x.Name) (Xbr n)
def Xba(hs:List Xg)(n:ByteArray):decide (0<((XeF hs n).length:Int))=XfR hs n:=by
 have:0<(XeF hs n).length↔XfR hs n=true:=by
  unfold XeF XfR
  rw[List.length_map,List.length_pos_iff_exists_mem,List.any_eq_true]
  simp only[List.mem_filter]
 rw[Bool.eq_iff_iff,decide_eq_true_eq,<-this]
 omega
def Ug(n:ByteArray)(s:ByteArray×Bool)(x:Xg):ByteArray×Bool:=if eqv (Xbr x.Name) (Xbr n)=true then((if s.2=true then s.1++⟨#[44,32]⟩ else s.1)++x.Value,true) else s
def Xir(hs:List Xg)(n:ByteArray):ByteArray×Bool:=hs.foldl (λs x=>Ug n s x) (⟨#[]⟩,false)
def Xdc(n:ByteArray):∀(hs:List Xg) (s:ByteArray×Bool),(hs.foldl (λs x=>Ug n s x) s).2=(s.2||XfR hs n)
 | [],s=>by simp[XfR]
 | x :: hs,s=>by
  rw[List.foldl_cons,Xdc n hs]
  unfold Ug XfR
  rw[List.any_cons]
  cases eqv (Xbr x.Name) (Xbr n)<;>simp
def XmU(hs:List Xg)(n:ByteArray):(Xir hs n).2=XfR hs n:=by
 unfold Xir; rw[Xdc]; rfl
def XdV{n:ByteArray}{s:ByteArray×Bool}{x:Xg}{k:Nat}(h:s.1.size<=k*1048578)(hx:x.Value.size<=1048576):(Ug n s x).1.size<=(k+1)*1048578:=by
 have h2:(⟨#[44,32]⟩:ByteArray).size=2:=rfl
 have h3:(k+1)*1048578=k*1048578+1048578:=Nat.succ_mul _ _
 rw[h3]
 generalize k*1048578=K at h ⊢
 unfold Ug
 split
 ·show(((if s.2=true then s.1++⟨#[44,32]⟩ else s.1)++x.Value).size)<=_
  rw[ByteArray.size_append]
  split
  ·rw[ByteArray.size_append]; omega
  ·omega
 ·omega
def ZH(t:ByteArray):Bool:=eqv t ⟨#[71,69,84]⟩||eqv t ⟨#[72,69,65,68]⟩
def Xc(a b:ByteArray):(a.toList !=b.toList)=!eqv a b:=by rw[bne,Xa]
def UI(t:ByteArray):Bool:=Xa7 XbJ 1 60 t
def UJ(t:ByteArray):Bool:=Xa7 Xam 1 100 t&&(((t.data[0]?.getD 0).toNat:Int)==47)
def Xs(r:Request):Int:=if(ZH r.Method&&UI r.Host&&UJ r.Path)=false then 5 else if(Xr r.Headers !=0)=true then Xr r.Headers else if XfR r.Headers ⟨#[72,111,115,116]⟩=true then 6 else if 20<=(r.Headers.length:Int) then 2 else 0
def Xb1(hs:List Xg):XfR hs ⟨#[104,111,115,116]⟩=XfR hs ⟨#[72,111,115,116]⟩:=by
 unfold XfR
 have:Xbr ⟨#[104,111,115,116]⟩=Xbr ⟨#[72,111,115,116]⟩:=by rfl
 rw[this]
def YR{hs:List Xg}(h:Xr hs=0):hs.length<=20:=by
 unfold Xr at h
 split at h
 ·cases h
 ·omega
def Xkn{p:UInt8->Bool}{hi:Int}{t:ByteArray}(h:Xa7 p 1 hi t=true):0<t.size:=by
 unfold Xa7 at h
 simp only[Bool.and_eq_true,decide_eq_true_eq] at h
 omega
def pEv(k:Int)(t:ByteArray)(hard:Bool):Event:=⟨k,0,0,⟨⟨#[]⟩,⟨#[]⟩,⟨#[]⟩,[]⟩,⟨0,[],[]⟩,t,hard⟩
def ZV(hard:Bool):List ByteArray->Option Event
 | []=>none
 | [a]=>if eqv a ⟨#[97,108,108]⟩=true then some (pEv 7 ⟨#[]⟩ hard) else none
 | [a,b]=>if eqv a ⟨#[116,97,103]⟩=true then some (pEv 6 b hard) else if eqv a ⟨#[107,101,121]⟩=true then some (pEv 5 (Xac [b]) hard) else none
 | a :: b :: c :: r=>if eqv a ⟨#[107,101,121]⟩=true then some (pEv 5 (Xac (b :: c :: r)) hard) else none
def XeG{ws:List ByteArray}(h:smL Zy ws):Xat ws=true:=by
 simp only[Xat,Bool.and_eq_true,decide_eq_true_eq,List.all_eq_true]
 exact⟨h.1,h.2⟩
def Xis(b:ByteArray):Xac [b]=b:=by
 unfold Xac
 rw[List.map_cons,List.map_nil,Lib.join_one]
def Xhk(b x:ByteArray)(r:List ByteArray):Xac (b :: x :: r)=Xac ((b++⟨#[32]⟩++x) :: r):=by
 unfold Xac
 congr 2
 simp only[List.map_cons]
 rw[Lib.join_cons,Lib.join_cons]
 simp[Lib.joinTail,ByteArray.data_append]
def Xdd:∀(r:List ByteArray) (b:ByteArray),Xac (b :: r)=r.foldl (λt x=>t++⟨#[32]⟩++x) b
 | [],b=>Xis b
 | x :: r,b=>by rw[Xhk,Xdd r]; rfl
def Xbs(hard:Bool)(ws:List ByteArray):Event:=(ZV hard ws).getD (pEv 0 ⟨#[]⟩ hard)
def Xde(hard:Bool)(a b:ByteArray)(ws:List ByteArray):ZV hard (a :: b :: ws)=if(ws.isEmpty&&eqv a ⟨#[116,97,103]⟩)=true then some (pEv 6 b hard) else if eqv a ⟨#[107,101,121]⟩=true then some (pEv 5 (Xac (b :: ws)) hard) else none:=by
 cases ws with
 | nil=>rfl
 | cons x r=>rfl
def s93:SP Tryz.prog:=mkS tyA 93 Tryz.f93 [] {md:=[.ro 1,.ro 1],rg:=[(0,[0,1,4],[4,6]),(1,[0,4,6],[4,6]),(2,[0,4,6,7],[4,6]),(3,[4,5],[4,6]),(4,[0,4,6,7,14],[4,6]),(5,[4,6],[4,6]),(6,[0,4,6,7,24],[4,6]),(7,[0,4,6],[4,6]),(8,[4,6],[4,6]),(9,[0,4,6,7,38],[4,6]),(10,[0,4,6,7],[4,6]),(11,[0,4,6,7],[4,6]),(12,[0,4,6,7,8],[4,6]),(13,[0,4,6,7,8,54],[4,6]),(14,[0,4,6,7,8],[4,6]),(15,[0,4,6,7,8],[4,6]),(16,[4,5],[4,6])],lv:=[(1,[0,4,6,7,8],[4,6])],out:=[(1,[4,6],[4,6])],rets:=some ([4,5],[4,6]),plan:=[(15,(.take 0 (.take 1 (.take 2 (.take 3 (.take 4 (.take 5 (.take 6 (.take 7 (.take 8 (.one 9 .done)))))))))))]} Tryz.func93 (by kernel_rfl)
@[go_sem] def d93:s93.g=93/\s93.fs=⟨[.ro 1,.ro 1],s93.F,false⟩:=⟨nr rfl,nr rfl⟩
@[go_sem] def e93(ws:List ByteArray)(hard:Bool)(h0:smL Zy ws):s93.F [.sl .ro 1 (ws.map X8),.b hard]=some (.tup [.agg (Ud .mut (Xbs hard ws)),.b (ZV hard ws).isSome],[.u,.u]):=Xj (ws.length+1) rfl rfl (λcx h=>by
 rcases ws with _ | ⟨a,ws⟩
 ·simp only[go_sem,reduceIte,↓reduceIte,reduceCtorEq,nA,nS,nM,nB,nE,nL,nT,nN,iL,iT,iE,iA,iM,iS,iG,iB,iN,iZ,h,ZV,Xbs,pEv,Xa,List.map_cons,List.map_nil,List.length_cons,List.length_nil,Zw,XG,Option.getD_none,Option.getD_some,Option.isSome_none,Option.isSome_some,List.drop_succ_cons,List.drop_zero,List.take_succ_cons,List.take_zero,Nat.reduceAdd,Int.reduceLT,List.length_map]
 rcases ws with _ | ⟨b,ws⟩
 ·cases c1:eqv a ⟨#[97,108,108]⟩<;>simp only[go_sem,reduceIte,↓reduceIte,reduceCtorEq,nA,nS,nM,nB,nE,nL,nT,nN,iL,iT,iE,iA,iM,iS,iG,iB,iN,iZ,h,c1,ZV,Xbs,pEv,Xa,List.map_cons,List.map_nil,List.length_cons,List.length_nil,Zw,XG,Option.getD_none,Option.getD_some,Option.isSome_none,Option.isSome_some,List.drop_succ_cons,List.drop_zero,List.take_succ_cons,List.take_zero,Nat.reduceAdd,Int.reduceLT,List.length_map]
 have hw:smL Zy ws:=⟨by have:=h0.1; simp only[List.length_cons] at this; omega,λy hy=>h0.2 y (List.mem_cons_of_mem _ (List.mem_cons_of_mem _ hy))⟩
 have hwl:=hw.1
 have hb1:b.size<=1048576:=h0.2 b (by simp)
 have hx:ws.length<=9223372036854775806:=by omega
 have tend:¬(((ws.length+2:Nat):Int)<((ws.length+1+1:Nat):Int)):=by omega
 have q1:(((ws.length+1+1:Nat):Int)==1)=false:=by simp; omega
 have q2:(((ws.length+1+1:Nat):Int)==2)=ws.isEmpty:=by cases ws<;>simp; omega
 have q3:(2:Int)<=((ws.length+1+1:Nat):Int):=by omega
 have i0:YK (ws.length+1+1) 0=some 0:=Xt _ 0 (by omega)
 have i1:YK (ws.length+1+1) 1=some 1:=Xt _ 1 (by omega)
 have pe:=Xde hard a b ws
 have pj:=Xdd ws b
 have n2:((2:Nat):Int)=2:=rfl
 have hb0:=XF Tryz.f93 0 _ _ rfl rfl
 obtain⟨hI,hr⟩:=YG (cx:=cx) (blk:=1) (body:=YN Tryz.f93 0) ws (λk (s:ByteArray)=>⟨E [(0,.sl .ro 1 ([.s a] :: [.s b] :: ws.map X8)),(4,.p ⟨false,4,[],0⟩),(6,.p ⟨false,6,[],0⟩),(7,.i .i64 ((ws.length+1+1:Nat):Int)),(8,.i .i64 ((k+2:Nat):Int))],B [(4,[.i .i64 0,.i .i64 0,.i .i64 0,.s ⟨#[]⟩,.s ⟨#[]⟩,.s ⟨#[]⟩,.sl .mut 2 [],.i .i64 0,.sl .mut 2 [],.sl .mut 1 [],.s (⟨#[]⟩),.b false]),(6,[.i .i64 5,.i .i64 0,.i .i64 0,.s ⟨#[]⟩,.s ⟨#[]⟩,.s ⟨#[]⟩,.sl .mut 2 [],.i .i64 0,.sl .mut 2 [],.sl .mut 1 [],.s (s),.b hard])]⟩) (λs=>⟨E [(4,.p ⟨false,4,[],0⟩),(6,.p ⟨false,6,[],0⟩)],B [(4,[.i .i64 0,.i .i64 0,.i .i64 0,.s ⟨#[]⟩,.s ⟨#[]⟩,.s ⟨#[]⟩,.sl .mut 2 [],.i .i64 0,.sl .mut 2 [],.sl .mut 1 [],.s (⟨#[]⟩),.b false]),(6,[.i .i64 5,.i .i64 0,.i .i64 0,.s ⟨#[]⟩,.s ⟨#[]⟩,.s ⟨#[]⟩,.sl .mut 2 [],.i .i64 0,.sl .mut 2 [],.sl .mut 1 [],.s (s),.b hard])]⟩) (λx s=>s++⟨#[32]⟩++x) (λk s=>s.size<=1048576*(k+1)+k)
   (λs hI G=>by simp only[go_sem,reduceIte,↓reduceIte,reduceCtorEq,nA,nS,nM,nB,nE,nL,nT,nN,iL,iT,iE,iA,iM,iS,iG,iB,iN,iZ,h,Int.lt_irrefl,hb0,List.length_map,tend]) (λk hk s hI=>by
    have h1:((k:Int)<(ws.length:Int)):=Int.ofNat_lt.2 hk
    have hk2:ws[k].size<=1048576:=hw.2 _ (List.getElem_mem hk)
    have hwl:=hw.1
    have z1:(⟨#[32]⟩:ByteArray).size=1:=rfl
    have hJ:(s++⟨#[32]⟩++ws[k]).size<=1048576*(k+1+1)+(k+1):=by rw[ByteArray.size_append,ByteArray.size_append,z1]; omega
    have t1:(((k+2:Nat):Int)<((ws.length+1+1:Nat):Int)):=by omega
    have w1:(IntKind.i64).wrap (((k+2:Nat):Int)+1)=((k+1+2:Nat):Int):=by rw[YL (by omega) (by omega)]; omega
    have i1:YK (ws.length+1+1) ((k+2:Nat):Int)=some (k+2):=Xt _ (k+2) (by omega)
    have g1:([.s a] :: [.s b] :: ws.map X8).getD (k+2) []=[.s ws[k]]:=by simp[hk,X8]
    have g2:([.s a] :: [.s b] :: ws.map X8)[k+2]?=some [.s ws[k]]:=by simp[hk,X8]
    have s1:s.size+(#[32]:Array UInt8).size<=9223372036854775807:=by simp; omega
    have s2:s.size+(#[32]:Array UInt8).size+ws[k].size<=9223372036854775807:=by simp; omega
    exact⟨hJ,_,λG=>by simp only[go_sem,reduceIte,↓reduceIte,reduceCtorEq,nA,nS,nM,nB,nE,nL,nT,nN,iL,iT,iE,iA,iM,iS,iG,iB,iN,iZ,h,t1,w1,i1,g1,g2,s1,s2,List.length_map,h1,Xt _ _ hk,Xm (show k<9223372036854775807 by omega),hb0]<;>with_reducible rfl,by simp only[go_sem,reduceIte,↓reduceIte,reduceCtorEq,nA,nS,nM,nB,nE,nL,nT,nN,iL,iT,iE,iA,iM,iS,iG,iB,iN,iZ,h]⟩) b (by omega) (ws.length+1+1+1) (by omega)
 rw[hb0] at hr
 cases d:ws.isEmpty<;>cases c1:eqv a ⟨#[116,97,103]⟩<;>cases c2:eqv a ⟨#[107,101,121]⟩
 all_goals
  simp only[d,c1,c2,Bool.and_true,Bool.and_false,Bool.true_and,Bool.false_and,if_true,if_false,Bool.false_eq_true,pj] at pe
  simp only[go_sem,reduceIte,↓reduceIte,reduceCtorEq,nA,nS,nM,nB,nE,nL,nT,nN,iL,iT,iE,iA,iM,iS,iG,iB,iN,iZ,h,pe,d,c1,c2,q1,q2,q3,i0,i1,hr,n2,Xbs,pEv,Xa,List.map_cons,List.map_nil,List.length_cons,List.length_nil,Zw,XG,Option.getD_none,Option.getD_some,Option.isSome_none,Option.isSome_some,List.drop_succ_cons,List.drop_zero,List.take_succ_cons,List.take_zero,Nat.reduceAdd,Int.reduceLT,List.length_map]) (by simp only[go_sem,reduceIte,↓reduceIte,reduceCtorEq,nA,nS,nM,nB,nE,nL,nT,nN,iL,iT,iE,iA,iM,iS,iG,iB,iN,iZ,ZS,XJ,XU,XQ])
def Q4:List ByteArray->Option Event
 | a :: b :: m :: r=>if YQ a=true/\YQ b=true/\r.all XaB=true then some ⟨2,Zn a,0,⟨⟨#[]⟩,⟨#[]⟩,⟨#[]⟩,[]⟩,⟨Zn b,UR (UN 43 32) r,if eqv m ⟨#[45]⟩=true then[] else m.data.toList⟩,⟨#[]⟩,false⟩ else none
 | _=>none
def UO(k:Int):List ByteArray->Option Event
 | [x]=>if YQ x=true then some ⟨k,Zn x,0,⟨⟨#[]⟩,⟨#[]⟩,⟨#[]⟩,[]⟩,⟨0,[],[]⟩,⟨#[]⟩,false⟩ else none
 | _=>none
def Yt:List ByteArray->Option Event
 | []=>none
 | w :: r=>if eqv w ⟨#[97,115,107]⟩=true then XfP r else if eqv w ⟨#[114,101,112,108,121]⟩=true then Q4 r else if eqv w ⟨#[112,117,114,103,101]⟩=true then ZV true r else if eqv w ⟨#[115,111,102,116]⟩=true then ZV false r
  else if eqv w ⟨#[102,97,105,108]⟩=true then UO 3 r else if eqv w ⟨#[116,105,99,107]⟩=true then UO 4 r else none
def Xdf(x:ByteArray):List ByteArray->Event×Bool
 | a :: b :: c :: d :: r=>if Ya a<0 then(XG,false) else(⟨1,Ya x,Ya a,⟨b,c,d,UR (XbY false) r⟩,⟨0,[],[]⟩,⟨#[]⟩,false⟩,decide (0<=Ya x)&&r.all XaB)
 | _=>(XG,false)
def ZL(x:ByteArray):List ByteArray->Event×Bool
 | a :: b :: r=>if Ya a<0 then(XG,false) else(⟨2,Ya x,0,⟨⟨#[]⟩,⟨#[]⟩,⟨#[]⟩,[]⟩,⟨Ya a,UR (XbY true) r,if eqv b ⟨#[45]⟩=true then[] else b.data.toList⟩,⟨#[]⟩,false⟩,decide (0<=Ya x)&&r.all XaB)
 | _=>(XG,false)
def evS:List ByteArray->Event×Bool
 | w :: x :: r=>if eqv w ⟨#[97,115,107]⟩=true then Xdf x r else if eqv w ⟨#[114,101,112,108,121]⟩=true then ZL x r
  else if eqv w ⟨#[102,97,105,108]⟩=true then(⟨3,Ya x,0,⟨⟨#[]⟩,⟨#[]⟩,⟨#[]⟩,[]⟩,⟨0,[],[]⟩,⟨#[]⟩,false⟩,decide (0<=Ya x)&&r.isEmpty)
  else if eqv w ⟨#[116,105,99,107]⟩=true then(⟨4,Ya x,0,⟨⟨#[]⟩,⟨#[]⟩,⟨#[]⟩,[]⟩,⟨0,[],[]⟩,⟨#[]⟩,false⟩,decide (0<=Ya x)&&r.isEmpty)
  else if eqv w ⟨#[112,117,114,103,101]⟩=true then(Xbs true (x :: r),(ZV true (x :: r)).isSome) else if eqv w ⟨#[115,111,102,116]⟩=true then(Xbs false (x :: r),(ZV false (x :: r)).isSome)
  else(XG,false)
 | _=>(XG,false)
def Uh{t:ByteArray}(h:YQ t=true):Ya t=Zn t:=if_pos h
def XgN{t:ByteArray}(h:YQ t=false):Ya t =-1:=if_neg (by rw[h]; decide)
def Xb2(t:ByteArray):(Ya t<0)↔YQ t=false:=by
 cases h:YQ t
 ·rw[XgN h]; simp
 ·rw[Uh h]
  have:=(XeA t).1
  simp; omega
def Xb3(t:ByteArray):decide (0<=Ya t)=YQ t:=by
 have:=Xb2 t
 cases h:YQ t
 ·rw[XgN h]; rfl
 ·rw[Uh h]; exact decide_eq_true (XeA t).1
def XgO{h:Bool}{ws:List ByteArray}(hs:(ZV h ws).isSome=true):Xbs h ws=Zw (ZV h ws):=by
 obtain⟨e,he⟩:=Option.isSome_iff_exists.1 hs
 unfold Xbs Zw
 rw[he]; rfl
def XpC(x:ByteArray)(r:List ByteArray):(Xdf x r).2=(XfP (x :: r)).isSome/\((Xdf x r).2=true->(Xdf x r).1=Zw (XfP (x :: r))):=by
 rcases r with _ | ⟨a,_ | ⟨b,_ | ⟨c,_ | ⟨d,r⟩⟩⟩⟩
 iterate 4 exact⟨rfl,λh=>by cases h⟩
 simp only[Xdf,XfP,Xb2,Xb3,XmP]
 cases h1:YQ x<;>cases h2:YQ a<;>cases h3:r.all XaB<;>simp[Zw]
 exact⟨Uh h1,Uh h2⟩
def Xko(x:ByteArray)(r:List ByteArray):(ZL x r).2=(Q4 (x :: r)).isSome/\((ZL x r).2=true->(ZL x r).1=Zw (Q4 (x :: r))):=by
 rcases r with _ | ⟨a,_ | ⟨b,r⟩⟩
 iterate 2 exact⟨rfl,λh=>by cases h⟩
 simp only[ZL,Q4,Xb2,Xb3,XmO]
 cases h1:YQ x<;>cases h2:YQ a<;>cases h3:r.all XaB<;>simp[Zw]
 exact⟨Uh h1,Uh h2⟩
def Xit(k:Int)(x:ByteArray)(r:List ByteArray):(decide (0<=Ya x)&&r.isEmpty)=(UO k (x :: r)).isSome/\((decide (0<=Ya x)&&r.isEmpty)=true->(⟨k,Ya x,0,⟨⟨#[]⟩,⟨#[]⟩,⟨#[]⟩,[]⟩,⟨0,[],[]⟩,⟨#[]⟩,false⟩:Event)=Zw (UO k (x :: r))):=by
 rw[Xb3]
 cases r with
 | cons a r=>exact⟨by simp[UO],λh=>by simp at h⟩
 | nil =>
  simp only[UO]
  cases h1:YQ x<;>simp[Zw]
  exact Uh h1
def XmV(w:ByteArray):Yt [w]=none:=by
 simp only[Yt,XfP,Q4,ZV,UO,ite_self]
def XpD:∀ws:List ByteArray,(evS ws).2=(Yt ws).isSome/\((evS ws).2=true->(evS ws).1=Zw (Yt ws))
 | []=>⟨rfl,λh=>by cases h⟩
 | [w]=>by rw[XmV]; exact⟨rfl,λh=>by cases h⟩
 | w :: x :: r=>by
  simp only[evS,Yt]
  by_cases c1:eqv w ⟨#[97,115,107]⟩=true
  ·rw[if_pos c1,if_pos c1]; exact XpC x r
  rw[if_neg c1,if_neg c1]
  by_cases c2:eqv w ⟨#[114,101,112,108,121]⟩=true
  ·rw[if_pos c2,if_pos c2]; exact Xko x r
  rw[if_neg c2,if_neg c2]
  by_cases c3:eqv w ⟨#[102,97,105,108]⟩=true
  ·have e:=Yn.1 c3
   have n1:¬eqv w ⟨#[112,117,114,103,101]⟩=true:=λh=>by have:=e.symm.trans (Yn.1 h); revert this; decide
   have n2:¬eqv w ⟨#[115,111,102,116]⟩=true:=λh=>by have:=e.symm.trans (Yn.1 h); revert this; decide
   rw[if_pos c3,if_neg n1,if_neg n2,if_pos c3]; exact Xit 3 x r
  rw[if_neg c3,if_neg c3]
  by_cases c4:eqv w ⟨#[116,105,99,107]⟩=true
  ·have e:=Yn.1 c4
   have n1:¬eqv w ⟨#[112,117,114,103,101]⟩=true:=λh=>by have:=e.symm.trans (Yn.1 h); revert this; decide
   have n2:¬eqv w ⟨#[115,111,102,116]⟩=true:=λh=>by have:=e.symm.trans (Yn.1 h); revert this; decide
   rw[if_pos c4,if_neg n1,if_neg n2,if_pos c4]; exact Xit 4 x r
  rw[if_neg c4,if_neg c4]
  by_cases c5:eqv w ⟨#[112,117,114,103,101]⟩=true
  ·rw[if_pos c5,if_pos c5]; exact⟨rfl,XgO⟩
  rw[if_neg c5,if_neg c5]
  by_cases c6:eqv w ⟨#[115,111,102,116]⟩=true
  ·rw[if_pos c6,if_pos c6]; exact⟨rfl,XgO⟩
  rw[if_neg c6,if_neg c6]
  exact⟨rfl,λh=>by cases h⟩
def s54:SP Tryz.prog:=mkS tyA 54 Tryz.f54 [s91,s92,s93] {md:=[.ro 1],rg:=[(0,[0,2,8,10,63,64,93,94],[2,4]),(1,[0,2,4,8,10,63,64,93,94],[2,4]),(2,[0,2,4,5,8,10,63,64,93,94],[2,4]),(3,[0,2,4,5,8,10,16,63,64,93,94],[2,4]),(4,[2,3,8,10,63,64,93,94],[2,4]),(5,[0,2,4,5,6,8,10,63,64,93,94],[2,4]),(6,[0,2,4,5,6,7,8,10,63,64,93,94],[2,4]),(7,[0,2,4,5,6,7,8,10,26,63,64,93,94],[2,4]),(8,[2,4,7,8,10,63,64,93,94],[2,4]),(9,[0,2,4,5,6,7,8,10,26,27,63,64,93,94],[2,4]),(10,[0,2,4,6,7,8,10,37,63,64,93,94],[2,4]),(11,[2,3,8,10,63,64,93,94],[2,4]),(12,[0,2,4,6,7,8,9,10,63,64,93,94],[2,4]),(13,[0,2,4,6,7,8,10,63,64,93,94],[2,4]),(14,[2,4,7,8,10,63,64,93,94],[2,4]),(15,[0,2,4,5,6,7,8,10,26,63,64,66,93,94],[2,4]),(16,[0,2,4,6,7,8,10,63,64,76,93,94],[2,4]),(17,[2,3,8,10,63,64,93,94],[2,4]),(18,[0,2,4,6,7,8,10,11,63,64,93,94],[2,4]),(19,[0,2,4,6,7,8,10,63,64,93,94],[2,4]),(20,[0,2,4,7,8,10,63,64,93,94],[2,4]),(21,[0,2,4,7,8,10,63,64,93,94,99],[2,4]),(22,[2,4,7,8,10,63,64,93,94],[2,4]),(23,[0,2,4,5,6,7,8,10,26,63,64,93,94,106],[2,4]),(24,[2,4,6,7,8,10,63,64,93,94],[2,4]),(25,[2,4,7,8,10,63,64,93,94],[2,4]),(26,[0,2,4,5,6,7,8,10,26,63,64,93,94,115],[2,4]),(27,[2,4,6,7,8,10,63,64,93,94],[2,4]),(28,[2,4,7,8,10,63,64,93,94],[2,4]),(29,[0,2,4,8,10,26,63,64,93,94,124],[2,4]),(30,[2,3,8,10,63,64,93,94],[2,4]),(31,[0,2,4,8,10,63,64,93,94,131],[2,4]),(32,[2,3,8,10,63,64,93,94],[2,4]),(33,[2,3,8,10,63,64,93,94],[2,4])],rets:=some ([2,3,8,10,63,64,93,94],[2,4]),al:=[39,78],plan:=[(14,(.take 0 (.take 1 (.take 2 (.take 3 (.take 5 (.take 6 (.take 7 (.take 8 (.take 9 (.take 10 (.take 11 (.take 12 (.take 13 (.take 14 (.take 15 (.one 4 (.take 16 (.one 17 .done)))))))))))))))))))]} Tryz.func54 (by kernel_rfl)
@[go_sem] def d54:s54.g=54/\s54.fs=⟨[.ro 1],s54.F,false⟩:=⟨nr rfl,nr rfl⟩
@[go_sem] def e54(ws:List ByteArray)(h0:smL Zy ws):s54.F [.sl .ro 1 (ws.map X8)]=some (.tup [.agg (Ud .mut (evS ws).1),.b (evS ws).2],[.u]):=Xj (0) rfl rfl (λcx h=>by
 rcases ws with _ | ⟨w,ws⟩
 ·simp only[go_sem,reduceIte,↓reduceIte,reduceCtorEq,nA,nS,nM,nB,nE,nL,nT,nN,iL,iT,iE,iA,iM,iS,iG,iB,iN,iZ,h,evS,Xdf,ZL,Xa,Xc,List.map_cons,List.map_nil,List.length_cons,List.length_nil,Zw,XG,Option.getD_none,Option.getD_some,Option.isSome_none,Option.isSome_some,List.drop_succ_cons,List.drop_zero,List.take_succ_cons,List.take_zero,Nat.reduceAdd,Int.reduceLT,List.length_map]
 rcases ws with _ | ⟨x,ws⟩
 ·simp only[go_sem,reduceIte,↓reduceIte,reduceCtorEq,nA,nS,nM,nB,nE,nL,nT,nN,iL,iT,iE,iA,iM,iS,iG,iB,iN,iZ,h,evS,Xdf,ZL,Xa,Xc,List.map_cons,List.map_nil,List.length_cons,List.length_nil,Zw,XG,Option.getD_none,Option.getD_some,Option.isSome_none,Option.isSome_some,List.drop_succ_cons,List.drop_zero,List.take_succ_cons,List.take_zero,Nat.reduceAdd,Int.reduceLT,List.length_map]
 have hx1:x.size<=1048576:=h0.2 x (by simp)
 have hn:ws.length<=1048574:=by have:=h0.1; simp only[List.length_cons] at this; omega
 have hl2:¬(((ws.length+1+1:Nat):Int)<2):=by omega
 have i1:YK (ws.length+1+1) 1=some 1:=Xt _ 1 (by omega)
 have i0:YK (ws.length+1+1) 0=some 0:=Xt _ 0 (by omega)
 rcases Bool.eq_false_or_eq_true (eqv w ⟨#[97,115,107]⟩) with c1 | c1
 ·skip
  rcases ws with _ | ⟨a,ws⟩
  ·by_cases d0:0<=Ya x<;>simp only[go_sem,reduceIte,↓reduceIte,reduceCtorEq,nA,nS,nM,nB,nE,nL,nT,nN,iL,iT,iE,iA,iM,iS,iG,iB,iN,iZ,h,c1,d0,evS,Xdf,ZL,Xa,Xc,List.map_cons,List.map_nil,List.length_cons,List.length_nil,Zw,XG,Option.getD_none,Option.getD_some,Option.isSome_none,Option.isSome_some,List.drop_succ_cons,List.drop_zero,List.take_succ_cons,List.take_zero,Nat.reduceAdd,Int.reduceLT,List.length_map]
  rcases ws with _ | ⟨b,ws⟩
  ·by_cases d0:0<=Ya x<;>simp only[go_sem,reduceIte,↓reduceIte,reduceCtorEq,nA,nS,nM,nB,nE,nL,nT,nN,iL,iT,iE,iA,iM,iS,iG,iB,iN,iZ,h,c1,d0,evS,Xdf,ZL,Xa,Xc,List.map_cons,List.map_nil,List.length_cons,List.length_nil,Zw,XG,Option.getD_none,Option.getD_some,Option.isSome_none,Option.isSome_some,List.drop_succ_cons,List.drop_zero,List.take_succ_cons,List.take_zero,Nat.reduceAdd,Int.reduceLT,List.length_map]
  rcases ws with _ | ⟨m,ws⟩
  ·by_cases d0:0<=Ya x<;>simp only[go_sem,reduceIte,↓reduceIte,reduceCtorEq,nA,nS,nM,nB,nE,nL,nT,nN,iL,iT,iE,iA,iM,iS,iG,iB,iN,iZ,h,c1,d0,evS,Xdf,ZL,Xa,Xc,List.map_cons,List.map_nil,List.length_cons,List.length_nil,Zw,XG,Option.getD_none,Option.getD_some,Option.isSome_none,Option.isSome_some,List.drop_succ_cons,List.drop_zero,List.take_succ_cons,List.take_zero,Nat.reduceAdd,Int.reduceLT,List.length_map]
  rcases ws with _ | ⟨q,ws⟩
  ·by_cases d0:0<=Ya x<;>simp only[go_sem,reduceIte,↓reduceIte,reduceCtorEq,nA,nS,nM,nB,nE,nL,nT,nN,iL,iT,iE,iA,iM,iS,iG,iB,iN,iZ,h,c1,d0,evS,Xdf,ZL,Xa,Xc,List.map_cons,List.map_nil,List.length_cons,List.length_nil,Zw,XG,Option.getD_none,Option.getD_some,Option.isSome_none,Option.isSome_some,List.drop_succ_cons,List.drop_zero,List.take_succ_cons,List.take_zero,Nat.reduceAdd,Int.reduceLT,List.length_map]
  have hn:ws.length<=1048574:=by simp only[List.length_cons] at hn; omega
  have hw:smL Zy ws:=⟨by omega,λy hy=>h0.2 y (by simp[hy])⟩
  have hk:¬(((ws.length+1+1+1+1+1+1:Nat):Int)<6):=by omega
  have hs:(6:Int)<=((ws.length+1+1+1+1+1+1:Nat):Int):=by omega
  have hl2:¬(((ws.length+1+1+1+1+1+1:Nat):Int)<2):=by omega
  have i0:YK (ws.length+1+1+1+1+1+1) 0=some 0:=Xt _ 0 (by omega)
  have i1:YK (ws.length+1+1+1+1+1+1) 1=some 1:=Xt _ 1 (by omega)
  have i2:YK (ws.length+1+1+1+1+1+1) 2=some 2:=Xt _ 2 (by omega)
  have i3:YK (ws.length+1+1+1+1+1+1) 3=some 3:=Xt _ 3 (by omega)
  have i4:YK (ws.length+1+1+1+1+1+1) 4=some 4:=Xt _ 4 (by omega)
  have i5:YK (ws.length+1+1+1+1+1+1) 5=some 5:=Xt _ 5 (by omega)
  have tk:List.take (ws.length+1+1+1+1+1+1-6) (ws.map X8)=ws.map X8:=List.take_of_length_le (by rw[List.length_map]; omega)
  by_cases d1:Ya a<0
  ·by_cases d0:0<=Ya x<;>simp only[go_sem,reduceIte,↓reduceIte,reduceCtorEq,nA,nS,nM,nB,nE,nL,nT,nN,iL,iT,iE,iA,iM,iS,iG,iB,iN,iZ,h,c1,hw,hk,hs,hl2,tk,i0,i1,i2,i3,i4,i5,d0,d1,evS,Xdf,ZL,Xa,Xc,List.map_cons,List.map_nil,List.length_cons,List.length_nil,Zw,XG,Option.getD_none,Option.getD_some,Option.isSome_none,Option.isSome_some,List.drop_succ_cons,List.drop_zero,List.take_succ_cons,List.take_zero,Nat.reduceAdd,Int.reduceLT,List.length_map]
  by_cases d0:0<=Ya x<;>cases d2:ws.all XaB<;>simp only[go_sem,reduceIte,↓reduceIte,reduceCtorEq,nA,nS,nM,nB,nE,nL,nT,nN,iL,iT,iE,iA,iM,iS,iG,iB,iN,iZ,h,c1,hw,hk,hs,hl2,tk,i0,i1,i2,i3,i4,i5,d0,d1,d2,evS,Xdf,ZL,Xa,Xc,List.map_cons,List.map_nil,List.length_cons,List.length_nil,Zw,XG,Option.getD_none,Option.getD_some,Option.isSome_none,Option.isSome_some,List.drop_succ_cons,List.drop_zero,List.take_succ_cons,List.take_zero,Nat.reduceAdd,Int.reduceLT,List.length_map]
 rcases Bool.eq_false_or_eq_true (eqv w ⟨#[114,101,112,108,121]⟩) with c2 | c2
 ·skip
  rcases ws with _ | ⟨a,ws⟩
  ·by_cases d0:0<=Ya x<;>simp only[go_sem,reduceIte,↓reduceIte,reduceCtorEq,nA,nS,nM,nB,nE,nL,nT,nN,iL,iT,iE,iA,iM,iS,iG,iB,iN,iZ,h,c1,c2,d0,evS,Xdf,ZL,Xa,Xc,List.map_cons,List.map_nil,List.length_cons,List.length_nil,Zw,XG,Option.getD_none,Option.getD_some,Option.isSome_none,Option.isSome_some,List.drop_succ_cons,List.drop_zero,List.take_succ_cons,List.take_zero,Nat.reduceAdd,Int.reduceLT,List.length_map]
  rcases ws with _ | ⟨b,ws⟩
  ·by_cases d0:0<=Ya x<;>simp only[go_sem,reduceIte,↓reduceIte,reduceCtorEq,nA,nS,nM,nB,nE,nL,nT,nN,iL,iT,iE,iA,iM,iS,iG,iB,iN,iZ,h,c1,c2,d0,evS,Xdf,ZL,Xa,Xc,List.map_cons,List.map_nil,List.length_cons,List.length_nil,Zw,XG,Option.getD_none,Option.getD_some,Option.isSome_none,Option.isSome_some,List.drop_succ_cons,List.drop_zero,List.take_succ_cons,List.take_zero,Nat.reduceAdd,Int.reduceLT,List.length_map]
  have hn:ws.length<=1048574:=by simp only[List.length_cons] at hn; omega
  have hw:smL Zy ws:=⟨by omega,λy hy=>h0.2 y (by simp[hy])⟩
  have hk:¬(((ws.length+1+1+1+1:Nat):Int)<4):=by omega
  have hs:(4:Int)<=((ws.length+1+1+1+1:Nat):Int):=by omega
  have hl2:¬(((ws.length+1+1+1+1:Nat):Int)<2):=by omega
  have i0:YK (ws.length+1+1+1+1) 0=some 0:=Xt _ 0 (by omega)
  have i1:YK (ws.length+1+1+1+1) 1=some 1:=Xt _ 1 (by omega)
  have i2:YK (ws.length+1+1+1+1) 2=some 2:=Xt _ 2 (by omega)
  have i3:YK (ws.length+1+1+1+1) 3=some 3:=Xt _ 3 (by omega)
  have tk:List.take (ws.length+1+1+1+1-4) (ws.map X8)=ws.map X8:=List.take_of_length_le (by rw[List.length_map]; omega)
  by_cases d1:Ya a<0
  ·by_cases d0:0<=Ya x<;>simp only[go_sem,reduceIte,↓reduceIte,reduceCtorEq,nA,nS,nM,nB,nE,nL,nT,nN,iL,iT,iE,iA,iM,iS,iG,iB,iN,iZ,h,c1,c2,hw,hk,hs,hl2,tk,i0,i1,i2,i3,d0,d1,evS,Xdf,ZL,Xa,Xc,List.map_cons,List.map_nil,List.length_cons,List.length_nil,Zw,XG,Option.getD_none,Option.getD_some,Option.isSome_none,Option.isSome_some,List.drop_succ_cons,List.drop_zero,List.take_succ_cons,List.take_zero,Nat.reduceAdd,Int.reduceLT,List.length_map]
  have hm1:b.size<=9223372036854775807:=by have:=h0.2 b (by simp); have:b.size<=1048576:=this; omega
  have kb:b.data.toList.map UV=b.data.toList.map XE:=rfl
  by_cases d0:0<=Ya x<;>cases d2:ws.all XaB<;>cases d3:eqv b ⟨#[45]⟩<;>simp only[go_sem,reduceIte,↓reduceIte,reduceCtorEq,nA,nS,nM,nB,nE,nL,nT,nN,iL,iT,iE,iA,iM,iS,iG,iB,iN,iZ,h,c1,c2,hw,hk,hs,hl2,tk,i0,i1,i2,i3,d0,d1,d2,d3,hm1,kb,evS,Xdf,ZL,Xa,Xc,List.map_cons,List.map_nil,List.length_cons,List.length_nil,Zw,XG,Option.getD_none,Option.getD_some,Option.isSome_none,Option.isSome_some,List.drop_succ_cons,List.drop_zero,List.take_succ_cons,List.take_zero,Nat.reduceAdd,Int.reduceLT,List.length_map]
 rcases Bool.eq_false_or_eq_true (eqv w ⟨#[102,97,105,108]⟩) with c3 | c3
 ·have e2:(((ws.length+1+1:Nat):Int)==2)=ws.isEmpty:=by cases ws<;>simp; omega
  by_cases d0:0<=Ya x<;>cases d2:ws.isEmpty<;>simp only[go_sem,reduceIte,↓reduceIte,reduceCtorEq,nA,nS,nM,nB,nE,nL,nT,nN,iL,iT,iE,iA,iM,iS,iG,iB,iN,iZ,h,hl2,i0,i1,c1,c2,c3,d0,e2,d2,evS,Xdf,ZL,Xa,Xc,List.map_cons,List.map_nil,List.length_cons,List.length_nil,Zw,XG,Option.getD_none,Option.getD_some,Option.isSome_none,Option.isSome_some,List.drop_succ_cons,List.drop_zero,List.take_succ_cons,List.take_zero,Nat.reduceAdd,Int.reduceLT,List.length_map]
 rcases Bool.eq_false_or_eq_true (eqv w ⟨#[116,105,99,107]⟩) with c4 | c4
 ·have e2:(((ws.length+1+1:Nat):Int)==2)=ws.isEmpty:=by cases ws<;>simp; omega
  by_cases d0:0<=Ya x<;>cases d2:ws.isEmpty<;>simp only[go_sem,reduceIte,↓reduceIte,reduceCtorEq,nA,nS,nM,nB,nE,nL,nT,nN,iL,iT,iE,iA,iM,iS,iG,iB,iN,iZ,h,hl2,i0,i1,c1,c2,c3,c4,d0,e2,d2,evS,Xdf,ZL,Xa,Xc,List.map_cons,List.map_nil,List.length_cons,List.length_nil,Zw,XG,Option.getD_none,Option.getD_some,Option.isSome_none,Option.isSome_some,List.drop_succ_cons,List.drop_zero,List.take_succ_cons,List.take_zero,Nat.reduceAdd,Int.reduceLT,List.length_map]
 have hw:smL Zy (x :: ws):=⟨by simp only[List.length_cons]; omega,λy hy=>h0.2 y (List.mem_cons_of_mem _ hy)⟩
 have r1:(x :: ws).map X8=[.s x] :: ws.map X8:=rfl
 have hs:(1:Int)<=((ws.length+1+1:Nat):Int):=by omega
 have tk:List.take (ws.length+1+1-1) ([.s x] :: ws.map X8)=[.s x] :: ws.map X8:=List.take_of_length_le (by simp)
 have ep:=λp=>e93 (x :: ws) p hw
 rw[r1] at ep
 by_cases d0:0<=Ya x<;>cases c5:eqv w ⟨#[112,117,114,103,101]⟩<;>cases c6:eqv w ⟨#[115,111,102,116]⟩<;>simp only[go_sem,reduceIte,↓reduceIte,reduceCtorEq,nA,nS,nM,nB,nE,nL,nT,nN,iL,iT,iE,iA,iM,iS,iG,iB,iN,iZ,h,hl2,i0,i1,c1,c2,c3,c4,c5,c6,d0,hs,tk,ep,evS,Xdf,ZL,Xa,Xc,List.map_cons,List.map_nil,List.length_cons,List.length_nil,Zw,XG,Option.getD_none,Option.getD_some,Option.isSome_none,Option.isSome_some,List.drop_succ_cons,List.drop_zero,List.take_succ_cons,List.take_zero,Nat.reduceAdd,Int.reduceLT,List.length_map]) (by simp only[go_sem,reduceIte,↓reduceIte,reduceCtorEq,nA,nS,nM,nB,nE,nL,nT,nN,iL,iT,iE,iA,iM,iS,iG,iB,iN,iZ,ZS,XJ,XU,XQ])
end
end Go.Vm.A
