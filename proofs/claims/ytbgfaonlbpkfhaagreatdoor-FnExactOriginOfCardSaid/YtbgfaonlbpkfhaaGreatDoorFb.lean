/- Functions of the program, walked by the evaluator. -/
import Derived.Test.YtbgfaonlbpkfhaaGreatDoorWb
import Derived.Test.YtbgfaonlbpkfhaaGreatDoorWa
import Derived.Test.YtbgfaonlbpkfhaaGreatDoorFa
set_option linter.unusedVariables false
set_option linter.unusedSimpArgs false
set_option autoImplicit false
set_option maxRecDepth 100000
set_option maxHeartbeats 4000000
set_option linter.defProp false
namespace Go.Vm.A
open Go.Proofs
open Nat renaming reduceAdd -> nA, reduceSub -> nS, reduceMul -> nM, reduceBEq -> nB, reduceEqDiff -> nE, reduceLeDiff -> nL, reduceLT -> nT, reduceBneDiff -> nN
open Int renaming reduceLE -> iL, reduceLT -> iT, reduceEq -> iE, reduceAdd -> iA, reduceMul -> iM, reduceSub -> iS, reduceNeg -> iG, reduceBEq -> iB, reduceBNe -> iN, reduceToNat -> iZ
noncomputable section
def Xr2:SP Tryz.prog:=mkS tyA 234 Tryz.f234 [XqQ,XrZ,Xr1] {md:=[.ro 1],rg:=[(0,[1],[1]),(1,[1,3],[1]),(2,[3,6],[]),(3,[2],[]),(4,[3,11],[]),(5,[2],[]),(6,[15],[]),(7,[2],[]),(8,[2],[])],rets:=some ([2],[])} Tryz.func234 (by kernel_rfl)
@[go_sem] def XJn:Xr2.g=234/\Xr2.fs=⟨[.ro 1],Xr2.F,false⟩:=⟨nr rfl,nr rfl⟩
@[go_sem] def XJo(y0 y1:ByteArray):Xr2.F [.agg [.s y0,.s y1]]=some (.i .i64 (YN (Xx.mk y0 y1)),[.u]):=Xb (0) rfl rfl (λcx h=>by
 cases h1:Xad y0
 ·simp only[go_sem,reduceIte,↓reduceIte,nA,nB,nE,nL,h,h1,YN]
 by_cases h2:200<(y1.size:Int)
 ·simp only[go_sem,reduceIte,↓reduceIte,nA,nB,nE,nL,h,h1,h2,YN]
 have h3:(y1.size:Int)<=1000000:=by omega
 have h4:y1.size<=9223372036854775806:=by omega
 have h5:y1.size<=9223372036854775807:=by omega
 cases h6:Xoe y1
 ·simp only[go_sem,reduceIte,↓reduceIte,nA,nB,nE,nL,h,h1,h2,h3,h6,YN]
 cases h7:eqv (XhU y1) y1<;>simp only[go_sem,reduceIte,↓reduceIte,nA,nB,nE,nL,h,h1,h2,h3,h4,h6,h7,XH,YN]) (rfl)
def XqR:SP Tryz.prog:=mkS tyA 182 Tryz.f182 [Xr2] {md:=[.ro 1],rg:=[(0,[0],[]),(1,[0,7],[]),(2,[2],[]),(3,[0,3],[]),(4,[0,3,11],[]),(5,[0,3],[]),(6,[0,3,4],[]),(7,[0,3,4,20],[]),(8,[2],[]),(9,[2],[])],lv:=[(0,[0,3],[])],out:=[(0,[],[])],rets:=some ([2],[])} Tryz.func182 (by kernel_rfl)
@[go_sem] def XJp:XqR.g=182/\XqR.fs=⟨[.ro 1],XqR.F,false⟩:=⟨nr rfl,nr rfl⟩
@[go_sem] def XJq(hs:List Xx):XqR.F [.sl .ro 2 (hs.map (Xj .ro))]=some (.i .i64 (Xn hs),[.u]):=Xb (hs.length+1) rfl rfl (λcx h=>by
 by_cases h1:20<(hs.length:Int)
 ·simp only[go_sem,reduceIte,↓reduceIte,nB,nE,h,h1,Xn]
 have hx:hs.length<=9223372036854775806:=by omega
 have hb0:=Xg Tryz.f182 0 _ _ rfl rfl
 obtain⟨r,hr,hq⟩:=Xq (cx:=cx) (blk:=0) (body:=XN Tryz.f182 0) hs (λk (s:Unit)=>⟨E [(0,.sl .ro 2 (hs.map (Xj .ro))),(3,.i .i64 k)],B []⟩) (λs=>⟨E [],B []⟩) (λx s=>YN x !=0) (λx s=>()) (λx s=>(.ret,⟨E [(2,.i .i64 (YN x))],B []⟩)) (λk s=>True)
   (λs hI G=>by simp only[go_sem,reduceIte,↓reduceIte,nB,nE,h,Int.lt_irrefl,hb0]) (λk hk s hI=>by
    have h1:((k:Int)<(hs.length:Int)):=Int.ofNat_lt.2 hk
    exact⟨_,_,_,λG=>by simp only[go_sem,reduceIte,↓reduceIte,nA,nB,nE,h,Xi (Xj .ro) hs _ hk,Xj,h1,Xh _ _ hk,Xd (show k<9223372036854775807 by omega),hb0]<;>with_reducible rfl,Iff.rfl,λhc=>⟨trivial,by simp only[go_sem,reduceIte,↓reduceIte,nB,h]⟩⟩) () trivial (hs.length+1) (Nat.le_refl _)
 rw[hb0] at hr
 rcases hq with⟨s',e1,_,e3⟩ | ⟨x,s',e1,e3⟩
 ·simp only[go_sem,reduceIte,↓reduceIte,nB,nE,h,h1,hr,e3,Xn,Z8 e1]
 ·simp only[go_sem,reduceIte,↓reduceIte,nB,nE,h,h1,hr,e3,Xn,Z9 e1]) (rfl)
def XgG(m:Meta):List Int:=[m.At,m.Age,m.Life,m.Swr,m.Sie]
def Xcp(pl:Pl):∀(j:Nat) (xs:List Int),YT pl j (xs.map λa=>AV.i .i64 a)=xs.map λa=>AV.i .i64 a
 | _,[]=>rfl
 | j,x :: xs=>by
  rw[List.map_cons,YT,Xcp pl (j+1) xs]; rfl
def XaA(kp kr:Pl->Bool):∀xs:List Int,Yy kp kr (xs.map λa=>AV.i .i64 a)=xs.map λa=>AV.i .i64 a
 | []=>rfl
 | x :: xs=>by
  rw[List.map_cons,Yy,XaA kp kr xs]; rfl
def XaB(m:Meta):Int:=if((XgG m).any λx=>!XC x)=true then 3 else 0
def Xks{α:Type}{f:α->AV}{xs:List α}{n k:Nat}(hn:n=xs.length)(h:k<xs.length):XkT n (xs.map f) (k:Int)=some (f xs[k]):=by
 subst hn
 unfold XkT Qj
 rw[if_pos (by simp),if_pos (by omega)]
 simp[h]
def Xr3:SP Tryz.prog:=mkS tyA 183 Tryz.f183 [s49] {md:=[.ro 1],rg:=[(0,[1],[1]),(1,[30],[]),(2,[2],[]),(3,[2],[])],rets:=some ([2],[])} Tryz.func183 (by kernel_rfl)
@[go_sem] def XJr:Xr3.g=183/\Xr3.fs=⟨[.ro 1],Xr3.F,false⟩:=⟨nr rfl,nr rfl⟩
@[go_sem] def XJs(mAt y2 y3 y4 y5:Int)(y6 y7:Bool):Xr3.F [.agg [.i .i64 mAt,.i .i64 y2,.i .i64 y3,.i .i64 y4,.i .i64 y5,.b y6,.b y7]]=some (.i .i64 (XaB (Meta.mk mAt y2 y3 y4 y5 y6 y7)),[.u]):=Xb (0) rfl rfl (λcx h=>by
 have hu:XaB (Meta.mk mAt y2 y3 y4 y5 y6 y7)=if(!XC mAt||(!XC y2||(!XC y3||(!XC y4||(!XC y5||false)))))=true then 3 else 0:=rfl
 cases cmAt:XC mAt
 ·simp only[go_sem,reduceIte,↓reduceIte,nA,nB,nE,nL,h,hu,cmAt]
 cases cmAge:XC y2
 ·simp only[go_sem,reduceIte,↓reduceIte,nA,nB,nE,nL,h,hu,cmAt,cmAge]
 cases cmLife:XC y3
 ·simp only[go_sem,reduceIte,↓reduceIte,nA,nB,nE,nL,h,hu,cmAt,cmAge,cmLife]
 cases cmSwr:XC y4
 ·simp only[go_sem,reduceIte,↓reduceIte,nA,nB,nE,nL,h,hu,cmAt,cmAge,cmLife,cmSwr]
 cases cmSie:XC y5
 ·simp only[go_sem,reduceIte,↓reduceIte,nA,nB,nE,nL,h,hu,cmAt,cmAge,cmLife,cmSwr,cmSie]
 simp only[go_sem,reduceIte,↓reduceIte,nA,nB,nE,nL,h,hu,cmAt,cmAge,cmLife,cmSwr,cmSie]) (rfl)
def XcW(c:UInt8):Bool:=Q1 c||UB c||((c.toNat:Int)==46)||((c.toNat:Int)==45)
def Xd7:List UInt8:=[47,63,61,38,58,64,44,59,40,41]
def Xb1(c:UInt8):Bool:=XaL c||Xd7.contains c
def Xkt{c:UInt8}(h:c∈Xd7):Xb1 c=true:=by
 have:Xd7.contains c=true:=List.contains_iff_mem.2 h
 simp[Xb1,this,-List.contains_eq_mem]
def Xku{c:UInt8}(h:¬c∈Xd7):Xb1 c=XaL c:=by
 have:Xd7.contains c=false:=by rw[Bool.eq_false_iff]; exact λe=>h (List.contains_iff_mem.1 e)
 simp[Xb1,this,-List.contains_eq_mem]
def Xmt(c:UInt8):decide (0<=ixB ⟨#[47,63,61,38,58,64,44,59,40,41]⟩ c)=Xd7.contains c:=Xkp Xd7 c
@[go_sem] def XoM(xs:List UInt8):xs.map Xc4=xs.map Yq:=nr rfl
def XhV(c:UInt8):UInt8:=if 65<=(c.toNat:Int)/\(c.toNat:Int)<=90 then c+32 else c
def QH(t:ByteArray):ByteArray:=⟨(t.data.toList.map XhV).toArray⟩
def Q2(xs:List UInt8)(k:Nat):List UInt8:=(xs.take k).map XhV++xs.drop k
def Xfh(xs:List UInt8):Q2 xs 0=xs:=by simp[Q2]
def XgH(xs:List UInt8):Q2 xs xs.length=xs.map XhV:=by simp[Q2]
def XgI(xs:List UInt8)(k:Nat)(h:k<=xs.length):(Q2 xs k).length=xs.length:=by simp[Q2]; omega
def XfT(xs:List UInt8)(k:Nat)(h:k<xs.length):(Q2 xs k)[k]?=some xs[k]:=by
 unfold Q2
 rw[List.getElem?_append_right (by simp; omega)]
 simp[Nat.min_eq_left (Nat.le_of_lt h),h]
def Xfi(xs:List UInt8)(k:Nat)(h:k<xs.length):(Q2 xs k).set k (XhV xs[k])=Q2 xs (k+1):=by
 unfold Q2
 rw[List.set_append_right _ _ (by simp; omega)]
 rw[List.length_map,List.length_take,Nat.min_eq_left (Nat.le_of_lt h),Nat.sub_self,List.drop_eq_getElem_cons h,List.set_cons_zero]
 have e:(xs.take (k+1)).map XhV=(xs.take k).map XhV++[XhV xs[k]]:=by
  rw[List.take_add_one,List.getElem?_eq_getElem h,Option.toList_some,List.map_append]; rfl
 rw[e]
 simp
def Xfj(xs:List UInt8)(k:Nat)(h:k<xs.length)(hc:XhV xs[k]=xs[k]):Q2 xs (k+1)=Q2 xs k:=by
 rw[<-Xfi xs k h,hc]
 have:=XfT xs k h
 obtain⟨h1,h2⟩:=List.getElem?_eq_some_iff.1 this
 rw[<-h2]
 exact List.set_getElem_self h1
def XiT(xs:List UInt8)(k:Nat)(h:k<xs.length):((Q2 xs k).map Yq).getD k []=[.i .u8 xs[k].toNat]:=by
 rw[List.getD_eq_getElem?_getD,List.getElem?_map,XfT xs k h]; rfl
def Xkv(xs:List UInt8)(k:Nat)(h:k<xs.length):((Q2 xs k).map Yq)[k]?=some [.i .u8 xs[k].toNat]:=by
 rw[List.getElem?_map,XfT xs k h]; rfl
def Xkw{c:UInt8}(h:(c.toNat:Int)<=90):(c+32).toNat=c.toNat+32:=by
 rw[UInt8.toNat_add]
 have:(32:UInt8).toNat=32:=rfl
 rw[this]
 omega
def Xkx(xs:List UInt8)(k:Nat)(h:k<xs.length) :
  (65<=(xs[k].toNat:Int)/\(xs[k].toNat:Int)<=90/\((IntKind.u8).wrap ((IntKind.u8).wrap ((xs[k].toNat:Int)+97)-65)=((XhV xs[k]).toNat:Int))/\((IntKind.u8).wrap ((xs[k].toNat:Int)+32)=((XhV xs[k]).toNat:Int))/\((Q2 xs k).map Yq).set k [.i .u8 (XhV xs[k]).toNat]=(Q2 xs (k+1)).map Yq/\True) \/
  (¬65<=(xs[k].toNat:Int)/\True/\True/\True/\True/\Q2 xs (k+1)=Q2 xs k)\/(65<=(xs[k].toNat:Int)/\¬(xs[k].toNat:Int)<=90/\True/\True/\True/\Q2 xs (k+1)=Q2 xs k):=by
 by_cases a1:65<=(xs[k].toNat:Int)
 ·by_cases a2:(xs[k].toNat:Int)<=90
  ·refine .inl ⟨a1,a2,?_,?_,?_,trivial⟩
   ·have hl:XhV xs[k]=xs[k]+32:=if_pos ⟨a1,a2⟩
    rw[hl,Xkw a2]
    simp only[IntKind.wrap,IntKind.bits,IntKind.signed]
    simp
    omega
   ·have hl:XhV xs[k]=xs[k]+32:=if_pos ⟨a1,a2⟩
    rw[hl,Xkw a2]
    simp only[IntKind.wrap,IntKind.bits,IntKind.signed]
    simp
    omega
   ·rw[<-Xfi xs k h,List.map_set]; rfl
  ·exact .inr (.inr ⟨a1,a2,trivial,trivial,trivial,Xfj xs k h (if_neg λx=>a2 x.2)⟩)
 ·exact .inr (.inl ⟨a1,trivial,trivial,trivial,trivial,Xfj xs k h (if_neg λx=>a1 x.1)⟩)
def okN(n:ByteArray):Bool:=decide (n.size<=9223372036854775806)
def XgJ(hs:List Xx)(n:ByteArray):List ByteArray:=(hs.filter λx=>eqv (QH x.Name) (QH n)).map (·.Value)
def XhW(hs:List Xx)(n:ByteArray):Bool:=hs.any λx=>eqv (QH x.Name) (QH n)
def XcX(hs:List Xx)(n:ByteArray):decide (0<((XgJ hs n).length:Int))=XhW hs n:=by
 have:0<(XgJ hs n).length↔XhW hs n=true:=by
  unfold XgJ XhW
  rw[List.length_map,List.length_pos_iff_exists_mem,List.any_eq_true]
  simp only[List.mem_filter]
 rw[Bool.eq_iff_iff,decide_eq_true_eq,<-this]
 omega
def XaM(n:ByteArray)(s:ByteArray×Bool)(x:Xx):ByteArray×Bool:=if eqv (QH x.Name) (QH n)=true then((if s.2=true then s.1++⟨#[44,32]⟩ else s.1)++x.Value,true) else s
def Xky(hs:List Xx)(n:ByteArray):ByteArray×Bool:=hs.foldl (λs x=>XaM n s x) (⟨#[]⟩,false)
def Xfk(n:ByteArray):∀(hs:List Xx) (s:ByteArray×Bool),(hs.foldl (λs x=>XaM n s x) s).2=(s.2||XhW hs n)
 | [],s=>by simp[XhW]
 | x :: hs,s=>by
  rw[List.foldl_cons,Xfk n hs]
  unfold XaM XhW
  rw[List.any_cons]
  cases eqv (QH x.Name) (QH n)<;>simp
def XoN(hs:List Xx)(n:ByteArray):(Xky hs n).2=XhW hs n:=by
 unfold Xky; rw[Xfk]; rfl
def XfU{n:ByteArray}{s:ByteArray×Bool}{x:Xx}{k:Nat}(h:s.1.size<=k*1048578)(hx:x.Value.size<=1048576):(XaM n s x).1.size<=(k+1)*1048578:=by
 have h2:(⟨#[44,32]⟩:ByteArray).size=2:=rfl
 have h3:(k+1)*1048578=k*1048578+1048578:=Nat.succ_mul _ _
 rw[h3]
 generalize k*1048578=K at h ⊢
 unfold XaM
 split
 ·show(((if s.2=true then s.1++⟨#[44,32]⟩ else s.1)++x.Value).size)<=_
  rw[ByteArray.size_append]
  split
  ·rw[ByteArray.size_append]; omega
  ·omega
 ·omega
def Qq(t:ByteArray):Bool:=eqv t ⟨#[71,69,84]⟩||eqv t ⟨#[72,69,65,68]⟩
def QI(t:ByteArray):Bool:=XdR XcW 1 60 t
def Xbl(t:ByteArray):Bool:=XdR Xb1 1 100 t&&(((t.data[0]?.getD 0).toNat:Int)==47)
def XA(r:XQ):Int:=if(Qq r.Method&&QI r.Host&&Xbl r.Path)=false then 5 else if(Xn r.Headers !=0)=true then Xn r.Headers else if XhW r.Headers ⟨#[72,111,115,116]⟩=true then 6 else if 20<=(r.Headers.length:Int) then 2 else 0
def Xd8(hs:List Xx):XhW hs ⟨#[104,111,115,116]⟩=XhW hs ⟨#[72,111,115,116]⟩:=by
 unfold XhW
 have:QH ⟨#[104,111,115,116]⟩=QH ⟨#[72,111,115,116]⟩:=by rfl
 rw[this]
def Zt{hs:List Xx}(h:Xn hs=0):hs.length<=20:=by
 unfold Xn at h
 split at h
 ·cases h
 ·omega
def Xmu{p:UInt8->Bool}{hi:Int}{t:ByteArray}(h:XdR p 1 hi t=true):0<t.size:=by
 unfold XdR at h
 simp only[Bool.and_eq_true,decide_eq_true_eq] at h
 omega
def XaC(w:X2):Bool:=XC w.Req&&XC w.Due
def tw(s:List X2):List X2->Bool
 | []=>false
 | x :: r=>if(s.any λy=>y.Req==x.Req)=true then true else tw (s++[x]) r
def Xkz:∀{xs s s':List X2},Xac (λx s=>s.any λy=>y.Req==x.Req) (λx s=>s++[x]) xs s=.inl s'->tw s xs=false
 | [],_,_,_=>rfl
 | x :: xs,s,s',h=>by
  rw[Yp] at h
  split at h
  ·cases h
  ·rename_i hc; rw[tw,if_neg hc]; exact Xkz h
def XkA:∀{xs s:List X2} {q:X2×List X2},Xac (λx s=>s.any λy=>y.Req==x.Req) (λx s=>s++[x]) xs s=.inr q->tw s xs=true
 | [],_,_,h=>by cases h
 | x :: xs,s,q,h=>by
  rw[Yp] at h
  split at h
  ·rename_i hc; rw[tw,if_pos hc]
  ·rename_i hc; rw[tw,if_neg hc]; exact XkA h
def Xmv(ws:List X2)(r:Int):(ws.any λy=>r==y.Req)=ws.any λy=>y.Req==r:=by
 congr 1; funext y; exact Bool.eq_iff_iff.2 (by rw[beq_iff_eq,beq_iff_eq]; exact eq_comm)
def ZN{α:Type}(xs:List α)(k:Nat)(h:k<xs.length):xs.take (k+1)=xs.take k++[xs[k]]:=by
 rw[List.take_add_one,List.getElem?_eq_getElem h]; rfl
def runS_any{α:Type}{p:α->Bool}:∀{xs:List α} {u u':Unit},Xac (λx _=>p x) (λ_ _=>()) xs u=.inl u'->xs.any p=false
 | [],_,_,_=>rfl
 | x :: xs,u,u',h=>by
  rw[Yp] at h
  split at h
  ·cases h
  ·rename_i hc
   simp only[List.any_cons,runS_any h,Bool.or_false]
   simpa using hc
def QJ{α:Type}{p:α->Bool}:∀{xs:List α} {u:Unit} {q:α×Unit},Xac (λx _=>p x) (λ_ _=>()) xs u=.inr q->xs.any p=true
 | [],_,_,h=>by cases h
 | x :: xs,u,q,h=>by
  rw[Yp] at h
  split at h
  ·rename_i hc; simp[hc]
  ·simp only[List.any_cons,QJ h,Bool.or_true]
def YZ(xs:List ByteArray):Int:=if 4<(xs.length:Int) then 2 else if(xs.any λx=>!Xad x)=true then 5 else 0
def XfV{α:Type}(p:α->Bool):∀xs:List α,(xs.any λx=>!p x)=!xs.all p
 | []=>rfl
 | x :: xs=>by rw[List.any_cons,List.all_cons,XfV p xs]; cases p x<;>rfl
def Xcq(t:ByteArray):Bool:=decide (1<=(t.size:Int))&&decide ((t.size:Int)<=500)
def XD(f:Xl):Int :=
 if(XC f.Id&&XC f.Due)=false then 3 else if Xcq f.Key=false then 2 else if(XA f.Get !=0)=true then XA f.Get else if(!f.Out&&f.Due !=0)=true then 8
 else if 10<(f.Waiters.length:Int) then 2 else if(f.Waiters.any λx=>!XaC x)=true then 3 else if tw [] f.Waiters=true then 6 else 0
def Xao{f:Xl}(h:XD f=0):f.Waiters.length<=10:=by
 unfold XD at h
 split at h
 ·cases h
 split at h
 ·cases h
 split at h
 ·rename_i hc; rw[h] at hc; cases hc
 split at h
 ·cases h
 split at h
 ·cases h
 omega
def Xd9(s:Int):Bool:=s !=200&&s !=404&&s !=410
def Xu(e:XK):Int :=
 if Xcq e.Key=false then 2 else if(Xd9 e.Status||!within e.Pins 0 20)=true then 3 else if(Xn e.Headers !=0)=true then Xn e.Headers
 else if(decide (2000<(e.Body.length:Int))||decide (10<(e.Tags.length:Int)))=true then 2 else XaB e.Meta
def XiU{s:Int}(h:Xd9 s=false):s=200\/(s≠200/\s=404)\/(s≠200/\s≠404/\s=410):=by
 unfold Xd9 at h
 simp only[Bool.and_eq_false_iff,bne_eq_false_iff_eq] at h
 omega
def Xr4:SP Tryz.prog:=mkS tyA 112 Tryz.f112 [s86,XqR,Xr3] {md:=[.ro 1],rg:=[(0,[1],[1]),(1,[1,13],[1]),(2,[2],[]),(3,[1,32],[1]),(4,[2],[]),(5,[1,3],[1]),(6,[1,3,37],[1]),(7,[2],[]),(8,[1,48],[1]),(9,[2],[]),(10,[2],[])],rets:=some ([2],[])} Tryz.func112 (by kernel_rfl)
@[go_sem] def XJt:Xr4.g=112/\Xr4.fs=⟨[.ro 1],Xr4.F,false⟩:=⟨nr rfl,nr rfl⟩
@[go_sem] def XJu(y8:ByteArray)(y9:Int)(y10:List Xx)(y11:List UInt8)(y12 y13 y14 y15 y16:Int)(y17 y18:Bool)(y19:List ByteArray)(y20:Int)(h0:smL X6 (XK.mk y8 y9 y10 y11 (Meta.mk y12 y13 y14 y15 y16 y17 y18) y19 y20).Headers):Xr4.F [.agg [.s y8,.i .i64 y9,.sl .ro 2 (y10.map (Xj .ro)),.sl .ro 1 (y11.map Yq),.i .i64 y12,.i .i64 y13,.i .i64 y14,.i .i64 y15,.i .i64 y16,.b y17,.b y18,.sl .ro 1 (y19.map Ye),.i .i64 y20]]=some (.i .i64 (Xu (XK.mk y8 y9 y10 y11 (Meta.mk y12 y13 y14 y15 y16 y17 y18) y19 y20)),[.u]):=Xb (0) rfl rfl (λcx h=>by
 have hku:Xcq y8=(decide (1<=(y8.size:Int))&&decide ((y8.size:Int)<=500)):=rfl
 by_cases k1:(y8.size:Int)<1
 ·have hk:Xcq y8=false:=by rw[hku]; simp; omega
  simp only[go_sem,reduceIte,↓reduceIte,nA,nB,nE,nL,h,k1,hk,Xu]
 by_cases k2:500<(y8.size:Int)
 ·have hk:Xcq y8=false:=by rw[hku]; simp; omega
  simp only[go_sem,reduceIte,↓reduceIte,nA,nB,nE,nL,h,k1,k2,hk,Xu]
 have hk:Xcq y8=true:=by rw[hku]; simp; omega
 cases hp:Xd9 y9
 rotate_left
 ·have hp':=hp
  unfold Xd9 at hp'
  simp only[Bool.and_eq_true] at hp'
  obtain⟨⟨s1,s2⟩,s3⟩:=hp'
  simp only[go_sem,reduceIte,↓reduceIte,nA,nB,nE,nL,h,k1,k2,hk,Xu,hp,s1,s2,s3]
 rcases XiU hp with rfl | ⟨s1,rfl⟩ | ⟨s1,s2,rfl⟩
 ·cases w1:within y20 0 20
  ·simp only[go_sem,reduceIte,↓reduceIte,nA,nB,nE,nL,h,k1,k2,hk,Xu,hp,w1]
  by_cases z:Xn y10=0
  rotate_left
  ·have z':(Xn y10 !=0)=true:=by simpa using z
   simp only[go_sem,reduceIte,↓reduceIte,nA,nB,nE,nL,h,k1,k2,hk,Xu,hp,w1,z']
  have z':(Xn y10 !=0)=false:=by simpa using z
  by_cases b1:2000<(y11.length:Int)
  ·simp only[go_sem,reduceIte,↓reduceIte,nA,nB,nE,nL,h,k1,k2,hk,Xu,hp,w1,z,b1]
  by_cases b2:10<(y19.length:Int)
  ·simp only[go_sem,reduceIte,↓reduceIte,nA,nB,nE,nL,h,k1,k2,hk,Xu,hp,w1,z,b1,b2]
  simp only[go_sem,reduceIte,↓reduceIte,nA,nB,nE,nL,h,k1,k2,hk,Xu,hp,w1,z,b1,b2]
 ·cases w1:within y20 0 20
  ·simp only[go_sem,reduceIte,↓reduceIte,nA,nB,nE,nL,iN,h,k1,k2,hk,Xu,hp,w1]
  by_cases z:Xn y10=0
  rotate_left
  ·have z':(Xn y10 !=0)=true:=by simpa using z
   simp only[go_sem,reduceIte,↓reduceIte,nA,nB,nE,nL,iN,h,k1,k2,hk,Xu,hp,w1,z']
  have z':(Xn y10 !=0)=false:=by simpa using z
  by_cases b1:2000<(y11.length:Int)
  ·simp only[go_sem,reduceIte,↓reduceIte,nA,nB,nE,nL,iN,h,k1,k2,hk,Xu,hp,w1,z,b1]
  by_cases b2:10<(y19.length:Int)
  ·simp only[go_sem,reduceIte,↓reduceIte,nA,nB,nE,nL,iN,h,k1,k2,hk,Xu,hp,w1,z,b1,b2]
  simp only[go_sem,reduceIte,↓reduceIte,nA,nB,nE,nL,iN,h,k1,k2,hk,Xu,hp,w1,z,b1,b2]
 ·cases w1:within y20 0 20
  ·simp only[go_sem,reduceIte,↓reduceIte,nA,nB,nE,nL,iN,h,k1,k2,hk,Xu,hp,w1]
  by_cases z:Xn y10=0
  rotate_left
  ·have z':(Xn y10 !=0)=true:=by simpa using z
   simp only[go_sem,reduceIte,↓reduceIte,nA,nB,nE,nL,iN,h,k1,k2,hk,Xu,hp,w1,z']
  have z':(Xn y10 !=0)=false:=by simpa using z
  by_cases b1:2000<(y11.length:Int)
  ·simp only[go_sem,reduceIte,↓reduceIte,nA,nB,nE,nL,iN,h,k1,k2,hk,Xu,hp,w1,z,b1]
  by_cases b2:10<(y19.length:Int)
  ·simp only[go_sem,reduceIte,↓reduceIte,nA,nB,nE,nL,iN,h,k1,k2,hk,Xu,hp,w1,z,b1,b2]
  simp only[go_sem,reduceIte,↓reduceIte,nA,nB,nE,nL,iN,h,k1,k2,hk,Xu,hp,w1,z,b1,b2]) (rfl)
def XaN(hs:List Xx):ByteArray:=XhE (hs.map λx=>(x.Name,x.Value))
def XkB{hs:List Xx}(h:smL X6 hs):XfO (hs.map λx=>(x.Name,x.Value))=true:=by
 simp only[XfO,Bool.and_eq_true,decide_eq_true_eq,List.all_eq_true,List.length_map,List.mem_map]
 refine⟨h.1,?_⟩
 rintro p ⟨x,hx,rfl⟩
 exact h.2 x hx
def XcY(hs:List Xx):Int:=(XaN hs).size
def Xjt(hs:List (ByteArray×ByteArray)):(XhE hs).size=(packL hs).length:=by
 show(packL hs).toArray.size=_
 simp
def XcZ{hs:List Xx}(h:smL X6 hs):0<=XcY hs/\XcY hs<=2199028498432:=by
 have h1:=packL_len (hs.map λx=>(x.Name,x.Value)) (by rintro p hp; obtain⟨x,hx,rfl⟩:=List.mem_map.1 hp; exact h.2 x hx)
 have h2:=h.1
 rw[List.length_map] at h1
 unfold XcY XaN
 rw[Xjt]
 omega
def Xae(s:ByteArray)(x:Xx):ByteArray:=s++x.Name++⟨#[58,32]⟩++x.Value++⟨#[13,10]⟩
def Xmw(a b:ByteArray):(a++b).data.toList=a.data.toList++b.data.toList:=by simp[ByteArray.data_append]
def XiV:∀(hs:List Xx) (s:ByteArray),(hs.foldl (λs x=>Xae s x) s).data.toList=s.data.toList++packL (hs.map λx=>(x.Name,x.Value))
 | [],s=>by simp[packL]
 | x :: hs,s=>by
  rw[List.foldl_cons,XiV hs]
  simp only[Xae,packL,List.map_cons,List.flatMap_cons,lineB,Xmw,List.append_assoc]
def ba_ext{a b:ByteArray}(h:a.data.toList=b.data.toList):a=b:=by
 cases a; cases b
 congr 1
 exact Array.ext' h
def XkC(hs:List Xx):hs.foldl (λs x=>Xae s x) ⟨#[]⟩=XaN hs:=by
 apply ba_ext
 rw[XiV]
 simp[XaN,XhE]
def XfW(s:ByteArray)(x:Xx):(Xae s x).size=s.size+x.Name.size+2+x.Value.size+2:=by
 simp only[Xae,ByteArray.size_append]
 rfl
def Xr5:SP Tryz.prog:=mkS tyA 235 Tryz.f235 [] {md:=[.ro 1],rg:=[(0,[0],[]),(1,[0,3],[]),(2,[0,3,4],[]),(3,[0,3,4,8],[]),(4,[0,3,4],[]),(5,[0,3,4],[]),(6,[2],[])],lv:=[(0,[0,3,4],[])],out:=[(0,[3],[])],rets:=some ([2],[]),plan:=[(5,(.take 0 (.take 1 (.take 2 (.take 3 (.take 4 (.take 5 (.take 6 (.take 7 (.take 8 (.take 9 (.take 10 (.take 11 (.take 12 (.take 13 (.take 14 (.one 15 .done)))))))))))))))))]} Tryz.func235 (by kernel_rfl)
@[go_sem] def XJv:Xr5.g=235/\Xr5.fs=⟨[.ro 1],Xr5.F,false⟩:=⟨nr rfl,nr rfl⟩
@[go_sem] def XJw(hs:List Xx)(h0:smL X6 hs):Xr5.F [.sl .ro 2 (hs.map (Xj .ro))]=some (.s (XaN hs),[.u]):=Xb (hs.length+1) rfl rfl (λcx h=>by
 have hx:=h0.1
 have hb0:=Xg Tryz.f235 0 _ _ rfl rfl
 obtain⟨hI,hr⟩:=X0 (cx:=cx) (blk:=0) (body:=XN Tryz.f235 0) hs (λk (s:ByteArray)=>⟨E [(0,.sl .ro 2 (hs.map (Xj .ro))),(3,.s s),(4,.i .i64 k)],B []⟩) (λs=>⟨E [(3,.s s)],B []⟩) (λx s=>Xae s x) (λk s=>s.size<=k*2097156)
   (λs hI G=>by simp only[go_sem,reduceIte,↓reduceIte,nB,nE,h,Int.lt_irrefl,hb0]) (λk hk s hI=>by
    have h1:((k:Int)<(hs.length:Int)):=Int.ofNat_lt.2 hk
    obtain⟨u1,u2⟩:=h0.2 _ (List.getElem_mem hk)
    have u1':hs[k].Name.size<=1048576:=u1
    have u2':hs[k].Value.size<=1048576:=u2
    have hz:=XfW s hs[k]
    have hJ:(Xae s hs[k]).size<=(k+1)*2097156:=by rw[hz,Nat.succ_mul]; omega
    have e0:(⟨#[58,32]⟩:ByteArray).size=2:=rfl
    have e0':(⟨#[13,10]⟩:ByteArray).size=2:=rfl
    have hl:k*2097156<=1048576*2097156:=Nat.mul_le_mul_right _ (by omega)
    have e1:s.size+hs[k].Name.size<=9223372036854775807:=by omega
    have e2:s.size+hs[k].Name.size+2<=9223372036854775807:=by omega
    have e3:s.size+hs[k].Name.size+2+hs[k].Value.size<=9223372036854775807:=by omega
    have e4:s.size+hs[k].Name.size+2+hs[k].Value.size+2<=9223372036854775807:=by omega
    exact⟨hJ,_,λG=>by simp only[go_sem,reduceIte,↓reduceIte,nA,nB,nE,nL,h,e0,e0',e1,e2,e3,e4,Xi (Xj .ro) hs k hk,ByteArray.size_append,h1,Xh _ _ hk,Xd (show k<9223372036854775807 by omega),hb0]<;>with_reducible rfl,by simp only[go_sem,reduceIte,↓reduceIte,nB,h,Xae]⟩) ⟨#[]⟩ (Nat.zero_le _) (hs.length+1) (Nat.le_refl _)
 rw[hb0] at hr
 rw[XkC] at hr
 simp only[go_sem,reduceIte,↓reduceIte,nB,nE,h,hr]) (rfl)
def Up(e:XK):Int:=50+((e.Key.size:Int)+((XaN e.Headers).size:Int)+(e.Body.length:Int))
def Xmx{e:XK}(h1:e.Key.size<=1048576)(h2:smL X6 e.Headers)(h3:e.Body.length<=1048576):50<=Up e/\Up e<=2199030595634:=by
 have:=XcZ h2
 unfold XcY at this
 unfold Up
 omega
def XfX{e:XK}(h:Zo e):50<=Up e/\Up e<=2199030595634:=Xmx h.1 h.2.2.1 h.2.2.2.1.1
def Z3(es:List XK):Int:=es.foldl (λs e=>s+Up e) 0
def XbP:∀(es:List XK) (s:Int),es.foldl (λs e=>s+Up e) s=s+Z3 es
 | [],s=>by simp[Z3]
 | e :: es,s=>by
  unfold Z3
  rw[List.foldl_cons,List.foldl_cons,XbP es,XbP es (0+Up e)]
  omega
def XkD(a b:List XK):Z3 (a++b)=Z3 a+Z3 b:=by
 unfold Z3
 rw[List.foldl_append,XbP b]
 rfl
def XfY:∀{es:List XK},(∀e∈es,Zo e)->0<=Z3 es/\Z3 es<=es.length*2199030595634
 | [],_=>by simp[Z3]
 | e :: es,h=>by
  have h1:=XfX (h e (List.mem_cons_self ..))
  have h2:=XfY (es:=es) (λx hx=>h x (List.mem_cons_of_mem _ hx))
  have h3:Z3 (e :: es)=Up e+Z3 es:=by
   show(e :: es).foldl _ 0=_
   rw[List.foldl_cons,XbP]; omega
  rw[h3,List.length_cons]
  have h4:((es.length+1:Nat):Int)*2199030595634=(es.length:Int)*2199030595634+2199030595634:=by rw[Int.natCast_add,Int.add_mul]; rfl
  rw[h4]
  omega
def Xr6:SP Tryz.prog:=mkS tyA 184 Tryz.f184 [Xr5] {md:=[.ro 1],rets:=some ([2],[]),plan:=[(1,(.take 0 (.take 1 (.take 2 (.take 3 (.take 4 (.take 5 (.take 6 (.take 7 (.take 8 (.take 12 (.take 13 (.take 14 (.take 15 (.take 16 (.one 9 (.take 10 (.take 11 (.take 17 (.take 18 (.one 19 .done)))))))))))))))))))))]} Tryz.func184 (by kernel_rfl)
@[go_sem] def XJx:Xr6.g=184/\Xr6.fs=⟨[.ro 1],Xr6.F,false⟩:=⟨nr rfl,nr rfl⟩
@[go_sem] def XJy(y8:ByteArray)(y9:Int)(y10:List Xx)(y11:List UInt8)(y12 y13 y14 y15 y16:Int)(y17 y18:Bool)(y19:List ByteArray)(y20:Int)(h0:(smL X6 (XK.mk y8 y9 y10 y11 (Meta.mk y12 y13 y14 y15 y16 y17 y18) y19 y20).Headers/\(XK.mk y8 y9 y10 y11 (Meta.mk y12 y13 y14 y15 y16 y17 y18) y19 y20).Key.size<=1048576/\(XK.mk y8 y9 y10 y11 (Meta.mk y12 y13 y14 y15 y16 y17 y18) y19 y20).Body.length<=1048576)):Xr6.F [.pr [.s y8,.i .i64 y9,.sl .ro 2 (y10.map (Xj .ro)),.sl .ro 1 (y11.map Yq),.i .i64 y12,.i .i64 y13,.i .i64 y14,.i .i64 y15,.i .i64 y16,.b y17,.b y18,.sl .ro 1 (y19.map Ye),.i .i64 y20]]=some (.i .i64 (Up (XK.mk y8 y9 y10 y11 (Meta.mk y12 y13 y14 y15 y16 y17 y18) y19 y20)),[.u]):=Xb (0) rfl rfl (λcx h=>by
 obtain⟨g1,g2,g3⟩:=h0
 simp only at g1 g2 g3
 have hp:=XcZ g1
 unfold XcY at hp
 have w1:(IntKind.i64).wrap ((y8.size:Int)+((XaN y10).size:Int))=(y8.size:Int)+((XaN y10).size:Int):=Xo (by omega) (by omega)
 have w2:(IntKind.i64).wrap ((y8.size:Int)+((XaN y10).size:Int)+(y11.length:Int))=(y8.size:Int)+((XaN y10).size:Int)+(y11.length:Int):=Xo (by omega) (by omega)
 have w3:(IntKind.i64).wrap (50+((y8.size:Int)+((XaN y10).size:Int)+(y11.length:Int)))=50+((y8.size:Int)+((XaN y10).size:Int)+(y11.length:Int)):=Xo (by omega) (by omega)
 simp only[go_sem,reduceIte,↓reduceIte,nA,nB,nL,h,g1,w1,w2,w3,Up]) (rfl)
def XqS:SP Tryz.prog:=mkS tyA 113 Tryz.f113 [Xr6] {md:=[.ro 1],rg:=[(0,[0],[]),(1,[0,3],[]),(2,[0,3,4],[]),(3,[0,3,4,8],[]),(4,[0,3,4],[]),(5,[0,3,4],[]),(6,[2],[])],lv:=[(0,[0,3,4],[])],out:=[(0,[3],[])],rets:=some ([2],[])} Tryz.func113 (by kernel_rfl)
@[go_sem] def XJz:XqS.g=113/\XqS.fs=⟨[.ro 1],XqS.F,false⟩:=⟨nr rfl,nr rfl⟩
@[go_sem] def XwN(xs:List XK)(h0:(xs.length<=2097152/\XhA Zo xs)):XqS.F [.sl .ro 13 (xs.map (Xa .ro))]=some (.i .i64 (Z3 xs),[.u]):=Xb (xs.length+1) rfl rfl (λcx h=>by
 have hx:xs.length<=9223372036854775806:=by have:=h0.1; omega
 have hb0:=Xg Tryz.f113 0 _ _ rfl rfl
 obtain⟨hI,hr⟩:=X0 (cx:=cx) (blk:=0) (body:=XN Tryz.f113 0) xs (λk (s:Int)=>⟨E [(0,.sl .ro 13 (xs.map (Xa .ro))),(3,.i .i64 s),(4,.i .i64 k)],B []⟩) (λs=>⟨E [(3,.i .i64 s)],B []⟩) (λx s=>s+Up x) (λk s=>0<=s/\s<=(k:Int)*2199030595634)
   (λs hI G=>by simp only[go_sem,reduceIte,↓reduceIte,nB,nE,h,Int.lt_irrefl,hb0]) (λk hk s hI=>by
    have h1:((k:Int)<(xs.length:Int)):=Int.ofNat_lt.2 hk
    obtain⟨i1,i2⟩:=hI
    have hm:=h0.2 _ (List.getElem_mem hk)
    have hc:=XfX hm
    have hJ:0<=s+Up xs[k]/\s+Up xs[k]<=((k+1:Nat):Int)*2199030595634:=by
     rw[Int.natCast_add,Int.add_mul]; constructor<;>omega
    have hb1:(k:Int)*2199030595634<=2097152*2199030595634:=Int.mul_le_mul_of_nonneg_right (by omega) (by decide)
    have hw:(IntKind.i64).wrap (s+Up xs[k])=s+Up xs[k]:=Xo (by omega) (by omega)
    have hm1:=hm.2.2.1
    have hm2:xs[k].Key.size<=1048576:=hm.1
    have hm3:=hm.2.2.2.1.1
    exact⟨hJ,_,λG=>by simp only[go_sem,reduceIte,↓reduceIte,nB,nE,h,hw,hm1,hm2,hm3,Xi (Xa .ro) xs k hk,h1,Xh _ _ hk,Xd (show k<9223372036854775807 by omega),hb0]<;>with_reducible rfl,by simp only[go_sem,reduceIte,↓reduceIte,nB,h]⟩) 0 (by simp) (xs.length+1) (Nat.le_refl _)
 rw[hb0] at hr
 have hcs:Z3 xs=xs.foldl (λs x=>s+Up x) 0:=rfl
 rw[<-hcs] at hr
 simp only[go_sem,reduceIte,↓reduceIte,nB,nE,h,hr]) (rfl)
@[go_sem] def Xwn:XqS.F [.sl .ro 13 []]=some (.i .i64 0,[.u]):=XwN [] ⟨Nat.zero_le _,λx hx=>by cases hx⟩
def Xum(fs:List Xl):Bool:=(fs.zip fs.tail).any λp=>decide (p.2.Id<=p.1.Id)
def leO(x:Xl):Option Int->Bool
 | none=>false
 | some y=>decide (x.Id<=y)
def Xmy:Option Int->List Xl->Bool
 | _,[]=>false
 | s,x :: r=>if leO x s=true then true else Xmy (some x.Id) r
def XgK:∀(y:Xl) (xs:List Xl),Xmy (some y.Id) xs=((y :: xs).zip xs).any λp=>decide (p.2.Id<=p.1.Id)
 | _,[]=>rfl
 | y,x :: r=>by
  rw[Xmy,List.zip_cons_cons,List.any_cons,XgK x r]
  show(if decide (x.Id<=y.Id)=true then true else _)=_
  cases decide (x.Id<=y.Id)<;>rfl
def XgL(fs:List Xl):Xmy none fs=Xum fs:=by
 cases fs with
 | nil=>rfl
 | cons x r=>exact XgK x r
def XiW:∀{xs:List Xl} {s s':Option Int},Xac (λx s=>leO x s) (λx _=>some x.Id) xs s=.inl s'->Xmy s xs=false
 | [],_,_,_=>rfl
 | x :: xs,s,s',h=>by
  rw[Yp] at h
  split at h
  ·cases h
  ·rename_i hc; rw[Xmy,if_neg hc]; exact XiW h
def XiX:∀{xs:List Xl} {s:Option Int} {q:Xl×Option Int},Xac (λx s=>leO x s) (λx _=>some x.Id) xs s=.inr q->Xmy s xs=true
 | [],_,_,h=>by cases h
 | x :: xs,s,q,h=>by
  rw[Yp] at h
  split at h
  ·rename_i hc; rw[Xmy,if_pos hc]
  ·rename_i hc; rw[Xmy,if_neg hc]; exact XiX h
def dup{α:Type}(q:α->α->Bool)(s:List α):List α->Bool
 | []=>false
 | x :: r=>if(s.any λy=>q y x)=true then true else dup q (s++[x]) r
def XaO{α:Type}{p:α->α->Bool}:∀{xs s s':List α},Xac (λx s=>s.any λy=>p y x) (λx s=>s++[x]) xs s=.inl s'->dup p s xs=false
 | [],_,_,_=>rfl
 | x :: xs,s,s',h=>by
  rw[Yp] at h
  split at h
  ·cases h
  ·rename_i hc; rw[dup,if_neg hc]; exact XaO h
def XaP{α:Type}{p:α->α->Bool}:∀{xs s:List α} {q:α×List α},Xac (λx s=>s.any λy=>p y x) (λx s=>s++[x]) xs s=.inr q->dup p s xs=true
 | [],_,_,h=>by cases h
 | x :: xs,s,q,h=>by
  rw[Yp] at h
  split at h
  ·rename_i hc; rw[dup,if_pos hc]
  ·rename_i hc; rw[dup,if_neg hc]; exact XaP h
def Xcb(y x:Xl):Bool:=eqv y.Key x.Key
def Xb2(fs:List Xl):List X2:=fs.flatMap (·.Waiters)
def XV(fs:List Xl):Int :=
 if 24<(fs.length:Int) then 2 else if(Zr (fs.map XD) !=0)=true then Zr (fs.map XD) else if Xum fs=true then 1
 else if dup Xcb [] fs=true then 6 else if tw [] (Xb2 fs)=true then 6 else 0
def Xea{α:Type}{f:α->Int}{σ:Type}{g:α->σ->σ}:∀{xs:List α} {u u':σ},Xac (λx _=>f x !=0) g xs u=.inl u'->∀x∈xs,f x=0
 | [],_,_,_,x,hx=>by cases hx
 | y :: xs,u,u',h,x,hx=>by
  rw[Yp] at h
  split at h
  ·cases h
  ·rename_i hc
   rcases List.mem_cons.1 hx with rfl | hx
   ·simpa using hc
   ·exact Xea h x hx
def XaQ{α σ:Type}{c:α->σ->Bool}{g:α->σ->σ}:∀{xs:List α} {s:σ} {q:α×σ},Xac c g xs s=.inr q->c q.1 q.2=true
 | [],s,q,h=>by cases h
 | x :: xs,s,q,h=>by
  rw[Yp] at h
  split at h
  ·rename_i hc; injection h with h; subst h; exact hc
  ·exact XaQ h
def XdS:∀{fs:List Xl},(∀x∈fs,x.Waiters.length<=10)->(Xb2 fs).length<=10*fs.length
 | [],_=>Nat.zero_le _
 | x :: fs,h=>by
  have h1:=h x (List.mem_cons_self ..)
  have h2:=XdS (fs:=fs) (λy hy=>h y (List.mem_cons_of_mem _ hy))
  unfold Xb2 at h2 ⊢
  rw[List.flatMap_cons,List.length_append,List.length_cons]
  omega
def Xeb(fs:List Xl)(k:Nat)(h:k<fs.length):Xb2 (fs.take (k+1))=Xb2 (fs.take k)++fs[k].Waiters:=by
 unfold Xb2
 rw[ZN fs k h,List.flatMap_append]
 simp
def Xfl(ws:List X2):(ws.map (Xk .ro)).all (·.all plain)=true:=by
 simp[Xk,plain]
def Yr(b g:Int):Int:=if(within b 0 1000000&&within g 0 b)=true then 0 else 3
def XgM{a b c:Int}(h:within a b c=true):¬(a<b):=by
 have:=XdP.1 h
 omega
def Xec(y x:XK):Bool:=eqv y.Key x.Key
def XW(s:Store):Int :=
 if(within s.Budget 0 1000000&&within s.Guard 0 s.Budget)=false then 3 else if 40<((s.Trial++s.Kept).length:Int) then 2
 else if(Zr ((s.Trial++s.Kept).map Xu) !=0)=true then Zr ((s.Trial++s.Kept).map Xu)
 else if dup Xec [] (s.Trial++s.Kept)=true then 6
 else if s.Budget<Z3 s.Trial+Z3 s.Kept then 7 else if s.Guard<Z3 s.Kept then 7 else 0
def XkE(es:List XK)(x:XK):(es.any λy=>eqv x.Key y.Key)=es.any λy=>Xec y x:=by
 congr 1; funext y
 unfold Xec
 rw[Bool.eq_iff_iff,Yx,Yx]
 exact eq_comm
def Xb5(b g:Int):XW ⟨b,g,[],[]⟩=Yr b g:=by
 unfold XW Yr
 by_cases h:(within b 0 1000000&&within g 0 b)=true
 ·rw[if_neg (by rw[h]; decide),if_pos h]
  have h1:within b 0 1000000=true/\within g 0 b=true:=by simpa using h
  have h2:=XgM h1.1
  have h3:=XgM h1.2
  have e0:Z3 []=0:=rfl
  simp only[List.append_nil,List.length_nil,List.map_nil,e0]
  rw[if_neg (by decide),if_neg (by decide),if_neg (by decide),if_neg (by simpa using h2),if_neg h3]
 ·rw[if_pos (by simpa using h),if_neg h]
def XkF{α:Type}{p:α->Prop}{a b:List α}(h1:smL p a)(h2:smL p b):XhA p (a++b):=λx hx=>by
 rcases List.mem_append.1 hx with h | h
 ·exact h1.2 x h
 ·exact h2.2 x h
def s50:SP Tryz.prog:=mkS tyA 50 Tryz.f50 [s86,Xod,Xr4,XqS] {md:=[.ro 1],rg:=[(0,[1],[1]),(1,[1,19],[1]),(2,[2],[]),(3,[1,27],[1]),(4,[2],[]),(5,[1,3],[1]),(6,[1,3,4],[1]),(7,[1,3,4,32],[1]),(8,[1,3,4],[1]),(9,[1,3,4,5],[1]),(10,[1,3,4,5,41],[1]),(11,[2],[]),(12,[1,3,6],[1]),(13,[1,3,6,46],[1]),(14,[1,3,6],[1]),(15,[1,3,6,7],[1]),(16,[1,3,6,7,51],[1]),(17,[1,3,6,7],[1]),(18,[1,3,6,7,64],[1]),(19,[2],[]),(20,[77],[]),(21,[2],[]),(22,[2],[])],lv:=[(0,[1,3,4],[1]),(2,[1,3,6],[1]),(4,[1,3,6,7],[1])],out:=[(0,[1,3],[1]),(2,[1,3],[1]),(4,[1,3,6],[1])],rets:=some ([2],[]),plan:=[(18,(.take 0 (.take 1 (.take 2 (.take 3 (.take 4 (.take 5 (.take 6 (.take 7 (.take 8 (.take 9 (.take 10 .done)))))))))))),(20,(.take 0 (.take 2 (.take 3 (.one 1 (.take 4 (.take 5 (.take 6 (.take 7 (.take 9 (.take 10 (.one 8 (.take 11 (.take 12 .done))))))))))))))],fz:=[1]} Tryz.func50 (by kernel_rfl)
@[go_sem] def d50:s50.g=50/\s50.fs=⟨[.ro 1],s50.F,false⟩:=⟨nr rfl,nr rfl⟩
@[go_sem] def e50(y21 y22:Int)(y23 vKept:List XK)(h0:Xck (Store.mk y21 y22 y23 vKept)):s50.F [.agg [.i .i64 y21,.i .i64 y22,.sl .ro 13 (y23.map (Xa .ro)),.sl .ro 13 (vKept.map (Xa .ro))]]=some (.i .i64 (XW (Store.mk y21 y22 y23 vKept)),[.u]):=Xb (41) rfl rfl (λcx h=>by
 obtain⟨q0,q1,q2,q3⟩:=h0
 simp only at q2 q3
 have hle:y23.length<=1048576/\vKept.length<=1048576:=⟨q2.1,q3.1⟩
 obtain⟨all,hall⟩:∃all,y23++vKept=all:=⟨_,rfl⟩
 have hln:(all.length:Int)=(y23.length:Int)+(vKept.length:Int):=by rw[<-hall,List.length_append]; rfl
 have hw:(IntKind.i64).wrap ((y23.length:Int)+(vKept.length:Int))=(all.length:Int):=by rw[hln]; exact Xo (by omega) (by omega)
 have hsm:∀x∈all,Zo x:=by rw[<-hall]; exact XkF q2 q3
 have hlk:vKept.length<=2097152:=by omega
 have hek:XhA Zo vKept:=q3.2
 have hla:all.length<=2097152:=by omega
 have hea:XhA Zo all:=hsm
 have hcs:Z3 all=Z3 y23+Z3 vKept:=by rw[<-hall]; exact XkD _ _
 cases b1:within y21 0 1000000
 ·simp only[go_sem,reduceIte,↓reduceIte,nA,nB,nE,nL,h,b1,XW]
 cases b2:within y22 0 y21
 ·simp only[go_sem,reduceIte,↓reduceIte,nA,nB,nE,nL,h,b1,b2,XW]
 by_cases b3:40<(all.length:Int)
 ·simp only[go_sem,reduceIte,↓reduceIte,nA,nB,nE,nL,h,hall,b1,b2,b3,hw,List.length_map,XW]
 have hx:all.length<=9223372036854775806:=by omega
 have hb0:=Xg Tryz.f50 0 _ _ rfl rfl
 obtain⟨z0,hz0,hqz0⟩:=Xq (cx:=cx) (blk:=0) (body:=XN Tryz.f50 0) all (λk (s:Unit)=>⟨E [(1,.pr [.i .i64 y21,.i .i64 y22,.sl .ro 13 (y23.map (Xa .ro)),.sl .ro 13 (vKept.map (Xa .ro))]),(3,.sl .mut 13 (all.map (Xa .ro))),(4,.i .i64 k)],B [(1,[])]⟩) (λs=>⟨E [(1,.pr [.i .i64 y21,.i .i64 y22,.sl .ro 13 (y23.map (Xa .ro)),.sl .ro 13 (vKept.map (Xa .ro))]),(3,.sl .mut 13 (all.map (Xa .ro)))],B [(1,[])]⟩) (λx s=>Xu x !=0) (λx s=>()) (λx s=>(.ret,⟨E [(2,.i .i64 (Xu x))],B []⟩)) (λk s=>True)
   (λs hI G=>by simp only[go_sem,reduceIte,↓reduceIte,nB,nE,h,Int.lt_irrefl,hb0,List.length_map,show List.take all.length (List.map (Xa .ro) all)=List.map (Xa .ro) all from List.take_of_length_le (by simp)]) (λk hk s hI=>by
    have h1:((k:Int)<(all.length:Int)):=Int.ofNat_lt.2 hk
    have tk:List.take all.length (List.map (Xa .ro) all)=List.map (Xa .ro) all:=List.take_of_length_le (by simp)
    have hH:smL X6 all[k].Headers:=(hsm _ (List.getElem_mem hk)).2.2.1
    exact⟨_,_,_,λG=>by simp only[go_sem,reduceIte,↓reduceIte,nA,nB,nE,h,XdC (Xa .ro) all k hk,tk,List.length_map,hH,h1,Xh _ _ hk,Xd (show k<9223372036854775807 by omega),hb0]<;>with_reducible rfl,Iff.rfl,λhc=>⟨trivial,by simp only[go_sem,reduceIte,↓reduceIte,nB,h]⟩⟩) () trivial 41 (by omega)
 rw[hb0] at hz0
 rcases hqz0 with⟨s0,e1,_,e3⟩ | ⟨x,s0,e1,e3⟩
 rotate_left
 ·have e2:=Z9 e1
  have e4:(Xu x !=0)=true:=XaQ e1
  simp only[go_sem,reduceIte,↓reduceIte,nA,nB,nE,nL,h,hle,hall,b1,b2,b3,hw,List.length_map,hz0,e3,e2,e4,XW]
 have e2:=Z8 e1
 have hb1:=Xg Tryz.f50 1 _ _ rfl rfl
 obtain⟨z2,hz2,hqz2⟩:=Xq (cx:=cx) (blk:=2) (body:=XN Tryz.f50 1) all (λk (s:List XK)=>⟨E [(1,.pr [.i .i64 y21,.i .i64 y22,.sl .ro 13 (y23.map (Xa .ro)),.sl .ro 13 (vKept.map (Xa .ro))]),(3,.sl .mut 13 (all.map (Xa .ro))),(6,.i .i64 k)],B [(1,[])]⟩) (λs=>⟨E [(1,.pr [.i .i64 y21,.i .i64 y22,.sl .ro 13 (y23.map (Xa .ro)),.sl .ro 13 (vKept.map (Xa .ro))]),(3,.sl .mut 13 (all.map (Xa .ro)))],B [(1,[])]⟩) (λx s=>s.any λy=>Xec y x) (λx s=>s++[x]) (λx s=>(.ret,⟨E [(2,.i .i64 6)],B []⟩)) (λk s=>s=all.take k)
   (λs hI G=>by simp only[go_sem,reduceIte,↓reduceIte,nB,nE,h,Int.lt_irrefl,hb1,List.length_map,show List.take all.length (List.map (Xa .ro) all)=List.map (Xa .ro) all from List.take_of_length_le (by simp)]) (λk hk s hI=>by
    have h1:((k:Int)<(all.length:Int)):=Int.ofNat_lt.2 hk
    have tk:List.take all.length (List.map (Xa .ro) all)=List.map (Xa .ro) all:=List.take_of_length_le (by simp)
    obtain⟨q,hq0⟩:∃q,q=k:=⟨k,rfl⟩
    have hq1:q<all.length:=by omega
    have hlen:(all.take q).length=q:=by rw[List.length_take]; omega
    have hb2:=Xg Tryz.f50 2 _ _ rfl rfl
    obtain⟨r2,hr2,hqr2⟩:=Xq (cx:=cx) (blk:=4) (body:=XN Tryz.f50 2) (all.take q) (λk (s:Unit)=>⟨E [(1,.pr [.i .i64 y21,.i .i64 y22,.sl .ro 13 (y23.map (Xa .ro)),.sl .ro 13 (vKept.map (Xa .ro))]),(3,.sl .mut 13 (all.map (Xa .ro))),(6,.i .i64 q),(7,.i .i64 k)],B [(1,[])]⟩) (λs=>⟨E [(1,.pr [.i .i64 y21,.i .i64 y22,.sl .ro 13 (y23.map (Xa .ro)),.sl .ro 13 (vKept.map (Xa .ro))]),(3,.sl .mut 13 (all.map (Xa .ro))),(6,.i .i64 q)],B [(1,[])]⟩) (λx s=>eqv all[q].Key x.Key) (λx s=>()) (λx s=>(.ret,⟨E [(2,.i .i64 6)],B []⟩)) (λk s=>True)
      (λs hI G=>by simp only[go_sem,reduceIte,↓reduceIte,nB,nE,h,Int.lt_irrefl,hb2,hlen,Int.lt_irrefl]) (λk hk s hI=>by
       have h1:((k:Int)<((all.take q).length:Int)):=Int.ofNat_lt.2 hk
       have hk2:k<q:=by rw[List.length_take] at hk; omega
       have hk3:k<all.length:=by omega
       have hkq:(k:Int)<(q:Int):=by omega
       have e1:(all.take q)[k]=all[k]:=by simp
       have i1:=Xh all.length k hk3
       have i2:=Xh all.length q hq1
       have w1:=Xd (show k<9223372036854775807 by omega)
       all_goals exact⟨_,_,_,λG=>by simp only[go_sem,reduceIte,↓reduceIte,nA,nB,nE,nL,h,hkq,i1,i2,w1,XH,XdC (Xa .ro) all k hk3,XdC (Xa .ro) all q hq1,List.length_map,hb2]<;>with_reducible rfl,by rw[e1],λhc=>⟨trivial,by simp only[go_sem,reduceIte,↓reduceIte,nB,nE,h]⟩⟩) () trivial 41 (by rw[List.length_take]; omega)
    rw[hb2] at hr2
    subst hq0
    have hfl:=XkE (all.take q) all[q]
    have hy:r2=(if(s.any λy=>Xec y all[q])=true then some (.ret,⟨E [(2,.i .i64 6)],B []⟩) else some (.ex 4,⟨E [(1,.pr [.i .i64 y21,.i .i64 y22,.sl .ro 13 (y23.map (Xa .ro)),.sl .ro 13 (vKept.map (Xa .ro))]),(3,.sl .mut 13 (all.map (Xa .ro))),(6,.i .i64 q)],B [(1,[])]⟩)):=by
     subst hI
     rcases hqr2 with⟨s',e1,_,e3⟩ | ⟨x,s',e1,e3⟩
     ·rw[<-hfl,runS_any e1,e3]; rfl
     ·rw[<-hfl,QJ e1,e3]; rfl
    rw[hy] at hr2
    exact⟨_,_,_,λG=>by simp only[go_sem,reduceIte,↓reduceIte,nB,nE,h,hr2,tk,List.length_map,h1,Xd (show q<9223372036854775807 by omega),hb1]<;>with_reducible rfl,Iff.rfl,λhc=>⟨(by rw[hI]; exact(ZN all q hk).symm),by simp only[go_sem,reduceIte,↓reduceIte,nB,h]⟩⟩) [] rfl 41 (by omega)
 rw[hb1] at hz2
 rcases hqz2 with⟨s1,k1,_,k3⟩ | ⟨x,s1,k1,k3⟩
 rotate_left
 ·have k2:=XaP k1
  simp only[go_sem,reduceIte,↓reduceIte,nA,nB,nE,nL,h,hle,hall,b1,b2,b3,hw,List.length_map,hz0,e3,e2,hz2,k3,k2,XW]
 have k2:=XaO k1
 have tk:List.take all.length (List.map (Xa .ro) all)=List.map (Xa .ro) all:=List.take_of_length_le (by simp)
 by_cases d1:y21<Z3 y23+Z3 vKept
 ·simp only[go_sem,reduceIte,↓reduceIte,nA,nB,nE,nL,h,hle,hall,b1,b2,b3,hw,List.length_map,hz0,e3,e2,hz2,k3,k2,hla,hea,hcs,tk,d1,XW]
 by_cases d2:y22<Z3 vKept<;>simp only[go_sem,reduceIte,↓reduceIte,nA,nB,nE,nL,h,hle,hall,b1,b2,b3,hw,List.length_map,hz0,e3,e2,hz2,k3,k2,hla,hea,hcs,tk,d1,d2,hlk,hek,XW]) (rfl)
@[go_sem] def XwO(b g:Int):s50.F [.agg [.i .i64 b,.i .i64 g,.sl .ro 13 [],.sl .ro 13 []]]=some (.i .i64 (Yr b g),[.u]):=(e50 b g [] [] ⟨trivial,trivial,⟨Nat.zero_le _,λx hx=>by cases hx⟩,⟨Nat.zero_le _,λx hx=>by cases hx⟩⟩).trans (by rw[Xb5])
def s85:SP Tryz.prog:=mkS tyA 85 Tryz.f85 [s50] {md:=[.ro 1,.ro 1],rg:=[(0,[0,1,4,16],[4,5]),(1,[4,5,16],[4,5]),(2,[4,5,6,16],[4,5]),(3,[4,5,6,13,16],[4,5]),(4,[4,16],[4,5]),(5,[4,16],[4,5])],rets:=some ([4,16],[4,5])} Tryz.func85 (by kernel_rfl)
@[go_sem] def d85:s85.g=85/\s85.fs=⟨[.ro 1,.ro 1],s85.F,false⟩:=⟨nr rfl,nr rfl⟩
@[go_sem] def e85(b g:Int):s85.F [.i .i64 b,.i .i64 g]=some (.agg [.i .i64 (Yr b g),.i .i64 (if Yr b g=0 then b else 0),.i .i64 (if Yr b g=0 then g else 0),.sl .mut 13 [],.sl .mut 13 []],[.u,.u]):=Xb (0) rfl rfl (λcx h=>by
 by_cases h1:Yr b g=0
 ·simp only[go_sem,reduceIte,↓reduceIte,nA,nB,nE,nL,nT,h,h1]
 ·have h2:(Yr b g !=0)=true:=by simpa using h1
  simp only[go_sem,reduceIte,↓reduceIte,nA,nB,nE,h,h1,h2]) (by simp only[go_sem,YE,XI,XM,Yt])
def s87:SP Tryz.prog:=mkS tyA 87 Tryz.f87 [XqQ] {md:=[.ro 1],rg:=[(0,[0],[]),(1,[0,6],[]),(2,[2],[]),(3,[0,3],[]),(4,[0,3,10],[]),(5,[0,3],[]),(6,[0,3,18],[]),(7,[2],[]),(8,[2],[])],lv:=[(0,[0,3],[])],out:=[(0,[],[])],rets:=some ([2],[])} Tryz.func87 (by kernel_rfl)
@[go_sem] def d87:s87.g=87/\s87.fs=⟨[.ro 1],s87.F,false⟩:=⟨nr rfl,nr rfl⟩
@[go_sem] def e87(xs:List ByteArray):s87.F [.sl .ro 1 (xs.map Ye)]=some (.i .i64 (YZ xs),[.u]):=Xb (xs.length+1) rfl rfl (λcx h=>by
 by_cases h1:4<(xs.length:Int)
 ·simp only[go_sem,reduceIte,↓reduceIte,nB,nE,h,h1,YZ]
 have hx:xs.length<=9223372036854775806:=by omega
 have hb0:=Xg Tryz.f87 0 _ _ rfl rfl
 obtain⟨r,hr,hq⟩:=Xq (cx:=cx) (blk:=0) (body:=XN Tryz.f87 0) xs (λk (s:Unit)=>⟨E [(0,.sl .ro 1 (xs.map Ye)),(3,.i .i64 k)],B []⟩) (λs=>⟨E [],B []⟩) (λx s=>!Xad x) (λx s=>()) (λx s=>(.ret,⟨E [(2,.i .i64 5)],B []⟩)) (λk s=>True)
   (λs hI G=>by simp only[go_sem,reduceIte,↓reduceIte,nB,nE,h,Int.lt_irrefl,hb0]) (λk hk s hI=>by
    have h1:((k:Int)<(xs.length:Int)):=Int.ofNat_lt.2 hk
    exact⟨_,_,_,λG=>by simp only[go_sem,reduceIte,↓reduceIte,nB,nE,h,Xi Ye xs _ hk,h1,Xh _ _ hk,Xd (show k<9223372036854775807 by omega),hb0]<;>with_reducible rfl,Iff.rfl,λhc=>⟨trivial,by simp only[go_sem,reduceIte,↓reduceIte,nB,h]⟩⟩) () trivial (xs.length+1) (Nat.le_refl _)
 rw[hb0] at hr
 rcases hq with⟨s',e1,_,e3⟩ | ⟨x,s',e1,e3⟩
 ·simp only[go_sem,reduceIte,↓reduceIte,nB,nE,h,h1,hr,e3,YZ,XfV,ZV e1]
 ·simp only[go_sem,reduceIte,↓reduceIte,nB,nE,h,h1,hr,e3,YZ,XfV,Zk e1]) (rfl)
def Yn(l:Lanes):Int:=if(within l.Slots 1 8&&within l.Cap 0 8&&within l.Time 0 1000000)=true then 0 else 3
def s88:SP Tryz.prog:=mkS tyA 88 Tryz.f88 [s86] {md:=[.ro 1],rg:=[(0,[1],[1]),(1,[18],[]),(2,[2],[]),(3,[2],[])],rets:=some ([2],[])} Tryz.func88 (by kernel_rfl)
@[go_sem] def d88:s88.g=88/\s88.fs=⟨[.ro 1],s88.F,false⟩:=⟨nr rfl,nr rfl⟩
@[go_sem] def e88(y24 y25 y26:Int):s88.F [.agg [.i .i64 y24,.i .i64 y25,.i .i64 y26]]=some (.i .i64 (Yn (Lanes.mk y24 y25 y26)),[.u]):=Xb (0) rfl rfl (λcx h=>by
 simp only[go_sem,reduceIte,↓reduceIte,nA,nB,nE,nL,h]
 simp only[Yn]
 cases within y24 1 8<;>cases within y25 0 8<;>cases within y26 0 1000000<;>rfl) (rfl)
def Zi(r:Rules):Int:=if(within r.Window 1 1000000&&within r.Min 1 50&&within r.Ratio 1 1000&&within r.Cool 0 1000000&&within r.Quota 1 5)=true then 0 else 3
def s89:SP Tryz.prog:=mkS tyA 89 Tryz.f89 [s86] {md:=[.ro 1],rg:=[(0,[1],[1]),(1,[30],[]),(2,[2],[]),(3,[2],[])],rets:=some ([2],[])} Tryz.func89 (by kernel_rfl)
@[go_sem] def d89:s89.g=89/\s89.fs=⟨[.ro 1],s89.F,false⟩:=⟨nr rfl,nr rfl⟩
@[go_sem] def e89(y27 y28 y29 y30 y31:Int):s89.F [.agg [.i .i64 y27,.i .i64 y28,.i .i64 y29,.i .i64 y30,.i .i64 y31]]=some (.i .i64 (Zi (Rules.mk y27 y28 y29 y30 y31)),[.u]):=Xb (0) rfl rfl (λcx h=>by
 simp only[go_sem,reduceIte,↓reduceIte,nA,nB,nE,nL,h]
 simp only[Zi]
 cases within y27 1 1000000<;>cases within y28 1 50<;>cases within y29 1 1000<;>cases within y30 0 1000000<;>cases within y31 1 5<;>rfl) (rfl)
def ZH(c:Config):Bool:=within c.ObjCost 0 c.Budget&&XC c.Neg&&within c.Early 0 1000000&&within c.FetchTime 1 1000000&&within c.WaitTime 0 1000000&&within c.WaitCap 1 10
def XJ(c:Config):Int:=Zr [Yr c.Budget c.Guard,if ZH c=true then 0 else 3,YZ c.Names,Yn c.Lanes,Zi c.Rules]
end
end Go.Vm.A
