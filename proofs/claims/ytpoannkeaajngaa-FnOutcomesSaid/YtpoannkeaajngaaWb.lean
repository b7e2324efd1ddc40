/- Functions of the program, walked by the evaluator. -/
import Derived.Test.YtpoannkeaajngaaWa
import Derived.Test.YtpoannkeaajngaaProg
import Derived.KernelRfl
set_option linter.unusedVariables false
set_option linter.unusedSimpArgs false
set_option autoImplicit false
set_option maxRecDepth 100000
set_option maxHeartbeats 4000000
set_option linter.defProp false
namespace Go.Vm.A
open Go.Proofs
def T:TypeId->Option TI
  | 1 => some .fn
  | 2 => some (.int .i64)
  | 3 => some (.int .i64)
  | 4 => some .bool
  | 5 => some (.int .u8)
  | 9 => some .str
  | 21 => some (.int .i32)
  | 22 => some (.slice 1 1 [.i .u8 0])
  | 23 => some .fn
  | 24 => some (.slice 2 16 [.i .i64 0,.b false])
  | 25 => some (.struct 4 [(0,1,false,0),(1,1,false,0),(2,1,false,0),(3,1,false,2)] [.i .i64 0,.i .i64 0,.i .i64 0,.sl .mut 2 []])
  | 26 => some (.struct 4 [(0,1,false,0),(1,1,false,0),(2,1,false,0),(3,1,false,2)] [.i .i64 0,.i .i64 0,.i .i64 0,.sl .mut 2 []])
  | 27 => some (.struct 5 [(0,1,false,0),(1,1,false,0),(2,1,false,0),(3,1,false,0),(4,1,false,0)] [.i .i64 0,.i .i64 0,.i .i64 0,.i .i64 0,.i .i64 0])
  | 28 => some (.struct 5 [(0,1,false,0),(1,1,false,0),(2,1,false,0),(3,1,false,0),(4,1,false,0)] [.i .i64 0,.i .i64 0,.i .i64 0,.i .i64 0,.i .i64 0])
  | 30 => some .fn
  | 31 => some (.struct 5 [(0,1,false,0),(1,4,true,0)] [.i .i64 0,.i .i64 0,.i .i64 0,.i .i64 0,.sl .mut 2 []])
  | 32 => some (.struct 5 [(0,1,false,0),(1,4,true,0)] [.i .i64 0,.i .i64 0,.i .i64 0,.i .i64 0,.sl .mut 2 []])
  | 33 => some .fn
  | 34 => some (.struct 2 [(0,1,false,0),(1,1,false,0)] [.i .i64 0,.i .i64 0])
  | 35 => some (.struct 2 [(0,1,false,0),(1,1,false,0)] [.i .i64 0,.i .i64 0])
  | 36 => some .fn
  | 37 => some .fn
  | 38 => some .fn
  | 40 => some .fn
  | 41 => some .fn
  | 42 => some .ptr
  | 43 => some .fn
  | 44 => some .fn
  | 45 => some .fn
  | 46 => some .fn
  | 47 => some .fn
  | 48 => some .ptr
  | 49 => some .ptr
  | 50 => some .fn
  | 51 => some .fn
  | 52 => some .fn
  | 53 => some .fn
  | 54 => some .fn
  | 55 => some .fn
  | 56 => some .fn
  | 57 => some (.struct 2 [(0,1,false,0),(1,1,false,0)] [.i .i64 0,.b false])
  | 58 => some (.struct 2 [(0,1,false,0),(1,1,false,0)] [.i .i64 0,.b false])
  | 59 => some .fn
  | 60 => some .fn
  | 61 => some .fn
  | 62 => some .fn
  | 64 => some .fn
  | 66 => some .fn
  | 67 => some (.struct 2 [(0,1,false,1),(1,1,false,0)] [.sl .mut 1 [],.i .i64 0])
  | 68 => some (.struct 2 [(0,1,false,1),(1,1,false,0)] [.sl .mut 1 [],.i .i64 0])
  | 69 => some .fn
  | 70 => some .fn
  | 71 => some .fn
  | 72 => some .fn
  | 73 => some .fn
  | 74 => some .fn
  | 75 => some .fn
  | 77 => some .fn
  | 78 => some .fn
  | 79 => some (.slice 1 8 [.i .i64 0])
  | 80 => some .fn
  | 87 => some .fn
  | 88 => some (.int .u32)
  | 92 => some .ptr
  | _ => none
@[go_sem] def T1:T 1=some .fn :=nr rfl
@[go_sem] def T2:T 2=some (.int .i64) :=nr rfl
@[go_sem] def T3:T 3=some (.int .i64) :=nr rfl
@[go_sem] def T4:T 4=some .bool :=nr rfl
@[go_sem] def T5:T 5=some (.int .u8) :=nr rfl
@[go_sem] def T9:T 9=some .str :=nr rfl
@[go_sem] def T21:T 21=some (.int .i32) :=nr rfl
@[go_sem] def T22:T 22=some (.slice 1 1 [.i .u8 0]) :=nr rfl
@[go_sem] def T23:T 23=some .fn :=nr rfl
@[go_sem] def T24:T 24=some (.slice 2 16 [.i .i64 0,.b false]) :=nr rfl
@[go_sem] def T25:T 25=some (.struct 4 [(0,1,false,0),(1,1,false,0),(2,1,false,0),(3,1,false,2)] [.i .i64 0,.i .i64 0,.i .i64 0,.sl .mut 2 []]) :=nr rfl
@[go_sem] def T26:T 26=some (.struct 4 [(0,1,false,0),(1,1,false,0),(2,1,false,0),(3,1,false,2)] [.i .i64 0,.i .i64 0,.i .i64 0,.sl .mut 2 []]) :=nr rfl
@[go_sem] def T27:T 27=some (.struct 5 [(0,1,false,0),(1,1,false,0),(2,1,false,0),(3,1,false,0),(4,1,false,0)] [.i .i64 0,.i .i64 0,.i .i64 0,.i .i64 0,.i .i64 0]) :=nr rfl
@[go_sem] def T28:T 28=some (.struct 5 [(0,1,false,0),(1,1,false,0),(2,1,false,0),(3,1,false,0),(4,1,false,0)] [.i .i64 0,.i .i64 0,.i .i64 0,.i .i64 0,.i .i64 0]) :=nr rfl
@[go_sem] def T30:T 30=some .fn :=nr rfl
@[go_sem] def T31:T 31=some (.struct 5 [(0,1,false,0),(1,4,true,0)] [.i .i64 0,.i .i64 0,.i .i64 0,.i .i64 0,.sl .mut 2 []]) :=nr rfl
@[go_sem] def T32:T 32=some (.struct 5 [(0,1,false,0),(1,4,true,0)] [.i .i64 0,.i .i64 0,.i .i64 0,.i .i64 0,.sl .mut 2 []]) :=nr rfl
@[go_sem] def T33:T 33=some .fn :=nr rfl
@[go_sem] def T34:T 34=some (.struct 2 [(0,1,false,0),(1,1,false,0)] [.i .i64 0,.i .i64 0]) :=nr rfl
@[go_sem] def T35:T 35=some (.struct 2 [(0,1,false,0),(1,1,false,0)] [.i .i64 0,.i .i64 0]) :=nr rfl
@[go_sem] def T36:T 36=some .fn :=nr rfl
@[go_sem] def T37:T 37=some .fn :=nr rfl
@[go_sem] def T38:T 38=some .fn :=nr rfl
@[go_sem] def T40:T 40=some .fn :=nr rfl
@[go_sem] def T41:T 41=some .fn :=nr rfl
@[go_sem] def T42:T 42=some .ptr :=nr rfl
@[go_sem] def T43:T 43=some .fn :=nr rfl
@[go_sem] def T44:T 44=some .fn :=nr rfl
@[go_sem] def T45:T 45=some .fn :=nr rfl
@[go_sem] def T46:T 46=some .fn :=nr rfl
@[go_sem] def T47:T 47=some .fn :=nr rfl
@[go_sem] def T48:T 48=some .ptr :=nr rfl
@[go_sem] def T49:T 49=some .ptr :=nr rfl
@[go_sem] def T50:T 50=some .fn :=nr rfl
@[go_sem] def T51:T 51=some .fn :=nr rfl
@[go_sem] def T52:T 52=some .fn :=nr rfl
@[go_sem] def T53:T 53=some .fn :=nr rfl
@[go_sem] def T54:T 54=some .fn :=nr rfl
@[go_sem] def T55:T 55=some .fn :=nr rfl
@[go_sem] def T56:T 56=some .fn :=nr rfl
@[go_sem] def T57:T 57=some (.struct 2 [(0,1,false,0),(1,1,false,0)] [.i .i64 0,.b false]) :=nr rfl
@[go_sem] def T58:T 58=some (.struct 2 [(0,1,false,0),(1,1,false,0)] [.i .i64 0,.b false]) :=nr rfl
@[go_sem] def T59:T 59=some .fn :=nr rfl
@[go_sem] def T60:T 60=some .fn :=nr rfl
@[go_sem] def T61:T 61=some .fn :=nr rfl
@[go_sem] def T62:T 62=some .fn :=nr rfl
@[go_sem] def T64:T 64=some .fn :=nr rfl
@[go_sem] def T66:T 66=some .fn :=nr rfl
@[go_sem] def T67:T 67=some (.struct 2 [(0,1,false,1),(1,1,false,0)] [.sl .mut 1 [],.i .i64 0]) :=nr rfl
@[go_sem] def T68:T 68=some (.struct 2 [(0,1,false,1),(1,1,false,0)] [.sl .mut 1 [],.i .i64 0]) :=nr rfl
@[go_sem] def T69:T 69=some .fn :=nr rfl
@[go_sem] def T70:T 70=some .fn :=nr rfl
@[go_sem] def T71:T 71=some .fn :=nr rfl
@[go_sem] def T72:T 72=some .fn :=nr rfl
@[go_sem] def T73:T 73=some .fn :=nr rfl
@[go_sem] def T74:T 74=some .fn :=nr rfl
@[go_sem] def T75:T 75=some .fn :=nr rfl
@[go_sem] def T77:T 77=some .fn :=nr rfl
@[go_sem] def T78:T 78=some .fn :=nr rfl
@[go_sem] def T79:T 79=some (.slice 1 8 [.i .i64 0]) :=nr rfl
@[go_sem] def T80:T 80=some .fn :=nr rfl
@[go_sem] def T87:T 87=some .fn :=nr rfl
@[go_sem] def T88:T 88=some (.int .u32) :=nr rfl
@[go_sem] def T92:T 92=some .ptr :=nr rfl
def Q:TypeId->Option (List Nat)
  | 27 => some [1,1,1,1,1]
  | 28 => some [1,1,1,1,1]
  | 34 => some [1,1]
  | 35 => some [1,1]
  | 57 => some [1,0]
  | 58 => some [1,0]
  | _ => none
@[go_sem] def Q27:Q 27=some [1,1,1,1,1] :=nr rfl
@[go_sem] def Q28:Q 28=some [1,1,1,1,1] :=nr rfl
@[go_sem] def Q34:Q 34=some [1,1] :=nr rfl
@[go_sem] def Q35:Q 35=some [1,1] :=nr rfl
@[go_sem] def Q57:Q 57=some [1,0] :=nr rfl
@[go_sem] def Q58:Q 58=some [1,0] :=nr rfl
instance instTb:HasTb Try.prog :=⟨λ_ _ => True,λ_ _ _ _ => trivial⟩
def XAa(cx:Cx)(h:cx.T=T)(h2:cx.eqs=Q):Xcs Try.prog cx :=by
  refine⟨λt ti ht => ?_,λt ks hk => ?_⟩
  · rw[h] at ht
    unfold T at ht
    split at ht<;>first | cases ht; done | (injection ht with ht; subst ht; exact Xk5 (by kernel_rfl))
  · rw[h2] at hk
    unfold Q at hk
    split at hk<;>first | cases hk; done | (injection hk with hk; subst hk; kernel_rfl)
def tyA:Xkq Try.prog :=⟨T,Q,XAa,by kernel_rfl⟩
@[go_sem] def XAb:tyA.T=T :=nr rfl
@[go_sem] def XAc:tyA.Q=Q :=nr rfl
end Go.Vm.A
