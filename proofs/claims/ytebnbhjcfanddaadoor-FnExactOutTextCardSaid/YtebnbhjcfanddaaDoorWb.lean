/- Functions of the program, walked by the evaluator. -/
import Derived.Test.YtebnbhjcfanddaaDoorWa
import Derived.Test.YtebnbhjcfanddaaDoorProg
import Derived.KernelRfl
import Derived.WalkKit
import Derived.LoopTactic
import Derived.Shelf.Strconv.Itoa4
import Derived.Lib.AppendZerosOnto
import Derived.Shelf.Spec.SlicesGrow
import Derived.Shelf.Spec.SlicesInsert
import Derived.Shelf.Spec.SlicesInsertGrow
set_option linter.unusedVariables false
set_option linter.unusedSimpArgs false
set_option autoImplicit false
set_option maxRecDepth 100000
set_option maxHeartbeats 4000000
set_option linter.defProp false
namespace Go.Vm.A
open Go.Proofs
def T:TypeId->Option TI
  | 1 => some .fn
  | 2 => some (.int .i64)
  | 3 => some (.int .i64)
  | 4 => some .bool
  | 5 => some (.int .u8)
  | 9 => some .str
  | 21 => some (.int .i32)
  | 22 => some (.slice 1 16 [.s ⟨#[]⟩])
  | 23 => some (.struct 2 [(0,1,false,0),(1,1,false,1)] [.i .i64 0,.sl .mut 1 []])
  | 24 => some (.struct 2 [(0,1,false,0),(1,1,false,1)] [.i .i64 0,.sl .mut 1 []])
  | 25 => some .fn
  | 26 => some .fn
  | 27 => some .fn
  | 28 => some .fn
  | 29 => some (.slice 2 32 [.s ⟨#[]⟩,.s ⟨#[]⟩])
  | 30 => some (.slice 1 1 [.i .u8 0])
  | 31 => some (.struct 3 [(0,1,false,0),(1,1,false,2),(2,1,false,1)] [.i .i64 0,.sl .mut 2 [],.sl .mut 1 []])
  | 32 => some (.struct 3 [(0,1,false,0),(1,1,false,2),(2,1,false,1)] [.i .i64 0,.sl .mut 2 [],.sl .mut 1 []])
  | 33 => some (.struct 4 [(0,1,false,0),(1,1,false,0),(2,1,false,0),(3,1,false,2)] [.s ⟨#[]⟩,.s ⟨#[]⟩,.s ⟨#[]⟩,.sl .mut 2 []])
  | 34 => some (.struct 4 [(0,1,false,0),(1,1,false,0),(2,1,false,0),(3,1,false,2)] [.s ⟨#[]⟩,.s ⟨#[]⟩,.s ⟨#[]⟩,.sl .mut 2 []])
  | 35 => some (.struct 10 [(0,1,false,0),(1,1,false,0),(2,1,false,0),(3,3,true,0),(6,4,true,0)] [.i .i64 0,.i .i64 0,.s ⟨#[]⟩,.i .i64 0,.sl .mut 2 [],.sl .mut 1 [],.s ⟨#[]⟩,.s ⟨#[]⟩,.s ⟨#[]⟩,.sl .mut 2 []])
  | 36 => some (.struct 10 [(0,1,false,0),(1,1,false,0),(2,1,false,0),(3,3,true,0),(6,4,true,0)] [.i .i64 0,.i .i64 0,.s ⟨#[]⟩,.i .i64 0,.sl .mut 2 [],.sl .mut 1 [],.s ⟨#[]⟩,.s ⟨#[]⟩,.s ⟨#[]⟩,.sl .mut 2 []])
  | 37 => some .fn
  | 38 => some (.struct 2 [(0,1,false,0),(1,1,false,0)] [.i .i64 0,.s ⟨#[]⟩])
  | 39 => some (.struct 2 [(0,1,false,0),(1,1,false,0)] [.i .i64 0,.s ⟨#[]⟩])
  | 40 => some .fn
  | 41 => some (.slice 2 32 [.s ⟨#[]⟩,.s ⟨#[]⟩])
  | 42 => some (.struct 3 [(0,1,false,0),(1,1,false,2),(2,1,false,1)] [.i .i64 0,.sl .mut 2 [],.sl .mut 1 []])
  | 43 => some (.struct 3 [(0,1,false,0),(1,1,false,2),(2,1,false,1)] [.i .i64 0,.sl .mut 2 [],.sl .mut 1 []])
  | 44 => some (.struct 4 [(0,1,false,0),(1,1,false,0),(2,1,false,0),(3,1,false,2)] [.s ⟨#[]⟩,.s ⟨#[]⟩,.s ⟨#[]⟩,.sl .mut 2 []])
  | 45 => some (.struct 4 [(0,1,false,0),(1,1,false,0),(2,1,false,0),(3,1,false,2)] [.s ⟨#[]⟩,.s ⟨#[]⟩,.s ⟨#[]⟩,.sl .mut 2 []])
  | 46 => some (.struct 10 [(0,1,false,0),(1,1,false,0),(2,1,false,0),(3,3,true,0),(6,4,true,0)] [.i .i64 0,.i .i64 0,.s ⟨#[]⟩,.i .i64 0,.sl .mut 2 [],.sl .mut 1 [],.s ⟨#[]⟩,.s ⟨#[]⟩,.s ⟨#[]⟩,.sl .mut 2 []])
  | 47 => some (.struct 10 [(0,1,false,0),(1,1,false,0),(2,1,false,0),(3,3,true,0),(6,4,true,0)] [.i .i64 0,.i .i64 0,.s ⟨#[]⟩,.i .i64 0,.sl .mut 2 [],.sl .mut 1 [],.s ⟨#[]⟩,.s ⟨#[]⟩,.s ⟨#[]⟩,.sl .mut 2 []])
  | 48 => some .fn
  | 49 => some .fn
  | 50 => some .fn
  | 51 => some .fn
  | 52 => some .fn
  | 53 => some (.struct 4 [(0,1,false,0),(1,3,true,0)] [.i .i64 0,.i .i64 0,.sl .mut 2 [],.sl .mut 1 []])
  | 54 => some (.struct 4 [(0,1,false,0),(1,3,true,0)] [.i .i64 0,.i .i64 0,.sl .mut 2 [],.sl .mut 1 []])
  | 55 => some .fn
  | 56 => some .fn
  | 57 => some .fn
  | 58 => some .fn
  | 59 => some .fn
  | 60 => some .fn
  | 61 => some .fn
  | 62 => some .fn
  | 63 => some .fn
  | 64 => some .fn
  | 65 => some .fn
  | 67 => some .fn
  | 68 => some .ptr
  | 69 => some .fn
  | 70 => some .fn
  | 71 => some .fn
  | 72 => some .fn
  | 73 => some .fn
  | 74 => some .fn
  | 75 => some .fn
  | 76 => some .fn
  | 77 => some .fn
  | 78 => some .fn
  | 79 => some .ptr
  | 80 => some .fn
  | 81 => some .fn
  | 82 => some .fn
  | 83 => some .fn
  | 84 => some (.struct 2 [(0,1,false,0),(1,1,false,0)] [.s ⟨#[]⟩,.s ⟨#[]⟩])
  | 85 => some (.struct 2 [(0,1,false,0),(1,1,false,0)] [.s ⟨#[]⟩,.s ⟨#[]⟩])
  | 86 => some .fn
  | 87 => some .fn
  | 88 => some .fn
  | 89 => some .fn
  | 90 => some .fn
  | 91 => some .fn
  | 92 => some .fn
  | 93 => some .fn
  | 94 => some .fn
  | 95 => some .fn
  | 96 => some .fn
  | 97 => some (.struct 2 [(0,1,false,0),(1,1,false,0)] [.s ⟨#[]⟩,.s ⟨#[]⟩])
  | 98 => some .fn
  | 99 => some .fn
  | 100 => some .fn
  | 101 => some .fn
  | 102 => some .fn
  | 103 => some .fn
  | 104 => some .fn
  | 105 => some .fn
  | 107 => some .fn
  | 108 => some .fn
  | 109 => some .fn
  | 110 => some .fn
  | 111 => some .fn
  | 112 => some .fn
  | 113 => some .fn
  | 114 => some .fn
  | 116 => some (.int .u64)
  | 117 => some .fn
  | 118 => some .fn
  | 120 => some .fn
  | 121 => some .fn
  | 122 => some .fn
  | 124 => some .fn
  | 125 => some .fn
  | 126 => some .fn
  | 127 => some .fn
  | 129 => some (.int .u32)
  | 131 => some .fn
  | 132 => some (.int .u64)
  | 133 => some .fn
  | 134 => some .fn
  | 135 => some .fn
  | 136 => some .fn
  | 140 => some .fn
  | 141 => some .fn
  | 142 => some .ptr
  | 143 => some .fn
  | 144 => some .fn
  | 145 => some .fn
  | 147 => some (.struct 2 [(0,1,false,0),(1,1,false,0)] [.i .u8 0,.i .u8 0])
  | 148 => some (.struct 2 [(0,1,false,0),(1,1,false,0)] [.i .u8 0,.i .u8 0])
  | 149 => some (.array 16 2 true [.i .u8 0,.i .u8 0,.i .u8 0,.i .u8 0,.i .u8 0,.i .u8 0,.i .u8 0,.i .u8 0,.i .u8 0,.i .u8 0,.i .u8 0,.i .u8 0,.i .u8 0,.i .u8 0,.i .u8 0,.i .u8 0,.i .u8 0,.i .u8 0,.i .u8 0,.i .u8 0,.i .u8 0,.i .u8 0,.i .u8 0,.i .u8 0,.i .u8 0,.i .u8 0,.i .u8 0,.i .u8 0,.i .u8 0,.i .u8 0,.i .u8 0,.i .u8 0])
  | 151 => some .fn
  | 154 => some .fn
  | 155 => some .fn
  | 162 => some .fn
  | 166 => some .ptr
  | _ => none
@[go_sem] def T1:T 1=some .fn :=nr rfl
@[go_sem] def T2:T 2=some (.int .i64) :=nr rfl
@[go_sem] def T3:T 3=some (.int .i64) :=nr rfl
@[go_sem] def T4:T 4=some .bool :=nr rfl
@[go_sem] def T5:T 5=some (.int .u8) :=nr rfl
@[go_sem] def T9:T 9=some .str :=nr rfl
@[go_sem] def T21:T 21=some (.int .i32) :=nr rfl
@[go_sem] def T22:T 22=some (.slice 1 16 [.s ⟨#[]⟩]) :=nr rfl
@[go_sem] def T23:T 23=some (.struct 2 [(0,1,false,0),(1,1,false,1)] [.i .i64 0,.sl .mut 1 []]) :=nr rfl
@[go_sem] def T24:T 24=some (.struct 2 [(0,1,false,0),(1,1,false,1)] [.i .i64 0,.sl .mut 1 []]) :=nr rfl
@[go_sem] def T25:T 25=some .fn :=nr rfl
@[go_sem] def T26:T 26=some .fn :=nr rfl
@[go_sem] def T27:T 27=some .fn :=nr rfl
@[go_sem] def T28:T 28=some .fn :=nr rfl
@[go_sem] def T29:T 29=some (.slice 2 32 [.s ⟨#[]⟩,.s ⟨#[]⟩]) :=nr rfl
@[go_sem] def T30:T 30=some (.slice 1 1 [.i .u8 0]) :=nr rfl
@[go_sem] def T31:T 31=some (.struct 3 [(0,1,false,0),(1,1,false,2),(2,1,false,1)] [.i .i64 0,.sl .mut 2 [],.sl .mut 1 []]) :=nr rfl
@[go_sem] def T32:T 32=some (.struct 3 [(0,1,false,0),(1,1,false,2),(2,1,false,1)] [.i .i64 0,.sl .mut 2 [],.sl .mut 1 []]) :=nr rfl
@[go_sem] def T33:T 33=some (.struct 4 [(0,1,false,0),(1,1,false,0),(2,1,false,0),(3,1,false,2)] [.s ⟨#[]⟩,.s ⟨#[]⟩,.s ⟨#[]⟩,.sl .mut 2 []]) :=nr rfl
@[go_sem] def T34:T 34=some (.struct 4 [(0,1,false,0),(1,1,false,0),(2,1,false,0),(3,1,false,2)] [.s ⟨#[]⟩,.s ⟨#[]⟩,.s ⟨#[]⟩,.sl .mut 2 []]) :=nr rfl
@[go_sem] def T35:T 35=some (.struct 10 [(0,1,false,0),(1,1,false,0),(2,1,false,0),(3,3,true,0),(6,4,true,0)] [.i .i64 0,.i .i64 0,.s ⟨#[]⟩,.i .i64 0,.sl .mut 2 [],.sl .mut 1 [],.s ⟨#[]⟩,.s ⟨#[]⟩,.s ⟨#[]⟩,.sl .mut 2 []]) :=nr rfl
@[go_sem] def T36:T 36=some (.struct 10 [(0,1,false,0),(1,1,false,0),(2,1,false,0),(3,3,true,0),(6,4,true,0)] [.i .i64 0,.i .i64 0,.s ⟨#[]⟩,.i .i64 0,.sl .mut 2 [],.sl .mut 1 [],.s ⟨#[]⟩,.s ⟨#[]⟩,.s ⟨#[]⟩,.sl .mut 2 []]) :=nr rfl
@[go_sem] def T37:T 37=some .fn :=nr rfl
@[go_sem] def T38:T 38=some (.struct 2 [(0,1,false,0),(1,1,false,0)] [.i .i64 0,.s ⟨#[]⟩]) :=nr rfl
@[go_sem] def T39:T 39=some (.struct 2 [(0,1,false,0),(1,1,false,0)] [.i .i64 0,.s ⟨#[]⟩]) :=nr rfl
@[go_sem] def T40:T 40=some .fn :=nr rfl
@[go_sem] def T41:T 41=some (.slice 2 32 [.s ⟨#[]⟩,.s ⟨#[]⟩]) :=nr rfl
@[go_sem] def T42:T 42=some (.struct 3 [(0,1,false,0),(1,1,false,2),(2,1,false,1)] [.i .i64 0,.sl .mut 2 [],.sl .mut 1 []]) :=nr rfl
@[go_sem] def T43:T 43=some (.struct 3 [(0,1,false,0),(1,1,false,2),(2,1,false,1)] [.i .i64 0,.sl .mut 2 [],.sl .mut 1 []]) :=nr rfl
@[go_sem] def T44:T 44=some (.struct 4 [(0,1,false,0),(1,1,false,0),(2,1,false,0),(3,1,false,2)] [.s ⟨#[]⟩,.s ⟨#[]⟩,.s ⟨#[]⟩,.sl .mut 2 []]) :=nr rfl
@[go_sem] def T45:T 45=some (.struct 4 [(0,1,false,0),(1,1,false,0),(2,1,false,0),(3,1,false,2)] [.s ⟨#[]⟩,.s ⟨#[]⟩,.s ⟨#[]⟩,.sl .mut 2 []]) :=nr rfl
@[go_sem] def T46:T 46=some (.struct 10 [(0,1,false,0),(1,1,false,0),(2,1,false,0),(3,3,true,0),(6,4,true,0)] [.i .i64 0,.i .i64 0,.s ⟨#[]⟩,.i .i64 0,.sl .mut 2 [],.sl .mut 1 [],.s ⟨#[]⟩,.s ⟨#[]⟩,.s ⟨#[]⟩,.sl .mut 2 []]) :=nr rfl
@[go_sem] def T47:T 47=some (.struct 10 [(0,1,false,0),(1,1,false,0),(2,1,false,0),(3,3,true,0),(6,4,true,0)] [.i .i64 0,.i .i64 0,.s ⟨#[]⟩,.i .i64 0,.sl .mut 2 [],.sl .mut 1 [],.s ⟨#[]⟩,.s ⟨#[]⟩,.s ⟨#[]⟩,.sl .mut 2 []]) :=nr rfl
@[go_sem] def T48:T 48=some .fn :=nr rfl
@[go_sem] def T49:T 49=some .fn :=nr rfl
@[go_sem] def T50:T 50=some .fn :=nr rfl
@[go_sem] def T51:T 51=some .fn :=nr rfl
@[go_sem] def T52:T 52=some .fn :=nr rfl
@[go_sem] def T53:T 53=some (.struct 4 [(0,1,false,0),(1,3,true,0)] [.i .i64 0,.i .i64 0,.sl .mut 2 [],.sl .mut 1 []]) :=nr rfl
@[go_sem] def T54:T 54=some (.struct 4 [(0,1,false,0),(1,3,true,0)] [.i .i64 0,.i .i64 0,.sl .mut 2 [],.sl .mut 1 []]) :=nr rfl
@[go_sem] def T55:T 55=some .fn :=nr rfl
@[go_sem] def T56:T 56=some .fn :=nr rfl
@[go_sem] def T57:T 57=some .fn :=nr rfl
@[go_sem] def T58:T 58=some .fn :=nr rfl
@[go_sem] def T59:T 59=some .fn :=nr rfl
@[go_sem] def T60:T 60=some .fn :=nr rfl
@[go_sem] def T61:T 61=some .fn :=nr rfl
@[go_sem] def T62:T 62=some .fn :=nr rfl
@[go_sem] def T63:T 63=some .fn :=nr rfl
@[go_sem] def T64:T 64=some .fn :=nr rfl
@[go_sem] def T65:T 65=some .fn :=nr rfl
@[go_sem] def T67:T 67=some .fn :=nr rfl
@[go_sem] def T68:T 68=some .ptr :=nr rfl
@[go_sem] def T69:T 69=some .fn :=nr rfl
@[go_sem] def T70:T 70=some .fn :=nr rfl
@[go_sem] def T71:T 71=some .fn :=nr rfl
@[go_sem] def T72:T 72=some .fn :=nr rfl
@[go_sem] def T73:T 73=some .fn :=nr rfl
@[go_sem] def T74:T 74=some .fn :=nr rfl
@[go_sem] def T75:T 75=some .fn :=nr rfl
@[go_sem] def T76:T 76=some .fn :=nr rfl
@[go_sem] def T77:T 77=some .fn :=nr rfl
@[go_sem] def T78:T 78=some .fn :=nr rfl
@[go_sem] def T79:T 79=some .ptr :=nr rfl
@[go_sem] def T80:T 80=some .fn :=nr rfl
@[go_sem] def T81:T 81=some .fn :=nr rfl
@[go_sem] def T82:T 82=some .fn :=nr rfl
@[go_sem] def T83:T 83=some .fn :=nr rfl
@[go_sem] def T84:T 84=some (.struct 2 [(0,1,false,0),(1,1,false,0)] [.s ⟨#[]⟩,.s ⟨#[]⟩]) :=nr rfl
@[go_sem] def T85:T 85=some (.struct 2 [(0,1,false,0),(1,1,false,0)] [.s ⟨#[]⟩,.s ⟨#[]⟩]) :=nr rfl
@[go_sem] def T86:T 86=some .fn :=nr rfl
@[go_sem] def T87:T 87=some .fn :=nr rfl
@[go_sem] def T88:T 88=some .fn :=nr rfl
@[go_sem] def T89:T 89=some .fn :=nr rfl
@[go_sem] def T90:T 90=some .fn :=nr rfl
@[go_sem] def T91:T 91=some .fn :=nr rfl
@[go_sem] def T92:T 92=some .fn :=nr rfl
@[go_sem] def T93:T 93=some .fn :=nr rfl
@[go_sem] def T94:T 94=some .fn :=nr rfl
@[go_sem] def T95:T 95=some .fn :=nr rfl
@[go_sem] def T96:T 96=some .fn :=nr rfl
@[go_sem] def T97:T 97=some (.struct 2 [(0,1,false,0),(1,1,false,0)] [.s ⟨#[]⟩,.s ⟨#[]⟩]) :=nr rfl
@[go_sem] def T98:T 98=some .fn :=nr rfl
@[go_sem] def T99:T 99=some .fn :=nr rfl
@[go_sem] def Xzk:T 100=some .fn :=nr rfl
@[go_sem] def Xzl:T 101=some .fn :=nr rfl
@[go_sem] def Xzm:T 102=some .fn :=nr rfl
@[go_sem] def Xzn:T 103=some .fn :=nr rfl
@[go_sem] def Xzo:T 104=some .fn :=nr rfl
@[go_sem] def Xzp:T 105=some .fn :=nr rfl
@[go_sem] def Xzq:T 107=some .fn :=nr rfl
@[go_sem] def Xzr:T 108=some .fn :=nr rfl
@[go_sem] def Xzs:T 109=some .fn :=nr rfl
@[go_sem] def Xzt:T 110=some .fn :=nr rfl
@[go_sem] def Xzu:T 111=some .fn :=nr rfl
@[go_sem] def Xzv:T 112=some .fn :=nr rfl
@[go_sem] def Xzw:T 113=some .fn :=nr rfl
@[go_sem] def Xzx:T 114=some .fn :=nr rfl
@[go_sem] def Xzy:T 116=some (.int .u64) :=nr rfl
@[go_sem] def Xzz:T 117=some .fn :=nr rfl
@[go_sem] def XzA:T 118=some .fn :=nr rfl
@[go_sem] def XzB:T 120=some .fn :=nr rfl
@[go_sem] def XzC:T 121=some .fn :=nr rfl
@[go_sem] def XzD:T 122=some .fn :=nr rfl
@[go_sem] def XzE:T 124=some .fn :=nr rfl
@[go_sem] def XzF:T 125=some .fn :=nr rfl
@[go_sem] def XzG:T 126=some .fn :=nr rfl
@[go_sem] def XzH:T 127=some .fn :=nr rfl
@[go_sem] def XzI:T 129=some (.int .u32) :=nr rfl
@[go_sem] def XzJ:T 131=some .fn :=nr rfl
@[go_sem] def XzK:T 132=some (.int .u64) :=nr rfl
@[go_sem] def XzL:T 133=some .fn :=nr rfl
@[go_sem] def XzM:T 134=some .fn :=nr rfl
@[go_sem] def XzN:T 135=some .fn :=nr rfl
@[go_sem] def XzO:T 136=some .fn :=nr rfl
@[go_sem] def XzP:T 140=some .fn :=nr rfl
@[go_sem] def XzQ:T 141=some .fn :=nr rfl
@[go_sem] def XzR:T 142=some .ptr :=nr rfl
@[go_sem] def XzS:T 143=some .fn :=nr rfl
@[go_sem] def XzT:T 144=some .fn :=nr rfl
@[go_sem] def XzU:T 145=some .fn :=nr rfl
@[go_sem] def XzV:T 147=some (.struct 2 [(0,1,false,0),(1,1,false,0)] [.i .u8 0,.i .u8 0]) :=nr rfl
@[go_sem] def XzW:T 148=some (.struct 2 [(0,1,false,0),(1,1,false,0)] [.i .u8 0,.i .u8 0]) :=nr rfl
@[go_sem] def XzX:T 149=some (.array 16 2 true [.i .u8 0,.i .u8 0,.i .u8 0,.i .u8 0,.i .u8 0,.i .u8 0,.i .u8 0,.i .u8 0,.i .u8 0,.i .u8 0,.i .u8 0,.i .u8 0,.i .u8 0,.i .u8 0,.i .u8 0,.i .u8 0,.i .u8 0,.i .u8 0,.i .u8 0,.i .u8 0,.i .u8 0,.i .u8 0,.i .u8 0,.i .u8 0,.i .u8 0,.i .u8 0,.i .u8 0,.i .u8 0,.i .u8 0,.i .u8 0,.i .u8 0,.i .u8 0]) :=nr rfl
@[go_sem] def XzY:T 151=some .fn :=nr rfl
@[go_sem] def XzZ:T 154=some .fn :=nr rfl
@[go_sem] def Xz0:T 155=some .fn :=nr rfl
@[go_sem] def Xz1:T 162=some .fn :=nr rfl
@[go_sem] def Xz2:T 166=some .ptr :=nr rfl
def Q:TypeId->Option (List Nat)
  | 38 => some [1,2]
  | 39 => some [1,2]
  | 84 => some [2,2]
  | 85 => some [2,2]
  | 97 => some [2,2]
  | 147 => some [1,1]
  | 148 => some [1,1]
  | _ => none
@[go_sem] def Q38:Q 38=some [1,2] :=nr rfl
@[go_sem] def Q39:Q 39=some [1,2] :=nr rfl
@[go_sem] def Q84:Q 84=some [2,2] :=nr rfl
@[go_sem] def Q85:Q 85=some [2,2] :=nr rfl
@[go_sem] def Q97:Q 97=some [2,2] :=nr rfl
@[go_sem] def Xz3:Q 147=some [1,1] :=nr rfl
@[go_sem] def Xz4:Q 148=some [1,1] :=nr rfl
instance instTb:HasTb Tryd.prog :=⟨Xlc 0,Xgt 0⟩
def Xll (Im : CS) (w : World) (h : Tb Tryd.prog Im w) : Lib.TabIs Tryd.prog w "internal/strconv.uint64pow10" .u64 Lib.pow10Tab := Xic (by kernel_rfl) h
def Xzf(cx:Cx)(h:cx.T=T)(h2:cx.eqs=Q):Xcm Tryd.prog cx :=by
  refine⟨λt ti ht => ?_,λt ks hk => ?_⟩
  · rw[h] at ht
    unfold T at ht
    split at ht<;>first | cases ht; done | (injection ht with ht; subst ht; exact XkC (by kernel_rfl))
  · rw[h2] at hk
    unfold Q at hk
    split at hk<;>first | cases hk; done | (injection hk with hk; subst hk; kernel_rfl)
def tyA:Xkm Tryd.prog :=⟨T,Q,Xzf,by kernel_rfl⟩
@[go_sem] def Xzg:tyA.T=T :=nr rfl
@[go_sem] def Xzh:tyA.Q=Q :=nr rfl
end Go.Vm.A
namespace Go.Proofs
open Go.Shelf
def Tryd.laysM173_ren:Go.Shelf.Ren :=⟨fun | 173 => 63 | 246 => 85 | 283 => 96 | 284 => 97 | 285 => 98 | 286 => 99 | 129 => 112 | 317 => 111 | 318 => 113 | 319 => 114 | 320 => 115 | 337 => 135 | 338 => 136 | n => n,fun | 2 => 2 | 3 => 3 | 9 => 9 | 4 => 4 | 171 => 115 | 0 => 0 | 53 => 116 | 37 => 30 | 5 => 5 | 173 => 119 | 212 => 128 | 51 => 129 | 20 => 20 | 213 => 130 | 46 => 132 | 232 => 152 | 233 => 153 | n => n,fun | 17 => 0 | 18 => 4 | 19 => 5 | n => n⟩
def Tryd.laysM173:Go.Proofs.LaysM.n173 Tryd.prog Tryd.laysM173_ren :={
  mixed :=by kernel_rfl
  f129 :=Tryd.func112.trans (congrArg some (by kernel_rfl))
  f173 :=Tryd.func63.trans (congrArg some (by kernel_rfl))
  f246 :=Tryd.func85.trans (congrArg some (by kernel_rfl))
  f283 :=Tryd.func96.trans (congrArg some (by kernel_rfl))
  f284 :=Tryd.func97.trans (congrArg some (by kernel_rfl))
  f285 :=Tryd.func98.trans (congrArg some (by kernel_rfl))
  f286 :=Tryd.func99.trans (congrArg some (by kernel_rfl))
  f317 :=Tryd.func111.trans (congrArg some (by kernel_rfl))
  f318 :=Tryd.func113.trans (congrArg some (by kernel_rfl))
  f319 :=Tryd.func114.trans (congrArg some (by kernel_rfl))
  f320 :=Tryd.func115.trans (congrArg some (by kernel_rfl))
  f337 :=Tryd.func135.trans (congrArg some (by kernel_rfl))
  f338 :=Tryd.func136.trans (congrArg some (by kernel_rfl))
  t0 :=Tryd.underlying0
  a0 :=Tryd.isAgg0
  z0 :=Tryd.sizeOf0
  v0 :=Tryd.zeroValue0
  t2 :=Tryd.underlying2
  a2 :=Tryd.isAgg2
  z2 :=Tryd.sizeOf2
  v2 :=Tryd.zeroValue2
  t3 :=Tryd.underlying3
  a3 :=Tryd.isAgg3
  z3 :=Tryd.sizeOf3
  v3 :=Tryd.zeroValue3
  t4 :=Tryd.underlying4
  a4 :=Tryd.isAgg4
  z4 :=Tryd.sizeOf4
  v4 :=Tryd.zeroValue4
  t5 :=Tryd.underlying5
  a5 :=Tryd.isAgg5
  z5 :=Tryd.sizeOf5
  v5 :=Tryd.zeroValue5
  t9 :=Tryd.underlying9
  a9 :=Tryd.isAgg9
  z9 :=Tryd.sizeOf9
  v9 :=Tryd.zeroValue9
  t20 :=Tryd.underlying20
  a20 :=Tryd.isAgg20
  z20 :=Tryd.sizeOf20
  v20 :=Tryd.zeroValue20
  t37 :=Tryd.underlying30
  a37 :=Tryd.isAgg30
  z37 :=Tryd.sizeOf30
  v37 :=Tryd.zeroValue30
  t46 :=Tryd.underlying132
  a46 :=Tryd.isAgg132
  z46 :=Tryd.sizeOf132
  v46 :=Tryd.zeroValue132
  t51 :=Tryd.underlying129
  a51 :=Tryd.isAgg129
  z51 :=Tryd.sizeOf129
  v51 :=Tryd.zeroValue129
  t53 :=Tryd.underlying116
  a53 :=Tryd.isAgg116
  z53 :=Tryd.sizeOf116
  v53 :=Tryd.zeroValue116
  t171 :=Tryd.underlying115
  a171 :=Tryd.isAgg115
  z171 :=Tryd.sizeOf115
  v171 :=Tryd.zeroValue115
  t173 :=Tryd.underlying119
  a173 :=Tryd.isAgg119
  z173 :=Tryd.sizeOf119
  v173 :=Tryd.zeroValue119
  t212 :=Tryd.underlying128
  a212 :=Tryd.isAgg128
  z212 :=Tryd.sizeOf128
  v212 :=Tryd.zeroValue128
  t213 :=Tryd.underlying130
  a213 :=Tryd.isAgg130
  z213 :=Tryd.sizeOf130
  t232 :=Tryd.underlying152
  a232 :=Tryd.isAgg152
  z232 :=Tryd.sizeOf152
  v232 :=Tryd.zeroValue152
  t233 :=Tryd.underlying153
  a233 :=Tryd.isAgg153
  z233 :=Tryd.sizeOf153
  v233 :=Tryd.zeroValue153
  g17 :=by kernel_rfl
  g18 :=by kernel_rfl
  g19 :=by kernel_rfl
  i0 :=by kernel_rfl
  i2 :=by kernel_rfl
  i3 :=by kernel_rfl
  i4 :=by kernel_rfl
  i5 :=by kernel_rfl
  i9 :=by kernel_rfl
  i20 :=by kernel_rfl
  i37 :=by kernel_rfl
  i46 :=by kernel_rfl
  i51 :=by kernel_rfl
  i53 :=by kernel_rfl
  i171 :=by kernel_rfl
  i173 :=by kernel_rfl
  i212 :=by kernel_rfl
  i232 :=by kernel_rfl
  i233 :=by kernel_rfl
  m17 :=by kernel_rfl
  m18 :=by kernel_rfl
  m19 :=by kernel_rfl}
open Go.RowKit Go.Sort Go.Lib in
def Tryd.strconv_FormatInt_10 (n : Int) (h0 : -9223372036854775808 <= n) (h1 : n <= 9223372036854775807) (w : World) (htab : Lib.TabIs Tryd.prog w "internal/strconv.uint64pow10" .u64 Lib.pow10Tab) :
    Calls Tryd.prog 63 #[.int .i64 n,.int .i64 10] w λe w' => e=.returned (.string ⟨(Lib.itoa n).toArray⟩)/\∃k os,w'=grow (w.drewN k) os :=Any.strconv_FormatInt_10 Tryd.laysM173 n h0 h1 w htab
def Tryd.fmtBelow (n : Int) (w : World) (h0 : -9223372036854775808 <= n) (h1 : n <= 9223372036854775807) (htab : Lib.TabIs Tryd.prog w "internal/strconv.uint64pow10" .u64 Lib.pow10Tab) :
    Calls Tryd.prog 63 #[.int .i64 n,.int .i64 10] w λe w' => e=.returned (.string ⟨(Lib.itoa n).toArray⟩)/\Go.RowKit.Below w.heap.size w w' :=
  (Tryd.strconv_FormatInt_10 n h0 h1 w htab).mono λe w' ⟨h,k,os,hw⟩ => ⟨h,by
    subst hw
    exact⟨rfl,rfl,rfl,by simp[Go.Sort.grow,World.drewN],λq hq => by
      show(w.heap++os)[q]?=w.heap[q]?
      rw[Array.getElem?_append_left hq]⟩⟩
end Go.Proofs
