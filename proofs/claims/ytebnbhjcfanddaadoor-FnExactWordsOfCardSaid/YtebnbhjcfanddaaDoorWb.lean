/- Functions of the program, walked by the evaluator. -/
import Derived.Test.YtebnbhjcfanddaaDoorWa
import Derived.Test.YtebnbhjcfanddaaDoorProg
import Derived.KernelRfl
import Derived.WalkKit
import Derived.LoopTactic
import Derived.Shelf.Strings.Split
import Derived.Shelf.Strings.SplitShaped
set_option linter.unusedVariables false
set_option linter.unusedSimpArgs false
set_option autoImplicit false
set_option maxRecDepth 100000
set_option maxHeartbeats 4000000
set_option linter.defProp false
namespace Go.Vm.A
open Go.Proofs
def T:TypeId->Option TI
  | 1 => some .fn
  | 2 => some (.int .i64)
  | 3 => some (.int .i64)
  | 4 => some .bool
  | 5 => some (.int .u8)
  | 9 => some .str
  | 21 => some (.int .i32)
  | 22 => some (.slice 1 16 [.s ⟨#[]⟩])
  | 23 => some (.struct 2 [(0,1,false,0),(1,1,false,1)] [.i .i64 0,.sl .mut 1 []])
  | 24 => some (.struct 2 [(0,1,false,0),(1,1,false,1)] [.i .i64 0,.sl .mut 1 []])
  | 25 => some .fn
  | 26 => some .fn
  | 27 => some .fn
  | 28 => some .fn
  | 29 => some (.slice 2 32 [.s ⟨#[]⟩,.s ⟨#[]⟩])
  | 30 => some (.slice 1 1 [.i .u8 0])
  | 31 => some (.struct 3 [(0,1,false,0),(1,1,false,2),(2,1,false,1)] [.i .i64 0,.sl .mut 2 [],.sl .mut 1 []])
  | 32 => some (.struct 3 [(0,1,false,0),(1,1,false,2),(2,1,false,1)] [.i .i64 0,.sl .mut 2 [],.sl .mut 1 []])
  | 33 => some (.struct 4 [(0,1,false,0),(1,1,false,0),(2,1,false,0),(3,1,false,2)] [.s ⟨#[]⟩,.s ⟨#[]⟩,.s ⟨#[]⟩,.sl .mut 2 []])
  | 34 => some (.struct 4 [(0,1,false,0),(1,1,false,0),(2,1,false,0),(3,1,false,2)] [.s ⟨#[]⟩,.s ⟨#[]⟩,.s ⟨#[]⟩,.sl .mut 2 []])
  | 35 => some (.struct 10 [(0,1,false,0),(1,1,false,0),(2,1,false,0),(3,3,true,0),(6,4,true,0)] [.i .i64 0,.i .i64 0,.s ⟨#[]⟩,.i .i64 0,.sl .mut 2 [],.sl .mut 1 [],.s ⟨#[]⟩,.s ⟨#[]⟩,.s ⟨#[]⟩,.sl .mut 2 []])
  | 36 => some (.struct 10 [(0,1,false,0),(1,1,false,0),(2,1,false,0),(3,3,true,0),(6,4,true,0)] [.i .i64 0,.i .i64 0,.s ⟨#[]⟩,.i .i64 0,.sl .mut 2 [],.sl .mut 1 [],.s ⟨#[]⟩,.s ⟨#[]⟩,.s ⟨#[]⟩,.sl .mut 2 []])
  | 37 => some .fn
  | 38 => some (.struct 2 [(0,1,false,0),(1,1,false,0)] [.i .i64 0,.s ⟨#[]⟩])
  | 39 => some (.struct 2 [(0,1,false,0),(1,1,false,0)] [.i .i64 0,.s ⟨#[]⟩])
  | 40 => some .fn
  | 41 => some (.slice 2 32 [.s ⟨#[]⟩,.s ⟨#[]⟩])
  | 42 => some (.struct 3 [(0,1,false,0),(1,1,false,2),(2,1,false,1)] [.i .i64 0,.sl .mut 2 [],.sl .mut 1 []])
  | 43 => some (.struct 3 [(0,1,false,0),(1,1,false,2),(2,1,false,1)] [.i .i64 0,.sl .mut 2 [],.sl .mut 1 []])
  | 44 => some (.struct 4 [(0,1,false,0),(1,1,false,0),(2,1,false,0),(3,1,false,2)] [.s ⟨#[]⟩,.s ⟨#[]⟩,.s ⟨#[]⟩,.sl .mut 2 []])
  | 45 => some (.struct 4 [(0,1,false,0),(1,1,false,0),(2,1,false,0),(3,1,false,2)] [.s ⟨#[]⟩,.s ⟨#[]⟩,.s ⟨#[]⟩,.sl .mut 2 []])
  | 46 => some (.struct 10 [(0,1,false,0),(1,1,false,0),(2,1,false,0),(3,3,true,0),(6,4,true,0)] [.i .i64 0,.i .i64 0,.s ⟨#[]⟩,.i .i64 0,.sl .mut 2 [],.sl .mut 1 [],.s ⟨#[]⟩,.s ⟨#[]⟩,.s ⟨#[]⟩,.sl .mut 2 []])
  | 47 => some (.struct 10 [(0,1,false,0),(1,1,false,0),(2,1,false,0),(3,3,true,0),(6,4,true,0)] [.i .i64 0,.i .i64 0,.s ⟨#[]⟩,.i .i64 0,.sl .mut 2 [],.sl .mut 1 [],.s ⟨#[]⟩,.s ⟨#[]⟩,.s ⟨#[]⟩,.sl .mut 2 []])
  | 48 => some .fn
  | 49 => some .fn
  | 50 => some .fn
  | 51 => some .fn
  | 52 => some .fn
  | 53 => some (.struct 4 [(0,1,false,0),(1,3,true,0)] [.i .i64 0,.i .i64 0,.sl .mut 2 [],.sl .mut 1 []])
  | 54 => some (.struct 4 [(0,1,false,0),(1,3,true,0)] [.i .i64 0,.i .i64 0,.sl .mut 2 [],.sl .mut 1 []])
  | 55 => some .fn
  | 56 => some .fn
  | 57 => some .fn
  | 58 => some .fn
  | 59 => some .fn
  | 60 => some .fn
  | 61 => some .fn
  | 62 => some .fn
  | 63 => some .fn
  | 64 => some .fn
  | 65 => some .fn
  | 67 => some .fn
  | 68 => some .ptr
  | 69 => some .fn
  | 70 => some .fn
  | 71 => some .fn
  | 72 => some .fn
  | 73 => some .fn
  | 74 => some .fn
  | 75 => some .fn
  | 76 => some .fn
  | 77 => some .fn
  | 78 => some .fn
  | 79 => some .ptr
  | 80 => some .fn
  | 81 => some .fn
  | 82 => some .fn
  | 83 => some .fn
  | 84 => some (.struct 2 [(0,1,false,0),(1,1,false,0)] [.s ⟨#[]⟩,.s ⟨#[]⟩])
  | 85 => some (.struct 2 [(0,1,false,0),(1,1,false,0)] [.s ⟨#[]⟩,.s ⟨#[]⟩])
  | 86 => some .fn
  | 87 => some .fn
  | 88 => some .fn
  | 89 => some .fn
  | 90 => some .fn
  | 91 => some .fn
  | 92 => some .fn
  | 93 => some .fn
  | 94 => some .fn
  | 95 => some .fn
  | 96 => some .fn
  | 97 => some (.struct 2 [(0,1,false,0),(1,1,false,0)] [.s ⟨#[]⟩,.s ⟨#[]⟩])
  | 98 => some .fn
  | 99 => some .fn
  | 100 => some .fn
  | 101 => some .fn
  | 102 => some .fn
  | 103 => some .fn
  | 104 => some .fn
  | 105 => some .fn
  | 107 => some .fn
  | 108 => some .fn
  | 109 => some .fn
  | 110 => some .fn
  | 111 => some .fn
  | 112 => some .fn
  | 113 => some .fn
  | 114 => some .fn
  | 116 => some (.int .u64)
  | 117 => some .fn
  | 118 => some .fn
  | 120 => some .fn
  | 121 => some .fn
  | 122 => some .fn
  | 124 => some .fn
  | 125 => some .fn
  | 126 => some .fn
  | 127 => some .fn
  | 129 => some (.int .u32)
  | 131 => some .fn
  | 132 => some (.int .u64)
  | 133 => some .fn
  | 134 => some .fn
  | 135 => some .fn
  | 136 => some .fn
  | 140 => some .fn
  | 141 => some .fn
  | 142 => some .ptr
  | 143 => some .fn
  | 144 => some .fn
  | 145 => some .fn
  | 147 => some (.struct 2 [(0,1,false,0),(1,1,false,0)] [.i .u8 0,.i .u8 0])
  | 148 => some (.struct 2 [(0,1,false,0),(1,1,false,0)] [.i .u8 0,.i .u8 0])
  | 149 => some (.array 16 2 true [.i .u8 0,.i .u8 0,.i .u8 0,.i .u8 0,.i .u8 0,.i .u8 0,.i .u8 0,.i .u8 0,.i .u8 0,.i .u8 0,.i .u8 0,.i .u8 0,.i .u8 0,.i .u8 0,.i .u8 0,.i .u8 0,.i .u8 0,.i .u8 0,.i .u8 0,.i .u8 0,.i .u8 0,.i .u8 0,.i .u8 0,.i .u8 0,.i .u8 0,.i .u8 0,.i .u8 0,.i .u8 0,.i .u8 0,.i .u8 0,.i .u8 0,.i .u8 0])
  | 151 => some .fn
  | 154 => some .fn
  | 155 => some .fn
  | 162 => some .fn
  | 166 => some .ptr
  | _ => none
@[go_sem] def T1:T 1=some .fn :=nr rfl
@[go_sem] def T2:T 2=some (.int .i64) :=nr rfl
@[go_sem] def T3:T 3=some (.int .i64) :=nr rfl
@[go_sem] def T4:T 4=some .bool :=nr rfl
@[go_sem] def T5:T 5=some (.int .u8) :=nr rfl
@[go_sem] def T9:T 9=some .str :=nr rfl
@[go_sem] def T21:T 21=some (.int .i32) :=nr rfl
@[go_sem] def T22:T 22=some (.slice 1 16 [.s ⟨#[]⟩]) :=nr rfl
@[go_sem] def T23:T 23=some (.struct 2 [(0,1,false,0),(1,1,false,1)] [.i .i64 0,.sl .mut 1 []]) :=nr rfl
@[go_sem] def T24:T 24=some (.struct 2 [(0,1,false,0),(1,1,false,1)] [.i .i64 0,.sl .mut 1 []]) :=nr rfl
@[go_sem] def T25:T 25=some .fn :=nr rfl
@[go_sem] def T26:T 26=some .fn :=nr rfl
@[go_sem] def T27:T 27=some .fn :=nr rfl
@[go_sem] def T28:T 28=some .fn :=nr rfl
@[go_sem] def T29:T 29=some (.slice 2 32 [.s ⟨#[]⟩,.s ⟨#[]⟩]) :=nr rfl
@[go_sem] def T30:T 30=some (.slice 1 1 [.i .u8 0]) :=nr rfl
@[go_sem] def T31:T 31=some (.struct 3 [(0,1,false,0),(1,1,false,2),(2,1,false,1)] [.i .i64 0,.sl .mut 2 [],.sl .mut 1 []]) :=nr rfl
@[go_sem] def T32:T 32=some (.struct 3 [(0,1,false,0),(1,1,false,2),(2,1,false,1)] [.i .i64 0,.sl .mut 2 [],.sl .mut 1 []]) :=nr rfl
@[go_sem] def T33:T 33=some (.struct 4 [(0,1,false,0),(1,1,false,0),(2,1,false,0),(3,1,false,2)] [.s ⟨#[]⟩,.s ⟨#[]⟩,.s ⟨#[]⟩,.sl .mut 2 []]) :=nr rfl
@[go_sem] def T34:T 34=some (.struct 4 [(0,1,false,0),(1,1,false,0),(2,1,false,0),(3,1,false,2)] [.s ⟨#[]⟩,.s ⟨#[]⟩,.s ⟨#[]⟩,.sl .mut 2 []]) :=nr rfl
@[go_sem] def T35:T 35=some (.struct 10 [(0,1,false,0),(1,1,false,0),(2,1,false,0),(3,3,true,0),(6,4,true,0)] [.i .i64 0,.i .i64 0,.s ⟨#[]⟩,.i .i64 0,.sl .mut 2 [],.sl .mut 1 [],.s ⟨#[]⟩,.s ⟨#[]⟩,.s ⟨#[]⟩,.sl .mut 2 []]) :=nr rfl
@[go_sem] def T36:T 36=some (.struct 10 [(0,1,false,0),(1,1,false,0),(2,1,false,0),(3,3,true,0),(6,4,true,0)] [.i .i64 0,.i .i64 0,.s ⟨#[]⟩,.i .i64 0,.sl .mut 2 [],.sl .mut 1 [],.s ⟨#[]⟩,.s ⟨#[]⟩,.s ⟨#[]⟩,.sl .mut 2 []]) :=nr rfl
@[go_sem] def T37:T 37=some .fn :=nr rfl
@[go_sem] def T38:T 38=some (.struct 2 [(0,1,false,0),(1,1,false,0)] [.i .i64 0,.s ⟨#[]⟩]) :=nr rfl
@[go_sem] def T39:T 39=some (.struct 2 [(0,1,false,0),(1,1,false,0)] [.i .i64 0,.s ⟨#[]⟩]) :=nr rfl
@[go_sem] def T40:T 40=some .fn :=nr rfl
@[go_sem] def T41:T 41=some (.slice 2 32 [.s ⟨#[]⟩,.s ⟨#[]⟩]) :=nr rfl
@[go_sem] def T42:T 42=some (.struct 3 [(0,1,false,0),(1,1,false,2),(2,1,false,1)] [.i .i64 0,.sl .mut 2 [],.sl .mut 1 []]) :=nr rfl
@[go_sem] def T43:T 43=some (.struct 3 [(0,1,false,0),(1,1,false,2),(2,1,false,1)] [.i .i64 0,.sl .mut 2 [],.sl .mut 1 []]) :=nr rfl
@[go_sem] def T44:T 44=some (.struct 4 [(0,1,false,0),(1,1,false,0),(2,1,false,0),(3,1,false,2)] [.s ⟨#[]⟩,.s ⟨#[]⟩,.s ⟨#[]⟩,.sl .mut 2 []]) :=nr rfl
@[go_sem] def T45:T 45=some (.struct 4 [(0,1,false,0),(1,1,false,0),(2,1,false,0),(3,1,false,2)] [.s ⟨#[]⟩,.s ⟨#[]⟩,.s ⟨#[]⟩,.sl .mut 2 []]) :=nr rfl
@[go_sem] def T46:T 46=some (.struct 10 [(0,1,false,0),(1,1,false,0),(2,1,false,0),(3,3,true,0),(6,4,true,0)] [.i .i64 0,.i .i64 0,.s ⟨#[]⟩,.i .i64 0,.sl .mut 2 [],.sl .mut 1 [],.s ⟨#[]⟩,.s ⟨#[]⟩,.s ⟨#[]⟩,.sl .mut 2 []]) :=nr rfl
@[go_sem] def T47:T 47=some (.struct 10 [(0,1,false,0),(1,1,false,0),(2,1,false,0),(3,3,true,0),(6,4,true,0)] [.i .i64 0,.i .i64 0,.s ⟨#[]⟩,.i .i64 0,.sl .mut 2 [],.sl .mut 1 [],.s ⟨#[]⟩,.s ⟨#[]⟩,.s ⟨#[]⟩,.sl .mut 2 []]) :=nr rfl
@[go_sem] def T48:T 48=some .fn :=nr rfl
@[go_sem] def T49:T 49=some .fn :=nr rfl
@[go_sem] def T50:T 50=some .fn :=nr rfl
@[go_sem] def T51:T 51=some .fn :=nr rfl
@[go_sem] def T52:T 52=some .fn :=nr rfl
@[go_sem] def T53:T 53=some (.struct 4 [(0,1,false,0),(1,3,true,0)] [.i .i64 0,.i .i64 0,.sl .mut 2 [],.sl .mut 1 []]) :=nr rfl
@[go_sem] def T54:T 54=some (.struct 4 [(0,1,false,0),(1,3,true,0)] [.i .i64 0,.i .i64 0,.sl .mut 2 [],.sl .mut 1 []]) :=nr rfl
@[go_sem] def T55:T 55=some .fn :=nr rfl
@[go_sem] def T56:T 56=some .fn :=nr rfl
@[go_sem] def T57:T 57=some .fn :=nr rfl
@[go_sem] def T58:T 58=some .fn :=nr rfl
@[go_sem] def T59:T 59=some .fn :=nr rfl
@[go_sem] def T60:T 60=some .fn :=nr rfl
@[go_sem] def T61:T 61=some .fn :=nr rfl
@[go_sem] def T62:T 62=some .fn :=nr rfl
@[go_sem] def T63:T 63=some .fn :=nr rfl
@[go_sem] def T64:T 64=some .fn :=nr rfl
@[go_sem] def T65:T 65=some .fn :=nr rfl
@[go_sem] def T67:T 67=some .fn :=nr rfl
@[go_sem] def T68:T 68=some .ptr :=nr rfl
@[go_sem] def T69:T 69=some .fn :=nr rfl
@[go_sem] def T70:T 70=some .fn :=nr rfl
@[go_sem] def T71:T 71=some .fn :=nr rfl
@[go_sem] def T72:T 72=some .fn :=nr rfl
@[go_sem] def T73:T 73=some .fn :=nr rfl
@[go_sem] def T74:T 74=some .fn :=nr rfl
@[go_sem] def T75:T 75=some .fn :=nr rfl
@[go_sem] def T76:T 76=some .fn :=nr rfl
@[go_sem] def T77:T 77=some .fn :=nr rfl
@[go_sem] def T78:T 78=some .fn :=nr rfl
@[go_sem] def T79:T 79=some .ptr :=nr rfl
@[go_sem] def T80:T 80=some .fn :=nr rfl
@[go_sem] def T81:T 81=some .fn :=nr rfl
@[go_sem] def T82:T 82=some .fn :=nr rfl
@[go_sem] def T83:T 83=some .fn :=nr rfl
@[go_sem] def T84:T 84=some (.struct 2 [(0,1,false,0),(1,1,false,0)] [.s ⟨#[]⟩,.s ⟨#[]⟩]) :=nr rfl
@[go_sem] def T85:T 85=some (.struct 2 [(0,1,false,0),(1,1,false,0)] [.s ⟨#[]⟩,.s ⟨#[]⟩]) :=nr rfl
@[go_sem] def T86:T 86=some .fn :=nr rfl
@[go_sem] def T87:T 87=some .fn :=nr rfl
@[go_sem] def T88:T 88=some .fn :=nr rfl
@[go_sem] def T89:T 89=some .fn :=nr rfl
@[go_sem] def T90:T 90=some .fn :=nr rfl
@[go_sem] def T91:T 91=some .fn :=nr rfl
@[go_sem] def T92:T 92=some .fn :=nr rfl
@[go_sem] def T93:T 93=some .fn :=nr rfl
@[go_sem] def T94:T 94=some .fn :=nr rfl
@[go_sem] def T95:T 95=some .fn :=nr rfl
@[go_sem] def T96:T 96=some .fn :=nr rfl
@[go_sem] def T97:T 97=some (.struct 2 [(0,1,false,0),(1,1,false,0)] [.s ⟨#[]⟩,.s ⟨#[]⟩]) :=nr rfl
@[go_sem] def T98:T 98=some .fn :=nr rfl
@[go_sem] def T99:T 99=some .fn :=nr rfl
@[go_sem] def Xy9:T 100=some .fn :=nr rfl
@[go_sem] def Xza:T 101=some .fn :=nr rfl
@[go_sem] def Xzb:T 102=some .fn :=nr rfl
@[go_sem] def Xzc:T 103=some .fn :=nr rfl
@[go_sem] def Xzd:T 104=some .fn :=nr rfl
@[go_sem] def Xze:T 105=some .fn :=nr rfl
@[go_sem] def Xzf:T 107=some .fn :=nr rfl
@[go_sem] def Xzg:T 108=some .fn :=nr rfl
@[go_sem] def Xzh:T 109=some .fn :=nr rfl
@[go_sem] def Xzi:T 110=some .fn :=nr rfl
@[go_sem] def Xzj:T 111=some .fn :=nr rfl
@[go_sem] def Xzk:T 112=some .fn :=nr rfl
@[go_sem] def Xzl:T 113=some .fn :=nr rfl
@[go_sem] def Xzm:T 114=some .fn :=nr rfl
@[go_sem] def Xzn:T 116=some (.int .u64) :=nr rfl
@[go_sem] def Xzo:T 117=some .fn :=nr rfl
@[go_sem] def Xzp:T 118=some .fn :=nr rfl
@[go_sem] def Xzq:T 120=some .fn :=nr rfl
@[go_sem] def Xzr:T 121=some .fn :=nr rfl
@[go_sem] def Xzs:T 122=some .fn :=nr rfl
@[go_sem] def Xzt:T 124=some .fn :=nr rfl
@[go_sem] def Xzu:T 125=some .fn :=nr rfl
@[go_sem] def Xzv:T 126=some .fn :=nr rfl
@[go_sem] def Xzw:T 127=some .fn :=nr rfl
@[go_sem] def Xzx:T 129=some (.int .u32) :=nr rfl
@[go_sem] def Xzy:T 131=some .fn :=nr rfl
@[go_sem] def Xzz:T 132=some (.int .u64) :=nr rfl
@[go_sem] def XzA:T 133=some .fn :=nr rfl
@[go_sem] def XzB:T 134=some .fn :=nr rfl
@[go_sem] def XzC:T 135=some .fn :=nr rfl
@[go_sem] def XzD:T 136=some .fn :=nr rfl
@[go_sem] def XzE:T 140=some .fn :=nr rfl
@[go_sem] def XzF:T 141=some .fn :=nr rfl
@[go_sem] def XzG:T 142=some .ptr :=nr rfl
@[go_sem] def XzH:T 143=some .fn :=nr rfl
@[go_sem] def XzI:T 144=some .fn :=nr rfl
@[go_sem] def XzJ:T 145=some .fn :=nr rfl
@[go_sem] def XzK:T 147=some (.struct 2 [(0,1,false,0),(1,1,false,0)] [.i .u8 0,.i .u8 0]) :=nr rfl
@[go_sem] def XzL:T 148=some (.struct 2 [(0,1,false,0),(1,1,false,0)] [.i .u8 0,.i .u8 0]) :=nr rfl
@[go_sem] def XzM:T 149=some (.array 16 2 true [.i .u8 0,.i .u8 0,.i .u8 0,.i .u8 0,.i .u8 0,.i .u8 0,.i .u8 0,.i .u8 0,.i .u8 0,.i .u8 0,.i .u8 0,.i .u8 0,.i .u8 0,.i .u8 0,.i .u8 0,.i .u8 0,.i .u8 0,.i .u8 0,.i .u8 0,.i .u8 0,.i .u8 0,.i .u8 0,.i .u8 0,.i .u8 0,.i .u8 0,.i .u8 0,.i .u8 0,.i .u8 0,.i .u8 0,.i .u8 0,.i .u8 0,.i .u8 0]) :=nr rfl
@[go_sem] def XzN:T 151=some .fn :=nr rfl
@[go_sem] def XzO:T 154=some .fn :=nr rfl
@[go_sem] def XzP:T 155=some .fn :=nr rfl
@[go_sem] def XzQ:T 162=some .fn :=nr rfl
@[go_sem] def XzR:T 166=some .ptr :=nr rfl
def Q:TypeId->Option (List Nat)
  | 38 => some [1,2]
  | 39 => some [1,2]
  | 84 => some [2,2]
  | 85 => some [2,2]
  | 97 => some [2,2]
  | 147 => some [1,1]
  | 148 => some [1,1]
  | _ => none
@[go_sem] def Q38:Q 38=some [1,2] :=nr rfl
@[go_sem] def Q39:Q 39=some [1,2] :=nr rfl
@[go_sem] def Q84:Q 84=some [2,2] :=nr rfl
@[go_sem] def Q85:Q 85=some [2,2] :=nr rfl
@[go_sem] def Q97:Q 97=some [2,2] :=nr rfl
@[go_sem] def XzS:Q 147=some [1,1] :=nr rfl
@[go_sem] def XzT:Q 148=some [1,1] :=nr rfl
instance instTb:HasTb Tryd.prog :=⟨tbm 1,XhZ 1⟩
def Xy6(cx:Cx)(h:cx.T=T)(h2:cx.eqs=Q):XbM Tryd.prog cx :=by
  refine⟨λt ti ht => ?_,λt ks hk => ?_⟩
  · rw[h] at ht
    unfold T at ht
    split at ht<;>first | cases ht; done | (injection ht with ht; subst ht; exact Xks (by kernel_rfl))
  · rw[h2] at hk
    unfold Q at hk
    split at hk<;>first | cases hk; done | (injection hk with hk; subst hk; kernel_rfl)
def tyA:Xkb Tryd.prog :=⟨T,Q,Xy6,by kernel_rfl⟩
@[go_sem] def Xy7:tyA.T=T :=nr rfl
@[go_sem] def Xy8:tyA.Q=Q :=nr rfl
end Go.Vm.A
namespace Go.Proofs
open Go.Shelf
def Tryd.lays146_ren:Go.Shelf.Ren :=⟨fun | 146 => 56 | 221 => 83 | 268 => 92 | 138 => 93 | 143 => 94 | 195 => 107 | 197 => 108 | 218 => 109 | 219 => 110 | 260 => 130 | 217 => 131 | 225 => 132 | 224 => 133 | 267 => 134 | 266 => 145 | 314 => 146 | n => n,fun | 9 => 9 | 31 => 22 | 3 => 3 | 4 => 4 | 0 => 0 | 105 => 123 | 21 => 21 | 5 => 5 | 46 => 132 | 119 => 146 | 139 => 149 | 138 => 148 | 146 => 150 | 51 => 129 | n => n,fun | 1 => 1 | 3 => 2 | 4 => 3 | n => n⟩
def Tryd.lays146:Go.Proofs.Lays.n146 Tryd.prog Tryd.lays146_ren :={
  mixed :=by kernel_rfl
  f138 :=Tryd.func93.trans (congrArg some (by kernel_rfl))
  f143 :=Tryd.func94.trans (congrArg some (by kernel_rfl))
  f146 :=Tryd.func56.trans (congrArg some (by kernel_rfl))
  f195 :=Tryd.func107.trans (congrArg some (by kernel_rfl))
  f197 :=Tryd.func108.trans (congrArg some (by kernel_rfl))
  f217 :=Tryd.func131.trans (congrArg some (by kernel_rfl))
  f218 :=Tryd.func109.trans (congrArg some (by kernel_rfl))
  f219 :=Tryd.func110.trans (congrArg some (by kernel_rfl))
  f221 :=Tryd.func83.trans (congrArg some (by kernel_rfl))
  f224 :=Tryd.func133.trans (congrArg some (by kernel_rfl))
  f225 :=Tryd.func132.trans (congrArg some (by kernel_rfl))
  f260 :=Tryd.func130.trans (congrArg some (by kernel_rfl))
  f266 :=Tryd.func145.trans (congrArg some (by kernel_rfl))
  f267 :=Tryd.func134.trans (congrArg some (by kernel_rfl))
  f268 :=Tryd.func92.trans (congrArg some (by kernel_rfl))
  f314 :=Tryd.func146.trans (congrArg some (by kernel_rfl))
  t0 :=Tryd.underlying0
  a0 :=Tryd.isAgg0
  z0 :=Tryd.sizeOf0
  v0 :=Tryd.zeroValue0
  t3 :=Tryd.underlying3
  a3 :=Tryd.isAgg3
  z3 :=Tryd.sizeOf3
  v3 :=Tryd.zeroValue3
  t4 :=Tryd.underlying4
  a4 :=Tryd.isAgg4
  z4 :=Tryd.sizeOf4
  v4 :=Tryd.zeroValue4
  t5 :=Tryd.underlying5
  a5 :=Tryd.isAgg5
  z5 :=Tryd.sizeOf5
  v5 :=Tryd.zeroValue5
  t9 :=Tryd.underlying9
  a9 :=Tryd.isAgg9
  z9 :=Tryd.sizeOf9
  v9 :=Tryd.zeroValue9
  t21 :=Tryd.underlying21
  a21 :=Tryd.isAgg21
  z21 :=Tryd.sizeOf21
  v21 :=Tryd.zeroValue21
  t31 :=Tryd.underlying22
  a31 :=Tryd.isAgg22
  z31 :=Tryd.sizeOf22
  v31 :=Tryd.zeroValue22
  t46 :=Tryd.underlying132
  a46 :=Tryd.isAgg132
  z46 :=Tryd.sizeOf132
  v46 :=Tryd.zeroValue132
  t51 :=Tryd.underlying129
  a51 :=Tryd.isAgg129
  z51 :=Tryd.sizeOf129
  v51 :=Tryd.zeroValue129
  t105 :=Tryd.underlying123
  a105 :=Tryd.isAgg123
  z105 :=Tryd.sizeOf123
  v105 :=Tryd.zeroValue123
  t119 :=Tryd.underlying146
  a119 :=Tryd.isAgg146
  z119 :=Tryd.sizeOf146
  t138 :=Tryd.underlying148
  a138 :=Tryd.isAgg148
  z138 :=Tryd.sizeOf148
  v138 :=Tryd.zeroValue148
  t139 :=Tryd.underlying149
  a139 :=Tryd.isAgg149
  z139 :=Tryd.sizeOf149
  v139 :=Tryd.zeroValue149
  t146 :=Tryd.underlying150
  a146 :=Tryd.isAgg150
  z146 :=Tryd.sizeOf150
  v146 :=Tryd.zeroValue150
  g1 :=by kernel_rfl
  g3 :=by kernel_rfl
  g4 :=by kernel_rfl}
open Go.RowKit Go.Lib in
def Tryd.strings_Split(s sep:ByteArray)(m:Int)(w:World)(hs:s.size<4294967281)(hm:w.cell? ⟨1,0,none⟩=some (.int .i64 m))(h1:1<=sep.size) :
    Calls Tryd.prog 56 #[.string s,.string sep] w λe w' =>
      e=.returned (.slice (some ⟨w.heap.size,0,none⟩) (Lib.countB s sep+1) (Lib.countB s sep+1))/\w'=w.alloc (.cells ((Lib.splitB sep 0 (Lib.countB s sep) s).map Value.string).toArray 9) :=Any.strings_Split Tryd.lays146 (by kernel_rfl) s sep m w hs hm h1
def Tryd.laysM146_ren:Go.Shelf.Ren :=⟨fun | 146 => 56 | 221 => 83 | 268 => 92 | 138 => 93 | 143 => 94 | 195 => 107 | 197 => 108 | 218 => 109 | 219 => 110 | 260 => 130 | 217 => 131 | 225 => 132 | 224 => 133 | 267 => 134 | 266 => 145 | 314 => 146 | n => n,fun | 9 => 9 | 31 => 22 | 3 => 3 | 4 => 4 | 0 => 0 | 105 => 123 | 21 => 21 | 5 => 5 | 46 => 132 | 119 => 146 | 139 => 149 | 138 => 148 | 146 => 150 | 51 => 129 | n => n,fun | 1 => 1 | 3 => 2 | 4 => 3 | n => n⟩
def Tryd.laysM146:Go.Proofs.LaysM.n146 Tryd.prog Tryd.laysM146_ren :={
  mixed :=by kernel_rfl
  f138 :=Tryd.func93.trans (congrArg some (by kernel_rfl))
  f143 :=Tryd.func94.trans (congrArg some (by kernel_rfl))
  f146 :=Tryd.func56.trans (congrArg some (by kernel_rfl))
  f195 :=Tryd.func107.trans (congrArg some (by kernel_rfl))
  f197 :=Tryd.func108.trans (congrArg some (by kernel_rfl))
  f217 :=Tryd.func131.trans (congrArg some (by kernel_rfl))
  f218 :=Tryd.func109.trans (congrArg some (by kernel_rfl))
  f219 :=Tryd.func110.trans (congrArg some (by kernel_rfl))
  f221 :=Tryd.func83.trans (congrArg some (by kernel_rfl))
  f224 :=Tryd.func133.trans (congrArg some (by kernel_rfl))
  f225 :=Tryd.func132.trans (congrArg some (by kernel_rfl))
  f260 :=Tryd.func130.trans (congrArg some (by kernel_rfl))
  f266 :=Tryd.func145.trans (congrArg some (by kernel_rfl))
  f267 :=Tryd.func134.trans (congrArg some (by kernel_rfl))
  f268 :=Tryd.func92.trans (congrArg some (by kernel_rfl))
  f314 :=Tryd.func146.trans (congrArg some (by kernel_rfl))
  t0 :=Tryd.underlying0
  a0 :=Tryd.isAgg0
  z0 :=Tryd.sizeOf0
  v0 :=Tryd.zeroValue0
  t3 :=Tryd.underlying3
  a3 :=Tryd.isAgg3
  z3 :=Tryd.sizeOf3
  v3 :=Tryd.zeroValue3
  t4 :=Tryd.underlying4
  a4 :=Tryd.isAgg4
  z4 :=Tryd.sizeOf4
  v4 :=Tryd.zeroValue4
  t5 :=Tryd.underlying5
  a5 :=Tryd.isAgg5
  z5 :=Tryd.sizeOf5
  v5 :=Tryd.zeroValue5
  t9 :=Tryd.underlying9
  a9 :=Tryd.isAgg9
  z9 :=Tryd.sizeOf9
  v9 :=Tryd.zeroValue9
  t21 :=Tryd.underlying21
  a21 :=Tryd.isAgg21
  z21 :=Tryd.sizeOf21
  v21 :=Tryd.zeroValue21
  t31 :=Tryd.underlying22
  a31 :=Tryd.isAgg22
  z31 :=Tryd.sizeOf22
  v31 :=Tryd.zeroValue22
  t46 :=Tryd.underlying132
  a46 :=Tryd.isAgg132
  z46 :=Tryd.sizeOf132
  v46 :=Tryd.zeroValue132
  t51 :=Tryd.underlying129
  a51 :=Tryd.isAgg129
  z51 :=Tryd.sizeOf129
  v51 :=Tryd.zeroValue129
  t105 :=Tryd.underlying123
  a105 :=Tryd.isAgg123
  z105 :=Tryd.sizeOf123
  v105 :=Tryd.zeroValue123
  t119 :=Tryd.underlying146
  a119 :=Tryd.isAgg146
  z119 :=Tryd.sizeOf146
  t138 :=Tryd.underlying148
  a138 :=Tryd.isAgg148
  z138 :=Tryd.sizeOf148
  v138 :=Tryd.zeroValue148
  t139 :=Tryd.underlying149
  a139 :=Tryd.isAgg149
  z139 :=Tryd.sizeOf149
  v139 :=Tryd.zeroValue149
  t146 :=Tryd.underlying150
  a146 :=Tryd.isAgg150
  z146 :=Tryd.sizeOf150
  v146 :=Tryd.zeroValue150
  g1 :=by kernel_rfl
  g3 :=by kernel_rfl
  g4 :=by kernel_rfl
  i0 :=by kernel_rfl
  i3 :=by kernel_rfl
  i4 :=by kernel_rfl
  i5 :=by kernel_rfl
  i9 :=by kernel_rfl
  i21 :=by kernel_rfl
  i31 :=by kernel_rfl
  i46 :=by kernel_rfl
  i51 :=by kernel_rfl
  i105 :=by kernel_rfl
  i138 :=by kernel_rfl
  i139 :=by kernel_rfl
  i146 :=by kernel_rfl
  m1 :=by kernel_rfl
  s1_3 :=λw h => Go.Proofs.cell_of_shapedOpen_int (zero :=#[.int .i64 0]) (t :=3) h (of_decide_eq_true (by kernel_rfl)) (by kernel_rfl) rfl (by kernel_rfl) (by kernel_rfl) Tryd.underlying3
  m3 :=by kernel_rfl
  m4 :=by kernel_rfl}
end Go.Proofs
