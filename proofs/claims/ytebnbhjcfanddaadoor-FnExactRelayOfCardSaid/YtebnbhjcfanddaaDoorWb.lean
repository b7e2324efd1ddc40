/- Functions of the program, walked by the evaluator. -/
import Derived.Test.YtebnbhjcfanddaaDoorWa
import Derived.Test.YtebnbhjcfanddaaDoorProg
import Derived.KernelRfl
import Derived.WalkKit
import Derived.LoopTactic
import Derived.Shelf.Strings.SlTrimAscii
import Derived.Lib.AppendZerosOnto
import Derived.Shelf.Spec.SlicesGrow
import Derived.Shelf.Spec.SlicesInsert
import Derived.Shelf.Spec.SlicesInsertGrow
set_option linter.unusedVariables false
set_option linter.unusedSimpArgs false
set_option autoImplicit false
set_option maxRecDepth 100000
set_option maxHeartbeats 4000000
set_option linter.defProp false
namespace Go.Vm.A
open Go.Proofs
def T:TypeId->Option TI
  | 1 => some .fn
  | 2 => some (.int .i64)
  | 3 => some (.int .i64)
  | 4 => some .bool
  | 5 => some (.int .u8)
  | 9 => some .str
  | 21 => some (.int .i32)
  | 22 => some (.slice 1 16 [.s ⟨#[]⟩])
  | 23 => some (.struct 2 [(0,1,false,0),(1,1,false,1)] [.i .i64 0,.sl .mut 1 []])
  | 24 => some (.struct 2 [(0,1,false,0),(1,1,false,1)] [.i .i64 0,.sl .mut 1 []])
  | 25 => some .fn
  | 26 => some .fn
  | 27 => some .fn
  | 28 => some .fn
  | 29 => some (.slice 2 32 [.s ⟨#[]⟩,.s ⟨#[]⟩])
  | 30 => some (.slice 1 1 [.i .u8 0])
  | 31 => some (.struct 3 [(0,1,false,0),(1,1,false,2),(2,1,false,1)] [.i .i64 0,.sl .mut 2 [],.sl .mut 1 []])
  | 32 => some (.struct 3 [(0,1,false,0),(1,1,false,2),(2,1,false,1)] [.i .i64 0,.sl .mut 2 [],.sl .mut 1 []])
  | 33 => some (.struct 4 [(0,1,false,0),(1,1,false,0),(2,1,false,0),(3,1,false,2)] [.s ⟨#[]⟩,.s ⟨#[]⟩,.s ⟨#[]⟩,.sl .mut 2 []])
  | 34 => some (.struct 4 [(0,1,false,0),(1,1,false,0),(2,1,false,0),(3,1,false,2)] [.s ⟨#[]⟩,.s ⟨#[]⟩,.s ⟨#[]⟩,.sl .mut 2 []])
  | 35 => some (.struct 10 [(0,1,false,0),(1,1,false,0),(2,1,false,0),(3,3,true,0),(6,4,true,0)] [.i .i64 0,.i .i64 0,.s ⟨#[]⟩,.i .i64 0,.sl .mut 2 [],.sl .mut 1 [],.s ⟨#[]⟩,.s ⟨#[]⟩,.s ⟨#[]⟩,.sl .mut 2 []])
  | 36 => some (.struct 10 [(0,1,false,0),(1,1,false,0),(2,1,false,0),(3,3,true,0),(6,4,true,0)] [.i .i64 0,.i .i64 0,.s ⟨#[]⟩,.i .i64 0,.sl .mut 2 [],.sl .mut 1 [],.s ⟨#[]⟩,.s ⟨#[]⟩,.s ⟨#[]⟩,.sl .mut 2 []])
  | 37 => some .fn
  | 38 => some (.struct 2 [(0,1,false,0),(1,1,false,0)] [.i .i64 0,.s ⟨#[]⟩])
  | 39 => some (.struct 2 [(0,1,false,0),(1,1,false,0)] [.i .i64 0,.s ⟨#[]⟩])
  | 40 => some .fn
  | 41 => some (.slice 2 32 [.s ⟨#[]⟩,.s ⟨#[]⟩])
  | 42 => some (.struct 3 [(0,1,false,0),(1,1,false,2),(2,1,false,1)] [.i .i64 0,.sl .mut 2 [],.sl .mut 1 []])
  | 43 => some (.struct 3 [(0,1,false,0),(1,1,false,2),(2,1,false,1)] [.i .i64 0,.sl .mut 2 [],.sl .mut 1 []])
  | 44 => some (.struct 4 [(0,1,false,0),(1,1,false,0),(2,1,false,0),(3,1,false,2)] [.s ⟨#[]⟩,.s ⟨#[]⟩,.s ⟨#[]⟩,.sl .mut 2 []])
  | 45 => some (.struct 4 [(0,1,false,0),(1,1,false,0),(2,1,false,0),(3,1,false,2)] [.s ⟨#[]⟩,.s ⟨#[]⟩,.s ⟨#[]⟩,.sl .mut 2 []])
  | 46 => some (.struct 10 [(0,1,false,0),(1,1,false,0),(2,1,false,0),(3,3,true,0),(6,4,true,0)] [.i .i64 0,.i .i64 0,.s ⟨#[]⟩,.i .i64 0,.sl .mut 2 [],.sl .mut 1 [],.s ⟨#[]⟩,.s ⟨#[]⟩,.s ⟨#[]⟩,.sl .mut 2 []])
  | 47 => some (.struct 10 [(0,1,false,0),(1,1,false,0),(2,1,false,0),(3,3,true,0),(6,4,true,0)] [.i .i64 0,.i .i64 0,.s ⟨#[]⟩,.i .i64 0,.sl .mut 2 [],.sl .mut 1 [],.s ⟨#[]⟩,.s ⟨#[]⟩,.s ⟨#[]⟩,.sl .mut 2 []])
  | 48 => some .fn
  | 49 => some .fn
  | 50 => some .fn
  | 51 => some .fn
  | 52 => some .fn
  | 53 => some (.struct 4 [(0,1,false,0),(1,3,true,0)] [.i .i64 0,.i .i64 0,.sl .mut 2 [],.sl .mut 1 []])
  | 54 => some (.struct 4 [(0,1,false,0),(1,3,true,0)] [.i .i64 0,.i .i64 0,.sl .mut 2 [],.sl .mut 1 []])
  | 55 => some .fn
  | 56 => some .fn
  | 57 => some .fn
  | 58 => some .fn
  | 59 => some .fn
  | 60 => some .fn
  | 61 => some .fn
  | 62 => some .fn
  | 63 => some .fn
  | 64 => some .fn
  | 65 => some .fn
  | 67 => some .fn
  | 68 => some .ptr
  | 69 => some .fn
  | 70 => some .fn
  | 71 => some .fn
  | 72 => some .fn
  | 73 => some .fn
  | 74 => some .fn
  | 75 => some .fn
  | 76 => some .fn
  | 77 => some .fn
  | 78 => some .fn
  | 79 => some .ptr
  | 80 => some .fn
  | 81 => some .fn
  | 82 => some .fn
  | 83 => some .fn
  | 84 => some (.struct 2 [(0,1,false,0),(1,1,false,0)] [.s ⟨#[]⟩,.s ⟨#[]⟩])
  | 85 => some (.struct 2 [(0,1,false,0),(1,1,false,0)] [.s ⟨#[]⟩,.s ⟨#[]⟩])
  | 86 => some .fn
  | 87 => some .fn
  | 88 => some .fn
  | 89 => some .fn
  | 90 => some .fn
  | 91 => some .fn
  | 92 => some .fn
  | 93 => some .fn
  | 94 => some .fn
  | 95 => some .fn
  | 96 => some .fn
  | 97 => some (.struct 2 [(0,1,false,0),(1,1,false,0)] [.s ⟨#[]⟩,.s ⟨#[]⟩])
  | 98 => some .fn
  | 99 => some .fn
  | 100 => some .fn
  | 101 => some .fn
  | 102 => some .fn
  | 103 => some .fn
  | 104 => some .fn
  | 105 => some .fn
  | 107 => some .fn
  | 108 => some .fn
  | 109 => some .fn
  | 110 => some .fn
  | 111 => some .fn
  | 112 => some .fn
  | 113 => some .fn
  | 114 => some .fn
  | 116 => some (.int .u64)
  | 117 => some .fn
  | 118 => some .fn
  | 120 => some .fn
  | 121 => some .fn
  | 122 => some .fn
  | 124 => some .fn
  | 125 => some .fn
  | 126 => some .fn
  | 127 => some .fn
  | 129 => some (.int .u32)
  | 131 => some .fn
  | 132 => some (.int .u64)
  | 133 => some .fn
  | 134 => some .fn
  | 135 => some .fn
  | 136 => some .fn
  | 140 => some .fn
  | 141 => some .fn
  | 142 => some .ptr
  | 143 => some .fn
  | 144 => some .fn
  | 145 => some .fn
  | 147 => some (.struct 2 [(0,1,false,0),(1,1,false,0)] [.i .u8 0,.i .u8 0])
  | 148 => some (.struct 2 [(0,1,false,0),(1,1,false,0)] [.i .u8 0,.i .u8 0])
  | 149 => some (.array 16 2 true [.i .u8 0,.i .u8 0,.i .u8 0,.i .u8 0,.i .u8 0,.i .u8 0,.i .u8 0,.i .u8 0,.i .u8 0,.i .u8 0,.i .u8 0,.i .u8 0,.i .u8 0,.i .u8 0,.i .u8 0,.i .u8 0,.i .u8 0,.i .u8 0,.i .u8 0,.i .u8 0,.i .u8 0,.i .u8 0,.i .u8 0,.i .u8 0,.i .u8 0,.i .u8 0,.i .u8 0,.i .u8 0,.i .u8 0,.i .u8 0,.i .u8 0,.i .u8 0])
  | 151 => some .fn
  | 154 => some .fn
  | 155 => some .fn
  | 162 => some .fn
  | 166 => some .ptr
  | _ => none
@[go_sem] def T1:T 1=some .fn :=nr rfl
@[go_sem] def T2:T 2=some (.int .i64) :=nr rfl
@[go_sem] def T3:T 3=some (.int .i64) :=nr rfl
@[go_sem] def T4:T 4=some .bool :=nr rfl
@[go_sem] def T5:T 5=some (.int .u8) :=nr rfl
@[go_sem] def T9:T 9=some .str :=nr rfl
@[go_sem] def T21:T 21=some (.int .i32) :=nr rfl
@[go_sem] def T22:T 22=some (.slice 1 16 [.s ⟨#[]⟩]) :=nr rfl
@[go_sem] def T23:T 23=some (.struct 2 [(0,1,false,0),(1,1,false,1)] [.i .i64 0,.sl .mut 1 []]) :=nr rfl
@[go_sem] def T24:T 24=some (.struct 2 [(0,1,false,0),(1,1,false,1)] [.i .i64 0,.sl .mut 1 []]) :=nr rfl
@[go_sem] def T25:T 25=some .fn :=nr rfl
@[go_sem] def T26:T 26=some .fn :=nr rfl
@[go_sem] def T27:T 27=some .fn :=nr rfl
@[go_sem] def T28:T 28=some .fn :=nr rfl
@[go_sem] def T29:T 29=some (.slice 2 32 [.s ⟨#[]⟩,.s ⟨#[]⟩]) :=nr rfl
@[go_sem] def T30:T 30=some (.slice 1 1 [.i .u8 0]) :=nr rfl
@[go_sem] def T31:T 31=some (.struct 3 [(0,1,false,0),(1,1,false,2),(2,1,false,1)] [.i .i64 0,.sl .mut 2 [],.sl .mut 1 []]) :=nr rfl
@[go_sem] def T32:T 32=some (.struct 3 [(0,1,false,0),(1,1,false,2),(2,1,false,1)] [.i .i64 0,.sl .mut 2 [],.sl .mut 1 []]) :=nr rfl
@[go_sem] def T33:T 33=some (.struct 4 [(0,1,false,0),(1,1,false,0),(2,1,false,0),(3,1,false,2)] [.s ⟨#[]⟩,.s ⟨#[]⟩,.s ⟨#[]⟩,.sl .mut 2 []]) :=nr rfl
@[go_sem] def T34:T 34=some (.struct 4 [(0,1,false,0),(1,1,false,0),(2,1,false,0),(3,1,false,2)] [.s ⟨#[]⟩,.s ⟨#[]⟩,.s ⟨#[]⟩,.sl .mut 2 []]) :=nr rfl
@[go_sem] def T35:T 35=some (.struct 10 [(0,1,false,0),(1,1,false,0),(2,1,false,0),(3,3,true,0),(6,4,true,0)] [.i .i64 0,.i .i64 0,.s ⟨#[]⟩,.i .i64 0,.sl .mut 2 [],.sl .mut 1 [],.s ⟨#[]⟩,.s ⟨#[]⟩,.s ⟨#[]⟩,.sl .mut 2 []]) :=nr rfl
@[go_sem] def T36:T 36=some (.struct 10 [(0,1,false,0),(1,1,false,0),(2,1,false,0),(3,3,true,0),(6,4,true,0)] [.i .i64 0,.i .i64 0,.s ⟨#[]⟩,.i .i64 0,.sl .mut 2 [],.sl .mut 1 [],.s ⟨#[]⟩,.s ⟨#[]⟩,.s ⟨#[]⟩,.sl .mut 2 []]) :=nr rfl
@[go_sem] def T37:T 37=some .fn :=nr rfl
@[go_sem] def T38:T 38=some (.struct 2 [(0,1,false,0),(1,1,false,0)] [.i .i64 0,.s ⟨#[]⟩]) :=nr rfl
@[go_sem] def T39:T 39=some (.struct 2 [(0,1,false,0),(1,1,false,0)] [.i .i64 0,.s ⟨#[]⟩]) :=nr rfl
@[go_sem] def T40:T 40=some .fn :=nr rfl
@[go_sem] def T41:T 41=some (.slice 2 32 [.s ⟨#[]⟩,.s ⟨#[]⟩]) :=nr rfl
@[go_sem] def T42:T 42=some (.struct 3 [(0,1,false,0),(1,1,false,2),(2,1,false,1)] [.i .i64 0,.sl .mut 2 [],.sl .mut 1 []]) :=nr rfl
@[go_sem] def T43:T 43=some (.struct 3 [(0,1,false,0),(1,1,false,2),(2,1,false,1)] [.i .i64 0,.sl .mut 2 [],.sl .mut 1 []]) :=nr rfl
@[go_sem] def T44:T 44=some (.struct 4 [(0,1,false,0),(1,1,false,0),(2,1,false,0),(3,1,false,2)] [.s ⟨#[]⟩,.s ⟨#[]⟩,.s ⟨#[]⟩,.sl .mut 2 []]) :=nr rfl
@[go_sem] def T45:T 45=some (.struct 4 [(0,1,false,0),(1,1,false,0),(2,1,false,0),(3,1,false,2)] [.s ⟨#[]⟩,.s ⟨#[]⟩,.s ⟨#[]⟩,.sl .mut 2 []]) :=nr rfl
@[go_sem] def T46:T 46=some (.struct 10 [(0,1,false,0),(1,1,false,0),(2,1,false,0),(3,3,true,0),(6,4,true,0)] [.i .i64 0,.i .i64 0,.s ⟨#[]⟩,.i .i64 0,.sl .mut 2 [],.sl .mut 1 [],.s ⟨#[]⟩,.s ⟨#[]⟩,.s ⟨#[]⟩,.sl .mut 2 []]) :=nr rfl
@[go_sem] def T47:T 47=some (.struct 10 [(0,1,false,0),(1,1,false,0),(2,1,false,0),(3,3,true,0),(6,4,true,0)] [.i .i64 0,.i .i64 0,.s ⟨#[]⟩,.i .i64 0,.sl .mut 2 [],.sl .mut 1 [],.s ⟨#[]⟩,.s ⟨#[]⟩,.s ⟨#[]⟩,.sl .mut 2 []]) :=nr rfl
@[go_sem] def T48:T 48=some .fn :=nr rfl
@[go_sem] def T49:T 49=some .fn :=nr rfl
@[go_sem] def T50:T 50=some .fn :=nr rfl
@[go_sem] def T51:T 51=some .fn :=nr rfl
@[go_sem] def T52:T 52=some .fn :=nr rfl
@[go_sem] def T53:T 53=some (.struct 4 [(0,1,false,0),(1,3,true,0)] [.i .i64 0,.i .i64 0,.sl .mut 2 [],.sl .mut 1 []]) :=nr rfl
@[go_sem] def T54:T 54=some (.struct 4 [(0,1,false,0),(1,3,true,0)] [.i .i64 0,.i .i64 0,.sl .mut 2 [],.sl .mut 1 []]) :=nr rfl
@[go_sem] def T55:T 55=some .fn :=nr rfl
@[go_sem] def T56:T 56=some .fn :=nr rfl
@[go_sem] def T57:T 57=some .fn :=nr rfl
@[go_sem] def T58:T 58=some .fn :=nr rfl
@[go_sem] def T59:T 59=some .fn :=nr rfl
@[go_sem] def T60:T 60=some .fn :=nr rfl
@[go_sem] def T61:T 61=some .fn :=nr rfl
@[go_sem] def T62:T 62=some .fn :=nr rfl
@[go_sem] def T63:T 63=some .fn :=nr rfl
@[go_sem] def T64:T 64=some .fn :=nr rfl
@[go_sem] def T65:T 65=some .fn :=nr rfl
@[go_sem] def T67:T 67=some .fn :=nr rfl
@[go_sem] def T68:T 68=some .ptr :=nr rfl
@[go_sem] def T69:T 69=some .fn :=nr rfl
@[go_sem] def T70:T 70=some .fn :=nr rfl
@[go_sem] def T71:T 71=some .fn :=nr rfl
@[go_sem] def T72:T 72=some .fn :=nr rfl
@[go_sem] def T73:T 73=some .fn :=nr rfl
@[go_sem] def T74:T 74=some .fn :=nr rfl
@[go_sem] def T75:T 75=some .fn :=nr rfl
@[go_sem] def T76:T 76=some .fn :=nr rfl
@[go_sem] def T77:T 77=some .fn :=nr rfl
@[go_sem] def T78:T 78=some .fn :=nr rfl
@[go_sem] def T79:T 79=some .ptr :=nr rfl
@[go_sem] def T80:T 80=some .fn :=nr rfl
@[go_sem] def T81:T 81=some .fn :=nr rfl
@[go_sem] def T82:T 82=some .fn :=nr rfl
@[go_sem] def T83:T 83=some .fn :=nr rfl
@[go_sem] def T84:T 84=some (.struct 2 [(0,1,false,0),(1,1,false,0)] [.s ⟨#[]⟩,.s ⟨#[]⟩]) :=nr rfl
@[go_sem] def T85:T 85=some (.struct 2 [(0,1,false,0),(1,1,false,0)] [.s ⟨#[]⟩,.s ⟨#[]⟩]) :=nr rfl
@[go_sem] def T86:T 86=some .fn :=nr rfl
@[go_sem] def T87:T 87=some .fn :=nr rfl
@[go_sem] def T88:T 88=some .fn :=nr rfl
@[go_sem] def T89:T 89=some .fn :=nr rfl
@[go_sem] def T90:T 90=some .fn :=nr rfl
@[go_sem] def T91:T 91=some .fn :=nr rfl
@[go_sem] def T92:T 92=some .fn :=nr rfl
@[go_sem] def T93:T 93=some .fn :=nr rfl
@[go_sem] def T94:T 94=some .fn :=nr rfl
@[go_sem] def T95:T 95=some .fn :=nr rfl
@[go_sem] def T96:T 96=some .fn :=nr rfl
@[go_sem] def T97:T 97=some (.struct 2 [(0,1,false,0),(1,1,false,0)] [.s ⟨#[]⟩,.s ⟨#[]⟩]) :=nr rfl
@[go_sem] def T98:T 98=some .fn :=nr rfl
@[go_sem] def T99:T 99=some .fn :=nr rfl
@[go_sem] def XBA:T 100=some .fn :=nr rfl
@[go_sem] def XBB:T 101=some .fn :=nr rfl
@[go_sem] def XBC:T 102=some .fn :=nr rfl
@[go_sem] def XBD:T 103=some .fn :=nr rfl
@[go_sem] def XBE:T 104=some .fn :=nr rfl
@[go_sem] def XBF:T 105=some .fn :=nr rfl
@[go_sem] def XBG:T 107=some .fn :=nr rfl
@[go_sem] def XBH:T 108=some .fn :=nr rfl
@[go_sem] def XBI:T 109=some .fn :=nr rfl
@[go_sem] def XBJ:T 110=some .fn :=nr rfl
@[go_sem] def XBK:T 111=some .fn :=nr rfl
@[go_sem] def XBL:T 112=some .fn :=nr rfl
@[go_sem] def XBM:T 113=some .fn :=nr rfl
@[go_sem] def XBN:T 114=some .fn :=nr rfl
@[go_sem] def XBO:T 116=some (.int .u64) :=nr rfl
@[go_sem] def XBP:T 117=some .fn :=nr rfl
@[go_sem] def XBQ:T 118=some .fn :=nr rfl
@[go_sem] def XBR:T 120=some .fn :=nr rfl
@[go_sem] def XBS:T 121=some .fn :=nr rfl
@[go_sem] def XBT:T 122=some .fn :=nr rfl
@[go_sem] def XBU:T 124=some .fn :=nr rfl
@[go_sem] def XBV:T 125=some .fn :=nr rfl
@[go_sem] def XBW:T 126=some .fn :=nr rfl
@[go_sem] def XBX:T 127=some .fn :=nr rfl
@[go_sem] def XBY:T 129=some (.int .u32) :=nr rfl
@[go_sem] def XBZ:T 131=some .fn :=nr rfl
@[go_sem] def XB0:T 132=some (.int .u64) :=nr rfl
@[go_sem] def XB1:T 133=some .fn :=nr rfl
@[go_sem] def XB2:T 134=some .fn :=nr rfl
@[go_sem] def XB3:T 135=some .fn :=nr rfl
@[go_sem] def XB4:T 136=some .fn :=nr rfl
@[go_sem] def XB5:T 140=some .fn :=nr rfl
@[go_sem] def XB6:T 141=some .fn :=nr rfl
@[go_sem] def XB7:T 142=some .ptr :=nr rfl
@[go_sem] def XB8:T 143=some .fn :=nr rfl
@[go_sem] def XB9:T 144=some .fn :=nr rfl
@[go_sem] def XCa:T 145=some .fn :=nr rfl
@[go_sem] def XCb:T 147=some (.struct 2 [(0,1,false,0),(1,1,false,0)] [.i .u8 0,.i .u8 0]) :=nr rfl
@[go_sem] def XCc:T 148=some (.struct 2 [(0,1,false,0),(1,1,false,0)] [.i .u8 0,.i .u8 0]) :=nr rfl
@[go_sem] def XCd:T 149=some (.array 16 2 true [.i .u8 0,.i .u8 0,.i .u8 0,.i .u8 0,.i .u8 0,.i .u8 0,.i .u8 0,.i .u8 0,.i .u8 0,.i .u8 0,.i .u8 0,.i .u8 0,.i .u8 0,.i .u8 0,.i .u8 0,.i .u8 0,.i .u8 0,.i .u8 0,.i .u8 0,.i .u8 0,.i .u8 0,.i .u8 0,.i .u8 0,.i .u8 0,.i .u8 0,.i .u8 0,.i .u8 0,.i .u8 0,.i .u8 0,.i .u8 0,.i .u8 0,.i .u8 0]) :=nr rfl
@[go_sem] def XCe:T 151=some .fn :=nr rfl
@[go_sem] def XCf:T 154=some .fn :=nr rfl
@[go_sem] def XCg:T 155=some .fn :=nr rfl
@[go_sem] def XCh:T 162=some .fn :=nr rfl
@[go_sem] def XCi:T 166=some .ptr :=nr rfl
def Q:TypeId->Option (List Nat)
  | 38 => some [1,2]
  | 39 => some [1,2]
  | 84 => some [2,2]
  | 85 => some [2,2]
  | 97 => some [2,2]
  | 147 => some [1,1]
  | 148 => some [1,1]
  | _ => none
@[go_sem] def Q38:Q 38=some [1,2] :=nr rfl
@[go_sem] def Q39:Q 39=some [1,2] :=nr rfl
@[go_sem] def Q84:Q 84=some [2,2] :=nr rfl
@[go_sem] def Q85:Q 85=some [2,2] :=nr rfl
@[go_sem] def Q97:Q 97=some [2,2] :=nr rfl
@[go_sem] def XCj:Q 147=some [1,1] :=nr rfl
@[go_sem] def XCk:Q 148=some [1,1] :=nr rfl
instance instTb:HasTb Tryd.prog :=⟨λ_ _ => True,λ_ _ _ _ => trivial⟩
def XAW(cx:Cx)(h:cx.T=T)(h2:cx.eqs=Q):XcY Tryd.prog cx :=by
  refine⟨λt ti ht => ?_,λt ks hk => ?_⟩
  · rw[h] at ht
    unfold T at ht
    split at ht<;>first | cases ht; done | (injection ht with ht; subst ht; exact Xmh (by kernel_rfl))
  · rw[h2] at hk
    unfold Q at hk
    split at hk<;>first | cases hk; done | (injection hk with hk; subst hk; kernel_rfl)
def tyA:Xln Tryd.prog :=⟨T,Q,XAW,by kernel_rfl⟩
@[go_sem] def XAX:tyA.T=T :=nr rfl
@[go_sem] def XAY:tyA.Q=Q :=nr rfl
end Go.Vm.A
namespace Go.Proofs
open Go.Shelf
def Tryd.lays160_ren:Go.Shelf.Ren :=⟨fun | 160 => 105 | 232 => 123 | 231 => 122 | 227 => 124 | 234 => 126 | 233 => 125 | 236 => 128 | 235 => 127 | 228 => 142 | 271 => 144 | 151 => 143 | 197 => 108 | 120 => 148 | 152 => 147 | 260 => 130 | 137 => 141 | 119 => 149 | 224 => 133 | 225 => 132 | 217 => 131 | 266 => 145 | n => n,fun | 9 => 9 | 4 => 4 | 3 => 3 | 5 => 5 | 117 => 139 | 116 => 138 | 0 => 0 | 124 => 142 | 21 => 21 | 105 => 123 | 46 => 132 | 119 => 146 | 139 => 149 | 138 => 148 | n => n,fun | 3 => 2 | 4 => 3 | n => n⟩
def Tryd.lays160:Go.Proofs.Lays.n160 Tryd.prog Tryd.lays160_ren :={
  mixed :=by kernel_rfl
  f119 :=Tryd.func149.trans (congrArg some (by kernel_rfl))
  f120 :=Tryd.func148.trans (congrArg some (by kernel_rfl))
  f137 :=Tryd.func141.trans (congrArg some (by kernel_rfl))
  f151 :=Tryd.func143.trans (congrArg some (by kernel_rfl))
  f152 :=Tryd.func147.trans (congrArg some (by kernel_rfl))
  f160 :=Tryd.func105.trans (congrArg some (by kernel_rfl))
  f197 :=Tryd.func108.trans (congrArg some (by kernel_rfl))
  f217 :=Tryd.func131.trans (congrArg some (by kernel_rfl))
  f224 :=Tryd.func133.trans (congrArg some (by kernel_rfl))
  f225 :=Tryd.func132.trans (congrArg some (by kernel_rfl))
  f227 :=Tryd.func124.trans (congrArg some (by kernel_rfl))
  f228 :=Tryd.func142.trans (congrArg some (by kernel_rfl))
  f231 :=Tryd.func122.trans (congrArg some (by kernel_rfl))
  f232 :=Tryd.func123.trans (congrArg some (by kernel_rfl))
  f233 :=Tryd.func125.trans (congrArg some (by kernel_rfl))
  f234 :=Tryd.func126.trans (congrArg some (by kernel_rfl))
  f235 :=Tryd.func127.trans (congrArg some (by kernel_rfl))
  f236 :=Tryd.func128.trans (congrArg some (by kernel_rfl))
  f260 :=Tryd.func130.trans (congrArg some (by kernel_rfl))
  f266 :=Tryd.func145.trans (congrArg some (by kernel_rfl))
  f271 :=Tryd.func144.trans (congrArg some (by kernel_rfl))
  t0 :=Tryd.underlying0
  a0 :=Tryd.isAgg0
  z0 :=Tryd.sizeOf0
  v0 :=Tryd.zeroValue0
  t3 :=Tryd.underlying3
  a3 :=Tryd.isAgg3
  z3 :=Tryd.sizeOf3
  v3 :=Tryd.zeroValue3
  t4 :=Tryd.underlying4
  a4 :=Tryd.isAgg4
  z4 :=Tryd.sizeOf4
  v4 :=Tryd.zeroValue4
  t5 :=Tryd.underlying5
  a5 :=Tryd.isAgg5
  z5 :=Tryd.sizeOf5
  v5 :=Tryd.zeroValue5
  t9 :=Tryd.underlying9
  a9 :=Tryd.isAgg9
  z9 :=Tryd.sizeOf9
  v9 :=Tryd.zeroValue9
  t21 :=Tryd.underlying21
  a21 :=Tryd.isAgg21
  z21 :=Tryd.sizeOf21
  v21 :=Tryd.zeroValue21
  t46 :=Tryd.underlying132
  a46 :=Tryd.isAgg132
  z46 :=Tryd.sizeOf132
  v46 :=Tryd.zeroValue132
  t105 :=Tryd.underlying123
  a105 :=Tryd.isAgg123
  z105 :=Tryd.sizeOf123
  v105 :=Tryd.zeroValue123
  t116 :=Tryd.underlying138
  a116 :=Tryd.isAgg138
  z116 :=Tryd.sizeOf138
  t117 :=Tryd.underlying139
  a117 :=Tryd.isAgg139
  z117 :=Tryd.sizeOf139
  v117 :=Tryd.zeroValue139
  t119 :=Tryd.underlying146
  a119 :=Tryd.isAgg146
  z119 :=Tryd.sizeOf146
  t124 :=Tryd.underlying142
  a124 :=Tryd.isAgg142
  z124 :=Tryd.sizeOf142
  v124 :=Tryd.zeroValue142
  t138 :=Tryd.underlying148
  a138 :=Tryd.isAgg148
  z138 :=Tryd.sizeOf148
  v138 :=Tryd.zeroValue148
  t139 :=Tryd.underlying149
  a139 :=Tryd.isAgg149
  z139 :=Tryd.sizeOf149
  v139 :=Tryd.zeroValue149
  g3 :=by kernel_rfl
  g4 :=by kernel_rfl}
def Tryd.trimSpTab(s:ByteArray)(w:World)(hs:s.size<=9223372036854775807) :
    Calls Tryd.prog 105 #[.string s,.string ⟨#[32,9]⟩] w λe w' => e=.returned (.string ⟨(Lib.trimS s.data.toList [32,9]).toArray⟩)/\Go.RowKit.Below w.heap.size w w' :=
  Any.strings_Trim_laid Tryd.lays160 (by kernel_rfl) s ⟨#[32,9]⟩ w hs (by decide) (ascii_of_all (by decide))
def Tryd.insInfo:∃(i0:TypeInfo) (zv:Value),Tryd.prog.info? 85=some i0/\i0.zero=some zv/\i0.bytes=32/\i0.size=2/\zv.cells.size=2 :=by
  have h:(Tryd.prog.info? 85).map (λi => (i.bytes,i.size,i.zero.map λz => z.cells.size))=some (32,2,some 2) :=by kernel_rfl
  obtain⟨i0,h1,h2⟩ :=Option.map_eq_some_iff.1 h
  simp only[Prod.mk.injEq] at h2
  obtain⟨e1,e2,e3⟩ :=h2
  obtain⟨zv,e4,e5⟩ :=Option.map_eq_some_iff.1 e3
  exact⟨i0,zv,h1,e4,e1,e2,e5⟩
def Tryd.insOv(w:World)(a b:Addr)(la ca lb cb:Nat)(tA tB:TypeId)(kA kB:Nat)(hsa:w.shape? a.block=some (tA,kA))(hsb:w.shape? b.block=some (tB,kB))(hkB:kB≠0)
    (hfa:a.block≠b.block->∀j,w.frozen? ⟨a.block,j,none⟩=false) (hsp:a.spot=none) (hap:a.block=b.block->¬(a.off<b.off+lb*2/\b.off<a.off+la*2)) :
    (callFunc 90 #[.slice (some a) la ca,.slice (some b) lb cb]).run Tryd.prog w=.ok (.value (.bool false)) w :=by
  obtain⟨i0,zv,h1,h2,h3,h4,h5⟩ :=Tryd.insInfo
  have hz:∀w,(Go.sizeOf 85).run Tryd.prog w=.ok 2 w :=λw => by simp[Go.sizeOf,typeInfo,h1,h4]
  rw[run_callFunc_extern Tryd.func90 (by kernel_rfl) (by kernel_rfl) (by kernel_rfl) (e :=Extern.SlicesOverlaps.overlaps #[41,41] #[4]) (by kernel_rfl),
    Go.Vm.run_overlaps_own w 41 4 85 Tryd.underlying41 2 hz a b la ca lb cb tA tB kA kB hsa hsb hkB hfa hsp hap]
  rfl
set_option maxHeartbeats 4000000 in
set_option maxRecDepth 100000 in
def Tryd.insShift(b off n c i vb voff vc:Nat)(cs vs:List Value)(w:World)(hi:i<n)(hroom:n+1<=c)(hc63:n+1<=9223372036854775807)(hcl:cs.length=n*2)(hvl:vs.length=2)
    (hcs:∀j v,cs[j]?=some v->w.cell? ⟨b,off+j,none⟩=some v) (hsp:∀j,j<(n+1)*2->(w.cell? ⟨b,off+j,none⟩).isSome=true) (hfz:∀j,j<(n+1)*2->w.frozen? ⟨b,off+j,none⟩=false)
    (hvs:∀j v,vs[j]?=some v->w.cell? ⟨vb,voff+j,none⟩=some v) (h1c:∀v∈cs,v.oneCell'=true) (h1v:∀v∈vs,v.oneCell'=true)
    (hov:∀lb cb,lb=n-i->(callFunc 90 #[.slice (some ⟨vb,voff,none⟩) 1 vc,.slice (some ⟨b,off+(i+1)*2,none⟩) lb cb]).run Tryd.prog w=.ok (.value (.bool false)) w)
    (hap:vb=b->∀j k,j<2->k<(n+1)*2->voff+j≠off+k) :
    Calls Tryd.prog 77 #[.slice (some ⟨b,off,none⟩) n c,.int .i64 i,.slice (some ⟨vb,voff,none⟩) 1 vc] w λe w' =>
      e=.returned (.slice (some ⟨b,off,none⟩) (n+1) c)/\w'=(w.drew.setCells b (off+(i+1)*2) (cs.drop (i*2))).setCells b (off+i*2) vs :=by
  obtain⟨i0,zv,h1,h2,h3,h4,h5⟩ :=Tryd.insInfo
  have hsz:(Tryd.prog.info? 85).map (·.size)=some 2 :=by rw[h1]; simp[h4]
  have hz9:∀w,(Go.sizeOf 85).run Tryd.prog w=.ok 2 w :=λw => by simp[Go.sizeOf,typeInfo,h1,h4]
  have u :=run_underlying Tryd.underlying41
  have hz2:¬((i:Int)=(n:Int)) :=by omega
  have hdl:(cs.drop (i*2)).length=(n-i)*2 :=by rw[List.length_drop,hcl]; omega
  have hw1:IntKind.i64.wrap ((i:Int)+1)=(i:Int)+1 :=by rw[IntKind.wrap_i64]; omega
  have hb1:(0:Int)<=(i:Int)+1 :=by omega
  have hin:i<=n :=by omega
  have htn:((i:Int)+1).toNat=i+1 :=by omega
  have hb2:¬(c=i+1) :=by omega
  have hb3:(i:Int)<=(n:Int)+1 :=by omega
  have hb4:¬(c=i) :=by omega
  have hcp1:∀ty dc sc,(Builtin.copy_ #[41,41] ty #[.slice (some ⟨b,off+(i+1)*2,none⟩) (n-i) dc,.slice (some ⟨b,off+i*2,none⟩) (n+1-i) sc]).run Tryd.prog w.drew=.ok (goInt ((n-i:Nat):Int)) (w.drew.setCells b (off+(i+1)*2) (cs.drop (i*2))) :=λty dc sc =>
    Go.Vm.run_copy_rows w.drew _ _ ty 85 2 (n-i) b (off+(i+1)*2) (n-i) dc ⟨b,off+i*2,none⟩ (n+1-i) sc (cs.drop (i*2)) Tryd.underlying41 hsz (by simp only[Nat.min_def]; split<;>omega) hdl
      (λj v hj => by rw[Addr.add_lit,Nat.add_assoc]; exact hcs (i*2+j) v (by rwa [List.getElem?_drop] at hj))
      (λj hj => by rw[Nat.add_assoc]; exact hsp _ (by omega)) (λj hj => by rw[Nat.add_assoc]; exact hfz _ (by omega)) (λv hv => h1c v (List.mem_of_mem_drop hv))
  obtain⟨W1,hW1⟩:∃W1,W1=w.drew.setCells b (off+(i+1)*2) (cs.drop (i*2)) :=⟨_,rfl⟩
  have hsp1:∀k,k<(n+1)*2->(W1.cell? ⟨b,off+k,none⟩).isSome=true :=λk hk => by
    rw[hW1]
    exact isSome_setCells b _ _ _ (λj hj => by rw[Nat.add_assoc]; exact hsp _ (by omega)) _ (hsp k hk)
  have hcp2:∀(W:World),(∀x,W.cell? x=W1.cell? x)->(∀x,W.frozen? x=W1.frozen? x)->∀ty dc,(Builtin.copy_ #[41,41] ty #[.slice (some ⟨b,off+i*2,none⟩) (n+1-i) dc,.slice (some ⟨vb,voff,none⟩) 1 vc]).run Tryd.prog W=.ok (goInt ((1:Nat):Int)) (W.setCells b (off+i*2) vs) :=λW hWc hWf ty dc =>
    Go.Vm.run_copy_rows W _ _ ty 85 2 1 b (off+i*2) (n+1-i) dc ⟨vb,voff,none⟩ 1 vc vs Tryd.underlying41 hsz (by simp only[Nat.min_def]; split<;>omega) hvl
      (λj v hj => by
        have hj2:j<2 :=by rw[<-hvl]; exact(List.getElem?_eq_some_iff.1 hj).1
        rw[Addr.add_lit,hWc,hW1,World.cell?_setCells_out b _ _ _ _ (λh _ => by
          have :=hap h j
          by_cases hlt:voff+j<off+(i+1)*2
          · exact .inl hlt
          · right
            rw[hdl]
            rcases Nat.lt_or_ge (voff+j) (off+(i+1)*2+(n-i)*2) with hq | hq
            · exact absurd (show voff+j=off+(voff+j-off) by omega) (this (voff+j-off) hj2 (by omega))
            · exact hq)]
        exact hvs j v hj)
      (λj hj => by rw[hWc,Nat.add_assoc]; exact hsp1 _ (by omega)) (λj hj => by rw[hWf,hW1,World.frozen?_setCells,Nat.add_assoc]; exact hfz _ (by omega)) h1v
  rw[<-hW1] at hcp1
  have hovx :=λlb cb h => hov lb cb h
  have mixed:Tryd.prog.follows .mixedOrders=true :=by kernel_rfl
  go_enter Tryd.func77,Tryd.ntmps77
  go_wp2_with (simp only[hov _ _ rfl])
  go_region_law_o (refine step_copy_runI rfl _ _ 41 41 rfl _ _ (by simp[Act.eval,Act.put]) (by simp[Act.eval,Act.put]) (hcp1 _ _ _) ?_)
  go_wp2_with (at_builtin; refine wpList_copy_runI _ rfl _ _ 41 41 rfl _ _ rfl rfl (hcp2 _ (λ_ => rfl) (λ_ => rfl) _ _) ?_)
  go_ret
  first | exact⟨rfl,rfl⟩ | exact⟨rfl,by rw[hW1]⟩
set_option maxHeartbeats 4000000 in
set_option maxRecDepth 100000 in
def Tryd.insRoom(b off n c vb voff vc:Nat)(vs:List Value)(w:World)(hroom:n+1<=c)(hc63:n+1<=9223372036854775807)(hvl:vs.length=2)
    (hsp:∀j,j<2->(w.cell? ⟨b,off+n*2+j,none⟩).isSome=true) (hfz:∀j,j<2->w.frozen? ⟨b,off+n*2+j,none⟩=false)
    (hvs:∀j v,vs[j]?=some v->w.cell? ⟨vb,voff+j,none⟩=some v) (h1v:∀v∈vs,v.oneCell'=true) :
    Calls Tryd.prog 77 #[.slice (some ⟨b,off,none⟩) n c,.int .i64 n,.slice (some ⟨vb,voff,none⟩) 1 vc] w λe w' =>
      e=.returned (.slice (some ⟨b,off,none⟩) (n+1) c)/\w'=w.setCells b (off+n*2) vs :=by
  obtain⟨i0,zv,h1,h2,h3,h4,h5⟩ :=Tryd.insInfo
  have u :=run_underlying Tryd.underlying41
  have mixed:Tryd.prog.follows .mixedOrders=true :=by kernel_rfl
  have hrun:∀ty,(Builtin.append_ #[41,41] ty #[.slice (some ⟨b,off,none⟩) n c,.slice (some ⟨vb,voff,none⟩) 1 vc]).run Tryd.prog w=.ok (.slice (some ⟨b,off,none⟩) (n+1) c) (w.setCells b (off+n*2) vs) :=λty =>
    Go.Vm.run_append_in Tryd.underlying41 Tryd.underlying41 (.inr ⟨_,rfl⟩) h1 (m :=1) (λw => rfl)
      (by rw[h4]; exact run_firstCells_some w 2 1 ⟨vb,voff,none⟩ 1 vc vs hvl (λj v hj => by rw[Addr.add_lit]; exact hvs j v hj)) hroom
      (λa ha => by
        injection ha with ha; subst ha
        rw[h4,Addr.add_lit]
        have :=run_storeCells_cells (P :=Tryd.prog) b (off+n*2) vs 0 w (λj hj => by simpa using hsp j (by omega)) (λj hj => by simpa using hfz j (by omega)) h1v
        simpa using this) (λe => by cases e)
  go_enter Tryd.func77,Tryd.ntmps77
  go_wp2_with (at_builtin; refine Lib.wpList_append_run _ rfl _ _ _ _ rfl _ _ rfl rfl _ _ (hrun _) ?_)
  go_ret
  exact⟨rfl,rfl⟩
set_option maxHeartbeats 4000000 in
set_option maxRecDepth 100000 in
def Tryd.insEnd(i0:TypeInfo)(zv:Value)(h1:Tryd.prog.info? 85=some i0)(h2:i0.zero=some zv)(h3:i0.bytes=32)(h4:i0.size=2)(base:Option Addr)(n c vb voff vc:Nat)(cs vs:List Value)(w:World)(hnc:n<=c)(hroom:c<n+1)(hbig:(n+1)*32<=140737488355328)
    (hcl:cs.length=n*2) (hvl:vs.length=2) (hnil:base=none->n=0) (hcs:∀a,base=some a->∀j v,cs[j]?=some v->w.cell? (a.add j)=some v) (hvs:∀j v,vs[j]?=some v->w.cell? ⟨vb,voff+j,none⟩=some v) :
    Calls Tryd.prog 77 #[.slice base n c,.int .i64 n,.slice (some ⟨vb,voff,none⟩) 1 vc] w λe w' =>
      e=.returned (.slice (some ⟨w.heap.size,0,none⟩) (n+1) (grownCap w (n+1) c 85))/\w'=w.drew.alloc (.cells (cs.toArray++vs.toArray++Builtin.zeroCells zv.cells (grownCap w (n+1) c 85-(n+1))) 85) :=by
  have u :=run_underlying Tryd.underlying41
  have mixed:Tryd.prog.follows .mixedOrders=true :=by kernel_rfl
  have hold:(Builtin.firstCells i0.size n (.slice base n c)).run Tryd.prog w.drew=.ok cs.toArray w.drew :=by
    rw[h4]
    cases base with
    | none =>
      have h0 :=hnil rfl
      subst h0
      have hc0:cs=[] :=List.length_eq_zero_iff.1 (by omega)
      rw[hc0]
      exact run_firstCells_none w.drew 2 0 0 c
    | some a => exact run_firstCells_some w.drew 2 n a n c cs hcl (λj v hj => hcs a rfl j v hj)
  have hrun:∀ty,(Builtin.append_ #[41,41] ty #[.slice base n c,.slice (some ⟨vb,voff,none⟩) 1 vc]).run Tryd.prog w=.ok (.slice (some ⟨w.heap.size,0,none⟩) (n+1) (grownCap w (n+1) c 85)) (w.drew.alloc (.cells (cs.toArray++vs.toArray++Builtin.zeroCells zv.cells (grownCap w (n+1) c 85-(n+1))) 85)) :=λty =>
    Go.Vm.run_append_new Tryd.underlying41 Tryd.underlying41 (.inr ⟨_,rfl⟩) h1 h2 (m :=1) (λw => rfl) hold
      (by rw[h4]; exact run_firstCells_some w.drew 2 1 ⟨vb,voff,none⟩ 1 vc vs hvl (λj v hj => by rw[Addr.add_lit]; exact hvs j v hj)) hroom (by omega) (by rw[h3]; exact growslice_fits hroom hbig)
  obtain⟨ROW,hROW⟩:∃ROW:Array Value,ROW=cs.toArray++vs.toArray++Builtin.zeroCells zv.cells (grownCap w (n+1) c 85-(n+1)) :=⟨_,rfl⟩
  rw[<-hROW] at hrun ⊢
  clear hROW hold
  go_enter Tryd.func77,Tryd.ntmps77
  cases base with
  | none =>
    have h0 :=hnil rfl
    subst h0
    go_wp2_with (at_builtin; refine Lib.wpList_append_run _ rfl _ _ _ _ rfl _ _ rfl rfl _ _ (hrun _) ?_)
    all_goals (go_ret; exact⟨rfl,rfl⟩)
  | some a =>
    obtain⟨ab,ao,asp⟩ :=a
    go_wp2_with (at_builtin; refine Lib.wpList_append_run _ rfl _ _ _ _ rfl _ _ rfl rfl _ _ (hrun _) ?_)
    all_goals (go_ret; exact⟨rfl,rfl⟩)
set_option maxHeartbeats 4000000 in
set_option maxRecDepth 100000 in
def Tryd.insGrow(i0:TypeInfo)(zv:Value)(h1:Tryd.prog.info? 85=some i0)(h2:i0.zero=some zv)(h3:i0.bytes=32)(h4:i0.size=2)(h5:zv.cells.size=2)(b off n c i vb voff vc:Nat)(cs vs:List Value)(w:World)(hi:i<n)(hnc:n<=c)(hroom:c<n+1)(hbig:(n+1)*32<=140737488355328)
    (hcl:cs.length=n*2) (hvl:vs.length=2) (hcs:∀j v,cs[j]?=some v->w.cell? ⟨b,off+j,none⟩=some v) (hvs:∀j v,vs[j]?=some v->w.cell? ⟨vb,voff+j,none⟩=some v) (h1c:∀v∈cs,v.oneCell'=true) (h1v:∀v∈vs,v.oneCell'=true) :
    Calls Tryd.prog 77 #[.slice (some ⟨b,off,none⟩) n c,.int .i64 i,.slice (some ⟨vb,voff,none⟩) 1 vc] w λe w' =>
      e=.returned (.slice (some ⟨w.heap.size,0,none⟩) (n+1) (grownCap w (n+1) c 85)) /\
      w'=(((w.alloc (.cells ((cs.take (i*2)).toArray++Builtin.zeroCells zv.cells (n+1-i)++Builtin.zeroCells zv.cells (grownCap w (n+1) c 85-(n+1))) 85)).drew.setCells w.heap.size (i*2) vs).drew).setCells w.heap.size ((i+1)*2) (cs.drop (i*2)) :=by
  have u :=run_underlying Tryd.underlying41
  have mixed:Tryd.prog.follows .mixedOrders=true :=by kernel_rfl
  have hz2:¬((i:Int)=(n:Int)) :=by omega
  have hz3:(c:Int)<(n:Int)+1 :=by omega
  have hsz:(Tryd.prog.info? 85).map (·.size)=some 2 :=by rw[h1]; simp[h4]
  have hbw:b<w.heap.size :=block_lt_of_cell (hcs 0 _ (List.getElem?_eq_getElem (by omega)))
  have hvw:vb<w.heap.size :=block_lt_of_cell (hvs 0 _ (List.getElem?_eq_getElem (by omega)))
  have hkk:(n:Int)+1-(i:Int)=((n+1-i:Nat):Int) :=by omega
  have hik:i+(n+1-i)=n+1 :=by omega
  have hold:(Builtin.firstCells i0.size i (.slice (some ⟨b,off,none⟩) i c)).run Tryd.prog w.drew=.ok (cs.take (i*2)).toArray w.drew :=by
    rw[h4]
    exact run_firstCells_some w.drew 2 i ⟨b,off,none⟩ i c (cs.take (i*2)) (by rw[List.length_take]; omega) (λj v hj => by
      rw[Addr.add_lit]
      rw[List.getElem?_take] at hj
      split at hj
      · exact hcs j v hj
      · cases hj)
  have hrz:∀ty,(Builtin.append_ #[41,3] ty #[.slice (some ⟨b,off,none⟩) i c,.int .i64 ((n:Int)+1-(i:Int))]).run Tryd.prog w =
      .ok (.slice (some ⟨w.heap.size,0,none⟩) (n+1) (grownCap w (n+1) c 85)) (w.drew.alloc (.cells ((cs.take (i*2)).toArray++Builtin.zeroCells zv.cells (n+1-i)++Builtin.zeroCells zv.cells (grownCap w (n+1) c 85-(n+1))) 85)) :=λty => by
    have h :=Lib.run_append_grow_zeros w 41 3 ty 85 i0 zv .i64 .i64 Tryd.underlying41 Tryd.underlying3 h1 h2 (some ⟨b,off,none⟩) i c (cs.take (i*2)) hold (n+1-i) (by omega) (by omega) (by omega) (by omega) (by rw[h3]; omega) (by rw[h3,hik]; exact growslice_fits hroom hbig)
    rw[hik] at h
    rw[hkk]
    exact h
  obtain⟨G,hG⟩:∃G,G=grownCap w (n+1) c 85 :=⟨_,rfl⟩
  obtain⟨ROW,hROW⟩:∃ROW:Array Value,ROW=(cs.take (i*2)).toArray++Builtin.zeroCells zv.cells (n+1-i)++Builtin.zeroCells zv.cells (G-(n+1)) :=⟨_,rfl⟩
  rw[<-hG] at hrz ⊢
  rw[<-hROW] at hrz ⊢
  have hRl:(n+1)*2<=ROW.size :=by
    have hzs:∀q,(Builtin.zeroCells zv.cells q).size=q*2 :=λq => by rw[<-h5]; simp[Builtin.zeroCells]
    rw[hROW]
    simp only[Array.size_append,hzs,List.size_toArray,List.length_take]
    omega
  obtain⟨W1,hW1⟩:∃W1,W1=w.drew.alloc (.cells ROW 85) :=⟨_,rfl⟩
  rw[<-hW1] at hrz
  have hN:∀j,j<(n+1)*2->(W1.cell? ⟨w.heap.size,j,none⟩).isSome=true :=λj hj => by
    rw[hW1,World.cell?_alloc_at (w :=w.drew) ROW _ w.heap.size j rfl,Array.getElem?_eq_getElem (by omega)]; rfl
  have hNf:∀j,W1.frozen? ⟨w.heap.size,j,none⟩=false :=λj => by rw[hW1]; exact World.frozen?_alloc_at (w :=w.drew) ROW _ w.heap.size j rfl
  have hOb:∀j v,w.cell? ⟨b,j,none⟩=some v->W1.cell? ⟨b,j,none⟩=some v :=λj v h => by rw[hW1,World.cell?_alloc_past (w :=w.drew) _ b j hbw]; exact h
  have hOv:∀j v,w.cell? ⟨vb,j,none⟩=some v->W1.cell? ⟨vb,j,none⟩=some v :=λj v h => by rw[hW1,World.cell?_alloc_past (w :=w.drew) _ vb j hvw]; exact h
  have hcpA:∀(W:World),(∀x,W.cell? x=W1.cell? x)->(∀x,W.frozen? x=W1.frozen? x)->∀ty dc,(Builtin.copy_ #[41,41] ty #[.slice (some ⟨w.heap.size,i*2,none⟩) (n+1-i) dc,.slice (some ⟨vb,voff,none⟩) 1 vc]).run Tryd.prog W=.ok (goInt ((1:Nat):Int)) (W.setCells w.heap.size (i*2) vs) :=λW hWc hWf ty dc =>
    Go.Vm.run_copy_rows W _ _ ty 85 2 1 w.heap.size (i*2) (n+1-i) dc ⟨vb,voff,none⟩ 1 vc vs Tryd.underlying41 hsz (by simp only[Nat.min_def]; split<;>omega) hvl
      (λj v hj => by rw[Addr.add_lit,hWc]; exact hOv _ v (hvs j v hj))
      (λj hj => by rw[hWc]; exact hN _ (by omega)) (λj hj => by rw[hWf]; exact hNf _) h1v
  have hGn:n+1<=G :=by rw[hG]; exact grownCap_ge w _ _ _
  have hG63:G<=9223372036854775807 :=by
    have :=grownCap_le_maxLen w (n+1) c 85 (by unfold maxLen; omega)
    rw[<-hG] at this
    unfold maxLen at this
    omega
  have hGi:¬(G=i) :=by omega
  have hGim:¬(G=i+1) :=by omega
  have hci:¬(c=i) :=by omega
  have hbN:b≠w.heap.size :=by omega
  have hdl:(cs.drop (i*2)).length=(n-i)*2 :=by rw[List.length_drop,hcl]; omega
  have hcpB:∀(W:World),(∀x,W.cell? x=(W1.setCells w.heap.size (i*2) vs).cell? x)->(∀x,W.frozen? x=(W1.setCells w.heap.size (i*2) vs).frozen? x)->∀ty dc sc,(Builtin.copy_ #[41,41] ty #[.slice (some ⟨w.heap.size,(i+1)*2,none⟩) (n-i) dc,.slice (some ⟨b,off+i*2,none⟩) (n-i) sc]).run Tryd.prog W=.ok (goInt ((n-i:Nat):Int)) (W.setCells w.heap.size ((i+1)*2) (cs.drop (i*2))) :=λW hWc hWf ty dc sc =>
    Go.Vm.run_copy_rows W _ _ ty 85 2 (n-i) w.heap.size ((i+1)*2) (n-i) dc ⟨b,off+i*2,none⟩ (n-i) sc (cs.drop (i*2)) Tryd.underlying41 hsz (by simp only[Nat.min_def]; split<;>omega) hdl
      (λj v hj => by
        rw[Addr.add_lit,hWc,World.cell?_setCells_out _ _ _ _ _ (λh _ => absurd h hbN),Nat.add_assoc]
        exact hOb _ v (hcs (i*2+j) v (by rwa [List.getElem?_drop] at hj)))
      (λj hj => by rw[hWc]; exact isSome_setCells _ _ _ _ (λt ht => hN _ (by omega)) _ (hN _ (by omega)))
      (λj hj => by rw[hWf,World.frozen?_setCells]; exact hNf _) (λv hv => h1c v (List.mem_of_mem_drop hv))
  subst hW1
  have hE1:∀x,((w.alloc (.cells ROW 85)).drew).cell? x=(w.drew.alloc (.cells ROW 85)).cell? x :=λx => rfl
  have hE2:∀x,((w.alloc (.cells ROW 85)).drew).frozen? x=(w.drew.alloc (.cells ROW 85)).frozen? x :=λx => rfl
  have hF1:∀x,(((w.alloc (.cells ROW 85)).drew.setCells w.heap.size (i*2) vs).drew).cell? x=((w.drew.alloc (.cells ROW 85)).setCells w.heap.size (i*2) vs).cell? x :=λx => rfl
  have hF2:∀x,(((w.alloc (.cells ROW 85)).drew.setCells w.heap.size (i*2) vs).drew).frozen? x=((w.drew.alloc (.cells ROW 85)).setCells w.heap.size (i*2) vs).frozen? x :=λx => rfl
  have hw1:IntKind.i64.wrap ((i:Int)+1)=(i:Int)+1 :=by rw[IntKind.wrap_i64]; omega
  have hb1:(0:Int)<=(i:Int)+1 :=by omega
  have hin:i<=n :=by omega
  have htn:((i:Int)+1).toNat=i+1 :=by omega
  have hb3:(i:Int)<=(n:Int) :=by omega
  clear hkk hik hold hROW hG hRl
  go_enter Tryd.func77,Tryd.ntmps77
  go_wp2_with (first
    | (at_builtin; refine Lib.wpList_append_run _ rfl _ _ _ _ rfl _ _ rfl rfl _ _ (hrz _) ?_)
    | (at_builtin; refine wpList_copy_runI _ rfl _ _ 41 41 rfl _ _ rfl rfl (hcpA _ hE1 hE2 _ _) ?_)
    | (at_builtin; refine wpList_copy_runI _ rfl _ _ 41 41 rfl _ _ rfl rfl (hcpB _ (λ_ => rfl) (λ_ => rfl) _ _ _) ?_))
  go_region_law_o (refine step_copy_runI rfl _ _ 41 41 rfl (.slice (some ⟨w.heap.size,(i+1)*2,none⟩) (n-i) (G-(i+1))) (.slice (some ⟨b,off+i*2,none⟩) (n-i) (c-i)) (by simp[Act.eval,Act.put]) (by simp[Act.eval,Act.put]) (hcpB _ hF1 hF2 3 (G-(i+1)) (c-i)) ?_)
  go_wp2
  go_ret
  exact⟨rfl,rfl⟩
end Go.Proofs
