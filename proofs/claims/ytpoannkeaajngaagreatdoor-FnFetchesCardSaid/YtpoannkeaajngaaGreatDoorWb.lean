/- Functions of the program, walked by the evaluator. -/
import Derived.Test.YtpoannkeaajngaaGreatDoorWa
import Derived.Test.YtpoannkeaajngaaGreatDoorProg
import Derived.KernelRfl
import Derived.WalkKit
import Derived.LoopTactic
import Derived.Shelf.Strings.OnBuilder
import Derived.Shelf.Strings.SlTrimAscii
import Derived.Lib.AppendZerosOnto
import Derived.Shelf.Spec.SlicesGrow
import Derived.Shelf.Spec.SlicesInsert
import Derived.Shelf.Spec.SlicesInsertGrow
set_option linter.unusedVariables false
set_option linter.unusedSimpArgs false
set_option autoImplicit false
set_option maxRecDepth 100000
set_option maxHeartbeats 4000000
set_option linter.defProp false
namespace Go.Vm.A
open Go.Proofs
def T:TypeId->Option TI
  | 1 => some .fn
  | 2 => some (.int .i64)
  | 3 => some (.int .i64)
  | 4 => some .bool
  | 5 => some (.int .u8)
  | 9 => some .str
  | 21 => some (.int .i32)
  | 22 => some (.slice 1 1 [.i .u8 0])
  | 23 => some .fn
  | 24 => some (.slice 2 32 [.s ⟨#[]⟩,.s ⟨#[]⟩])
  | 25 => some (.struct 4 [(0,1,false,0),(1,1,false,0),(2,1,false,0),(3,1,false,2)] [.s ⟨#[]⟩,.s ⟨#[]⟩,.s ⟨#[]⟩,.sl .mut 2 []])
  | 26 => some (.struct 4 [(0,1,false,0),(1,1,false,0),(2,1,false,0),(3,1,false,2)] [.s ⟨#[]⟩,.s ⟨#[]⟩,.s ⟨#[]⟩,.sl .mut 2 []])
  | 27 => some (.struct 7 [(0,1,false,0),(1,1,false,0),(2,1,false,0),(3,1,false,0),(4,1,false,0),(5,1,false,0),(6,1,false,0)] [.i .i64 0,.i .i64 0,.i .i64 0,.i .i64 0,.i .i64 0,.b false,.b false])
  | 28 => some (.struct 7 [(0,1,false,0),(1,1,false,0),(2,1,false,0),(3,1,false,0),(4,1,false,0),(5,1,false,0),(6,1,false,0)] [.i .i64 0,.i .i64 0,.i .i64 0,.i .i64 0,.i .i64 0,.b false,.b false])
  | 29 => some (.slice 1 16 [.s ⟨#[]⟩])
  | 30 => some (.struct 13 [(0,1,false,0),(1,1,false,0),(2,1,false,2),(3,1,false,1),(4,7,true,0),(11,1,false,1),(12,1,false,0)] [.s ⟨#[]⟩,.i .i64 0,.sl .mut 2 [],.sl .mut 1 [],.i .i64 0,.i .i64 0,.i .i64 0,.i .i64 0,.i .i64 0,.b false,.b false,.sl .mut 1 [],.i .i64 0])
  | 31 => some (.struct 13 [(0,1,false,0),(1,1,false,0),(2,1,false,2),(3,1,false,1),(4,7,true,0),(11,1,false,1),(12,1,false,0)] [.s ⟨#[]⟩,.i .i64 0,.sl .mut 2 [],.sl .mut 1 [],.i .i64 0,.i .i64 0,.i .i64 0,.i .i64 0,.i .i64 0,.b false,.b false,.sl .mut 1 [],.i .i64 0])
  | 33 => some .fn
  | 34 => some (.struct 5 [(0,1,false,0),(1,4,true,0)] [.i .i64 0,.s ⟨#[]⟩,.s ⟨#[]⟩,.s ⟨#[]⟩,.sl .mut 2 []])
  | 35 => some (.struct 5 [(0,1,false,0),(1,4,true,0)] [.i .i64 0,.s ⟨#[]⟩,.s ⟨#[]⟩,.s ⟨#[]⟩,.sl .mut 2 []])
  | 36 => some .fn
  | 37 => some (.struct 3 [(0,1,false,0),(1,1,false,2),(2,1,false,1)] [.i .i64 0,.sl .mut 2 [],.sl .mut 1 []])
  | 38 => some (.struct 3 [(0,1,false,0),(1,1,false,2),(2,1,false,1)] [.i .i64 0,.sl .mut 2 [],.sl .mut 1 []])
  | 40 => some .fn
  | 41 => some (.struct 4 [(0,1,false,0),(1,3,true,0)] [.i .i64 0,.i .i64 0,.sl .mut 2 [],.sl .mut 1 []])
  | 42 => some (.struct 4 [(0,1,false,0),(1,3,true,0)] [.i .i64 0,.i .i64 0,.sl .mut 2 [],.sl .mut 1 []])
  | 43 => some .fn
  | 44 => some .fn
  | 45 => some .fn
  | 46 => some .fn
  | 47 => some .fn
  | 48 => some (.struct 2 [(0,1,false,0),(1,1,false,0)] [.i .i64 0,.s ⟨#[]⟩])
  | 49 => some (.struct 2 [(0,1,false,0),(1,1,false,0)] [.i .i64 0,.s ⟨#[]⟩])
  | 50 => some .fn
  | 51 => some .fn
  | 52 => some .fn
  | 53 => some (.struct 12 [(0,1,false,0),(1,1,false,0),(2,1,false,0),(3,4,true,0),(7,3,true,0),(10,1,false,0),(11,1,false,0)] [.i .i64 0,.i .i64 0,.i .i64 0,.s ⟨#[]⟩,.s ⟨#[]⟩,.s ⟨#[]⟩,.sl .mut 2 [],.i .i64 0,.sl .mut 2 [],.sl .mut 1 [],.s ⟨#[]⟩,.b false])
  | 54 => some (.struct 12 [(0,1,false,0),(1,1,false,0),(2,1,false,0),(3,4,true,0),(7,3,true,0),(10,1,false,0),(11,1,false,0)] [.i .i64 0,.i .i64 0,.i .i64 0,.s ⟨#[]⟩,.s ⟨#[]⟩,.s ⟨#[]⟩,.sl .mut 2 [],.i .i64 0,.sl .mut 2 [],.sl .mut 1 [],.s ⟨#[]⟩,.b false])
  | 55 => some (.struct 13 [(0,1,false,0),(1,12,true,0)] [.i .i64 0,.i .i64 0,.i .i64 0,.i .i64 0,.s ⟨#[]⟩,.s ⟨#[]⟩,.s ⟨#[]⟩,.sl .mut 2 [],.i .i64 0,.sl .mut 2 [],.sl .mut 1 [],.s ⟨#[]⟩,.b false])
  | 56 => some (.struct 13 [(0,1,false,0),(1,12,true,0)] [.i .i64 0,.i .i64 0,.i .i64 0,.i .i64 0,.s ⟨#[]⟩,.s ⟨#[]⟩,.s ⟨#[]⟩,.sl .mut 2 [],.i .i64 0,.sl .mut 2 [],.sl .mut 1 [],.s ⟨#[]⟩,.b false])
  | 57 => some .fn
  | 58 => some .fn
  | 59 => some .fn
  | 60 => some .fn
  | 61 => some .ptr
  | 62 => some .fn
  | 63 => some .fn
  | 64 => some .fn
  | 66 => some (.struct 2 [(0,1,false,0),(1,1,false,0)] [.s ⟨#[]⟩,.s ⟨#[]⟩])
  | 67 => some (.struct 2 [(0,1,false,0),(1,1,false,0)] [.s ⟨#[]⟩,.s ⟨#[]⟩])
  | 68 => some .fn
  | 69 => some .fn
  | 70 => some .fn
  | 71 => some .fn
  | 72 => some .fn
  | 73 => some .fn
  | 74 => some .fn
  | 75 => some .fn
  | 77 => some .fn
  | 78 => some .ptr
  | 79 => some .ptr
  | 80 => some .fn
  | 81 => some .fn
  | 82 => some .fn
  | 83 => some .fn
  | 84 => some .fn
  | 86 => some .fn
  | 87 => some .fn
  | 89 => some .fn
  | 90 => some .fn
  | 91 => some .fn
  | 92 => some .fn
  | 93 => some .fn
  | 94 => some (.struct 2 [(0,1,false,1),(1,1,false,0)] [.sl .mut 1 [],.i .i64 0])
  | 95 => some (.struct 2 [(0,1,false,1),(1,1,false,0)] [.sl .mut 1 [],.i .i64 0])
  | 96 => some .fn
  | 97 => some .fn
  | 98 => some .fn
  | 99 => some .fn
  | 100 => some .fn
  | 101 => some .fn
  | 102 => some .fn
  | 103 => some .fn
  | 104 => some .fn
  | 106 => some .fn
  | 107 => some (.slice 1 8 [.i .i64 0])
  | 108 => some .fn
  | 109 => some .fn
  | 110 => some .fn
  | 111 => some .fn
  | 112 => some .fn
  | 113 => some .fn
  | 114 => some .fn
  | 116 => some .fn
  | 117 => some .fn
  | 118 => some .fn
  | 119 => some .fn
  | 120 => some .ptr
  | 122 => some .fn
  | 123 => some .fn
  | 124 => some .fn
  | 126 => some .fn
  | 127 => some .fn
  | 129 => some .fn
  | 130 => some .fn
  | 131 => some .fn
  | 132 => some .fn
  | 133 => some .fn
  | 134 => some .fn
  | 135 => some .fn
  | 136 => some .fn
  | 137 => some .fn
  | 138 => some (.array 5 1 false [.i .i64 0,.i .i64 0,.i .i64 0,.i .i64 0,.i .i64 0])
  | 139 => some .fn
  | 140 => some .fn
  | 141 => some .fn
  | 142 => some .fn
  | 143 => some .ptr
  | 144 => some (.struct 2 [(0,1,false,0),(1,1,false,1)] [.pn,.sl .mut 1 []])
  | 145 => some (.struct 2 [(0,1,false,0),(1,1,false,1)] [.pn,.sl .mut 1 []])
  | 146 => some .fn
  | 150 => some .fn
  | 152 => some .fn
  | 153 => some .fn
  | 154 => some .fn
  | 155 => some .fn
  | 156 => some (.struct 2 [(0,1,false,0),(1,1,false,0)] [.i .i64 0,.i .i64 0])
  | 157 => some (.struct 2 [(0,1,false,0),(1,1,false,0)] [.i .i64 0,.i .i64 0])
  | 158 => some .fn
  | 159 => some .fn
  | 160 => some .fn
  | 161 => some .fn
  | 162 => some (.slice 1 8 [.u])
  | 163 => some .fn
  | 164 => some .fn
  | 165 => some .fn
  | 166 => some .fn
  | 170 => some .fn
  | 171 => some .fn
  | 172 => some .ptr
  | 173 => some .ptr
  | 175 => some .fn
  | 176 => some .fn
  | 177 => some .fn
  | 178 => some .fn
  | 179 => some .fn
  | 180 => some .fn
  | 181 => some .fn
  | 182 => some .fn
  | 184 => some .fn
  | 185 => some .fn
  | 188 => some .fn
  | 189 => some .fn
  | 190 => some .fn
  | 191 => some .fn
  | 192 => some (.int .u64)
  | 194 => some (.struct 2 [(0,1,false,0),(1,1,false,0)] [.i .u8 0,.i .u8 0])
  | 195 => some (.struct 2 [(0,1,false,0),(1,1,false,0)] [.i .u8 0,.i .u8 0])
  | 196 => some (.array 16 2 true [.i .u8 0,.i .u8 0,.i .u8 0,.i .u8 0,.i .u8 0,.i .u8 0,.i .u8 0,.i .u8 0,.i .u8 0,.i .u8 0,.i .u8 0,.i .u8 0,.i .u8 0,.i .u8 0,.i .u8 0,.i .u8 0,.i .u8 0,.i .u8 0,.i .u8 0,.i .u8 0,.i .u8 0,.i .u8 0,.i .u8 0,.i .u8 0,.i .u8 0,.i .u8 0,.i .u8 0,.i .u8 0,.i .u8 0,.i .u8 0,.i .u8 0,.i .u8 0])
  | 197 => some .fn
  | 198 => some (.int .u32)
  | 200 => some .fn
  | 206 => some .fn
  | _ => none
@[go_sem] def T1:T 1=some .fn :=nr rfl
@[go_sem] def T2:T 2=some (.int .i64) :=nr rfl
@[go_sem] def T3:T 3=some (.int .i64) :=nr rfl
@[go_sem] def T4:T 4=some .bool :=nr rfl
@[go_sem] def T5:T 5=some (.int .u8) :=nr rfl
@[go_sem] def T9:T 9=some .str :=nr rfl
@[go_sem] def T21:T 21=some (.int .i32) :=nr rfl
@[go_sem] def T22:T 22=some (.slice 1 1 [.i .u8 0]) :=nr rfl
@[go_sem] def T23:T 23=some .fn :=nr rfl
@[go_sem] def T24:T 24=some (.slice 2 32 [.s ⟨#[]⟩,.s ⟨#[]⟩]) :=nr rfl
@[go_sem] def T25:T 25=some (.struct 4 [(0,1,false,0),(1,1,false,0),(2,1,false,0),(3,1,false,2)] [.s ⟨#[]⟩,.s ⟨#[]⟩,.s ⟨#[]⟩,.sl .mut 2 []]) :=nr rfl
@[go_sem] def T26:T 26=some (.struct 4 [(0,1,false,0),(1,1,false,0),(2,1,false,0),(3,1,false,2)] [.s ⟨#[]⟩,.s ⟨#[]⟩,.s ⟨#[]⟩,.sl .mut 2 []]) :=nr rfl
@[go_sem] def T27:T 27=some (.struct 7 [(0,1,false,0),(1,1,false,0),(2,1,false,0),(3,1,false,0),(4,1,false,0),(5,1,false,0),(6,1,false,0)] [.i .i64 0,.i .i64 0,.i .i64 0,.i .i64 0,.i .i64 0,.b false,.b false]) :=nr rfl
@[go_sem] def T28:T 28=some (.struct 7 [(0,1,false,0),(1,1,false,0),(2,1,false,0),(3,1,false,0),(4,1,false,0),(5,1,false,0),(6,1,false,0)] [.i .i64 0,.i .i64 0,.i .i64 0,.i .i64 0,.i .i64 0,.b false,.b false]) :=nr rfl
@[go_sem] def T29:T 29=some (.slice 1 16 [.s ⟨#[]⟩]) :=nr rfl
@[go_sem] def T30:T 30=some (.struct 13 [(0,1,false,0),(1,1,false,0),(2,1,false,2),(3,1,false,1),(4,7,true,0),(11,1,false,1),(12,1,false,0)] [.s ⟨#[]⟩,.i .i64 0,.sl .mut 2 [],.sl .mut 1 [],.i .i64 0,.i .i64 0,.i .i64 0,.i .i64 0,.i .i64 0,.b false,.b false,.sl .mut 1 [],.i .i64 0]) :=nr rfl
@[go_sem] def T31:T 31=some (.struct 13 [(0,1,false,0),(1,1,false,0),(2,1,false,2),(3,1,false,1),(4,7,true,0),(11,1,false,1),(12,1,false,0)] [.s ⟨#[]⟩,.i .i64 0,.sl .mut 2 [],.sl .mut 1 [],.i .i64 0,.i .i64 0,.i .i64 0,.i .i64 0,.i .i64 0,.b false,.b false,.sl .mut 1 [],.i .i64 0]) :=nr rfl
@[go_sem] def T33:T 33=some .fn :=nr rfl
@[go_sem] def T34:T 34=some (.struct 5 [(0,1,false,0),(1,4,true,0)] [.i .i64 0,.s ⟨#[]⟩,.s ⟨#[]⟩,.s ⟨#[]⟩,.sl .mut 2 []]) :=nr rfl
@[go_sem] def T35:T 35=some (.struct 5 [(0,1,false,0),(1,4,true,0)] [.i .i64 0,.s ⟨#[]⟩,.s ⟨#[]⟩,.s ⟨#[]⟩,.sl .mut 2 []]) :=nr rfl
@[go_sem] def T36:T 36=some .fn :=nr rfl
@[go_sem] def T37:T 37=some (.struct 3 [(0,1,false,0),(1,1,false,2),(2,1,false,1)] [.i .i64 0,.sl .mut 2 [],.sl .mut 1 []]) :=nr rfl
@[go_sem] def T38:T 38=some (.struct 3 [(0,1,false,0),(1,1,false,2),(2,1,false,1)] [.i .i64 0,.sl .mut 2 [],.sl .mut 1 []]) :=nr rfl
@[go_sem] def T40:T 40=some .fn :=nr rfl
@[go_sem] def T41:T 41=some (.struct 4 [(0,1,false,0),(1,3,true,0)] [.i .i64 0,.i .i64 0,.sl .mut 2 [],.sl .mut 1 []]) :=nr rfl
@[go_sem] def T42:T 42=some (.struct 4 [(0,1,false,0),(1,3,true,0)] [.i .i64 0,.i .i64 0,.sl .mut 2 [],.sl .mut 1 []]) :=nr rfl
@[go_sem] def T43:T 43=some .fn :=nr rfl
@[go_sem] def T44:T 44=some .fn :=nr rfl
@[go_sem] def T45:T 45=some .fn :=nr rfl
@[go_sem] def T46:T 46=some .fn :=nr rfl
@[go_sem] def T47:T 47=some .fn :=nr rfl
@[go_sem] def T48:T 48=some (.struct 2 [(0,1,false,0),(1,1,false,0)] [.i .i64 0,.s ⟨#[]⟩]) :=nr rfl
@[go_sem] def T49:T 49=some (.struct 2 [(0,1,false,0),(1,1,false,0)] [.i .i64 0,.s ⟨#[]⟩]) :=nr rfl
@[go_sem] def T50:T 50=some .fn :=nr rfl
@[go_sem] def T51:T 51=some .fn :=nr rfl
@[go_sem] def T52:T 52=some .fn :=nr rfl
@[go_sem] def T53:T 53=some (.struct 12 [(0,1,false,0),(1,1,false,0),(2,1,false,0),(3,4,true,0),(7,3,true,0),(10,1,false,0),(11,1,false,0)] [.i .i64 0,.i .i64 0,.i .i64 0,.s ⟨#[]⟩,.s ⟨#[]⟩,.s ⟨#[]⟩,.sl .mut 2 [],.i .i64 0,.sl .mut 2 [],.sl .mut 1 [],.s ⟨#[]⟩,.b false]) :=nr rfl
@[go_sem] def T54:T 54=some (.struct 12 [(0,1,false,0),(1,1,false,0),(2,1,false,0),(3,4,true,0),(7,3,true,0),(10,1,false,0),(11,1,false,0)] [.i .i64 0,.i .i64 0,.i .i64 0,.s ⟨#[]⟩,.s ⟨#[]⟩,.s ⟨#[]⟩,.sl .mut 2 [],.i .i64 0,.sl .mut 2 [],.sl .mut 1 [],.s ⟨#[]⟩,.b false]) :=nr rfl
@[go_sem] def T55:T 55=some (.struct 13 [(0,1,false,0),(1,12,true,0)] [.i .i64 0,.i .i64 0,.i .i64 0,.i .i64 0,.s ⟨#[]⟩,.s ⟨#[]⟩,.s ⟨#[]⟩,.sl .mut 2 [],.i .i64 0,.sl .mut 2 [],.sl .mut 1 [],.s ⟨#[]⟩,.b false]) :=nr rfl
@[go_sem] def T56:T 56=some (.struct 13 [(0,1,false,0),(1,12,true,0)] [.i .i64 0,.i .i64 0,.i .i64 0,.i .i64 0,.s ⟨#[]⟩,.s ⟨#[]⟩,.s ⟨#[]⟩,.sl .mut 2 [],.i .i64 0,.sl .mut 2 [],.sl .mut 1 [],.s ⟨#[]⟩,.b false]) :=nr rfl
@[go_sem] def T57:T 57=some .fn :=nr rfl
@[go_sem] def T58:T 58=some .fn :=nr rfl
@[go_sem] def T59:T 59=some .fn :=nr rfl
@[go_sem] def T60:T 60=some .fn :=nr rfl
@[go_sem] def T61:T 61=some .ptr :=nr rfl
@[go_sem] def T62:T 62=some .fn :=nr rfl
@[go_sem] def T63:T 63=some .fn :=nr rfl
@[go_sem] def T64:T 64=some .fn :=nr rfl
@[go_sem] def T66:T 66=some (.struct 2 [(0,1,false,0),(1,1,false,0)] [.s ⟨#[]⟩,.s ⟨#[]⟩]) :=nr rfl
@[go_sem] def T67:T 67=some (.struct 2 [(0,1,false,0),(1,1,false,0)] [.s ⟨#[]⟩,.s ⟨#[]⟩]) :=nr rfl
@[go_sem] def T68:T 68=some .fn :=nr rfl
@[go_sem] def T69:T 69=some .fn :=nr rfl
@[go_sem] def T70:T 70=some .fn :=nr rfl
@[go_sem] def T71:T 71=some .fn :=nr rfl
@[go_sem] def T72:T 72=some .fn :=nr rfl
@[go_sem] def T73:T 73=some .fn :=nr rfl
@[go_sem] def T74:T 74=some .fn :=nr rfl
@[go_sem] def T75:T 75=some .fn :=nr rfl
@[go_sem] def T77:T 77=some .fn :=nr rfl
@[go_sem] def T78:T 78=some .ptr :=nr rfl
@[go_sem] def T79:T 79=some .ptr :=nr rfl
@[go_sem] def T80:T 80=some .fn :=nr rfl
@[go_sem] def T81:T 81=some .fn :=nr rfl
@[go_sem] def T82:T 82=some .fn :=nr rfl
@[go_sem] def T83:T 83=some .fn :=nr rfl
@[go_sem] def T84:T 84=some .fn :=nr rfl
@[go_sem] def T86:T 86=some .fn :=nr rfl
@[go_sem] def T87:T 87=some .fn :=nr rfl
@[go_sem] def T89:T 89=some .fn :=nr rfl
@[go_sem] def T90:T 90=some .fn :=nr rfl
@[go_sem] def T91:T 91=some .fn :=nr rfl
@[go_sem] def T92:T 92=some .fn :=nr rfl
@[go_sem] def T93:T 93=some .fn :=nr rfl
@[go_sem] def T94:T 94=some (.struct 2 [(0,1,false,1),(1,1,false,0)] [.sl .mut 1 [],.i .i64 0]) :=nr rfl
@[go_sem] def T95:T 95=some (.struct 2 [(0,1,false,1),(1,1,false,0)] [.sl .mut 1 [],.i .i64 0]) :=nr rfl
@[go_sem] def T96:T 96=some .fn :=nr rfl
@[go_sem] def T97:T 97=some .fn :=nr rfl
@[go_sem] def T98:T 98=some .fn :=nr rfl
@[go_sem] def T99:T 99=some .fn :=nr rfl
@[go_sem] def XFu:T 100=some .fn :=nr rfl
@[go_sem] def XFv:T 101=some .fn :=nr rfl
@[go_sem] def XFw:T 102=some .fn :=nr rfl
@[go_sem] def XFx:T 103=some .fn :=nr rfl
@[go_sem] def XFy:T 104=some .fn :=nr rfl
@[go_sem] def XFz:T 106=some .fn :=nr rfl
@[go_sem] def XFA:T 107=some (.slice 1 8 [.i .i64 0]) :=nr rfl
@[go_sem] def XFB:T 108=some .fn :=nr rfl
@[go_sem] def XFC:T 109=some .fn :=nr rfl
@[go_sem] def XFD:T 110=some .fn :=nr rfl
@[go_sem] def XFE:T 111=some .fn :=nr rfl
@[go_sem] def XFF:T 112=some .fn :=nr rfl
@[go_sem] def XFG:T 113=some .fn :=nr rfl
@[go_sem] def XFH:T 114=some .fn :=nr rfl
@[go_sem] def XFI:T 116=some .fn :=nr rfl
@[go_sem] def XFJ:T 117=some .fn :=nr rfl
@[go_sem] def XFK:T 118=some .fn :=nr rfl
@[go_sem] def XFL:T 119=some .fn :=nr rfl
@[go_sem] def XFM:T 120=some .ptr :=nr rfl
@[go_sem] def XFN:T 122=some .fn :=nr rfl
@[go_sem] def XFO:T 123=some .fn :=nr rfl
@[go_sem] def XFP:T 124=some .fn :=nr rfl
@[go_sem] def XFQ:T 126=some .fn :=nr rfl
@[go_sem] def XFR:T 127=some .fn :=nr rfl
@[go_sem] def XFS:T 129=some .fn :=nr rfl
@[go_sem] def XFT:T 130=some .fn :=nr rfl
@[go_sem] def XFU:T 131=some .fn :=nr rfl
@[go_sem] def XFV:T 132=some .fn :=nr rfl
@[go_sem] def XFW:T 133=some .fn :=nr rfl
@[go_sem] def XFX:T 134=some .fn :=nr rfl
@[go_sem] def XFY:T 135=some .fn :=nr rfl
@[go_sem] def XFZ:T 136=some .fn :=nr rfl
@[go_sem] def XF0:T 137=some .fn :=nr rfl
@[go_sem] def XF1:T 138=some (.array 5 1 false [.i .i64 0,.i .i64 0,.i .i64 0,.i .i64 0,.i .i64 0]) :=nr rfl
@[go_sem] def XF2:T 139=some .fn :=nr rfl
@[go_sem] def XF3:T 140=some .fn :=nr rfl
@[go_sem] def XF4:T 141=some .fn :=nr rfl
@[go_sem] def XF5:T 142=some .fn :=nr rfl
@[go_sem] def XF6:T 143=some .ptr :=nr rfl
@[go_sem] def XF7:T 144=some (.struct 2 [(0,1,false,0),(1,1,false,1)] [.pn,.sl .mut 1 []]) :=nr rfl
@[go_sem] def XF8:T 145=some (.struct 2 [(0,1,false,0),(1,1,false,1)] [.pn,.sl .mut 1 []]) :=nr rfl
@[go_sem] def XF9:T 146=some .fn :=nr rfl
@[go_sem] def XGa:T 150=some .fn :=nr rfl
@[go_sem] def XGb:T 152=some .fn :=nr rfl
@[go_sem] def XGc:T 153=some .fn :=nr rfl
@[go_sem] def XGd:T 154=some .fn :=nr rfl
@[go_sem] def XGe:T 155=some .fn :=nr rfl
@[go_sem] def XGf:T 156=some (.struct 2 [(0,1,false,0),(1,1,false,0)] [.i .i64 0,.i .i64 0]) :=nr rfl
@[go_sem] def XGg:T 157=some (.struct 2 [(0,1,false,0),(1,1,false,0)] [.i .i64 0,.i .i64 0]) :=nr rfl
@[go_sem] def XGh:T 158=some .fn :=nr rfl
@[go_sem] def XGi:T 159=some .fn :=nr rfl
@[go_sem] def XGj:T 160=some .fn :=nr rfl
@[go_sem] def XGk:T 161=some .fn :=nr rfl
@[go_sem] def XGl:T 162=some (.slice 1 8 [.u]) :=nr rfl
@[go_sem] def XGm:T 163=some .fn :=nr rfl
@[go_sem] def XGn:T 164=some .fn :=nr rfl
@[go_sem] def XGo:T 165=some .fn :=nr rfl
@[go_sem] def XGp:T 166=some .fn :=nr rfl
@[go_sem] def XGq:T 170=some .fn :=nr rfl
@[go_sem] def XGr:T 171=some .fn :=nr rfl
@[go_sem] def XGs:T 172=some .ptr :=nr rfl
@[go_sem] def XGt:T 173=some .ptr :=nr rfl
@[go_sem] def XGu:T 175=some .fn :=nr rfl
@[go_sem] def XGv:T 176=some .fn :=nr rfl
@[go_sem] def XGw:T 177=some .fn :=nr rfl
@[go_sem] def XGx:T 178=some .fn :=nr rfl
@[go_sem] def XGy:T 179=some .fn :=nr rfl
@[go_sem] def XGz:T 180=some .fn :=nr rfl
@[go_sem] def XGA:T 181=some .fn :=nr rfl
@[go_sem] def XGB:T 182=some .fn :=nr rfl
@[go_sem] def XGC:T 184=some .fn :=nr rfl
@[go_sem] def XGD:T 185=some .fn :=nr rfl
@[go_sem] def XGE:T 188=some .fn :=nr rfl
@[go_sem] def XGF:T 189=some .fn :=nr rfl
@[go_sem] def XGG:T 190=some .fn :=nr rfl
@[go_sem] def XGH:T 191=some .fn :=nr rfl
@[go_sem] def XGI:T 192=some (.int .u64) :=nr rfl
@[go_sem] def XGJ:T 194=some (.struct 2 [(0,1,false,0),(1,1,false,0)] [.i .u8 0,.i .u8 0]) :=nr rfl
@[go_sem] def XGK:T 195=some (.struct 2 [(0,1,false,0),(1,1,false,0)] [.i .u8 0,.i .u8 0]) :=nr rfl
@[go_sem] def XGL:T 196=some (.array 16 2 true [.i .u8 0,.i .u8 0,.i .u8 0,.i .u8 0,.i .u8 0,.i .u8 0,.i .u8 0,.i .u8 0,.i .u8 0,.i .u8 0,.i .u8 0,.i .u8 0,.i .u8 0,.i .u8 0,.i .u8 0,.i .u8 0,.i .u8 0,.i .u8 0,.i .u8 0,.i .u8 0,.i .u8 0,.i .u8 0,.i .u8 0,.i .u8 0,.i .u8 0,.i .u8 0,.i .u8 0,.i .u8 0,.i .u8 0,.i .u8 0,.i .u8 0,.i .u8 0]) :=nr rfl
@[go_sem] def XGM:T 197=some .fn :=nr rfl
@[go_sem] def XGN:T 198=some (.int .u32) :=nr rfl
@[go_sem] def XGO:T 200=some .fn :=nr rfl
@[go_sem] def XGP:T 206=some .fn :=nr rfl
def Q:TypeId->Option (List Nat)
  | 27 => some [1,1,1,1,1,0,0]
  | 28 => some [1,1,1,1,1,0,0]
  | 48 => some [1,2]
  | 49 => some [1,2]
  | 66 => some [2,2]
  | 67 => some [2,2]
  | 156 => some [1,1]
  | 157 => some [1,1]
  | 194 => some [1,1]
  | 195 => some [1,1]
  | _ => none
@[go_sem] def Q27:Q 27=some [1,1,1,1,1,0,0] :=nr rfl
@[go_sem] def Q28:Q 28=some [1,1,1,1,1,0,0] :=nr rfl
@[go_sem] def Q48:Q 48=some [1,2] :=nr rfl
@[go_sem] def Q49:Q 49=some [1,2] :=nr rfl
@[go_sem] def Q66:Q 66=some [2,2] :=nr rfl
@[go_sem] def Q67:Q 67=some [2,2] :=nr rfl
@[go_sem] def XGQ:Q 156=some [1,1] :=nr rfl
@[go_sem] def XGR:Q 157=some [1,1] :=nr rfl
@[go_sem] def XGS:Q 194=some [1,1] :=nr rfl
@[go_sem] def XGT:Q 195=some [1,1] :=nr rfl
instance instTb:HasTb Tryz.prog :=⟨λ_ _ => True,λ_ _ _ _ => trivial⟩
def XEr(cx:Cx)(h:cx.T=T)(h2:cx.eqs=Q):Xeg Tryz.prog cx :=by
  refine⟨λt ti ht => ?_,λt ks hk => ?_⟩
  · rw[h] at ht
    unfold T at ht
    split at ht<;>first | cases ht; done | (injection ht with ht; subst ht; exact XoQ (by kernel_rfl))
  · rw[h2] at hk
    unfold Q at hk
    split at hk<;>first | cases hk; done | (injection hk with hk; subst hk; kernel_rfl)
def tyA:XnE Tryz.prog :=⟨T,Q,XEr,by kernel_rfl⟩
@[go_sem] def XEs:tyA.T=T :=nr rfl
@[go_sem] def XEt:tyA.Q=Q :=nr rfl
end Go.Vm.A
namespace Go.Proofs
open Go.Shelf
def Tryz.lays156_ren:Go.Shelf.Ren :=⟨fun | 156 => 87 | 165 => 138 | 166 => 139 | 169 => 140 | 240 => 176 | 241 => 177 | 276 => 192 | 277 => 193 | n => n,fun | 31 => 29 | 9 => 9 | 3 => 3 | 4 => 4 | 0 => 0 | 20 => 20 | 72 => 145 | 76 => 149 | 70 => 143 | 37 => 22 | 75 => 148 | 127 => 173 | 164 => 186 | 5 => 5 | 80 => 151 | n => n,fun | n => n⟩
def Tryz.lays156:Go.Proofs.Lays.n156 Tryz.prog Tryz.lays156_ren :={
  mixed :=by kernel_rfl
  f156 :=Tryz.func87.trans (congrArg some (by kernel_rfl))
  f165 :=Tryz.func138.trans (congrArg some (by kernel_rfl))
  f166 :=Tryz.func139.trans (congrArg some (by kernel_rfl))
  f169 :=Tryz.func140.trans (congrArg some (by kernel_rfl))
  f240 :=Tryz.func176.trans (congrArg some (by kernel_rfl))
  f241 :=Tryz.func177.trans (congrArg some (by kernel_rfl))
  f276 :=Tryz.func192.trans (congrArg some (by kernel_rfl))
  f277 :=Tryz.func193.trans (congrArg some (by kernel_rfl))
  t0 :=Tryz.underlying0
  a0 :=Tryz.isAgg0
  z0 :=Tryz.sizeOf0
  v0 :=Tryz.zeroValue0
  t3 :=Tryz.underlying3
  a3 :=Tryz.isAgg3
  z3 :=Tryz.sizeOf3
  v3 :=Tryz.zeroValue3
  t4 :=Tryz.underlying4
  a4 :=Tryz.isAgg4
  z4 :=Tryz.sizeOf4
  v4 :=Tryz.zeroValue4
  t9 :=Tryz.underlying9
  a9 :=Tryz.isAgg9
  z9 :=Tryz.sizeOf9
  v9 :=Tryz.zeroValue9
  t20 :=Tryz.underlying20
  a20 :=Tryz.isAgg20
  z20 :=Tryz.sizeOf20
  v20 :=Tryz.zeroValue20
  t31 :=Tryz.underlying29
  a31 :=Tryz.isAgg29
  z31 :=Tryz.sizeOf29
  v31 :=Tryz.zeroValue29
  t37 :=Tryz.underlying22
  a37 :=Tryz.isAgg22
  z37 :=Tryz.sizeOf22
  v37 :=Tryz.zeroValue22
  t70 :=Tryz.underlying143
  a70 :=Tryz.isAgg143
  z70 :=Tryz.sizeOf143
  v70 :=Tryz.zeroValue143
  t72 :=Tryz.underlying145
  a72 :=Tryz.isAgg145
  z72 :=Tryz.sizeOf145
  v72 :=Tryz.zeroValue145
  t75 :=Tryz.underlying148
  a75 :=Tryz.isAgg148
  z75 :=Tryz.sizeOf148
  v75 :=Tryz.zeroValue148
  t76 :=Tryz.underlying149
  a76 :=Tryz.isAgg149
  z76 :=Tryz.sizeOf149
  v76 :=Tryz.zeroValue149
  t127 :=Tryz.underlying173
  a127 :=Tryz.isAgg173
  z127 :=Tryz.sizeOf173
  v127 :=Tryz.zeroValue173
  t164 :=Tryz.underlying186
  a164 :=Tryz.isAgg186
  z164 :=Tryz.sizeOf186
  v164 :=Tryz.zeroValue186}
def Tryz.Builder_Extra_156:Builder.Extra Tryz.prog Tryz.lays156_ren :={
  sizeBuilder :=by kernel_rfl
  liesBuilder :=by kernel_rfl
  t5 :=Tryz.underlying5
  a5 :=Tryz.isAgg5
  z5 :=Tryz.sizeOf5
  v5 :=Tryz.zeroValue5
  infoByte :=by kernel_rfl
  cellsByte :=by kernel_rfl
  sizeByte :=by kernel_rfl
  neB5 :=by decide}
open Go.RowKit in
def Tryz.strings_Join_none(a:Option Addr)(c:Nat)(sep:ByteArray)(w:World) :
    Calls Tryz.prog 87 #[.slice a 0 c,.string sep] w λe w' => e=.returned (.string ⟨#[]⟩)/\w'=w :=Any.strings_Join_none Tryz.lays156 Tryz.Builder_Extra_156 a c sep w
open Go.RowKit in
def Tryz.strings_Join(bk o c:Nat)(xs:List ByteArray)(sep:ByteArray)(w:World)(hcells:∀(j:Nat) x,xs[j]?=some x->w.cell? ⟨bk,o+j,none⟩=some (.string x))(hbk:bk<w.heap.size)(hN:xs.length<=140737488355328)(hcap:xs.length<=c)(hlen:(Lib.join (xs.map (·.data.toList)) sep.data.toList).length<=140737488355328) :
    Calls Tryz.prog 87 #[.slice (some ⟨bk,o,none⟩) xs.length c,.string sep] w λe w' => e=.returned (.string ⟨(Lib.join (xs.map (·.data.toList)) sep.data.toList).toArray⟩)/\Below w.heap.size w w' :=Any.strings_Join Tryz.lays156 Tryz.Builder_Extra_156 bk o c xs sep w hcells hbk hN hcap hlen
def Tryz.lays160_ren:Go.Shelf.Ren :=⟨fun | 160 => 136 | 232 => 170 | 231 => 169 | 227 => 171 | 234 => 173 | 233 => 172 | 236 => 175 | 235 => 174 | 228 => 188 | 271 => 191 | 151 => 190 | 197 => 189 | 120 => 201 | 152 => 200 | 260 => 199 | 137 => 143 | 119 => 205 | 224 => 203 | 225 => 202 | 217 => 178 | 266 => 194 | n => n,fun | 9 => 9 | 4 => 4 | 3 => 3 | 5 => 5 | 117 => 169 | 116 => 168 | 0 => 0 | 124 => 172 | 21 => 21 | 105 => 183 | 46 => 192 | 119 => 193 | 139 => 196 | 138 => 195 | n => n,fun | 3 => 1 | 4 => 2 | n => n⟩
def Tryz.lays160:Go.Proofs.Lays.n160 Tryz.prog Tryz.lays160_ren :={
  mixed :=by kernel_rfl
  f119 :=Tryz.func205.trans (congrArg some (by kernel_rfl))
  f120 :=Tryz.func201.trans (congrArg some (by kernel_rfl))
  f137 :=Tryz.func143.trans (congrArg some (by kernel_rfl))
  f151 :=Tryz.func190.trans (congrArg some (by kernel_rfl))
  f152 :=Tryz.func200.trans (congrArg some (by kernel_rfl))
  f160 :=Tryz.func136.trans (congrArg some (by kernel_rfl))
  f197 :=Tryz.func189.trans (congrArg some (by kernel_rfl))
  f217 :=Tryz.func178.trans (congrArg some (by kernel_rfl))
  f224 :=Tryz.func203.trans (congrArg some (by kernel_rfl))
  f225 :=Tryz.func202.trans (congrArg some (by kernel_rfl))
  f227 :=Tryz.func171.trans (congrArg some (by kernel_rfl))
  f228 :=Tryz.func188.trans (congrArg some (by kernel_rfl))
  f231 :=Tryz.func169.trans (congrArg some (by kernel_rfl))
  f232 :=Tryz.func170.trans (congrArg some (by kernel_rfl))
  f233 :=Tryz.func172.trans (congrArg some (by kernel_rfl))
  f234 :=Tryz.func173.trans (congrArg some (by kernel_rfl))
  f235 :=Tryz.func174.trans (congrArg some (by kernel_rfl))
  f236 :=Tryz.func175.trans (congrArg some (by kernel_rfl))
  f260 :=Tryz.func199.trans (congrArg some (by kernel_rfl))
  f266 :=Tryz.func194.trans (congrArg some (by kernel_rfl))
  f271 :=Tryz.func191.trans (congrArg some (by kernel_rfl))
  t0 :=Tryz.underlying0
  a0 :=Tryz.isAgg0
  z0 :=Tryz.sizeOf0
  v0 :=Tryz.zeroValue0
  t3 :=Tryz.underlying3
  a3 :=Tryz.isAgg3
  z3 :=Tryz.sizeOf3
  v3 :=Tryz.zeroValue3
  t4 :=Tryz.underlying4
  a4 :=Tryz.isAgg4
  z4 :=Tryz.sizeOf4
  v4 :=Tryz.zeroValue4
  t5 :=Tryz.underlying5
  a5 :=Tryz.isAgg5
  z5 :=Tryz.sizeOf5
  v5 :=Tryz.zeroValue5
  t9 :=Tryz.underlying9
  a9 :=Tryz.isAgg9
  z9 :=Tryz.sizeOf9
  v9 :=Tryz.zeroValue9
  t21 :=Tryz.underlying21
  a21 :=Tryz.isAgg21
  z21 :=Tryz.sizeOf21
  v21 :=Tryz.zeroValue21
  t46 :=Tryz.underlying192
  a46 :=Tryz.isAgg192
  z46 :=Tryz.sizeOf192
  v46 :=Tryz.zeroValue192
  t105 :=Tryz.underlying183
  a105 :=Tryz.isAgg183
  z105 :=Tryz.sizeOf183
  v105 :=Tryz.zeroValue183
  t116 :=Tryz.underlying168
  a116 :=Tryz.isAgg168
  z116 :=Tryz.sizeOf168
  t117 :=Tryz.underlying169
  a117 :=Tryz.isAgg169
  z117 :=Tryz.sizeOf169
  v117 :=Tryz.zeroValue169
  t119 :=Tryz.underlying193
  a119 :=Tryz.isAgg193
  z119 :=Tryz.sizeOf193
  t124 :=Tryz.underlying172
  a124 :=Tryz.isAgg172
  z124 :=Tryz.sizeOf172
  v124 :=Tryz.zeroValue172
  t138 :=Tryz.underlying195
  a138 :=Tryz.isAgg195
  z138 :=Tryz.sizeOf195
  v138 :=Tryz.zeroValue195
  t139 :=Tryz.underlying196
  a139 :=Tryz.isAgg196
  z139 :=Tryz.sizeOf196
  v139 :=Tryz.zeroValue196
  g3 :=by kernel_rfl
  g4 :=by kernel_rfl}
def Tryz.trimSpTab(s:ByteArray)(w:World)(hs:s.size<=9223372036854775807) :
    Calls Tryz.prog 136 #[.string s,.string ⟨#[32,9]⟩] w λe w' => e=.returned (.string ⟨(Lib.trimS s.data.toList [32,9]).toArray⟩)/\Go.RowKit.Below w.heap.size w w' :=
  Any.strings_Trim_laid Tryz.lays160 (by kernel_rfl) s ⟨#[32,9]⟩ w hs (by decide) (ascii_of_all (by decide))
def Tryz.insInfo:∃(i0:TypeInfo) (zv:Value),Tryz.prog.info? 67=some i0/\i0.zero=some zv/\i0.bytes=32/\i0.size=2/\zv.cells.size=2 :=by
  have h:(Tryz.prog.info? 67).map (λi => (i.bytes,i.size,i.zero.map λz => z.cells.size))=some (32,2,some 2) :=by kernel_rfl
  obtain⟨i0,h1,h2⟩ :=Option.map_eq_some_iff.1 h
  simp only[Prod.mk.injEq] at h2
  obtain⟨e1,e2,e3⟩ :=h2
  obtain⟨zv,e4,e5⟩ :=Option.map_eq_some_iff.1 e3
  exact⟨i0,zv,h1,e4,e1,e2,e5⟩
def Tryz.insOv(w:World)(a b:Addr)(la ca lb cb:Nat)(tA tB:TypeId)(kA kB:Nat)(hsa:w.shape? a.block=some (tA,kA))(hsb:w.shape? b.block=some (tB,kB))(hkB:kB≠0)
    (hfa:a.block≠b.block->∀j,w.frozen? ⟨a.block,j,none⟩=false) (hsp:a.spot=none) (hap:a.block=b.block->¬(a.off<b.off+lb*2/\b.off<a.off+la*2)) :
    (callFunc 124 #[.slice (some a) la ca,.slice (some b) lb cb]).run Tryz.prog w=.ok (.value (.bool false)) w :=by
  obtain⟨i0,zv,h1,h2,h3,h4,h5⟩ :=Tryz.insInfo
  have hz:∀w,(Go.sizeOf 67).run Tryz.prog w=.ok 2 w :=λw => by simp[Go.sizeOf,typeInfo,h1,h4]
  rw[run_callFunc_extern Tryz.func124 (by kernel_rfl) (by kernel_rfl) (by kernel_rfl) (e :=Extern.SlicesOverlaps.overlaps #[24,24] #[4]) (by kernel_rfl),
    Go.Vm.run_overlaps_own w 24 4 67 Tryz.underlying24 2 hz a b la ca lb cb tA tB kA kB hsa hsb hkB hfa hsp hap]
  rfl
set_option maxHeartbeats 4000000 in
set_option maxRecDepth 100000 in
def Tryz.insShift(b off n c i vb voff vc:Nat)(cs vs:List Value)(w:World)(hi:i<n)(hroom:n+1<=c)(hc63:n+1<=9223372036854775807)(hcl:cs.length=n*2)(hvl:vs.length=2)
    (hcs:∀j v,cs[j]?=some v->w.cell? ⟨b,off+j,none⟩=some v) (hsp:∀j,j<(n+1)*2->(w.cell? ⟨b,off+j,none⟩).isSome=true) (hfz:∀j,j<(n+1)*2->w.frozen? ⟨b,off+j,none⟩=false)
    (hvs:∀j v,vs[j]?=some v->w.cell? ⟨vb,voff+j,none⟩=some v) (h1c:∀v∈cs,v.oneCell'=true) (h1v:∀v∈vs,v.oneCell'=true)
    (hov:∀lb cb,lb=n-i->(callFunc 124 #[.slice (some ⟨vb,voff,none⟩) 1 vc,.slice (some ⟨b,off+(i+1)*2,none⟩) lb cb]).run Tryz.prog w=.ok (.value (.bool false)) w)
    (hap:vb=b->∀j k,j<2->k<(n+1)*2->voff+j≠off+k) :
    Calls Tryz.prog 75 #[.slice (some ⟨b,off,none⟩) n c,.int .i64 i,.slice (some ⟨vb,voff,none⟩) 1 vc] w λe w' =>
      e=.returned (.slice (some ⟨b,off,none⟩) (n+1) c)/\w'=(w.drew.setCells b (off+(i+1)*2) (cs.drop (i*2))).setCells b (off+i*2) vs :=by
  obtain⟨i0,zv,h1,h2,h3,h4,h5⟩ :=Tryz.insInfo
  have hsz:(Tryz.prog.info? 67).map (·.size)=some 2 :=by rw[h1]; simp[h4]
  have hz9:∀w,(Go.sizeOf 67).run Tryz.prog w=.ok 2 w :=λw => by simp[Go.sizeOf,typeInfo,h1,h4]
  have u :=run_underlying Tryz.underlying24
  have hz2:¬((i:Int)=(n:Int)) :=by omega
  have hdl:(cs.drop (i*2)).length=(n-i)*2 :=by rw[List.length_drop,hcl]; omega
  have hw1:IntKind.i64.wrap ((i:Int)+1)=(i:Int)+1 :=by rw[IntKind.wrap_i64]; omega
  have hb1:(0:Int)<=(i:Int)+1 :=by omega
  have hin:i<=n :=by omega
  have htn:((i:Int)+1).toNat=i+1 :=by omega
  have hb2:¬(c=i+1) :=by omega
  have hb3:(i:Int)<=(n:Int)+1 :=by omega
  have hb4:¬(c=i) :=by omega
  have hcp1:∀ty dc sc,(Builtin.copy_ #[24,24] ty #[.slice (some ⟨b,off+(i+1)*2,none⟩) (n-i) dc,.slice (some ⟨b,off+i*2,none⟩) (n+1-i) sc]).run Tryz.prog w.drew=.ok (goInt ((n-i:Nat):Int)) (w.drew.setCells b (off+(i+1)*2) (cs.drop (i*2))) :=λty dc sc =>
    Go.Vm.run_copy_rows w.drew _ _ ty 67 2 (n-i) b (off+(i+1)*2) (n-i) dc ⟨b,off+i*2,none⟩ (n+1-i) sc (cs.drop (i*2)) Tryz.underlying24 hsz (by simp only[Nat.min_def]; split<;>omega) hdl
      (λj v hj => by rw[Addr.add_lit,Nat.add_assoc]; exact hcs (i*2+j) v (by rwa [List.getElem?_drop] at hj))
      (λj hj => by rw[Nat.add_assoc]; exact hsp _ (by omega)) (λj hj => by rw[Nat.add_assoc]; exact hfz _ (by omega)) (λv hv => h1c v (List.mem_of_mem_drop hv))
  obtain⟨W1,hW1⟩:∃W1,W1=w.drew.setCells b (off+(i+1)*2) (cs.drop (i*2)) :=⟨_,rfl⟩
  have hsp1:∀k,k<(n+1)*2->(W1.cell? ⟨b,off+k,none⟩).isSome=true :=λk hk => by
    rw[hW1]
    exact isSome_setCells b _ _ _ (λj hj => by rw[Nat.add_assoc]; exact hsp _ (by omega)) _ (hsp k hk)
  have hcp2:∀(W:World),(∀x,W.cell? x=W1.cell? x)->(∀x,W.frozen? x=W1.frozen? x)->∀ty dc,(Builtin.copy_ #[24,24] ty #[.slice (some ⟨b,off+i*2,none⟩) (n+1-i) dc,.slice (some ⟨vb,voff,none⟩) 1 vc]).run Tryz.prog W=.ok (goInt ((1:Nat):Int)) (W.setCells b (off+i*2) vs) :=λW hWc hWf ty dc =>
    Go.Vm.run_copy_rows W _ _ ty 67 2 1 b (off+i*2) (n+1-i) dc ⟨vb,voff,none⟩ 1 vc vs Tryz.underlying24 hsz (by simp only[Nat.min_def]; split<;>omega) hvl
      (λj v hj => by
        have hj2:j<2 :=by rw[<-hvl]; exact(List.getElem?_eq_some_iff.1 hj).1
        rw[Addr.add_lit,hWc,hW1,World.cell?_setCells_out b _ _ _ _ (λh _ => by
          have :=hap h j
          by_cases hlt:voff+j<off+(i+1)*2
          · exact .inl hlt
          · right
            rw[hdl]
            rcases Nat.lt_or_ge (voff+j) (off+(i+1)*2+(n-i)*2) with hq | hq
            · exact absurd (show voff+j=off+(voff+j-off) by omega) (this (voff+j-off) hj2 (by omega))
            · exact hq)]
        exact hvs j v hj)
      (λj hj => by rw[hWc,Nat.add_assoc]; exact hsp1 _ (by omega)) (λj hj => by rw[hWf,hW1,World.frozen?_setCells,Nat.add_assoc]; exact hfz _ (by omega)) h1v
  rw[<-hW1] at hcp1
  have hovx :=λlb cb h => hov lb cb h
  have mixed:Tryz.prog.follows .mixedOrders=true :=by kernel_rfl
  go_enter Tryz.func75,Tryz.ntmps75
  go_wp2_with (simp only[hov _ _ rfl])
  go_region_law_o (refine step_copy_runI rfl _ _ 24 24 rfl _ _ (by simp[Act.eval,Act.put]) (by simp[Act.eval,Act.put]) (hcp1 _ _ _) ?_)
  go_wp2_with (at_builtin; refine wpList_copy_runI _ rfl _ _ 24 24 rfl _ _ rfl rfl (hcp2 _ (λ_ => rfl) (λ_ => rfl) _ _) ?_)
  go_ret
  first | exact⟨rfl,rfl⟩ | exact⟨rfl,by rw[hW1]⟩
set_option maxHeartbeats 4000000 in
set_option maxRecDepth 100000 in
def Tryz.insRoom(b off n c vb voff vc:Nat)(vs:List Value)(w:World)(hroom:n+1<=c)(hc63:n+1<=9223372036854775807)(hvl:vs.length=2)
    (hsp:∀j,j<2->(w.cell? ⟨b,off+n*2+j,none⟩).isSome=true) (hfz:∀j,j<2->w.frozen? ⟨b,off+n*2+j,none⟩=false)
    (hvs:∀j v,vs[j]?=some v->w.cell? ⟨vb,voff+j,none⟩=some v) (h1v:∀v∈vs,v.oneCell'=true) :
    Calls Tryz.prog 75 #[.slice (some ⟨b,off,none⟩) n c,.int .i64 n,.slice (some ⟨vb,voff,none⟩) 1 vc] w λe w' =>
      e=.returned (.slice (some ⟨b,off,none⟩) (n+1) c)/\w'=w.setCells b (off+n*2) vs :=by
  obtain⟨i0,zv,h1,h2,h3,h4,h5⟩ :=Tryz.insInfo
  have u :=run_underlying Tryz.underlying24
  have mixed:Tryz.prog.follows .mixedOrders=true :=by kernel_rfl
  have hrun:∀ty,(Builtin.append_ #[24,24] ty #[.slice (some ⟨b,off,none⟩) n c,.slice (some ⟨vb,voff,none⟩) 1 vc]).run Tryz.prog w=.ok (.slice (some ⟨b,off,none⟩) (n+1) c) (w.setCells b (off+n*2) vs) :=λty =>
    Go.Vm.run_append_in Tryz.underlying24 Tryz.underlying24 (.inr ⟨_,rfl⟩) h1 (m :=1) (λw => rfl)
      (by rw[h4]; exact run_firstCells_some w 2 1 ⟨vb,voff,none⟩ 1 vc vs hvl (λj v hj => by rw[Addr.add_lit]; exact hvs j v hj)) hroom
      (λa ha => by
        injection ha with ha; subst ha
        rw[h4,Addr.add_lit]
        have :=run_storeCells_cells (P :=Tryz.prog) b (off+n*2) vs 0 w (λj hj => by simpa using hsp j (by omega)) (λj hj => by simpa using hfz j (by omega)) h1v
        simpa using this) (λe => by cases e)
  go_enter Tryz.func75,Tryz.ntmps75
  go_wp2_with (at_builtin; refine Lib.wpList_append_run _ rfl _ _ _ _ rfl _ _ rfl rfl _ _ (hrun _) ?_)
  go_ret
  exact⟨rfl,rfl⟩
set_option maxHeartbeats 4000000 in
set_option maxRecDepth 100000 in
def Tryz.insEnd(i0:TypeInfo)(zv:Value)(h1:Tryz.prog.info? 67=some i0)(h2:i0.zero=some zv)(h3:i0.bytes=32)(h4:i0.size=2)(base:Option Addr)(n c vb voff vc:Nat)(cs vs:List Value)(w:World)(hnc:n<=c)(hroom:c<n+1)(hbig:(n+1)*32<=140737488355328)
    (hcl:cs.length=n*2) (hvl:vs.length=2) (hnil:base=none->n=0) (hcs:∀a,base=some a->∀j v,cs[j]?=some v->w.cell? (a.add j)=some v) (hvs:∀j v,vs[j]?=some v->w.cell? ⟨vb,voff+j,none⟩=some v) :
    Calls Tryz.prog 75 #[.slice base n c,.int .i64 n,.slice (some ⟨vb,voff,none⟩) 1 vc] w λe w' =>
      e=.returned (.slice (some ⟨w.heap.size,0,none⟩) (n+1) (grownCap w (n+1) c 67))/\w'=w.drew.alloc (.cells (cs.toArray++vs.toArray++Builtin.zeroCells zv.cells (grownCap w (n+1) c 67-(n+1))) 67) :=by
  have u :=run_underlying Tryz.underlying24
  have mixed:Tryz.prog.follows .mixedOrders=true :=by kernel_rfl
  have hold:(Builtin.firstCells i0.size n (.slice base n c)).run Tryz.prog w.drew=.ok cs.toArray w.drew :=by
    rw[h4]
    cases base with
    | none =>
      have h0 :=hnil rfl
      subst h0
      have hc0:cs=[] :=List.length_eq_zero_iff.1 (by omega)
      rw[hc0]
      exact run_firstCells_none w.drew 2 0 0 c
    | some a => exact run_firstCells_some w.drew 2 n a n c cs hcl (λj v hj => hcs a rfl j v hj)
  have hrun:∀ty,(Builtin.append_ #[24,24] ty #[.slice base n c,.slice (some ⟨vb,voff,none⟩) 1 vc]).run Tryz.prog w=.ok (.slice (some ⟨w.heap.size,0,none⟩) (n+1) (grownCap w (n+1) c 67)) (w.drew.alloc (.cells (cs.toArray++vs.toArray++Builtin.zeroCells zv.cells (grownCap w (n+1) c 67-(n+1))) 67)) :=λty =>
    Go.Vm.run_append_new Tryz.underlying24 Tryz.underlying24 (.inr ⟨_,rfl⟩) h1 h2 (m :=1) (λw => rfl) hold
      (by rw[h4]; exact run_firstCells_some w.drew 2 1 ⟨vb,voff,none⟩ 1 vc vs hvl (λj v hj => by rw[Addr.add_lit]; exact hvs j v hj)) hroom (by omega) (by rw[h3]; exact growslice_fits hroom hbig)
  obtain⟨ROW,hROW⟩:∃ROW:Array Value,ROW=cs.toArray++vs.toArray++Builtin.zeroCells zv.cells (grownCap w (n+1) c 67-(n+1)) :=⟨_,rfl⟩
  rw[<-hROW] at hrun ⊢
  clear hROW hold
  go_enter Tryz.func75,Tryz.ntmps75
  cases base with
  | none =>
    have h0 :=hnil rfl
    subst h0
    go_wp2_with (at_builtin; refine Lib.wpList_append_run _ rfl _ _ _ _ rfl _ _ rfl rfl _ _ (hrun _) ?_)
    all_goals (go_ret; exact⟨rfl,rfl⟩)
  | some a =>
    obtain⟨ab,ao,asp⟩ :=a
    go_wp2_with (at_builtin; refine Lib.wpList_append_run _ rfl _ _ _ _ rfl _ _ rfl rfl _ _ (hrun _) ?_)
    all_goals (go_ret; exact⟨rfl,rfl⟩)
set_option maxHeartbeats 4000000 in
set_option maxRecDepth 100000 in
def Tryz.insGrow(i0:TypeInfo)(zv:Value)(h1:Tryz.prog.info? 67=some i0)(h2:i0.zero=some zv)(h3:i0.bytes=32)(h4:i0.size=2)(h5:zv.cells.size=2)(b off n c i vb voff vc:Nat)(cs vs:List Value)(w:World)(hi:i<n)(hnc:n<=c)(hroom:c<n+1)(hbig:(n+1)*32<=140737488355328)
    (hcl:cs.length=n*2) (hvl:vs.length=2) (hcs:∀j v,cs[j]?=some v->w.cell? ⟨b,off+j,none⟩=some v) (hvs:∀j v,vs[j]?=some v->w.cell? ⟨vb,voff+j,none⟩=some v) (h1c:∀v∈cs,v.oneCell'=true) (h1v:∀v∈vs,v.oneCell'=true) :
    Calls Tryz.prog 75 #[.slice (some ⟨b,off,none⟩) n c,.int .i64 i,.slice (some ⟨vb,voff,none⟩) 1 vc] w λe w' =>
      e=.returned (.slice (some ⟨w.heap.size,0,none⟩) (n+1) (grownCap w (n+1) c 67)) /\
      w'=(((w.alloc (.cells ((cs.take (i*2)).toArray++Builtin.zeroCells zv.cells (n+1-i)++Builtin.zeroCells zv.cells (grownCap w (n+1) c 67-(n+1))) 67)).drew.setCells w.heap.size (i*2) vs).drew).setCells w.heap.size ((i+1)*2) (cs.drop (i*2)) :=by
  have u :=run_underlying Tryz.underlying24
  have mixed:Tryz.prog.follows .mixedOrders=true :=by kernel_rfl
  have hz2:¬((i:Int)=(n:Int)) :=by omega
  have hz3:(c:Int)<(n:Int)+1 :=by omega
  have hsz:(Tryz.prog.info? 67).map (·.size)=some 2 :=by rw[h1]; simp[h4]
  have hbw:b<w.heap.size :=block_lt_of_cell (hcs 0 _ (List.getElem?_eq_getElem (by omega)))
  have hvw:vb<w.heap.size :=block_lt_of_cell (hvs 0 _ (List.getElem?_eq_getElem (by omega)))
  have hkk:(n:Int)+1-(i:Int)=((n+1-i:Nat):Int) :=by omega
  have hik:i+(n+1-i)=n+1 :=by omega
  have hold:(Builtin.firstCells i0.size i (.slice (some ⟨b,off,none⟩) i c)).run Tryz.prog w.drew=.ok (cs.take (i*2)).toArray w.drew :=by
    rw[h4]
    exact run_firstCells_some w.drew 2 i ⟨b,off,none⟩ i c (cs.take (i*2)) (by rw[List.length_take]; omega) (λj v hj => by
      rw[Addr.add_lit]
      rw[List.getElem?_take] at hj
      split at hj
      · exact hcs j v hj
      · cases hj)
  have hrz:∀ty,(Builtin.append_ #[24,3] ty #[.slice (some ⟨b,off,none⟩) i c,.int .i64 ((n:Int)+1-(i:Int))]).run Tryz.prog w =
      .ok (.slice (some ⟨w.heap.size,0,none⟩) (n+1) (grownCap w (n+1) c 67)) (w.drew.alloc (.cells ((cs.take (i*2)).toArray++Builtin.zeroCells zv.cells (n+1-i)++Builtin.zeroCells zv.cells (grownCap w (n+1) c 67-(n+1))) 67)) :=λty => by
    have h :=Lib.run_append_grow_zeros w 24 3 ty 67 i0 zv .i64 .i64 Tryz.underlying24 Tryz.underlying3 h1 h2 (some ⟨b,off,none⟩) i c (cs.take (i*2)) hold (n+1-i) (by omega) (by omega) (by omega) (by omega) (by rw[h3]; omega) (by rw[h3,hik]; exact growslice_fits hroom hbig)
    rw[hik] at h
    rw[hkk]
    exact h
  obtain⟨G,hG⟩:∃G,G=grownCap w (n+1) c 67 :=⟨_,rfl⟩
  obtain⟨ROW,hROW⟩:∃ROW:Array Value,ROW=(cs.take (i*2)).toArray++Builtin.zeroCells zv.cells (n+1-i)++Builtin.zeroCells zv.cells (G-(n+1)) :=⟨_,rfl⟩
  rw[<-hG] at hrz ⊢
  rw[<-hROW] at hrz ⊢
  have hRl:(n+1)*2<=ROW.size :=by
    have hzs:∀q,(Builtin.zeroCells zv.cells q).size=q*2 :=λq => by rw[<-h5]; simp[Builtin.zeroCells]
    rw[hROW]
    simp only[Array.size_append,hzs,List.size_toArray,List.length_take]
    omega
  obtain⟨W1,hW1⟩:∃W1,W1=w.drew.alloc (.cells ROW 67) :=⟨_,rfl⟩
  rw[<-hW1] at hrz
  have hN:∀j,j<(n+1)*2->(W1.cell? ⟨w.heap.size,j,none⟩).isSome=true :=λj hj => by
    rw[hW1,World.cell?_alloc_at (w :=w.drew) ROW _ w.heap.size j rfl,Array.getElem?_eq_getElem (by omega)]; rfl
  have hNf:∀j,W1.frozen? ⟨w.heap.size,j,none⟩=false :=λj => by rw[hW1]; exact World.frozen?_alloc_at (w :=w.drew) ROW _ w.heap.size j rfl
  have hOb:∀j v,w.cell? ⟨b,j,none⟩=some v->W1.cell? ⟨b,j,none⟩=some v :=λj v h => by rw[hW1,World.cell?_alloc_past (w :=w.drew) _ b j hbw]; exact h
  have hOv:∀j v,w.cell? ⟨vb,j,none⟩=some v->W1.cell? ⟨vb,j,none⟩=some v :=λj v h => by rw[hW1,World.cell?_alloc_past (w :=w.drew) _ vb j hvw]; exact h
  have hcpA:∀(W:World),(∀x,W.cell? x=W1.cell? x)->(∀x,W.frozen? x=W1.frozen? x)->∀ty dc,(Builtin.copy_ #[24,24] ty #[.slice (some ⟨w.heap.size,i*2,none⟩) (n+1-i) dc,.slice (some ⟨vb,voff,none⟩) 1 vc]).run Tryz.prog W=.ok (goInt ((1:Nat):Int)) (W.setCells w.heap.size (i*2) vs) :=λW hWc hWf ty dc =>
    Go.Vm.run_copy_rows W _ _ ty 67 2 1 w.heap.size (i*2) (n+1-i) dc ⟨vb,voff,none⟩ 1 vc vs Tryz.underlying24 hsz (by simp only[Nat.min_def]; split<;>omega) hvl
      (λj v hj => by rw[Addr.add_lit,hWc]; exact hOv _ v (hvs j v hj))
      (λj hj => by rw[hWc]; exact hN _ (by omega)) (λj hj => by rw[hWf]; exact hNf _) h1v
  have hGn:n+1<=G :=by rw[hG]; exact grownCap_ge w _ _ _
  have hG63:G<=9223372036854775807 :=by
    have :=grownCap_le_maxLen w (n+1) c 67 (by unfold maxLen; omega)
    rw[<-hG] at this
    unfold maxLen at this
    omega
  have hGi:¬(G=i) :=by omega
  have hGim:¬(G=i+1) :=by omega
  have hci:¬(c=i) :=by omega
  have hbN:b≠w.heap.size :=by omega
  have hdl:(cs.drop (i*2)).length=(n-i)*2 :=by rw[List.length_drop,hcl]; omega
  have hcpB:∀(W:World),(∀x,W.cell? x=(W1.setCells w.heap.size (i*2) vs).cell? x)->(∀x,W.frozen? x=(W1.setCells w.heap.size (i*2) vs).frozen? x)->∀ty dc sc,(Builtin.copy_ #[24,24] ty #[.slice (some ⟨w.heap.size,(i+1)*2,none⟩) (n-i) dc,.slice (some ⟨b,off+i*2,none⟩) (n-i) sc]).run Tryz.prog W=.ok (goInt ((n-i:Nat):Int)) (W.setCells w.heap.size ((i+1)*2) (cs.drop (i*2))) :=λW hWc hWf ty dc sc =>
    Go.Vm.run_copy_rows W _ _ ty 67 2 (n-i) w.heap.size ((i+1)*2) (n-i) dc ⟨b,off+i*2,none⟩ (n-i) sc (cs.drop (i*2)) Tryz.underlying24 hsz (by simp only[Nat.min_def]; split<;>omega) hdl
      (λj v hj => by
        rw[Addr.add_lit,hWc,World.cell?_setCells_out _ _ _ _ _ (λh _ => absurd h hbN),Nat.add_assoc]
        exact hOb _ v (hcs (i*2+j) v (by rwa [List.getElem?_drop] at hj)))
      (λj hj => by rw[hWc]; exact isSome_setCells _ _ _ _ (λt ht => hN _ (by omega)) _ (hN _ (by omega)))
      (λj hj => by rw[hWf,World.frozen?_setCells]; exact hNf _) (λv hv => h1c v (List.mem_of_mem_drop hv))
  subst hW1
  have hE1:∀x,((w.alloc (.cells ROW 67)).drew).cell? x=(w.drew.alloc (.cells ROW 67)).cell? x :=λx => rfl
  have hE2:∀x,((w.alloc (.cells ROW 67)).drew).frozen? x=(w.drew.alloc (.cells ROW 67)).frozen? x :=λx => rfl
  have hF1:∀x,(((w.alloc (.cells ROW 67)).drew.setCells w.heap.size (i*2) vs).drew).cell? x=((w.drew.alloc (.cells ROW 67)).setCells w.heap.size (i*2) vs).cell? x :=λx => rfl
  have hF2:∀x,(((w.alloc (.cells ROW 67)).drew.setCells w.heap.size (i*2) vs).drew).frozen? x=((w.drew.alloc (.cells ROW 67)).setCells w.heap.size (i*2) vs).frozen? x :=λx => rfl
  have hw1:IntKind.i64.wrap ((i:Int)+1)=(i:Int)+1 :=by rw[IntKind.wrap_i64]; omega
  have hb1:(0:Int)<=(i:Int)+1 :=by omega
  have hin:i<=n :=by omega
  have htn:((i:Int)+1).toNat=i+1 :=by omega
  have hb3:(i:Int)<=(n:Int) :=by omega
  clear hkk hik hold hROW hG hRl
  go_enter Tryz.func75,Tryz.ntmps75
  go_wp2_with (first
    | (at_builtin; refine Lib.wpList_append_run _ rfl _ _ _ _ rfl _ _ rfl rfl _ _ (hrz _) ?_)
    | (at_builtin; refine wpList_copy_runI _ rfl _ _ 24 24 rfl _ _ rfl rfl (hcpA _ hE1 hE2 _ _) ?_)
    | (at_builtin; refine wpList_copy_runI _ rfl _ _ 24 24 rfl _ _ rfl rfl (hcpB _ (λ_ => rfl) (λ_ => rfl) _ _ _) ?_))
  go_region_law_o (refine step_copy_runI rfl _ _ 24 24 rfl (.slice (some ⟨w.heap.size,(i+1)*2,none⟩) (n-i) (G-(i+1))) (.slice (some ⟨b,off+i*2,none⟩) (n-i) (c-i)) (by simp[Act.eval,Act.put]) (by simp[Act.eval,Act.put]) (hcpB _ hF1 hF2 3 (G-(i+1)) (c-i)) ?_)
  go_wp2
  go_ret
  exact⟨rfl,rfl⟩
end Go.Proofs
