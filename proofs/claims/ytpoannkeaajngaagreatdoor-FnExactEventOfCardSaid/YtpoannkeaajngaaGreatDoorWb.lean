/- Functions of the program, walked by the evaluator. -/
import Derived.Test.YtpoannkeaajngaaGreatDoorWa
import Derived.Test.YtpoannkeaajngaaGreatDoorProg
import Derived.KernelRfl
import Derived.WalkKit
import Derived.LoopTactic
import Derived.Shelf.Strings.OnBuilder
import Derived.Shelf.Strings.Cut
import Derived.Shelf.Strings.Split
import Derived.Shelf.Strings.Replace
import Derived.Shelf.Strings.SplitShaped
import Derived.Shelf.Strings.SlTrimAscii
set_option linter.unusedVariables false
set_option linter.unusedSimpArgs false
set_option autoImplicit false
set_option maxRecDepth 100000
set_option maxHeartbeats 4000000
set_option linter.defProp false
namespace Go.Vm.A
open Go.Proofs
def T:TypeId->Option TI
  | 1 => some .fn
  | 2 => some (.int .i64)
  | 3 => some (.int .i64)
  | 4 => some .bool
  | 5 => some (.int .u8)
  | 9 => some .str
  | 21 => some (.int .i32)
  | 22 => some (.slice 1 1 [.i .u8 0])
  | 23 => some .fn
  | 24 => some (.slice 2 32 [.s ⟨#[]⟩,.s ⟨#[]⟩])
  | 25 => some (.struct 4 [(0,1,false,0),(1,1,false,0),(2,1,false,0),(3,1,false,2)] [.s ⟨#[]⟩,.s ⟨#[]⟩,.s ⟨#[]⟩,.sl .mut 2 []])
  | 26 => some (.struct 4 [(0,1,false,0),(1,1,false,0),(2,1,false,0),(3,1,false,2)] [.s ⟨#[]⟩,.s ⟨#[]⟩,.s ⟨#[]⟩,.sl .mut 2 []])
  | 27 => some (.struct 7 [(0,1,false,0),(1,1,false,0),(2,1,false,0),(3,1,false,0),(4,1,false,0),(5,1,false,0),(6,1,false,0)] [.i .i64 0,.i .i64 0,.i .i64 0,.i .i64 0,.i .i64 0,.b false,.b false])
  | 28 => some (.struct 7 [(0,1,false,0),(1,1,false,0),(2,1,false,0),(3,1,false,0),(4,1,false,0),(5,1,false,0),(6,1,false,0)] [.i .i64 0,.i .i64 0,.i .i64 0,.i .i64 0,.i .i64 0,.b false,.b false])
  | 29 => some (.slice 1 16 [.s ⟨#[]⟩])
  | 30 => some (.struct 13 [(0,1,false,0),(1,1,false,0),(2,1,false,2),(3,1,false,1),(4,7,true,0),(11,1,false,1),(12,1,false,0)] [.s ⟨#[]⟩,.i .i64 0,.sl .mut 2 [],.sl .mut 1 [],.i .i64 0,.i .i64 0,.i .i64 0,.i .i64 0,.i .i64 0,.b false,.b false,.sl .mut 1 [],.i .i64 0])
  | 31 => some (.struct 13 [(0,1,false,0),(1,1,false,0),(2,1,false,2),(3,1,false,1),(4,7,true,0),(11,1,false,1),(12,1,false,0)] [.s ⟨#[]⟩,.i .i64 0,.sl .mut 2 [],.sl .mut 1 [],.i .i64 0,.i .i64 0,.i .i64 0,.i .i64 0,.i .i64 0,.b false,.b false,.sl .mut 1 [],.i .i64 0])
  | 33 => some .fn
  | 34 => some (.struct 5 [(0,1,false,0),(1,4,true,0)] [.i .i64 0,.s ⟨#[]⟩,.s ⟨#[]⟩,.s ⟨#[]⟩,.sl .mut 2 []])
  | 35 => some (.struct 5 [(0,1,false,0),(1,4,true,0)] [.i .i64 0,.s ⟨#[]⟩,.s ⟨#[]⟩,.s ⟨#[]⟩,.sl .mut 2 []])
  | 36 => some .fn
  | 37 => some (.struct 3 [(0,1,false,0),(1,1,false,2),(2,1,false,1)] [.i .i64 0,.sl .mut 2 [],.sl .mut 1 []])
  | 38 => some (.struct 3 [(0,1,false,0),(1,1,false,2),(2,1,false,1)] [.i .i64 0,.sl .mut 2 [],.sl .mut 1 []])
  | 40 => some .fn
  | 41 => some (.struct 4 [(0,1,false,0),(1,3,true,0)] [.i .i64 0,.i .i64 0,.sl .mut 2 [],.sl .mut 1 []])
  | 42 => some (.struct 4 [(0,1,false,0),(1,3,true,0)] [.i .i64 0,.i .i64 0,.sl .mut 2 [],.sl .mut 1 []])
  | 43 => some .fn
  | 44 => some .fn
  | 45 => some .fn
  | 46 => some .fn
  | 47 => some .fn
  | 48 => some (.struct 2 [(0,1,false,0),(1,1,false,0)] [.i .i64 0,.s ⟨#[]⟩])
  | 49 => some (.struct 2 [(0,1,false,0),(1,1,false,0)] [.i .i64 0,.s ⟨#[]⟩])
  | 50 => some .fn
  | 51 => some .fn
  | 52 => some .fn
  | 53 => some (.struct 12 [(0,1,false,0),(1,1,false,0),(2,1,false,0),(3,4,true,0),(7,3,true,0),(10,1,false,0),(11,1,false,0)] [.i .i64 0,.i .i64 0,.i .i64 0,.s ⟨#[]⟩,.s ⟨#[]⟩,.s ⟨#[]⟩,.sl .mut 2 [],.i .i64 0,.sl .mut 2 [],.sl .mut 1 [],.s ⟨#[]⟩,.b false])
  | 54 => some (.struct 12 [(0,1,false,0),(1,1,false,0),(2,1,false,0),(3,4,true,0),(7,3,true,0),(10,1,false,0),(11,1,false,0)] [.i .i64 0,.i .i64 0,.i .i64 0,.s ⟨#[]⟩,.s ⟨#[]⟩,.s ⟨#[]⟩,.sl .mut 2 [],.i .i64 0,.sl .mut 2 [],.sl .mut 1 [],.s ⟨#[]⟩,.b false])
  | 55 => some (.struct 13 [(0,1,false,0),(1,12,true,0)] [.i .i64 0,.i .i64 0,.i .i64 0,.i .i64 0,.s ⟨#[]⟩,.s ⟨#[]⟩,.s ⟨#[]⟩,.sl .mut 2 [],.i .i64 0,.sl .mut 2 [],.sl .mut 1 [],.s ⟨#[]⟩,.b false])
  | 56 => some (.struct 13 [(0,1,false,0),(1,12,true,0)] [.i .i64 0,.i .i64 0,.i .i64 0,.i .i64 0,.s ⟨#[]⟩,.s ⟨#[]⟩,.s ⟨#[]⟩,.sl .mut 2 [],.i .i64 0,.sl .mut 2 [],.sl .mut 1 [],.s ⟨#[]⟩,.b false])
  | 57 => some .fn
  | 58 => some .fn
  | 59 => some .fn
  | 60 => some .fn
  | 61 => some .ptr
  | 62 => some .fn
  | 63 => some .fn
  | 64 => some .fn
  | 66 => some (.struct 2 [(0,1,false,0),(1,1,false,0)] [.s ⟨#[]⟩,.s ⟨#[]⟩])
  | 67 => some (.struct 2 [(0,1,false,0),(1,1,false,0)] [.s ⟨#[]⟩,.s ⟨#[]⟩])
  | 68 => some .fn
  | 69 => some .fn
  | 70 => some .fn
  | 71 => some .fn
  | 72 => some .fn
  | 73 => some .fn
  | 74 => some .fn
  | 75 => some .fn
  | 77 => some .fn
  | 78 => some .ptr
  | 79 => some .ptr
  | 80 => some .fn
  | 81 => some .fn
  | 82 => some .fn
  | 83 => some .fn
  | 84 => some .fn
  | 86 => some .fn
  | 87 => some .fn
  | 89 => some .fn
  | 90 => some .fn
  | 91 => some .fn
  | 92 => some .fn
  | 93 => some .fn
  | 94 => some (.struct 2 [(0,1,false,1),(1,1,false,0)] [.sl .mut 1 [],.i .i64 0])
  | 95 => some (.struct 2 [(0,1,false,1),(1,1,false,0)] [.sl .mut 1 [],.i .i64 0])
  | 96 => some .fn
  | 97 => some .fn
  | 98 => some .fn
  | 99 => some .fn
  | 100 => some .fn
  | 101 => some .fn
  | 102 => some .fn
  | 103 => some .fn
  | 104 => some .fn
  | 106 => some .fn
  | 107 => some (.slice 1 8 [.i .i64 0])
  | 108 => some .fn
  | 109 => some .fn
  | 110 => some .fn
  | 111 => some .fn
  | 112 => some .fn
  | 113 => some .fn
  | 114 => some .fn
  | 116 => some .fn
  | 117 => some .fn
  | 118 => some .fn
  | 119 => some .fn
  | 120 => some .ptr
  | 122 => some .fn
  | 123 => some .fn
  | 124 => some .fn
  | 126 => some .fn
  | 127 => some .fn
  | 129 => some .fn
  | 130 => some .fn
  | 131 => some .fn
  | 132 => some .fn
  | 133 => some .fn
  | 134 => some .fn
  | 135 => some .fn
  | 136 => some .fn
  | 137 => some .fn
  | 138 => some (.array 5 1 false [.i .i64 0,.i .i64 0,.i .i64 0,.i .i64 0,.i .i64 0])
  | 139 => some .fn
  | 140 => some .fn
  | 141 => some .fn
  | 142 => some .fn
  | 143 => some .ptr
  | 144 => some (.struct 2 [(0,1,false,0),(1,1,false,1)] [.pn,.sl .mut 1 []])
  | 145 => some (.struct 2 [(0,1,false,0),(1,1,false,1)] [.pn,.sl .mut 1 []])
  | 146 => some .fn
  | 150 => some .fn
  | 152 => some .fn
  | 153 => some .fn
  | 154 => some .fn
  | 155 => some .fn
  | 156 => some (.struct 2 [(0,1,false,0),(1,1,false,0)] [.i .i64 0,.i .i64 0])
  | 157 => some (.struct 2 [(0,1,false,0),(1,1,false,0)] [.i .i64 0,.i .i64 0])
  | 158 => some .fn
  | 159 => some .fn
  | 160 => some .fn
  | 161 => some .fn
  | 162 => some (.slice 1 8 [.u])
  | 163 => some .fn
  | 164 => some .fn
  | 165 => some .fn
  | 166 => some .fn
  | 170 => some .fn
  | 171 => some .fn
  | 172 => some .ptr
  | 173 => some .ptr
  | 175 => some .fn
  | 176 => some .fn
  | 177 => some .fn
  | 178 => some .fn
  | 179 => some .fn
  | 180 => some .fn
  | 181 => some .fn
  | 182 => some .fn
  | 184 => some .fn
  | 185 => some .fn
  | 188 => some .fn
  | 189 => some .fn
  | 190 => some .fn
  | 191 => some .fn
  | 192 => some (.int .u64)
  | 194 => some (.struct 2 [(0,1,false,0),(1,1,false,0)] [.i .u8 0,.i .u8 0])
  | 195 => some (.struct 2 [(0,1,false,0),(1,1,false,0)] [.i .u8 0,.i .u8 0])
  | 196 => some (.array 16 2 true [.i .u8 0,.i .u8 0,.i .u8 0,.i .u8 0,.i .u8 0,.i .u8 0,.i .u8 0,.i .u8 0,.i .u8 0,.i .u8 0,.i .u8 0,.i .u8 0,.i .u8 0,.i .u8 0,.i .u8 0,.i .u8 0,.i .u8 0,.i .u8 0,.i .u8 0,.i .u8 0,.i .u8 0,.i .u8 0,.i .u8 0,.i .u8 0,.i .u8 0,.i .u8 0,.i .u8 0,.i .u8 0,.i .u8 0,.i .u8 0,.i .u8 0,.i .u8 0])
  | 197 => some .fn
  | 198 => some (.int .u32)
  | 200 => some .fn
  | 206 => some .fn
  | _ => none
@[go_sem] def T1:T 1=some .fn :=nr rfl
@[go_sem] def T2:T 2=some (.int .i64) :=nr rfl
@[go_sem] def T3:T 3=some (.int .i64) :=nr rfl
@[go_sem] def T4:T 4=some .bool :=nr rfl
@[go_sem] def T5:T 5=some (.int .u8) :=nr rfl
@[go_sem] def T9:T 9=some .str :=nr rfl
@[go_sem] def T21:T 21=some (.int .i32) :=nr rfl
@[go_sem] def T22:T 22=some (.slice 1 1 [.i .u8 0]) :=nr rfl
@[go_sem] def T23:T 23=some .fn :=nr rfl
@[go_sem] def T24:T 24=some (.slice 2 32 [.s ⟨#[]⟩,.s ⟨#[]⟩]) :=nr rfl
@[go_sem] def T25:T 25=some (.struct 4 [(0,1,false,0),(1,1,false,0),(2,1,false,0),(3,1,false,2)] [.s ⟨#[]⟩,.s ⟨#[]⟩,.s ⟨#[]⟩,.sl .mut 2 []]) :=nr rfl
@[go_sem] def T26:T 26=some (.struct 4 [(0,1,false,0),(1,1,false,0),(2,1,false,0),(3,1,false,2)] [.s ⟨#[]⟩,.s ⟨#[]⟩,.s ⟨#[]⟩,.sl .mut 2 []]) :=nr rfl
@[go_sem] def T27:T 27=some (.struct 7 [(0,1,false,0),(1,1,false,0),(2,1,false,0),(3,1,false,0),(4,1,false,0),(5,1,false,0),(6,1,false,0)] [.i .i64 0,.i .i64 0,.i .i64 0,.i .i64 0,.i .i64 0,.b false,.b false]) :=nr rfl
@[go_sem] def T28:T 28=some (.struct 7 [(0,1,false,0),(1,1,false,0),(2,1,false,0),(3,1,false,0),(4,1,false,0),(5,1,false,0),(6,1,false,0)] [.i .i64 0,.i .i64 0,.i .i64 0,.i .i64 0,.i .i64 0,.b false,.b false]) :=nr rfl
@[go_sem] def T29:T 29=some (.slice 1 16 [.s ⟨#[]⟩]) :=nr rfl
@[go_sem] def T30:T 30=some (.struct 13 [(0,1,false,0),(1,1,false,0),(2,1,false,2),(3,1,false,1),(4,7,true,0),(11,1,false,1),(12,1,false,0)] [.s ⟨#[]⟩,.i .i64 0,.sl .mut 2 [],.sl .mut 1 [],.i .i64 0,.i .i64 0,.i .i64 0,.i .i64 0,.i .i64 0,.b false,.b false,.sl .mut 1 [],.i .i64 0]) :=nr rfl
@[go_sem] def T31:T 31=some (.struct 13 [(0,1,false,0),(1,1,false,0),(2,1,false,2),(3,1,false,1),(4,7,true,0),(11,1,false,1),(12,1,false,0)] [.s ⟨#[]⟩,.i .i64 0,.sl .mut 2 [],.sl .mut 1 [],.i .i64 0,.i .i64 0,.i .i64 0,.i .i64 0,.i .i64 0,.b false,.b false,.sl .mut 1 [],.i .i64 0]) :=nr rfl
@[go_sem] def T33:T 33=some .fn :=nr rfl
@[go_sem] def T34:T 34=some (.struct 5 [(0,1,false,0),(1,4,true,0)] [.i .i64 0,.s ⟨#[]⟩,.s ⟨#[]⟩,.s ⟨#[]⟩,.sl .mut 2 []]) :=nr rfl
@[go_sem] def T35:T 35=some (.struct 5 [(0,1,false,0),(1,4,true,0)] [.i .i64 0,.s ⟨#[]⟩,.s ⟨#[]⟩,.s ⟨#[]⟩,.sl .mut 2 []]) :=nr rfl
@[go_sem] def T36:T 36=some .fn :=nr rfl
@[go_sem] def T37:T 37=some (.struct 3 [(0,1,false,0),(1,1,false,2),(2,1,false,1)] [.i .i64 0,.sl .mut 2 [],.sl .mut 1 []]) :=nr rfl
@[go_sem] def T38:T 38=some (.struct 3 [(0,1,false,0),(1,1,false,2),(2,1,false,1)] [.i .i64 0,.sl .mut 2 [],.sl .mut 1 []]) :=nr rfl
@[go_sem] def T40:T 40=some .fn :=nr rfl
@[go_sem] def T41:T 41=some (.struct 4 [(0,1,false,0),(1,3,true,0)] [.i .i64 0,.i .i64 0,.sl .mut 2 [],.sl .mut 1 []]) :=nr rfl
@[go_sem] def T42:T 42=some (.struct 4 [(0,1,false,0),(1,3,true,0)] [.i .i64 0,.i .i64 0,.sl .mut 2 [],.sl .mut 1 []]) :=nr rfl
@[go_sem] def T43:T 43=some .fn :=nr rfl
@[go_sem] def T44:T 44=some .fn :=nr rfl
@[go_sem] def T45:T 45=some .fn :=nr rfl
@[go_sem] def T46:T 46=some .fn :=nr rfl
@[go_sem] def T47:T 47=some .fn :=nr rfl
@[go_sem] def T48:T 48=some (.struct 2 [(0,1,false,0),(1,1,false,0)] [.i .i64 0,.s ⟨#[]⟩]) :=nr rfl
@[go_sem] def T49:T 49=some (.struct 2 [(0,1,false,0),(1,1,false,0)] [.i .i64 0,.s ⟨#[]⟩]) :=nr rfl
@[go_sem] def T50:T 50=some .fn :=nr rfl
@[go_sem] def T51:T 51=some .fn :=nr rfl
@[go_sem] def T52:T 52=some .fn :=nr rfl
@[go_sem] def T53:T 53=some (.struct 12 [(0,1,false,0),(1,1,false,0),(2,1,false,0),(3,4,true,0),(7,3,true,0),(10,1,false,0),(11,1,false,0)] [.i .i64 0,.i .i64 0,.i .i64 0,.s ⟨#[]⟩,.s ⟨#[]⟩,.s ⟨#[]⟩,.sl .mut 2 [],.i .i64 0,.sl .mut 2 [],.sl .mut 1 [],.s ⟨#[]⟩,.b false]) :=nr rfl
@[go_sem] def T54:T 54=some (.struct 12 [(0,1,false,0),(1,1,false,0),(2,1,false,0),(3,4,true,0),(7,3,true,0),(10,1,false,0),(11,1,false,0)] [.i .i64 0,.i .i64 0,.i .i64 0,.s ⟨#[]⟩,.s ⟨#[]⟩,.s ⟨#[]⟩,.sl .mut 2 [],.i .i64 0,.sl .mut 2 [],.sl .mut 1 [],.s ⟨#[]⟩,.b false]) :=nr rfl
@[go_sem] def T55:T 55=some (.struct 13 [(0,1,false,0),(1,12,true,0)] [.i .i64 0,.i .i64 0,.i .i64 0,.i .i64 0,.s ⟨#[]⟩,.s ⟨#[]⟩,.s ⟨#[]⟩,.sl .mut 2 [],.i .i64 0,.sl .mut 2 [],.sl .mut 1 [],.s ⟨#[]⟩,.b false]) :=nr rfl
@[go_sem] def T56:T 56=some (.struct 13 [(0,1,false,0),(1,12,true,0)] [.i .i64 0,.i .i64 0,.i .i64 0,.i .i64 0,.s ⟨#[]⟩,.s ⟨#[]⟩,.s ⟨#[]⟩,.sl .mut 2 [],.i .i64 0,.sl .mut 2 [],.sl .mut 1 [],.s ⟨#[]⟩,.b false]) :=nr rfl
@[go_sem] def T57:T 57=some .fn :=nr rfl
@[go_sem] def T58:T 58=some .fn :=nr rfl
@[go_sem] def T59:T 59=some .fn :=nr rfl
@[go_sem] def T60:T 60=some .fn :=nr rfl
@[go_sem] def T61:T 61=some .ptr :=nr rfl
@[go_sem] def T62:T 62=some .fn :=nr rfl
@[go_sem] def T63:T 63=some .fn :=nr rfl
@[go_sem] def T64:T 64=some .fn :=nr rfl
@[go_sem] def T66:T 66=some (.struct 2 [(0,1,false,0),(1,1,false,0)] [.s ⟨#[]⟩,.s ⟨#[]⟩]) :=nr rfl
@[go_sem] def T67:T 67=some (.struct 2 [(0,1,false,0),(1,1,false,0)] [.s ⟨#[]⟩,.s ⟨#[]⟩]) :=nr rfl
@[go_sem] def T68:T 68=some .fn :=nr rfl
@[go_sem] def T69:T 69=some .fn :=nr rfl
@[go_sem] def T70:T 70=some .fn :=nr rfl
@[go_sem] def T71:T 71=some .fn :=nr rfl
@[go_sem] def T72:T 72=some .fn :=nr rfl
@[go_sem] def T73:T 73=some .fn :=nr rfl
@[go_sem] def T74:T 74=some .fn :=nr rfl
@[go_sem] def T75:T 75=some .fn :=nr rfl
@[go_sem] def T77:T 77=some .fn :=nr rfl
@[go_sem] def T78:T 78=some .ptr :=nr rfl
@[go_sem] def T79:T 79=some .ptr :=nr rfl
@[go_sem] def T80:T 80=some .fn :=nr rfl
@[go_sem] def T81:T 81=some .fn :=nr rfl
@[go_sem] def T82:T 82=some .fn :=nr rfl
@[go_sem] def T83:T 83=some .fn :=nr rfl
@[go_sem] def T84:T 84=some .fn :=nr rfl
@[go_sem] def T86:T 86=some .fn :=nr rfl
@[go_sem] def T87:T 87=some .fn :=nr rfl
@[go_sem] def T89:T 89=some .fn :=nr rfl
@[go_sem] def T90:T 90=some .fn :=nr rfl
@[go_sem] def T91:T 91=some .fn :=nr rfl
@[go_sem] def T92:T 92=some .fn :=nr rfl
@[go_sem] def T93:T 93=some .fn :=nr rfl
@[go_sem] def T94:T 94=some (.struct 2 [(0,1,false,1),(1,1,false,0)] [.sl .mut 1 [],.i .i64 0]) :=nr rfl
@[go_sem] def T95:T 95=some (.struct 2 [(0,1,false,1),(1,1,false,0)] [.sl .mut 1 [],.i .i64 0]) :=nr rfl
@[go_sem] def T96:T 96=some .fn :=nr rfl
@[go_sem] def T97:T 97=some .fn :=nr rfl
@[go_sem] def T98:T 98=some .fn :=nr rfl
@[go_sem] def T99:T 99=some .fn :=nr rfl
@[go_sem] def XHT:T 100=some .fn :=nr rfl
@[go_sem] def XHU:T 101=some .fn :=nr rfl
@[go_sem] def XHV:T 102=some .fn :=nr rfl
@[go_sem] def XHW:T 103=some .fn :=nr rfl
@[go_sem] def XHX:T 104=some .fn :=nr rfl
@[go_sem] def XHY:T 106=some .fn :=nr rfl
@[go_sem] def XHZ:T 107=some (.slice 1 8 [.i .i64 0]) :=nr rfl
@[go_sem] def XH0:T 108=some .fn :=nr rfl
@[go_sem] def XH1:T 109=some .fn :=nr rfl
@[go_sem] def XH2:T 110=some .fn :=nr rfl
@[go_sem] def XH3:T 111=some .fn :=nr rfl
@[go_sem] def XH4:T 112=some .fn :=nr rfl
@[go_sem] def XH5:T 113=some .fn :=nr rfl
@[go_sem] def XH6:T 114=some .fn :=nr rfl
@[go_sem] def XH7:T 116=some .fn :=nr rfl
@[go_sem] def XH8:T 117=some .fn :=nr rfl
@[go_sem] def XH9:T 118=some .fn :=nr rfl
@[go_sem] def XIa:T 119=some .fn :=nr rfl
@[go_sem] def XIb:T 120=some .ptr :=nr rfl
@[go_sem] def XIc:T 122=some .fn :=nr rfl
@[go_sem] def XId:T 123=some .fn :=nr rfl
@[go_sem] def XIe:T 124=some .fn :=nr rfl
@[go_sem] def XIf:T 126=some .fn :=nr rfl
@[go_sem] def XIg:T 127=some .fn :=nr rfl
@[go_sem] def XIh:T 129=some .fn :=nr rfl
@[go_sem] def XIi:T 130=some .fn :=nr rfl
@[go_sem] def XIj:T 131=some .fn :=nr rfl
@[go_sem] def XIk:T 132=some .fn :=nr rfl
@[go_sem] def XIl:T 133=some .fn :=nr rfl
@[go_sem] def XIm:T 134=some .fn :=nr rfl
@[go_sem] def XIn:T 135=some .fn :=nr rfl
@[go_sem] def XIo:T 136=some .fn :=nr rfl
@[go_sem] def XIp:T 137=some .fn :=nr rfl
@[go_sem] def XIq:T 138=some (.array 5 1 false [.i .i64 0,.i .i64 0,.i .i64 0,.i .i64 0,.i .i64 0]) :=nr rfl
@[go_sem] def XIr:T 139=some .fn :=nr rfl
@[go_sem] def XIs:T 140=some .fn :=nr rfl
@[go_sem] def XIt:T 141=some .fn :=nr rfl
@[go_sem] def XIu:T 142=some .fn :=nr rfl
@[go_sem] def XIv:T 143=some .ptr :=nr rfl
@[go_sem] def XIw:T 144=some (.struct 2 [(0,1,false,0),(1,1,false,1)] [.pn,.sl .mut 1 []]) :=nr rfl
@[go_sem] def XIx:T 145=some (.struct 2 [(0,1,false,0),(1,1,false,1)] [.pn,.sl .mut 1 []]) :=nr rfl
@[go_sem] def XIy:T 146=some .fn :=nr rfl
@[go_sem] def XIz:T 150=some .fn :=nr rfl
@[go_sem] def XIA:T 152=some .fn :=nr rfl
@[go_sem] def XIB:T 153=some .fn :=nr rfl
@[go_sem] def XIC:T 154=some .fn :=nr rfl
@[go_sem] def XID:T 155=some .fn :=nr rfl
@[go_sem] def XIE:T 156=some (.struct 2 [(0,1,false,0),(1,1,false,0)] [.i .i64 0,.i .i64 0]) :=nr rfl
@[go_sem] def XIF:T 157=some (.struct 2 [(0,1,false,0),(1,1,false,0)] [.i .i64 0,.i .i64 0]) :=nr rfl
@[go_sem] def XIG:T 158=some .fn :=nr rfl
@[go_sem] def XIH:T 159=some .fn :=nr rfl
@[go_sem] def XII:T 160=some .fn :=nr rfl
@[go_sem] def XIJ:T 161=some .fn :=nr rfl
@[go_sem] def XIK:T 162=some (.slice 1 8 [.u]) :=nr rfl
@[go_sem] def XIL:T 163=some .fn :=nr rfl
@[go_sem] def XIM:T 164=some .fn :=nr rfl
@[go_sem] def XIN:T 165=some .fn :=nr rfl
@[go_sem] def XIO:T 166=some .fn :=nr rfl
@[go_sem] def XIP:T 170=some .fn :=nr rfl
@[go_sem] def XIQ:T 171=some .fn :=nr rfl
@[go_sem] def XIR:T 172=some .ptr :=nr rfl
@[go_sem] def XIS:T 173=some .ptr :=nr rfl
@[go_sem] def XIT:T 175=some .fn :=nr rfl
@[go_sem] def XIU:T 176=some .fn :=nr rfl
@[go_sem] def XIV:T 177=some .fn :=nr rfl
@[go_sem] def XIW:T 178=some .fn :=nr rfl
@[go_sem] def XIX:T 179=some .fn :=nr rfl
@[go_sem] def XIY:T 180=some .fn :=nr rfl
@[go_sem] def XIZ:T 181=some .fn :=nr rfl
@[go_sem] def XI0:T 182=some .fn :=nr rfl
@[go_sem] def XI1:T 184=some .fn :=nr rfl
@[go_sem] def XI2:T 185=some .fn :=nr rfl
@[go_sem] def XI3:T 188=some .fn :=nr rfl
@[go_sem] def XI4:T 189=some .fn :=nr rfl
@[go_sem] def XI5:T 190=some .fn :=nr rfl
@[go_sem] def XI6:T 191=some .fn :=nr rfl
@[go_sem] def XI7:T 192=some (.int .u64) :=nr rfl
@[go_sem] def XI8:T 194=some (.struct 2 [(0,1,false,0),(1,1,false,0)] [.i .u8 0,.i .u8 0]) :=nr rfl
@[go_sem] def XI9:T 195=some (.struct 2 [(0,1,false,0),(1,1,false,0)] [.i .u8 0,.i .u8 0]) :=nr rfl
@[go_sem] def XJa:T 196=some (.array 16 2 true [.i .u8 0,.i .u8 0,.i .u8 0,.i .u8 0,.i .u8 0,.i .u8 0,.i .u8 0,.i .u8 0,.i .u8 0,.i .u8 0,.i .u8 0,.i .u8 0,.i .u8 0,.i .u8 0,.i .u8 0,.i .u8 0,.i .u8 0,.i .u8 0,.i .u8 0,.i .u8 0,.i .u8 0,.i .u8 0,.i .u8 0,.i .u8 0,.i .u8 0,.i .u8 0,.i .u8 0,.i .u8 0,.i .u8 0,.i .u8 0,.i .u8 0,.i .u8 0]) :=nr rfl
@[go_sem] def XJb:T 197=some .fn :=nr rfl
@[go_sem] def XJc:T 198=some (.int .u32) :=nr rfl
@[go_sem] def XJd:T 200=some .fn :=nr rfl
@[go_sem] def XJe:T 206=some .fn :=nr rfl
def Q:TypeId->Option (List Nat)
  | 27 => some [1,1,1,1,1,0,0]
  | 28 => some [1,1,1,1,1,0,0]
  | 48 => some [1,2]
  | 49 => some [1,2]
  | 66 => some [2,2]
  | 67 => some [2,2]
  | 156 => some [1,1]
  | 157 => some [1,1]
  | 194 => some [1,1]
  | 195 => some [1,1]
  | _ => none
@[go_sem] def Q27:Q 27=some [1,1,1,1,1,0,0] :=nr rfl
@[go_sem] def Q28:Q 28=some [1,1,1,1,1,0,0] :=nr rfl
@[go_sem] def Q48:Q 48=some [1,2] :=nr rfl
@[go_sem] def Q49:Q 49=some [1,2] :=nr rfl
@[go_sem] def Q66:Q 66=some [2,2] :=nr rfl
@[go_sem] def Q67:Q 67=some [2,2] :=nr rfl
@[go_sem] def XJf:Q 156=some [1,1] :=nr rfl
@[go_sem] def XJg:Q 157=some [1,1] :=nr rfl
@[go_sem] def XJh:Q 194=some [1,1] :=nr rfl
@[go_sem] def XJi:Q 195=some [1,1] :=nr rfl
instance instTb:HasTb Tryz.prog :=⟨tbm 0,Xl7 0⟩
def XF4(cx:Cx)(h:cx.T=T)(h2:cx.eqs=Q):XeQ Tryz.prog cx :=by
  refine⟨λt ti ht => ?_,λt ks hk => ?_⟩
  · rw[h] at ht
    unfold T at ht
    split at ht<;>first | cases ht; done | (injection ht with ht; subst ht; exact Xqn (by kernel_rfl))
  · rw[h2] at hk
    unfold Q at hk
    split at hk<;>first | cases hk; done | (injection hk with hk; subst hk; kernel_rfl)
def tyA:Xpj Tryz.prog :=⟨T,Q,XF4,by kernel_rfl⟩
@[go_sem] def XF5:tyA.T=T :=nr rfl
@[go_sem] def XF6:tyA.Q=Q :=nr rfl
end Go.Vm.A
namespace Go.Proofs
open Go.Shelf
def Tryz.lays156_ren:Go.Shelf.Ren :=⟨fun | 156 => 87 | 165 => 138 | 166 => 139 | 169 => 140 | 240 => 176 | 241 => 177 | 276 => 192 | 277 => 193 | n => n,fun | 31 => 29 | 9 => 9 | 3 => 3 | 4 => 4 | 0 => 0 | 20 => 20 | 72 => 145 | 76 => 149 | 70 => 143 | 37 => 22 | 75 => 148 | 127 => 173 | 164 => 186 | 5 => 5 | 80 => 151 | n => n,fun | n => n⟩
def Tryz.lays156:Go.Proofs.Lays.n156 Tryz.prog Tryz.lays156_ren :={
  mixed :=by kernel_rfl
  f156 :=Tryz.func87.trans (congrArg some (by kernel_rfl))
  f165 :=Tryz.func138.trans (congrArg some (by kernel_rfl))
  f166 :=Tryz.func139.trans (congrArg some (by kernel_rfl))
  f169 :=Tryz.func140.trans (congrArg some (by kernel_rfl))
  f240 :=Tryz.func176.trans (congrArg some (by kernel_rfl))
  f241 :=Tryz.func177.trans (congrArg some (by kernel_rfl))
  f276 :=Tryz.func192.trans (congrArg some (by kernel_rfl))
  f277 :=Tryz.func193.trans (congrArg some (by kernel_rfl))
  t0 :=Tryz.underlying0
  a0 :=Tryz.isAgg0
  z0 :=Tryz.sizeOf0
  v0 :=Tryz.zeroValue0
  t3 :=Tryz.underlying3
  a3 :=Tryz.isAgg3
  z3 :=Tryz.sizeOf3
  v3 :=Tryz.zeroValue3
  t4 :=Tryz.underlying4
  a4 :=Tryz.isAgg4
  z4 :=Tryz.sizeOf4
  v4 :=Tryz.zeroValue4
  t9 :=Tryz.underlying9
  a9 :=Tryz.isAgg9
  z9 :=Tryz.sizeOf9
  v9 :=Tryz.zeroValue9
  t20 :=Tryz.underlying20
  a20 :=Tryz.isAgg20
  z20 :=Tryz.sizeOf20
  v20 :=Tryz.zeroValue20
  t31 :=Tryz.underlying29
  a31 :=Tryz.isAgg29
  z31 :=Tryz.sizeOf29
  v31 :=Tryz.zeroValue29
  t37 :=Tryz.underlying22
  a37 :=Tryz.isAgg22
  z37 :=Tryz.sizeOf22
  v37 :=Tryz.zeroValue22
  t70 :=Tryz.underlying143
  a70 :=Tryz.isAgg143
  z70 :=Tryz.sizeOf143
  v70 :=Tryz.zeroValue143
  t72 :=Tryz.underlying145
  a72 :=Tryz.isAgg145
  z72 :=Tryz.sizeOf145
  v72 :=Tryz.zeroValue145
  t75 :=Tryz.underlying148
  a75 :=Tryz.isAgg148
  z75 :=Tryz.sizeOf148
  v75 :=Tryz.zeroValue148
  t76 :=Tryz.underlying149
  a76 :=Tryz.isAgg149
  z76 :=Tryz.sizeOf149
  v76 :=Tryz.zeroValue149
  t127 :=Tryz.underlying173
  a127 :=Tryz.isAgg173
  z127 :=Tryz.sizeOf173
  v127 :=Tryz.zeroValue173
  t164 :=Tryz.underlying186
  a164 :=Tryz.isAgg186
  z164 :=Tryz.sizeOf186
  v164 :=Tryz.zeroValue186}
def Tryz.Builder_Extra_156:Builder.Extra Tryz.prog Tryz.lays156_ren :={
  sizeBuilder :=by kernel_rfl
  liesBuilder :=by kernel_rfl
  t5 :=Tryz.underlying5
  a5 :=Tryz.isAgg5
  z5 :=Tryz.sizeOf5
  v5 :=Tryz.zeroValue5
  infoByte :=by kernel_rfl
  cellsByte :=by kernel_rfl
  sizeByte :=by kernel_rfl
  neB5 :=by decide}
open Go.RowKit in
def Tryz.strings_Join_none(a:Option Addr)(c:Nat)(sep:ByteArray)(w:World) :
    Calls Tryz.prog 87 #[.slice a 0 c,.string sep] w λe w' => e=.returned (.string ⟨#[]⟩)/\w'=w :=Any.strings_Join_none Tryz.lays156 Tryz.Builder_Extra_156 a c sep w
open Go.RowKit in
def Tryz.strings_Join(bk o c:Nat)(xs:List ByteArray)(sep:ByteArray)(w:World)(hcells:∀(j:Nat) x,xs[j]?=some x->w.cell? ⟨bk,o+j,none⟩=some (.string x))(hbk:bk<w.heap.size)(hN:xs.length<=140737488355328)(hcap:xs.length<=c)(hlen:(Lib.join (xs.map (·.data.toList)) sep.data.toList).length<=140737488355328) :
    Calls Tryz.prog 87 #[.slice (some ⟨bk,o,none⟩) xs.length c,.string sep] w λe w' => e=.returned (.string ⟨(Lib.join (xs.map (·.data.toList)) sep.data.toList).toArray⟩)/\Below w.heap.size w w' :=Any.strings_Join Tryz.lays156 Tryz.Builder_Extra_156 bk o c xs sep w hcells hbk hN hcap hlen
def Tryz.lays145_ren:Go.Shelf.Ren :=⟨fun | 145 => 179 | 220 => 195 | 219 => 198 | 217 => 178 | 225 => 202 | 224 => 203 | 267 => 204 | 266 => 194 | 314 => 206 | n => n,fun | 9 => 9 | 4 => 4 | 59 => 174 | 3 => 3 | 5 => 5 | 46 => 192 | 146 => 199 | 51 => 198 | n => n,fun | 1 => 0 | n => n⟩
def Tryz.lays145:Go.Proofs.Lays.n145 Tryz.prog Tryz.lays145_ren :={
  mixed :=by kernel_rfl
  f145 :=Tryz.func179.trans (congrArg some (by kernel_rfl))
  f217 :=Tryz.func178.trans (congrArg some (by kernel_rfl))
  f219 :=Tryz.func198.trans (congrArg some (by kernel_rfl))
  f220 :=Tryz.func195.trans (congrArg some (by kernel_rfl))
  f224 :=Tryz.func203.trans (congrArg some (by kernel_rfl))
  f225 :=Tryz.func202.trans (congrArg some (by kernel_rfl))
  f266 :=Tryz.func194.trans (congrArg some (by kernel_rfl))
  f267 :=Tryz.func204.trans (congrArg some (by kernel_rfl))
  f314 :=Tryz.func206.trans (congrArg some (by kernel_rfl))
  t3 :=Tryz.underlying3
  a3 :=Tryz.isAgg3
  z3 :=Tryz.sizeOf3
  v3 :=Tryz.zeroValue3
  t4 :=Tryz.underlying4
  a4 :=Tryz.isAgg4
  z4 :=Tryz.sizeOf4
  v4 :=Tryz.zeroValue4
  t5 :=Tryz.underlying5
  a5 :=Tryz.isAgg5
  z5 :=Tryz.sizeOf5
  v5 :=Tryz.zeroValue5
  t9 :=Tryz.underlying9
  a9 :=Tryz.isAgg9
  z9 :=Tryz.sizeOf9
  v9 :=Tryz.zeroValue9
  t46 :=Tryz.underlying192
  a46 :=Tryz.isAgg192
  z46 :=Tryz.sizeOf192
  v46 :=Tryz.zeroValue192
  t51 :=Tryz.underlying198
  a51 :=Tryz.isAgg198
  z51 :=Tryz.sizeOf198
  v51 :=Tryz.zeroValue198
  t59 :=Tryz.underlying174
  a59 :=Tryz.isAgg174
  z59 :=Tryz.sizeOf174
  v59 :=Tryz.zeroValue174
  t146 :=Tryz.underlying199
  a146 :=Tryz.isAgg199
  z146 :=Tryz.sizeOf199
  v146 :=Tryz.zeroValue199
  g1 :=by kernel_rfl}
open Go.RowKit Go.Lib in
def Tryz.strings_Cut(s sep:ByteArray)(m:Int)(w:World)(hs:s.size<4294967281)(hm:w.cell? ⟨0,0,none⟩=some (.int .i64 m)) :
    Calls Tryz.prog 179 #[.string s,.string sep] w λe w' => e=.returned (.tuple #[.string ⟨(Lib.cut s.data.toList sep.data.toList).1.toArray⟩,.string ⟨(Lib.cut s.data.toList sep.data.toList).2.1.toArray⟩,.bool (Lib.cut s.data.toList sep.data.toList).2.2])/\∃n,w'=w.drewN n :=Any.strings_Cut Tryz.lays145 s sep m w hs hm
def Tryz.lays146_ren:Go.Shelf.Ren :=⟨fun | 146 => 102 | 221 => 151 | 268 => 181 | 138 => 182 | 143 => 183 | 195 => 196 | 197 => 189 | 218 => 197 | 219 => 198 | 260 => 199 | 217 => 178 | 225 => 202 | 224 => 203 | 267 => 204 | 266 => 194 | 314 => 206 | n => n,fun | 9 => 9 | 31 => 29 | 3 => 3 | 4 => 4 | 0 => 0 | 105 => 183 | 21 => 21 | 5 => 5 | 46 => 192 | 119 => 193 | 139 => 196 | 138 => 195 | 146 => 199 | 51 => 198 | n => n,fun | 1 => 0 | 3 => 1 | 4 => 2 | n => n⟩
def Tryz.lays146:Go.Proofs.Lays.n146 Tryz.prog Tryz.lays146_ren :={
  mixed :=by kernel_rfl
  f138 :=Tryz.func182.trans (congrArg some (by kernel_rfl))
  f143 :=Tryz.func183.trans (congrArg some (by kernel_rfl))
  f146 :=Tryz.func102.trans (congrArg some (by kernel_rfl))
  f195 :=Tryz.func196.trans (congrArg some (by kernel_rfl))
  f197 :=Tryz.func189.trans (congrArg some (by kernel_rfl))
  f217 :=Tryz.func178.trans (congrArg some (by kernel_rfl))
  f218 :=Tryz.func197.trans (congrArg some (by kernel_rfl))
  f219 :=Tryz.func198.trans (congrArg some (by kernel_rfl))
  f221 :=Tryz.func151.trans (congrArg some (by kernel_rfl))
  f224 :=Tryz.func203.trans (congrArg some (by kernel_rfl))
  f225 :=Tryz.func202.trans (congrArg some (by kernel_rfl))
  f260 :=Tryz.func199.trans (congrArg some (by kernel_rfl))
  f266 :=Tryz.func194.trans (congrArg some (by kernel_rfl))
  f267 :=Tryz.func204.trans (congrArg some (by kernel_rfl))
  f268 :=Tryz.func181.trans (congrArg some (by kernel_rfl))
  f314 :=Tryz.func206.trans (congrArg some (by kernel_rfl))
  t0 :=Tryz.underlying0
  a0 :=Tryz.isAgg0
  z0 :=Tryz.sizeOf0
  v0 :=Tryz.zeroValue0
  t3 :=Tryz.underlying3
  a3 :=Tryz.isAgg3
  z3 :=Tryz.sizeOf3
  v3 :=Tryz.zeroValue3
  t4 :=Tryz.underlying4
  a4 :=Tryz.isAgg4
  z4 :=Tryz.sizeOf4
  v4 :=Tryz.zeroValue4
  t5 :=Tryz.underlying5
  a5 :=Tryz.isAgg5
  z5 :=Tryz.sizeOf5
  v5 :=Tryz.zeroValue5
  t9 :=Tryz.underlying9
  a9 :=Tryz.isAgg9
  z9 :=Tryz.sizeOf9
  v9 :=Tryz.zeroValue9
  t21 :=Tryz.underlying21
  a21 :=Tryz.isAgg21
  z21 :=Tryz.sizeOf21
  v21 :=Tryz.zeroValue21
  t31 :=Tryz.underlying29
  a31 :=Tryz.isAgg29
  z31 :=Tryz.sizeOf29
  v31 :=Tryz.zeroValue29
  t46 :=Tryz.underlying192
  a46 :=Tryz.isAgg192
  z46 :=Tryz.sizeOf192
  v46 :=Tryz.zeroValue192
  t51 :=Tryz.underlying198
  a51 :=Tryz.isAgg198
  z51 :=Tryz.sizeOf198
  v51 :=Tryz.zeroValue198
  t105 :=Tryz.underlying183
  a105 :=Tryz.isAgg183
  z105 :=Tryz.sizeOf183
  v105 :=Tryz.zeroValue183
  t119 :=Tryz.underlying193
  a119 :=Tryz.isAgg193
  z119 :=Tryz.sizeOf193
  t138 :=Tryz.underlying195
  a138 :=Tryz.isAgg195
  z138 :=Tryz.sizeOf195
  v138 :=Tryz.zeroValue195
  t139 :=Tryz.underlying196
  a139 :=Tryz.isAgg196
  z139 :=Tryz.sizeOf196
  v139 :=Tryz.zeroValue196
  t146 :=Tryz.underlying199
  a146 :=Tryz.isAgg199
  z146 :=Tryz.sizeOf199
  v146 :=Tryz.zeroValue199
  g1 :=by kernel_rfl
  g3 :=by kernel_rfl
  g4 :=by kernel_rfl}
open Go.RowKit Go.Lib in
def Tryz.strings_Split(s sep:ByteArray)(m:Int)(w:World)(hs:s.size<4294967281)(hm:w.cell? ⟨0,0,none⟩=some (.int .i64 m))(h1:1<=sep.size) :
    Calls Tryz.prog 102 #[.string s,.string sep] w λe w' =>
      e=.returned (.slice (some ⟨w.heap.size,0,none⟩) (Lib.countB s sep+1) (Lib.countB s sep+1))/\w'=w.alloc (.cells ((Lib.splitB sep 0 (Lib.countB s sep) s).map Value.string).toArray 9) :=Any.strings_Split Tryz.lays146 (by kernel_rfl) s sep m w hs hm h1
def Tryz.lays155_ren:Go.Shelf.Ren :=⟨fun | 155 => 148 | 154 => 180 | 138 => 182 | 165 => 138 | 143 => 183 | 166 => 139 | 197 => 189 | 169 => 140 | 195 => 196 | 218 => 197 | 240 => 176 | 241 => 177 | 219 => 198 | 260 => 199 | 276 => 192 | 277 => 193 | 217 => 178 | 225 => 202 | 224 => 203 | 267 => 204 | 266 => 194 | 314 => 206 | n => n,fun | 9 => 9 | 3 => 3 | 4 => 4 | 72 => 145 | 0 => 0 | 76 => 149 | 105 => 183 | 21 => 21 | 5 => 5 | 70 => 143 | 20 => 20 | 37 => 22 | 75 => 148 | 127 => 173 | 164 => 186 | 46 => 192 | 119 => 193 | 139 => 196 | 138 => 195 | 146 => 199 | 51 => 198 | 80 => 151 | n => n,fun | 1 => 0 | 3 => 1 | 4 => 2 | n => n⟩
def Tryz.lays155:Go.Proofs.Lays.n155 Tryz.prog Tryz.lays155_ren :={
  mixed :=by kernel_rfl
  f138 :=Tryz.func182.trans (congrArg some (by kernel_rfl))
  f143 :=Tryz.func183.trans (congrArg some (by kernel_rfl))
  f154 :=Tryz.func180.trans (congrArg some (by kernel_rfl))
  f155 :=Tryz.func148.trans (congrArg some (by kernel_rfl))
  f165 :=Tryz.func138.trans (congrArg some (by kernel_rfl))
  f166 :=Tryz.func139.trans (congrArg some (by kernel_rfl))
  f169 :=Tryz.func140.trans (congrArg some (by kernel_rfl))
  f195 :=Tryz.func196.trans (congrArg some (by kernel_rfl))
  f197 :=Tryz.func189.trans (congrArg some (by kernel_rfl))
  f217 :=Tryz.func178.trans (congrArg some (by kernel_rfl))
  f218 :=Tryz.func197.trans (congrArg some (by kernel_rfl))
  f219 :=Tryz.func198.trans (congrArg some (by kernel_rfl))
  f224 :=Tryz.func203.trans (congrArg some (by kernel_rfl))
  f225 :=Tryz.func202.trans (congrArg some (by kernel_rfl))
  f240 :=Tryz.func176.trans (congrArg some (by kernel_rfl))
  f241 :=Tryz.func177.trans (congrArg some (by kernel_rfl))
  f260 :=Tryz.func199.trans (congrArg some (by kernel_rfl))
  f266 :=Tryz.func194.trans (congrArg some (by kernel_rfl))
  f267 :=Tryz.func204.trans (congrArg some (by kernel_rfl))
  f276 :=Tryz.func192.trans (congrArg some (by kernel_rfl))
  f277 :=Tryz.func193.trans (congrArg some (by kernel_rfl))
  f314 :=Tryz.func206.trans (congrArg some (by kernel_rfl))
  t0 :=Tryz.underlying0
  a0 :=Tryz.isAgg0
  z0 :=Tryz.sizeOf0
  v0 :=Tryz.zeroValue0
  t3 :=Tryz.underlying3
  a3 :=Tryz.isAgg3
  z3 :=Tryz.sizeOf3
  v3 :=Tryz.zeroValue3
  t4 :=Tryz.underlying4
  a4 :=Tryz.isAgg4
  z4 :=Tryz.sizeOf4
  v4 :=Tryz.zeroValue4
  t5 :=Tryz.underlying5
  a5 :=Tryz.isAgg5
  z5 :=Tryz.sizeOf5
  v5 :=Tryz.zeroValue5
  t9 :=Tryz.underlying9
  a9 :=Tryz.isAgg9
  z9 :=Tryz.sizeOf9
  v9 :=Tryz.zeroValue9
  t20 :=Tryz.underlying20
  a20 :=Tryz.isAgg20
  z20 :=Tryz.sizeOf20
  v20 :=Tryz.zeroValue20
  t21 :=Tryz.underlying21
  a21 :=Tryz.isAgg21
  z21 :=Tryz.sizeOf21
  v21 :=Tryz.zeroValue21
  t37 :=Tryz.underlying22
  a37 :=Tryz.isAgg22
  z37 :=Tryz.sizeOf22
  v37 :=Tryz.zeroValue22
  t46 :=Tryz.underlying192
  a46 :=Tryz.isAgg192
  z46 :=Tryz.sizeOf192
  v46 :=Tryz.zeroValue192
  t51 :=Tryz.underlying198
  a51 :=Tryz.isAgg198
  z51 :=Tryz.sizeOf198
  v51 :=Tryz.zeroValue198
  t70 :=Tryz.underlying143
  a70 :=Tryz.isAgg143
  z70 :=Tryz.sizeOf143
  v70 :=Tryz.zeroValue143
  t72 :=Tryz.underlying145
  a72 :=Tryz.isAgg145
  z72 :=Tryz.sizeOf145
  v72 :=Tryz.zeroValue145
  t75 :=Tryz.underlying148
  a75 :=Tryz.isAgg148
  z75 :=Tryz.sizeOf148
  v75 :=Tryz.zeroValue148
  t76 :=Tryz.underlying149
  a76 :=Tryz.isAgg149
  z76 :=Tryz.sizeOf149
  v76 :=Tryz.zeroValue149
  t105 :=Tryz.underlying183
  a105 :=Tryz.isAgg183
  z105 :=Tryz.sizeOf183
  v105 :=Tryz.zeroValue183
  t119 :=Tryz.underlying193
  a119 :=Tryz.isAgg193
  z119 :=Tryz.sizeOf193
  t127 :=Tryz.underlying173
  a127 :=Tryz.isAgg173
  z127 :=Tryz.sizeOf173
  v127 :=Tryz.zeroValue173
  t138 :=Tryz.underlying195
  a138 :=Tryz.isAgg195
  z138 :=Tryz.sizeOf195
  v138 :=Tryz.zeroValue195
  t139 :=Tryz.underlying196
  a139 :=Tryz.isAgg196
  z139 :=Tryz.sizeOf196
  v139 :=Tryz.zeroValue196
  t146 :=Tryz.underlying199
  a146 :=Tryz.isAgg199
  z146 :=Tryz.sizeOf199
  v146 :=Tryz.zeroValue199
  t164 :=Tryz.underlying186
  a164 :=Tryz.isAgg186
  z164 :=Tryz.sizeOf186
  v164 :=Tryz.zeroValue186
  g1 :=by kernel_rfl
  g3 :=by kernel_rfl
  g4 :=by kernel_rfl}
def Tryz.Builder_Extra_155:Builder.Extra Tryz.prog Tryz.lays155_ren :={
  sizeBuilder :=by kernel_rfl
  liesBuilder :=by kernel_rfl
  t5 :=Tryz.underlying5
  a5 :=Tryz.isAgg5
  z5 :=Tryz.sizeOf5
  v5 :=Tryz.zeroValue5
  infoByte :=by kernel_rfl
  cellsByte :=by kernel_rfl
  sizeByte :=by kernel_rfl
  neB5 :=by decide}
open Go.RowKit Go.Lib in
def Tryz.strings_ReplaceAll(s old new:ByteArray)(m:Int)(w:World)(hs:s.size<4294967281)(hm:w.cell? ⟨0,0,none⟩=some (.int .i64 m))(h1:1<=old.size)(hlen:s.size+Lib.countB s old*new.size<=140737488355328) :
    Calls Tryz.prog 148 #[.string s,.string old,.string new] w λe w' =>
      e=.returned (.string ⟨(Lib.replaceAll s.data.toList old.data.toList new.data.toList).toArray⟩)/\Below w.heap.size w w' :=Any.strings_ReplaceAll Tryz.lays155 Tryz.Builder_Extra_155 s old new m w hs hm h1 hlen
def Tryz.laysM146_ren:Go.Shelf.Ren :=⟨fun | 146 => 102 | 221 => 151 | 268 => 181 | 138 => 182 | 143 => 183 | 195 => 196 | 197 => 189 | 218 => 197 | 219 => 198 | 260 => 199 | 217 => 178 | 225 => 202 | 224 => 203 | 267 => 204 | 266 => 194 | 314 => 206 | n => n,fun | 9 => 9 | 31 => 29 | 3 => 3 | 4 => 4 | 0 => 0 | 105 => 183 | 21 => 21 | 5 => 5 | 46 => 192 | 119 => 193 | 139 => 196 | 138 => 195 | 146 => 199 | 51 => 198 | n => n,fun | 1 => 0 | 3 => 1 | 4 => 2 | n => n⟩
def Tryz.laysM146:Go.Proofs.LaysM.n146 Tryz.prog Tryz.laysM146_ren :={
  mixed :=by kernel_rfl
  f138 :=Tryz.func182.trans (congrArg some (by kernel_rfl))
  f143 :=Tryz.func183.trans (congrArg some (by kernel_rfl))
  f146 :=Tryz.func102.trans (congrArg some (by kernel_rfl))
  f195 :=Tryz.func196.trans (congrArg some (by kernel_rfl))
  f197 :=Tryz.func189.trans (congrArg some (by kernel_rfl))
  f217 :=Tryz.func178.trans (congrArg some (by kernel_rfl))
  f218 :=Tryz.func197.trans (congrArg some (by kernel_rfl))
  f219 :=Tryz.func198.trans (congrArg some (by kernel_rfl))
  f221 :=Tryz.func151.trans (congrArg some (by kernel_rfl))
  f224 :=Tryz.func203.trans (congrArg some (by kernel_rfl))
  f225 :=Tryz.func202.trans (congrArg some (by kernel_rfl))
  f260 :=Tryz.func199.trans (congrArg some (by kernel_rfl))
  f266 :=Tryz.func194.trans (congrArg some (by kernel_rfl))
  f267 :=Tryz.func204.trans (congrArg some (by kernel_rfl))
  f268 :=Tryz.func181.trans (congrArg some (by kernel_rfl))
  f314 :=Tryz.func206.trans (congrArg some (by kernel_rfl))
  t0 :=Tryz.underlying0
  a0 :=Tryz.isAgg0
  z0 :=Tryz.sizeOf0
  v0 :=Tryz.zeroValue0
  t3 :=Tryz.underlying3
  a3 :=Tryz.isAgg3
  z3 :=Tryz.sizeOf3
  v3 :=Tryz.zeroValue3
  t4 :=Tryz.underlying4
  a4 :=Tryz.isAgg4
  z4 :=Tryz.sizeOf4
  v4 :=Tryz.zeroValue4
  t5 :=Tryz.underlying5
  a5 :=Tryz.isAgg5
  z5 :=Tryz.sizeOf5
  v5 :=Tryz.zeroValue5
  t9 :=Tryz.underlying9
  a9 :=Tryz.isAgg9
  z9 :=Tryz.sizeOf9
  v9 :=Tryz.zeroValue9
  t21 :=Tryz.underlying21
  a21 :=Tryz.isAgg21
  z21 :=Tryz.sizeOf21
  v21 :=Tryz.zeroValue21
  t31 :=Tryz.underlying29
  a31 :=Tryz.isAgg29
  z31 :=Tryz.sizeOf29
  v31 :=Tryz.zeroValue29
  t46 :=Tryz.underlying192
  a46 :=Tryz.isAgg192
  z46 :=Tryz.sizeOf192
  v46 :=Tryz.zeroValue192
  t51 :=Tryz.underlying198
  a51 :=Tryz.isAgg198
  z51 :=Tryz.sizeOf198
  v51 :=Tryz.zeroValue198
  t105 :=Tryz.underlying183
  a105 :=Tryz.isAgg183
  z105 :=Tryz.sizeOf183
  v105 :=Tryz.zeroValue183
  t119 :=Tryz.underlying193
  a119 :=Tryz.isAgg193
  z119 :=Tryz.sizeOf193
  t138 :=Tryz.underlying195
  a138 :=Tryz.isAgg195
  z138 :=Tryz.sizeOf195
  v138 :=Tryz.zeroValue195
  t139 :=Tryz.underlying196
  a139 :=Tryz.isAgg196
  z139 :=Tryz.sizeOf196
  v139 :=Tryz.zeroValue196
  t146 :=Tryz.underlying199
  a146 :=Tryz.isAgg199
  z146 :=Tryz.sizeOf199
  v146 :=Tryz.zeroValue199
  g1 :=by kernel_rfl
  g3 :=by kernel_rfl
  g4 :=by kernel_rfl
  i0 :=by kernel_rfl
  i3 :=by kernel_rfl
  i4 :=by kernel_rfl
  i5 :=by kernel_rfl
  i9 :=by kernel_rfl
  i21 :=by kernel_rfl
  i31 :=by kernel_rfl
  i46 :=by kernel_rfl
  i51 :=by kernel_rfl
  i105 :=by kernel_rfl
  i138 :=by kernel_rfl
  i139 :=by kernel_rfl
  i146 :=by kernel_rfl
  m1 :=by kernel_rfl
  s1_3 :=λw h => Go.Proofs.cell_of_shapedOpen_int (zero :=#[.int .i64 0]) (t :=3) h (of_decide_eq_true (by kernel_rfl)) (by kernel_rfl) rfl (by kernel_rfl) (by kernel_rfl) Tryz.underlying3
  m3 :=by kernel_rfl
  m4 :=by kernel_rfl}
open Go.RowKit Go.Lib in
def Tryz.lays160_ren:Go.Shelf.Ren :=⟨fun | 160 => 136 | 232 => 170 | 231 => 169 | 227 => 171 | 234 => 173 | 233 => 172 | 236 => 175 | 235 => 174 | 228 => 188 | 271 => 191 | 151 => 190 | 197 => 189 | 120 => 201 | 152 => 200 | 260 => 199 | 137 => 143 | 119 => 205 | 224 => 203 | 225 => 202 | 217 => 178 | 266 => 194 | n => n,fun | 9 => 9 | 4 => 4 | 3 => 3 | 5 => 5 | 117 => 169 | 116 => 168 | 0 => 0 | 124 => 172 | 21 => 21 | 105 => 183 | 46 => 192 | 119 => 193 | 139 => 196 | 138 => 195 | n => n,fun | 3 => 1 | 4 => 2 | n => n⟩
def Tryz.lays160:Go.Proofs.Lays.n160 Tryz.prog Tryz.lays160_ren :={
  mixed :=by kernel_rfl
  f119 :=Tryz.func205.trans (congrArg some (by kernel_rfl))
  f120 :=Tryz.func201.trans (congrArg some (by kernel_rfl))
  f137 :=Tryz.func143.trans (congrArg some (by kernel_rfl))
  f151 :=Tryz.func190.trans (congrArg some (by kernel_rfl))
  f152 :=Tryz.func200.trans (congrArg some (by kernel_rfl))
  f160 :=Tryz.func136.trans (congrArg some (by kernel_rfl))
  f197 :=Tryz.func189.trans (congrArg some (by kernel_rfl))
  f217 :=Tryz.func178.trans (congrArg some (by kernel_rfl))
  f224 :=Tryz.func203.trans (congrArg some (by kernel_rfl))
  f225 :=Tryz.func202.trans (congrArg some (by kernel_rfl))
  f227 :=Tryz.func171.trans (congrArg some (by kernel_rfl))
  f228 :=Tryz.func188.trans (congrArg some (by kernel_rfl))
  f231 :=Tryz.func169.trans (congrArg some (by kernel_rfl))
  f232 :=Tryz.func170.trans (congrArg some (by kernel_rfl))
  f233 :=Tryz.func172.trans (congrArg some (by kernel_rfl))
  f234 :=Tryz.func173.trans (congrArg some (by kernel_rfl))
  f235 :=Tryz.func174.trans (congrArg some (by kernel_rfl))
  f236 :=Tryz.func175.trans (congrArg some (by kernel_rfl))
  f260 :=Tryz.func199.trans (congrArg some (by kernel_rfl))
  f266 :=Tryz.func194.trans (congrArg some (by kernel_rfl))
  f271 :=Tryz.func191.trans (congrArg some (by kernel_rfl))
  t0 :=Tryz.underlying0
  a0 :=Tryz.isAgg0
  z0 :=Tryz.sizeOf0
  v0 :=Tryz.zeroValue0
  t3 :=Tryz.underlying3
  a3 :=Tryz.isAgg3
  z3 :=Tryz.sizeOf3
  v3 :=Tryz.zeroValue3
  t4 :=Tryz.underlying4
  a4 :=Tryz.isAgg4
  z4 :=Tryz.sizeOf4
  v4 :=Tryz.zeroValue4
  t5 :=Tryz.underlying5
  a5 :=Tryz.isAgg5
  z5 :=Tryz.sizeOf5
  v5 :=Tryz.zeroValue5
  t9 :=Tryz.underlying9
  a9 :=Tryz.isAgg9
  z9 :=Tryz.sizeOf9
  v9 :=Tryz.zeroValue9
  t21 :=Tryz.underlying21
  a21 :=Tryz.isAgg21
  z21 :=Tryz.sizeOf21
  v21 :=Tryz.zeroValue21
  t46 :=Tryz.underlying192
  a46 :=Tryz.isAgg192
  z46 :=Tryz.sizeOf192
  v46 :=Tryz.zeroValue192
  t105 :=Tryz.underlying183
  a105 :=Tryz.isAgg183
  z105 :=Tryz.sizeOf183
  v105 :=Tryz.zeroValue183
  t116 :=Tryz.underlying168
  a116 :=Tryz.isAgg168
  z116 :=Tryz.sizeOf168
  t117 :=Tryz.underlying169
  a117 :=Tryz.isAgg169
  z117 :=Tryz.sizeOf169
  v117 :=Tryz.zeroValue169
  t119 :=Tryz.underlying193
  a119 :=Tryz.isAgg193
  z119 :=Tryz.sizeOf193
  t124 :=Tryz.underlying172
  a124 :=Tryz.isAgg172
  z124 :=Tryz.sizeOf172
  v124 :=Tryz.zeroValue172
  t138 :=Tryz.underlying195
  a138 :=Tryz.isAgg195
  z138 :=Tryz.sizeOf195
  v138 :=Tryz.zeroValue195
  t139 :=Tryz.underlying196
  a139 :=Tryz.isAgg196
  z139 :=Tryz.sizeOf196
  v139 :=Tryz.zeroValue196
  g3 :=by kernel_rfl
  g4 :=by kernel_rfl}
def Tryz.trimSpTab(s:ByteArray)(w:World)(hs:s.size<=9223372036854775807) :
    Calls Tryz.prog 136 #[.string s,.string ⟨#[32,9]⟩] w λe w' => e=.returned (.string ⟨(Lib.trimS s.data.toList [32,9]).toArray⟩)/\Go.RowKit.Below w.heap.size w w' :=
  Any.strings_Trim_laid Tryz.lays160 (by kernel_rfl) s ⟨#[32,9]⟩ w hs (by decide) (ascii_of_all (by decide))
end Go.Proofs
