/- Functions of the program, walked by the evaluator. -/
import Derived.Test.YtahcdlpjkcbjgaaDoorWa
import Derived.Test.YtahcdlpjkcbjgaaDoorProg
import Derived.KernelRfl
import Derived.WalkKit
import Derived.Shelf.Strings.SlTrimAscii
/- What the evaluator must know of the program's types. -/
set_option autoImplicit false
set_option maxRecDepth 100000
set_option maxHeartbeats 4000000
set_option linter.unusedVariables false
set_option linter.unusedSimpArgs false

namespace Go.Vm.A
open Go.Proofs
def T : TypeId → Option TI
  | 1 => some .fn
  | 2 => some (.int .i64)
  | 3 => some (.int .i64)
  | 4 => some .bool
  | 5 => some (.int .u8)
  | 9 => some .str
  | 21 => some (.int .i32)
  | 22 => some (.slice 2 32 [.s ⟨#[]⟩, .s ⟨#[]⟩])
  | 23 => some (.slice 1 1 [.i .u8 0])
  | 24 => some (.struct 3 [(0, 1, false, 0), (1, 1, false, 2), (2, 1, false, 1)] [.i .i64 0, .sl .mut 2 [], .sl .mut 1 []])
  | 25 => some (.struct 3 [(0, 1, false, 0), (1, 1, false, 2), (2, 1, false, 1)] [.i .i64 0, .sl .mut 2 [], .sl .mut 1 []])
  | 26 => some (.struct 4 [(0, 1, false, 0), (1, 1, false, 0), (2, 1, false, 0), (3, 1, false, 2)] [.s ⟨#[]⟩, .s ⟨#[]⟩, .s ⟨#[]⟩, .sl .mut 2 []])
  | 27 => some (.struct 4 [(0, 1, false, 0), (1, 1, false, 0), (2, 1, false, 0), (3, 1, false, 2)] [.s ⟨#[]⟩, .s ⟨#[]⟩, .s ⟨#[]⟩, .sl .mut 2 []])
  | 28 => some (.struct 10 [(0, 1, false, 0), (1, 1, false, 0), (2, 1, false, 0), (3, 3, true, 0), (6, 4, true, 0)] [.i .i64 0, .i .i64 0, .s ⟨#[]⟩, .i .i64 0, .sl .mut 2 [], .sl .mut 1 [], .s ⟨#[]⟩, .s ⟨#[]⟩, .s ⟨#[]⟩, .sl .mut 2 []])
  | 29 => some (.struct 10 [(0, 1, false, 0), (1, 1, false, 0), (2, 1, false, 0), (3, 3, true, 0), (6, 4, true, 0)] [.i .i64 0, .i .i64 0, .s ⟨#[]⟩, .i .i64 0, .sl .mut 2 [], .sl .mut 1 [], .s ⟨#[]⟩, .s ⟨#[]⟩, .s ⟨#[]⟩, .sl .mut 2 []])
  | 30 => some .fn
  | 31 => some (.struct 2 [(0, 1, false, 0), (1, 1, false, 0)] [.i .i64 0, .s ⟨#[]⟩])
  | 32 => some (.struct 2 [(0, 1, false, 0), (1, 1, false, 0)] [.i .i64 0, .s ⟨#[]⟩])
  | 33 => some .fn
  | 34 => some (.slice 2 32 [.s ⟨#[]⟩, .s ⟨#[]⟩])
  | 35 => some (.struct 3 [(0, 1, false, 0), (1, 1, false, 2), (2, 1, false, 1)] [.i .i64 0, .sl .mut 2 [], .sl .mut 1 []])
  | 36 => some (.struct 3 [(0, 1, false, 0), (1, 1, false, 2), (2, 1, false, 1)] [.i .i64 0, .sl .mut 2 [], .sl .mut 1 []])
  | 37 => some (.struct 4 [(0, 1, false, 0), (1, 1, false, 0), (2, 1, false, 0), (3, 1, false, 2)] [.s ⟨#[]⟩, .s ⟨#[]⟩, .s ⟨#[]⟩, .sl .mut 2 []])
  | 38 => some (.struct 4 [(0, 1, false, 0), (1, 1, false, 0), (2, 1, false, 0), (3, 1, false, 2)] [.s ⟨#[]⟩, .s ⟨#[]⟩, .s ⟨#[]⟩, .sl .mut 2 []])
  | 39 => some (.struct 10 [(0, 1, false, 0), (1, 1, false, 0), (2, 1, false, 0), (3, 3, true, 0), (6, 4, true, 0)] [.i .i64 0, .i .i64 0, .s ⟨#[]⟩, .i .i64 0, .sl .mut 2 [], .sl .mut 1 [], .s ⟨#[]⟩, .s ⟨#[]⟩, .s ⟨#[]⟩, .sl .mut 2 []])
  | 40 => some (.struct 10 [(0, 1, false, 0), (1, 1, false, 0), (2, 1, false, 0), (3, 3, true, 0), (6, 4, true, 0)] [.i .i64 0, .i .i64 0, .s ⟨#[]⟩, .i .i64 0, .sl .mut 2 [], .sl .mut 1 [], .s ⟨#[]⟩, .s ⟨#[]⟩, .s ⟨#[]⟩, .sl .mut 2 []])
  | 41 => some .fn
  | 42 => some .fn
  | 43 => some .fn
  | 44 => some .fn
  | 45 => some (.struct 12 [(0, 1, false, 0), (1, 1, false, 0), (2, 1, false, 0), (3, 4, true, 0), (7, 3, true, 0), (10, 1, false, 0), (11, 1, false, 0)] [.i .i64 0, .i .i64 0, .i .i64 0, .s ⟨#[]⟩, .s ⟨#[]⟩, .s ⟨#[]⟩, .sl .mut 2 [], .i .i64 0, .sl .mut 2 [], .sl .mut 1 [], .s ⟨#[]⟩, .b false])
  | 46 => some (.struct 12 [(0, 1, false, 0), (1, 1, false, 0), (2, 1, false, 0), (3, 4, true, 0), (7, 3, true, 0), (10, 1, false, 0), (11, 1, false, 0)] [.i .i64 0, .i .i64 0, .i .i64 0, .s ⟨#[]⟩, .s ⟨#[]⟩, .s ⟨#[]⟩, .sl .mut 2 [], .i .i64 0, .sl .mut 2 [], .sl .mut 1 [], .s ⟨#[]⟩, .b false])
  | 47 => some .fn
  | 48 => some .fn
  | 49 => some (.struct 12 [(0, 1, false, 0), (1, 1, false, 0), (2, 1, false, 0), (3, 4, true, 0), (7, 3, true, 0), (10, 1, false, 0), (11, 1, false, 0)] [.i .i64 0, .i .i64 0, .i .i64 0, .s ⟨#[]⟩, .s ⟨#[]⟩, .s ⟨#[]⟩, .sl .mut 2 [], .i .i64 0, .sl .mut 2 [], .sl .mut 1 [], .s ⟨#[]⟩, .b false])
  | 50 => some (.struct 12 [(0, 1, false, 0), (1, 1, false, 0), (2, 1, false, 0), (3, 4, true, 0), (7, 3, true, 0), (10, 1, false, 0), (11, 1, false, 0)] [.i .i64 0, .i .i64 0, .i .i64 0, .s ⟨#[]⟩, .s ⟨#[]⟩, .s ⟨#[]⟩, .sl .mut 2 [], .i .i64 0, .sl .mut 2 [], .sl .mut 1 [], .s ⟨#[]⟩, .b false])
  | 51 => some .fn
  | 52 => some .fn
  | 53 => some .fn
  | 54 => some .fn
  | 55 => some .fn
  | 57 => some .fn
  | 58 => some .ptr
  | 59 => some .fn
  | 60 => some .fn
  | 61 => some .fn
  | 62 => some .fn
  | 63 => some .fn
  | 64 => some .fn
  | 65 => some .fn
  | 66 => some .fn
  | 67 => some .fn
  | 68 => some .ptr
  | 69 => some .fn
  | 70 => some .fn
  | 73 => some .fn
  | 74 => some .fn
  | 75 => some .fn
  | 76 => some .fn
  | 77 => some .fn
  | 78 => some .fn
  | 79 => some .fn
  | 80 => some (.slice 1 16 [.s ⟨#[]⟩])
  | 81 => some .fn
  | 82 => some .fn
  | 83 => some .fn
  | 84 => some .fn
  | 85 => some .fn
  | 86 => some (.slice 1 8 [.i .i64 0])
  | 87 => some .fn
  | 88 => some (.struct 2 [(0, 1, false, 0), (1, 1, false, 0)] [.s ⟨#[]⟩, .s ⟨#[]⟩])
  | 89 => some (.struct 2 [(0, 1, false, 0), (1, 1, false, 0)] [.s ⟨#[]⟩, .s ⟨#[]⟩])
  | 90 => some (.slice 1 8 [.u])
  | 91 => some .fn
  | 92 => some (.struct 2 [(0, 1, false, 0), (1, 1, false, 0)] [.s ⟨#[]⟩, .s ⟨#[]⟩])
  | 93 => some .fn
  | 94 => some .fn
  | 95 => some .fn
  | 96 => some .fn
  | 97 => some .fn
  | 98 => some .fn
  | 99 => some .fn
  | 100 => some .fn
  | 101 => some .fn
  | 103 => some (.int .u64)
  | 104 => some .fn
  | 105 => some .fn
  | 107 => some .fn
  | 108 => some .fn
  | 109 => some .fn
  | 110 => some .fn
  | 111 => some .fn
  | 113 => some (.int .u32)
  | 115 => some .fn
  | 116 => some (.int .u64)
  | 117 => some .fn
  | 118 => some .fn
  | 122 => some .fn
  | 123 => some .fn
  | 124 => some .ptr
  | 125 => some .fn
  | 127 => some .fn
  | 128 => some .fn
  | 131 => some .fn
  | 133 => some (.struct 2 [(0, 1, false, 0), (1, 1, false, 0)] [.i .u8 0, .i .u8 0])
  | 134 => some (.struct 2 [(0, 1, false, 0), (1, 1, false, 0)] [.i .u8 0, .i .u8 0])
  | 136 => some .fn
  | 137 => some .fn
  | 144 => some .fn
  | 148 => some .ptr
  | _ => none
@[go_sem] theorem T1 : T 1 = some .fn := nr rfl
@[go_sem] theorem T2 : T 2 = some (.int .i64) := nr rfl
@[go_sem] theorem T3 : T 3 = some (.int .i64) := nr rfl
@[go_sem] theorem T4 : T 4 = some .bool := nr rfl
@[go_sem] theorem T5 : T 5 = some (.int .u8) := nr rfl
@[go_sem] theorem T9 : T 9 = some .str := nr rfl
@[go_sem] theorem T21 : T 21 = some (.int .i32) := nr rfl
@[go_sem] theorem T22 : T 22 = some (.slice 2 32 [.s ⟨#[]⟩, .s ⟨#[]⟩]) := nr rfl
@[go_sem] theorem T23 : T 23 = some (.slice 1 1 [.i .u8 0]) := nr rfl
@[go_sem] theorem T24 : T 24 = some (.struct 3 [(0, 1, false, 0), (1, 1, false, 2), (2, 1, false, 1)] [.i .i64 0, .sl .mut 2 [], .sl .mut 1 []]) := nr rfl
@[go_sem] theorem T25 : T 25 = some (.struct 3 [(0, 1, false, 0), (1, 1, false, 2), (2, 1, false, 1)] [.i .i64 0, .sl .mut 2 [], .sl .mut 1 []]) := nr rfl
@[go_sem] theorem T26 : T 26 = some (.struct 4 [(0, 1, false, 0), (1, 1, false, 0), (2, 1, false, 0), (3, 1, false, 2)] [.s ⟨#[]⟩, .s ⟨#[]⟩, .s ⟨#[]⟩, .sl .mut 2 []]) := nr rfl
@[go_sem] theorem T27 : T 27 = some (.struct 4 [(0, 1, false, 0), (1, 1, false, 0), (2, 1, false, 0), (3, 1, false, 2)] [.s ⟨#[]⟩, .s ⟨#[]⟩, .s ⟨#[]⟩, .sl .mut 2 []]) := nr rfl
@[go_sem] theorem T28 : T 28 = some (.struct 10 [(0, 1, false, 0), (1, 1, false, 0), (2, 1, false, 0), (3, 3, true, 0), (6, 4, true, 0)] [.i .i64 0, .i .i64 0, .s ⟨#[]⟩, .i .i64 0, .sl .mut 2 [], .sl .mut 1 [], .s ⟨#[]⟩, .s ⟨#[]⟩, .s ⟨#[]⟩, .sl .mut 2 []]) := nr rfl
@[go_sem] theorem T29 : T 29 = some (.struct 10 [(0, 1, false, 0), (1, 1, false, 0), (2, 1, false, 0), (3, 3, true, 0), (6, 4, true, 0)] [.i .i64 0, .i .i64 0, .s ⟨#[]⟩, .i .i64 0, .sl .mut 2 [], .sl .mut 1 [], .s ⟨#[]⟩, .s ⟨#[]⟩, .s ⟨#[]⟩, .sl .mut 2 []]) := nr rfl
@[go_sem] theorem T30 : T 30 = some .fn := nr rfl
@[go_sem] theorem T31 : T 31 = some (.struct 2 [(0, 1, false, 0), (1, 1, false, 0)] [.i .i64 0, .s ⟨#[]⟩]) := nr rfl
@[go_sem] theorem T32 : T 32 = some (.struct 2 [(0, 1, false, 0), (1, 1, false, 0)] [.i .i64 0, .s ⟨#[]⟩]) := nr rfl
@[go_sem] theorem T33 : T 33 = some .fn := nr rfl
@[go_sem] theorem T34 : T 34 = some (.slice 2 32 [.s ⟨#[]⟩, .s ⟨#[]⟩]) := nr rfl
@[go_sem] theorem T35 : T 35 = some (.struct 3 [(0, 1, false, 0), (1, 1, false, 2), (2, 1, false, 1)] [.i .i64 0, .sl .mut 2 [], .sl .mut 1 []]) := nr rfl
@[go_sem] theorem T36 : T 36 = some (.struct 3 [(0, 1, false, 0), (1, 1, false, 2), (2, 1, false, 1)] [.i .i64 0, .sl .mut 2 [], .sl .mut 1 []]) := nr rfl
@[go_sem] theorem T37 : T 37 = some (.struct 4 [(0, 1, false, 0), (1, 1, false, 0), (2, 1, false, 0), (3, 1, false, 2)] [.s ⟨#[]⟩, .s ⟨#[]⟩, .s ⟨#[]⟩, .sl .mut 2 []]) := nr rfl
@[go_sem] theorem T38 : T 38 = some (.struct 4 [(0, 1, false, 0), (1, 1, false, 0), (2, 1, false, 0), (3, 1, false, 2)] [.s ⟨#[]⟩, .s ⟨#[]⟩, .s ⟨#[]⟩, .sl .mut 2 []]) := nr rfl
@[go_sem] theorem T39 : T 39 = some (.struct 10 [(0, 1, false, 0), (1, 1, false, 0), (2, 1, false, 0), (3, 3, true, 0), (6, 4, true, 0)] [.i .i64 0, .i .i64 0, .s ⟨#[]⟩, .i .i64 0, .sl .mut 2 [], .sl .mut 1 [], .s ⟨#[]⟩, .s ⟨#[]⟩, .s ⟨#[]⟩, .sl .mut 2 []]) := nr rfl
@[go_sem] theorem T40 : T 40 = some (.struct 10 [(0, 1, false, 0), (1, 1, false, 0), (2, 1, false, 0), (3, 3, true, 0), (6, 4, true, 0)] [.i .i64 0, .i .i64 0, .s ⟨#[]⟩, .i .i64 0, .sl .mut 2 [], .sl .mut 1 [], .s ⟨#[]⟩, .s ⟨#[]⟩, .s ⟨#[]⟩, .sl .mut 2 []]) := nr rfl
@[go_sem] theorem T41 : T 41 = some .fn := nr rfl
@[go_sem] theorem T42 : T 42 = some .fn := nr rfl
@[go_sem] theorem T43 : T 43 = some .fn := nr rfl
@[go_sem] theorem T44 : T 44 = some .fn := nr rfl
@[go_sem] theorem T45 : T 45 = some (.struct 12 [(0, 1, false, 0), (1, 1, false, 0), (2, 1, false, 0), (3, 4, true, 0), (7, 3, true, 0), (10, 1, false, 0), (11, 1, false, 0)] [.i .i64 0, .i .i64 0, .i .i64 0, .s ⟨#[]⟩, .s ⟨#[]⟩, .s ⟨#[]⟩, .sl .mut 2 [], .i .i64 0, .sl .mut 2 [], .sl .mut 1 [], .s ⟨#[]⟩, .b false]) := nr rfl
@[go_sem] theorem T46 : T 46 = some (.struct 12 [(0, 1, false, 0), (1, 1, false, 0), (2, 1, false, 0), (3, 4, true, 0), (7, 3, true, 0), (10, 1, false, 0), (11, 1, false, 0)] [.i .i64 0, .i .i64 0, .i .i64 0, .s ⟨#[]⟩, .s ⟨#[]⟩, .s ⟨#[]⟩, .sl .mut 2 [], .i .i64 0, .sl .mut 2 [], .sl .mut 1 [], .s ⟨#[]⟩, .b false]) := nr rfl
@[go_sem] theorem T47 : T 47 = some .fn := nr rfl
@[go_sem] theorem T48 : T 48 = some .fn := nr rfl
@[go_sem] theorem T49 : T 49 = some (.struct 12 [(0, 1, false, 0), (1, 1, false, 0), (2, 1, false, 0), (3, 4, true, 0), (7, 3, true, 0), (10, 1, false, 0), (11, 1, false, 0)] [.i .i64 0, .i .i64 0, .i .i64 0, .s ⟨#[]⟩, .s ⟨#[]⟩, .s ⟨#[]⟩, .sl .mut 2 [], .i .i64 0, .sl .mut 2 [], .sl .mut 1 [], .s ⟨#[]⟩, .b false]) := nr rfl
@[go_sem] theorem T50 : T 50 = some (.struct 12 [(0, 1, false, 0), (1, 1, false, 0), (2, 1, false, 0), (3, 4, true, 0), (7, 3, true, 0), (10, 1, false, 0), (11, 1, false, 0)] [.i .i64 0, .i .i64 0, .i .i64 0, .s ⟨#[]⟩, .s ⟨#[]⟩, .s ⟨#[]⟩, .sl .mut 2 [], .i .i64 0, .sl .mut 2 [], .sl .mut 1 [], .s ⟨#[]⟩, .b false]) := nr rfl
@[go_sem] theorem T51 : T 51 = some .fn := nr rfl
@[go_sem] theorem T52 : T 52 = some .fn := nr rfl
@[go_sem] theorem T53 : T 53 = some .fn := nr rfl
@[go_sem] theorem T54 : T 54 = some .fn := nr rfl
@[go_sem] theorem T55 : T 55 = some .fn := nr rfl
@[go_sem] theorem T57 : T 57 = some .fn := nr rfl
@[go_sem] theorem T58 : T 58 = some .ptr := nr rfl
@[go_sem] theorem T59 : T 59 = some .fn := nr rfl
@[go_sem] theorem T60 : T 60 = some .fn := nr rfl
@[go_sem] theorem T61 : T 61 = some .fn := nr rfl
@[go_sem] theorem T62 : T 62 = some .fn := nr rfl
@[go_sem] theorem T63 : T 63 = some .fn := nr rfl
@[go_sem] theorem T64 : T 64 = some .fn := nr rfl
@[go_sem] theorem T65 : T 65 = some .fn := nr rfl
@[go_sem] theorem T66 : T 66 = some .fn := nr rfl
@[go_sem] theorem T67 : T 67 = some .fn := nr rfl
@[go_sem] theorem T68 : T 68 = some .ptr := nr rfl
@[go_sem] theorem T69 : T 69 = some .fn := nr rfl
@[go_sem] theorem T70 : T 70 = some .fn := nr rfl
@[go_sem] theorem T73 : T 73 = some .fn := nr rfl
@[go_sem] theorem T74 : T 74 = some .fn := nr rfl
@[go_sem] theorem T75 : T 75 = some .fn := nr rfl
@[go_sem] theorem T76 : T 76 = some .fn := nr rfl
@[go_sem] theorem T77 : T 77 = some .fn := nr rfl
@[go_sem] theorem T78 : T 78 = some .fn := nr rfl
@[go_sem] theorem T79 : T 79 = some .fn := nr rfl
@[go_sem] theorem T80 : T 80 = some (.slice 1 16 [.s ⟨#[]⟩]) := nr rfl
@[go_sem] theorem T81 : T 81 = some .fn := nr rfl
@[go_sem] theorem T82 : T 82 = some .fn := nr rfl
@[go_sem] theorem T83 : T 83 = some .fn := nr rfl
@[go_sem] theorem T84 : T 84 = some .fn := nr rfl
@[go_sem] theorem T85 : T 85 = some .fn := nr rfl
@[go_sem] theorem T86 : T 86 = some (.slice 1 8 [.i .i64 0]) := nr rfl
@[go_sem] theorem T87 : T 87 = some .fn := nr rfl
@[go_sem] theorem T88 : T 88 = some (.struct 2 [(0, 1, false, 0), (1, 1, false, 0)] [.s ⟨#[]⟩, .s ⟨#[]⟩]) := nr rfl
@[go_sem] theorem T89 : T 89 = some (.struct 2 [(0, 1, false, 0), (1, 1, false, 0)] [.s ⟨#[]⟩, .s ⟨#[]⟩]) := nr rfl
@[go_sem] theorem T90 : T 90 = some (.slice 1 8 [.u]) := nr rfl
@[go_sem] theorem T91 : T 91 = some .fn := nr rfl
@[go_sem] theorem T92 : T 92 = some (.struct 2 [(0, 1, false, 0), (1, 1, false, 0)] [.s ⟨#[]⟩, .s ⟨#[]⟩]) := nr rfl
@[go_sem] theorem T93 : T 93 = some .fn := nr rfl
@[go_sem] theorem T94 : T 94 = some .fn := nr rfl
@[go_sem] theorem T95 : T 95 = some .fn := nr rfl
@[go_sem] theorem T96 : T 96 = some .fn := nr rfl
@[go_sem] theorem T97 : T 97 = some .fn := nr rfl
@[go_sem] theorem T98 : T 98 = some .fn := nr rfl
@[go_sem] theorem T99 : T 99 = some .fn := nr rfl
@[go_sem] theorem T100 : T 100 = some .fn := nr rfl
@[go_sem] theorem T101 : T 101 = some .fn := nr rfl
@[go_sem] theorem T103 : T 103 = some (.int .u64) := nr rfl
@[go_sem] theorem T104 : T 104 = some .fn := nr rfl
@[go_sem] theorem T105 : T 105 = some .fn := nr rfl
@[go_sem] theorem T107 : T 107 = some .fn := nr rfl
@[go_sem] theorem T108 : T 108 = some .fn := nr rfl
@[go_sem] theorem T109 : T 109 = some .fn := nr rfl
@[go_sem] theorem T110 : T 110 = some .fn := nr rfl
@[go_sem] theorem T111 : T 111 = some .fn := nr rfl
@[go_sem] theorem T113 : T 113 = some (.int .u32) := nr rfl
@[go_sem] theorem T115 : T 115 = some .fn := nr rfl
@[go_sem] theorem T116 : T 116 = some (.int .u64) := nr rfl
@[go_sem] theorem T117 : T 117 = some .fn := nr rfl
@[go_sem] theorem T118 : T 118 = some .fn := nr rfl
@[go_sem] theorem T122 : T 122 = some .fn := nr rfl
@[go_sem] theorem T123 : T 123 = some .fn := nr rfl
@[go_sem] theorem T124 : T 124 = some .ptr := nr rfl
@[go_sem] theorem T125 : T 125 = some .fn := nr rfl
@[go_sem] theorem T127 : T 127 = some .fn := nr rfl
@[go_sem] theorem T128 : T 128 = some .fn := nr rfl
@[go_sem] theorem T131 : T 131 = some .fn := nr rfl
@[go_sem] theorem T133 : T 133 = some (.struct 2 [(0, 1, false, 0), (1, 1, false, 0)] [.i .u8 0, .i .u8 0]) := nr rfl
@[go_sem] theorem T134 : T 134 = some (.struct 2 [(0, 1, false, 0), (1, 1, false, 0)] [.i .u8 0, .i .u8 0]) := nr rfl
@[go_sem] theorem T136 : T 136 = some .fn := nr rfl
@[go_sem] theorem T137 : T 137 = some .fn := nr rfl
@[go_sem] theorem T144 : T 144 = some .fn := nr rfl
@[go_sem] theorem T148 : T 148 = some .ptr := nr rfl
def Q : TypeId → Option (List Nat)
  | 31 => some [1, 2]
  | 32 => some [1, 2]
  | 88 => some [2, 2]
  | 89 => some [2, 2]
  | 92 => some [2, 2]
  | 133 => some [1, 1]
  | 134 => some [1, 1]
  | _ => none
@[go_sem] theorem Q31 : Q 31 = some [1, 2] := nr rfl
@[go_sem] theorem Q32 : Q 32 = some [1, 2] := nr rfl
@[go_sem] theorem Q88 : Q 88 = some [2, 2] := nr rfl
@[go_sem] theorem Q89 : Q 89 = some [2, 2] := nr rfl
@[go_sem] theorem Q92 : Q 92 = some [2, 2] := nr rfl
@[go_sem] theorem Q133 : Q 133 = some [1, 1] := nr rfl
@[go_sem] theorem Q134 : Q 134 = some [1, 1] := nr rfl
theorem tyOk (cx : Cx) (h : cx.T = T) (h2 : cx.eqs = Q) : CxOk Tryd.prog cx := by
  refine ⟨fun t ti ht => ?_, fun t ks hk => ?_⟩
  · rw [h] at ht
    unfold T at ht
    split at ht <;> first | cases ht; done | (injection ht with ht; subst ht; exact tiOk_s (by kernel_rfl))
  · rw [h2] at hk
    unfold Q at hk
    split at hk <;> first | cases hk; done | (injection hk with hk; subst hk; kernel_rfl)
def tyA : TyOf Tryd.prog := ⟨T, Q, tyOk, by kernel_rfl⟩
@[go_sem] theorem tyA_T : tyA.T = T := nr rfl
@[go_sem] theorem tyA_Q : tyA.Q = Q := nr rfl
end Go.Vm.A
/- The library's functions of the program, laid by the shelf. -/
namespace Go.Proofs
open Go.Shelf
def Tryd.lays160_ren : Go.Shelf.Ren := ⟨fun | 160 => 93 | 232 => 104 | 231 => 103 | 227 => 105 | 234 => 107 | 233 => 106 | 236 => 109 | 235 => 108 | 228 => 113 | 271 => 116 | 151 => 115 | 197 => 114 | 120 => 119 | 152 => 118 | 260 => 117 | 137 => 90 | 119 => 120 | 224 => 121 | 225 => 122 | 217 => 101 | 266 => 112 | n => n, fun | 9 => 9 | 4 => 4 | 3 => 3 | 5 => 5 | 117 => 121 | 116 => 120 | 0 => 0 | 124 => 124 | 21 => 21 | 105 => 126 | 46 => 116 | 119 => 132 | 139 => 135 | 138 => 134 | n => n, fun | 3 => 4 | 4 => 5 | n => n⟩
theorem Tryd.lays160 : Go.Proofs.Lays.n160 Tryd.prog Tryd.lays160_ren := {
  mixed := by kernel_rfl
  f119 := Tryd.func120.trans (congrArg some (by kernel_rfl))
  f120 := Tryd.func119.trans (congrArg some (by kernel_rfl))
  f137 := Tryd.func90.trans (congrArg some (by kernel_rfl))
  f151 := Tryd.func115.trans (congrArg some (by kernel_rfl))
  f152 := Tryd.func118.trans (congrArg some (by kernel_rfl))
  f160 := Tryd.func93.trans (congrArg some (by kernel_rfl))
  f197 := Tryd.func114.trans (congrArg some (by kernel_rfl))
  f217 := Tryd.func101.trans (congrArg some (by kernel_rfl))
  f224 := Tryd.func121.trans (congrArg some (by kernel_rfl))
  f225 := Tryd.func122.trans (congrArg some (by kernel_rfl))
  f227 := Tryd.func105.trans (congrArg some (by kernel_rfl))
  f228 := Tryd.func113.trans (congrArg some (by kernel_rfl))
  f231 := Tryd.func103.trans (congrArg some (by kernel_rfl))
  f232 := Tryd.func104.trans (congrArg some (by kernel_rfl))
  f233 := Tryd.func106.trans (congrArg some (by kernel_rfl))
  f234 := Tryd.func107.trans (congrArg some (by kernel_rfl))
  f235 := Tryd.func108.trans (congrArg some (by kernel_rfl))
  f236 := Tryd.func109.trans (congrArg some (by kernel_rfl))
  f260 := Tryd.func117.trans (congrArg some (by kernel_rfl))
  f266 := Tryd.func112.trans (congrArg some (by kernel_rfl))
  f271 := Tryd.func116.trans (congrArg some (by kernel_rfl))
  t0 := Tryd.underlying0
  a0 := Tryd.isAgg0
  z0 := Tryd.sizeOf0
  v0 := Tryd.zeroValue0
  t3 := Tryd.underlying3
  a3 := Tryd.isAgg3
  z3 := Tryd.sizeOf3
  v3 := Tryd.zeroValue3
  t4 := Tryd.underlying4
  a4 := Tryd.isAgg4
  z4 := Tryd.sizeOf4
  v4 := Tryd.zeroValue4
  t5 := Tryd.underlying5
  a5 := Tryd.isAgg5
  z5 := Tryd.sizeOf5
  v5 := Tryd.zeroValue5
  t9 := Tryd.underlying9
  a9 := Tryd.isAgg9
  z9 := Tryd.sizeOf9
  v9 := Tryd.zeroValue9
  t21 := Tryd.underlying21
  a21 := Tryd.isAgg21
  z21 := Tryd.sizeOf21
  v21 := Tryd.zeroValue21
  t46 := Tryd.underlying116
  a46 := Tryd.isAgg116
  z46 := Tryd.sizeOf116
  v46 := Tryd.zeroValue116
  t105 := Tryd.underlying126
  a105 := Tryd.isAgg126
  z105 := Tryd.sizeOf126
  v105 := Tryd.zeroValue126
  t116 := Tryd.underlying120
  a116 := Tryd.isAgg120
  z116 := Tryd.sizeOf120
  t117 := Tryd.underlying121
  a117 := Tryd.isAgg121
  z117 := Tryd.sizeOf121
  v117 := Tryd.zeroValue121
  t119 := Tryd.underlying132
  a119 := Tryd.isAgg132
  z119 := Tryd.sizeOf132
  t124 := Tryd.underlying124
  a124 := Tryd.isAgg124
  z124 := Tryd.sizeOf124
  v124 := Tryd.zeroValue124
  t138 := Tryd.underlying134
  a138 := Tryd.isAgg134
  z138 := Tryd.sizeOf134
  v138 := Tryd.zeroValue134
  t139 := Tryd.underlying135
  a139 := Tryd.isAgg135
  z139 := Tryd.sizeOf135
  v139 := Tryd.zeroValue135
  g3 := by kernel_rfl
  g4 := by kernel_rfl }
theorem Tryd.trimSpTab (s : ByteArray) (w : World) (hs : s.size ≤ 9223372036854775807) :
    Calls Tryd.prog 93 #[.string s, .string ⟨#[32, 9]⟩] w fun e w' => e = .returned (.string ⟨(Lib.trimS s.data.toList [32, 9]).toArray⟩) ∧ Go.RowKit.Below w.heap.size w w' :=
  Any.strings_Trim_laid Tryd.lays160 (by kernel_rfl) s ⟨#[32, 9]⟩ w hs (by decide) (ascii_of_all (by decide))
end Go.Proofs
