/- Functions of the program, walked by the evaluator. -/
import Derived.Test.YtionofhbbjpffaaWa
import Derived.Test.YtionofhbbjpffaaProg
import Derived.KernelRfl
/- What the evaluator must know of the program's types. -/
set_option autoImplicit false
set_option maxRecDepth 100000
set_option maxHeartbeats 4000000
set_option linter.unusedVariables false
set_option linter.unusedSimpArgs false

namespace Go.Vm.A
open Go.Proofs
def T : TypeId → Option TI
  | 1 => some .fn
  | 2 => some (.int .i64)
  | 3 => some (.int .i64)
  | 4 => some .bool
  | 5 => some (.int .u8)
  | 9 => some .str
  | 21 => some (.int .i32)
  | 22 => some (.slice 2 32 [.s ⟨#[]⟩, .s ⟨#[]⟩])
  | 23 => some (.slice 1 1 [.i .u8 0])
  | 24 => some (.struct 3 [(0, 1, false, 0), (1, 1, false, 2), (2, 1, false, 1)] [.i .i64 0, .sl .mut 2 [], .sl .mut 1 []])
  | 25 => some (.struct 3 [(0, 1, false, 0), (1, 1, false, 2), (2, 1, false, 1)] [.i .i64 0, .sl .mut 2 [], .sl .mut 1 []])
  | 26 => some (.struct 4 [(0, 1, false, 0), (1, 3, true, 0)] [.i .i64 0, .i .i64 0, .sl .mut 2 [], .sl .mut 1 []])
  | 27 => some (.struct 4 [(0, 1, false, 0), (1, 3, true, 0)] [.i .i64 0, .i .i64 0, .sl .mut 2 [], .sl .mut 1 []])
  | 28 => some .fn
  | 29 => some .fn
  | 30 => some .fn
  | 31 => some .fn
  | 32 => some (.slice 10 160 [.i .i64 0, .i .i64 0, .s ⟨#[]⟩, .i .i64 0, .sl .mut 2 [], .sl .mut 1 [], .s ⟨#[]⟩, .s ⟨#[]⟩, .s ⟨#[]⟩, .sl .mut 2 []])
  | 33 => some .fn
  | 34 => some (.struct 2 [(0, 1, false, 0), (1, 1, false, 0)] [.i .i64 0, .i .i64 0])
  | 35 => some (.struct 2 [(0, 1, false, 0), (1, 1, false, 0)] [.i .i64 0, .i .i64 0])
  | 36 => some .fn
  | 37 => some (.slice 10 160 [.i .i64 0, .i .i64 0, .s ⟨#[]⟩, .i .i64 0, .sl .mut 2 [], .sl .mut 1 [], .s ⟨#[]⟩, .s ⟨#[]⟩, .s ⟨#[]⟩, .sl .mut 2 []])
  | 38 => some .fn
  | 39 => some .fn
  | 40 => some .fn
  | 41 => some .fn
  | 42 => some .fn
  | 43 => some .fn
  | 44 => some .fn
  | 45 => some (.slice 2 16 [.i .i64 0, .b false])
  | 46 => some (.struct 4 [(0, 1, false, 0), (1, 1, false, 0), (2, 1, false, 0), (3, 1, false, 2)] [.i .i64 0, .i .i64 0, .i .i64 0, .sl .mut 2 []])
  | 47 => some (.struct 4 [(0, 1, false, 0), (1, 1, false, 0), (2, 1, false, 0), (3, 1, false, 2)] [.i .i64 0, .i .i64 0, .i .i64 0, .sl .mut 2 []])
  | 48 => some (.struct 5 [(0, 1, false, 0), (1, 1, false, 0), (2, 1, false, 0), (3, 1, false, 0), (4, 1, false, 0)] [.i .i64 0, .i .i64 0, .i .i64 0, .i .i64 0, .i .i64 0])
  | 49 => some (.struct 5 [(0, 1, false, 0), (1, 1, false, 0), (2, 1, false, 0), (3, 1, false, 0), (4, 1, false, 0)] [.i .i64 0, .i .i64 0, .i .i64 0, .i .i64 0, .i .i64 0])
  | 50 => some .fn
  | 51 => some (.slice 2 16 [.i .i64 0, .b false])
  | 52 => some (.struct 4 [(0, 1, false, 0), (1, 1, false, 0), (2, 1, false, 0), (3, 1, false, 2)] [.i .i64 0, .i .i64 0, .i .i64 0, .sl .mut 2 []])
  | 53 => some (.struct 4 [(0, 1, false, 0), (1, 1, false, 0), (2, 1, false, 0), (3, 1, false, 2)] [.i .i64 0, .i .i64 0, .i .i64 0, .sl .mut 2 []])
  | 54 => some (.struct 5 [(0, 1, false, 0), (1, 4, true, 0)] [.i .i64 0, .i .i64 0, .i .i64 0, .i .i64 0, .sl .mut 2 []])
  | 55 => some (.struct 5 [(0, 1, false, 0), (1, 4, true, 0)] [.i .i64 0, .i .i64 0, .i .i64 0, .i .i64 0, .sl .mut 2 []])
  | 56 => some .fn
  | 57 => some .fn
  | 58 => some (.struct 5 [(0, 1, false, 0), (1, 1, false, 0), (2, 1, false, 0), (3, 1, false, 0), (4, 1, false, 0)] [.i .i64 0, .i .i64 0, .i .i64 0, .i .i64 0, .i .i64 0])
  | 59 => some .fn
  | 60 => some .fn
  | 61 => some .fn
  | 62 => some .fn
  | 63 => some .fn
  | 64 => some .fn
  | 65 => some .fn
  | 66 => some .fn
  | 67 => some (.struct 2 [(0, 1, false, 0), (1, 1, false, 0)] [.s ⟨#[]⟩, .s ⟨#[]⟩])
  | 68 => some (.struct 2 [(0, 1, false, 0), (1, 1, false, 0)] [.s ⟨#[]⟩, .s ⟨#[]⟩])
  | 69 => some .fn
  | 70 => some .fn
  | 71 => some .fn
  | 72 => some (.slice 2 32 [.s ⟨#[]⟩, .s ⟨#[]⟩])
  | 73 => some (.struct 3 [(0, 1, false, 0), (1, 1, false, 2), (2, 1, false, 1)] [.i .i64 0, .sl .mut 2 [], .sl .mut 1 []])
  | 74 => some (.struct 3 [(0, 1, false, 0), (1, 1, false, 2), (2, 1, false, 1)] [.i .i64 0, .sl .mut 2 [], .sl .mut 1 []])
  | 75 => some (.struct 4 [(0, 1, false, 0), (1, 1, false, 0), (2, 1, false, 0), (3, 1, false, 2)] [.s ⟨#[]⟩, .s ⟨#[]⟩, .s ⟨#[]⟩, .sl .mut 2 []])
  | 76 => some (.struct 4 [(0, 1, false, 0), (1, 1, false, 0), (2, 1, false, 0), (3, 1, false, 2)] [.s ⟨#[]⟩, .s ⟨#[]⟩, .s ⟨#[]⟩, .sl .mut 2 []])
  | 77 => some (.struct 10 [(0, 1, false, 0), (1, 1, false, 0), (2, 1, false, 0), (3, 3, true, 0), (6, 4, true, 0)] [.i .i64 0, .i .i64 0, .s ⟨#[]⟩, .i .i64 0, .sl .mut 2 [], .sl .mut 1 [], .s ⟨#[]⟩, .s ⟨#[]⟩, .s ⟨#[]⟩, .sl .mut 2 []])
  | 78 => some (.struct 10 [(0, 1, false, 0), (1, 1, false, 0), (2, 1, false, 0), (3, 3, true, 0), (6, 4, true, 0)] [.i .i64 0, .i .i64 0, .s ⟨#[]⟩, .i .i64 0, .sl .mut 2 [], .sl .mut 1 [], .s ⟨#[]⟩, .s ⟨#[]⟩, .s ⟨#[]⟩, .sl .mut 2 []])
  | 79 => some (.struct 4 [(0, 1, false, 0), (1, 1, false, 0), (2, 1, false, 0), (3, 1, false, 2)] [.s ⟨#[]⟩, .s ⟨#[]⟩, .s ⟨#[]⟩, .sl .mut 2 []])
  | 80 => some (.struct 4 [(0, 1, false, 0), (1, 1, false, 0), (2, 1, false, 0), (3, 1, false, 2)] [.s ⟨#[]⟩, .s ⟨#[]⟩, .s ⟨#[]⟩, .sl .mut 2 []])
  | 81 => some (.struct 10 [(0, 1, false, 0), (1, 1, false, 0), (2, 1, false, 0), (3, 3, true, 0), (6, 4, true, 0)] [.i .i64 0, .i .i64 0, .s ⟨#[]⟩, .i .i64 0, .sl .mut 2 [], .sl .mut 1 [], .s ⟨#[]⟩, .s ⟨#[]⟩, .s ⟨#[]⟩, .sl .mut 2 []])
  | 82 => some (.struct 10 [(0, 1, false, 0), (1, 1, false, 0), (2, 1, false, 0), (3, 3, true, 0), (6, 4, true, 0)] [.i .i64 0, .i .i64 0, .s ⟨#[]⟩, .i .i64 0, .sl .mut 2 [], .sl .mut 1 [], .s ⟨#[]⟩, .s ⟨#[]⟩, .s ⟨#[]⟩, .sl .mut 2 []])
  | 83 => some .fn
  | 84 => some .fn
  | 85 => some .fn
  | 86 => some .fn
  | 87 => some (.slice 1 16 [.s ⟨#[]⟩])
  | 88 => some .fn
  | 89 => some .fn
  | 90 => some .fn
  | 91 => some .fn
  | 92 => some .fn
  | 93 => some .ptr
  | 94 => some .ptr
  | 95 => some .fn
  | 96 => some .fn
  | 97 => some .fn
  | 98 => some .fn
  | 99 => some .fn
  | 100 => some .fn
  | 101 => some .fn
  | 102 => some .fn
  | 103 => some .fn
  | 104 => some .fn
  | 105 => some .fn
  | 106 => some .fn
  | 107 => some .fn
  | 108 => some .fn
  | 109 => some .fn
  | 110 => some .fn
  | 112 => some .fn
  | 113 => some .fn
  | 114 => some .fn
  | 115 => some .fn
  | 116 => some (.struct 2 [(0, 1, false, 0), (1, 1, false, 0)] [.i .i64 0, .b false])
  | 117 => some (.struct 2 [(0, 1, false, 0), (1, 1, false, 0)] [.i .i64 0, .b false])
  | 118 => some .fn
  | 119 => some .fn
  | 120 => some .fn
  | 121 => some (.struct 2 [(0, 1, false, 0), (1, 1, false, 0)] [.i .i64 0, .b false])
  | 122 => some .fn
  | 123 => some .fn
  | 124 => some .fn
  | 125 => some .fn
  | 126 => some .fn
  | 127 => some .fn
  | 128 => some .fn
  | 129 => some .fn
  | 130 => some .fn
  | 131 => some .fn
  | 132 => some (.slice 1 8 [.u])
  | 133 => some .fn
  | 134 => some .fn
  | 135 => some .fn
  | 136 => some .fn
  | 137 => some (.struct 2 [(0, 1, false, 0), (1, 1, false, 0)] [.s ⟨#[]⟩, .s ⟨#[]⟩])
  | 138 => some .fn
  | 145 => some .fn
  | 146 => some (.int .u32)
  | 150 => some .ptr
  | _ => none
@[go_sem] theorem T1 : T 1 = some .fn := nr rfl
@[go_sem] theorem T2 : T 2 = some (.int .i64) := nr rfl
@[go_sem] theorem T3 : T 3 = some (.int .i64) := nr rfl
@[go_sem] theorem T4 : T 4 = some .bool := nr rfl
@[go_sem] theorem T5 : T 5 = some (.int .u8) := nr rfl
@[go_sem] theorem T9 : T 9 = some .str := nr rfl
@[go_sem] theorem T21 : T 21 = some (.int .i32) := nr rfl
@[go_sem] theorem T22 : T 22 = some (.slice 2 32 [.s ⟨#[]⟩, .s ⟨#[]⟩]) := nr rfl
@[go_sem] theorem T23 : T 23 = some (.slice 1 1 [.i .u8 0]) := nr rfl
@[go_sem] theorem T24 : T 24 = some (.struct 3 [(0, 1, false, 0), (1, 1, false, 2), (2, 1, false, 1)] [.i .i64 0, .sl .mut 2 [], .sl .mut 1 []]) := nr rfl
@[go_sem] theorem T25 : T 25 = some (.struct 3 [(0, 1, false, 0), (1, 1, false, 2), (2, 1, false, 1)] [.i .i64 0, .sl .mut 2 [], .sl .mut 1 []]) := nr rfl
@[go_sem] theorem T26 : T 26 = some (.struct 4 [(0, 1, false, 0), (1, 3, true, 0)] [.i .i64 0, .i .i64 0, .sl .mut 2 [], .sl .mut 1 []]) := nr rfl
@[go_sem] theorem T27 : T 27 = some (.struct 4 [(0, 1, false, 0), (1, 3, true, 0)] [.i .i64 0, .i .i64 0, .sl .mut 2 [], .sl .mut 1 []]) := nr rfl
@[go_sem] theorem T28 : T 28 = some .fn := nr rfl
@[go_sem] theorem T29 : T 29 = some .fn := nr rfl
@[go_sem] theorem T30 : T 30 = some .fn := nr rfl
@[go_sem] theorem T31 : T 31 = some .fn := nr rfl
@[go_sem] theorem T32 : T 32 = some (.slice 10 160 [.i .i64 0, .i .i64 0, .s ⟨#[]⟩, .i .i64 0, .sl .mut 2 [], .sl .mut 1 [], .s ⟨#[]⟩, .s ⟨#[]⟩, .s ⟨#[]⟩, .sl .mut 2 []]) := nr rfl
@[go_sem] theorem T33 : T 33 = some .fn := nr rfl
@[go_sem] theorem T34 : T 34 = some (.struct 2 [(0, 1, false, 0), (1, 1, false, 0)] [.i .i64 0, .i .i64 0]) := nr rfl
@[go_sem] theorem T35 : T 35 = some (.struct 2 [(0, 1, false, 0), (1, 1, false, 0)] [.i .i64 0, .i .i64 0]) := nr rfl
@[go_sem] theorem T36 : T 36 = some .fn := nr rfl
@[go_sem] theorem T37 : T 37 = some (.slice 10 160 [.i .i64 0, .i .i64 0, .s ⟨#[]⟩, .i .i64 0, .sl .mut 2 [], .sl .mut 1 [], .s ⟨#[]⟩, .s ⟨#[]⟩, .s ⟨#[]⟩, .sl .mut 2 []]) := nr rfl
@[go_sem] theorem T38 : T 38 = some .fn := nr rfl
@[go_sem] theorem T39 : T 39 = some .fn := nr rfl
@[go_sem] theorem T40 : T 40 = some .fn := nr rfl
@[go_sem] theorem T41 : T 41 = some .fn := nr rfl
@[go_sem] theorem T42 : T 42 = some .fn := nr rfl
@[go_sem] theorem T43 : T 43 = some .fn := nr rfl
@[go_sem] theorem T44 : T 44 = some .fn := nr rfl
@[go_sem] theorem T45 : T 45 = some (.slice 2 16 [.i .i64 0, .b false]) := nr rfl
@[go_sem] theorem T46 : T 46 = some (.struct 4 [(0, 1, false, 0), (1, 1, false, 0), (2, 1, false, 0), (3, 1, false, 2)] [.i .i64 0, .i .i64 0, .i .i64 0, .sl .mut 2 []]) := nr rfl
@[go_sem] theorem T47 : T 47 = some (.struct 4 [(0, 1, false, 0), (1, 1, false, 0), (2, 1, false, 0), (3, 1, false, 2)] [.i .i64 0, .i .i64 0, .i .i64 0, .sl .mut 2 []]) := nr rfl
@[go_sem] theorem T48 : T 48 = some (.struct 5 [(0, 1, false, 0), (1, 1, false, 0), (2, 1, false, 0), (3, 1, false, 0), (4, 1, false, 0)] [.i .i64 0, .i .i64 0, .i .i64 0, .i .i64 0, .i .i64 0]) := nr rfl
@[go_sem] theorem T49 : T 49 = some (.struct 5 [(0, 1, false, 0), (1, 1, false, 0), (2, 1, false, 0), (3, 1, false, 0), (4, 1, false, 0)] [.i .i64 0, .i .i64 0, .i .i64 0, .i .i64 0, .i .i64 0]) := nr rfl
@[go_sem] theorem T50 : T 50 = some .fn := nr rfl
@[go_sem] theorem T51 : T 51 = some (.slice 2 16 [.i .i64 0, .b false]) := nr rfl
@[go_sem] theorem T52 : T 52 = some (.struct 4 [(0, 1, false, 0), (1, 1, false, 0), (2, 1, false, 0), (3, 1, false, 2)] [.i .i64 0, .i .i64 0, .i .i64 0, .sl .mut 2 []]) := nr rfl
@[go_sem] theorem T53 : T 53 = some (.struct 4 [(0, 1, false, 0), (1, 1, false, 0), (2, 1, false, 0), (3, 1, false, 2)] [.i .i64 0, .i .i64 0, .i .i64 0, .sl .mut 2 []]) := nr rfl
@[go_sem] theorem T54 : T 54 = some (.struct 5 [(0, 1, false, 0), (1, 4, true, 0)] [.i .i64 0, .i .i64 0, .i .i64 0, .i .i64 0, .sl .mut 2 []]) := nr rfl
@[go_sem] theorem T55 : T 55 = some (.struct 5 [(0, 1, false, 0), (1, 4, true, 0)] [.i .i64 0, .i .i64 0, .i .i64 0, .i .i64 0, .sl .mut 2 []]) := nr rfl
@[go_sem] theorem T56 : T 56 = some .fn := nr rfl
@[go_sem] theorem T57 : T 57 = some .fn := nr rfl
@[go_sem] theorem T58 : T 58 = some (.struct 5 [(0, 1, false, 0), (1, 1, false, 0), (2, 1, false, 0), (3, 1, false, 0), (4, 1, false, 0)] [.i .i64 0, .i .i64 0, .i .i64 0, .i .i64 0, .i .i64 0]) := nr rfl
@[go_sem] theorem T59 : T 59 = some .fn := nr rfl
@[go_sem] theorem T60 : T 60 = some .fn := nr rfl
@[go_sem] theorem T61 : T 61 = some .fn := nr rfl
@[go_sem] theorem T62 : T 62 = some .fn := nr rfl
@[go_sem] theorem T63 : T 63 = some .fn := nr rfl
@[go_sem] theorem T64 : T 64 = some .fn := nr rfl
@[go_sem] theorem T65 : T 65 = some .fn := nr rfl
@[go_sem] theorem T66 : T 66 = some .fn := nr rfl
@[go_sem] theorem T67 : T 67 = some (.struct 2 [(0, 1, false, 0), (1, 1, false, 0)] [.s ⟨#[]⟩, .s ⟨#[]⟩]) := nr rfl
@[go_sem] theorem T68 : T 68 = some (.struct 2 [(0, 1, false, 0), (1, 1, false, 0)] [.s ⟨#[]⟩, .s ⟨#[]⟩]) := nr rfl
@[go_sem] theorem T69 : T 69 = some .fn := nr rfl
@[go_sem] theorem T70 : T 70 = some .fn := nr rfl
@[go_sem] theorem T71 : T 71 = some .fn := nr rfl
@[go_sem] theorem T72 : T 72 = some (.slice 2 32 [.s ⟨#[]⟩, .s ⟨#[]⟩]) := nr rfl
@[go_sem] theorem T73 : T 73 = some (.struct 3 [(0, 1, false, 0), (1, 1, false, 2), (2, 1, false, 1)] [.i .i64 0, .sl .mut 2 [], .sl .mut 1 []]) := nr rfl
@[go_sem] theorem T74 : T 74 = some (.struct 3 [(0, 1, false, 0), (1, 1, false, 2), (2, 1, false, 1)] [.i .i64 0, .sl .mut 2 [], .sl .mut 1 []]) := nr rfl
@[go_sem] theorem T75 : T 75 = some (.struct 4 [(0, 1, false, 0), (1, 1, false, 0), (2, 1, false, 0), (3, 1, false, 2)] [.s ⟨#[]⟩, .s ⟨#[]⟩, .s ⟨#[]⟩, .sl .mut 2 []]) := nr rfl
@[go_sem] theorem T76 : T 76 = some (.struct 4 [(0, 1, false, 0), (1, 1, false, 0), (2, 1, false, 0), (3, 1, false, 2)] [.s ⟨#[]⟩, .s ⟨#[]⟩, .s ⟨#[]⟩, .sl .mut 2 []]) := nr rfl
@[go_sem] theorem T77 : T 77 = some (.struct 10 [(0, 1, false, 0), (1, 1, false, 0), (2, 1, false, 0), (3, 3, true, 0), (6, 4, true, 0)] [.i .i64 0, .i .i64 0, .s ⟨#[]⟩, .i .i64 0, .sl .mut 2 [], .sl .mut 1 [], .s ⟨#[]⟩, .s ⟨#[]⟩, .s ⟨#[]⟩, .sl .mut 2 []]) := nr rfl
@[go_sem] theorem T78 : T 78 = some (.struct 10 [(0, 1, false, 0), (1, 1, false, 0), (2, 1, false, 0), (3, 3, true, 0), (6, 4, true, 0)] [.i .i64 0, .i .i64 0, .s ⟨#[]⟩, .i .i64 0, .sl .mut 2 [], .sl .mut 1 [], .s ⟨#[]⟩, .s ⟨#[]⟩, .s ⟨#[]⟩, .sl .mut 2 []]) := nr rfl
@[go_sem] theorem T79 : T 79 = some (.struct 4 [(0, 1, false, 0), (1, 1, false, 0), (2, 1, false, 0), (3, 1, false, 2)] [.s ⟨#[]⟩, .s ⟨#[]⟩, .s ⟨#[]⟩, .sl .mut 2 []]) := nr rfl
@[go_sem] theorem T80 : T 80 = some (.struct 4 [(0, 1, false, 0), (1, 1, false, 0), (2, 1, false, 0), (3, 1, false, 2)] [.s ⟨#[]⟩, .s ⟨#[]⟩, .s ⟨#[]⟩, .sl .mut 2 []]) := nr rfl
@[go_sem] theorem T81 : T 81 = some (.struct 10 [(0, 1, false, 0), (1, 1, false, 0), (2, 1, false, 0), (3, 3, true, 0), (6, 4, true, 0)] [.i .i64 0, .i .i64 0, .s ⟨#[]⟩, .i .i64 0, .sl .mut 2 [], .sl .mut 1 [], .s ⟨#[]⟩, .s ⟨#[]⟩, .s ⟨#[]⟩, .sl .mut 2 []]) := nr rfl
@[go_sem] theorem T82 : T 82 = some (.struct 10 [(0, 1, false, 0), (1, 1, false, 0), (2, 1, false, 0), (3, 3, true, 0), (6, 4, true, 0)] [.i .i64 0, .i .i64 0, .s ⟨#[]⟩, .i .i64 0, .sl .mut 2 [], .sl .mut 1 [], .s ⟨#[]⟩, .s ⟨#[]⟩, .s ⟨#[]⟩, .sl .mut 2 []]) := nr rfl
@[go_sem] theorem T83 : T 83 = some .fn := nr rfl
@[go_sem] theorem T84 : T 84 = some .fn := nr rfl
@[go_sem] theorem T85 : T 85 = some .fn := nr rfl
@[go_sem] theorem T86 : T 86 = some .fn := nr rfl
@[go_sem] theorem T87 : T 87 = some (.slice 1 16 [.s ⟨#[]⟩]) := nr rfl
@[go_sem] theorem T88 : T 88 = some .fn := nr rfl
@[go_sem] theorem T89 : T 89 = some .fn := nr rfl
@[go_sem] theorem T90 : T 90 = some .fn := nr rfl
@[go_sem] theorem T91 : T 91 = some .fn := nr rfl
@[go_sem] theorem T92 : T 92 = some .fn := nr rfl
@[go_sem] theorem T93 : T 93 = some .ptr := nr rfl
@[go_sem] theorem T94 : T 94 = some .ptr := nr rfl
@[go_sem] theorem T95 : T 95 = some .fn := nr rfl
@[go_sem] theorem T96 : T 96 = some .fn := nr rfl
@[go_sem] theorem T97 : T 97 = some .fn := nr rfl
@[go_sem] theorem T98 : T 98 = some .fn := nr rfl
@[go_sem] theorem T99 : T 99 = some .fn := nr rfl
@[go_sem] theorem T100 : T 100 = some .fn := nr rfl
@[go_sem] theorem T101 : T 101 = some .fn := nr rfl
@[go_sem] theorem T102 : T 102 = some .fn := nr rfl
@[go_sem] theorem T103 : T 103 = some .fn := nr rfl
@[go_sem] theorem T104 : T 104 = some .fn := nr rfl
@[go_sem] theorem T105 : T 105 = some .fn := nr rfl
@[go_sem] theorem T106 : T 106 = some .fn := nr rfl
@[go_sem] theorem T107 : T 107 = some .fn := nr rfl
@[go_sem] theorem T108 : T 108 = some .fn := nr rfl
@[go_sem] theorem T109 : T 109 = some .fn := nr rfl
@[go_sem] theorem T110 : T 110 = some .fn := nr rfl
@[go_sem] theorem T112 : T 112 = some .fn := nr rfl
@[go_sem] theorem T113 : T 113 = some .fn := nr rfl
@[go_sem] theorem T114 : T 114 = some .fn := nr rfl
@[go_sem] theorem T115 : T 115 = some .fn := nr rfl
@[go_sem] theorem T116 : T 116 = some (.struct 2 [(0, 1, false, 0), (1, 1, false, 0)] [.i .i64 0, .b false]) := nr rfl
@[go_sem] theorem T117 : T 117 = some (.struct 2 [(0, 1, false, 0), (1, 1, false, 0)] [.i .i64 0, .b false]) := nr rfl
@[go_sem] theorem T118 : T 118 = some .fn := nr rfl
@[go_sem] theorem T119 : T 119 = some .fn := nr rfl
@[go_sem] theorem T120 : T 120 = some .fn := nr rfl
@[go_sem] theorem T121 : T 121 = some (.struct 2 [(0, 1, false, 0), (1, 1, false, 0)] [.i .i64 0, .b false]) := nr rfl
@[go_sem] theorem T122 : T 122 = some .fn := nr rfl
@[go_sem] theorem T123 : T 123 = some .fn := nr rfl
@[go_sem] theorem T124 : T 124 = some .fn := nr rfl
@[go_sem] theorem T125 : T 125 = some .fn := nr rfl
@[go_sem] theorem T126 : T 126 = some .fn := nr rfl
@[go_sem] theorem T127 : T 127 = some .fn := nr rfl
@[go_sem] theorem T128 : T 128 = some .fn := nr rfl
@[go_sem] theorem T129 : T 129 = some .fn := nr rfl
@[go_sem] theorem T130 : T 130 = some .fn := nr rfl
@[go_sem] theorem T131 : T 131 = some .fn := nr rfl
@[go_sem] theorem T132 : T 132 = some (.slice 1 8 [.u]) := nr rfl
@[go_sem] theorem T133 : T 133 = some .fn := nr rfl
@[go_sem] theorem T134 : T 134 = some .fn := nr rfl
@[go_sem] theorem T135 : T 135 = some .fn := nr rfl
@[go_sem] theorem T136 : T 136 = some .fn := nr rfl
@[go_sem] theorem T137 : T 137 = some (.struct 2 [(0, 1, false, 0), (1, 1, false, 0)] [.s ⟨#[]⟩, .s ⟨#[]⟩]) := nr rfl
@[go_sem] theorem T138 : T 138 = some .fn := nr rfl
@[go_sem] theorem T145 : T 145 = some .fn := nr rfl
@[go_sem] theorem T146 : T 146 = some (.int .u32) := nr rfl
@[go_sem] theorem T150 : T 150 = some .ptr := nr rfl
theorem cxOk (cx : Cx) (h : cx.T = T) : CxOk Try.prog cx := by
  intro t ti ht
  rw [h] at ht
  unfold T at ht
  split at ht <;> first | cases ht; done | (injection ht with ht; subst ht; exact tiOk_s (by kernel_rfl))
theorem wide : Try.prog.follows .mixedOrders = true := by kernel_rfl
end Go.Vm.A
set_option autoImplicit false
set_option maxRecDepth 100000
set_option maxHeartbeats 4000000
set_option linter.unusedVariables false
set_option linter.unusedSimpArgs false
namespace Go.Vm.A
open Go.Proofs
attribute [local go_sem] Nat.add_zero Nat.zero_add List.contains_cons List.contains_nil List.elem_cons List.elem_nil List.length_cons List.length_nil List.map_cons List.map_nil List.all_cons List.all_nil List.any_cons List.any_nil List.getElem?_cons_zero List.getElem?_cons_succ List.getElem?_nil List.getD_cons_zero List.getD_cons_succ List.append_nil List.nil_append List.cons_append List.isEmpty_cons List.isEmpty_nil List.headD_cons List.headD_nil List.tail_cons List.tail_nil List.take_nil List.drop_nil Bool.and_true Bool.true_and Bool.or_false Bool.or_true Bool.false_or Bool.true_or Bool.not_true Bool.not_false Bool.and_false Bool.false_and Bool.false_eq_true Bool.true_eq_false Bool.and_self Bool.not_not decide_true decide_false decide_eq_true_eq beq_self_eq_true Nat.le_refl Nat.zero_le and_self true_and and_true false_and and_false or_true true_or if_true if_false Option.map_some Option.map_none Option.isSome_none Option.isSome_some eq_self_iff_true not_true_eq_false not_false_eq_true ne_eq Nat.not_lt_zero Nat.succ_ne_zero List.length_map List.set_cons_zero List.set_cons_succ gt_iff_lt ge_iff_le List.take_succ_cons List.take_zero List.drop_zero List.drop_succ_cons bne_self_eq_false

noncomputable def cx108 (n : Nat) : Cx := { T := T, fns := (fun _ => none), cuts := (fun _ => []), vars := some ([0, 1, 2, 4, 11, 18], [2]), live := fun _ => none, al := [], rounds := n, plan := fun _ => none, fz := [] }
@[go_sem] theorem cx108_z (n : Nat) : (cx108 n).fz = [] := nr rfl
@[go_sem] theorem cx108_T (n : Nat) : (cx108 n).T = T := nr rfl
@[go_sem] theorem cx108_f (n : Nat) : (cx108 n).fns = (fun _ => none) := nr rfl
@[go_sem] theorem cx108_c (n k : Nat) : (cx108 n).cuts k = ((fun _ => [])) k := nr rfl
@[go_sem] theorem cx108_v (n : Nat) : (cx108 n).vars = some ([0, 1, 2, 4, 11, 18], [2]) := nr rfl
@[go_sem] theorem cx108_l (n k : Nat) : (cx108 n).live k = (fun _ => none) k := nr rfl
@[go_sem] theorem cx108_a (n : Nat) : (cx108 n).al = [] := nr rfl
@[go_sem] theorem cx108_p (n k : Nat) : (cx108 n).plan k = (fun _ => none) k := nr rfl
@[go_sem] theorem cx108_r (n : Nat) : (cx108 n).rounds = n := nr rfl
noncomputable def F108 : List AV → Option (AV × List AV) := FSof (σ := Header × Int) (fun _ => True) (fun s => [.agg (rHeader .ro s.1), .i .i64 s.2]) (fun s => (.i .i64 (szHeader s.1 s.2), [.u, .u]))
@[go_sem] theorem F108_eq (xName : ByteArray) (xValue : ByteArray) (l : Int) : F108 [.agg [.s xName, .s xValue], .i .i64 l] = some (.i .i64 (szHeader (Header.mk xName xValue) l), [.u, .u]) :=
  FSof_eq (fun s s' h => Prod.ext (rHeader_inj (by simpa using (List.cons.inj h).1)) (by simpa using (List.cons.inj h).2)) ((Header.mk xName xValue), l) trivial
theorem ev108 (n : Nat) (a : Header) (l : Int) : evalFn (cx108 n) [.ro 1, .ro 1] Try.f108 [.agg (rHeader .ro a), .i .i64 l] = some (.i .i64 (szHeader a l), [.u, .u]) := by
  rw [evalFn_eq _ _ Try.f108 _ _ _ rfl rfl]
  simp only [go_sem, reduceIte, ↓reduceIte, Nat.reduceAdd, Nat.reduceSub, Nat.reduceMul, Nat.reduceBEq, Nat.reduceEqDiff, Nat.reduceLeDiff, Nat.reduceLT, Nat.reduceBneDiff, reduceCtorEq, Int.reduceLE, Int.reduceLT, Int.reduceEq, Int.reduceAdd, Int.reduceMul, Int.reduceSub, Int.reduceNeg, Int.reduceBEq, Int.reduceBNe, Int.reduceToNat]
  simp only [szHeader, szs, szn, if_i, decide_eq_true_eq]
theorem spec108 : VSpec Try.prog 108 ⟨[.ro 1, .ro 1], F108, false⟩ :=
  spec_ro' (cx := cx108 0) (f := Try.f108) _ _ _ wide (cxOk _ rfl) (fun g fs h => by cases h) Try.func108 (by decide) rfl (by kernel_rfl) (by decide) (by decide)
    (fun s _ _ => ⟨0, ev108 0 s.1 s.2⟩)
    (fun _ _ => rfl) (fun _ => rfl)
noncomputable def fns98 : Nat → Option FS
  | 108 => some ⟨[.ro 1, .ro 1], F108, false⟩
  | _ => none
@[go_sem] theorem fns98_108 : fns98 108 = some ⟨[.ro 1, .ro 1], F108, false⟩ := nr rfl
theorem fns98_ok : ∀ g fs, fns98 g = some fs → VSpec Try.prog g fs := by
  intro g fs h
  unfold fns98 at h
  split at h
  · injection h with h; subst h; exact spec108
  · cases h
noncomputable def cx98 (n : Nat) : Cx := { T := T, fns := fns98, cuts := (fun _ => []), vars := some ([0, 1, 4, 5, 11, 15, 25], []), live := fun _ => some ([0, 1, 4, 5], []), al := [], rounds := n, plan := fun _ => none, fz := [] }
@[go_sem] theorem cx98_z (n : Nat) : (cx98 n).fz = [] := nr rfl
@[go_sem] theorem cx98_T (n : Nat) : (cx98 n).T = T := nr rfl
@[go_sem] theorem cx98_f (n : Nat) : (cx98 n).fns = fns98 := nr rfl
@[go_sem] theorem cx98_c (n k : Nat) : (cx98 n).cuts k = ((fun _ => [])) k := nr rfl
@[go_sem] theorem cx98_v (n : Nat) : (cx98 n).vars = some ([0, 1, 4, 5, 11, 15, 25], []) := nr rfl
@[go_sem] theorem cx98_l (n k : Nat) : (cx98 n).live k = (fun _ => some ([0, 1, 4, 5], [])) k := nr rfl
@[go_sem] theorem cx98_a (n : Nat) : (cx98 n).al = [] := nr rfl
@[go_sem] theorem cx98_p (n k : Nat) : (cx98 n).plan k = (fun _ => none) k := nr rfl
@[go_sem] theorem cx98_r (n : Nat) : (cx98 n).rounds = n := nr rfl
def st98 (v0 v1 v4 v5 v11 v15 v25 : AV) : St := ⟨E [(0, v0), (1, v1), (4, v4), (5, v5), (11, v11), (15, v15), (25, v25)], B []⟩
@[go_sem] theorem st98_def (v0 v1 v4 v5 v11 v15 v25 : AV) : st98 v0 v1 v4 v5 v11 v15 v25 = ⟨E [(0, v0), (1, v1), (4, v4), (5, v5), (11, v11), (15, v15), (25, v25)], B []⟩ := nr rfl
noncomputable def F98 : List AV → Option (AV × List AV) := FSof (σ := List Header × Int) (fun _ => True) (fun s => [.sl .ro 2 (s.1.map (rHeader .ro)), .i .i64 s.2]) (fun s => (.i .i64 (szL szHeader s.1 s.2), [.u, .u]))
@[go_sem] theorem F98_eq (xs : List Header) (l : Int) : F98 [.sl .ro 2 (xs.map (rHeader .ro)), .i .i64 l] = some (.i .i64 (szL szHeader xs l), [.u, .u]) :=
  FSof_eq (fun s s' h => Prod.ext ((rHeader_mi _ _ _).1 (by simpa using (List.cons.inj h).1)) (by simpa using (List.cons.inj h).2)) (xs, l) trivial
theorem rd98 (N : Nat) (xs : List Header) (k : Nat) (hk : k < xs.length) (hb : xs.length ≤ 9223372036854775807) (l : Int) : ∃ j11 j15 j25 i11 i15 i25, ∀ G, seqE (evCode (cx98 N) 0 (loopN Try.f98 0) ⟨E [(0, .sl .ro 2 (xs.map (rHeader .ro))), (1, .i .i64 l), (4, .i .i64 0), (5, .i .i64 k)], B []⟩) G =
    if szHeader xs[k] l < 0 then some (.ret, st98 (.sl .ro 2 (xs.map (rHeader .ro))) (.i .i64 (szHeader xs[k] l)) (.i .i64 (-1)) (.i .i64 k) j11 j15 j25) else G (st98 (.sl .ro 2 (xs.map (rHeader .ro))) (.i .i64 (szHeader xs[k] l)) (.i .i64 0) (.i .i64 ((k + 1 : Nat) : Int)) i11 i15 i25) := by
  have h1 : ((k : Int) < (xs.length : Int)) := Int.ofNat_lt.2 hk
  rw [loopN_eq Try.f98 0 _ _ rfl rfl]
  simp only [go_sem, reduceIte, ↓reduceIte, Nat.reduceAdd, Nat.reduceSub, Nat.reduceMul, Nat.reduceBEq, Nat.reduceEqDiff, Nat.reduceLeDiff, Nat.reduceLT, Nat.reduceBneDiff, reduceCtorEq, Int.reduceLE, Int.reduceLT, Int.reduceEq, Int.reduceAdd, Int.reduceMul, Int.reduceSub, Int.reduceNeg, Int.reduceBEq, Int.reduceBNe, Int.reduceToNat, h1, idx_nt _ _ hk, map_gd (rHeader .ro) xs k hk, wrap_nat1 (show k < 9223372036854775807 by omega)]
  exact ⟨_, _, _, _, _, _, fun G => rfl⟩
theorem en98 (N : Nat) (xs : List Header) (l : Int) : ∃ j11 j15 j25, ∀ G, seqE (evCode (cx98 N) 0 (loopN Try.f98 0) ⟨E [(0, .sl .ro 2 (xs.map (rHeader .ro))), (1, .i .i64 l), (4, .i .i64 0), (5, .i .i64 xs.length)], B []⟩) G = some (.ex 0, st98 (.sl .ro 2 (xs.map (rHeader .ro))) (.i .i64 l) (.i .i64 0) (.i .i64 xs.length) j11 j15 j25) := by
  rw [loopN_eq Try.f98 0 _ _ rfl rfl]
  simp only [go_sem, reduceIte, ↓reduceIte, Nat.reduceAdd, Nat.reduceSub, Nat.reduceMul, Nat.reduceBEq, Nat.reduceEqDiff, Nat.reduceLeDiff, Nat.reduceLT, Nat.reduceBneDiff, reduceCtorEq, Int.reduceLE, Int.reduceLT, Int.reduceEq, Int.reduceAdd, Int.reduceMul, Int.reduceSub, Int.reduceNeg, Int.reduceBEq, Int.reduceBNe, Int.reduceToNat, Int.lt_irrefl]
  exact ⟨_, _, _, fun G => rfl⟩
theorem lp98 (N : Nat) (xs : List Header) (l : Int) (hb : xs.length ≤ 9223372036854775807) (hN : xs.length + 1 ≤ N) : ∃ r, (∀ st, keep ((cx98 N).live 0) st = ⟨E [(0, .sl .ro 2 (xs.map (rHeader .ro))), (1, .i .i64 l), (4, .i .i64 0), (5, .i .i64 (0 : Nat))], B []⟩ → loopE (cx98 N) 0 (loopN Try.f98 0) N st = r) ∧
    ((∃ l' j11 j15 j25, szO szHeader xs l = some l' ∧ r = some (.ex 0, st98 (.sl .ro 2 (xs.map (rHeader .ro))) (.i .i64 l') (.i .i64 0) (.i .i64 xs.length) j11 j15 j25)) ∨ (∃ a b j11 j15 j25, szO szHeader xs l = none ∧ r = some (.ret, st98 (.sl .ro 2 (xs.map (rHeader .ro))) (a) (.i .i64 (-1)) (b) j11 j15 j25))) := by
  obtain ⟨r, h1, h2⟩ := loop_ix (cx := cx98 N) (blk := 0) (body := loopN Try.f98 0) xs.length (fun k (l : Int) => ⟨E [(0, .sl .ro 2 (xs.map (rHeader .ro))), (1, .i .i64 l), (4, .i .i64 0), (5, .i .i64 k)], B []⟩)
    (fun k l r => (∃ l' j11 j15 j25, szO szHeader (xs.drop k) l = some l' ∧ r = some (.ex 0, st98 (.sl .ro 2 (xs.map (rHeader .ro))) (.i .i64 l') (.i .i64 0) (.i .i64 xs.length) j11 j15 j25)) ∨ (∃ a b j11 j15 j25, szO szHeader (xs.drop k) l = none ∧ r = some (.ret, st98 (.sl .ro 2 (xs.map (rHeader .ro))) (a) (.i .i64 (-1)) (b) j11 j15 j25)))
    (fun l G => by
      obtain ⟨j11, j15, j25, he⟩ := en98 N xs l
      exact .inl ⟨l, j11, j15, j25, by rw [List.drop_length]; rfl, he G⟩)
    (fun k hk l => by
      obtain ⟨j11, j15, j25, i11, i15, i25, he⟩ := rd98 N xs k hk hb l
      by_cases hc : szHeader xs[k] l < 0
      · exact .inl fun G => .inr ⟨_, _, j11, j15, j25, by rw [List.drop_eq_getElem_cons hk]; simp only [szO, if_pos hc], (he G).trans (if_pos hc)⟩
      · refine .inr ⟨_, szHeader xs[k] l, ?_, fun r hr => ?_, fun G => (he G).trans (if_neg hc)⟩
        · simp only [go_sem, reduceIte, ↓reduceIte, Nat.reduceAdd, Nat.reduceSub, Nat.reduceMul, Nat.reduceBEq, Nat.reduceEqDiff, Nat.reduceLeDiff, Nat.reduceLT, Nat.reduceBneDiff, reduceCtorEq, Int.reduceLE, Int.reduceLT, Int.reduceEq, Int.reduceAdd, Int.reduceMul, Int.reduceSub, Int.reduceNeg, Int.reduceBEq, Int.reduceBNe, Int.reduceToNat]
        · rw [List.drop_eq_getElem_cons hk]; simpa only [szO, if_neg hc] using hr) N hN l
  exact ⟨r, h1, h2⟩
theorem ev98 (n : Nat) (xs : List Header) (l : Int) (hb : xs.length ≤ 9223372036854775807) (hN : xs.length + 1 ≤ n) : evalFn (cx98 n) [.ro 1, .ro 1] Try.f98 [.sl .ro 2 (xs.map (rHeader .ro)), .i .i64 l] = some (.i .i64 (szL szHeader xs l), [.u, .u]) := by
  rw [evalFn_eq _ _ Try.f98 _ _ _ rfl rfl]
  simp only [go_sem, reduceIte, ↓reduceIte, Nat.reduceAdd, Nat.reduceSub, Nat.reduceMul, Nat.reduceBEq, Nat.reduceEqDiff, Nat.reduceLeDiff, Nat.reduceLT, Nat.reduceBneDiff, reduceCtorEq, Int.reduceLE, Int.reduceLT, Int.reduceEq, Int.reduceAdd, Int.reduceMul, Int.reduceSub, Int.reduceNeg, Int.reduceBEq, Int.reduceBNe, Int.reduceToNat]
  unfold szL szs
  by_cases hc : (IntKind.i64).wrap (l - (xs.length : Int)) < 0
  · rw [if_pos hc, if_pos hc]
  · rw [if_neg hc, if_neg hc]
    obtain ⟨r, h1, h2⟩ := lp98 n xs ((IntKind.i64).wrap (l - (xs.length : Int))) hb hN
    rw [loopN_eq Try.f98 0 _ _ rfl rfl] at h1
    rw [h1]
    · rcases h2 with ⟨l', j11, j15, j25, e1, rfl⟩ | ⟨a, b, j11, j15, j25, e1, rfl⟩
      · simp only [go_sem, reduceIte, ↓reduceIte, Nat.reduceAdd, Nat.reduceSub, Nat.reduceMul, Nat.reduceBEq, Nat.reduceEqDiff, Nat.reduceLeDiff, Nat.reduceLT, Nat.reduceBneDiff, reduceCtorEq, Int.reduceLE, Int.reduceLT, Int.reduceEq, Int.reduceAdd, Int.reduceMul, Int.reduceSub, Int.reduceNeg, Int.reduceBEq, Int.reduceBNe, Int.reduceToNat, e1, Option.getD_some]
      · simp only [go_sem, reduceIte, ↓reduceIte, Nat.reduceAdd, Nat.reduceSub, Nat.reduceMul, Nat.reduceBEq, Nat.reduceEqDiff, Nat.reduceLeDiff, Nat.reduceLT, Nat.reduceBneDiff, reduceCtorEq, Int.reduceLE, Int.reduceLT, Int.reduceEq, Int.reduceAdd, Int.reduceMul, Int.reduceSub, Int.reduceNeg, Int.reduceBEq, Int.reduceBNe, Int.reduceToNat, e1, Option.getD_none]
    · simp only [go_sem, reduceIte, ↓reduceIte, Nat.reduceAdd, Nat.reduceSub, Nat.reduceMul, Nat.reduceBEq, Nat.reduceEqDiff, Nat.reduceLeDiff, Nat.reduceLT, Nat.reduceBneDiff, reduceCtorEq, Int.reduceLE, Int.reduceLT, Int.reduceEq, Int.reduceAdd, Int.reduceMul, Int.reduceSub, Int.reduceNeg, Int.reduceBEq, Int.reduceBNe, Int.reduceToNat]
      rfl
theorem spec98 : VSpec Try.prog 98 ⟨[.ro 1, .ro 1], F98, false⟩ :=
  spec_ro' (cx := cx98 0) (f := Try.f98) _ _ _ wide (cxOk _ rfl) fns98_ok Try.func98 (by decide) rfl (by kernel_rfl) (by decide) (by decide)
    (fun s _ hl => ⟨s.1.length + 1, ev98 _ s.1 s.2 (by simpa using hl.1.1) (Nat.le_refl _)⟩)
    (fun _ _ => rfl) (fun _ => rfl)
noncomputable def cx99 (n : Nat) : Cx := { T := T, fns := (fun _ => none), cuts := (fun _ => []), vars := some ([0, 1, 4, 10], []), live := fun _ => none, al := [], rounds := n, plan := fun _ => none, fz := [] }
@[go_sem] theorem cx99_z (n : Nat) : (cx99 n).fz = [] := nr rfl
@[go_sem] theorem cx99_T (n : Nat) : (cx99 n).T = T := nr rfl
@[go_sem] theorem cx99_f (n : Nat) : (cx99 n).fns = (fun _ => none) := nr rfl
@[go_sem] theorem cx99_c (n k : Nat) : (cx99 n).cuts k = ((fun _ => [])) k := nr rfl
@[go_sem] theorem cx99_v (n : Nat) : (cx99 n).vars = some ([0, 1, 4, 10], []) := nr rfl
@[go_sem] theorem cx99_l (n k : Nat) : (cx99 n).live k = (fun _ => none) k := nr rfl
@[go_sem] theorem cx99_a (n : Nat) : (cx99 n).al = [] := nr rfl
@[go_sem] theorem cx99_p (n k : Nat) : (cx99 n).plan k = (fun _ => none) k := nr rfl
@[go_sem] theorem cx99_r (n : Nat) : (cx99 n).rounds = n := nr rfl
noncomputable def F99 : List AV → Option (AV × List AV) := FSof (σ := List UInt8 × Int) (fun _ => True) (fun s => [.sl .ro 1 (s.1.map rByte), .i .i64 s.2]) (fun s => (.i .i64 (let xs := s.1; let l := s.2; szByteS xs l), [.u, .u]))
@[go_sem] theorem F99_eq (xs : List UInt8) (l : Int) : F99 [.sl .ro 1 (xs.map rByte), .i .i64 l] = some (.i .i64 (szByteS xs l), [.u, .u]) :=
  FSof_eq (fun s s' h => Prod.ext ((rByte_mi _ _).1 (by simpa using (List.cons.inj h).1)) (by simpa using (List.cons.inj h).2)) (xs, l) trivial
theorem ev99 (n : Nat) (xs : List UInt8) (l : Int) : evalFn (cx99 n) [.ro 1, .ro 1] Try.f99 [.sl .ro 1 (xs.map rByte), .i .i64 l] = some (.i .i64 (szByteS xs l), [.u, .u]) := by
  rw [evalFn_eq _ _ Try.f99 _ _ _ rfl rfl]
  simp only [go_sem, reduceIte, ↓reduceIte, Nat.reduceAdd, Nat.reduceSub, Nat.reduceMul, Nat.reduceBEq, Nat.reduceEqDiff, Nat.reduceLeDiff, Nat.reduceLT, Nat.reduceBneDiff, reduceCtorEq, Int.reduceLE, Int.reduceLT, Int.reduceEq, Int.reduceAdd, Int.reduceMul, Int.reduceSub, Int.reduceNeg, Int.reduceBEq, Int.reduceBNe, Int.reduceToNat]
  simp only [szByteS, szs, szn, if_i, decide_eq_true_eq]
theorem spec99 : VSpec Try.prog 99 ⟨[.ro 1, .ro 1], F99, false⟩ :=
  spec_ro' (cx := cx99 0) (f := Try.f99) _ _ _ wide (cxOk _ rfl) (fun g fs h => by cases h) Try.func99 (by decide) rfl (by kernel_rfl) (by decide) (by decide)
    (fun s _ _ => ⟨0, ev99 0 s.1 s.2⟩)
    (fun _ _ => rfl) (fun _ => rfl)
noncomputable def fns69 : Nat → Option FS
  | 98 => some ⟨[.ro 1, .ro 1], F98, false⟩
  | 99 => some ⟨[.ro 1, .ro 1], F99, false⟩
  | _ => none
@[go_sem] theorem fns69_98 : fns69 98 = some ⟨[.ro 1, .ro 1], F98, false⟩ := nr rfl
@[go_sem] theorem fns69_99 : fns69 99 = some ⟨[.ro 1, .ro 1], F99, false⟩ := nr rfl
theorem fns69_ok : ∀ g fs, fns69 g = some fs → VSpec Try.prog g fs := by
  intro g fs h
  unfold fns69 at h
  split at h
  · injection h with h; subst h; exact spec98
  · injection h with h; subst h; exact spec99
  · cases h
noncomputable def cx69 (n : Nat) : Cx := { T := T, fns := fns69, cuts := (fun _ => []), vars := some ([0, 1, 2, 4, 10, 16], [2]), live := fun _ => none, al := [], rounds := n, plan := fun _ => none, fz := [] }
@[go_sem] theorem cx69_z (n : Nat) : (cx69 n).fz = [] := nr rfl
@[go_sem] theorem cx69_T (n : Nat) : (cx69 n).T = T := nr rfl
@[go_sem] theorem cx69_f (n : Nat) : (cx69 n).fns = fns69 := nr rfl
@[go_sem] theorem cx69_c (n k : Nat) : (cx69 n).cuts k = ((fun _ => [])) k := nr rfl
@[go_sem] theorem cx69_v (n : Nat) : (cx69 n).vars = some ([0, 1, 2, 4, 10, 16], [2]) := nr rfl
@[go_sem] theorem cx69_l (n k : Nat) : (cx69 n).live k = (fun _ => none) k := nr rfl
@[go_sem] theorem cx69_a (n : Nat) : (cx69 n).al = [] := nr rfl
@[go_sem] theorem cx69_p (n k : Nat) : (cx69 n).plan k = (fun _ => none) k := nr rfl
@[go_sem] theorem cx69_r (n : Nat) : (cx69 n).rounds = n := nr rfl
noncomputable def F69 : List AV → Option (AV × List AV) := FSof (σ := Response × Int) (fun _ => True) (fun s => [.agg (rResponse .ro s.1), .i .i64 s.2]) (fun s => (.i .i64 (szResponse s.1 s.2), [.u, .u]))
@[go_sem] theorem F69_eq (xStatus : Int) (xHeaders : List Header) (xBody : List UInt8) (l : Int) : F69 [.agg [.i .i64 xStatus, .sl .ro 2 (xHeaders.map (rHeader .ro)), .sl .ro 1 (xBody.map rByte)], .i .i64 l] = some (.i .i64 (szResponse (Response.mk xStatus xHeaders xBody) l), [.u, .u]) :=
  FSof_eq (fun s s' h => Prod.ext (rResponse_inj (by simpa using (List.cons.inj h).1)) (by simpa using (List.cons.inj h).2)) ((Response.mk xStatus xHeaders xBody), l) trivial
theorem ev69 (n : Nat) (a : Response) (l : Int) : evalFn (cx69 n) [.ro 1, .ro 1] Try.f69 [.agg (rResponse .ro a), .i .i64 l] = some (.i .i64 (szResponse a l), [.u, .u]) := by
  rw [evalFn_eq _ _ Try.f69 _ _ _ rfl rfl]
  simp only [go_sem, reduceIte, ↓reduceIte, Nat.reduceAdd, Nat.reduceSub, Nat.reduceMul, Nat.reduceBEq, Nat.reduceEqDiff, Nat.reduceLeDiff, Nat.reduceLT, Nat.reduceBneDiff, reduceCtorEq, Int.reduceLE, Int.reduceLT, Int.reduceEq, Int.reduceAdd, Int.reduceMul, Int.reduceSub, Int.reduceNeg, Int.reduceBEq, Int.reduceBNe, Int.reduceToNat]
  simp only [szResponse, szs, szn, if_i, decide_eq_true_eq]
theorem spec69 : VSpec Try.prog 69 ⟨[.ro 1, .ro 1], F69, false⟩ :=
  spec_ro' (cx := cx69 0) (f := Try.f69) _ _ _ wide (cxOk _ rfl) fns69_ok Try.func69 (by decide) rfl (by kernel_rfl) (by decide) (by decide)
    (fun s _ _ => ⟨0, ev69 0 s.1 s.2⟩)
    (fun _ _ => rfl) (fun _ => rfl)
noncomputable def fns70 : Nat → Option FS
  | 98 => some ⟨[.ro 1, .ro 1], F98, false⟩
  | _ => none
@[go_sem] theorem fns70_98 : fns70 98 = some ⟨[.ro 1, .ro 1], F98, false⟩ := nr rfl
theorem fns70_ok : ∀ g fs, fns70 g = some fs → VSpec Try.prog g fs := by
  intro g fs h
  unfold fns70 at h
  split at h
  · injection h with h; subst h; exact spec98
  · cases h
noncomputable def cx70 (n : Nat) : Cx := { T := T, fns := fns70, cuts := (fun _ => []), vars := some ([0, 1, 2, 4, 11, 18, 25, 31], [2]), live := fun _ => none, al := [], rounds := n, plan := fun _ => none, fz := [] }
@[go_sem] theorem cx70_z (n : Nat) : (cx70 n).fz = [] := nr rfl
@[go_sem] theorem cx70_T (n : Nat) : (cx70 n).T = T := nr rfl
@[go_sem] theorem cx70_f (n : Nat) : (cx70 n).fns = fns70 := nr rfl
@[go_sem] theorem cx70_c (n k : Nat) : (cx70 n).cuts k = ((fun _ => [])) k := nr rfl
@[go_sem] theorem cx70_v (n : Nat) : (cx70 n).vars = some ([0, 1, 2, 4, 11, 18, 25, 31], [2]) := nr rfl
@[go_sem] theorem cx70_l (n k : Nat) : (cx70 n).live k = (fun _ => none) k := nr rfl
@[go_sem] theorem cx70_a (n : Nat) : (cx70 n).al = [] := nr rfl
@[go_sem] theorem cx70_p (n k : Nat) : (cx70 n).plan k = (fun _ => none) k := nr rfl
@[go_sem] theorem cx70_r (n : Nat) : (cx70 n).rounds = n := nr rfl
noncomputable def F70 : List AV → Option (AV × List AV) := FSof (σ := Request × Int) (fun _ => True) (fun s => [.agg (rRequest .ro s.1), .i .i64 s.2]) (fun s => (.i .i64 (szRequest s.1 s.2), [.u, .u]))
@[go_sem] theorem F70_eq (xMethod : ByteArray) (xHost : ByteArray) (xPath : ByteArray) (xHeaders : List Header) (l : Int) : F70 [.agg [.s xMethod, .s xHost, .s xPath, .sl .ro 2 (xHeaders.map (rHeader .ro))], .i .i64 l] = some (.i .i64 (szRequest (Request.mk xMethod xHost xPath xHeaders) l), [.u, .u]) :=
  FSof_eq (fun s s' h => Prod.ext (rRequest_inj (by simpa using (List.cons.inj h).1)) (by simpa using (List.cons.inj h).2)) ((Request.mk xMethod xHost xPath xHeaders), l) trivial
theorem ev70 (n : Nat) (a : Request) (l : Int) : evalFn (cx70 n) [.ro 1, .ro 1] Try.f70 [.agg (rRequest .ro a), .i .i64 l] = some (.i .i64 (szRequest a l), [.u, .u]) := by
  rw [evalFn_eq _ _ Try.f70 _ _ _ rfl rfl]
  simp only [go_sem, reduceIte, ↓reduceIte, Nat.reduceAdd, Nat.reduceSub, Nat.reduceMul, Nat.reduceBEq, Nat.reduceEqDiff, Nat.reduceLeDiff, Nat.reduceLT, Nat.reduceBneDiff, reduceCtorEq, Int.reduceLE, Int.reduceLT, Int.reduceEq, Int.reduceAdd, Int.reduceMul, Int.reduceSub, Int.reduceNeg, Int.reduceBEq, Int.reduceBNe, Int.reduceToNat]
  simp only [szRequest, szs, szn, if_i, decide_eq_true_eq]
theorem spec70 : VSpec Try.prog 70 ⟨[.ro 1, .ro 1], F70, false⟩ :=
  spec_ro' (cx := cx70 0) (f := Try.f70) _ _ _ wide (cxOk _ rfl) fns70_ok Try.func70 (by decide) rfl (by kernel_rfl) (by decide) (by decide)
    (fun s _ _ => ⟨0, ev70 0 s.1 s.2⟩)
    (fun _ _ => rfl) (fun _ => rfl)
noncomputable def fns39 : Nat → Option FS
  | 69 => some ⟨[.ro 1, .ro 1], F69, false⟩
  | 70 => some ⟨[.ro 1, .ro 1], F70, false⟩
  | _ => none
@[go_sem] theorem fns39_69 : fns39 69 = some ⟨[.ro 1, .ro 1], F69, false⟩ := nr rfl
@[go_sem] theorem fns39_70 : fns39 70 = some ⟨[.ro 1, .ro 1], F70, false⟩ := nr rfl
theorem fns39_ok : ∀ g fs, fns39 g = some fs → VSpec Try.prog g fs := by
  intro g fs h
  unfold fns39 at h
  split at h
  · injection h with h; subst h; exact spec69
  · injection h with h; subst h; exact spec70
  · cases h
noncomputable def cx39 (n : Nat) : Cx := { T := T, fns := fns39, cuts := (fun _ => []), vars := some ([0, 1, 2, 4, 11, 17, 23], [2]), live := fun _ => none, al := [], rounds := n, plan := fun _ => none, fz := [] }
@[go_sem] theorem cx39_z (n : Nat) : (cx39 n).fz = [] := nr rfl
@[go_sem] theorem cx39_T (n : Nat) : (cx39 n).T = T := nr rfl
@[go_sem] theorem cx39_f (n : Nat) : (cx39 n).fns = fns39 := nr rfl
@[go_sem] theorem cx39_c (n k : Nat) : (cx39 n).cuts k = ((fun _ => [])) k := nr rfl
@[go_sem] theorem cx39_v (n : Nat) : (cx39 n).vars = some ([0, 1, 2, 4, 11, 17, 23], [2]) := nr rfl
@[go_sem] theorem cx39_l (n k : Nat) : (cx39 n).live k = (fun _ => none) k := nr rfl
@[go_sem] theorem cx39_a (n : Nat) : (cx39 n).al = [] := nr rfl
@[go_sem] theorem cx39_p (n k : Nat) : (cx39 n).plan k = (fun _ => none) k := nr rfl
@[go_sem] theorem cx39_r (n : Nat) : (cx39 n).rounds = n := nr rfl
noncomputable def F39 : List AV → Option (AV × List AV) := FSof (σ := Out × Int) (fun _ => True) (fun s => [.agg (rOut .ro s.1), .i .i64 s.2]) (fun s => (.i .i64 (szOut s.1 s.2), [.u, .u]))
@[go_sem] theorem F39_eq (xKind : Int) (xId : Int) (xSource : ByteArray) (xResponseStatus : Int) (xResponseHeaders : List Header) (xResponseBody : List UInt8) (xRequestMethod : ByteArray) (xRequestHost : ByteArray) (xRequestPath : ByteArray) (xRequestHeaders : List Header) (l : Int) : F39 [.agg [.i .i64 xKind, .i .i64 xId, .s xSource, .i .i64 xResponseStatus, .sl .ro 2 (xResponseHeaders.map (rHeader .ro)), .sl .ro 1 (xResponseBody.map rByte), .s xRequestMethod, .s xRequestHost, .s xRequestPath, .sl .ro 2 (xRequestHeaders.map (rHeader .ro))], .i .i64 l] = some (.i .i64 (szOut (Out.mk xKind xId xSource (Response.mk xResponseStatus xResponseHeaders xResponseBody) (Request.mk xRequestMethod xRequestHost xRequestPath xRequestHeaders)) l), [.u, .u]) :=
  FSof_eq (fun s s' h => Prod.ext (rOut_inj (by simpa using (List.cons.inj h).1)) (by simpa using (List.cons.inj h).2)) ((Out.mk xKind xId xSource (Response.mk xResponseStatus xResponseHeaders xResponseBody) (Request.mk xRequestMethod xRequestHost xRequestPath xRequestHeaders)), l) trivial
theorem ev39 (n : Nat) (a : Out) (l : Int) : evalFn (cx39 n) [.ro 1, .ro 1] Try.f39 [.agg (rOut .ro a), .i .i64 l] = some (.i .i64 (szOut a l), [.u, .u]) := by
  rw [evalFn_eq _ _ Try.f39 _ _ _ rfl rfl]
  simp only [go_sem, reduceIte, ↓reduceIte, Nat.reduceAdd, Nat.reduceSub, Nat.reduceMul, Nat.reduceBEq, Nat.reduceEqDiff, Nat.reduceLeDiff, Nat.reduceLT, Nat.reduceBneDiff, reduceCtorEq, Int.reduceLE, Int.reduceLT, Int.reduceEq, Int.reduceAdd, Int.reduceMul, Int.reduceSub, Int.reduceNeg, Int.reduceBEq, Int.reduceBNe, Int.reduceToNat]
  simp only [szOut, szs, szn, if_i, decide_eq_true_eq]
theorem spec39 : VSpec Try.prog 39 ⟨[.ro 1, .ro 1], F39, false⟩ :=
  spec_ro' (cx := cx39 0) (f := Try.f39) _ _ _ wide (cxOk _ rfl) fns39_ok Try.func39 (by decide) rfl (by kernel_rfl) (by decide) (by decide)
    (fun s _ _ => ⟨0, ev39 0 s.1 s.2⟩)
    (fun _ _ => rfl) (fun _ => rfl)
noncomputable def fns13 : Nat → Option FS
  | 39 => some ⟨[.ro 1, .ro 1], F39, false⟩
  | _ => none
@[go_sem] theorem fns13_39 : fns13 39 = some ⟨[.ro 1, .ro 1], F39, false⟩ := nr rfl
theorem fns13_ok : ∀ g fs, fns13 g = some fs → VSpec Try.prog g fs := by
  intro g fs h
  unfold fns13 at h
  split at h
  · injection h with h; subst h; exact spec39
  · cases h
noncomputable def cx13 (n : Nat) : Cx := { T := T, fns := fns13, cuts := (fun _ => []), vars := some ([0, 1, 4, 5, 11, 15, 25], []), live := fun _ => some ([0, 1, 4, 5], []), al := [], rounds := n, plan := fun _ => none, fz := [] }
@[go_sem] theorem cx13_z (n : Nat) : (cx13 n).fz = [] := nr rfl
@[go_sem] theorem cx13_T (n : Nat) : (cx13 n).T = T := nr rfl
@[go_sem] theorem cx13_f (n : Nat) : (cx13 n).fns = fns13 := nr rfl
@[go_sem] theorem cx13_c (n k : Nat) : (cx13 n).cuts k = ((fun _ => [])) k := nr rfl
@[go_sem] theorem cx13_v (n : Nat) : (cx13 n).vars = some ([0, 1, 4, 5, 11, 15, 25], []) := nr rfl
@[go_sem] theorem cx13_l (n k : Nat) : (cx13 n).live k = (fun _ => some ([0, 1, 4, 5], [])) k := nr rfl
@[go_sem] theorem cx13_a (n : Nat) : (cx13 n).al = [] := nr rfl
@[go_sem] theorem cx13_p (n k : Nat) : (cx13 n).plan k = (fun _ => none) k := nr rfl
@[go_sem] theorem cx13_r (n : Nat) : (cx13 n).rounds = n := nr rfl
def st13 (v0 v1 v4 v5 v11 v15 v25 : AV) : St := ⟨E [(0, v0), (1, v1), (4, v4), (5, v5), (11, v11), (15, v15), (25, v25)], B []⟩
@[go_sem] theorem st13_def (v0 v1 v4 v5 v11 v15 v25 : AV) : st13 v0 v1 v4 v5 v11 v15 v25 = ⟨E [(0, v0), (1, v1), (4, v4), (5, v5), (11, v11), (15, v15), (25, v25)], B []⟩ := nr rfl
noncomputable def F13 : List AV → Option (AV × List AV) := FSof (σ := List Out × Int) (fun _ => True) (fun s => [.sl .ro 10 (s.1.map (rOut .ro)), .i .i64 s.2]) (fun s => (.i .i64 (szL szOut s.1 s.2), [.u, .u]))
@[go_sem] theorem F13_eq (xs : List Out) (l : Int) : F13 [.sl .ro 10 (xs.map (rOut .ro)), .i .i64 l] = some (.i .i64 (szL szOut xs l), [.u, .u]) :=
  FSof_eq (fun s s' h => Prod.ext ((rOut_mi _ _ _).1 (by simpa using (List.cons.inj h).1)) (by simpa using (List.cons.inj h).2)) (xs, l) trivial
theorem rd13 (N : Nat) (xs : List Out) (k : Nat) (hk : k < xs.length) (hb : xs.length ≤ 9223372036854775807) (l : Int) : ∃ j11 j15 j25 i11 i15 i25, ∀ G, seqE (evCode (cx13 N) 0 (loopN Try.f13 0) ⟨E [(0, .sl .ro 10 (xs.map (rOut .ro))), (1, .i .i64 l), (4, .i .i64 0), (5, .i .i64 k)], B []⟩) G =
    if szOut xs[k] l < 0 then some (.ret, st13 (.sl .ro 10 (xs.map (rOut .ro))) (.i .i64 (szOut xs[k] l)) (.i .i64 (-1)) (.i .i64 k) j11 j15 j25) else G (st13 (.sl .ro 10 (xs.map (rOut .ro))) (.i .i64 (szOut xs[k] l)) (.i .i64 0) (.i .i64 ((k + 1 : Nat) : Int)) i11 i15 i25) := by
  have h1 : ((k : Int) < (xs.length : Int)) := Int.ofNat_lt.2 hk
  rw [loopN_eq Try.f13 0 _ _ rfl rfl]
  simp only [go_sem, reduceIte, ↓reduceIte, Nat.reduceAdd, Nat.reduceSub, Nat.reduceMul, Nat.reduceBEq, Nat.reduceEqDiff, Nat.reduceLeDiff, Nat.reduceLT, Nat.reduceBneDiff, reduceCtorEq, Int.reduceLE, Int.reduceLT, Int.reduceEq, Int.reduceAdd, Int.reduceMul, Int.reduceSub, Int.reduceNeg, Int.reduceBEq, Int.reduceBNe, Int.reduceToNat, h1, idx_nt _ _ hk, map_gd (rOut .ro) xs k hk, wrap_nat1 (show k < 9223372036854775807 by omega)]
  exact ⟨_, _, _, _, _, _, fun G => rfl⟩
theorem en13 (N : Nat) (xs : List Out) (l : Int) : ∃ j11 j15 j25, ∀ G, seqE (evCode (cx13 N) 0 (loopN Try.f13 0) ⟨E [(0, .sl .ro 10 (xs.map (rOut .ro))), (1, .i .i64 l), (4, .i .i64 0), (5, .i .i64 xs.length)], B []⟩) G = some (.ex 0, st13 (.sl .ro 10 (xs.map (rOut .ro))) (.i .i64 l) (.i .i64 0) (.i .i64 xs.length) j11 j15 j25) := by
  rw [loopN_eq Try.f13 0 _ _ rfl rfl]
  simp only [go_sem, reduceIte, ↓reduceIte, Nat.reduceAdd, Nat.reduceSub, Nat.reduceMul, Nat.reduceBEq, Nat.reduceEqDiff, Nat.reduceLeDiff, Nat.reduceLT, Nat.reduceBneDiff, reduceCtorEq, Int.reduceLE, Int.reduceLT, Int.reduceEq, Int.reduceAdd, Int.reduceMul, Int.reduceSub, Int.reduceNeg, Int.reduceBEq, Int.reduceBNe, Int.reduceToNat, Int.lt_irrefl]
  exact ⟨_, _, _, fun G => rfl⟩
theorem lp13 (N : Nat) (xs : List Out) (l : Int) (hb : xs.length ≤ 9223372036854775807) (hN : xs.length + 1 ≤ N) : ∃ r, (∀ st, keep ((cx13 N).live 0) st = ⟨E [(0, .sl .ro 10 (xs.map (rOut .ro))), (1, .i .i64 l), (4, .i .i64 0), (5, .i .i64 (0 : Nat))], B []⟩ → loopE (cx13 N) 0 (loopN Try.f13 0) N st = r) ∧
    ((∃ l' j11 j15 j25, szO szOut xs l = some l' ∧ r = some (.ex 0, st13 (.sl .ro 10 (xs.map (rOut .ro))) (.i .i64 l') (.i .i64 0) (.i .i64 xs.length) j11 j15 j25)) ∨ (∃ a b j11 j15 j25, szO szOut xs l = none ∧ r = some (.ret, st13 (.sl .ro 10 (xs.map (rOut .ro))) (a) (.i .i64 (-1)) (b) j11 j15 j25))) := by
  obtain ⟨r, h1, h2⟩ := loop_ix (cx := cx13 N) (blk := 0) (body := loopN Try.f13 0) xs.length (fun k (l : Int) => ⟨E [(0, .sl .ro 10 (xs.map (rOut .ro))), (1, .i .i64 l), (4, .i .i64 0), (5, .i .i64 k)], B []⟩)
    (fun k l r => (∃ l' j11 j15 j25, szO szOut (xs.drop k) l = some l' ∧ r = some (.ex 0, st13 (.sl .ro 10 (xs.map (rOut .ro))) (.i .i64 l') (.i .i64 0) (.i .i64 xs.length) j11 j15 j25)) ∨ (∃ a b j11 j15 j25, szO szOut (xs.drop k) l = none ∧ r = some (.ret, st13 (.sl .ro 10 (xs.map (rOut .ro))) (a) (.i .i64 (-1)) (b) j11 j15 j25)))
    (fun l G => by
      obtain ⟨j11, j15, j25, he⟩ := en13 N xs l
      exact .inl ⟨l, j11, j15, j25, by rw [List.drop_length]; rfl, he G⟩)
    (fun k hk l => by
      obtain ⟨j11, j15, j25, i11, i15, i25, he⟩ := rd13 N xs k hk hb l
      by_cases hc : szOut xs[k] l < 0
      · exact .inl fun G => .inr ⟨_, _, j11, j15, j25, by rw [List.drop_eq_getElem_cons hk]; simp only [szO, if_pos hc], (he G).trans (if_pos hc)⟩
      · refine .inr ⟨_, szOut xs[k] l, ?_, fun r hr => ?_, fun G => (he G).trans (if_neg hc)⟩
        · simp only [go_sem, reduceIte, ↓reduceIte, Nat.reduceAdd, Nat.reduceSub, Nat.reduceMul, Nat.reduceBEq, Nat.reduceEqDiff, Nat.reduceLeDiff, Nat.reduceLT, Nat.reduceBneDiff, reduceCtorEq, Int.reduceLE, Int.reduceLT, Int.reduceEq, Int.reduceAdd, Int.reduceMul, Int.reduceSub, Int.reduceNeg, Int.reduceBEq, Int.reduceBNe, Int.reduceToNat]
        · rw [List.drop_eq_getElem_cons hk]; simpa only [szO, if_neg hc] using hr) N hN l
  exact ⟨r, h1, h2⟩
theorem ev13 (n : Nat) (xs : List Out) (l : Int) (hb : xs.length ≤ 9223372036854775807) (hN : xs.length + 1 ≤ n) : evalFn (cx13 n) [.ro 1, .ro 1] Try.f13 [.sl .ro 10 (xs.map (rOut .ro)), .i .i64 l] = some (.i .i64 (szL szOut xs l), [.u, .u]) := by
  rw [evalFn_eq _ _ Try.f13 _ _ _ rfl rfl]
  simp only [go_sem, reduceIte, ↓reduceIte, Nat.reduceAdd, Nat.reduceSub, Nat.reduceMul, Nat.reduceBEq, Nat.reduceEqDiff, Nat.reduceLeDiff, Nat.reduceLT, Nat.reduceBneDiff, reduceCtorEq, Int.reduceLE, Int.reduceLT, Int.reduceEq, Int.reduceAdd, Int.reduceMul, Int.reduceSub, Int.reduceNeg, Int.reduceBEq, Int.reduceBNe, Int.reduceToNat]
  unfold szL szs
  by_cases hc : (IntKind.i64).wrap (l - (xs.length : Int)) < 0
  · rw [if_pos hc, if_pos hc]
  · rw [if_neg hc, if_neg hc]
    obtain ⟨r, h1, h2⟩ := lp13 n xs ((IntKind.i64).wrap (l - (xs.length : Int))) hb hN
    rw [loopN_eq Try.f13 0 _ _ rfl rfl] at h1
    rw [h1]
    · rcases h2 with ⟨l', j11, j15, j25, e1, rfl⟩ | ⟨a, b, j11, j15, j25, e1, rfl⟩
      · simp only [go_sem, reduceIte, ↓reduceIte, Nat.reduceAdd, Nat.reduceSub, Nat.reduceMul, Nat.reduceBEq, Nat.reduceEqDiff, Nat.reduceLeDiff, Nat.reduceLT, Nat.reduceBneDiff, reduceCtorEq, Int.reduceLE, Int.reduceLT, Int.reduceEq, Int.reduceAdd, Int.reduceMul, Int.reduceSub, Int.reduceNeg, Int.reduceBEq, Int.reduceBNe, Int.reduceToNat, e1, Option.getD_some]
      · simp only [go_sem, reduceIte, ↓reduceIte, Nat.reduceAdd, Nat.reduceSub, Nat.reduceMul, Nat.reduceBEq, Nat.reduceEqDiff, Nat.reduceLeDiff, Nat.reduceLT, Nat.reduceBneDiff, reduceCtorEq, Int.reduceLE, Int.reduceLT, Int.reduceEq, Int.reduceAdd, Int.reduceMul, Int.reduceSub, Int.reduceNeg, Int.reduceBEq, Int.reduceBNe, Int.reduceToNat, e1, Option.getD_none]
    · simp only [go_sem, reduceIte, ↓reduceIte, Nat.reduceAdd, Nat.reduceSub, Nat.reduceMul, Nat.reduceBEq, Nat.reduceEqDiff, Nat.reduceLeDiff, Nat.reduceLT, Nat.reduceBneDiff, reduceCtorEq, Int.reduceLE, Int.reduceLT, Int.reduceEq, Int.reduceAdd, Int.reduceMul, Int.reduceSub, Int.reduceNeg, Int.reduceBEq, Int.reduceBNe, Int.reduceToNat]
      rfl
theorem spec13 : VSpec Try.prog 13 ⟨[.ro 1, .ro 1], F13, false⟩ :=
  spec_ro' (cx := cx13 0) (f := Try.f13) _ _ _ wide (cxOk _ rfl) fns13_ok Try.func13 (by decide) rfl (by kernel_rfl) (by decide) (by decide)
    (fun s _ hl => ⟨s.1.length + 1, ev13 _ s.1 s.2 (by simpa using hl.1.1) (Nat.le_refl _)⟩)
    (fun _ _ => rfl) (fun _ => rfl)
noncomputable def cx109 (n : Nat) : Cx := { T := T, fns := (fun _ => none), cuts := (fun _ => []), vars := some ([0, 1, 2, 3], [1, 2, 3]), live := fun _ => none, al := [], rounds := n, plan := fun _ => none, fz := [] }
@[go_sem] theorem cx109_z (n : Nat) : (cx109 n).fz = [] := nr rfl
@[go_sem] theorem cx109_T (n : Nat) : (cx109 n).T = T := nr rfl
@[go_sem] theorem cx109_f (n : Nat) : (cx109 n).fns = (fun _ => none) := nr rfl
@[go_sem] theorem cx109_c (n k : Nat) : (cx109 n).cuts k = ((fun _ => [])) k := nr rfl
@[go_sem] theorem cx109_v (n : Nat) : (cx109 n).vars = some ([0, 1, 2, 3], [1, 2, 3]) := nr rfl
@[go_sem] theorem cx109_l (n k : Nat) : (cx109 n).live k = (fun _ => none) k := nr rfl
@[go_sem] theorem cx109_a (n : Nat) : (cx109 n).al = [] := nr rfl
@[go_sem] theorem cx109_p (n k : Nat) : (cx109 n).plan k = (fun _ => none) k := nr rfl
@[go_sem] theorem cx109_r (n : Nat) : (cx109 n).rounds = n := nr rfl
noncomputable def F109 : List AV → Option (AV × List AV) := FSof (σ := Header) (fun a => smHeader a) (fun a => [.agg (rHeader .ro a)]) (fun a => (.agg (rHeader .mut a), [.u]))
@[go_sem] theorem F109_eq (xName : ByteArray) (xValue : ByteArray) (h : smHeader (Header.mk xName xValue)) : F109 [.agg [.s xName, .s xValue]] = some (.agg (rHeader .mut (Header.mk xName xValue)), [.u]) :=
  FSof_eq (fun s s' h => rHeader_inj (by simpa using (List.cons.inj h).1)) (Header.mk xName xValue) h
theorem ev109 (n : Nat) (a : Header) (h : smHeader a) : evalFn (cx109 n) [.ro 1] Try.f109 [.agg (rHeader .ro a)] = some (.agg (rHeader .mut a), [.u]) := by
  obtain ⟨q0, q1⟩ := h
  rw [evalFn_eq _ _ Try.f109 _ _ _ rfl rfl]
  simp only [go_sem, reduceIte, ↓reduceIte, Nat.reduceAdd, Nat.reduceSub, Nat.reduceMul, Nat.reduceBEq, Nat.reduceEqDiff, Nat.reduceLeDiff, Nat.reduceLT, Nat.reduceBneDiff, reduceCtorEq, Int.reduceLE, Int.reduceLT, Int.reduceEq, Int.reduceAdd, Int.reduceMul, Int.reduceSub, Int.reduceNeg, Int.reduceBEq, Int.reduceBNe, Int.reduceToNat, q0, q1]
theorem spec109 : VSpec Try.prog 109 ⟨[.ro 1], F109, false⟩ :=
  spec_ro' (cx := cx109 0) (f := Try.f109) _ _ _ wide (cxOk _ rfl) (fun g fs h => by cases h) Try.func109 (by decide) rfl (by kernel_rfl) (by decide) (by decide)
    (fun s h _ => ⟨0, ev109 0 s h⟩)
    (fun a _ => by simp only [hasRo, hasRoL, rHeader, Bool.or_self]) (fun _ => rfl)
noncomputable def fns100 : Nat → Option FS
  | 109 => some ⟨[.ro 1], F109, false⟩
  | _ => none
@[go_sem] theorem fns100_109 : fns100 109 = some ⟨[.ro 1], F109, false⟩ := nr rfl
theorem fns100_ok : ∀ g fs, fns100 g = some fs → VSpec Try.prog g fs := by
  intro g fs h
  unfold fns100 at h
  split at h
  · injection h with h; subst h; exact spec109
  · cases h
noncomputable def cx100 (n : Nat) : Cx := { T := T, fns := fns100, cuts := (fun | 5 => [none, none, none, none, none, none, some [0, 2, 3, 4, 11, 14, 15, 19]] | _ => []), vars := some ([0, 2, 3, 4, 11], []), live := fun _ => some ([0, 2, 3, 4], []), al := [], rounds := n, plan := fun _ => none, fz := [] }
@[go_sem] theorem cx100_z (n : Nat) : (cx100 n).fz = [] := nr rfl
@[go_sem] theorem cx100_T (n : Nat) : (cx100 n).T = T := nr rfl
@[go_sem] theorem cx100_f (n : Nat) : (cx100 n).fns = fns100 := nr rfl
@[go_sem] theorem cx100_c (n k : Nat) : (cx100 n).cuts k = ((fun | 5 => [none, none, none, none, none, none, some [0, 2, 3, 4, 11, 14, 15, 19]] | _ => [])) k := nr rfl
@[go_sem] theorem cx100_v (n : Nat) : (cx100 n).vars = some ([0, 2, 3, 4, 11], []) := nr rfl
@[go_sem] theorem cx100_l (n k : Nat) : (cx100 n).live k = (fun _ => some ([0, 2, 3, 4], [])) k := nr rfl
@[go_sem] theorem cx100_a (n : Nat) : (cx100 n).al = [] := nr rfl
@[go_sem] theorem cx100_p (n k : Nat) : (cx100 n).plan k = (fun _ => none) k := nr rfl
@[go_sem] theorem cx100_r (n : Nat) : (cx100 n).rounds = n := nr rfl
def st100 (v0 v2 v3 v4 v11 : AV) : St := ⟨E [(0, v0), (2, v2), (3, v3), (4, v4), (11, v11)], B []⟩
@[go_sem] theorem st100_def (v0 v2 v3 v4 v11 : AV) : st100 v0 v2 v3 v4 v11 = ⟨E [(0, v0), (2, v2), (3, v3), (4, v4), (11, v11)], B []⟩ := nr rfl
noncomputable def F100 : List AV → Option (AV × List AV) := FSof (σ := List Header) (fun xs => smL smHeader xs) (fun xs => [.sl .ro 2 (xs.map (rHeader .ro))]) (fun xs => (.sl .mut 2 (xs.map (rHeader .mut)), [.u]))
@[go_sem] theorem F100_eq (xs : List Header) (h : smL smHeader xs) : F100 [.sl .ro 2 (xs.map (rHeader .ro))] = some (.sl .mut 2 (xs.map (rHeader .mut)), [.u]) :=
  FSof_eq (fun s s' h => (rHeader_mi _ _ _).1 (by simpa using (List.cons.inj h).1)) xs h
theorem rd100 (N : Nat) (xs : List Header) (hs : smL smHeader xs) (k : Nat) (hk : k < xs.length) : ∃ j11, ∀ G, seqE (evCode (cx100 N) 0 (loopN Try.f100 0) ⟨E [(0, .sl .ro 2 (xs.map (rHeader .ro))), (2, .sl .mut 2 []), (3, .sl .mut 2 (fillUp (rHeader .mut) [.s ⟨#[]⟩, .s ⟨#[]⟩] xs k)), (4, .i .i64 k)], B []⟩) G = G (st100 (.sl .ro 2 (xs.map (rHeader .ro))) (.sl .mut 2 []) (.sl .mut 2 (fillUp (rHeader .mut) [.s ⟨#[]⟩, .s ⟨#[]⟩] xs (k + 1))) (.i .i64 ((k + 1 : Nat) : Int)) j11) := by
  have h1 : ((k : Int) < (xs.length : Int)) := Int.ofNat_lt.2 hk
  have hb := hs.1
  have h2 := smL_get hs hk
  have h3 : (fillUp (rHeader .mut) [.s ⟨#[]⟩, .s ⟨#[]⟩] xs k).set k [.s xs[k].Name, .s xs[k].Value] = fillUp (rHeader .mut) [.s ⟨#[]⟩, .s ⟨#[]⟩] xs (k + 1) := fillUp_set (rHeader .mut) [.s ⟨#[]⟩, .s ⟨#[]⟩] xs k hk
  rw [loopN_eq Try.f100 0 _ _ rfl rfl]
  simp only [go_sem, reduceIte, ↓reduceIte, Nat.reduceAdd, Nat.reduceSub, Nat.reduceMul, Nat.reduceBEq, Nat.reduceEqDiff, Nat.reduceLeDiff, Nat.reduceLT, Nat.reduceBneDiff, reduceCtorEq, Int.reduceLE, Int.reduceLT, Int.reduceEq, Int.reduceAdd, Int.reduceMul, Int.reduceSub, Int.reduceNeg, Int.reduceBEq, Int.reduceBNe, Int.reduceToNat, h1, h2, idx_nt _ _ hk, map_gd (rHeader .ro) xs k hk, fillUp_get (rHeader .mut) [.s ⟨#[]⟩, .s ⟨#[]⟩] xs k hk, fillUp_getD (rHeader .mut) [.s ⟨#[]⟩, .s ⟨#[]⟩] xs k hk, fillUp_len (rHeader .mut) [.s ⟨#[]⟩, .s ⟨#[]⟩] xs k (Nat.le_of_lt hk), h3, wrap_nat1 (show k < 9223372036854775807 by omega)]
  exact ⟨_, fun G => rfl⟩
theorem en100 (N : Nat) (xs : List Header) : ∃ j11, ∀ G, seqE (evCode (cx100 N) 0 (loopN Try.f100 0) ⟨E [(0, .sl .ro 2 (xs.map (rHeader .ro))), (2, .sl .mut 2 []), (3, .sl .mut 2 (xs.map (rHeader .mut))), (4, .i .i64 xs.length)], B []⟩) G = some (.ex 0, st100 (.sl .ro 2 (xs.map (rHeader .ro))) (.sl .mut 2 []) (.sl .mut 2 (xs.map (rHeader .mut))) (.i .i64 xs.length) j11) := by
  rw [loopN_eq Try.f100 0 _ _ rfl rfl]
  simp only [go_sem, reduceIte, ↓reduceIte, Nat.reduceAdd, Nat.reduceSub, Nat.reduceMul, Nat.reduceBEq, Nat.reduceEqDiff, Nat.reduceLeDiff, Nat.reduceLT, Nat.reduceBneDiff, reduceCtorEq, Int.reduceLE, Int.reduceLT, Int.reduceEq, Int.reduceAdd, Int.reduceMul, Int.reduceSub, Int.reduceNeg, Int.reduceBEq, Int.reduceBNe, Int.reduceToNat, Int.lt_irrefl]
  exact ⟨_, fun G => rfl⟩
theorem lp100 (N : Nat) (xs : List Header) (hs : smL smHeader xs) (hN : xs.length + 1 ≤ N) : ∃ r, (∀ st, keep ((cx100 N).live 0) st = ⟨E [(0, .sl .ro 2 (xs.map (rHeader .ro))), (2, .sl .mut 2 []), (3, .sl .mut 2 (fillUp (rHeader .mut) [.s ⟨#[]⟩, .s ⟨#[]⟩] xs 0)), (4, .i .i64 (0 : Nat))], B []⟩ → loopE (cx100 N) 0 (loopN Try.f100 0) N st = r) ∧
    ∃ j11, r = some (.ex 0, st100 (.sl .ro 2 (xs.map (rHeader .ro))) (.sl .mut 2 []) (.sl .mut 2 (xs.map (rHeader .mut))) (.i .i64 xs.length) j11) := by
  obtain ⟨r, h1, h2⟩ := loop_ix (cx := cx100 N) (blk := 0) (body := loopN Try.f100 0) xs.length (fun k (_ : Unit) => ⟨E [(0, .sl .ro 2 (xs.map (rHeader .ro))), (2, .sl .mut 2 []), (3, .sl .mut 2 (fillUp (rHeader .mut) [.s ⟨#[]⟩, .s ⟨#[]⟩] xs k)), (4, .i .i64 k)], B []⟩)
    (fun k _ r => ∃ j11, r = some (.ex 0, st100 (.sl .ro 2 (xs.map (rHeader .ro))) (.sl .mut 2 []) (.sl .mut 2 (xs.map (rHeader .mut))) (.i .i64 xs.length) j11))
    (fun _ G => by
      obtain ⟨j11, he⟩ := en100 N xs
      simp only [fillUp_all]
      exact ⟨j11, he G⟩)
    (fun k hk _ => by
      obtain ⟨j11, he⟩ := rd100 N xs hs k hk
      refine .inr ⟨_, (), ?_, fun r hr => hr, fun G => he G⟩
      simp only [go_sem, reduceIte, ↓reduceIte, Nat.reduceAdd, Nat.reduceSub, Nat.reduceMul, Nat.reduceBEq, Nat.reduceEqDiff, Nat.reduceLeDiff, Nat.reduceLT, Nat.reduceBneDiff, reduceCtorEq, Int.reduceLE, Int.reduceLT, Int.reduceEq, Int.reduceAdd, Int.reduceMul, Int.reduceSub, Int.reduceNeg, Int.reduceBEq, Int.reduceBNe, Int.reduceToNat]) N hN ()
  exact ⟨r, h1, h2⟩
theorem ev100 (n : Nat) (xs : List Header) (hs : smL smHeader xs) (hN : xs.length + 1 ≤ n) : evalFn (cx100 n) [.ro 1] Try.f100 [.sl .ro 2 (xs.map (rHeader .ro))] = some (.sl .mut 2 (xs.map (rHeader .mut)), [.u]) := by
  have hb := hs.1
  have c1 : ((xs.length : Int) * (32 : Nat) ≤ 140737488355328) := by omega
  have c2 : 0 ≤ (xs.length : Int) := by omega
  rw [evalFn_eq _ _ Try.f100 _ _ _ rfl rfl]
  simp only [go_sem, reduceIte, ↓reduceIte, Nat.reduceAdd, Nat.reduceSub, Nat.reduceMul, Nat.reduceBEq, Nat.reduceEqDiff, Nat.reduceLeDiff, Nat.reduceLT, Nat.reduceBneDiff, reduceCtorEq, Int.reduceLE, Int.reduceLT, Int.reduceEq, Int.reduceAdd, Int.reduceMul, Int.reduceSub, Int.reduceNeg, Int.reduceBEq, Int.reduceBNe, Int.reduceToNat, c1, c2, Int.toNat_natCast, fillUp_zero (rHeader .mut) [.s ⟨#[]⟩, .s ⟨#[]⟩]]
  obtain ⟨r, h1, h2⟩ := lp100 n xs hs hN
  rw [loopN_eq Try.f100 0 _ _ rfl rfl] at h1
  rw [h1]
  · obtain ⟨j11, rfl⟩ := h2
    simp only [go_sem, reduceIte, ↓reduceIte, Nat.reduceAdd, Nat.reduceSub, Nat.reduceMul, Nat.reduceBEq, Nat.reduceEqDiff, Nat.reduceLeDiff, Nat.reduceLT, Nat.reduceBneDiff, reduceCtorEq, Int.reduceLE, Int.reduceLT, Int.reduceEq, Int.reduceAdd, Int.reduceMul, Int.reduceSub, Int.reduceNeg, Int.reduceBEq, Int.reduceBNe, Int.reduceToNat]
  · simp only [go_sem, reduceIte, ↓reduceIte, Nat.reduceAdd, Nat.reduceSub, Nat.reduceMul, Nat.reduceBEq, Nat.reduceEqDiff, Nat.reduceLeDiff, Nat.reduceLT, Nat.reduceBneDiff, reduceCtorEq, Int.reduceLE, Int.reduceLT, Int.reduceEq, Int.reduceAdd, Int.reduceMul, Int.reduceSub, Int.reduceNeg, Int.reduceBEq, Int.reduceBNe, Int.reduceToNat]
    rfl
theorem spec100 : VSpec Try.prog 100 ⟨[.ro 1], F100, false⟩ :=
  spec_ro' (cx := cx100 0) (f := Try.f100) _ _ _ wide (cxOk _ rfl) fns100_ok Try.func100 (by decide) rfl (by kernel_rfl) (by decide) (by decide)
    (fun s h _ => ⟨s.length + 1, ev100 _ s h (Nat.le_refl _)⟩)
    (fun a _ => by simp only [hasRo, rHeader_noRo]) (fun _ => rfl)
noncomputable def cx101 (n : Nat) : Cx := { T := T, fns := (fun _ => none), cuts := (fun _ => []), vars := some ([0, 2, 3, 4, 11], []), live := fun _ => some ([0, 2, 3, 4], []), al := [], rounds := n, plan := fun _ => none, fz := [] }
@[go_sem] theorem cx101_z (n : Nat) : (cx101 n).fz = [] := nr rfl
@[go_sem] theorem cx101_T (n : Nat) : (cx101 n).T = T := nr rfl
@[go_sem] theorem cx101_f (n : Nat) : (cx101 n).fns = (fun _ => none) := nr rfl
@[go_sem] theorem cx101_c (n k : Nat) : (cx101 n).cuts k = ((fun _ => [])) k := nr rfl
@[go_sem] theorem cx101_v (n : Nat) : (cx101 n).vars = some ([0, 2, 3, 4, 11], []) := nr rfl
@[go_sem] theorem cx101_l (n k : Nat) : (cx101 n).live k = (fun _ => some ([0, 2, 3, 4], [])) k := nr rfl
@[go_sem] theorem cx101_a (n : Nat) : (cx101 n).al = [] := nr rfl
@[go_sem] theorem cx101_p (n k : Nat) : (cx101 n).plan k = (fun _ => none) k := nr rfl
@[go_sem] theorem cx101_r (n : Nat) : (cx101 n).rounds = n := nr rfl
def st101 (v0 v2 v3 v4 v11 : AV) : St := ⟨E [(0, v0), (2, v2), (3, v3), (4, v4), (11, v11)], B []⟩
@[go_sem] theorem st101_def (v0 v2 v3 v4 v11 : AV) : st101 v0 v2 v3 v4 v11 = ⟨E [(0, v0), (2, v2), (3, v3), (4, v4), (11, v11)], B []⟩ := nr rfl
noncomputable def F101 : List AV → Option (AV × List AV) := FSof (σ := List UInt8) (fun xs => smL smByte xs) (fun xs => [.sl .ro 1 (xs.map rByte)]) (fun xs => (.sl .mut 1 (xs.map rByte), [.u]))
@[go_sem] theorem F101_eq (xs : List UInt8) (h : smL smByte xs) : F101 [.sl .ro 1 (xs.map rByte)] = some (.sl .mut 1 (xs.map rByte), [.u]) :=
  FSof_eq (fun s s' h => (rByte_mi _ _).1 (by simpa using (List.cons.inj h).1)) xs h
theorem rd101 (N : Nat) (xs : List UInt8) (hs : smL smByte xs) (k : Nat) (hk : k < xs.length) : ∃ j11, ∀ G, seqE (evCode (cx101 N) 0 (loopN Try.f101 0) ⟨E [(0, .sl .ro 1 (xs.map rByte)), (2, .sl .mut 1 []), (3, .sl .mut 1 (fillUp rByte [.i .u8 0] xs k)), (4, .i .i64 k)], B []⟩) G = G (st101 (.sl .ro 1 (xs.map rByte)) (.sl .mut 1 []) (.sl .mut 1 (fillUp rByte [.i .u8 0] xs (k + 1))) (.i .i64 ((k + 1 : Nat) : Int)) j11) := by
  have h1 : ((k : Int) < (xs.length : Int)) := Int.ofNat_lt.2 hk
  have hb := hs.1
  have h2 := smL_get hs hk
  have h3 : (fillUp rByte [.i .u8 0] xs k).set k [.i .u8 xs[k].toNat] = fillUp rByte [.i .u8 0] xs (k + 1) := fillUp_set rByte [.i .u8 0] xs k hk
  rw [loopN_eq Try.f101 0 _ _ rfl rfl]
  simp only [go_sem, reduceIte, ↓reduceIte, Nat.reduceAdd, Nat.reduceSub, Nat.reduceMul, Nat.reduceBEq, Nat.reduceEqDiff, Nat.reduceLeDiff, Nat.reduceLT, Nat.reduceBneDiff, reduceCtorEq, Int.reduceLE, Int.reduceLT, Int.reduceEq, Int.reduceAdd, Int.reduceMul, Int.reduceSub, Int.reduceNeg, Int.reduceBEq, Int.reduceBNe, Int.reduceToNat, h1, h2, idx_nt _ _ hk, map_gd rByte xs k hk, fillUp_get rByte [.i .u8 0] xs k hk, fillUp_getD rByte [.i .u8 0] xs k hk, fillUp_len rByte [.i .u8 0] xs k (Nat.le_of_lt hk), h3, wrap_nat1 (show k < 9223372036854775807 by omega)]
  exact ⟨_, fun G => rfl⟩
theorem en101 (N : Nat) (xs : List UInt8) : ∃ j11, ∀ G, seqE (evCode (cx101 N) 0 (loopN Try.f101 0) ⟨E [(0, .sl .ro 1 (xs.map rByte)), (2, .sl .mut 1 []), (3, .sl .mut 1 (xs.map rByte)), (4, .i .i64 xs.length)], B []⟩) G = some (.ex 0, st101 (.sl .ro 1 (xs.map rByte)) (.sl .mut 1 []) (.sl .mut 1 (xs.map rByte)) (.i .i64 xs.length) j11) := by
  rw [loopN_eq Try.f101 0 _ _ rfl rfl]
  simp only [go_sem, reduceIte, ↓reduceIte, Nat.reduceAdd, Nat.reduceSub, Nat.reduceMul, Nat.reduceBEq, Nat.reduceEqDiff, Nat.reduceLeDiff, Nat.reduceLT, Nat.reduceBneDiff, reduceCtorEq, Int.reduceLE, Int.reduceLT, Int.reduceEq, Int.reduceAdd, Int.reduceMul, Int.reduceSub, Int.reduceNeg, Int.reduceBEq, Int.reduceBNe, Int.reduceToNat, Int.lt_irrefl]
  exact ⟨_, fun G => rfl⟩
theorem lp101 (N : Nat) (xs : List UInt8) (hs : smL smByte xs) (hN : xs.length + 1 ≤ N) : ∃ r, (∀ st, keep ((cx101 N).live 0) st = ⟨E [(0, .sl .ro 1 (xs.map rByte)), (2, .sl .mut 1 []), (3, .sl .mut 1 (fillUp rByte [.i .u8 0] xs 0)), (4, .i .i64 (0 : Nat))], B []⟩ → loopE (cx101 N) 0 (loopN Try.f101 0) N st = r) ∧
    ∃ j11, r = some (.ex 0, st101 (.sl .ro 1 (xs.map rByte)) (.sl .mut 1 []) (.sl .mut 1 (xs.map rByte)) (.i .i64 xs.length) j11) := by
  obtain ⟨r, h1, h2⟩ := loop_ix (cx := cx101 N) (blk := 0) (body := loopN Try.f101 0) xs.length (fun k (_ : Unit) => ⟨E [(0, .sl .ro 1 (xs.map rByte)), (2, .sl .mut 1 []), (3, .sl .mut 1 (fillUp rByte [.i .u8 0] xs k)), (4, .i .i64 k)], B []⟩)
    (fun k _ r => ∃ j11, r = some (.ex 0, st101 (.sl .ro 1 (xs.map rByte)) (.sl .mut 1 []) (.sl .mut 1 (xs.map rByte)) (.i .i64 xs.length) j11))
    (fun _ G => by
      obtain ⟨j11, he⟩ := en101 N xs
      simp only [fillUp_all]
      exact ⟨j11, he G⟩)
    (fun k hk _ => by
      obtain ⟨j11, he⟩ := rd101 N xs hs k hk
      refine .inr ⟨_, (), ?_, fun r hr => hr, fun G => he G⟩
      simp only [go_sem, reduceIte, ↓reduceIte, Nat.reduceAdd, Nat.reduceSub, Nat.reduceMul, Nat.reduceBEq, Nat.reduceEqDiff, Nat.reduceLeDiff, Nat.reduceLT, Nat.reduceBneDiff, reduceCtorEq, Int.reduceLE, Int.reduceLT, Int.reduceEq, Int.reduceAdd, Int.reduceMul, Int.reduceSub, Int.reduceNeg, Int.reduceBEq, Int.reduceBNe, Int.reduceToNat]) N hN ()
  exact ⟨r, h1, h2⟩
theorem ev101 (n : Nat) (xs : List UInt8) (hs : smL smByte xs) (hN : xs.length + 1 ≤ n) : evalFn (cx101 n) [.ro 1] Try.f101 [.sl .ro 1 (xs.map rByte)] = some (.sl .mut 1 (xs.map rByte), [.u]) := by
  have hb := hs.1
  have c1 : ((xs.length : Int) * (1 : Nat) ≤ 140737488355328) := by omega
  have c2 : 0 ≤ (xs.length : Int) := by omega
  rw [evalFn_eq _ _ Try.f101 _ _ _ rfl rfl]
  simp only [go_sem, reduceIte, ↓reduceIte, Nat.reduceAdd, Nat.reduceSub, Nat.reduceMul, Nat.reduceBEq, Nat.reduceEqDiff, Nat.reduceLeDiff, Nat.reduceLT, Nat.reduceBneDiff, reduceCtorEq, Int.reduceLE, Int.reduceLT, Int.reduceEq, Int.reduceAdd, Int.reduceMul, Int.reduceSub, Int.reduceNeg, Int.reduceBEq, Int.reduceBNe, Int.reduceToNat, c1, c2, Int.toNat_natCast, fillUp_zero rByte [.i .u8 0]]
  obtain ⟨r, h1, h2⟩ := lp101 n xs hs hN
  rw [loopN_eq Try.f101 0 _ _ rfl rfl] at h1
  rw [h1]
  · obtain ⟨j11, rfl⟩ := h2
    simp only [go_sem, reduceIte, ↓reduceIte, Nat.reduceAdd, Nat.reduceSub, Nat.reduceMul, Nat.reduceBEq, Nat.reduceEqDiff, Nat.reduceLeDiff, Nat.reduceLT, Nat.reduceBneDiff, reduceCtorEq, Int.reduceLE, Int.reduceLT, Int.reduceEq, Int.reduceAdd, Int.reduceMul, Int.reduceSub, Int.reduceNeg, Int.reduceBEq, Int.reduceBNe, Int.reduceToNat]
  · simp only [go_sem, reduceIte, ↓reduceIte, Nat.reduceAdd, Nat.reduceSub, Nat.reduceMul, Nat.reduceBEq, Nat.reduceEqDiff, Nat.reduceLeDiff, Nat.reduceLT, Nat.reduceBneDiff, reduceCtorEq, Int.reduceLE, Int.reduceLT, Int.reduceEq, Int.reduceAdd, Int.reduceMul, Int.reduceSub, Int.reduceNeg, Int.reduceBEq, Int.reduceBNe, Int.reduceToNat]
    rfl
theorem spec101 : VSpec Try.prog 101 ⟨[.ro 1], F101, false⟩ :=
  spec_ro' (cx := cx101 0) (f := Try.f101) _ _ _ wide (cxOk _ rfl) (fun g fs h => by cases h) Try.func101 (by decide) rfl (by kernel_rfl) (by decide) (by decide)
    (fun s h _ => ⟨s.length + 1, ev101 _ s h (Nat.le_refl _)⟩)
    (fun a _ => by simp only [hasRo, rByte_noRo]) (fun _ => rfl)
noncomputable def fns71 : Nat → Option FS
  | 100 => some ⟨[.ro 1], F100, false⟩
  | 101 => some ⟨[.ro 1], F101, false⟩
  | _ => none
@[go_sem] theorem fns71_100 : fns71 100 = some ⟨[.ro 1], F100, false⟩ := nr rfl
@[go_sem] theorem fns71_101 : fns71 101 = some ⟨[.ro 1], F101, false⟩ := nr rfl
theorem fns71_ok : ∀ g fs, fns71 g = some fs → VSpec Try.prog g fs := by
  intro g fs h
  unfold fns71 at h
  split at h
  · injection h with h; subst h; exact spec100
  · injection h with h; subst h; exact spec101
  · cases h
noncomputable def cx71 (n : Nat) : Cx := { T := T, fns := fns71, cuts := (fun _ => []), vars := some ([0, 1, 2, 3], [1, 2, 3]), live := fun _ => none, al := [], rounds := n, plan := fun _ => none, fz := [] }
@[go_sem] theorem cx71_z (n : Nat) : (cx71 n).fz = [] := nr rfl
@[go_sem] theorem cx71_T (n : Nat) : (cx71 n).T = T := nr rfl
@[go_sem] theorem cx71_f (n : Nat) : (cx71 n).fns = fns71 := nr rfl
@[go_sem] theorem cx71_c (n k : Nat) : (cx71 n).cuts k = ((fun _ => [])) k := nr rfl
@[go_sem] theorem cx71_v (n : Nat) : (cx71 n).vars = some ([0, 1, 2, 3], [1, 2, 3]) := nr rfl
@[go_sem] theorem cx71_l (n k : Nat) : (cx71 n).live k = (fun _ => none) k := nr rfl
@[go_sem] theorem cx71_a (n : Nat) : (cx71 n).al = [] := nr rfl
@[go_sem] theorem cx71_p (n k : Nat) : (cx71 n).plan k = (fun _ => none) k := nr rfl
@[go_sem] theorem cx71_r (n : Nat) : (cx71 n).rounds = n := nr rfl
noncomputable def F71 : List AV → Option (AV × List AV) := FSof (σ := Response) (fun a => smResponse a) (fun a => [.agg (rResponse .ro a)]) (fun a => (.agg (rResponse .mut a), [.u]))
@[go_sem] theorem F71_eq (xStatus : Int) (xHeaders : List Header) (xBody : List UInt8) (h : smResponse (Response.mk xStatus xHeaders xBody)) : F71 [.agg [.i .i64 xStatus, .sl .ro 2 (xHeaders.map (rHeader .ro)), .sl .ro 1 (xBody.map rByte)]] = some (.agg (rResponse .mut (Response.mk xStatus xHeaders xBody)), [.u]) :=
  FSof_eq (fun s s' h => rResponse_inj (by simpa using (List.cons.inj h).1)) (Response.mk xStatus xHeaders xBody) h
theorem ev71 (n : Nat) (a : Response) (h : smResponse a) : evalFn (cx71 n) [.ro 1] Try.f71 [.agg (rResponse .ro a)] = some (.agg (rResponse .mut a), [.u]) := by
  obtain ⟨q0, q1, q2⟩ := h
  rw [evalFn_eq _ _ Try.f71 _ _ _ rfl rfl]
  simp only [go_sem, reduceIte, ↓reduceIte, Nat.reduceAdd, Nat.reduceSub, Nat.reduceMul, Nat.reduceBEq, Nat.reduceEqDiff, Nat.reduceLeDiff, Nat.reduceLT, Nat.reduceBneDiff, reduceCtorEq, Int.reduceLE, Int.reduceLT, Int.reduceEq, Int.reduceAdd, Int.reduceMul, Int.reduceSub, Int.reduceNeg, Int.reduceBEq, Int.reduceBNe, Int.reduceToNat, q0, q1, q2]
theorem spec71 : VSpec Try.prog 71 ⟨[.ro 1], F71, false⟩ :=
  spec_ro' (cx := cx71 0) (f := Try.f71) _ _ _ wide (cxOk _ rfl) fns71_ok Try.func71 (by decide) rfl (by kernel_rfl) (by decide) (by decide)
    (fun s h _ => ⟨0, ev71 0 s h⟩)
    (fun a _ => by simp only [hasRo, hasRoL, hasRoLL, rResponse, Bool.or_self, rHeader_noRo, rByte_noRo]) (fun _ => rfl)
noncomputable def fns72 : Nat → Option FS
  | 100 => some ⟨[.ro 1], F100, false⟩
  | _ => none
@[go_sem] theorem fns72_100 : fns72 100 = some ⟨[.ro 1], F100, false⟩ := nr rfl
theorem fns72_ok : ∀ g fs, fns72 g = some fs → VSpec Try.prog g fs := by
  intro g fs h
  unfold fns72 at h
  split at h
  · injection h with h; subst h; exact spec100
  · cases h
noncomputable def cx72 (n : Nat) : Cx := { T := T, fns := fns72, cuts := (fun _ => []), vars := some ([0, 1, 2, 3], [1, 2, 3]), live := fun _ => none, al := [], rounds := n, plan := fun _ => none, fz := [] }
@[go_sem] theorem cx72_z (n : Nat) : (cx72 n).fz = [] := nr rfl
@[go_sem] theorem cx72_T (n : Nat) : (cx72 n).T = T := nr rfl
@[go_sem] theorem cx72_f (n : Nat) : (cx72 n).fns = fns72 := nr rfl
@[go_sem] theorem cx72_c (n k : Nat) : (cx72 n).cuts k = ((fun _ => [])) k := nr rfl
@[go_sem] theorem cx72_v (n : Nat) : (cx72 n).vars = some ([0, 1, 2, 3], [1, 2, 3]) := nr rfl
@[go_sem] theorem cx72_l (n k : Nat) : (cx72 n).live k = (fun _ => none) k := nr rfl
@[go_sem] theorem cx72_a (n : Nat) : (cx72 n).al = [] := nr rfl
@[go_sem] theorem cx72_p (n k : Nat) : (cx72 n).plan k = (fun _ => none) k := nr rfl
@[go_sem] theorem cx72_r (n : Nat) : (cx72 n).rounds = n := nr rfl
noncomputable def F72 : List AV → Option (AV × List AV) := FSof (σ := Request) (fun a => smRequest a) (fun a => [.agg (rRequest .ro a)]) (fun a => (.agg (rRequest .mut a), [.u]))
@[go_sem] theorem F72_eq (xMethod : ByteArray) (xHost : ByteArray) (xPath : ByteArray) (xHeaders : List Header) (h : smRequest (Request.mk xMethod xHost xPath xHeaders)) : F72 [.agg [.s xMethod, .s xHost, .s xPath, .sl .ro 2 (xHeaders.map (rHeader .ro))]] = some (.agg (rRequest .mut (Request.mk xMethod xHost xPath xHeaders)), [.u]) :=
  FSof_eq (fun s s' h => rRequest_inj (by simpa using (List.cons.inj h).1)) (Request.mk xMethod xHost xPath xHeaders) h
theorem ev72 (n : Nat) (a : Request) (h : smRequest a) : evalFn (cx72 n) [.ro 1] Try.f72 [.agg (rRequest .ro a)] = some (.agg (rRequest .mut a), [.u]) := by
  obtain ⟨q0, q1, q2, q3⟩ := h
  rw [evalFn_eq _ _ Try.f72 _ _ _ rfl rfl]
  simp only [go_sem, reduceIte, ↓reduceIte, Nat.reduceAdd, Nat.reduceSub, Nat.reduceMul, Nat.reduceBEq, Nat.reduceEqDiff, Nat.reduceLeDiff, Nat.reduceLT, Nat.reduceBneDiff, reduceCtorEq, Int.reduceLE, Int.reduceLT, Int.reduceEq, Int.reduceAdd, Int.reduceMul, Int.reduceSub, Int.reduceNeg, Int.reduceBEq, Int.reduceBNe, Int.reduceToNat, q0, q1, q2, q3]
theorem spec72 : VSpec Try.prog 72 ⟨[.ro 1], F72, false⟩ :=
  spec_ro' (cx := cx72 0) (f := Try.f72) _ _ _ wide (cxOk _ rfl) fns72_ok Try.func72 (by decide) rfl (by kernel_rfl) (by decide) (by decide)
    (fun s h _ => ⟨0, ev72 0 s h⟩)
    (fun a _ => by simp only [hasRo, hasRoL, hasRoLL, rRequest, Bool.or_self, rHeader_noRo]) (fun _ => rfl)
noncomputable def fns40 : Nat → Option FS
  | 71 => some ⟨[.ro 1], F71, false⟩
  | 72 => some ⟨[.ro 1], F72, false⟩
  | _ => none
@[go_sem] theorem fns40_71 : fns40 71 = some ⟨[.ro 1], F71, false⟩ := nr rfl
@[go_sem] theorem fns40_72 : fns40 72 = some ⟨[.ro 1], F72, false⟩ := nr rfl
theorem fns40_ok : ∀ g fs, fns40 g = some fs → VSpec Try.prog g fs := by
  intro g fs h
  unfold fns40 at h
  split at h
  · injection h with h; subst h; exact spec71
  · injection h with h; subst h; exact spec72
  · cases h
noncomputable def cx40 (n : Nat) : Cx := { T := T, fns := fns40, cuts := (fun _ => []), vars := some ([0, 1, 2, 3], [1, 2, 3]), live := fun _ => none, al := [], rounds := n, plan := fun _ => none, fz := [] }
@[go_sem] theorem cx40_z (n : Nat) : (cx40 n).fz = [] := nr rfl
@[go_sem] theorem cx40_T (n : Nat) : (cx40 n).T = T := nr rfl
@[go_sem] theorem cx40_f (n : Nat) : (cx40 n).fns = fns40 := nr rfl
@[go_sem] theorem cx40_c (n k : Nat) : (cx40 n).cuts k = ((fun _ => [])) k := nr rfl
@[go_sem] theorem cx40_v (n : Nat) : (cx40 n).vars = some ([0, 1, 2, 3], [1, 2, 3]) := nr rfl
@[go_sem] theorem cx40_l (n k : Nat) : (cx40 n).live k = (fun _ => none) k := nr rfl
@[go_sem] theorem cx40_a (n : Nat) : (cx40 n).al = [] := nr rfl
@[go_sem] theorem cx40_p (n k : Nat) : (cx40 n).plan k = (fun _ => none) k := nr rfl
@[go_sem] theorem cx40_r (n : Nat) : (cx40 n).rounds = n := nr rfl
noncomputable def F40 : List AV → Option (AV × List AV) := FSof (σ := Out) (fun a => smOut a) (fun a => [.agg (rOut .ro a)]) (fun a => (.agg (rOut .mut a), [.u]))
@[go_sem] theorem F40_eq (xKind : Int) (xId : Int) (xSource : ByteArray) (xResponseStatus : Int) (xResponseHeaders : List Header) (xResponseBody : List UInt8) (xRequestMethod : ByteArray) (xRequestHost : ByteArray) (xRequestPath : ByteArray) (xRequestHeaders : List Header) (h : smOut (Out.mk xKind xId xSource (Response.mk xResponseStatus xResponseHeaders xResponseBody) (Request.mk xRequestMethod xRequestHost xRequestPath xRequestHeaders))) : F40 [.agg [.i .i64 xKind, .i .i64 xId, .s xSource, .i .i64 xResponseStatus, .sl .ro 2 (xResponseHeaders.map (rHeader .ro)), .sl .ro 1 (xResponseBody.map rByte), .s xRequestMethod, .s xRequestHost, .s xRequestPath, .sl .ro 2 (xRequestHeaders.map (rHeader .ro))]] = some (.agg (rOut .mut (Out.mk xKind xId xSource (Response.mk xResponseStatus xResponseHeaders xResponseBody) (Request.mk xRequestMethod xRequestHost xRequestPath xRequestHeaders))), [.u]) :=
  FSof_eq (fun s s' h => rOut_inj (by simpa using (List.cons.inj h).1)) (Out.mk xKind xId xSource (Response.mk xResponseStatus xResponseHeaders xResponseBody) (Request.mk xRequestMethod xRequestHost xRequestPath xRequestHeaders)) h
theorem ev40 (n : Nat) (a : Out) (h : smOut a) : evalFn (cx40 n) [.ro 1] Try.f40 [.agg (rOut .ro a)] = some (.agg (rOut .mut a), [.u]) := by
  obtain ⟨q0, q1, q2, q3, q4⟩ := h
  rw [evalFn_eq _ _ Try.f40 _ _ _ rfl rfl]
  simp only [go_sem, reduceIte, ↓reduceIte, Nat.reduceAdd, Nat.reduceSub, Nat.reduceMul, Nat.reduceBEq, Nat.reduceEqDiff, Nat.reduceLeDiff, Nat.reduceLT, Nat.reduceBneDiff, reduceCtorEq, Int.reduceLE, Int.reduceLT, Int.reduceEq, Int.reduceAdd, Int.reduceMul, Int.reduceSub, Int.reduceNeg, Int.reduceBEq, Int.reduceBNe, Int.reduceToNat, q0, q1, q2, q3, q4]
theorem spec40 : VSpec Try.prog 40 ⟨[.ro 1], F40, false⟩ :=
  spec_ro' (cx := cx40 0) (f := Try.f40) _ _ _ wide (cxOk _ rfl) fns40_ok Try.func40 (by decide) rfl (by kernel_rfl) (by decide) (by decide)
    (fun s h _ => ⟨0, ev40 0 s h⟩)
    (fun a _ => by simp only [hasRo, hasRoL, hasRoLL, rOut, Bool.or_self, rHeader_noRo, rByte_noRo, rHeader_noRo]) (fun _ => rfl)
noncomputable def fns15 : Nat → Option FS
  | 40 => some ⟨[.ro 1], F40, false⟩
  | _ => none
@[go_sem] theorem fns15_40 : fns15 40 = some ⟨[.ro 1], F40, false⟩ := nr rfl
theorem fns15_ok : ∀ g fs, fns15 g = some fs → VSpec Try.prog g fs := by
  intro g fs h
  unfold fns15 at h
  split at h
  · injection h with h; subst h; exact spec40
  · cases h
noncomputable def cx15 (n : Nat) : Cx := { T := T, fns := fns15, cuts := (fun | 5 => [none, none, none, none, none, none, some [0, 2, 3, 4, 11, 14, 15, 19]] | _ => []), vars := some ([0, 2, 3, 4, 11], []), live := fun _ => some ([0, 2, 3, 4], []), al := [], rounds := n, plan := fun _ => none, fz := [] }
@[go_sem] theorem cx15_z (n : Nat) : (cx15 n).fz = [] := nr rfl
@[go_sem] theorem cx15_T (n : Nat) : (cx15 n).T = T := nr rfl
@[go_sem] theorem cx15_f (n : Nat) : (cx15 n).fns = fns15 := nr rfl
@[go_sem] theorem cx15_c (n k : Nat) : (cx15 n).cuts k = ((fun | 5 => [none, none, none, none, none, none, some [0, 2, 3, 4, 11, 14, 15, 19]] | _ => [])) k := nr rfl
@[go_sem] theorem cx15_v (n : Nat) : (cx15 n).vars = some ([0, 2, 3, 4, 11], []) := nr rfl
@[go_sem] theorem cx15_l (n k : Nat) : (cx15 n).live k = (fun _ => some ([0, 2, 3, 4], [])) k := nr rfl
@[go_sem] theorem cx15_a (n : Nat) : (cx15 n).al = [] := nr rfl
@[go_sem] theorem cx15_p (n k : Nat) : (cx15 n).plan k = (fun _ => none) k := nr rfl
@[go_sem] theorem cx15_r (n : Nat) : (cx15 n).rounds = n := nr rfl
def st15 (v0 v2 v3 v4 v11 : AV) : St := ⟨E [(0, v0), (2, v2), (3, v3), (4, v4), (11, v11)], B []⟩
@[go_sem] theorem st15_def (v0 v2 v3 v4 v11 : AV) : st15 v0 v2 v3 v4 v11 = ⟨E [(0, v0), (2, v2), (3, v3), (4, v4), (11, v11)], B []⟩ := nr rfl
noncomputable def F15 : List AV → Option (AV × List AV) := FSof (σ := List Out) (fun xs => smL smOut xs) (fun xs => [.sl .ro 10 (xs.map (rOut .ro))]) (fun xs => (.sl .mut 10 (xs.map (rOut .mut)), [.u]))
@[go_sem] theorem F15_eq (xs : List Out) (h : smL smOut xs) : F15 [.sl .ro 10 (xs.map (rOut .ro))] = some (.sl .mut 10 (xs.map (rOut .mut)), [.u]) :=
  FSof_eq (fun s s' h => (rOut_mi _ _ _).1 (by simpa using (List.cons.inj h).1)) xs h
theorem rd15 (N : Nat) (xs : List Out) (hs : smL smOut xs) (k : Nat) (hk : k < xs.length) : ∃ j11, ∀ G, seqE (evCode (cx15 N) 0 (loopN Try.f15 0) ⟨E [(0, .sl .ro 10 (xs.map (rOut .ro))), (2, .sl .mut 10 []), (3, .sl .mut 10 (fillUp (rOut .mut) [.i .i64 0, .i .i64 0, .s ⟨#[]⟩, .i .i64 0, .sl .mut 2 [], .sl .mut 1 [], .s ⟨#[]⟩, .s ⟨#[]⟩, .s ⟨#[]⟩, .sl .mut 2 []] xs k)), (4, .i .i64 k)], B []⟩) G = G (st15 (.sl .ro 10 (xs.map (rOut .ro))) (.sl .mut 10 []) (.sl .mut 10 (fillUp (rOut .mut) [.i .i64 0, .i .i64 0, .s ⟨#[]⟩, .i .i64 0, .sl .mut 2 [], .sl .mut 1 [], .s ⟨#[]⟩, .s ⟨#[]⟩, .s ⟨#[]⟩, .sl .mut 2 []] xs (k + 1))) (.i .i64 ((k + 1 : Nat) : Int)) j11) := by
  have h1 : ((k : Int) < (xs.length : Int)) := Int.ofNat_lt.2 hk
  have hb := hs.1
  have h2 := smL_get hs hk
  have h3 : (fillUp (rOut .mut) [.i .i64 0, .i .i64 0, .s ⟨#[]⟩, .i .i64 0, .sl .mut 2 [], .sl .mut 1 [], .s ⟨#[]⟩, .s ⟨#[]⟩, .s ⟨#[]⟩, .sl .mut 2 []] xs k).set k [.i .i64 xs[k].Kind, .i .i64 xs[k].Id, .s xs[k].Source, .i .i64 xs[k].Response.Status, .sl .mut 2 (xs[k].Response.Headers.map (rHeader .mut)), .sl .mut 1 (xs[k].Response.Body.map rByte), .s xs[k].Request.Method, .s xs[k].Request.Host, .s xs[k].Request.Path, .sl .mut 2 (xs[k].Request.Headers.map (rHeader .mut))] = fillUp (rOut .mut) [.i .i64 0, .i .i64 0, .s ⟨#[]⟩, .i .i64 0, .sl .mut 2 [], .sl .mut 1 [], .s ⟨#[]⟩, .s ⟨#[]⟩, .s ⟨#[]⟩, .sl .mut 2 []] xs (k + 1) := fillUp_set (rOut .mut) [.i .i64 0, .i .i64 0, .s ⟨#[]⟩, .i .i64 0, .sl .mut 2 [], .sl .mut 1 [], .s ⟨#[]⟩, .s ⟨#[]⟩, .s ⟨#[]⟩, .sl .mut 2 []] xs k hk
  rw [loopN_eq Try.f15 0 _ _ rfl rfl]
  simp only [go_sem, reduceIte, ↓reduceIte, Nat.reduceAdd, Nat.reduceSub, Nat.reduceMul, Nat.reduceBEq, Nat.reduceEqDiff, Nat.reduceLeDiff, Nat.reduceLT, Nat.reduceBneDiff, reduceCtorEq, Int.reduceLE, Int.reduceLT, Int.reduceEq, Int.reduceAdd, Int.reduceMul, Int.reduceSub, Int.reduceNeg, Int.reduceBEq, Int.reduceBNe, Int.reduceToNat, h1, h2, idx_nt _ _ hk, map_gd (rOut .ro) xs k hk, fillUp_get (rOut .mut) [.i .i64 0, .i .i64 0, .s ⟨#[]⟩, .i .i64 0, .sl .mut 2 [], .sl .mut 1 [], .s ⟨#[]⟩, .s ⟨#[]⟩, .s ⟨#[]⟩, .sl .mut 2 []] xs k hk, fillUp_getD (rOut .mut) [.i .i64 0, .i .i64 0, .s ⟨#[]⟩, .i .i64 0, .sl .mut 2 [], .sl .mut 1 [], .s ⟨#[]⟩, .s ⟨#[]⟩, .s ⟨#[]⟩, .sl .mut 2 []] xs k hk, fillUp_len (rOut .mut) [.i .i64 0, .i .i64 0, .s ⟨#[]⟩, .i .i64 0, .sl .mut 2 [], .sl .mut 1 [], .s ⟨#[]⟩, .s ⟨#[]⟩, .s ⟨#[]⟩, .sl .mut 2 []] xs k (Nat.le_of_lt hk), h3, wrap_nat1 (show k < 9223372036854775807 by omega)]
  exact ⟨_, fun G => rfl⟩
theorem en15 (N : Nat) (xs : List Out) : ∃ j11, ∀ G, seqE (evCode (cx15 N) 0 (loopN Try.f15 0) ⟨E [(0, .sl .ro 10 (xs.map (rOut .ro))), (2, .sl .mut 10 []), (3, .sl .mut 10 (xs.map (rOut .mut))), (4, .i .i64 xs.length)], B []⟩) G = some (.ex 0, st15 (.sl .ro 10 (xs.map (rOut .ro))) (.sl .mut 10 []) (.sl .mut 10 (xs.map (rOut .mut))) (.i .i64 xs.length) j11) := by
  rw [loopN_eq Try.f15 0 _ _ rfl rfl]
  simp only [go_sem, reduceIte, ↓reduceIte, Nat.reduceAdd, Nat.reduceSub, Nat.reduceMul, Nat.reduceBEq, Nat.reduceEqDiff, Nat.reduceLeDiff, Nat.reduceLT, Nat.reduceBneDiff, reduceCtorEq, Int.reduceLE, Int.reduceLT, Int.reduceEq, Int.reduceAdd, Int.reduceMul, Int.reduceSub, Int.reduceNeg, Int.reduceBEq, Int.reduceBNe, Int.reduceToNat, Int.lt_irrefl]
  exact ⟨_, fun G => rfl⟩
theorem lp15 (N : Nat) (xs : List Out) (hs : smL smOut xs) (hN : xs.length + 1 ≤ N) : ∃ r, (∀ st, keep ((cx15 N).live 0) st = ⟨E [(0, .sl .ro 10 (xs.map (rOut .ro))), (2, .sl .mut 10 []), (3, .sl .mut 10 (fillUp (rOut .mut) [.i .i64 0, .i .i64 0, .s ⟨#[]⟩, .i .i64 0, .sl .mut 2 [], .sl .mut 1 [], .s ⟨#[]⟩, .s ⟨#[]⟩, .s ⟨#[]⟩, .sl .mut 2 []] xs 0)), (4, .i .i64 (0 : Nat))], B []⟩ → loopE (cx15 N) 0 (loopN Try.f15 0) N st = r) ∧
    ∃ j11, r = some (.ex 0, st15 (.sl .ro 10 (xs.map (rOut .ro))) (.sl .mut 10 []) (.sl .mut 10 (xs.map (rOut .mut))) (.i .i64 xs.length) j11) := by
  obtain ⟨r, h1, h2⟩ := loop_ix (cx := cx15 N) (blk := 0) (body := loopN Try.f15 0) xs.length (fun k (_ : Unit) => ⟨E [(0, .sl .ro 10 (xs.map (rOut .ro))), (2, .sl .mut 10 []), (3, .sl .mut 10 (fillUp (rOut .mut) [.i .i64 0, .i .i64 0, .s ⟨#[]⟩, .i .i64 0, .sl .mut 2 [], .sl .mut 1 [], .s ⟨#[]⟩, .s ⟨#[]⟩, .s ⟨#[]⟩, .sl .mut 2 []] xs k)), (4, .i .i64 k)], B []⟩)
    (fun k _ r => ∃ j11, r = some (.ex 0, st15 (.sl .ro 10 (xs.map (rOut .ro))) (.sl .mut 10 []) (.sl .mut 10 (xs.map (rOut .mut))) (.i .i64 xs.length) j11))
    (fun _ G => by
      obtain ⟨j11, he⟩ := en15 N xs
      simp only [fillUp_all]
      exact ⟨j11, he G⟩)
    (fun k hk _ => by
      obtain ⟨j11, he⟩ := rd15 N xs hs k hk
      refine .inr ⟨_, (), ?_, fun r hr => hr, fun G => he G⟩
      simp only [go_sem, reduceIte, ↓reduceIte, Nat.reduceAdd, Nat.reduceSub, Nat.reduceMul, Nat.reduceBEq, Nat.reduceEqDiff, Nat.reduceLeDiff, Nat.reduceLT, Nat.reduceBneDiff, reduceCtorEq, Int.reduceLE, Int.reduceLT, Int.reduceEq, Int.reduceAdd, Int.reduceMul, Int.reduceSub, Int.reduceNeg, Int.reduceBEq, Int.reduceBNe, Int.reduceToNat]) N hN ()
  exact ⟨r, h1, h2⟩
theorem ev15 (n : Nat) (xs : List Out) (hs : smL smOut xs) (hN : xs.length + 1 ≤ n) : evalFn (cx15 n) [.ro 1] Try.f15 [.sl .ro 10 (xs.map (rOut .ro))] = some (.sl .mut 10 (xs.map (rOut .mut)), [.u]) := by
  have hb := hs.1
  have c1 : ((xs.length : Int) * (160 : Nat) ≤ 140737488355328) := by omega
  have c2 : 0 ≤ (xs.length : Int) := by omega
  rw [evalFn_eq _ _ Try.f15 _ _ _ rfl rfl]
  simp only [go_sem, reduceIte, ↓reduceIte, Nat.reduceAdd, Nat.reduceSub, Nat.reduceMul, Nat.reduceBEq, Nat.reduceEqDiff, Nat.reduceLeDiff, Nat.reduceLT, Nat.reduceBneDiff, reduceCtorEq, Int.reduceLE, Int.reduceLT, Int.reduceEq, Int.reduceAdd, Int.reduceMul, Int.reduceSub, Int.reduceNeg, Int.reduceBEq, Int.reduceBNe, Int.reduceToNat, c1, c2, Int.toNat_natCast, fillUp_zero (rOut .mut) [.i .i64 0, .i .i64 0, .s ⟨#[]⟩, .i .i64 0, .sl .mut 2 [], .sl .mut 1 [], .s ⟨#[]⟩, .s ⟨#[]⟩, .s ⟨#[]⟩, .sl .mut 2 []]]
  obtain ⟨r, h1, h2⟩ := lp15 n xs hs hN
  rw [loopN_eq Try.f15 0 _ _ rfl rfl] at h1
  rw [h1]
  · obtain ⟨j11, rfl⟩ := h2
    simp only [go_sem, reduceIte, ↓reduceIte, Nat.reduceAdd, Nat.reduceSub, Nat.reduceMul, Nat.reduceBEq, Nat.reduceEqDiff, Nat.reduceLeDiff, Nat.reduceLT, Nat.reduceBneDiff, reduceCtorEq, Int.reduceLE, Int.reduceLT, Int.reduceEq, Int.reduceAdd, Int.reduceMul, Int.reduceSub, Int.reduceNeg, Int.reduceBEq, Int.reduceBNe, Int.reduceToNat]
  · simp only [go_sem, reduceIte, ↓reduceIte, Nat.reduceAdd, Nat.reduceSub, Nat.reduceMul, Nat.reduceBEq, Nat.reduceEqDiff, Nat.reduceLeDiff, Nat.reduceLT, Nat.reduceBneDiff, reduceCtorEq, Int.reduceLE, Int.reduceLT, Int.reduceEq, Int.reduceAdd, Int.reduceMul, Int.reduceSub, Int.reduceNeg, Int.reduceBEq, Int.reduceBNe, Int.reduceToNat]
    rfl
theorem spec15 : VSpec Try.prog 15 ⟨[.ro 1], F15, false⟩ :=
  spec_ro' (cx := cx15 0) (f := Try.f15) _ _ _ wide (cxOk _ rfl) fns15_ok Try.func15 (by decide) rfl (by kernel_rfl) (by decide) (by decide)
    (fun s h _ => ⟨s.length + 1, ev15 _ s h (Nat.le_refl _)⟩)
    (fun a _ => by simp only [hasRo, rOut_noRo]) (fun _ => rfl)
end Go.Vm.A
set_option autoImplicit false
set_option maxRecDepth 100000
set_option maxHeartbeats 4000000
set_option linter.unusedVariables false
set_option linter.unusedSimpArgs false
namespace Go.Vm.A
open Go.Proofs
attribute [local go_sem] Nat.add_zero Nat.zero_add List.contains_cons List.contains_nil List.elem_cons List.elem_nil List.length_cons List.length_nil List.map_cons List.map_nil List.all_cons List.all_nil List.any_cons List.any_nil List.getElem?_cons_zero List.getElem?_cons_succ List.getElem?_nil List.getD_cons_zero List.getD_cons_succ List.append_nil List.nil_append List.cons_append List.isEmpty_cons List.isEmpty_nil List.headD_cons List.headD_nil List.tail_cons List.tail_nil List.take_nil List.drop_nil Bool.and_true Bool.true_and Bool.or_false Bool.or_true Bool.false_or Bool.true_or Bool.not_true Bool.not_false Bool.and_false Bool.false_and Bool.false_eq_true Bool.true_eq_false Bool.and_self Bool.not_not decide_true decide_false decide_eq_true_eq beq_self_eq_true Nat.le_refl Nat.zero_le and_self true_and and_true false_and and_false or_true true_or if_true if_false Option.map_some Option.map_none Option.isSome_none Option.isSome_some eq_self_iff_true not_true_eq_false not_false_eq_true ne_eq Nat.not_lt_zero Nat.succ_ne_zero List.length_map List.set_cons_zero List.set_cons_succ gt_iff_lt ge_iff_le List.take_succ_cons List.take_zero List.drop_zero List.drop_succ_cons bne_self_eq_false

noncomputable def cx17 (n : Nat) : Cx := { T := T, fns := (fun _ => none), cuts := (fun _ => []), vars := some ([0, 1, 2, 3, 4, 9, 14], [2, 3]), live := fun _ => none, al := [], rounds := n, plan := fun _ => none, fz := [] }
@[go_sem] theorem cx17_z (n : Nat) : (cx17 n).fz = [] := nr rfl
@[go_sem] theorem cx17_T (n : Nat) : (cx17 n).T = T := nr rfl
@[go_sem] theorem cx17_f (n : Nat) : (cx17 n).fns = (fun _ => none) := nr rfl
@[go_sem] theorem cx17_c (n k : Nat) : (cx17 n).cuts k = ((fun _ => [])) k := nr rfl
@[go_sem] theorem cx17_v (n : Nat) : (cx17 n).vars = some ([0, 1, 2, 3, 4, 9, 14], [2, 3]) := nr rfl
@[go_sem] theorem cx17_l (n k : Nat) : (cx17 n).live k = (fun _ => none) k := nr rfl
@[go_sem] theorem cx17_a (n : Nat) : (cx17 n).al = [] := nr rfl
@[go_sem] theorem cx17_p (n k : Nat) : (cx17 n).plan k = (fun _ => none) k := nr rfl
@[go_sem] theorem cx17_r (n : Nat) : (cx17 n).rounds = n := nr rfl
noncomputable def F17 : List AV → Option (AV × List AV) := FSof (σ := IntResult × IntResult) (fun _ => True) (fun s => [.agg (rIntResult .ro s.1), .agg (rIntResult .ro s.2)]) (fun s => (.b (eqv s.1 s.2), [.u, .u]))
@[go_sem] theorem F17_eq (xCode : Int) (xValue : Int) (yCode : Int) (yValue : Int) : F17 [.agg [.i .i64 xCode, .i .i64 xValue], .agg [.i .i64 yCode, .i .i64 yValue]] = some (.b (eqv (IntResult.mk xCode xValue) (IntResult.mk yCode yValue)), [.u, .u]) :=
  FSof_eq (fun s s' h => Prod.ext (rIntResult_inj (by simpa using (List.cons.inj h).1)) (rIntResult_inj (by simpa using (List.cons.inj h).2))) ((IntResult.mk xCode xValue), (IntResult.mk yCode yValue)) trivial
theorem ev17 (n : Nat) (a b : IntResult) : evalFn (cx17 n) [.ro 1, .ro 1] Try.f17 [.agg (rIntResult .ro a), .agg (rIntResult .ro b)] = some (.b (eqv a b), [.u, .u]) := by
  rw [evalFn_eq _ _ Try.f17 _ _ _ rfl rfl]
  simp only [go_sem, reduceIte, ↓reduceIte, Nat.reduceAdd, Nat.reduceSub, Nat.reduceMul, Nat.reduceBEq, Nat.reduceEqDiff, Nat.reduceLeDiff, Nat.reduceLT, Nat.reduceBneDiff, reduceCtorEq, Int.reduceLE, Int.reduceLT, Int.reduceEq, Int.reduceAdd, Int.reduceMul, Int.reduceSub, Int.reduceNeg, Int.reduceBEq, Int.reduceBNe, Int.reduceToNat, eqv_intne, eqv_bytes, eqv_boolne]
  simp only [IntResult.eqv a b, if_b, not_eq_t, if_nb, Bool.and_true]
theorem spec17 : VSpec Try.prog 17 ⟨[.ro 1, .ro 1], F17, false⟩ :=
  spec_ro' (cx := cx17 0) (f := Try.f17) _ _ _ wide (cxOk _ rfl) (fun g fs h => by cases h) Try.func17 (by decide) rfl (by kernel_rfl) (by decide) (by decide)
    (fun s _ _ => ⟨0, ev17 0 s.1 s.2⟩)
    (fun _ _ => rfl) (fun _ => rfl)
noncomputable def cx96 (n : Nat) : Cx := { T := T, fns := (fun _ => none), cuts := (fun _ => []), vars := some ([0, 1, 2, 3, 4, 9, 14], [2, 3]), live := fun _ => none, al := [], rounds := n, plan := fun _ => none, fz := [] }
@[go_sem] theorem cx96_z (n : Nat) : (cx96 n).fz = [] := nr rfl
@[go_sem] theorem cx96_T (n : Nat) : (cx96 n).T = T := nr rfl
@[go_sem] theorem cx96_f (n : Nat) : (cx96 n).fns = (fun _ => none) := nr rfl
@[go_sem] theorem cx96_c (n k : Nat) : (cx96 n).cuts k = ((fun _ => [])) k := nr rfl
@[go_sem] theorem cx96_v (n : Nat) : (cx96 n).vars = some ([0, 1, 2, 3, 4, 9, 14], [2, 3]) := nr rfl
@[go_sem] theorem cx96_l (n k : Nat) : (cx96 n).live k = (fun _ => none) k := nr rfl
@[go_sem] theorem cx96_a (n : Nat) : (cx96 n).al = [] := nr rfl
@[go_sem] theorem cx96_p (n k : Nat) : (cx96 n).plan k = (fun _ => none) k := nr rfl
@[go_sem] theorem cx96_r (n : Nat) : (cx96 n).rounds = n := nr rfl
noncomputable def F96 : List AV → Option (AV × List AV) := FSof (σ := Header × Header) (fun _ => True) (fun s => [.agg (rHeader .ro s.1), .agg (rHeader .ro s.2)]) (fun s => (.b (eqv s.1 s.2), [.u, .u]))
@[go_sem] theorem F96_eq (xName : ByteArray) (xValue : ByteArray) (yName : ByteArray) (yValue : ByteArray) : F96 [.agg [.s xName, .s xValue], .agg [.s yName, .s yValue]] = some (.b (eqv (Header.mk xName xValue) (Header.mk yName yValue)), [.u, .u]) :=
  FSof_eq (fun s s' h => Prod.ext (rHeader_inj (by simpa using (List.cons.inj h).1)) (rHeader_inj (by simpa using (List.cons.inj h).2))) ((Header.mk xName xValue), (Header.mk yName yValue)) trivial
theorem ev96 (n : Nat) (a b : Header) : evalFn (cx96 n) [.ro 1, .ro 1] Try.f96 [.agg (rHeader .ro a), .agg (rHeader .ro b)] = some (.b (eqv a b), [.u, .u]) := by
  rw [evalFn_eq _ _ Try.f96 _ _ _ rfl rfl]
  simp only [go_sem, reduceIte, ↓reduceIte, Nat.reduceAdd, Nat.reduceSub, Nat.reduceMul, Nat.reduceBEq, Nat.reduceEqDiff, Nat.reduceLeDiff, Nat.reduceLT, Nat.reduceBneDiff, reduceCtorEq, Int.reduceLE, Int.reduceLT, Int.reduceEq, Int.reduceAdd, Int.reduceMul, Int.reduceSub, Int.reduceNeg, Int.reduceBEq, Int.reduceBNe, Int.reduceToNat, eqv_intne, eqv_bytes, eqv_boolne]
  simp only [Header.eqv a b, if_b, not_eq_t, if_nb, Bool.and_true]
theorem spec96 : VSpec Try.prog 96 ⟨[.ro 1, .ro 1], F96, false⟩ :=
  spec_ro' (cx := cx96 0) (f := Try.f96) _ _ _ wide (cxOk _ rfl) (fun g fs h => by cases h) Try.func96 (by decide) rfl (by kernel_rfl) (by decide) (by decide)
    (fun s _ _ => ⟨0, ev96 0 s.1 s.2⟩)
    (fun _ _ => rfl) (fun _ => rfl)
noncomputable def fns63 : Nat → Option FS
  | 96 => some ⟨[.ro 1, .ro 1], F96, false⟩
  | _ => none
@[go_sem] theorem fns63_96 : fns63 96 = some ⟨[.ro 1, .ro 1], F96, false⟩ := nr rfl
theorem fns63_ok : ∀ g fs, fns63 g = some fs → VSpec Try.prog g fs := by
  intro g fs h
  unfold fns63 at h
  split at h
  · injection h with h; subst h; exact spec96
  · cases h
noncomputable def cx63 (n : Nat) : Cx := { T := T, fns := fns63, cuts := (fun | 6 => [none, none, none, none, none, none, some [0, 1, 4, 5, 10, 14, 20, 21, 22, 26]] | _ => []), vars := some ([0, 1, 4, 5, 10, 14, 26], []), live := fun _ => some ([0, 1, 4, 5], []), al := [], rounds := n, plan := fun | 6 => some (.take 0 (.take 1 (.take 2 (.take 3 (.take 4 (.take 5 (.take 6 (.take 7 (.one 8 (.take 9 .done)))))))))) | _ => none, fz := [] }
@[go_sem] theorem cx63_z (n : Nat) : (cx63 n).fz = [] := nr rfl
@[go_sem] theorem cx63_T (n : Nat) : (cx63 n).T = T := nr rfl
@[go_sem] theorem cx63_f (n : Nat) : (cx63 n).fns = fns63 := nr rfl
@[go_sem] theorem cx63_c (n k : Nat) : (cx63 n).cuts k = ((fun | 6 => [none, none, none, none, none, none, some [0, 1, 4, 5, 10, 14, 20, 21, 22, 26]] | _ => [])) k := nr rfl
@[go_sem] theorem cx63_v (n : Nat) : (cx63 n).vars = some ([0, 1, 4, 5, 10, 14, 26], []) := nr rfl
@[go_sem] theorem cx63_l (n k : Nat) : (cx63 n).live k = (fun _ => some ([0, 1, 4, 5], [])) k := nr rfl
@[go_sem] theorem cx63_a (n : Nat) : (cx63 n).al = [] := nr rfl
@[go_sem] theorem cx63_p (n k : Nat) : (cx63 n).plan k = (fun | 6 => some (.take 0 (.take 1 (.take 2 (.take 3 (.take 4 (.take 5 (.take 6 (.take 7 (.one 8 (.take 9 .done)))))))))) | _ => none) k := nr rfl
@[go_sem] theorem cx63_r (n : Nat) : (cx63 n).rounds = n := nr rfl
def st63 (v0 v1 v4 v5 v10 v14 v26 : AV) : St := ⟨E [(0, v0), (1, v1), (4, v4), (5, v5), (10, v10), (14, v14), (26, v26)], B []⟩
@[go_sem] theorem st63_def (v0 v1 v4 v5 v10 v14 v26 : AV) : st63 v0 v1 v4 v5 v10 v14 v26 = ⟨E [(0, v0), (1, v1), (4, v4), (5, v5), (10, v10), (14, v14), (26, v26)], B []⟩ := nr rfl
noncomputable def F63 : List AV → Option (AV × List AV) := FSof (σ := List Header × List Header) (fun _ => True) (fun s => [.sl .ro 2 (s.1.map (rHeader .ro)), .sl .ro 2 (s.2.map (rHeader .ro))]) (fun s => (.b (eqv s.1 s.2), [.u, .u]))
@[go_sem] theorem F63_eq (xs ys : List Header) : F63 [.sl .ro 2 (xs.map (rHeader .ro)), .sl .ro 2 (ys.map (rHeader .ro))] = some (.b (eqv xs ys), [.u, .u]) :=
  FSof_eq (fun s s' h => Prod.ext ((rHeader_mi _ _ _).1 (by simpa using (List.cons.inj h).1)) ((rHeader_mi _ _ _).1 (by simpa using (List.cons.inj h).2))) (xs, ys) trivial
theorem rd63 (N : Nat) (xs ys : List Header) (k : Nat) (hk : k < xs.length) (hy : k < ys.length) (hb : xs.length ≤ 9223372036854775807) : ∃ j10 j14 j26 i10 i14 i26, ∀ G, seqE (evCode (cx63 N) 0 (loopN Try.f63 0) ⟨E [(0, .sl .ro 2 (xs.map (rHeader .ro))), (1, .sl .ro 2 (ys.map (rHeader .ro))), (4, .b false), (5, .i .i64 k)], B []⟩) G =
    if (!eqv xs[k] ys[k]) = true then some (.ret, st63 (.sl .ro 2 (xs.map (rHeader .ro))) (.sl .ro 2 (ys.map (rHeader .ro))) (.b false) (.i .i64 k) j10 j14 j26) else G (st63 (.sl .ro 2 (xs.map (rHeader .ro))) (.sl .ro 2 (ys.map (rHeader .ro))) (.b false) (.i .i64 ((k + 1 : Nat) : Int)) i10 i14 i26) := by
  have h1 : ((k : Int) < (xs.length : Int)) := Int.ofNat_lt.2 hk
  rw [loopN_eq Try.f63 0 _ _ rfl rfl]
  simp only [go_sem, reduceIte, ↓reduceIte, Nat.reduceAdd, Nat.reduceSub, Nat.reduceMul, Nat.reduceBEq, Nat.reduceEqDiff, Nat.reduceLeDiff, Nat.reduceLT, Nat.reduceBneDiff, reduceCtorEq, Int.reduceLE, Int.reduceLT, Int.reduceEq, Int.reduceAdd, Int.reduceMul, Int.reduceSub, Int.reduceNeg, Int.reduceBEq, Int.reduceBNe, Int.reduceToNat, h1, idx_nt _ _ hk, idx_nt _ _ hy, map_gd (rHeader .ro) xs k hk, map_gd (rHeader .ro) ys k hy, wrap_nat1 (show k < 9223372036854775807 by omega)]
  exact ⟨_, _, _, _, _, _, fun G => rfl⟩
theorem en63 (N : Nat) (xs ys : List Header) : ∃ j10 j14 j26, ∀ G, seqE (evCode (cx63 N) 0 (loopN Try.f63 0) ⟨E [(0, .sl .ro 2 (xs.map (rHeader .ro))), (1, .sl .ro 2 (ys.map (rHeader .ro))), (4, .b false), (5, .i .i64 xs.length)], B []⟩) G = some (.ex 0, st63 (.sl .ro 2 (xs.map (rHeader .ro))) (.sl .ro 2 (ys.map (rHeader .ro))) (.b false) (.i .i64 xs.length) j10 j14 j26) := by
  rw [loopN_eq Try.f63 0 _ _ rfl rfl]
  simp only [go_sem, reduceIte, ↓reduceIte, Nat.reduceAdd, Nat.reduceSub, Nat.reduceMul, Nat.reduceBEq, Nat.reduceEqDiff, Nat.reduceLeDiff, Nat.reduceLT, Nat.reduceBneDiff, reduceCtorEq, Int.reduceLE, Int.reduceLT, Int.reduceEq, Int.reduceAdd, Int.reduceMul, Int.reduceSub, Int.reduceNeg, Int.reduceBEq, Int.reduceBNe, Int.reduceToNat, Int.lt_irrefl]
  exact ⟨_, _, _, fun G => rfl⟩
theorem lp63 (N : Nat) (xs ys : List Header) (hl : xs.length = ys.length) (hb : xs.length ≤ 9223372036854775807) (hN : xs.length + 1 ≤ N) : ∃ r, (∀ st, keep ((cx63 N).live 0) st = ⟨E [(0, .sl .ro 2 (xs.map (rHeader .ro))), (1, .sl .ro 2 (ys.map (rHeader .ro))), (4, .b false), (5, .i .i64 (0 : Nat))], B []⟩ → loopE (cx63 N) 0 (loopN Try.f63 0) N st = r) ∧
    ((xs = ys ∧ ∃ j10 j14 j26, r = some (.ex 0, st63 (.sl .ro 2 (xs.map (rHeader .ro))) (.sl .ro 2 (ys.map (rHeader .ro))) (.b false) (.i .i64 xs.length) j10 j14 j26)) ∨ (xs ≠ ys ∧ ∃ b j10 j14 j26, r = some (.ret, st63 (.sl .ro 2 (xs.map (rHeader .ro))) (.sl .ro 2 (ys.map (rHeader .ro))) (.b false) (b) j10 j14 j26))) := by
  obtain ⟨r, h1, h2⟩ := loop_ix (cx := cx63 N) (blk := 0) (body := loopN Try.f63 0) xs.length (fun k (_ : Unit) => ⟨E [(0, .sl .ro 2 (xs.map (rHeader .ro))), (1, .sl .ro 2 (ys.map (rHeader .ro))), (4, .b false), (5, .i .i64 k)], B []⟩)
    (fun k _ r => ((xs.drop k = ys.drop k ∧ ∃ j10 j14 j26, r = some (.ex 0, st63 (.sl .ro 2 (xs.map (rHeader .ro))) (.sl .ro 2 (ys.map (rHeader .ro))) (.b false) (.i .i64 xs.length) j10 j14 j26)) ∨ (xs.drop k ≠ ys.drop k ∧ ∃ b j10 j14 j26, r = some (.ret, st63 (.sl .ro 2 (xs.map (rHeader .ro))) (.sl .ro 2 (ys.map (rHeader .ro))) (.b false) (b) j10 j14 j26))))
    (fun _ G => by
      obtain ⟨j10, j14, j26, he⟩ := en63 N xs ys
      exact .inl ⟨by rw [List.drop_length, hl, List.drop_length], j10, j14, j26, he G⟩)
    (fun k hk _ => by
      obtain ⟨j10, j14, j26, i10, i14, i26, he⟩ := rd63 N xs ys k hk (by omega) hb
      rw [List.drop_eq_getElem_cons hk, List.drop_eq_getElem_cons (show k < ys.length by omega)]
      by_cases hc : xs[k] = ys[k]'(by omega)
      · have hcc : ¬ ((!eqv xs[k] (ys[k]'(by omega))) = true) := by rw [hc, eqv_self]; simp
        refine .inr ⟨_, (), ?_, fun r hr => ?_, fun G => (he G).trans (if_neg hcc)⟩
        · simp only [go_sem, reduceIte, ↓reduceIte, Nat.reduceAdd, Nat.reduceSub, Nat.reduceMul, Nat.reduceBEq, Nat.reduceEqDiff, Nat.reduceLeDiff, Nat.reduceLT, Nat.reduceBneDiff, reduceCtorEq, Int.reduceLE, Int.reduceLT, Int.reduceEq, Int.reduceAdd, Int.reduceMul, Int.reduceSub, Int.reduceNeg, Int.reduceBEq, Int.reduceBNe, Int.reduceToNat]
        · simpa only [List.cons.injEq, hc, true_and, ne_eq] using hr
      · have hcc : (!eqv xs[k] (ys[k]'(by omega))) = true := by
          cases h : eqv xs[k] (ys[k]'(by omega)) with
          | true => exact absurd (eqv_iff.1 h) hc
          | false => rfl
        exact .inl fun G => .inr ⟨fun h => hc (List.cons.inj h).1, _, j10, j14, j26, (he G).trans (if_pos hcc)⟩) N hN ()
  exact ⟨r, h1, h2⟩
theorem ev63 (n : Nat) (xs ys : List Header) (hb : xs.length ≤ 9223372036854775807) (hN : xs.length + 1 ≤ n) : evalFn (cx63 n) [.ro 1, .ro 1] Try.f63 [.sl .ro 2 (xs.map (rHeader .ro)), .sl .ro 2 (ys.map (rHeader .ro))] = some (.b (eqv xs ys), [.u, .u]) := by
  rw [evalFn_eq _ _ Try.f63 _ _ _ rfl rfl]
  simp only [go_sem, reduceIte, ↓reduceIte, Nat.reduceAdd, Nat.reduceSub, Nat.reduceMul, Nat.reduceBEq, Nat.reduceEqDiff, Nat.reduceLeDiff, Nat.reduceLT, Nat.reduceBneDiff, reduceCtorEq, Int.reduceLE, Int.reduceLT, Int.reduceEq, Int.reduceAdd, Int.reduceMul, Int.reduceSub, Int.reduceNeg, Int.reduceBEq, Int.reduceBNe, Int.reduceToNat]
  by_cases hl : xs.length = ys.length
  · have h0 : ((xs.length : Int) != (ys.length : Int)) = false := by simp [hl]
    rw [if_neg (by rw [h0]; simp)]
    obtain ⟨r, h1, h2⟩ := lp63 n xs ys hl hb hN
    rw [loopN_eq Try.f63 0 _ _ rfl rfl] at h1
    rw [h1]
    · rcases h2 with ⟨e1, j10, j14, j26, rfl⟩ | ⟨e1, b, j10, j14, j26, rfl⟩
      · have e2 : eqv xs ys = true := eqv_iff.2 e1
        simp only [go_sem, reduceIte, ↓reduceIte, Nat.reduceAdd, Nat.reduceSub, Nat.reduceMul, Nat.reduceBEq, Nat.reduceEqDiff, Nat.reduceLeDiff, Nat.reduceLT, Nat.reduceBneDiff, reduceCtorEq, Int.reduceLE, Int.reduceLT, Int.reduceEq, Int.reduceAdd, Int.reduceMul, Int.reduceSub, Int.reduceNeg, Int.reduceBEq, Int.reduceBNe, Int.reduceToNat, e2]
      · have e2 : eqv xs ys = false := by
          cases h : eqv xs ys with
          | true => exact absurd (eqv_iff.1 h) e1
          | false => rfl
        simp only [go_sem, reduceIte, ↓reduceIte, Nat.reduceAdd, Nat.reduceSub, Nat.reduceMul, Nat.reduceBEq, Nat.reduceEqDiff, Nat.reduceLeDiff, Nat.reduceLT, Nat.reduceBneDiff, reduceCtorEq, Int.reduceLE, Int.reduceLT, Int.reduceEq, Int.reduceAdd, Int.reduceMul, Int.reduceSub, Int.reduceNeg, Int.reduceBEq, Int.reduceBNe, Int.reduceToNat, e2]
    · simp only [go_sem, reduceIte, ↓reduceIte, Nat.reduceAdd, Nat.reduceSub, Nat.reduceMul, Nat.reduceBEq, Nat.reduceEqDiff, Nat.reduceLeDiff, Nat.reduceLT, Nat.reduceBneDiff, reduceCtorEq, Int.reduceLE, Int.reduceLT, Int.reduceEq, Int.reduceAdd, Int.reduceMul, Int.reduceSub, Int.reduceNeg, Int.reduceBEq, Int.reduceBNe, Int.reduceToNat]
      rfl
  · rw [if_pos (by simpa using fun h => hl (Int.ofNat_inj.1 h))]
    have e2 : eqv xs ys = false := by
      cases h : eqv xs ys with
      | true => exact absurd (congrArg List.length (eqv_iff.1 h)) hl
      | false => rfl
    rw [e2]
theorem spec63 : VSpec Try.prog 63 ⟨[.ro 1, .ro 1], F63, false⟩ :=
  spec_ro' (cx := cx63 0) (f := Try.f63) _ _ _ wide (cxOk _ rfl) fns63_ok Try.func63 (by decide) rfl (by kernel_rfl) (by decide) (by decide)
    (fun s _ hl => ⟨s.1.length + 1, ev63 _ s.1 s.2 (by simpa using hl.1.1) (Nat.le_refl _)⟩)
    (fun _ _ => rfl) (fun _ => rfl)
noncomputable def cx64 (n : Nat) : Cx := { T := T, fns := (fun _ => none), cuts := (fun | 6 => [none, none, none, none, none, none, some [0, 1, 4, 5, 10, 14, 20, 21, 22, 25]] | _ => []), vars := some ([0, 1, 4, 5, 10, 14, 25], []), live := fun _ => some ([0, 1, 4, 5], []), al := [], rounds := n, plan := fun | 6 => some (.take 0 (.take 1 (.take 2 (.take 3 (.take 4 (.take 5 (.take 6 (.take 7 (.take 8 .done))))))))) | _ => none, fz := [] }
@[go_sem] theorem cx64_z (n : Nat) : (cx64 n).fz = [] := nr rfl
@[go_sem] theorem cx64_T (n : Nat) : (cx64 n).T = T := nr rfl
@[go_sem] theorem cx64_f (n : Nat) : (cx64 n).fns = (fun _ => none) := nr rfl
@[go_sem] theorem cx64_c (n k : Nat) : (cx64 n).cuts k = ((fun | 6 => [none, none, none, none, none, none, some [0, 1, 4, 5, 10, 14, 20, 21, 22, 25]] | _ => [])) k := nr rfl
@[go_sem] theorem cx64_v (n : Nat) : (cx64 n).vars = some ([0, 1, 4, 5, 10, 14, 25], []) := nr rfl
@[go_sem] theorem cx64_l (n k : Nat) : (cx64 n).live k = (fun _ => some ([0, 1, 4, 5], [])) k := nr rfl
@[go_sem] theorem cx64_a (n : Nat) : (cx64 n).al = [] := nr rfl
@[go_sem] theorem cx64_p (n k : Nat) : (cx64 n).plan k = (fun | 6 => some (.take 0 (.take 1 (.take 2 (.take 3 (.take 4 (.take 5 (.take 6 (.take 7 (.take 8 .done))))))))) | _ => none) k := nr rfl
@[go_sem] theorem cx64_r (n : Nat) : (cx64 n).rounds = n := nr rfl
def st64 (v0 v1 v4 v5 v10 v14 v25 : AV) : St := ⟨E [(0, v0), (1, v1), (4, v4), (5, v5), (10, v10), (14, v14), (25, v25)], B []⟩
@[go_sem] theorem st64_def (v0 v1 v4 v5 v10 v14 v25 : AV) : st64 v0 v1 v4 v5 v10 v14 v25 = ⟨E [(0, v0), (1, v1), (4, v4), (5, v5), (10, v10), (14, v14), (25, v25)], B []⟩ := nr rfl
noncomputable def F64 : List AV → Option (AV × List AV) := FSof (σ := List UInt8 × List UInt8) (fun _ => True) (fun s => [.sl .ro 1 (s.1.map rByte), .sl .ro 1 (s.2.map rByte)]) (fun s => (.b (eqv s.1 s.2), [.u, .u]))
@[go_sem] theorem F64_eq (xs ys : List UInt8) : F64 [.sl .ro 1 (xs.map rByte), .sl .ro 1 (ys.map rByte)] = some (.b (eqv xs ys), [.u, .u]) :=
  FSof_eq (fun s s' h => Prod.ext ((rByte_mi _ _).1 (by simpa using (List.cons.inj h).1)) ((rByte_mi _ _).1 (by simpa using (List.cons.inj h).2))) (xs, ys) trivial
theorem rd64 (N : Nat) (xs ys : List UInt8) (k : Nat) (hk : k < xs.length) (hy : k < ys.length) (hb : xs.length ≤ 9223372036854775807) : ∃ j10 j14 j25 i10 i14 i25, ∀ G, seqE (evCode (cx64 N) 0 (loopN Try.f64 0) ⟨E [(0, .sl .ro 1 (xs.map rByte)), (1, .sl .ro 1 (ys.map rByte)), (4, .b false), (5, .i .i64 k)], B []⟩) G =
    if (!eqv xs[k] ys[k]) = true then some (.ret, st64 (.sl .ro 1 (xs.map rByte)) (.sl .ro 1 (ys.map rByte)) (.b false) (.i .i64 k) j10 j14 j25) else G (st64 (.sl .ro 1 (xs.map rByte)) (.sl .ro 1 (ys.map rByte)) (.b false) (.i .i64 ((k + 1 : Nat) : Int)) i10 i14 i25) := by
  have h1 : ((k : Int) < (xs.length : Int)) := Int.ofNat_lt.2 hk
  rw [loopN_eq Try.f64 0 _ _ rfl rfl]
  simp only [go_sem, reduceIte, ↓reduceIte, Nat.reduceAdd, Nat.reduceSub, Nat.reduceMul, Nat.reduceBEq, Nat.reduceEqDiff, Nat.reduceLeDiff, Nat.reduceLT, Nat.reduceBneDiff, reduceCtorEq, Int.reduceLE, Int.reduceLT, Int.reduceEq, Int.reduceAdd, Int.reduceMul, Int.reduceSub, Int.reduceNeg, Int.reduceBEq, Int.reduceBNe, Int.reduceToNat, h1, idx_nt _ _ hk, idx_nt _ _ hy, map_gd rByte xs k hk, map_gd rByte ys k hy, wrap_nat1 (show k < 9223372036854775807 by omega), eqv_byte]
  exact ⟨_, _, _, _, _, _, fun G => rfl⟩
theorem en64 (N : Nat) (xs ys : List UInt8) : ∃ j10 j14 j25, ∀ G, seqE (evCode (cx64 N) 0 (loopN Try.f64 0) ⟨E [(0, .sl .ro 1 (xs.map rByte)), (1, .sl .ro 1 (ys.map rByte)), (4, .b false), (5, .i .i64 xs.length)], B []⟩) G = some (.ex 0, st64 (.sl .ro 1 (xs.map rByte)) (.sl .ro 1 (ys.map rByte)) (.b false) (.i .i64 xs.length) j10 j14 j25) := by
  rw [loopN_eq Try.f64 0 _ _ rfl rfl]
  simp only [go_sem, reduceIte, ↓reduceIte, Nat.reduceAdd, Nat.reduceSub, Nat.reduceMul, Nat.reduceBEq, Nat.reduceEqDiff, Nat.reduceLeDiff, Nat.reduceLT, Nat.reduceBneDiff, reduceCtorEq, Int.reduceLE, Int.reduceLT, Int.reduceEq, Int.reduceAdd, Int.reduceMul, Int.reduceSub, Int.reduceNeg, Int.reduceBEq, Int.reduceBNe, Int.reduceToNat, Int.lt_irrefl]
  exact ⟨_, _, _, fun G => rfl⟩
theorem lp64 (N : Nat) (xs ys : List UInt8) (hl : xs.length = ys.length) (hb : xs.length ≤ 9223372036854775807) (hN : xs.length + 1 ≤ N) : ∃ r, (∀ st, keep ((cx64 N).live 0) st = ⟨E [(0, .sl .ro 1 (xs.map rByte)), (1, .sl .ro 1 (ys.map rByte)), (4, .b false), (5, .i .i64 (0 : Nat))], B []⟩ → loopE (cx64 N) 0 (loopN Try.f64 0) N st = r) ∧
    ((xs = ys ∧ ∃ j10 j14 j25, r = some (.ex 0, st64 (.sl .ro 1 (xs.map rByte)) (.sl .ro 1 (ys.map rByte)) (.b false) (.i .i64 xs.length) j10 j14 j25)) ∨ (xs ≠ ys ∧ ∃ b j10 j14 j25, r = some (.ret, st64 (.sl .ro 1 (xs.map rByte)) (.sl .ro 1 (ys.map rByte)) (.b false) (b) j10 j14 j25))) := by
  obtain ⟨r, h1, h2⟩ := loop_ix (cx := cx64 N) (blk := 0) (body := loopN Try.f64 0) xs.length (fun k (_ : Unit) => ⟨E [(0, .sl .ro 1 (xs.map rByte)), (1, .sl .ro 1 (ys.map rByte)), (4, .b false), (5, .i .i64 k)], B []⟩)
    (fun k _ r => ((xs.drop k = ys.drop k ∧ ∃ j10 j14 j25, r = some (.ex 0, st64 (.sl .ro 1 (xs.map rByte)) (.sl .ro 1 (ys.map rByte)) (.b false) (.i .i64 xs.length) j10 j14 j25)) ∨ (xs.drop k ≠ ys.drop k ∧ ∃ b j10 j14 j25, r = some (.ret, st64 (.sl .ro 1 (xs.map rByte)) (.sl .ro 1 (ys.map rByte)) (.b false) (b) j10 j14 j25))))
    (fun _ G => by
      obtain ⟨j10, j14, j25, he⟩ := en64 N xs ys
      exact .inl ⟨by rw [List.drop_length, hl, List.drop_length], j10, j14, j25, he G⟩)
    (fun k hk _ => by
      obtain ⟨j10, j14, j25, i10, i14, i25, he⟩ := rd64 N xs ys k hk (by omega) hb
      rw [List.drop_eq_getElem_cons hk, List.drop_eq_getElem_cons (show k < ys.length by omega)]
      by_cases hc : xs[k] = ys[k]'(by omega)
      · have hcc : ¬ ((!eqv xs[k] (ys[k]'(by omega))) = true) := by rw [hc, eqv_self]; simp
        refine .inr ⟨_, (), ?_, fun r hr => ?_, fun G => (he G).trans (if_neg hcc)⟩
        · simp only [go_sem, reduceIte, ↓reduceIte, Nat.reduceAdd, Nat.reduceSub, Nat.reduceMul, Nat.reduceBEq, Nat.reduceEqDiff, Nat.reduceLeDiff, Nat.reduceLT, Nat.reduceBneDiff, reduceCtorEq, Int.reduceLE, Int.reduceLT, Int.reduceEq, Int.reduceAdd, Int.reduceMul, Int.reduceSub, Int.reduceNeg, Int.reduceBEq, Int.reduceBNe, Int.reduceToNat]
        · simpa only [List.cons.injEq, hc, true_and, ne_eq] using hr
      · have hcc : (!eqv xs[k] (ys[k]'(by omega))) = true := by
          cases h : eqv xs[k] (ys[k]'(by omega)) with
          | true => exact absurd (eqv_iff.1 h) hc
          | false => rfl
        exact .inl fun G => .inr ⟨fun h => hc (List.cons.inj h).1, _, j10, j14, j25, (he G).trans (if_pos hcc)⟩) N hN ()
  exact ⟨r, h1, h2⟩
theorem ev64 (n : Nat) (xs ys : List UInt8) (hb : xs.length ≤ 9223372036854775807) (hN : xs.length + 1 ≤ n) : evalFn (cx64 n) [.ro 1, .ro 1] Try.f64 [.sl .ro 1 (xs.map rByte), .sl .ro 1 (ys.map rByte)] = some (.b (eqv xs ys), [.u, .u]) := by
  rw [evalFn_eq _ _ Try.f64 _ _ _ rfl rfl]
  simp only [go_sem, reduceIte, ↓reduceIte, Nat.reduceAdd, Nat.reduceSub, Nat.reduceMul, Nat.reduceBEq, Nat.reduceEqDiff, Nat.reduceLeDiff, Nat.reduceLT, Nat.reduceBneDiff, reduceCtorEq, Int.reduceLE, Int.reduceLT, Int.reduceEq, Int.reduceAdd, Int.reduceMul, Int.reduceSub, Int.reduceNeg, Int.reduceBEq, Int.reduceBNe, Int.reduceToNat]
  by_cases hl : xs.length = ys.length
  · have h0 : ((xs.length : Int) != (ys.length : Int)) = false := by simp [hl]
    rw [if_neg (by rw [h0]; simp)]
    obtain ⟨r, h1, h2⟩ := lp64 n xs ys hl hb hN
    rw [loopN_eq Try.f64 0 _ _ rfl rfl] at h1
    rw [h1]
    · rcases h2 with ⟨e1, j10, j14, j25, rfl⟩ | ⟨e1, b, j10, j14, j25, rfl⟩
      · have e2 : eqv xs ys = true := eqv_iff.2 e1
        simp only [go_sem, reduceIte, ↓reduceIte, Nat.reduceAdd, Nat.reduceSub, Nat.reduceMul, Nat.reduceBEq, Nat.reduceEqDiff, Nat.reduceLeDiff, Nat.reduceLT, Nat.reduceBneDiff, reduceCtorEq, Int.reduceLE, Int.reduceLT, Int.reduceEq, Int.reduceAdd, Int.reduceMul, Int.reduceSub, Int.reduceNeg, Int.reduceBEq, Int.reduceBNe, Int.reduceToNat, e2]
      · have e2 : eqv xs ys = false := by
          cases h : eqv xs ys with
          | true => exact absurd (eqv_iff.1 h) e1
          | false => rfl
        simp only [go_sem, reduceIte, ↓reduceIte, Nat.reduceAdd, Nat.reduceSub, Nat.reduceMul, Nat.reduceBEq, Nat.reduceEqDiff, Nat.reduceLeDiff, Nat.reduceLT, Nat.reduceBneDiff, reduceCtorEq, Int.reduceLE, Int.reduceLT, Int.reduceEq, Int.reduceAdd, Int.reduceMul, Int.reduceSub, Int.reduceNeg, Int.reduceBEq, Int.reduceBNe, Int.reduceToNat, e2]
    · simp only [go_sem, reduceIte, ↓reduceIte, Nat.reduceAdd, Nat.reduceSub, Nat.reduceMul, Nat.reduceBEq, Nat.reduceEqDiff, Nat.reduceLeDiff, Nat.reduceLT, Nat.reduceBneDiff, reduceCtorEq, Int.reduceLE, Int.reduceLT, Int.reduceEq, Int.reduceAdd, Int.reduceMul, Int.reduceSub, Int.reduceNeg, Int.reduceBEq, Int.reduceBNe, Int.reduceToNat]
      rfl
  · rw [if_pos (by simpa using fun h => hl (Int.ofNat_inj.1 h))]
    have e2 : eqv xs ys = false := by
      cases h : eqv xs ys with
      | true => exact absurd (congrArg List.length (eqv_iff.1 h)) hl
      | false => rfl
    rw [e2]
theorem spec64 : VSpec Try.prog 64 ⟨[.ro 1, .ro 1], F64, false⟩ :=
  spec_ro' (cx := cx64 0) (f := Try.f64) _ _ _ wide (cxOk _ rfl) (fun g fs h => by cases h) Try.func64 (by decide) rfl (by kernel_rfl) (by decide) (by decide)
    (fun s _ hl => ⟨s.1.length + 1, ev64 _ s.1 s.2 (by simpa using hl.1.1) (Nat.le_refl _)⟩)
    (fun _ _ => rfl) (fun _ => rfl)
noncomputable def fns36 : Nat → Option FS
  | 63 => some ⟨[.ro 1, .ro 1], F63, false⟩
  | 64 => some ⟨[.ro 1, .ro 1], F64, false⟩
  | _ => none
@[go_sem] theorem fns36_63 : fns36 63 = some ⟨[.ro 1, .ro 1], F63, false⟩ := nr rfl
@[go_sem] theorem fns36_64 : fns36 64 = some ⟨[.ro 1, .ro 1], F64, false⟩ := nr rfl
theorem fns36_ok : ∀ g fs, fns36 g = some fs → VSpec Try.prog g fs := by
  intro g fs h
  unfold fns36 at h
  split at h
  · injection h with h; subst h; exact spec63
  · injection h with h; subst h; exact spec64
  · cases h
noncomputable def cx36 (n : Nat) : Cx := { T := T, fns := fns36, cuts := (fun _ => []), vars := some ([0, 1, 2, 3, 4, 9, 15, 21], [2, 3]), live := fun _ => none, al := [], rounds := n, plan := fun _ => none, fz := [] }
@[go_sem] theorem cx36_z (n : Nat) : (cx36 n).fz = [] := nr rfl
@[go_sem] theorem cx36_T (n : Nat) : (cx36 n).T = T := nr rfl
@[go_sem] theorem cx36_f (n : Nat) : (cx36 n).fns = fns36 := nr rfl
@[go_sem] theorem cx36_c (n k : Nat) : (cx36 n).cuts k = ((fun _ => [])) k := nr rfl
@[go_sem] theorem cx36_v (n : Nat) : (cx36 n).vars = some ([0, 1, 2, 3, 4, 9, 15, 21], [2, 3]) := nr rfl
@[go_sem] theorem cx36_l (n k : Nat) : (cx36 n).live k = (fun _ => none) k := nr rfl
@[go_sem] theorem cx36_a (n : Nat) : (cx36 n).al = [] := nr rfl
@[go_sem] theorem cx36_p (n k : Nat) : (cx36 n).plan k = (fun _ => none) k := nr rfl
@[go_sem] theorem cx36_r (n : Nat) : (cx36 n).rounds = n := nr rfl
noncomputable def F36 : List AV → Option (AV × List AV) := FSof (σ := Response × Response) (fun _ => True) (fun s => [.agg (rResponse .ro s.1), .agg (rResponse .ro s.2)]) (fun s => (.b (eqv s.1 s.2), [.u, .u]))
@[go_sem] theorem F36_eq (xStatus : Int) (xHeaders : List Header) (xBody : List UInt8) (yStatus : Int) (yHeaders : List Header) (yBody : List UInt8) : F36 [.agg [.i .i64 xStatus, .sl .ro 2 (xHeaders.map (rHeader .ro)), .sl .ro 1 (xBody.map rByte)], .agg [.i .i64 yStatus, .sl .ro 2 (yHeaders.map (rHeader .ro)), .sl .ro 1 (yBody.map rByte)]] = some (.b (eqv (Response.mk xStatus xHeaders xBody) (Response.mk yStatus yHeaders yBody)), [.u, .u]) :=
  FSof_eq (fun s s' h => Prod.ext (rResponse_inj (by simpa using (List.cons.inj h).1)) (rResponse_inj (by simpa using (List.cons.inj h).2))) ((Response.mk xStatus xHeaders xBody), (Response.mk yStatus yHeaders yBody)) trivial
theorem ev36 (n : Nat) (a b : Response) : evalFn (cx36 n) [.ro 1, .ro 1] Try.f36 [.agg (rResponse .ro a), .agg (rResponse .ro b)] = some (.b (eqv a b), [.u, .u]) := by
  rw [evalFn_eq _ _ Try.f36 _ _ _ rfl rfl]
  simp only [go_sem, reduceIte, ↓reduceIte, Nat.reduceAdd, Nat.reduceSub, Nat.reduceMul, Nat.reduceBEq, Nat.reduceEqDiff, Nat.reduceLeDiff, Nat.reduceLT, Nat.reduceBneDiff, reduceCtorEq, Int.reduceLE, Int.reduceLT, Int.reduceEq, Int.reduceAdd, Int.reduceMul, Int.reduceSub, Int.reduceNeg, Int.reduceBEq, Int.reduceBNe, Int.reduceToNat, eqv_intne, eqv_bytes, eqv_boolne]
  simp only [Response.eqv a b, if_b, not_eq_t, if_nb, Bool.and_true]
theorem spec36 : VSpec Try.prog 36 ⟨[.ro 1, .ro 1], F36, false⟩ :=
  spec_ro' (cx := cx36 0) (f := Try.f36) _ _ _ wide (cxOk _ rfl) fns36_ok Try.func36 (by decide) rfl (by kernel_rfl) (by decide) (by decide)
    (fun s _ _ => ⟨0, ev36 0 s.1 s.2⟩)
    (fun _ _ => rfl) (fun _ => rfl)
noncomputable def fns76 : Nat → Option FS
  | 63 => some ⟨[.ro 1, .ro 1], F63, false⟩
  | _ => none
@[go_sem] theorem fns76_63 : fns76 63 = some ⟨[.ro 1, .ro 1], F63, false⟩ := nr rfl
theorem fns76_ok : ∀ g fs, fns76 g = some fs → VSpec Try.prog g fs := by
  intro g fs h
  unfold fns76 at h
  split at h
  · injection h with h; subst h; exact spec63
  · cases h
noncomputable def cx76 (n : Nat) : Cx := { T := T, fns := fns76, cuts := (fun _ => []), vars := some ([0, 1, 2, 3, 4, 9, 14, 19, 25], [2, 3]), live := fun _ => none, al := [], rounds := n, plan := fun _ => none, fz := [] }
@[go_sem] theorem cx76_z (n : Nat) : (cx76 n).fz = [] := nr rfl
@[go_sem] theorem cx76_T (n : Nat) : (cx76 n).T = T := nr rfl
@[go_sem] theorem cx76_f (n : Nat) : (cx76 n).fns = fns76 := nr rfl
@[go_sem] theorem cx76_c (n k : Nat) : (cx76 n).cuts k = ((fun _ => [])) k := nr rfl
@[go_sem] theorem cx76_v (n : Nat) : (cx76 n).vars = some ([0, 1, 2, 3, 4, 9, 14, 19, 25], [2, 3]) := nr rfl
@[go_sem] theorem cx76_l (n k : Nat) : (cx76 n).live k = (fun _ => none) k := nr rfl
@[go_sem] theorem cx76_a (n : Nat) : (cx76 n).al = [] := nr rfl
@[go_sem] theorem cx76_p (n k : Nat) : (cx76 n).plan k = (fun _ => none) k := nr rfl
@[go_sem] theorem cx76_r (n : Nat) : (cx76 n).rounds = n := nr rfl
noncomputable def F76 : List AV → Option (AV × List AV) := FSof (σ := Request × Request) (fun _ => True) (fun s => [.agg (rRequest .ro s.1), .agg (rRequest .ro s.2)]) (fun s => (.b (eqv s.1 s.2), [.u, .u]))
@[go_sem] theorem F76_eq (xMethod : ByteArray) (xHost : ByteArray) (xPath : ByteArray) (xHeaders : List Header) (yMethod : ByteArray) (yHost : ByteArray) (yPath : ByteArray) (yHeaders : List Header) : F76 [.agg [.s xMethod, .s xHost, .s xPath, .sl .ro 2 (xHeaders.map (rHeader .ro))], .agg [.s yMethod, .s yHost, .s yPath, .sl .ro 2 (yHeaders.map (rHeader .ro))]] = some (.b (eqv (Request.mk xMethod xHost xPath xHeaders) (Request.mk yMethod yHost yPath yHeaders)), [.u, .u]) :=
  FSof_eq (fun s s' h => Prod.ext (rRequest_inj (by simpa using (List.cons.inj h).1)) (rRequest_inj (by simpa using (List.cons.inj h).2))) ((Request.mk xMethod xHost xPath xHeaders), (Request.mk yMethod yHost yPath yHeaders)) trivial
theorem ev76 (n : Nat) (a b : Request) : evalFn (cx76 n) [.ro 1, .ro 1] Try.f76 [.agg (rRequest .ro a), .agg (rRequest .ro b)] = some (.b (eqv a b), [.u, .u]) := by
  rw [evalFn_eq _ _ Try.f76 _ _ _ rfl rfl]
  simp only [go_sem, reduceIte, ↓reduceIte, Nat.reduceAdd, Nat.reduceSub, Nat.reduceMul, Nat.reduceBEq, Nat.reduceEqDiff, Nat.reduceLeDiff, Nat.reduceLT, Nat.reduceBneDiff, reduceCtorEq, Int.reduceLE, Int.reduceLT, Int.reduceEq, Int.reduceAdd, Int.reduceMul, Int.reduceSub, Int.reduceNeg, Int.reduceBEq, Int.reduceBNe, Int.reduceToNat, eqv_intne, eqv_bytes, eqv_boolne]
  simp only [Request.eqv a b, if_b, not_eq_t, if_nb, Bool.and_true]
theorem spec76 : VSpec Try.prog 76 ⟨[.ro 1, .ro 1], F76, false⟩ :=
  spec_ro' (cx := cx76 0) (f := Try.f76) _ _ _ wide (cxOk _ rfl) fns76_ok Try.func76 (by decide) rfl (by kernel_rfl) (by decide) (by decide)
    (fun s _ _ => ⟨0, ev76 0 s.1 s.2⟩)
    (fun _ _ => rfl) (fun _ => rfl)
noncomputable def fns42 : Nat → Option FS
  | 36 => some ⟨[.ro 1, .ro 1], F36, false⟩
  | 76 => some ⟨[.ro 1, .ro 1], F76, false⟩
  | _ => none
@[go_sem] theorem fns42_36 : fns42 36 = some ⟨[.ro 1, .ro 1], F36, false⟩ := nr rfl
@[go_sem] theorem fns42_76 : fns42 76 = some ⟨[.ro 1, .ro 1], F76, false⟩ := nr rfl
theorem fns42_ok : ∀ g fs, fns42 g = some fs → VSpec Try.prog g fs := by
  intro g fs h
  unfold fns42 at h
  split at h
  · injection h with h; subst h; exact spec36
  · injection h with h; subst h; exact spec76
  · cases h
noncomputable def cx42 (n : Nat) : Cx := { T := T, fns := fns42, cuts := (fun _ => []), vars := some ([0, 1, 2, 3, 4, 9, 14, 19, 25, 31], [2, 3]), live := fun _ => none, al := [], rounds := n, plan := fun _ => none, fz := [] }
@[go_sem] theorem cx42_z (n : Nat) : (cx42 n).fz = [] := nr rfl
@[go_sem] theorem cx42_T (n : Nat) : (cx42 n).T = T := nr rfl
@[go_sem] theorem cx42_f (n : Nat) : (cx42 n).fns = fns42 := nr rfl
@[go_sem] theorem cx42_c (n k : Nat) : (cx42 n).cuts k = ((fun _ => [])) k := nr rfl
@[go_sem] theorem cx42_v (n : Nat) : (cx42 n).vars = some ([0, 1, 2, 3, 4, 9, 14, 19, 25, 31], [2, 3]) := nr rfl
@[go_sem] theorem cx42_l (n k : Nat) : (cx42 n).live k = (fun _ => none) k := nr rfl
@[go_sem] theorem cx42_a (n : Nat) : (cx42 n).al = [] := nr rfl
@[go_sem] theorem cx42_p (n k : Nat) : (cx42 n).plan k = (fun _ => none) k := nr rfl
@[go_sem] theorem cx42_r (n : Nat) : (cx42 n).rounds = n := nr rfl
noncomputable def F42 : List AV → Option (AV × List AV) := FSof (σ := Out × Out) (fun _ => True) (fun s => [.agg (rOut .ro s.1), .agg (rOut .ro s.2)]) (fun s => (.b (eqv s.1 s.2), [.u, .u]))
@[go_sem] theorem F42_eq (xKind : Int) (xId : Int) (xSource : ByteArray) (xResponseStatus : Int) (xResponseHeaders : List Header) (xResponseBody : List UInt8) (xRequestMethod : ByteArray) (xRequestHost : ByteArray) (xRequestPath : ByteArray) (xRequestHeaders : List Header) (yKind : Int) (yId : Int) (ySource : ByteArray) (yResponseStatus : Int) (yResponseHeaders : List Header) (yResponseBody : List UInt8) (yRequestMethod : ByteArray) (yRequestHost : ByteArray) (yRequestPath : ByteArray) (yRequestHeaders : List Header) : F42 [.agg [.i .i64 xKind, .i .i64 xId, .s xSource, .i .i64 xResponseStatus, .sl .ro 2 (xResponseHeaders.map (rHeader .ro)), .sl .ro 1 (xResponseBody.map rByte), .s xRequestMethod, .s xRequestHost, .s xRequestPath, .sl .ro 2 (xRequestHeaders.map (rHeader .ro))], .agg [.i .i64 yKind, .i .i64 yId, .s ySource, .i .i64 yResponseStatus, .sl .ro 2 (yResponseHeaders.map (rHeader .ro)), .sl .ro 1 (yResponseBody.map rByte), .s yRequestMethod, .s yRequestHost, .s yRequestPath, .sl .ro 2 (yRequestHeaders.map (rHeader .ro))]] = some (.b (eqv (Out.mk xKind xId xSource (Response.mk xResponseStatus xResponseHeaders xResponseBody) (Request.mk xRequestMethod xRequestHost xRequestPath xRequestHeaders)) (Out.mk yKind yId ySource (Response.mk yResponseStatus yResponseHeaders yResponseBody) (Request.mk yRequestMethod yRequestHost yRequestPath yRequestHeaders))), [.u, .u]) :=
  FSof_eq (fun s s' h => Prod.ext (rOut_inj (by simpa using (List.cons.inj h).1)) (rOut_inj (by simpa using (List.cons.inj h).2))) ((Out.mk xKind xId xSource (Response.mk xResponseStatus xResponseHeaders xResponseBody) (Request.mk xRequestMethod xRequestHost xRequestPath xRequestHeaders)), (Out.mk yKind yId ySource (Response.mk yResponseStatus yResponseHeaders yResponseBody) (Request.mk yRequestMethod yRequestHost yRequestPath yRequestHeaders))) trivial
theorem ev42 (n : Nat) (a b : Out) : evalFn (cx42 n) [.ro 1, .ro 1] Try.f42 [.agg (rOut .ro a), .agg (rOut .ro b)] = some (.b (eqv a b), [.u, .u]) := by
  rw [evalFn_eq _ _ Try.f42 _ _ _ rfl rfl]
  simp only [go_sem, reduceIte, ↓reduceIte, Nat.reduceAdd, Nat.reduceSub, Nat.reduceMul, Nat.reduceBEq, Nat.reduceEqDiff, Nat.reduceLeDiff, Nat.reduceLT, Nat.reduceBneDiff, reduceCtorEq, Int.reduceLE, Int.reduceLT, Int.reduceEq, Int.reduceAdd, Int.reduceMul, Int.reduceSub, Int.reduceNeg, Int.reduceBEq, Int.reduceBNe, Int.reduceToNat, eqv_intne, eqv_bytes, eqv_boolne]
  simp only [Out.eqv a b, if_b, not_eq_t, if_nb, Bool.and_true]
theorem spec42 : VSpec Try.prog 42 ⟨[.ro 1, .ro 1], F42, false⟩ :=
  spec_ro' (cx := cx42 0) (f := Try.f42) _ _ _ wide (cxOk _ rfl) fns42_ok Try.func42 (by decide) rfl (by kernel_rfl) (by decide) (by decide)
    (fun s _ _ => ⟨0, ev42 0 s.1 s.2⟩)
    (fun _ _ => rfl) (fun _ => rfl)
noncomputable def fns18 : Nat → Option FS
  | 42 => some ⟨[.ro 1, .ro 1], F42, false⟩
  | _ => none
@[go_sem] theorem fns18_42 : fns18 42 = some ⟨[.ro 1, .ro 1], F42, false⟩ := nr rfl
theorem fns18_ok : ∀ g fs, fns18 g = some fs → VSpec Try.prog g fs := by
  intro g fs h
  unfold fns18 at h
  split at h
  · injection h with h; subst h; exact spec42
  · cases h
noncomputable def cx18 (n : Nat) : Cx := { T := T, fns := fns18, cuts := (fun | 6 => [none, none, none, none, none, none, some [0, 1, 4, 5, 10, 14, 20, 21, 22, 26]] | _ => []), vars := some ([0, 1, 4, 5, 10, 14, 26], []), live := fun _ => some ([0, 1, 4, 5], []), al := [], rounds := n, plan := fun | 6 => some (.take 0 (.take 1 (.take 2 (.take 3 (.take 4 (.take 5 (.take 6 (.take 7 (.one 8 (.take 9 .done)))))))))) | _ => none, fz := [] }
@[go_sem] theorem cx18_z (n : Nat) : (cx18 n).fz = [] := nr rfl
@[go_sem] theorem cx18_T (n : Nat) : (cx18 n).T = T := nr rfl
@[go_sem] theorem cx18_f (n : Nat) : (cx18 n).fns = fns18 := nr rfl
@[go_sem] theorem cx18_c (n k : Nat) : (cx18 n).cuts k = ((fun | 6 => [none, none, none, none, none, none, some [0, 1, 4, 5, 10, 14, 20, 21, 22, 26]] | _ => [])) k := nr rfl
@[go_sem] theorem cx18_v (n : Nat) : (cx18 n).vars = some ([0, 1, 4, 5, 10, 14, 26], []) := nr rfl
@[go_sem] theorem cx18_l (n k : Nat) : (cx18 n).live k = (fun _ => some ([0, 1, 4, 5], [])) k := nr rfl
@[go_sem] theorem cx18_a (n : Nat) : (cx18 n).al = [] := nr rfl
@[go_sem] theorem cx18_p (n k : Nat) : (cx18 n).plan k = (fun | 6 => some (.take 0 (.take 1 (.take 2 (.take 3 (.take 4 (.take 5 (.take 6 (.take 7 (.one 8 (.take 9 .done)))))))))) | _ => none) k := nr rfl
@[go_sem] theorem cx18_r (n : Nat) : (cx18 n).rounds = n := nr rfl
def st18 (v0 v1 v4 v5 v10 v14 v26 : AV) : St := ⟨E [(0, v0), (1, v1), (4, v4), (5, v5), (10, v10), (14, v14), (26, v26)], B []⟩
@[go_sem] theorem st18_def (v0 v1 v4 v5 v10 v14 v26 : AV) : st18 v0 v1 v4 v5 v10 v14 v26 = ⟨E [(0, v0), (1, v1), (4, v4), (5, v5), (10, v10), (14, v14), (26, v26)], B []⟩ := nr rfl
noncomputable def F18 : List AV → Option (AV × List AV) := FSof (σ := List Out × List Out) (fun _ => True) (fun s => [.sl .ro 10 (s.1.map (rOut .ro)), .sl .ro 10 (s.2.map (rOut .ro))]) (fun s => (.b (eqv s.1 s.2), [.u, .u]))
@[go_sem] theorem F18_eq (xs ys : List Out) : F18 [.sl .ro 10 (xs.map (rOut .ro)), .sl .ro 10 (ys.map (rOut .ro))] = some (.b (eqv xs ys), [.u, .u]) :=
  FSof_eq (fun s s' h => Prod.ext ((rOut_mi _ _ _).1 (by simpa using (List.cons.inj h).1)) ((rOut_mi _ _ _).1 (by simpa using (List.cons.inj h).2))) (xs, ys) trivial
theorem rd18 (N : Nat) (xs ys : List Out) (k : Nat) (hk : k < xs.length) (hy : k < ys.length) (hb : xs.length ≤ 9223372036854775807) : ∃ j10 j14 j26 i10 i14 i26, ∀ G, seqE (evCode (cx18 N) 0 (loopN Try.f18 0) ⟨E [(0, .sl .ro 10 (xs.map (rOut .ro))), (1, .sl .ro 10 (ys.map (rOut .ro))), (4, .b false), (5, .i .i64 k)], B []⟩) G =
    if (!eqv xs[k] ys[k]) = true then some (.ret, st18 (.sl .ro 10 (xs.map (rOut .ro))) (.sl .ro 10 (ys.map (rOut .ro))) (.b false) (.i .i64 k) j10 j14 j26) else G (st18 (.sl .ro 10 (xs.map (rOut .ro))) (.sl .ro 10 (ys.map (rOut .ro))) (.b false) (.i .i64 ((k + 1 : Nat) : Int)) i10 i14 i26) := by
  have h1 : ((k : Int) < (xs.length : Int)) := Int.ofNat_lt.2 hk
  rw [loopN_eq Try.f18 0 _ _ rfl rfl]
  simp only [go_sem, reduceIte, ↓reduceIte, Nat.reduceAdd, Nat.reduceSub, Nat.reduceMul, Nat.reduceBEq, Nat.reduceEqDiff, Nat.reduceLeDiff, Nat.reduceLT, Nat.reduceBneDiff, reduceCtorEq, Int.reduceLE, Int.reduceLT, Int.reduceEq, Int.reduceAdd, Int.reduceMul, Int.reduceSub, Int.reduceNeg, Int.reduceBEq, Int.reduceBNe, Int.reduceToNat, h1, idx_nt _ _ hk, idx_nt _ _ hy, map_gd (rOut .ro) xs k hk, map_gd (rOut .ro) ys k hy, wrap_nat1 (show k < 9223372036854775807 by omega)]
  exact ⟨_, _, _, _, _, _, fun G => rfl⟩
theorem en18 (N : Nat) (xs ys : List Out) : ∃ j10 j14 j26, ∀ G, seqE (evCode (cx18 N) 0 (loopN Try.f18 0) ⟨E [(0, .sl .ro 10 (xs.map (rOut .ro))), (1, .sl .ro 10 (ys.map (rOut .ro))), (4, .b false), (5, .i .i64 xs.length)], B []⟩) G = some (.ex 0, st18 (.sl .ro 10 (xs.map (rOut .ro))) (.sl .ro 10 (ys.map (rOut .ro))) (.b false) (.i .i64 xs.length) j10 j14 j26) := by
  rw [loopN_eq Try.f18 0 _ _ rfl rfl]
  simp only [go_sem, reduceIte, ↓reduceIte, Nat.reduceAdd, Nat.reduceSub, Nat.reduceMul, Nat.reduceBEq, Nat.reduceEqDiff, Nat.reduceLeDiff, Nat.reduceLT, Nat.reduceBneDiff, reduceCtorEq, Int.reduceLE, Int.reduceLT, Int.reduceEq, Int.reduceAdd, Int.reduceMul, Int.reduceSub, Int.reduceNeg, Int.reduceBEq, Int.reduceBNe, Int.reduceToNat, Int.lt_irrefl]
  exact ⟨_, _, _, fun G => rfl⟩
theorem lp18 (N : Nat) (xs ys : List Out) (hl : xs.length = ys.length) (hb : xs.length ≤ 9223372036854775807) (hN : xs.length + 1 ≤ N) : ∃ r, (∀ st, keep ((cx18 N).live 0) st = ⟨E [(0, .sl .ro 10 (xs.map (rOut .ro))), (1, .sl .ro 10 (ys.map (rOut .ro))), (4, .b false), (5, .i .i64 (0 : Nat))], B []⟩ → loopE (cx18 N) 0 (loopN Try.f18 0) N st = r) ∧
    ((xs = ys ∧ ∃ j10 j14 j26, r = some (.ex 0, st18 (.sl .ro 10 (xs.map (rOut .ro))) (.sl .ro 10 (ys.map (rOut .ro))) (.b false) (.i .i64 xs.length) j10 j14 j26)) ∨ (xs ≠ ys ∧ ∃ b j10 j14 j26, r = some (.ret, st18 (.sl .ro 10 (xs.map (rOut .ro))) (.sl .ro 10 (ys.map (rOut .ro))) (.b false) (b) j10 j14 j26))) := by
  obtain ⟨r, h1, h2⟩ := loop_ix (cx := cx18 N) (blk := 0) (body := loopN Try.f18 0) xs.length (fun k (_ : Unit) => ⟨E [(0, .sl .ro 10 (xs.map (rOut .ro))), (1, .sl .ro 10 (ys.map (rOut .ro))), (4, .b false), (5, .i .i64 k)], B []⟩)
    (fun k _ r => ((xs.drop k = ys.drop k ∧ ∃ j10 j14 j26, r = some (.ex 0, st18 (.sl .ro 10 (xs.map (rOut .ro))) (.sl .ro 10 (ys.map (rOut .ro))) (.b false) (.i .i64 xs.length) j10 j14 j26)) ∨ (xs.drop k ≠ ys.drop k ∧ ∃ b j10 j14 j26, r = some (.ret, st18 (.sl .ro 10 (xs.map (rOut .ro))) (.sl .ro 10 (ys.map (rOut .ro))) (.b false) (b) j10 j14 j26))))
    (fun _ G => by
      obtain ⟨j10, j14, j26, he⟩ := en18 N xs ys
      exact .inl ⟨by rw [List.drop_length, hl, List.drop_length], j10, j14, j26, he G⟩)
    (fun k hk _ => by
      obtain ⟨j10, j14, j26, i10, i14, i26, he⟩ := rd18 N xs ys k hk (by omega) hb
      rw [List.drop_eq_getElem_cons hk, List.drop_eq_getElem_cons (show k < ys.length by omega)]
      by_cases hc : xs[k] = ys[k]'(by omega)
      · have hcc : ¬ ((!eqv xs[k] (ys[k]'(by omega))) = true) := by rw [hc, eqv_self]; simp
        refine .inr ⟨_, (), ?_, fun r hr => ?_, fun G => (he G).trans (if_neg hcc)⟩
        · simp only [go_sem, reduceIte, ↓reduceIte, Nat.reduceAdd, Nat.reduceSub, Nat.reduceMul, Nat.reduceBEq, Nat.reduceEqDiff, Nat.reduceLeDiff, Nat.reduceLT, Nat.reduceBneDiff, reduceCtorEq, Int.reduceLE, Int.reduceLT, Int.reduceEq, Int.reduceAdd, Int.reduceMul, Int.reduceSub, Int.reduceNeg, Int.reduceBEq, Int.reduceBNe, Int.reduceToNat]
        · simpa only [List.cons.injEq, hc, true_and, ne_eq] using hr
      · have hcc : (!eqv xs[k] (ys[k]'(by omega))) = true := by
          cases h : eqv xs[k] (ys[k]'(by omega)) with
          | true => exact absurd (eqv_iff.1 h) hc
          | false => rfl
        exact .inl fun G => .inr ⟨fun h => hc (List.cons.inj h).1, _, j10, j14, j26, (he G).trans (if_pos hcc)⟩) N hN ()
  exact ⟨r, h1, h2⟩
theorem ev18 (n : Nat) (xs ys : List Out) (hb : xs.length ≤ 9223372036854775807) (hN : xs.length + 1 ≤ n) : evalFn (cx18 n) [.ro 1, .ro 1] Try.f18 [.sl .ro 10 (xs.map (rOut .ro)), .sl .ro 10 (ys.map (rOut .ro))] = some (.b (eqv xs ys), [.u, .u]) := by
  rw [evalFn_eq _ _ Try.f18 _ _ _ rfl rfl]
  simp only [go_sem, reduceIte, ↓reduceIte, Nat.reduceAdd, Nat.reduceSub, Nat.reduceMul, Nat.reduceBEq, Nat.reduceEqDiff, Nat.reduceLeDiff, Nat.reduceLT, Nat.reduceBneDiff, reduceCtorEq, Int.reduceLE, Int.reduceLT, Int.reduceEq, Int.reduceAdd, Int.reduceMul, Int.reduceSub, Int.reduceNeg, Int.reduceBEq, Int.reduceBNe, Int.reduceToNat]
  by_cases hl : xs.length = ys.length
  · have h0 : ((xs.length : Int) != (ys.length : Int)) = false := by simp [hl]
    rw [if_neg (by rw [h0]; simp)]
    obtain ⟨r, h1, h2⟩ := lp18 n xs ys hl hb hN
    rw [loopN_eq Try.f18 0 _ _ rfl rfl] at h1
    rw [h1]
    · rcases h2 with ⟨e1, j10, j14, j26, rfl⟩ | ⟨e1, b, j10, j14, j26, rfl⟩
      · have e2 : eqv xs ys = true := eqv_iff.2 e1
        simp only [go_sem, reduceIte, ↓reduceIte, Nat.reduceAdd, Nat.reduceSub, Nat.reduceMul, Nat.reduceBEq, Nat.reduceEqDiff, Nat.reduceLeDiff, Nat.reduceLT, Nat.reduceBneDiff, reduceCtorEq, Int.reduceLE, Int.reduceLT, Int.reduceEq, Int.reduceAdd, Int.reduceMul, Int.reduceSub, Int.reduceNeg, Int.reduceBEq, Int.reduceBNe, Int.reduceToNat, e2]
      · have e2 : eqv xs ys = false := by
          cases h : eqv xs ys with
          | true => exact absurd (eqv_iff.1 h) e1
          | false => rfl
        simp only [go_sem, reduceIte, ↓reduceIte, Nat.reduceAdd, Nat.reduceSub, Nat.reduceMul, Nat.reduceBEq, Nat.reduceEqDiff, Nat.reduceLeDiff, Nat.reduceLT, Nat.reduceBneDiff, reduceCtorEq, Int.reduceLE, Int.reduceLT, Int.reduceEq, Int.reduceAdd, Int.reduceMul, Int.reduceSub, Int.reduceNeg, Int.reduceBEq, Int.reduceBNe, Int.reduceToNat, e2]
    · simp only [go_sem, reduceIte, ↓reduceIte, Nat.reduceAdd, Nat.reduceSub, Nat.reduceMul, Nat.reduceBEq, Nat.reduceEqDiff, Nat.reduceLeDiff, Nat.reduceLT, Nat.reduceBneDiff, reduceCtorEq, Int.reduceLE, Int.reduceLT, Int.reduceEq, Int.reduceAdd, Int.reduceMul, Int.reduceSub, Int.reduceNeg, Int.reduceBEq, Int.reduceBNe, Int.reduceToNat]
      rfl
  · rw [if_pos (by simpa using fun h => hl (Int.ofNat_inj.1 h))]
    have e2 : eqv xs ys = false := by
      cases h : eqv xs ys with
      | true => exact absurd (congrArg List.length (eqv_iff.1 h)) hl
      | false => rfl
    rw [e2]
theorem spec18 : VSpec Try.prog 18 ⟨[.ro 1, .ro 1], F18, false⟩ :=
  spec_ro' (cx := cx18 0) (f := Try.f18) _ _ _ wide (cxOk _ rfl) fns18_ok Try.func18 (by decide) rfl (by kernel_rfl) (by decide) (by decide)
    (fun s _ hl => ⟨s.1.length + 1, ev18 _ s.1 s.2 (by simpa using hl.1.1) (Nat.le_refl _)⟩)
    (fun _ _ => rfl) (fun _ => rfl)
noncomputable def cx33 (n : Nat) : Cx := { T := T, fns := (fun _ => none), cuts := (fun | 1 => [none, none, none, none, none, none, some [0, 1, 2, 6, 10, 11, 12]] | _ => []), vars := some ([0, 1, 2, 6], []), live := fun _ => none, al := [], rounds := n, plan := fun _ => none, fz := [] }
@[go_sem] theorem cx33_z (n : Nat) : (cx33 n).fz = [] := nr rfl
@[go_sem] theorem cx33_T (n : Nat) : (cx33 n).T = T := nr rfl
@[go_sem] theorem cx33_f (n : Nat) : (cx33 n).fns = (fun _ => none) := nr rfl
@[go_sem] theorem cx33_c (n k : Nat) : (cx33 n).cuts k = ((fun | 1 => [none, none, none, none, none, none, some [0, 1, 2, 6, 10, 11, 12]] | _ => [])) k := nr rfl
@[go_sem] theorem cx33_v (n : Nat) : (cx33 n).vars = some ([0, 1, 2, 6], []) := nr rfl
@[go_sem] theorem cx33_l (n k : Nat) : (cx33 n).live k = (fun _ => none) k := nr rfl
@[go_sem] theorem cx33_a (n : Nat) : (cx33 n).al = [] := nr rfl
@[go_sem] theorem cx33_p (n k : Nat) : (cx33 n).plan k = (fun _ => none) k := nr rfl
@[go_sem] theorem cx33_r (n : Nat) : (cx33 n).rounds = n := nr rfl
noncomputable def F33 : List AV → Option (AV × List AV) := FSof (σ := (Int) × (Int) × (Int)) (fun (s : (Int) × (Int) × (Int)) => match s with | (a, b, c) => True) (fun (s : (Int) × (Int) × (Int)) => match s with | (a, b, c) => [.i .i64 a, .i .i64 b, .i .i64 c]) (fun (s : (Int) × (Int) × (Int)) => match s with | (a, b, c) => (.b (decide (b ≤ a) && decide (a ≤ c)), [.u, .u, .u]))
@[go_sem] theorem F33_eq (a : Int) (b : Int) (c : Int) : F33 [.i .i64 a, .i .i64 b, .i .i64 c] = some (.b (decide (b ≤ a) && decide (a ≤ c)), [.u, .u, .u]) :=
  FSof_eq (by
    rintro ⟨a, b, c⟩ ⟨a', b', c'⟩ h
    simp only [List.cons.injEq, AV.i.injEq, AV.b.injEq, AV.s.injEq, AV.sl.injEq, AV.agg.injEq, AV.pr.injEq, AV.fs.injEq, AV.fn.injEq, true_and, and_true] at h
    simp [h]) (a, b, c) trivial
theorem ev33 (n : Nat) (a : Int) (b : Int) (c : Int) : evalFn (cx33 n) [.ro 1, .ro 1, .ro 1] Try.f33 [.i .i64 a, .i .i64 b, .i .i64 c] = some (.b (decide (b ≤ a) && decide (a ≤ c)), [.u, .u, .u]) := by
  rw [evalFn_eq _ _ Try.f33 _ _ _ rfl rfl]
  simp only [go_sem, reduceIte, ↓reduceIte, Nat.reduceAdd, Nat.reduceSub, Nat.reduceMul, Nat.reduceBEq, Nat.reduceEqDiff, Nat.reduceLeDiff, Nat.reduceLT, Nat.reduceBneDiff, reduceCtorEq, Int.reduceLE, Int.reduceLT, Int.reduceEq, Int.reduceAdd, Int.reduceMul, Int.reduceSub, Int.reduceNeg, Int.reduceBEq, Int.reduceBNe, Int.reduceToNat]
  by_cases h : b ≤ a <;> simp [h]
theorem spec33 : VSpec Try.prog 33 ⟨[.ro 1, .ro 1, .ro 1], F33, false⟩ :=
  spec_ro' (cx := cx33 0) (f := Try.f33) _ _ _ wide (cxOk _ rfl) (fun g fs h => by cases h) Try.func33 (by decide) rfl (by kernel_rfl) (by decide) (by decide)
    (fun s h hl => ⟨0, ev33 0 s.1 s.2.1 s.2.2⟩)
    (fun _ _ => rfl) (fun _ => rfl)
def isTime (a : Int) : Bool := decide (0 ≤ a) && decide (a ≤ 1000000000000000)
noncomputable def fns43 : Nat → Option FS
  | 33 => some ⟨[.ro 1, .ro 1, .ro 1], F33, false⟩
  | _ => none
@[go_sem] theorem fns43_33 : fns43 33 = some ⟨[.ro 1, .ro 1, .ro 1], F33, false⟩ := nr rfl
theorem fns43_ok : ∀ g fs, fns43 g = some fs → VSpec Try.prog g fs := by
  intro g fs h
  unfold fns43 at h
  split at h
  · injection h with h; subst h; exact spec33
  · cases h
noncomputable def cx43 (n : Nat) : Cx := { T := T, fns := fns43, cuts := (fun _ => []), vars := some ([0, 2], []), live := fun _ => none, al := [], rounds := n, plan := fun _ => none, fz := [] }
@[go_sem] theorem cx43_z (n : Nat) : (cx43 n).fz = [] := nr rfl
@[go_sem] theorem cx43_T (n : Nat) : (cx43 n).T = T := nr rfl
@[go_sem] theorem cx43_f (n : Nat) : (cx43 n).fns = fns43 := nr rfl
@[go_sem] theorem cx43_c (n k : Nat) : (cx43 n).cuts k = ((fun _ => [])) k := nr rfl
@[go_sem] theorem cx43_v (n : Nat) : (cx43 n).vars = some ([0, 2], []) := nr rfl
@[go_sem] theorem cx43_l (n k : Nat) : (cx43 n).live k = (fun _ => none) k := nr rfl
@[go_sem] theorem cx43_a (n : Nat) : (cx43 n).al = [] := nr rfl
@[go_sem] theorem cx43_p (n k : Nat) : (cx43 n).plan k = (fun _ => none) k := nr rfl
@[go_sem] theorem cx43_r (n : Nat) : (cx43 n).rounds = n := nr rfl
noncomputable def F43 : List AV → Option (AV × List AV) := FSof (σ := (Int)) (fun (a : (Int)) => True) (fun (a : (Int)) => [.i .i64 a]) (fun (a : (Int)) => (.b (isTime a), [.u]))
@[go_sem] theorem F43_eq (a : Int) : F43 [.i .i64 a] = some (.b (isTime a), [.u]) :=
  FSof_eq (by
    intro a a' h
    simp only [List.cons.injEq, AV.i.injEq, AV.b.injEq, AV.s.injEq, AV.sl.injEq, AV.agg.injEq, AV.pr.injEq, AV.fs.injEq, AV.fn.injEq, true_and, and_true] at h
    simp [h]) a trivial
theorem ev43 (n : Nat) (a : Int) : evalFn (cx43 n) [.ro 1] Try.f43 [.i .i64 a] = some (.b (isTime a), [.u]) := by
  rw [evalFn_eq _ _ Try.f43 _ _ _ rfl rfl]
  simp only [go_sem, reduceIte, ↓reduceIte, Nat.reduceAdd, Nat.reduceSub, Nat.reduceMul, Nat.reduceBEq, Nat.reduceEqDiff, Nat.reduceLeDiff, Nat.reduceLT, Nat.reduceBneDiff, reduceCtorEq, Int.reduceLE, Int.reduceLT, Int.reduceEq, Int.reduceAdd, Int.reduceMul, Int.reduceSub, Int.reduceNeg, Int.reduceBEq, Int.reduceBNe, Int.reduceToNat, isTime]
theorem spec43 : VSpec Try.prog 43 ⟨[.ro 1], F43, false⟩ :=
  spec_ro' (cx := cx43 0) (f := Try.f43) _ _ _ wide (cxOk _ rfl) fns43_ok Try.func43 (by decide) rfl (by kernel_rfl) (by decide) (by decide)
    (fun s h hl => ⟨0, ev43 0 s⟩)
    (fun _ _ => rfl) (fun _ => rfl)
def answersOf (id : Int) (xs : List Out) : List Out := xs.foldl (fun (s : List Out) (x : Out) => if (x.Kind == 1 && x.Id == id) = true then s ++ [x] else s) []
def sourcesOf (id : Int) (xs : List Out) : List ByteArray := xs.foldl (fun (s : List ByteArray) (x : Out) => if (x.Kind == 1 && x.Id == id) = true then s ++ [x.Source] else s) []
theorem answers_len (id : Int) : ∀ (xs a : List Out) (b : List ByteArray), a.length = b.length → (xs.foldl (fun (s : List Out) (x : Out) => if (x.Kind == 1 && x.Id == id) = true then s ++ [x] else s) a).length = (xs.foldl (fun (s : List ByteArray) (x : Out) => if (x.Kind == 1 && x.Id == id) = true then s ++ [x.Source] else s) b).length
  | [], a, b, h => h
  | x :: xs, a, b, h => by
    simp only [List.foldl_cons]
    refine answers_len id xs _ _ ?_
    split <;> simp [h]
noncomputable def cx44 (n : Nat) : Cx := { T := T, fns := (fun _ => none), cuts := (fun | 5 => [none, none, none, none, none, none, some [0, 1, 4, 5, 6, 11, 19, 28], none, none, none, none, none, some [0, 1, 4, 5, 6, 11, 20, 25, 28]] | _ => []), vars := some ([0, 1, 4, 5, 6, 11, 28], []), live := fun _ => some ([0, 1, 4, 5, 6], []), al := [], rounds := n, plan := fun _ => none, fz := [] }
@[go_sem] theorem cx44_z (n : Nat) : (cx44 n).fz = [] := nr rfl
@[go_sem] theorem cx44_T (n : Nat) : (cx44 n).T = T := nr rfl
@[go_sem] theorem cx44_f (n : Nat) : (cx44 n).fns = (fun _ => none) := nr rfl
@[go_sem] theorem cx44_c (n k : Nat) : (cx44 n).cuts k = ((fun | 5 => [none, none, none, none, none, none, some [0, 1, 4, 5, 6, 11, 19, 28], none, none, none, none, none, some [0, 1, 4, 5, 6, 11, 20, 25, 28]] | _ => [])) k := nr rfl
@[go_sem] theorem cx44_v (n : Nat) : (cx44 n).vars = some ([0, 1, 4, 5, 6, 11, 28], []) := nr rfl
@[go_sem] theorem cx44_l (n k : Nat) : (cx44 n).live k = (fun _ => some ([0, 1, 4, 5, 6], [])) k := nr rfl
@[go_sem] theorem cx44_a (n : Nat) : (cx44 n).al = [] := nr rfl
@[go_sem] theorem cx44_p (n k : Nat) : (cx44 n).plan k = (fun _ => none) k := nr rfl
@[go_sem] theorem cx44_r (n : Nat) : (cx44 n).rounds = n := nr rfl
noncomputable def F44 : List AV → Option (AV × List AV) := FSof (σ := (List Out) × (Int)) (fun (s : (List Out) × (Int)) => match s with | (outs, id) => outs.length ≤ 2000) (fun (s : (List Out) × (Int)) => match s with | (outs, id) => [.sl .ro 10 (outs.map (rOut .ro)), .i .i64 id]) (fun (s : (List Out) × (Int)) => match s with | (outs, id) => (.sl .mut 10 ((answersOf id outs).map (rOut .ro)), [.u, .u]))
@[go_sem] theorem F44_eq (outs : List Out) (id : Int) (h : outs.length ≤ 2000) : F44 [.sl .ro 10 (outs.map (rOut .ro)), .i .i64 id] = some (.sl .mut 10 ((answersOf id outs).map (rOut .ro)), [.u, .u]) :=
  FSof_eq (by
    rintro ⟨outs, id⟩ ⟨outs', id'⟩ h
    simp only [List.cons.injEq, AV.i.injEq, AV.b.injEq, AV.s.injEq, AV.sl.injEq, AV.agg.injEq, AV.pr.injEq, AV.fs.injEq, AV.fn.injEq, true_and, and_true, rOut_mi] at h
    simp [h]) (outs, id) h
theorem rd44 (N : Nat) (xs : List Out) (id : Int) (k : Nat) (hk : k < xs.length) (hb : xs.length ≤ 9223372036854775807) (acc : List Out) (hx : xs.length ≤ 2000) (hI : acc.length ≤ k) : ∃ (jv11 : AV) (jv28 : AV), ∀ G, seqE (evCode (cx44 N) 0 (loopN Try.f44 0) ⟨E [(0, .sl .ro 10 (xs.map (rOut .ro))), (1, .i .i64 id), (4, .sl .mut 10 []), (5, .sl .mut 10 (acc.map (rOut .ro))), (6, .i .i64 k)], B []⟩) G = G ⟨E [(0, .sl .ro 10 (xs.map (rOut .ro))), (1, .i .i64 id), (4, .sl .mut 10 []), (5, .sl .mut 10 (((fun (s : (List Out)) (x : Out) => if (x.Kind == 1 && x.Id == id) = true then s ++ [x] else s) acc xs[k]).map (rOut .ro))), (6, .i .i64 (k + 1 : Nat)), (11, jv11), (28, jv28)], B []⟩ := by
  have h1 : ((k : Int) < (xs.length : Int)) := Int.ofNat_lt.2 hk
  have h4 : (acc.length + 1) * 160 ≤ 140737488355328 := by omega
  cases hc0 : (xs[k].Kind == 1) <;> cases hc1 : (xs[k].Id == id)
  all_goals
    rw [loopN_eq Try.f44 0 _ _ rfl rfl]
    simp only [go_sem, reduceIte, ↓reduceIte, Nat.reduceAdd, Nat.reduceSub, Nat.reduceMul, Nat.reduceBEq, Nat.reduceEqDiff, Nat.reduceLeDiff, Nat.reduceLT, Nat.reduceBneDiff, reduceCtorEq, Int.reduceLE, Int.reduceLT, Int.reduceEq, Int.reduceAdd, Int.reduceMul, Int.reduceSub, Int.reduceNeg, Int.reduceBEq, Int.reduceBNe, Int.reduceToNat, h1, idx_nt _ _ hk, wrap_nat1 (show k < 9223372036854775807 by omega), hc0, hc1, map_gd (rOut .ro) xs k hk, h4, List.map_append]
    exact ⟨_, _, fun G => rfl⟩
theorem en44 (N : Nat) (xs : List Out) (id : Int) (acc : List Out) (hx : xs.length ≤ 2000) : ∃ (jv11 : AV) (jv28 : AV), ∀ G, seqE (evCode (cx44 N) 0 (loopN Try.f44 0) ⟨E [(0, .sl .ro 10 (xs.map (rOut .ro))), (1, .i .i64 id), (4, .sl .mut 10 []), (5, .sl .mut 10 (acc.map (rOut .ro))), (6, .i .i64 xs.length)], B []⟩) G = some (.ex 0, ⟨E [(0, .sl .ro 10 (xs.map (rOut .ro))), (1, .i .i64 id), (4, .sl .mut 10 []), (5, .sl .mut 10 (acc.map (rOut .ro))), (6, .i .i64 xs.length), (11, jv11), (28, jv28)], B []⟩) := by
  rw [loopN_eq Try.f44 0 _ _ rfl rfl]
  simp only [go_sem, reduceIte, ↓reduceIte, Nat.reduceAdd, Nat.reduceSub, Nat.reduceMul, Nat.reduceBEq, Nat.reduceEqDiff, Nat.reduceLeDiff, Nat.reduceLT, Nat.reduceBneDiff, reduceCtorEq, Int.reduceLE, Int.reduceLT, Int.reduceEq, Int.reduceAdd, Int.reduceMul, Int.reduceSub, Int.reduceNeg, Int.reduceBEq, Int.reduceBNe, Int.reduceToNat, Int.lt_irrefl]
  exact ⟨_, _, fun G => rfl⟩
theorem lp44 (N : Nat) (xs : List Out) (id : Int) (hb : xs.length ≤ 9223372036854775807) (acc : List Out) (hx : xs.length ≤ 2000) (hI0 : acc.length ≤ (0 : Nat)) (hN : xs.length + 1 ≤ N) : ∃ r, (∀ st, keep ((cx44 N).live 0) st = ⟨E [(0, .sl .ro 10 (xs.map (rOut .ro))), (1, .i .i64 id), (4, .sl .mut 10 []), (5, .sl .mut 10 (acc.map (rOut .ro))), (6, .i .i64 (0 : Nat))], B []⟩ → loopE (cx44 N) 0 (loopN Try.f44 0) N st = r) ∧ ∃ (jv11 : AV) (jv28 : AV), r = some (.ex 0, ⟨E [(0, .sl .ro 10 (xs.map (rOut .ro))), (1, .i .i64 id), (4, .sl .mut 10 []), (5, .sl .mut 10 ((xs.foldl (fun (s : (List Out)) (x : Out) => if (x.Kind == 1 && x.Id == id) = true then s ++ [x] else s) acc).map (rOut .ro))), (6, .i .i64 xs.length), (11, jv11), (28, jv28)], B []⟩) := by
  obtain ⟨r, h1, h2⟩ := loop_ixI (cx := (cx44 N)) (blk := 0) (body := (loopN Try.f44 0)) xs.length (fun k (s : (List Out)) => s.length ≤ k) (fun k (s : (List Out)) => ⟨E [(0, .sl .ro 10 (xs.map (rOut .ro))), (1, .i .i64 id), (4, .sl .mut 10 []), (5, .sl .mut 10 (s.map (rOut .ro))), (6, .i .i64 k)], B []⟩)
    (fun k s r => ∃ (jv11 : AV) (jv28 : AV), r = some (.ex 0, ⟨E [(0, .sl .ro 10 (xs.map (rOut .ro))), (1, .i .i64 id), (4, .sl .mut 10 []), (5, .sl .mut 10 (((xs.drop k).foldl (fun (s : (List Out)) (x : Out) => if (x.Kind == 1 && x.Id == id) = true then s ++ [x] else s) s).map (rOut .ro))), (6, .i .i64 xs.length), (11, jv11), (28, jv28)], B []⟩))
    (fun s hI G => by
      obtain ⟨jv11, jv28, he⟩ := en44 N xs id s hx
      simp only [List.drop_length, List.foldl_nil]
      exact ⟨jv11, jv28, he G⟩)
    (fun k hk s hI => by
      obtain ⟨jv11, jv28, he⟩ := rd44 N xs id k hk hb s hx hI
      refine .inr ⟨_, (fun (s : (List Out)) (x : Out) => if (x.Kind == 1 && x.Id == id) = true then s ++ [x] else s) s xs[k], ?_, ?_, fun r hr => ?_, fun G => he G⟩
      · simp only [go_sem, reduceIte, ↓reduceIte, Nat.reduceAdd, Nat.reduceSub, Nat.reduceMul, Nat.reduceBEq, Nat.reduceEqDiff, Nat.reduceLeDiff, Nat.reduceLT, Nat.reduceBneDiff, reduceCtorEq, Int.reduceLE, Int.reduceLT, Int.reduceEq, Int.reduceAdd, Int.reduceMul, Int.reduceSub, Int.reduceNeg, Int.reduceBEq, Int.reduceBNe, Int.reduceToNat]
      · rw [show ((fun (s : (List Out)) (x : Out) => if (x.Kind == 1 && x.Id == id) = true then s ++ [x] else s) s xs[k]) = _ from rfl]
        dsimp only; split <;> (try simp only [List.length_append, List.length_cons, List.length_nil]) <;> omega
      · rw [List.drop_eq_getElem_cons hk, List.foldl_cons]; exact hr) N hN acc hI0
  exact ⟨r, h1, h2⟩
theorem ev44 (n : Nat) (outs : List Out) (id : Int) (h : outs.length ≤ 2000) (hb : lenOkL [.sl .ro 10 (outs.map (rOut .ro)), .i .i64 id]) (hN : outs.length + 1 ≤ n) : evalFn (cx44 n) [.ro 1, .ro 1] Try.f44 [.sl .ro 10 (outs.map (rOut .ro)), .i .i64 id] = some (.sl .mut 10 ((answersOf id outs).map (rOut .ro)), [.u, .u]) := by
  rw [evalFn_eq _ _ Try.f44 _ _ _ rfl rfl]
  have hb1 : outs.length ≤ 9223372036854775807 := by omega
  simp only [go_sem, reduceIte, ↓reduceIte, Nat.reduceAdd, Nat.reduceSub, Nat.reduceMul, Nat.reduceBEq, Nat.reduceEqDiff, Nat.reduceLeDiff, Nat.reduceLT, Nat.reduceBneDiff, reduceCtorEq, Int.reduceLE, Int.reduceLT, Int.reduceEq, Int.reduceAdd, Int.reduceMul, Int.reduceSub, Int.reduceNeg, Int.reduceBEq, Int.reduceBNe, Int.reduceToNat]
  obtain ⟨r, h1, jv11, jv28, rfl⟩ := lp44 n outs id hb1 [] h (by simp) hN
  rw [loopN_eq Try.f44 0 _ _ rfl rfl] at h1
  rw [h1]
  · simp only [go_sem, reduceIte, ↓reduceIte, Nat.reduceAdd, Nat.reduceSub, Nat.reduceMul, Nat.reduceBEq, Nat.reduceEqDiff, Nat.reduceLeDiff, Nat.reduceLT, Nat.reduceBneDiff, reduceCtorEq, Int.reduceLE, Int.reduceLT, Int.reduceEq, Int.reduceAdd, Int.reduceMul, Int.reduceSub, Int.reduceNeg, Int.reduceBEq, Int.reduceBNe, Int.reduceToNat, answersOf]
  · simp only [go_sem, reduceIte, ↓reduceIte, Nat.reduceAdd, Nat.reduceSub, Nat.reduceMul, Nat.reduceBEq, Nat.reduceEqDiff, Nat.reduceLeDiff, Nat.reduceLT, Nat.reduceBneDiff, reduceCtorEq, Int.reduceLE, Int.reduceLT, Int.reduceEq, Int.reduceAdd, Int.reduceMul, Int.reduceSub, Int.reduceNeg, Int.reduceBEq, Int.reduceBNe, Int.reduceToNat]
    rfl
theorem spec44 : VSpec Try.prog 44 ⟨[.ro 1, .ro 1], F44, true⟩ :=
  spec_wk (cx := cx44 0) (f := Try.f44) _ _ _ wide (cxOk _ rfl) (fun g fs h => by cases h) Try.func44 (by decide) rfl (by kernel_rfl) (by decide) (by decide)
    (fun s h hl => ⟨s.1.length + 1, ev44 _ s.1 s.2 h hl (Nat.le_refl _)⟩)
end Go.Vm.A
