/- Functions of the program, walked by the evaluator. -/
import Derived.Test.YtionofhbbjpffaaWa
import Derived.Test.YtionofhbbjpffaaProg
import Derived.KernelRfl
/- What the evaluator must know of the program's types. -/
set_option autoImplicit false
set_option maxRecDepth 100000
set_option maxHeartbeats 4000000
set_option linter.unusedVariables false
set_option linter.unusedSimpArgs false

namespace Go.Vm.A
open Go.Proofs
def T : TypeId → Option TI
  | 1 => some .fn
  | 2 => some (.int .i64)
  | 3 => some (.int .i64)
  | 4 => some .bool
  | 5 => some (.int .u8)
  | 9 => some .str
  | 21 => some (.int .i32)
  | 22 => some (.slice 2 32 [.s ⟨#[]⟩, .s ⟨#[]⟩])
  | 23 => some (.slice 1 1 [.i .u8 0])
  | 24 => some (.struct 3 [(0, 1, false, 0), (1, 1, false, 2), (2, 1, false, 1)] [.i .i64 0, .sl .mut 2 [], .sl .mut 1 []])
  | 25 => some (.struct 3 [(0, 1, false, 0), (1, 1, false, 2), (2, 1, false, 1)] [.i .i64 0, .sl .mut 2 [], .sl .mut 1 []])
  | 26 => some (.struct 4 [(0, 1, false, 0), (1, 3, true, 0)] [.i .i64 0, .i .i64 0, .sl .mut 2 [], .sl .mut 1 []])
  | 27 => some (.struct 4 [(0, 1, false, 0), (1, 3, true, 0)] [.i .i64 0, .i .i64 0, .sl .mut 2 [], .sl .mut 1 []])
  | 28 => some .fn
  | 29 => some .fn
  | 30 => some .fn
  | 31 => some .fn
  | 32 => some (.slice 10 160 [.i .i64 0, .i .i64 0, .s ⟨#[]⟩, .i .i64 0, .sl .mut 2 [], .sl .mut 1 [], .s ⟨#[]⟩, .s ⟨#[]⟩, .s ⟨#[]⟩, .sl .mut 2 []])
  | 33 => some .fn
  | 34 => some (.struct 2 [(0, 1, false, 0), (1, 1, false, 0)] [.i .i64 0, .i .i64 0])
  | 35 => some (.struct 2 [(0, 1, false, 0), (1, 1, false, 0)] [.i .i64 0, .i .i64 0])
  | 36 => some .fn
  | 37 => some (.slice 10 160 [.i .i64 0, .i .i64 0, .s ⟨#[]⟩, .i .i64 0, .sl .mut 2 [], .sl .mut 1 [], .s ⟨#[]⟩, .s ⟨#[]⟩, .s ⟨#[]⟩, .sl .mut 2 []])
  | 38 => some .fn
  | 39 => some .fn
  | 40 => some .fn
  | 41 => some .fn
  | 42 => some .fn
  | 43 => some .fn
  | 44 => some .fn
  | 45 => some (.slice 2 16 [.i .i64 0, .b false])
  | 46 => some (.struct 4 [(0, 1, false, 0), (1, 1, false, 0), (2, 1, false, 0), (3, 1, false, 2)] [.i .i64 0, .i .i64 0, .i .i64 0, .sl .mut 2 []])
  | 47 => some (.struct 4 [(0, 1, false, 0), (1, 1, false, 0), (2, 1, false, 0), (3, 1, false, 2)] [.i .i64 0, .i .i64 0, .i .i64 0, .sl .mut 2 []])
  | 48 => some (.struct 5 [(0, 1, false, 0), (1, 1, false, 0), (2, 1, false, 0), (3, 1, false, 0), (4, 1, false, 0)] [.i .i64 0, .i .i64 0, .i .i64 0, .i .i64 0, .i .i64 0])
  | 49 => some (.struct 5 [(0, 1, false, 0), (1, 1, false, 0), (2, 1, false, 0), (3, 1, false, 0), (4, 1, false, 0)] [.i .i64 0, .i .i64 0, .i .i64 0, .i .i64 0, .i .i64 0])
  | 50 => some .fn
  | 51 => some (.slice 2 16 [.i .i64 0, .b false])
  | 52 => some (.struct 4 [(0, 1, false, 0), (1, 1, false, 0), (2, 1, false, 0), (3, 1, false, 2)] [.i .i64 0, .i .i64 0, .i .i64 0, .sl .mut 2 []])
  | 53 => some (.struct 4 [(0, 1, false, 0), (1, 1, false, 0), (2, 1, false, 0), (3, 1, false, 2)] [.i .i64 0, .i .i64 0, .i .i64 0, .sl .mut 2 []])
  | 54 => some (.struct 5 [(0, 1, false, 0), (1, 4, true, 0)] [.i .i64 0, .i .i64 0, .i .i64 0, .i .i64 0, .sl .mut 2 []])
  | 55 => some (.struct 5 [(0, 1, false, 0), (1, 4, true, 0)] [.i .i64 0, .i .i64 0, .i .i64 0, .i .i64 0, .sl .mut 2 []])
  | 56 => some .fn
  | 57 => some .fn
  | 58 => some (.struct 5 [(0, 1, false, 0), (1, 1, false, 0), (2, 1, false, 0), (3, 1, false, 0), (4, 1, false, 0)] [.i .i64 0, .i .i64 0, .i .i64 0, .i .i64 0, .i .i64 0])
  | 59 => some .fn
  | 60 => some .fn
  | 61 => some .fn
  | 62 => some .fn
  | 63 => some .fn
  | 64 => some .fn
  | 65 => some .fn
  | 66 => some .fn
  | 67 => some (.struct 2 [(0, 1, false, 0), (1, 1, false, 0)] [.s ⟨#[]⟩, .s ⟨#[]⟩])
  | 68 => some (.struct 2 [(0, 1, false, 0), (1, 1, false, 0)] [.s ⟨#[]⟩, .s ⟨#[]⟩])
  | 69 => some .fn
  | 70 => some .fn
  | 71 => some .fn
  | 72 => some (.slice 2 32 [.s ⟨#[]⟩, .s ⟨#[]⟩])
  | 73 => some (.struct 3 [(0, 1, false, 0), (1, 1, false, 2), (2, 1, false, 1)] [.i .i64 0, .sl .mut 2 [], .sl .mut 1 []])
  | 74 => some (.struct 3 [(0, 1, false, 0), (1, 1, false, 2), (2, 1, false, 1)] [.i .i64 0, .sl .mut 2 [], .sl .mut 1 []])
  | 75 => some (.struct 4 [(0, 1, false, 0), (1, 1, false, 0), (2, 1, false, 0), (3, 1, false, 2)] [.s ⟨#[]⟩, .s ⟨#[]⟩, .s ⟨#[]⟩, .sl .mut 2 []])
  | 76 => some (.struct 4 [(0, 1, false, 0), (1, 1, false, 0), (2, 1, false, 0), (3, 1, false, 2)] [.s ⟨#[]⟩, .s ⟨#[]⟩, .s ⟨#[]⟩, .sl .mut 2 []])
  | 77 => some (.struct 10 [(0, 1, false, 0), (1, 1, false, 0), (2, 1, false, 0), (3, 3, true, 0), (6, 4, true, 0)] [.i .i64 0, .i .i64 0, .s ⟨#[]⟩, .i .i64 0, .sl .mut 2 [], .sl .mut 1 [], .s ⟨#[]⟩, .s ⟨#[]⟩, .s ⟨#[]⟩, .sl .mut 2 []])
  | 78 => some (.struct 10 [(0, 1, false, 0), (1, 1, false, 0), (2, 1, false, 0), (3, 3, true, 0), (6, 4, true, 0)] [.i .i64 0, .i .i64 0, .s ⟨#[]⟩, .i .i64 0, .sl .mut 2 [], .sl .mut 1 [], .s ⟨#[]⟩, .s ⟨#[]⟩, .s ⟨#[]⟩, .sl .mut 2 []])
  | 79 => some (.struct 4 [(0, 1, false, 0), (1, 1, false, 0), (2, 1, false, 0), (3, 1, false, 2)] [.s ⟨#[]⟩, .s ⟨#[]⟩, .s ⟨#[]⟩, .sl .mut 2 []])
  | 80 => some (.struct 4 [(0, 1, false, 0), (1, 1, false, 0), (2, 1, false, 0), (3, 1, false, 2)] [.s ⟨#[]⟩, .s ⟨#[]⟩, .s ⟨#[]⟩, .sl .mut 2 []])
  | 81 => some (.struct 10 [(0, 1, false, 0), (1, 1, false, 0), (2, 1, false, 0), (3, 3, true, 0), (6, 4, true, 0)] [.i .i64 0, .i .i64 0, .s ⟨#[]⟩, .i .i64 0, .sl .mut 2 [], .sl .mut 1 [], .s ⟨#[]⟩, .s ⟨#[]⟩, .s ⟨#[]⟩, .sl .mut 2 []])
  | 82 => some (.struct 10 [(0, 1, false, 0), (1, 1, false, 0), (2, 1, false, 0), (3, 3, true, 0), (6, 4, true, 0)] [.i .i64 0, .i .i64 0, .s ⟨#[]⟩, .i .i64 0, .sl .mut 2 [], .sl .mut 1 [], .s ⟨#[]⟩, .s ⟨#[]⟩, .s ⟨#[]⟩, .sl .mut 2 []])
  | 83 => some .fn
  | 84 => some .fn
  | 85 => some .fn
  | 86 => some .fn
  | 87 => some (.slice 1 16 [.s ⟨#[]⟩])
  | 88 => some .fn
  | 89 => some .fn
  | 90 => some .fn
  | 91 => some .fn
  | 92 => some .fn
  | 93 => some .ptr
  | 94 => some .ptr
  | 95 => some .fn
  | 96 => some .fn
  | 97 => some .fn
  | 98 => some .fn
  | 99 => some .fn
  | 100 => some .fn
  | 101 => some .fn
  | 102 => some .fn
  | 103 => some .fn
  | 104 => some .fn
  | 105 => some .fn
  | 106 => some .fn
  | 107 => some .fn
  | 108 => some .fn
  | 109 => some .fn
  | 110 => some .fn
  | 112 => some .fn
  | 113 => some .fn
  | 114 => some .fn
  | 115 => some .fn
  | 116 => some (.struct 2 [(0, 1, false, 0), (1, 1, false, 0)] [.i .i64 0, .b false])
  | 117 => some (.struct 2 [(0, 1, false, 0), (1, 1, false, 0)] [.i .i64 0, .b false])
  | 118 => some .fn
  | 119 => some .fn
  | 120 => some .fn
  | 121 => some (.struct 2 [(0, 1, false, 0), (1, 1, false, 0)] [.i .i64 0, .b false])
  | 122 => some .fn
  | 123 => some .fn
  | 124 => some .fn
  | 125 => some .fn
  | 126 => some .fn
  | 127 => some .fn
  | 128 => some .fn
  | 129 => some .fn
  | 130 => some .fn
  | 131 => some .fn
  | 132 => some (.slice 1 8 [.u])
  | 133 => some .fn
  | 134 => some .fn
  | 135 => some .fn
  | 136 => some .fn
  | 137 => some (.struct 2 [(0, 1, false, 0), (1, 1, false, 0)] [.s ⟨#[]⟩, .s ⟨#[]⟩])
  | 138 => some .fn
  | 145 => some .fn
  | 146 => some (.int .u32)
  | 150 => some .ptr
  | _ => none
@[go_sem] theorem T1 : T 1 = some .fn := nr rfl
@[go_sem] theorem T2 : T 2 = some (.int .i64) := nr rfl
@[go_sem] theorem T3 : T 3 = some (.int .i64) := nr rfl
@[go_sem] theorem T4 : T 4 = some .bool := nr rfl
@[go_sem] theorem T5 : T 5 = some (.int .u8) := nr rfl
@[go_sem] theorem T9 : T 9 = some .str := nr rfl
@[go_sem] theorem T21 : T 21 = some (.int .i32) := nr rfl
@[go_sem] theorem T22 : T 22 = some (.slice 2 32 [.s ⟨#[]⟩, .s ⟨#[]⟩]) := nr rfl
@[go_sem] theorem T23 : T 23 = some (.slice 1 1 [.i .u8 0]) := nr rfl
@[go_sem] theorem T24 : T 24 = some (.struct 3 [(0, 1, false, 0), (1, 1, false, 2), (2, 1, false, 1)] [.i .i64 0, .sl .mut 2 [], .sl .mut 1 []]) := nr rfl
@[go_sem] theorem T25 : T 25 = some (.struct 3 [(0, 1, false, 0), (1, 1, false, 2), (2, 1, false, 1)] [.i .i64 0, .sl .mut 2 [], .sl .mut 1 []]) := nr rfl
@[go_sem] theorem T26 : T 26 = some (.struct 4 [(0, 1, false, 0), (1, 3, true, 0)] [.i .i64 0, .i .i64 0, .sl .mut 2 [], .sl .mut 1 []]) := nr rfl
@[go_sem] theorem T27 : T 27 = some (.struct 4 [(0, 1, false, 0), (1, 3, true, 0)] [.i .i64 0, .i .i64 0, .sl .mut 2 [], .sl .mut 1 []]) := nr rfl
@[go_sem] theorem T28 : T 28 = some .fn := nr rfl
@[go_sem] theorem T29 : T 29 = some .fn := nr rfl
@[go_sem] theorem T30 : T 30 = some .fn := nr rfl
@[go_sem] theorem T31 : T 31 = some .fn := nr rfl
@[go_sem] theorem T32 : T 32 = some (.slice 10 160 [.i .i64 0, .i .i64 0, .s ⟨#[]⟩, .i .i64 0, .sl .mut 2 [], .sl .mut 1 [], .s ⟨#[]⟩, .s ⟨#[]⟩, .s ⟨#[]⟩, .sl .mut 2 []]) := nr rfl
@[go_sem] theorem T33 : T 33 = some .fn := nr rfl
@[go_sem] theorem T34 : T 34 = some (.struct 2 [(0, 1, false, 0), (1, 1, false, 0)] [.i .i64 0, .i .i64 0]) := nr rfl
@[go_sem] theorem T35 : T 35 = some (.struct 2 [(0, 1, false, 0), (1, 1, false, 0)] [.i .i64 0, .i .i64 0]) := nr rfl
@[go_sem] theorem T36 : T 36 = some .fn := nr rfl
@[go_sem] theorem T37 : T 37 = some (.slice 10 160 [.i .i64 0, .i .i64 0, .s ⟨#[]⟩, .i .i64 0, .sl .mut 2 [], .sl .mut 1 [], .s ⟨#[]⟩, .s ⟨#[]⟩, .s ⟨#[]⟩, .sl .mut 2 []]) := nr rfl
@[go_sem] theorem T38 : T 38 = some .fn := nr rfl
@[go_sem] theorem T39 : T 39 = some .fn := nr rfl
@[go_sem] theorem T40 : T 40 = some .fn := nr rfl
@[go_sem] theorem T41 : T 41 = some .fn := nr rfl
@[go_sem] theorem T42 : T 42 = some .fn := nr rfl
@[go_sem] theorem T43 : T 43 = some .fn := nr rfl
@[go_sem] theorem T44 : T 44 = some .fn := nr rfl
@[go_sem] theorem T45 : T 45 = some (.slice 2 16 [.i .i64 0, .b false]) := nr rfl
@[go_sem] theorem T46 : T 46 = some (.struct 4 [(0, 1, false, 0), (1, 1, false, 0), (2, 1, false, 0), (3, 1, false, 2)] [.i .i64 0, .i .i64 0, .i .i64 0, .sl .mut 2 []]) := nr rfl
@[go_sem] theorem T47 : T 47 = some (.struct 4 [(0, 1, false, 0), (1, 1, false, 0), (2, 1, false, 0), (3, 1, false, 2)] [.i .i64 0, .i .i64 0, .i .i64 0, .sl .mut 2 []]) := nr rfl
@[go_sem] theorem T48 : T 48 = some (.struct 5 [(0, 1, false, 0), (1, 1, false, 0), (2, 1, false, 0), (3, 1, false, 0), (4, 1, false, 0)] [.i .i64 0, .i .i64 0, .i .i64 0, .i .i64 0, .i .i64 0]) := nr rfl
@[go_sem] theorem T49 : T 49 = some (.struct 5 [(0, 1, false, 0), (1, 1, false, 0), (2, 1, false, 0), (3, 1, false, 0), (4, 1, false, 0)] [.i .i64 0, .i .i64 0, .i .i64 0, .i .i64 0, .i .i64 0]) := nr rfl
@[go_sem] theorem T50 : T 50 = some .fn := nr rfl
@[go_sem] theorem T51 : T 51 = some (.slice 2 16 [.i .i64 0, .b false]) := nr rfl
@[go_sem] theorem T52 : T 52 = some (.struct 4 [(0, 1, false, 0), (1, 1, false, 0), (2, 1, false, 0), (3, 1, false, 2)] [.i .i64 0, .i .i64 0, .i .i64 0, .sl .mut 2 []]) := nr rfl
@[go_sem] theorem T53 : T 53 = some (.struct 4 [(0, 1, false, 0), (1, 1, false, 0), (2, 1, false, 0), (3, 1, false, 2)] [.i .i64 0, .i .i64 0, .i .i64 0, .sl .mut 2 []]) := nr rfl
@[go_sem] theorem T54 : T 54 = some (.struct 5 [(0, 1, false, 0), (1, 4, true, 0)] [.i .i64 0, .i .i64 0, .i .i64 0, .i .i64 0, .sl .mut 2 []]) := nr rfl
@[go_sem] theorem T55 : T 55 = some (.struct 5 [(0, 1, false, 0), (1, 4, true, 0)] [.i .i64 0, .i .i64 0, .i .i64 0, .i .i64 0, .sl .mut 2 []]) := nr rfl
@[go_sem] theorem T56 : T 56 = some .fn := nr rfl
@[go_sem] theorem T57 : T 57 = some .fn := nr rfl
@[go_sem] theorem T58 : T 58 = some (.struct 5 [(0, 1, false, 0), (1, 1, false, 0), (2, 1, false, 0), (3, 1, false, 0), (4, 1, false, 0)] [.i .i64 0, .i .i64 0, .i .i64 0, .i .i64 0, .i .i64 0]) := nr rfl
@[go_sem] theorem T59 : T 59 = some .fn := nr rfl
@[go_sem] theorem T60 : T 60 = some .fn := nr rfl
@[go_sem] theorem T61 : T 61 = some .fn := nr rfl
@[go_sem] theorem T62 : T 62 = some .fn := nr rfl
@[go_sem] theorem T63 : T 63 = some .fn := nr rfl
@[go_sem] theorem T64 : T 64 = some .fn := nr rfl
@[go_sem] theorem T65 : T 65 = some .fn := nr rfl
@[go_sem] theorem T66 : T 66 = some .fn := nr rfl
@[go_sem] theorem T67 : T 67 = some (.struct 2 [(0, 1, false, 0), (1, 1, false, 0)] [.s ⟨#[]⟩, .s ⟨#[]⟩]) := nr rfl
@[go_sem] theorem T68 : T 68 = some (.struct 2 [(0, 1, false, 0), (1, 1, false, 0)] [.s ⟨#[]⟩, .s ⟨#[]⟩]) := nr rfl
@[go_sem] theorem T69 : T 69 = some .fn := nr rfl
@[go_sem] theorem T70 : T 70 = some .fn := nr rfl
@[go_sem] theorem T71 : T 71 = some .fn := nr rfl
@[go_sem] theorem T72 : T 72 = some (.slice 2 32 [.s ⟨#[]⟩, .s ⟨#[]⟩]) := nr rfl
@[go_sem] theorem T73 : T 73 = some (.struct 3 [(0, 1, false, 0), (1, 1, false, 2), (2, 1, false, 1)] [.i .i64 0, .sl .mut 2 [], .sl .mut 1 []]) := nr rfl
@[go_sem] theorem T74 : T 74 = some (.struct 3 [(0, 1, false, 0), (1, 1, false, 2), (2, 1, false, 1)] [.i .i64 0, .sl .mut 2 [], .sl .mut 1 []]) := nr rfl
@[go_sem] theorem T75 : T 75 = some (.struct 4 [(0, 1, false, 0), (1, 1, false, 0), (2, 1, false, 0), (3, 1, false, 2)] [.s ⟨#[]⟩, .s ⟨#[]⟩, .s ⟨#[]⟩, .sl .mut 2 []]) := nr rfl
@[go_sem] theorem T76 : T 76 = some (.struct 4 [(0, 1, false, 0), (1, 1, false, 0), (2, 1, false, 0), (3, 1, false, 2)] [.s ⟨#[]⟩, .s ⟨#[]⟩, .s ⟨#[]⟩, .sl .mut 2 []]) := nr rfl
@[go_sem] theorem T77 : T 77 = some (.struct 10 [(0, 1, false, 0), (1, 1, false, 0), (2, 1, false, 0), (3, 3, true, 0), (6, 4, true, 0)] [.i .i64 0, .i .i64 0, .s ⟨#[]⟩, .i .i64 0, .sl .mut 2 [], .sl .mut 1 [], .s ⟨#[]⟩, .s ⟨#[]⟩, .s ⟨#[]⟩, .sl .mut 2 []]) := nr rfl
@[go_sem] theorem T78 : T 78 = some (.struct 10 [(0, 1, false, 0), (1, 1, false, 0), (2, 1, false, 0), (3, 3, true, 0), (6, 4, true, 0)] [.i .i64 0, .i .i64 0, .s ⟨#[]⟩, .i .i64 0, .sl .mut 2 [], .sl .mut 1 [], .s ⟨#[]⟩, .s ⟨#[]⟩, .s ⟨#[]⟩, .sl .mut 2 []]) := nr rfl
@[go_sem] theorem T79 : T 79 = some (.struct 4 [(0, 1, false, 0), (1, 1, false, 0), (2, 1, false, 0), (3, 1, false, 2)] [.s ⟨#[]⟩, .s ⟨#[]⟩, .s ⟨#[]⟩, .sl .mut 2 []]) := nr rfl
@[go_sem] theorem T80 : T 80 = some (.struct 4 [(0, 1, false, 0), (1, 1, false, 0), (2, 1, false, 0), (3, 1, false, 2)] [.s ⟨#[]⟩, .s ⟨#[]⟩, .s ⟨#[]⟩, .sl .mut 2 []]) := nr rfl
@[go_sem] theorem T81 : T 81 = some (.struct 10 [(0, 1, false, 0), (1, 1, false, 0), (2, 1, false, 0), (3, 3, true, 0), (6, 4, true, 0)] [.i .i64 0, .i .i64 0, .s ⟨#[]⟩, .i .i64 0, .sl .mut 2 [], .sl .mut 1 [], .s ⟨#[]⟩, .s ⟨#[]⟩, .s ⟨#[]⟩, .sl .mut 2 []]) := nr rfl
@[go_sem] theorem T82 : T 82 = some (.struct 10 [(0, 1, false, 0), (1, 1, false, 0), (2, 1, false, 0), (3, 3, true, 0), (6, 4, true, 0)] [.i .i64 0, .i .i64 0, .s ⟨#[]⟩, .i .i64 0, .sl .mut 2 [], .sl .mut 1 [], .s ⟨#[]⟩, .s ⟨#[]⟩, .s ⟨#[]⟩, .sl .mut 2 []]) := nr rfl
@[go_sem] theorem T83 : T 83 = some .fn := nr rfl
@[go_sem] theorem T84 : T 84 = some .fn := nr rfl
@[go_sem] theorem T85 : T 85 = some .fn := nr rfl
@[go_sem] theorem T86 : T 86 = some .fn := nr rfl
@[go_sem] theorem T87 : T 87 = some (.slice 1 16 [.s ⟨#[]⟩]) := nr rfl
@[go_sem] theorem T88 : T 88 = some .fn := nr rfl
@[go_sem] theorem T89 : T 89 = some .fn := nr rfl
@[go_sem] theorem T90 : T 90 = some .fn := nr rfl
@[go_sem] theorem T91 : T 91 = some .fn := nr rfl
@[go_sem] theorem T92 : T 92 = some .fn := nr rfl
@[go_sem] theorem T93 : T 93 = some .ptr := nr rfl
@[go_sem] theorem T94 : T 94 = some .ptr := nr rfl
@[go_sem] theorem T95 : T 95 = some .fn := nr rfl
@[go_sem] theorem T96 : T 96 = some .fn := nr rfl
@[go_sem] theorem T97 : T 97 = some .fn := nr rfl
@[go_sem] theorem T98 : T 98 = some .fn := nr rfl
@[go_sem] theorem T99 : T 99 = some .fn := nr rfl
@[go_sem] theorem T100 : T 100 = some .fn := nr rfl
@[go_sem] theorem T101 : T 101 = some .fn := nr rfl
@[go_sem] theorem T102 : T 102 = some .fn := nr rfl
@[go_sem] theorem T103 : T 103 = some .fn := nr rfl
@[go_sem] theorem T104 : T 104 = some .fn := nr rfl
@[go_sem] theorem T105 : T 105 = some .fn := nr rfl
@[go_sem] theorem T106 : T 106 = some .fn := nr rfl
@[go_sem] theorem T107 : T 107 = some .fn := nr rfl
@[go_sem] theorem T108 : T 108 = some .fn := nr rfl
@[go_sem] theorem T109 : T 109 = some .fn := nr rfl
@[go_sem] theorem T110 : T 110 = some .fn := nr rfl
@[go_sem] theorem T112 : T 112 = some .fn := nr rfl
@[go_sem] theorem T113 : T 113 = some .fn := nr rfl
@[go_sem] theorem T114 : T 114 = some .fn := nr rfl
@[go_sem] theorem T115 : T 115 = some .fn := nr rfl
@[go_sem] theorem T116 : T 116 = some (.struct 2 [(0, 1, false, 0), (1, 1, false, 0)] [.i .i64 0, .b false]) := nr rfl
@[go_sem] theorem T117 : T 117 = some (.struct 2 [(0, 1, false, 0), (1, 1, false, 0)] [.i .i64 0, .b false]) := nr rfl
@[go_sem] theorem T118 : T 118 = some .fn := nr rfl
@[go_sem] theorem T119 : T 119 = some .fn := nr rfl
@[go_sem] theorem T120 : T 120 = some .fn := nr rfl
@[go_sem] theorem T121 : T 121 = some (.struct 2 [(0, 1, false, 0), (1, 1, false, 0)] [.i .i64 0, .b false]) := nr rfl
@[go_sem] theorem T122 : T 122 = some .fn := nr rfl
@[go_sem] theorem T123 : T 123 = some .fn := nr rfl
@[go_sem] theorem T124 : T 124 = some .fn := nr rfl
@[go_sem] theorem T125 : T 125 = some .fn := nr rfl
@[go_sem] theorem T126 : T 126 = some .fn := nr rfl
@[go_sem] theorem T127 : T 127 = some .fn := nr rfl
@[go_sem] theorem T128 : T 128 = some .fn := nr rfl
@[go_sem] theorem T129 : T 129 = some .fn := nr rfl
@[go_sem] theorem T130 : T 130 = some .fn := nr rfl
@[go_sem] theorem T131 : T 131 = some .fn := nr rfl
@[go_sem] theorem T132 : T 132 = some (.slice 1 8 [.u]) := nr rfl
@[go_sem] theorem T133 : T 133 = some .fn := nr rfl
@[go_sem] theorem T134 : T 134 = some .fn := nr rfl
@[go_sem] theorem T135 : T 135 = some .fn := nr rfl
@[go_sem] theorem T136 : T 136 = some .fn := nr rfl
@[go_sem] theorem T137 : T 137 = some (.struct 2 [(0, 1, false, 0), (1, 1, false, 0)] [.s ⟨#[]⟩, .s ⟨#[]⟩]) := nr rfl
@[go_sem] theorem T138 : T 138 = some .fn := nr rfl
@[go_sem] theorem T145 : T 145 = some .fn := nr rfl
@[go_sem] theorem T146 : T 146 = some (.int .u32) := nr rfl
@[go_sem] theorem T150 : T 150 = some .ptr := nr rfl
def Q : TypeId → Option (List Nat)
  | 34 => some [1, 1]
  | 35 => some [1, 1]
  | 48 => some [1, 1, 1, 1, 1]
  | 49 => some [1, 1, 1, 1, 1]
  | 58 => some [1, 1, 1, 1, 1]
  | 67 => some [2, 2]
  | 68 => some [2, 2]
  | 116 => some [1, 0]
  | 117 => some [1, 0]
  | 121 => some [1, 0]
  | 137 => some [2, 2]
  | _ => none
@[go_sem] theorem Q34 : Q 34 = some [1, 1] := nr rfl
@[go_sem] theorem Q35 : Q 35 = some [1, 1] := nr rfl
@[go_sem] theorem Q48 : Q 48 = some [1, 1, 1, 1, 1] := nr rfl
@[go_sem] theorem Q49 : Q 49 = some [1, 1, 1, 1, 1] := nr rfl
@[go_sem] theorem Q58 : Q 58 = some [1, 1, 1, 1, 1] := nr rfl
@[go_sem] theorem Q67 : Q 67 = some [2, 2] := nr rfl
@[go_sem] theorem Q68 : Q 68 = some [2, 2] := nr rfl
@[go_sem] theorem Q116 : Q 116 = some [1, 0] := nr rfl
@[go_sem] theorem Q117 : Q 117 = some [1, 0] := nr rfl
@[go_sem] theorem Q121 : Q 121 = some [1, 0] := nr rfl
@[go_sem] theorem Q137 : Q 137 = some [2, 2] := nr rfl
theorem tyOk (cx : Cx) (h : cx.T = T) (h2 : cx.eqs = Q) : CxOk Try.prog cx := by
  refine ⟨fun t ti ht => ?_, fun t ks hk => ?_⟩
  · rw [h] at ht
    unfold T at ht
    split at ht <;> first | cases ht; done | (injection ht with ht; subst ht; exact tiOk_s (by kernel_rfl))
  · rw [h2] at hk
    unfold Q at hk
    split at hk <;> first | cases hk; done | (injection hk with hk; subst hk; kernel_rfl)
def tyA : TyOf Try.prog := ⟨T, Q, tyOk, by kernel_rfl⟩
@[go_sem] theorem tyA_T : tyA.T = T := nr rfl
@[go_sem] theorem tyA_Q : tyA.Q = Q := nr rfl
end Go.Vm.A
