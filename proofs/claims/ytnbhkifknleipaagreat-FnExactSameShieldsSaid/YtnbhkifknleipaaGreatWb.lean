/- Functions of the program, walked by the evaluator. -/
import Derived.Test.YtnbhkifknleipaaGreatWa
import Derived.Test.YtnbhkifknleipaaGreatProg
import Derived.KernelRfl
/- What the evaluator must know of the program's types. -/
set_option autoImplicit false
set_option maxRecDepth 100000
set_option maxHeartbeats 4000000
set_option linter.unusedVariables false
set_option linter.unusedSimpArgs false

namespace Go.Vm.A
open Go.Proofs
def T : TypeId → Option TI
  | 1 => some .fn
  | 2 => some (.int .i64)
  | 3 => some (.int .i64)
  | 4 => some .bool
  | 5 => some (.int .u8)
  | 9 => some .str
  | 21 => some (.int .i32)
  | 22 => some (.slice 1 16 [.s ⟨#[]⟩])
  | 23 => some (.struct 3 [(0, 1, false, 0), (1, 1, false, 0), (2, 1, false, 0)] [.i .i64 0, .i .i64 0, .i .i64 0])
  | 24 => some (.struct 3 [(0, 1, false, 0), (1, 1, false, 0), (2, 1, false, 0)] [.i .i64 0, .i .i64 0, .i .i64 0])
  | 25 => some (.struct 5 [(0, 1, false, 0), (1, 1, false, 0), (2, 1, false, 0), (3, 1, false, 0), (4, 1, false, 0)] [.i .i64 0, .i .i64 0, .i .i64 0, .i .i64 0, .i .i64 0])
  | 26 => some (.struct 5 [(0, 1, false, 0), (1, 1, false, 0), (2, 1, false, 0), (3, 1, false, 0), (4, 1, false, 0)] [.i .i64 0, .i .i64 0, .i .i64 0, .i .i64 0, .i .i64 0])
  | 27 => some (.struct 17 [(0, 1, false, 0), (1, 1, false, 0), (2, 1, false, 0), (3, 1, false, 0), (4, 1, false, 0), (5, 1, false, 0), (6, 1, false, 0), (7, 1, false, 0), (8, 1, false, 1), (9, 3, true, 0), (12, 5, true, 0)] [.i .i64 0, .i .i64 0, .i .i64 0, .i .i64 0, .i .i64 0, .i .i64 0, .i .i64 0, .i .i64 0, .sl .mut 1 [], .i .i64 0, .i .i64 0, .i .i64 0, .i .i64 0, .i .i64 0, .i .i64 0, .i .i64 0, .i .i64 0])
  | 28 => some (.struct 17 [(0, 1, false, 0), (1, 1, false, 0), (2, 1, false, 0), (3, 1, false, 0), (4, 1, false, 0), (5, 1, false, 0), (6, 1, false, 0), (7, 1, false, 0), (8, 1, false, 1), (9, 3, true, 0), (12, 5, true, 0)] [.i .i64 0, .i .i64 0, .i .i64 0, .i .i64 0, .i .i64 0, .i .i64 0, .i .i64 0, .i .i64 0, .sl .mut 1 [], .i .i64 0, .i .i64 0, .i .i64 0, .i .i64 0, .i .i64 0, .i .i64 0, .i .i64 0, .i .i64 0])
  | 29 => some (.slice 13 152 [.s ⟨#[]⟩, .i .i64 0, .sl .mut 2 [], .sl .mut 1 [], .i .i64 0, .i .i64 0, .i .i64 0, .i .i64 0, .i .i64 0, .b false, .b false, .sl .mut 1 [], .i .i64 0])
  | 30 => some (.struct 4 [(0, 1, false, 0), (1, 1, false, 0), (2, 1, false, 13), (3, 1, false, 13)] [.i .i64 0, .i .i64 0, .sl .mut 13 [], .sl .mut 13 []])
  | 31 => some (.struct 4 [(0, 1, false, 0), (1, 1, false, 0), (2, 1, false, 13), (3, 1, false, 13)] [.i .i64 0, .i .i64 0, .sl .mut 13 [], .sl .mut 13 []])
  | 32 => some (.slice 7 96 [.s ⟨#[]⟩, .i .i64 0, .sl .mut 2 [], .i .i64 0, .i .i64 0, .i .i64 0, .sl .mut 2 []])
  | 33 => some (.slice 11 144 [.i .i64 0, .s ⟨#[]⟩, .b false, .b false, .i .i64 0, .b false, .s ⟨#[]⟩, .s ⟨#[]⟩, .s ⟨#[]⟩, .sl .mut 2 [], .sl .mut 4 []])
  | 34 => some (.struct 25 [(0, 17, true, 0), (17, 1, false, 0), (18, 1, false, 0), (19, 4, true, 0), (23, 1, false, 7), (24, 1, false, 11)] [.i .i64 0, .i .i64 0, .i .i64 0, .i .i64 0, .i .i64 0, .i .i64 0, .i .i64 0, .i .i64 0, .sl .mut 1 [], .i .i64 0, .i .i64 0, .i .i64 0, .i .i64 0, .i .i64 0, .i .i64 0, .i .i64 0, .i .i64 0, .i .i64 0, .i .i64 0, .i .i64 0, .i .i64 0, .sl .mut 13 [], .sl .mut 13 [], .sl .mut 7 [], .sl .mut 11 []])
  | 35 => some (.struct 25 [(0, 17, true, 0), (17, 1, false, 0), (18, 1, false, 0), (19, 4, true, 0), (23, 1, false, 7), (24, 1, false, 11)] [.i .i64 0, .i .i64 0, .i .i64 0, .i .i64 0, .i .i64 0, .i .i64 0, .i .i64 0, .i .i64 0, .sl .mut 1 [], .i .i64 0, .i .i64 0, .i .i64 0, .i .i64 0, .i .i64 0, .i .i64 0, .i .i64 0, .i .i64 0, .i .i64 0, .i .i64 0, .i .i64 0, .i .i64 0, .sl .mut 13 [], .sl .mut 13 [], .sl .mut 7 [], .sl .mut 11 []])
  | 36 => some .fn
  | 37 => some .fn
  | 38 => some (.struct 3 [(0, 1, false, 0), (1, 1, false, 0), (2, 1, false, 0)] [.i .i64 0, .i .i64 0, .i .i64 0])
  | 39 => some (.struct 5 [(0, 1, false, 0), (1, 1, false, 0), (2, 1, false, 0), (3, 1, false, 0), (4, 1, false, 0)] [.i .i64 0, .i .i64 0, .i .i64 0, .i .i64 0, .i .i64 0])
  | 40 => some (.struct 17 [(0, 1, false, 0), (1, 1, false, 0), (2, 1, false, 0), (3, 1, false, 0), (4, 1, false, 0), (5, 1, false, 0), (6, 1, false, 0), (7, 1, false, 0), (8, 1, false, 1), (9, 3, true, 0), (12, 5, true, 0)] [.i .i64 0, .i .i64 0, .i .i64 0, .i .i64 0, .i .i64 0, .i .i64 0, .i .i64 0, .i .i64 0, .sl .mut 1 [], .i .i64 0, .i .i64 0, .i .i64 0, .i .i64 0, .i .i64 0, .i .i64 0, .i .i64 0, .i .i64 0])
  | 41 => some (.struct 17 [(0, 1, false, 0), (1, 1, false, 0), (2, 1, false, 0), (3, 1, false, 0), (4, 1, false, 0), (5, 1, false, 0), (6, 1, false, 0), (7, 1, false, 0), (8, 1, false, 1), (9, 3, true, 0), (12, 5, true, 0)] [.i .i64 0, .i .i64 0, .i .i64 0, .i .i64 0, .i .i64 0, .i .i64 0, .i .i64 0, .i .i64 0, .sl .mut 1 [], .i .i64 0, .i .i64 0, .i .i64 0, .i .i64 0, .i .i64 0, .i .i64 0, .i .i64 0, .i .i64 0])
  | 42 => some (.slice 13 152 [.s ⟨#[]⟩, .i .i64 0, .sl .mut 2 [], .sl .mut 1 [], .i .i64 0, .i .i64 0, .i .i64 0, .i .i64 0, .i .i64 0, .b false, .b false, .sl .mut 1 [], .i .i64 0])
  | 43 => some (.struct 4 [(0, 1, false, 0), (1, 1, false, 0), (2, 1, false, 13), (3, 1, false, 13)] [.i .i64 0, .i .i64 0, .sl .mut 13 [], .sl .mut 13 []])
  | 44 => some (.struct 4 [(0, 1, false, 0), (1, 1, false, 0), (2, 1, false, 13), (3, 1, false, 13)] [.i .i64 0, .i .i64 0, .sl .mut 13 [], .sl .mut 13 []])
  | 45 => some (.slice 7 96 [.s ⟨#[]⟩, .i .i64 0, .sl .mut 2 [], .i .i64 0, .i .i64 0, .i .i64 0, .sl .mut 2 []])
  | 46 => some (.slice 11 144 [.i .i64 0, .s ⟨#[]⟩, .b false, .b false, .i .i64 0, .b false, .s ⟨#[]⟩, .s ⟨#[]⟩, .s ⟨#[]⟩, .sl .mut 2 [], .sl .mut 4 []])
  | 47 => some (.struct 25 [(0, 17, true, 0), (17, 1, false, 0), (18, 1, false, 0), (19, 4, true, 0), (23, 1, false, 7), (24, 1, false, 11)] [.i .i64 0, .i .i64 0, .i .i64 0, .i .i64 0, .i .i64 0, .i .i64 0, .i .i64 0, .i .i64 0, .sl .mut 1 [], .i .i64 0, .i .i64 0, .i .i64 0, .i .i64 0, .i .i64 0, .i .i64 0, .i .i64 0, .i .i64 0, .i .i64 0, .i .i64 0, .i .i64 0, .i .i64 0, .sl .mut 13 [], .sl .mut 13 [], .sl .mut 7 [], .sl .mut 11 []])
  | 48 => some (.struct 25 [(0, 17, true, 0), (17, 1, false, 0), (18, 1, false, 0), (19, 4, true, 0), (23, 1, false, 7), (24, 1, false, 11)] [.i .i64 0, .i .i64 0, .i .i64 0, .i .i64 0, .i .i64 0, .i .i64 0, .i .i64 0, .i .i64 0, .sl .mut 1 [], .i .i64 0, .i .i64 0, .i .i64 0, .i .i64 0, .i .i64 0, .i .i64 0, .i .i64 0, .i .i64 0, .i .i64 0, .i .i64 0, .i .i64 0, .i .i64 0, .sl .mut 13 [], .sl .mut 13 [], .sl .mut 7 [], .sl .mut 11 []])
  | 49 => some .fn
  | 50 => some .fn
  | 51 => some .fn
  | 52 => some .fn
  | 53 => some .fn
  | 54 => some .fn
  | 55 => some .fn
  | 56 => some .ptr
  | 57 => some .fn
  | 58 => some .fn
  | 59 => some (.slice 2 16 [.i .i64 0, .i .i64 0])
  | 60 => some (.struct 2 [(0, 1, false, 0), (1, 1, false, 2)] [.i .i64 0, .sl .mut 2 []])
  | 61 => some (.struct 2 [(0, 1, false, 0), (1, 1, false, 2)] [.i .i64 0, .sl .mut 2 []])
  | 62 => some (.slice 2 16 [.i .i64 0, .b false])
  | 63 => some (.struct 4 [(0, 1, false, 0), (1, 1, false, 0), (2, 1, false, 0), (3, 1, false, 2)] [.i .i64 0, .i .i64 0, .i .i64 0, .sl .mut 2 []])
  | 64 => some (.struct 4 [(0, 1, false, 0), (1, 1, false, 0), (2, 1, false, 0), (3, 1, false, 2)] [.i .i64 0, .i .i64 0, .i .i64 0, .sl .mut 2 []])
  | 65 => some (.struct 7 [(0, 1, false, 0), (1, 2, true, 0), (3, 4, true, 0)] [.s ⟨#[]⟩, .i .i64 0, .sl .mut 2 [], .i .i64 0, .i .i64 0, .i .i64 0, .sl .mut 2 []])
  | 66 => some (.struct 7 [(0, 1, false, 0), (1, 2, true, 0), (3, 4, true, 0)] [.s ⟨#[]⟩, .i .i64 0, .sl .mut 2 [], .i .i64 0, .i .i64 0, .i .i64 0, .sl .mut 2 []])
  | 67 => some .fn
  | 68 => some .fn
  | 69 => some .fn
  | 70 => some .fn
  | 71 => some .fn
  | 72 => some .fn
  | 73 => some .fn
  | 74 => some .fn
  | 75 => some .fn
  | 76 => some .fn
  | 77 => some .fn
  | 78 => some .fn
  | 79 => some .fn
  | 80 => some (.slice 2 16 [.i .i64 0, .i .i64 0])
  | 81 => some (.struct 2 [(0, 1, false, 0), (1, 1, false, 2)] [.i .i64 0, .sl .mut 2 []])
  | 82 => some (.struct 2 [(0, 1, false, 0), (1, 1, false, 2)] [.i .i64 0, .sl .mut 2 []])
  | 83 => some (.slice 2 16 [.i .i64 0, .b false])
  | 84 => some (.struct 4 [(0, 1, false, 0), (1, 1, false, 0), (2, 1, false, 0), (3, 1, false, 2)] [.i .i64 0, .i .i64 0, .i .i64 0, .sl .mut 2 []])
  | 85 => some (.struct 4 [(0, 1, false, 0), (1, 1, false, 0), (2, 1, false, 0), (3, 1, false, 2)] [.i .i64 0, .i .i64 0, .i .i64 0, .sl .mut 2 []])
  | 86 => some (.struct 7 [(0, 1, false, 0), (1, 2, true, 0), (3, 4, true, 0)] [.s ⟨#[]⟩, .i .i64 0, .sl .mut 2 [], .i .i64 0, .i .i64 0, .i .i64 0, .sl .mut 2 []])
  | 87 => some (.struct 7 [(0, 1, false, 0), (1, 2, true, 0), (3, 4, true, 0)] [.s ⟨#[]⟩, .i .i64 0, .sl .mut 2 [], .i .i64 0, .i .i64 0, .i .i64 0, .sl .mut 2 []])
  | 88 => some .fn
  | 89 => some (.slice 2 32 [.s ⟨#[]⟩, .s ⟨#[]⟩])
  | 90 => some (.struct 4 [(0, 1, false, 0), (1, 1, false, 0), (2, 1, false, 0), (3, 1, false, 2)] [.s ⟨#[]⟩, .s ⟨#[]⟩, .s ⟨#[]⟩, .sl .mut 2 []])
  | 91 => some (.struct 4 [(0, 1, false, 0), (1, 1, false, 0), (2, 1, false, 0), (3, 1, false, 2)] [.s ⟨#[]⟩, .s ⟨#[]⟩, .s ⟨#[]⟩, .sl .mut 2 []])
  | 92 => some (.slice 4 32 [.i .i64 0, .b false, .i .i64 0, .b false])
  | 93 => some (.struct 11 [(0, 1, false, 0), (1, 1, false, 0), (2, 1, false, 0), (3, 1, false, 0), (4, 1, false, 0), (5, 1, false, 0), (6, 4, true, 0), (10, 1, false, 4)] [.i .i64 0, .s ⟨#[]⟩, .b false, .b false, .i .i64 0, .b false, .s ⟨#[]⟩, .s ⟨#[]⟩, .s ⟨#[]⟩, .sl .mut 2 [], .sl .mut 4 []])
  | 94 => some (.struct 11 [(0, 1, false, 0), (1, 1, false, 0), (2, 1, false, 0), (3, 1, false, 0), (4, 1, false, 0), (5, 1, false, 0), (6, 4, true, 0), (10, 1, false, 4)] [.i .i64 0, .s ⟨#[]⟩, .b false, .b false, .i .i64 0, .b false, .s ⟨#[]⟩, .s ⟨#[]⟩, .s ⟨#[]⟩, .sl .mut 2 [], .sl .mut 4 []])
  | 95 => some .fn
  | 96 => some .fn
  | 97 => some (.slice 2 32 [.s ⟨#[]⟩, .s ⟨#[]⟩])
  | 98 => some (.struct 4 [(0, 1, false, 0), (1, 1, false, 0), (2, 1, false, 0), (3, 1, false, 2)] [.s ⟨#[]⟩, .s ⟨#[]⟩, .s ⟨#[]⟩, .sl .mut 2 []])
  | 99 => some (.struct 4 [(0, 1, false, 0), (1, 1, false, 0), (2, 1, false, 0), (3, 1, false, 2)] [.s ⟨#[]⟩, .s ⟨#[]⟩, .s ⟨#[]⟩, .sl .mut 2 []])
  | 100 => some (.slice 4 32 [.i .i64 0, .b false, .i .i64 0, .b false])
  | 101 => some (.struct 11 [(0, 1, false, 0), (1, 1, false, 0), (2, 1, false, 0), (3, 1, false, 0), (4, 1, false, 0), (5, 1, false, 0), (6, 4, true, 0), (10, 1, false, 4)] [.i .i64 0, .s ⟨#[]⟩, .b false, .b false, .i .i64 0, .b false, .s ⟨#[]⟩, .s ⟨#[]⟩, .s ⟨#[]⟩, .sl .mut 2 [], .sl .mut 4 []])
  | 102 => some (.struct 11 [(0, 1, false, 0), (1, 1, false, 0), (2, 1, false, 0), (3, 1, false, 0), (4, 1, false, 0), (5, 1, false, 0), (6, 4, true, 0), (10, 1, false, 4)] [.i .i64 0, .s ⟨#[]⟩, .b false, .b false, .i .i64 0, .b false, .s ⟨#[]⟩, .s ⟨#[]⟩, .s ⟨#[]⟩, .sl .mut 2 [], .sl .mut 4 []])
  | 103 => some .fn
  | 104 => some .fn
  | 105 => some (.struct 2 [(0, 1, false, 0), (1, 1, false, 0)] [.i .i64 0, .i .i64 0])
  | 106 => some (.struct 2 [(0, 1, false, 0), (1, 1, false, 0)] [.i .i64 0, .i .i64 0])
  | 107 => some .fn
  | 108 => some .fn
  | 109 => some .fn
  | 110 => some .fn
  | 111 => some .fn
  | 112 => some .fn
  | 113 => some .fn
  | 114 => some .fn
  | 115 => some (.slice 1 1 [.i .u8 0])
  | 116 => some (.struct 7 [(0, 1, false, 0), (1, 1, false, 0), (2, 1, false, 0), (3, 1, false, 0), (4, 1, false, 0), (5, 1, false, 0), (6, 1, false, 0)] [.i .i64 0, .i .i64 0, .i .i64 0, .i .i64 0, .i .i64 0, .b false, .b false])
  | 117 => some (.struct 7 [(0, 1, false, 0), (1, 1, false, 0), (2, 1, false, 0), (3, 1, false, 0), (4, 1, false, 0), (5, 1, false, 0), (6, 1, false, 0)] [.i .i64 0, .i .i64 0, .i .i64 0, .i .i64 0, .i .i64 0, .b false, .b false])
  | 118 => some (.struct 13 [(0, 1, false, 0), (1, 1, false, 0), (2, 1, false, 2), (3, 1, false, 1), (4, 7, true, 0), (11, 1, false, 1), (12, 1, false, 0)] [.s ⟨#[]⟩, .i .i64 0, .sl .mut 2 [], .sl .mut 1 [], .i .i64 0, .i .i64 0, .i .i64 0, .i .i64 0, .i .i64 0, .b false, .b false, .sl .mut 1 [], .i .i64 0])
  | 119 => some (.struct 13 [(0, 1, false, 0), (1, 1, false, 0), (2, 1, false, 2), (3, 1, false, 1), (4, 7, true, 0), (11, 1, false, 1), (12, 1, false, 0)] [.s ⟨#[]⟩, .i .i64 0, .sl .mut 2 [], .sl .mut 1 [], .i .i64 0, .i .i64 0, .i .i64 0, .i .i64 0, .i .i64 0, .b false, .b false, .sl .mut 1 [], .i .i64 0])
  | 120 => some .fn
  | 121 => some .fn
  | 122 => some .fn
  | 123 => some .fn
  | 124 => some .fn
  | 125 => some .fn
  | 126 => some (.struct 7 [(0, 1, false, 0), (1, 1, false, 0), (2, 1, false, 0), (3, 1, false, 0), (4, 1, false, 0), (5, 1, false, 0), (6, 1, false, 0)] [.i .i64 0, .i .i64 0, .i .i64 0, .i .i64 0, .i .i64 0, .b false, .b false])
  | 127 => some (.struct 13 [(0, 1, false, 0), (1, 1, false, 0), (2, 1, false, 2), (3, 1, false, 1), (4, 7, true, 0), (11, 1, false, 1), (12, 1, false, 0)] [.s ⟨#[]⟩, .i .i64 0, .sl .mut 2 [], .sl .mut 1 [], .i .i64 0, .i .i64 0, .i .i64 0, .i .i64 0, .i .i64 0, .b false, .b false, .sl .mut 1 [], .i .i64 0])
  | 128 => some (.struct 13 [(0, 1, false, 0), (1, 1, false, 0), (2, 1, false, 2), (3, 1, false, 1), (4, 7, true, 0), (11, 1, false, 1), (12, 1, false, 0)] [.s ⟨#[]⟩, .i .i64 0, .sl .mut 2 [], .sl .mut 1 [], .i .i64 0, .i .i64 0, .i .i64 0, .i .i64 0, .i .i64 0, .b false, .b false, .sl .mut 1 [], .i .i64 0])
  | 129 => some .fn
  | 130 => some .fn
  | 131 => some .fn
  | 132 => some .fn
  | 133 => some .fn
  | 134 => some .ptr
  | 135 => some .fn
  | 136 => some (.struct 4 [(0, 1, false, 0), (1, 1, false, 0), (2, 1, false, 0), (3, 1, false, 0)] [.i .i64 0, .b false, .i .i64 0, .b false])
  | 137 => some (.struct 4 [(0, 1, false, 0), (1, 1, false, 0), (2, 1, false, 0), (3, 1, false, 0)] [.i .i64 0, .b false, .i .i64 0, .b false])
  | 138 => some (.struct 2 [(0, 1, false, 0), (1, 1, false, 0)] [.i .i64 0, .b false])
  | 139 => some (.struct 2 [(0, 1, false, 0), (1, 1, false, 0)] [.i .i64 0, .b false])
  | 140 => some .fn
  | 141 => some .fn
  | 142 => some .fn
  | 143 => some .fn
  | 144 => some .fn
  | 145 => some (.struct 2 [(0, 1, false, 0), (1, 1, false, 0)] [.s ⟨#[]⟩, .s ⟨#[]⟩])
  | 146 => some (.struct 2 [(0, 1, false, 0), (1, 1, false, 0)] [.s ⟨#[]⟩, .s ⟨#[]⟩])
  | 147 => some .fn
  | 148 => some .fn
  | 149 => some .fn
  | 150 => some .fn
  | 151 => some .fn
  | 152 => some .fn
  | 153 => some .fn
  | 154 => some .fn
  | 155 => some .fn
  | 156 => some .fn
  | 157 => some .fn
  | 158 => some .fn
  | 159 => some (.struct 4 [(0, 1, false, 0), (1, 1, false, 0), (2, 1, false, 0), (3, 1, false, 0)] [.i .i64 0, .b false, .i .i64 0, .b false])
  | 160 => some .fn
  | 161 => some .fn
  | 162 => some .fn
  | 163 => some (.struct 2 [(0, 1, false, 0), (1, 1, false, 0)] [.s ⟨#[]⟩, .s ⟨#[]⟩])
  | 164 => some .fn
  | 165 => some .fn
  | 166 => some (.struct 2 [(0, 1, false, 0), (1, 1, false, 0)] [.i .i64 0, .i .i64 0])
  | 167 => some .fn
  | 168 => some (.struct 2 [(0, 1, false, 0), (1, 1, false, 0)] [.i .i64 0, .b false])
  | 169 => some .fn
  | 170 => some .fn
  | 171 => some .fn
  | 178 => some .fn
  | 179 => some (.int .u32)
  | 183 => some .ptr
  | 188 => some .fn
  | 189 => some .fn
  | 190 => some .fn
  | 191 => some .fn
  | _ => none
@[go_sem] theorem T1 : T 1 = some .fn := nr rfl
@[go_sem] theorem T2 : T 2 = some (.int .i64) := nr rfl
@[go_sem] theorem T3 : T 3 = some (.int .i64) := nr rfl
@[go_sem] theorem T4 : T 4 = some .bool := nr rfl
@[go_sem] theorem T5 : T 5 = some (.int .u8) := nr rfl
@[go_sem] theorem T9 : T 9 = some .str := nr rfl
@[go_sem] theorem T21 : T 21 = some (.int .i32) := nr rfl
@[go_sem] theorem T22 : T 22 = some (.slice 1 16 [.s ⟨#[]⟩]) := nr rfl
@[go_sem] theorem T23 : T 23 = some (.struct 3 [(0, 1, false, 0), (1, 1, false, 0), (2, 1, false, 0)] [.i .i64 0, .i .i64 0, .i .i64 0]) := nr rfl
@[go_sem] theorem T24 : T 24 = some (.struct 3 [(0, 1, false, 0), (1, 1, false, 0), (2, 1, false, 0)] [.i .i64 0, .i .i64 0, .i .i64 0]) := nr rfl
@[go_sem] theorem T25 : T 25 = some (.struct 5 [(0, 1, false, 0), (1, 1, false, 0), (2, 1, false, 0), (3, 1, false, 0), (4, 1, false, 0)] [.i .i64 0, .i .i64 0, .i .i64 0, .i .i64 0, .i .i64 0]) := nr rfl
@[go_sem] theorem T26 : T 26 = some (.struct 5 [(0, 1, false, 0), (1, 1, false, 0), (2, 1, false, 0), (3, 1, false, 0), (4, 1, false, 0)] [.i .i64 0, .i .i64 0, .i .i64 0, .i .i64 0, .i .i64 0]) := nr rfl
@[go_sem] theorem T27 : T 27 = some (.struct 17 [(0, 1, false, 0), (1, 1, false, 0), (2, 1, false, 0), (3, 1, false, 0), (4, 1, false, 0), (5, 1, false, 0), (6, 1, false, 0), (7, 1, false, 0), (8, 1, false, 1), (9, 3, true, 0), (12, 5, true, 0)] [.i .i64 0, .i .i64 0, .i .i64 0, .i .i64 0, .i .i64 0, .i .i64 0, .i .i64 0, .i .i64 0, .sl .mut 1 [], .i .i64 0, .i .i64 0, .i .i64 0, .i .i64 0, .i .i64 0, .i .i64 0, .i .i64 0, .i .i64 0]) := nr rfl
@[go_sem] theorem T28 : T 28 = some (.struct 17 [(0, 1, false, 0), (1, 1, false, 0), (2, 1, false, 0), (3, 1, false, 0), (4, 1, false, 0), (5, 1, false, 0), (6, 1, false, 0), (7, 1, false, 0), (8, 1, false, 1), (9, 3, true, 0), (12, 5, true, 0)] [.i .i64 0, .i .i64 0, .i .i64 0, .i .i64 0, .i .i64 0, .i .i64 0, .i .i64 0, .i .i64 0, .sl .mut 1 [], .i .i64 0, .i .i64 0, .i .i64 0, .i .i64 0, .i .i64 0, .i .i64 0, .i .i64 0, .i .i64 0]) := nr rfl
@[go_sem] theorem T29 : T 29 = some (.slice 13 152 [.s ⟨#[]⟩, .i .i64 0, .sl .mut 2 [], .sl .mut 1 [], .i .i64 0, .i .i64 0, .i .i64 0, .i .i64 0, .i .i64 0, .b false, .b false, .sl .mut 1 [], .i .i64 0]) := nr rfl
@[go_sem] theorem T30 : T 30 = some (.struct 4 [(0, 1, false, 0), (1, 1, false, 0), (2, 1, false, 13), (3, 1, false, 13)] [.i .i64 0, .i .i64 0, .sl .mut 13 [], .sl .mut 13 []]) := nr rfl
@[go_sem] theorem T31 : T 31 = some (.struct 4 [(0, 1, false, 0), (1, 1, false, 0), (2, 1, false, 13), (3, 1, false, 13)] [.i .i64 0, .i .i64 0, .sl .mut 13 [], .sl .mut 13 []]) := nr rfl
@[go_sem] theorem T32 : T 32 = some (.slice 7 96 [.s ⟨#[]⟩, .i .i64 0, .sl .mut 2 [], .i .i64 0, .i .i64 0, .i .i64 0, .sl .mut 2 []]) := nr rfl
@[go_sem] theorem T33 : T 33 = some (.slice 11 144 [.i .i64 0, .s ⟨#[]⟩, .b false, .b false, .i .i64 0, .b false, .s ⟨#[]⟩, .s ⟨#[]⟩, .s ⟨#[]⟩, .sl .mut 2 [], .sl .mut 4 []]) := nr rfl
@[go_sem] theorem T34 : T 34 = some (.struct 25 [(0, 17, true, 0), (17, 1, false, 0), (18, 1, false, 0), (19, 4, true, 0), (23, 1, false, 7), (24, 1, false, 11)] [.i .i64 0, .i .i64 0, .i .i64 0, .i .i64 0, .i .i64 0, .i .i64 0, .i .i64 0, .i .i64 0, .sl .mut 1 [], .i .i64 0, .i .i64 0, .i .i64 0, .i .i64 0, .i .i64 0, .i .i64 0, .i .i64 0, .i .i64 0, .i .i64 0, .i .i64 0, .i .i64 0, .i .i64 0, .sl .mut 13 [], .sl .mut 13 [], .sl .mut 7 [], .sl .mut 11 []]) := nr rfl
@[go_sem] theorem T35 : T 35 = some (.struct 25 [(0, 17, true, 0), (17, 1, false, 0), (18, 1, false, 0), (19, 4, true, 0), (23, 1, false, 7), (24, 1, false, 11)] [.i .i64 0, .i .i64 0, .i .i64 0, .i .i64 0, .i .i64 0, .i .i64 0, .i .i64 0, .i .i64 0, .sl .mut 1 [], .i .i64 0, .i .i64 0, .i .i64 0, .i .i64 0, .i .i64 0, .i .i64 0, .i .i64 0, .i .i64 0, .i .i64 0, .i .i64 0, .i .i64 0, .i .i64 0, .sl .mut 13 [], .sl .mut 13 [], .sl .mut 7 [], .sl .mut 11 []]) := nr rfl
@[go_sem] theorem T36 : T 36 = some .fn := nr rfl
@[go_sem] theorem T37 : T 37 = some .fn := nr rfl
@[go_sem] theorem T38 : T 38 = some (.struct 3 [(0, 1, false, 0), (1, 1, false, 0), (2, 1, false, 0)] [.i .i64 0, .i .i64 0, .i .i64 0]) := nr rfl
@[go_sem] theorem T39 : T 39 = some (.struct 5 [(0, 1, false, 0), (1, 1, false, 0), (2, 1, false, 0), (3, 1, false, 0), (4, 1, false, 0)] [.i .i64 0, .i .i64 0, .i .i64 0, .i .i64 0, .i .i64 0]) := nr rfl
@[go_sem] theorem T40 : T 40 = some (.struct 17 [(0, 1, false, 0), (1, 1, false, 0), (2, 1, false, 0), (3, 1, false, 0), (4, 1, false, 0), (5, 1, false, 0), (6, 1, false, 0), (7, 1, false, 0), (8, 1, false, 1), (9, 3, true, 0), (12, 5, true, 0)] [.i .i64 0, .i .i64 0, .i .i64 0, .i .i64 0, .i .i64 0, .i .i64 0, .i .i64 0, .i .i64 0, .sl .mut 1 [], .i .i64 0, .i .i64 0, .i .i64 0, .i .i64 0, .i .i64 0, .i .i64 0, .i .i64 0, .i .i64 0]) := nr rfl
@[go_sem] theorem T41 : T 41 = some (.struct 17 [(0, 1, false, 0), (1, 1, false, 0), (2, 1, false, 0), (3, 1, false, 0), (4, 1, false, 0), (5, 1, false, 0), (6, 1, false, 0), (7, 1, false, 0), (8, 1, false, 1), (9, 3, true, 0), (12, 5, true, 0)] [.i .i64 0, .i .i64 0, .i .i64 0, .i .i64 0, .i .i64 0, .i .i64 0, .i .i64 0, .i .i64 0, .sl .mut 1 [], .i .i64 0, .i .i64 0, .i .i64 0, .i .i64 0, .i .i64 0, .i .i64 0, .i .i64 0, .i .i64 0]) := nr rfl
@[go_sem] theorem T42 : T 42 = some (.slice 13 152 [.s ⟨#[]⟩, .i .i64 0, .sl .mut 2 [], .sl .mut 1 [], .i .i64 0, .i .i64 0, .i .i64 0, .i .i64 0, .i .i64 0, .b false, .b false, .sl .mut 1 [], .i .i64 0]) := nr rfl
@[go_sem] theorem T43 : T 43 = some (.struct 4 [(0, 1, false, 0), (1, 1, false, 0), (2, 1, false, 13), (3, 1, false, 13)] [.i .i64 0, .i .i64 0, .sl .mut 13 [], .sl .mut 13 []]) := nr rfl
@[go_sem] theorem T44 : T 44 = some (.struct 4 [(0, 1, false, 0), (1, 1, false, 0), (2, 1, false, 13), (3, 1, false, 13)] [.i .i64 0, .i .i64 0, .sl .mut 13 [], .sl .mut 13 []]) := nr rfl
@[go_sem] theorem T45 : T 45 = some (.slice 7 96 [.s ⟨#[]⟩, .i .i64 0, .sl .mut 2 [], .i .i64 0, .i .i64 0, .i .i64 0, .sl .mut 2 []]) := nr rfl
@[go_sem] theorem T46 : T 46 = some (.slice 11 144 [.i .i64 0, .s ⟨#[]⟩, .b false, .b false, .i .i64 0, .b false, .s ⟨#[]⟩, .s ⟨#[]⟩, .s ⟨#[]⟩, .sl .mut 2 [], .sl .mut 4 []]) := nr rfl
@[go_sem] theorem T47 : T 47 = some (.struct 25 [(0, 17, true, 0), (17, 1, false, 0), (18, 1, false, 0), (19, 4, true, 0), (23, 1, false, 7), (24, 1, false, 11)] [.i .i64 0, .i .i64 0, .i .i64 0, .i .i64 0, .i .i64 0, .i .i64 0, .i .i64 0, .i .i64 0, .sl .mut 1 [], .i .i64 0, .i .i64 0, .i .i64 0, .i .i64 0, .i .i64 0, .i .i64 0, .i .i64 0, .i .i64 0, .i .i64 0, .i .i64 0, .i .i64 0, .i .i64 0, .sl .mut 13 [], .sl .mut 13 [], .sl .mut 7 [], .sl .mut 11 []]) := nr rfl
@[go_sem] theorem T48 : T 48 = some (.struct 25 [(0, 17, true, 0), (17, 1, false, 0), (18, 1, false, 0), (19, 4, true, 0), (23, 1, false, 7), (24, 1, false, 11)] [.i .i64 0, .i .i64 0, .i .i64 0, .i .i64 0, .i .i64 0, .i .i64 0, .i .i64 0, .i .i64 0, .sl .mut 1 [], .i .i64 0, .i .i64 0, .i .i64 0, .i .i64 0, .i .i64 0, .i .i64 0, .i .i64 0, .i .i64 0, .i .i64 0, .i .i64 0, .i .i64 0, .i .i64 0, .sl .mut 13 [], .sl .mut 13 [], .sl .mut 7 [], .sl .mut 11 []]) := nr rfl
@[go_sem] theorem T49 : T 49 = some .fn := nr rfl
@[go_sem] theorem T50 : T 50 = some .fn := nr rfl
@[go_sem] theorem T51 : T 51 = some .fn := nr rfl
@[go_sem] theorem T52 : T 52 = some .fn := nr rfl
@[go_sem] theorem T53 : T 53 = some .fn := nr rfl
@[go_sem] theorem T54 : T 54 = some .fn := nr rfl
@[go_sem] theorem T55 : T 55 = some .fn := nr rfl
@[go_sem] theorem T56 : T 56 = some .ptr := nr rfl
@[go_sem] theorem T57 : T 57 = some .fn := nr rfl
@[go_sem] theorem T58 : T 58 = some .fn := nr rfl
@[go_sem] theorem T59 : T 59 = some (.slice 2 16 [.i .i64 0, .i .i64 0]) := nr rfl
@[go_sem] theorem T60 : T 60 = some (.struct 2 [(0, 1, false, 0), (1, 1, false, 2)] [.i .i64 0, .sl .mut 2 []]) := nr rfl
@[go_sem] theorem T61 : T 61 = some (.struct 2 [(0, 1, false, 0), (1, 1, false, 2)] [.i .i64 0, .sl .mut 2 []]) := nr rfl
@[go_sem] theorem T62 : T 62 = some (.slice 2 16 [.i .i64 0, .b false]) := nr rfl
@[go_sem] theorem T63 : T 63 = some (.struct 4 [(0, 1, false, 0), (1, 1, false, 0), (2, 1, false, 0), (3, 1, false, 2)] [.i .i64 0, .i .i64 0, .i .i64 0, .sl .mut 2 []]) := nr rfl
@[go_sem] theorem T64 : T 64 = some (.struct 4 [(0, 1, false, 0), (1, 1, false, 0), (2, 1, false, 0), (3, 1, false, 2)] [.i .i64 0, .i .i64 0, .i .i64 0, .sl .mut 2 []]) := nr rfl
@[go_sem] theorem T65 : T 65 = some (.struct 7 [(0, 1, false, 0), (1, 2, true, 0), (3, 4, true, 0)] [.s ⟨#[]⟩, .i .i64 0, .sl .mut 2 [], .i .i64 0, .i .i64 0, .i .i64 0, .sl .mut 2 []]) := nr rfl
@[go_sem] theorem T66 : T 66 = some (.struct 7 [(0, 1, false, 0), (1, 2, true, 0), (3, 4, true, 0)] [.s ⟨#[]⟩, .i .i64 0, .sl .mut 2 [], .i .i64 0, .i .i64 0, .i .i64 0, .sl .mut 2 []]) := nr rfl
@[go_sem] theorem T67 : T 67 = some .fn := nr rfl
@[go_sem] theorem T68 : T 68 = some .fn := nr rfl
@[go_sem] theorem T69 : T 69 = some .fn := nr rfl
@[go_sem] theorem T70 : T 70 = some .fn := nr rfl
@[go_sem] theorem T71 : T 71 = some .fn := nr rfl
@[go_sem] theorem T72 : T 72 = some .fn := nr rfl
@[go_sem] theorem T73 : T 73 = some .fn := nr rfl
@[go_sem] theorem T74 : T 74 = some .fn := nr rfl
@[go_sem] theorem T75 : T 75 = some .fn := nr rfl
@[go_sem] theorem T76 : T 76 = some .fn := nr rfl
@[go_sem] theorem T77 : T 77 = some .fn := nr rfl
@[go_sem] theorem T78 : T 78 = some .fn := nr rfl
@[go_sem] theorem T79 : T 79 = some .fn := nr rfl
@[go_sem] theorem T80 : T 80 = some (.slice 2 16 [.i .i64 0, .i .i64 0]) := nr rfl
@[go_sem] theorem T81 : T 81 = some (.struct 2 [(0, 1, false, 0), (1, 1, false, 2)] [.i .i64 0, .sl .mut 2 []]) := nr rfl
@[go_sem] theorem T82 : T 82 = some (.struct 2 [(0, 1, false, 0), (1, 1, false, 2)] [.i .i64 0, .sl .mut 2 []]) := nr rfl
@[go_sem] theorem T83 : T 83 = some (.slice 2 16 [.i .i64 0, .b false]) := nr rfl
@[go_sem] theorem T84 : T 84 = some (.struct 4 [(0, 1, false, 0), (1, 1, false, 0), (2, 1, false, 0), (3, 1, false, 2)] [.i .i64 0, .i .i64 0, .i .i64 0, .sl .mut 2 []]) := nr rfl
@[go_sem] theorem T85 : T 85 = some (.struct 4 [(0, 1, false, 0), (1, 1, false, 0), (2, 1, false, 0), (3, 1, false, 2)] [.i .i64 0, .i .i64 0, .i .i64 0, .sl .mut 2 []]) := nr rfl
@[go_sem] theorem T86 : T 86 = some (.struct 7 [(0, 1, false, 0), (1, 2, true, 0), (3, 4, true, 0)] [.s ⟨#[]⟩, .i .i64 0, .sl .mut 2 [], .i .i64 0, .i .i64 0, .i .i64 0, .sl .mut 2 []]) := nr rfl
@[go_sem] theorem T87 : T 87 = some (.struct 7 [(0, 1, false, 0), (1, 2, true, 0), (3, 4, true, 0)] [.s ⟨#[]⟩, .i .i64 0, .sl .mut 2 [], .i .i64 0, .i .i64 0, .i .i64 0, .sl .mut 2 []]) := nr rfl
@[go_sem] theorem T88 : T 88 = some .fn := nr rfl
@[go_sem] theorem T89 : T 89 = some (.slice 2 32 [.s ⟨#[]⟩, .s ⟨#[]⟩]) := nr rfl
@[go_sem] theorem T90 : T 90 = some (.struct 4 [(0, 1, false, 0), (1, 1, false, 0), (2, 1, false, 0), (3, 1, false, 2)] [.s ⟨#[]⟩, .s ⟨#[]⟩, .s ⟨#[]⟩, .sl .mut 2 []]) := nr rfl
@[go_sem] theorem T91 : T 91 = some (.struct 4 [(0, 1, false, 0), (1, 1, false, 0), (2, 1, false, 0), (3, 1, false, 2)] [.s ⟨#[]⟩, .s ⟨#[]⟩, .s ⟨#[]⟩, .sl .mut 2 []]) := nr rfl
@[go_sem] theorem T92 : T 92 = some (.slice 4 32 [.i .i64 0, .b false, .i .i64 0, .b false]) := nr rfl
@[go_sem] theorem T93 : T 93 = some (.struct 11 [(0, 1, false, 0), (1, 1, false, 0), (2, 1, false, 0), (3, 1, false, 0), (4, 1, false, 0), (5, 1, false, 0), (6, 4, true, 0), (10, 1, false, 4)] [.i .i64 0, .s ⟨#[]⟩, .b false, .b false, .i .i64 0, .b false, .s ⟨#[]⟩, .s ⟨#[]⟩, .s ⟨#[]⟩, .sl .mut 2 [], .sl .mut 4 []]) := nr rfl
@[go_sem] theorem T94 : T 94 = some (.struct 11 [(0, 1, false, 0), (1, 1, false, 0), (2, 1, false, 0), (3, 1, false, 0), (4, 1, false, 0), (5, 1, false, 0), (6, 4, true, 0), (10, 1, false, 4)] [.i .i64 0, .s ⟨#[]⟩, .b false, .b false, .i .i64 0, .b false, .s ⟨#[]⟩, .s ⟨#[]⟩, .s ⟨#[]⟩, .sl .mut 2 [], .sl .mut 4 []]) := nr rfl
@[go_sem] theorem T95 : T 95 = some .fn := nr rfl
@[go_sem] theorem T96 : T 96 = some .fn := nr rfl
@[go_sem] theorem T97 : T 97 = some (.slice 2 32 [.s ⟨#[]⟩, .s ⟨#[]⟩]) := nr rfl
@[go_sem] theorem T98 : T 98 = some (.struct 4 [(0, 1, false, 0), (1, 1, false, 0), (2, 1, false, 0), (3, 1, false, 2)] [.s ⟨#[]⟩, .s ⟨#[]⟩, .s ⟨#[]⟩, .sl .mut 2 []]) := nr rfl
@[go_sem] theorem T99 : T 99 = some (.struct 4 [(0, 1, false, 0), (1, 1, false, 0), (2, 1, false, 0), (3, 1, false, 2)] [.s ⟨#[]⟩, .s ⟨#[]⟩, .s ⟨#[]⟩, .sl .mut 2 []]) := nr rfl
@[go_sem] theorem T100 : T 100 = some (.slice 4 32 [.i .i64 0, .b false, .i .i64 0, .b false]) := nr rfl
@[go_sem] theorem T101 : T 101 = some (.struct 11 [(0, 1, false, 0), (1, 1, false, 0), (2, 1, false, 0), (3, 1, false, 0), (4, 1, false, 0), (5, 1, false, 0), (6, 4, true, 0), (10, 1, false, 4)] [.i .i64 0, .s ⟨#[]⟩, .b false, .b false, .i .i64 0, .b false, .s ⟨#[]⟩, .s ⟨#[]⟩, .s ⟨#[]⟩, .sl .mut 2 [], .sl .mut 4 []]) := nr rfl
@[go_sem] theorem T102 : T 102 = some (.struct 11 [(0, 1, false, 0), (1, 1, false, 0), (2, 1, false, 0), (3, 1, false, 0), (4, 1, false, 0), (5, 1, false, 0), (6, 4, true, 0), (10, 1, false, 4)] [.i .i64 0, .s ⟨#[]⟩, .b false, .b false, .i .i64 0, .b false, .s ⟨#[]⟩, .s ⟨#[]⟩, .s ⟨#[]⟩, .sl .mut 2 [], .sl .mut 4 []]) := nr rfl
@[go_sem] theorem T103 : T 103 = some .fn := nr rfl
@[go_sem] theorem T104 : T 104 = some .fn := nr rfl
@[go_sem] theorem T105 : T 105 = some (.struct 2 [(0, 1, false, 0), (1, 1, false, 0)] [.i .i64 0, .i .i64 0]) := nr rfl
@[go_sem] theorem T106 : T 106 = some (.struct 2 [(0, 1, false, 0), (1, 1, false, 0)] [.i .i64 0, .i .i64 0]) := nr rfl
@[go_sem] theorem T107 : T 107 = some .fn := nr rfl
@[go_sem] theorem T108 : T 108 = some .fn := nr rfl
@[go_sem] theorem T109 : T 109 = some .fn := nr rfl
@[go_sem] theorem T110 : T 110 = some .fn := nr rfl
@[go_sem] theorem T111 : T 111 = some .fn := nr rfl
@[go_sem] theorem T112 : T 112 = some .fn := nr rfl
@[go_sem] theorem T113 : T 113 = some .fn := nr rfl
@[go_sem] theorem T114 : T 114 = some .fn := nr rfl
@[go_sem] theorem T115 : T 115 = some (.slice 1 1 [.i .u8 0]) := nr rfl
@[go_sem] theorem T116 : T 116 = some (.struct 7 [(0, 1, false, 0), (1, 1, false, 0), (2, 1, false, 0), (3, 1, false, 0), (4, 1, false, 0), (5, 1, false, 0), (6, 1, false, 0)] [.i .i64 0, .i .i64 0, .i .i64 0, .i .i64 0, .i .i64 0, .b false, .b false]) := nr rfl
@[go_sem] theorem T117 : T 117 = some (.struct 7 [(0, 1, false, 0), (1, 1, false, 0), (2, 1, false, 0), (3, 1, false, 0), (4, 1, false, 0), (5, 1, false, 0), (6, 1, false, 0)] [.i .i64 0, .i .i64 0, .i .i64 0, .i .i64 0, .i .i64 0, .b false, .b false]) := nr rfl
@[go_sem] theorem T118 : T 118 = some (.struct 13 [(0, 1, false, 0), (1, 1, false, 0), (2, 1, false, 2), (3, 1, false, 1), (4, 7, true, 0), (11, 1, false, 1), (12, 1, false, 0)] [.s ⟨#[]⟩, .i .i64 0, .sl .mut 2 [], .sl .mut 1 [], .i .i64 0, .i .i64 0, .i .i64 0, .i .i64 0, .i .i64 0, .b false, .b false, .sl .mut 1 [], .i .i64 0]) := nr rfl
@[go_sem] theorem T119 : T 119 = some (.struct 13 [(0, 1, false, 0), (1, 1, false, 0), (2, 1, false, 2), (3, 1, false, 1), (4, 7, true, 0), (11, 1, false, 1), (12, 1, false, 0)] [.s ⟨#[]⟩, .i .i64 0, .sl .mut 2 [], .sl .mut 1 [], .i .i64 0, .i .i64 0, .i .i64 0, .i .i64 0, .i .i64 0, .b false, .b false, .sl .mut 1 [], .i .i64 0]) := nr rfl
@[go_sem] theorem T120 : T 120 = some .fn := nr rfl
@[go_sem] theorem T121 : T 121 = some .fn := nr rfl
@[go_sem] theorem T122 : T 122 = some .fn := nr rfl
@[go_sem] theorem T123 : T 123 = some .fn := nr rfl
@[go_sem] theorem T124 : T 124 = some .fn := nr rfl
@[go_sem] theorem T125 : T 125 = some .fn := nr rfl
@[go_sem] theorem T126 : T 126 = some (.struct 7 [(0, 1, false, 0), (1, 1, false, 0), (2, 1, false, 0), (3, 1, false, 0), (4, 1, false, 0), (5, 1, false, 0), (6, 1, false, 0)] [.i .i64 0, .i .i64 0, .i .i64 0, .i .i64 0, .i .i64 0, .b false, .b false]) := nr rfl
@[go_sem] theorem T127 : T 127 = some (.struct 13 [(0, 1, false, 0), (1, 1, false, 0), (2, 1, false, 2), (3, 1, false, 1), (4, 7, true, 0), (11, 1, false, 1), (12, 1, false, 0)] [.s ⟨#[]⟩, .i .i64 0, .sl .mut 2 [], .sl .mut 1 [], .i .i64 0, .i .i64 0, .i .i64 0, .i .i64 0, .i .i64 0, .b false, .b false, .sl .mut 1 [], .i .i64 0]) := nr rfl
@[go_sem] theorem T128 : T 128 = some (.struct 13 [(0, 1, false, 0), (1, 1, false, 0), (2, 1, false, 2), (3, 1, false, 1), (4, 7, true, 0), (11, 1, false, 1), (12, 1, false, 0)] [.s ⟨#[]⟩, .i .i64 0, .sl .mut 2 [], .sl .mut 1 [], .i .i64 0, .i .i64 0, .i .i64 0, .i .i64 0, .i .i64 0, .b false, .b false, .sl .mut 1 [], .i .i64 0]) := nr rfl
@[go_sem] theorem T129 : T 129 = some .fn := nr rfl
@[go_sem] theorem T130 : T 130 = some .fn := nr rfl
@[go_sem] theorem T131 : T 131 = some .fn := nr rfl
@[go_sem] theorem T132 : T 132 = some .fn := nr rfl
@[go_sem] theorem T133 : T 133 = some .fn := nr rfl
@[go_sem] theorem T134 : T 134 = some .ptr := nr rfl
@[go_sem] theorem T135 : T 135 = some .fn := nr rfl
@[go_sem] theorem T136 : T 136 = some (.struct 4 [(0, 1, false, 0), (1, 1, false, 0), (2, 1, false, 0), (3, 1, false, 0)] [.i .i64 0, .b false, .i .i64 0, .b false]) := nr rfl
@[go_sem] theorem T137 : T 137 = some (.struct 4 [(0, 1, false, 0), (1, 1, false, 0), (2, 1, false, 0), (3, 1, false, 0)] [.i .i64 0, .b false, .i .i64 0, .b false]) := nr rfl
@[go_sem] theorem T138 : T 138 = some (.struct 2 [(0, 1, false, 0), (1, 1, false, 0)] [.i .i64 0, .b false]) := nr rfl
@[go_sem] theorem T139 : T 139 = some (.struct 2 [(0, 1, false, 0), (1, 1, false, 0)] [.i .i64 0, .b false]) := nr rfl
@[go_sem] theorem T140 : T 140 = some .fn := nr rfl
@[go_sem] theorem T141 : T 141 = some .fn := nr rfl
@[go_sem] theorem T142 : T 142 = some .fn := nr rfl
@[go_sem] theorem T143 : T 143 = some .fn := nr rfl
@[go_sem] theorem T144 : T 144 = some .fn := nr rfl
@[go_sem] theorem T145 : T 145 = some (.struct 2 [(0, 1, false, 0), (1, 1, false, 0)] [.s ⟨#[]⟩, .s ⟨#[]⟩]) := nr rfl
@[go_sem] theorem T146 : T 146 = some (.struct 2 [(0, 1, false, 0), (1, 1, false, 0)] [.s ⟨#[]⟩, .s ⟨#[]⟩]) := nr rfl
@[go_sem] theorem T147 : T 147 = some .fn := nr rfl
@[go_sem] theorem T148 : T 148 = some .fn := nr rfl
@[go_sem] theorem T149 : T 149 = some .fn := nr rfl
@[go_sem] theorem T150 : T 150 = some .fn := nr rfl
@[go_sem] theorem T151 : T 151 = some .fn := nr rfl
@[go_sem] theorem T152 : T 152 = some .fn := nr rfl
@[go_sem] theorem T153 : T 153 = some .fn := nr rfl
@[go_sem] theorem T154 : T 154 = some .fn := nr rfl
@[go_sem] theorem T155 : T 155 = some .fn := nr rfl
@[go_sem] theorem T156 : T 156 = some .fn := nr rfl
@[go_sem] theorem T157 : T 157 = some .fn := nr rfl
@[go_sem] theorem T158 : T 158 = some .fn := nr rfl
@[go_sem] theorem T159 : T 159 = some (.struct 4 [(0, 1, false, 0), (1, 1, false, 0), (2, 1, false, 0), (3, 1, false, 0)] [.i .i64 0, .b false, .i .i64 0, .b false]) := nr rfl
@[go_sem] theorem T160 : T 160 = some .fn := nr rfl
@[go_sem] theorem T161 : T 161 = some .fn := nr rfl
@[go_sem] theorem T162 : T 162 = some .fn := nr rfl
@[go_sem] theorem T163 : T 163 = some (.struct 2 [(0, 1, false, 0), (1, 1, false, 0)] [.s ⟨#[]⟩, .s ⟨#[]⟩]) := nr rfl
@[go_sem] theorem T164 : T 164 = some .fn := nr rfl
@[go_sem] theorem T165 : T 165 = some .fn := nr rfl
@[go_sem] theorem T166 : T 166 = some (.struct 2 [(0, 1, false, 0), (1, 1, false, 0)] [.i .i64 0, .i .i64 0]) := nr rfl
@[go_sem] theorem T167 : T 167 = some .fn := nr rfl
@[go_sem] theorem T168 : T 168 = some (.struct 2 [(0, 1, false, 0), (1, 1, false, 0)] [.i .i64 0, .b false]) := nr rfl
@[go_sem] theorem T169 : T 169 = some .fn := nr rfl
@[go_sem] theorem T170 : T 170 = some .fn := nr rfl
@[go_sem] theorem T171 : T 171 = some .fn := nr rfl
@[go_sem] theorem T178 : T 178 = some .fn := nr rfl
@[go_sem] theorem T179 : T 179 = some (.int .u32) := nr rfl
@[go_sem] theorem T183 : T 183 = some .ptr := nr rfl
@[go_sem] theorem T188 : T 188 = some .fn := nr rfl
@[go_sem] theorem T189 : T 189 = some .fn := nr rfl
@[go_sem] theorem T190 : T 190 = some .fn := nr rfl
@[go_sem] theorem T191 : T 191 = some .fn := nr rfl
def Q : TypeId → Option (List Nat)
  | 23 => some [1, 1, 1]
  | 24 => some [1, 1, 1]
  | 25 => some [1, 1, 1, 1, 1]
  | 26 => some [1, 1, 1, 1, 1]
  | 38 => some [1, 1, 1]
  | 39 => some [1, 1, 1, 1, 1]
  | 105 => some [1, 1]
  | 106 => some [1, 1]
  | 116 => some [1, 1, 1, 1, 1, 0, 0]
  | 117 => some [1, 1, 1, 1, 1, 0, 0]
  | 126 => some [1, 1, 1, 1, 1, 0, 0]
  | 136 => some [1, 0, 1, 0]
  | 137 => some [1, 0, 1, 0]
  | 138 => some [1, 0]
  | 139 => some [1, 0]
  | 145 => some [2, 2]
  | 146 => some [2, 2]
  | 159 => some [1, 0, 1, 0]
  | 163 => some [2, 2]
  | 166 => some [1, 1]
  | 168 => some [1, 0]
  | _ => none
@[go_sem] theorem Q23 : Q 23 = some [1, 1, 1] := nr rfl
@[go_sem] theorem Q24 : Q 24 = some [1, 1, 1] := nr rfl
@[go_sem] theorem Q25 : Q 25 = some [1, 1, 1, 1, 1] := nr rfl
@[go_sem] theorem Q26 : Q 26 = some [1, 1, 1, 1, 1] := nr rfl
@[go_sem] theorem Q38 : Q 38 = some [1, 1, 1] := nr rfl
@[go_sem] theorem Q39 : Q 39 = some [1, 1, 1, 1, 1] := nr rfl
@[go_sem] theorem Q105 : Q 105 = some [1, 1] := nr rfl
@[go_sem] theorem Q106 : Q 106 = some [1, 1] := nr rfl
@[go_sem] theorem Q116 : Q 116 = some [1, 1, 1, 1, 1, 0, 0] := nr rfl
@[go_sem] theorem Q117 : Q 117 = some [1, 1, 1, 1, 1, 0, 0] := nr rfl
@[go_sem] theorem Q126 : Q 126 = some [1, 1, 1, 1, 1, 0, 0] := nr rfl
@[go_sem] theorem Q136 : Q 136 = some [1, 0, 1, 0] := nr rfl
@[go_sem] theorem Q137 : Q 137 = some [1, 0, 1, 0] := nr rfl
@[go_sem] theorem Q138 : Q 138 = some [1, 0] := nr rfl
@[go_sem] theorem Q139 : Q 139 = some [1, 0] := nr rfl
@[go_sem] theorem Q145 : Q 145 = some [2, 2] := nr rfl
@[go_sem] theorem Q146 : Q 146 = some [2, 2] := nr rfl
@[go_sem] theorem Q159 : Q 159 = some [1, 0, 1, 0] := nr rfl
@[go_sem] theorem Q163 : Q 163 = some [2, 2] := nr rfl
@[go_sem] theorem Q166 : Q 166 = some [1, 1] := nr rfl
@[go_sem] theorem Q168 : Q 168 = some [1, 0] := nr rfl
instance instTb : HasTb Tryz.prog := ⟨fun _ _ => True, fun _ _ _ _ => trivial⟩
theorem tyOk (cx : Cx) (h : cx.T = T) (h2 : cx.eqs = Q) : CxOk Tryz.prog cx := by
  refine ⟨fun t ti ht => ?_, fun t ks hk => ?_⟩
  · rw [h] at ht
    unfold T at ht
    split at ht <;> first | cases ht; done | (injection ht with ht; subst ht; exact tiOk_s (by kernel_rfl))
  · rw [h2] at hk
    unfold Q at hk
    split at hk <;> first | cases hk; done | (injection hk with hk; subst hk; kernel_rfl)
def tyA : TyOf Tryz.prog := ⟨T, Q, tyOk, by kernel_rfl⟩
@[go_sem] theorem tyA_T : tyA.T = T := nr rfl
@[go_sem] theorem tyA_Q : tyA.Q = Q := nr rfl
end Go.Vm.A
