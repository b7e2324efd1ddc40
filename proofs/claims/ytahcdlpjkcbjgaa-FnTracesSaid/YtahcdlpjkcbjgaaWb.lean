/- Functions of the program, walked by the evaluator. -/
import Derived.Test.YtahcdlpjkcbjgaaWa
import Derived.Test.YtahcdlpjkcbjgaaProg
import Derived.KernelRfl
/- What the evaluator must know of the program's types. -/
set_option autoImplicit false
set_option maxRecDepth 100000
set_option maxHeartbeats 4000000
set_option linter.unusedVariables false
set_option linter.unusedSimpArgs false

namespace Go.Vm.A
open Go.Proofs
def T : TypeId → Option TI
  | 1 => some .fn
  | 2 => some (.int .i64)
  | 3 => some (.int .i64)
  | 4 => some .bool
  | 5 => some (.int .u8)
  | 9 => some .str
  | 21 => some (.int .i32)
  | 22 => some (.slice 1 1 [.i .u8 0])
  | 23 => some .fn
  | 24 => some (.slice 2 16 [.i .i64 0, .b false])
  | 25 => some (.struct 4 [(0, 1, false, 0), (1, 1, false, 0), (2, 1, false, 0), (3, 1, false, 2)] [.i .i64 0, .i .i64 0, .i .i64 0, .sl .mut 2 []])
  | 26 => some (.struct 4 [(0, 1, false, 0), (1, 1, false, 0), (2, 1, false, 0), (3, 1, false, 2)] [.i .i64 0, .i .i64 0, .i .i64 0, .sl .mut 2 []])
  | 27 => some (.struct 5 [(0, 1, false, 0), (1, 1, false, 0), (2, 1, false, 0), (3, 1, false, 0), (4, 1, false, 0)] [.i .i64 0, .i .i64 0, .i .i64 0, .i .i64 0, .i .i64 0])
  | 28 => some (.struct 5 [(0, 1, false, 0), (1, 1, false, 0), (2, 1, false, 0), (3, 1, false, 0), (4, 1, false, 0)] [.i .i64 0, .i .i64 0, .i .i64 0, .i .i64 0, .i .i64 0])
  | 30 => some .fn
  | 31 => some (.struct 5 [(0, 1, false, 0), (1, 4, true, 0)] [.i .i64 0, .i .i64 0, .i .i64 0, .i .i64 0, .sl .mut 2 []])
  | 32 => some (.struct 5 [(0, 1, false, 0), (1, 4, true, 0)] [.i .i64 0, .i .i64 0, .i .i64 0, .i .i64 0, .sl .mut 2 []])
  | 33 => some .fn
  | 34 => some (.struct 2 [(0, 1, false, 0), (1, 1, false, 0)] [.i .i64 0, .i .i64 0])
  | 35 => some (.struct 2 [(0, 1, false, 0), (1, 1, false, 0)] [.i .i64 0, .i .i64 0])
  | 36 => some .fn
  | 37 => some .fn
  | 38 => some .fn
  | 39 => some (.slice 3 16 [.i .i64 0, .b false, .b false])
  | 41 => some .fn
  | 42 => some (.slice 1 8 [.i .i64 0])
  | 43 => some (.slice 1 1 [.b false])
  | 44 => some (.struct 3 [(0, 1, false, 0), (1, 1, false, 1), (2, 1, false, 1)] [.i .i64 0, .sl .mut 1 [], .sl .mut 1 []])
  | 45 => some (.struct 3 [(0, 1, false, 0), (1, 1, false, 1), (2, 1, false, 1)] [.i .i64 0, .sl .mut 1 [], .sl .mut 1 []])
  | 46 => some .fn
  | 47 => some .fn
  | 48 => some (.struct 3 [(0, 1, false, 0), (1, 1, false, 0), (2, 1, false, 0)] [.i .i64 0, .b false, .b false])
  | 49 => some (.struct 3 [(0, 1, false, 0), (1, 1, false, 0), (2, 1, false, 0)] [.i .i64 0, .b false, .b false])
  | 50 => some (.struct 6 [(0, 1, false, 0), (1, 4, true, 0), (5, 1, false, 0)] [.i .i64 0, .i .i64 0, .i .i64 0, .i .i64 0, .sl .mut 2 [], .b false])
  | 51 => some (.struct 6 [(0, 1, false, 0), (1, 4, true, 0), (5, 1, false, 0)] [.i .i64 0, .i .i64 0, .i .i64 0, .i .i64 0, .sl .mut 2 [], .b false])
  | 52 => some .fn
  | 53 => some (.slice 10 160 [.i .i64 0, .i .i64 0, .s ⟨#[]⟩, .i .i64 0, .sl .mut 2 [], .sl .mut 1 [], .s ⟨#[]⟩, .s ⟨#[]⟩, .s ⟨#[]⟩, .sl .mut 2 []])
  | 54 => some .fn
  | 55 => some (.slice 1 16 [.s ⟨#[]⟩])
  | 56 => some (.struct 2 [(0, 1, false, 0), (1, 1, false, 1)] [.i .i64 0, .sl .mut 1 []])
  | 57 => some (.struct 2 [(0, 1, false, 0), (1, 1, false, 1)] [.i .i64 0, .sl .mut 1 []])
  | 58 => some .fn
  | 59 => some (.slice 10 160 [.i .i64 0, .i .i64 0, .s ⟨#[]⟩, .i .i64 0, .sl .mut 2 [], .sl .mut 1 [], .s ⟨#[]⟩, .s ⟨#[]⟩, .s ⟨#[]⟩, .sl .mut 2 []])
  | 60 => some .fn
  | 61 => some .fn
  | 62 => some .fn
  | 63 => some .fn
  | 64 => some .fn
  | 65 => some .fn
  | 66 => some (.struct 5 [(0, 1, false, 0), (1, 1, false, 0), (2, 1, false, 0), (3, 1, false, 0), (4, 1, false, 0)] [.i .i64 0, .i .i64 0, .i .i64 0, .i .i64 0, .i .i64 0])
  | 67 => some (.slice 3 16 [.i .i64 0, .b false, .b false])
  | 68 => some .fn
  | 69 => some .fn
  | 70 => some .fn
  | 71 => some .fn
  | 72 => some .fn
  | 73 => some .fn
  | 74 => some .fn
  | 75 => some .fn
  | 77 => some .fn
  | 78 => some .fn
  | 79 => some .ptr
  | 80 => some .fn
  | 81 => some .fn
  | 82 => some .fn
  | 83 => some .fn
  | 84 => some .fn
  | 85 => some .ptr
  | 86 => some .ptr
  | 87 => some .fn
  | 88 => some .fn
  | 89 => some .fn
  | 90 => some .fn
  | 91 => some .fn
  | 92 => some .fn
  | 93 => some .fn
  | 94 => some (.struct 2 [(0, 1, false, 0), (1, 1, false, 0)] [.i .i64 0, .b false])
  | 95 => some (.struct 2 [(0, 1, false, 0), (1, 1, false, 0)] [.i .i64 0, .b false])
  | 96 => some .fn
  | 97 => some .fn
  | 98 => some .fn
  | 99 => some .fn
  | 100 => some .fn
  | 101 => some .fn
  | 103 => some .fn
  | 104 => some .fn
  | 105 => some .fn
  | 106 => some .fn
  | 107 => some (.slice 2 32 [.s ⟨#[]⟩, .s ⟨#[]⟩])
  | 108 => some (.struct 3 [(0, 1, false, 0), (1, 1, false, 2), (2, 1, false, 1)] [.i .i64 0, .sl .mut 2 [], .sl .mut 1 []])
  | 109 => some (.struct 3 [(0, 1, false, 0), (1, 1, false, 2), (2, 1, false, 1)] [.i .i64 0, .sl .mut 2 [], .sl .mut 1 []])
  | 110 => some (.struct 4 [(0, 1, false, 0), (1, 1, false, 0), (2, 1, false, 0), (3, 1, false, 2)] [.s ⟨#[]⟩, .s ⟨#[]⟩, .s ⟨#[]⟩, .sl .mut 2 []])
  | 111 => some (.struct 4 [(0, 1, false, 0), (1, 1, false, 0), (2, 1, false, 0), (3, 1, false, 2)] [.s ⟨#[]⟩, .s ⟨#[]⟩, .s ⟨#[]⟩, .sl .mut 2 []])
  | 112 => some (.struct 10 [(0, 1, false, 0), (1, 1, false, 0), (2, 1, false, 0), (3, 3, true, 0), (6, 4, true, 0)] [.i .i64 0, .i .i64 0, .s ⟨#[]⟩, .i .i64 0, .sl .mut 2 [], .sl .mut 1 [], .s ⟨#[]⟩, .s ⟨#[]⟩, .s ⟨#[]⟩, .sl .mut 2 []])
  | 113 => some (.struct 10 [(0, 1, false, 0), (1, 1, false, 0), (2, 1, false, 0), (3, 3, true, 0), (6, 4, true, 0)] [.i .i64 0, .i .i64 0, .s ⟨#[]⟩, .i .i64 0, .sl .mut 2 [], .sl .mut 1 [], .s ⟨#[]⟩, .s ⟨#[]⟩, .s ⟨#[]⟩, .sl .mut 2 []])
  | 114 => some .fn
  | 115 => some (.slice 2 32 [.s ⟨#[]⟩, .s ⟨#[]⟩])
  | 116 => some (.struct 3 [(0, 1, false, 0), (1, 1, false, 2), (2, 1, false, 1)] [.i .i64 0, .sl .mut 2 [], .sl .mut 1 []])
  | 117 => some (.struct 3 [(0, 1, false, 0), (1, 1, false, 2), (2, 1, false, 1)] [.i .i64 0, .sl .mut 2 [], .sl .mut 1 []])
  | 118 => some (.struct 4 [(0, 1, false, 0), (1, 1, false, 0), (2, 1, false, 0), (3, 1, false, 2)] [.s ⟨#[]⟩, .s ⟨#[]⟩, .s ⟨#[]⟩, .sl .mut 2 []])
  | 119 => some (.struct 4 [(0, 1, false, 0), (1, 1, false, 0), (2, 1, false, 0), (3, 1, false, 2)] [.s ⟨#[]⟩, .s ⟨#[]⟩, .s ⟨#[]⟩, .sl .mut 2 []])
  | 120 => some (.struct 10 [(0, 1, false, 0), (1, 1, false, 0), (2, 1, false, 0), (3, 3, true, 0), (6, 4, true, 0)] [.i .i64 0, .i .i64 0, .s ⟨#[]⟩, .i .i64 0, .sl .mut 2 [], .sl .mut 1 [], .s ⟨#[]⟩, .s ⟨#[]⟩, .s ⟨#[]⟩, .sl .mut 2 []])
  | 121 => some (.struct 10 [(0, 1, false, 0), (1, 1, false, 0), (2, 1, false, 0), (3, 3, true, 0), (6, 4, true, 0)] [.i .i64 0, .i .i64 0, .s ⟨#[]⟩, .i .i64 0, .sl .mut 2 [], .sl .mut 1 [], .s ⟨#[]⟩, .s ⟨#[]⟩, .s ⟨#[]⟩, .sl .mut 2 []])
  | 122 => some .fn
  | 123 => some .fn
  | 124 => some .fn
  | 125 => some .fn
  | 126 => some .fn
  | 127 => some .fn
  | 128 => some .fn
  | 129 => some .fn
  | 130 => some .fn
  | 131 => some .fn
  | 132 => some (.struct 3 [(0, 1, false, 0), (1, 1, false, 0), (2, 1, false, 0)] [.i .i64 0, .b false, .b false])
  | 133 => some .fn
  | 134 => some .fn
  | 135 => some .fn
  | 136 => some .fn
  | 138 => some .fn
  | 139 => some .fn
  | 140 => some (.struct 2 [(0, 1, false, 1), (1, 1, false, 0)] [.sl .mut 1 [], .i .i64 0])
  | 141 => some (.struct 2 [(0, 1, false, 1), (1, 1, false, 0)] [.sl .mut 1 [], .i .i64 0])
  | 142 => some .fn
  | 143 => some .fn
  | 144 => some .fn
  | 145 => some .fn
  | 146 => some .fn
  | 147 => some .fn
  | 148 => some .fn
  | 149 => some .fn
  | 150 => some .fn
  | 152 => some .fn
  | 153 => some .fn
  | 154 => some .fn
  | 155 => some (.struct 2 [(0, 1, false, 0), (1, 1, false, 0)] [.s ⟨#[]⟩, .s ⟨#[]⟩])
  | 156 => some (.struct 2 [(0, 1, false, 0), (1, 1, false, 0)] [.s ⟨#[]⟩, .s ⟨#[]⟩])
  | 158 => some .fn
  | 159 => some .fn
  | 160 => some .fn
  | 161 => some .fn
  | 162 => some (.slice 1 8 [.u])
  | 163 => some .fn
  | 164 => some .fn
  | 165 => some .fn
  | 166 => some (.struct 2 [(0, 1, false, 0), (1, 1, false, 0)] [.s ⟨#[]⟩, .s ⟨#[]⟩])
  | 167 => some .fn
  | 168 => some .fn
  | 175 => some .fn
  | 176 => some (.int .u32)
  | 180 => some .ptr
  | _ => none
@[go_sem] theorem T1 : T 1 = some .fn := nr rfl
@[go_sem] theorem T2 : T 2 = some (.int .i64) := nr rfl
@[go_sem] theorem T3 : T 3 = some (.int .i64) := nr rfl
@[go_sem] theorem T4 : T 4 = some .bool := nr rfl
@[go_sem] theorem T5 : T 5 = some (.int .u8) := nr rfl
@[go_sem] theorem T9 : T 9 = some .str := nr rfl
@[go_sem] theorem T21 : T 21 = some (.int .i32) := nr rfl
@[go_sem] theorem T22 : T 22 = some (.slice 1 1 [.i .u8 0]) := nr rfl
@[go_sem] theorem T23 : T 23 = some .fn := nr rfl
@[go_sem] theorem T24 : T 24 = some (.slice 2 16 [.i .i64 0, .b false]) := nr rfl
@[go_sem] theorem T25 : T 25 = some (.struct 4 [(0, 1, false, 0), (1, 1, false, 0), (2, 1, false, 0), (3, 1, false, 2)] [.i .i64 0, .i .i64 0, .i .i64 0, .sl .mut 2 []]) := nr rfl
@[go_sem] theorem T26 : T 26 = some (.struct 4 [(0, 1, false, 0), (1, 1, false, 0), (2, 1, false, 0), (3, 1, false, 2)] [.i .i64 0, .i .i64 0, .i .i64 0, .sl .mut 2 []]) := nr rfl
@[go_sem] theorem T27 : T 27 = some (.struct 5 [(0, 1, false, 0), (1, 1, false, 0), (2, 1, false, 0), (3, 1, false, 0), (4, 1, false, 0)] [.i .i64 0, .i .i64 0, .i .i64 0, .i .i64 0, .i .i64 0]) := nr rfl
@[go_sem] theorem T28 : T 28 = some (.struct 5 [(0, 1, false, 0), (1, 1, false, 0), (2, 1, false, 0), (3, 1, false, 0), (4, 1, false, 0)] [.i .i64 0, .i .i64 0, .i .i64 0, .i .i64 0, .i .i64 0]) := nr rfl
@[go_sem] theorem T30 : T 30 = some .fn := nr rfl
@[go_sem] theorem T31 : T 31 = some (.struct 5 [(0, 1, false, 0), (1, 4, true, 0)] [.i .i64 0, .i .i64 0, .i .i64 0, .i .i64 0, .sl .mut 2 []]) := nr rfl
@[go_sem] theorem T32 : T 32 = some (.struct 5 [(0, 1, false, 0), (1, 4, true, 0)] [.i .i64 0, .i .i64 0, .i .i64 0, .i .i64 0, .sl .mut 2 []]) := nr rfl
@[go_sem] theorem T33 : T 33 = some .fn := nr rfl
@[go_sem] theorem T34 : T 34 = some (.struct 2 [(0, 1, false, 0), (1, 1, false, 0)] [.i .i64 0, .i .i64 0]) := nr rfl
@[go_sem] theorem T35 : T 35 = some (.struct 2 [(0, 1, false, 0), (1, 1, false, 0)] [.i .i64 0, .i .i64 0]) := nr rfl
@[go_sem] theorem T36 : T 36 = some .fn := nr rfl
@[go_sem] theorem T37 : T 37 = some .fn := nr rfl
@[go_sem] theorem T38 : T 38 = some .fn := nr rfl
@[go_sem] theorem T39 : T 39 = some (.slice 3 16 [.i .i64 0, .b false, .b false]) := nr rfl
@[go_sem] theorem T41 : T 41 = some .fn := nr rfl
@[go_sem] theorem T42 : T 42 = some (.slice 1 8 [.i .i64 0]) := nr rfl
@[go_sem] theorem T43 : T 43 = some (.slice 1 1 [.b false]) := nr rfl
@[go_sem] theorem T44 : T 44 = some (.struct 3 [(0, 1, false, 0), (1, 1, false, 1), (2, 1, false, 1)] [.i .i64 0, .sl .mut 1 [], .sl .mut 1 []]) := nr rfl
@[go_sem] theorem T45 : T 45 = some (.struct 3 [(0, 1, false, 0), (1, 1, false, 1), (2, 1, false, 1)] [.i .i64 0, .sl .mut 1 [], .sl .mut 1 []]) := nr rfl
@[go_sem] theorem T46 : T 46 = some .fn := nr rfl
@[go_sem] theorem T47 : T 47 = some .fn := nr rfl
@[go_sem] theorem T48 : T 48 = some (.struct 3 [(0, 1, false, 0), (1, 1, false, 0), (2, 1, false, 0)] [.i .i64 0, .b false, .b false]) := nr rfl
@[go_sem] theorem T49 : T 49 = some (.struct 3 [(0, 1, false, 0), (1, 1, false, 0), (2, 1, false, 0)] [.i .i64 0, .b false, .b false]) := nr rfl
@[go_sem] theorem T50 : T 50 = some (.struct 6 [(0, 1, false, 0), (1, 4, true, 0), (5, 1, false, 0)] [.i .i64 0, .i .i64 0, .i .i64 0, .i .i64 0, .sl .mut 2 [], .b false]) := nr rfl
@[go_sem] theorem T51 : T 51 = some (.struct 6 [(0, 1, false, 0), (1, 4, true, 0), (5, 1, false, 0)] [.i .i64 0, .i .i64 0, .i .i64 0, .i .i64 0, .sl .mut 2 [], .b false]) := nr rfl
@[go_sem] theorem T52 : T 52 = some .fn := nr rfl
@[go_sem] theorem T53 : T 53 = some (.slice 10 160 [.i .i64 0, .i .i64 0, .s ⟨#[]⟩, .i .i64 0, .sl .mut 2 [], .sl .mut 1 [], .s ⟨#[]⟩, .s ⟨#[]⟩, .s ⟨#[]⟩, .sl .mut 2 []]) := nr rfl
@[go_sem] theorem T54 : T 54 = some .fn := nr rfl
@[go_sem] theorem T55 : T 55 = some (.slice 1 16 [.s ⟨#[]⟩]) := nr rfl
@[go_sem] theorem T56 : T 56 = some (.struct 2 [(0, 1, false, 0), (1, 1, false, 1)] [.i .i64 0, .sl .mut 1 []]) := nr rfl
@[go_sem] theorem T57 : T 57 = some (.struct 2 [(0, 1, false, 0), (1, 1, false, 1)] [.i .i64 0, .sl .mut 1 []]) := nr rfl
@[go_sem] theorem T58 : T 58 = some .fn := nr rfl
@[go_sem] theorem T59 : T 59 = some (.slice 10 160 [.i .i64 0, .i .i64 0, .s ⟨#[]⟩, .i .i64 0, .sl .mut 2 [], .sl .mut 1 [], .s ⟨#[]⟩, .s ⟨#[]⟩, .s ⟨#[]⟩, .sl .mut 2 []]) := nr rfl
@[go_sem] theorem T60 : T 60 = some .fn := nr rfl
@[go_sem] theorem T61 : T 61 = some .fn := nr rfl
@[go_sem] theorem T62 : T 62 = some .fn := nr rfl
@[go_sem] theorem T63 : T 63 = some .fn := nr rfl
@[go_sem] theorem T64 : T 64 = some .fn := nr rfl
@[go_sem] theorem T65 : T 65 = some .fn := nr rfl
@[go_sem] theorem T66 : T 66 = some (.struct 5 [(0, 1, false, 0), (1, 1, false, 0), (2, 1, false, 0), (3, 1, false, 0), (4, 1, false, 0)] [.i .i64 0, .i .i64 0, .i .i64 0, .i .i64 0, .i .i64 0]) := nr rfl
@[go_sem] theorem T67 : T 67 = some (.slice 3 16 [.i .i64 0, .b false, .b false]) := nr rfl
@[go_sem] theorem T68 : T 68 = some .fn := nr rfl
@[go_sem] theorem T69 : T 69 = some .fn := nr rfl
@[go_sem] theorem T70 : T 70 = some .fn := nr rfl
@[go_sem] theorem T71 : T 71 = some .fn := nr rfl
@[go_sem] theorem T72 : T 72 = some .fn := nr rfl
@[go_sem] theorem T73 : T 73 = some .fn := nr rfl
@[go_sem] theorem T74 : T 74 = some .fn := nr rfl
@[go_sem] theorem T75 : T 75 = some .fn := nr rfl
@[go_sem] theorem T77 : T 77 = some .fn := nr rfl
@[go_sem] theorem T78 : T 78 = some .fn := nr rfl
@[go_sem] theorem T79 : T 79 = some .ptr := nr rfl
@[go_sem] theorem T80 : T 80 = some .fn := nr rfl
@[go_sem] theorem T81 : T 81 = some .fn := nr rfl
@[go_sem] theorem T82 : T 82 = some .fn := nr rfl
@[go_sem] theorem T83 : T 83 = some .fn := nr rfl
@[go_sem] theorem T84 : T 84 = some .fn := nr rfl
@[go_sem] theorem T85 : T 85 = some .ptr := nr rfl
@[go_sem] theorem T86 : T 86 = some .ptr := nr rfl
@[go_sem] theorem T87 : T 87 = some .fn := nr rfl
@[go_sem] theorem T88 : T 88 = some .fn := nr rfl
@[go_sem] theorem T89 : T 89 = some .fn := nr rfl
@[go_sem] theorem T90 : T 90 = some .fn := nr rfl
@[go_sem] theorem T91 : T 91 = some .fn := nr rfl
@[go_sem] theorem T92 : T 92 = some .fn := nr rfl
@[go_sem] theorem T93 : T 93 = some .fn := nr rfl
@[go_sem] theorem T94 : T 94 = some (.struct 2 [(0, 1, false, 0), (1, 1, false, 0)] [.i .i64 0, .b false]) := nr rfl
@[go_sem] theorem T95 : T 95 = some (.struct 2 [(0, 1, false, 0), (1, 1, false, 0)] [.i .i64 0, .b false]) := nr rfl
@[go_sem] theorem T96 : T 96 = some .fn := nr rfl
@[go_sem] theorem T97 : T 97 = some .fn := nr rfl
@[go_sem] theorem T98 : T 98 = some .fn := nr rfl
@[go_sem] theorem T99 : T 99 = some .fn := nr rfl
@[go_sem] theorem T100 : T 100 = some .fn := nr rfl
@[go_sem] theorem T101 : T 101 = some .fn := nr rfl
@[go_sem] theorem T103 : T 103 = some .fn := nr rfl
@[go_sem] theorem T104 : T 104 = some .fn := nr rfl
@[go_sem] theorem T105 : T 105 = some .fn := nr rfl
@[go_sem] theorem T106 : T 106 = some .fn := nr rfl
@[go_sem] theorem T107 : T 107 = some (.slice 2 32 [.s ⟨#[]⟩, .s ⟨#[]⟩]) := nr rfl
@[go_sem] theorem T108 : T 108 = some (.struct 3 [(0, 1, false, 0), (1, 1, false, 2), (2, 1, false, 1)] [.i .i64 0, .sl .mut 2 [], .sl .mut 1 []]) := nr rfl
@[go_sem] theorem T109 : T 109 = some (.struct 3 [(0, 1, false, 0), (1, 1, false, 2), (2, 1, false, 1)] [.i .i64 0, .sl .mut 2 [], .sl .mut 1 []]) := nr rfl
@[go_sem] theorem T110 : T 110 = some (.struct 4 [(0, 1, false, 0), (1, 1, false, 0), (2, 1, false, 0), (3, 1, false, 2)] [.s ⟨#[]⟩, .s ⟨#[]⟩, .s ⟨#[]⟩, .sl .mut 2 []]) := nr rfl
@[go_sem] theorem T111 : T 111 = some (.struct 4 [(0, 1, false, 0), (1, 1, false, 0), (2, 1, false, 0), (3, 1, false, 2)] [.s ⟨#[]⟩, .s ⟨#[]⟩, .s ⟨#[]⟩, .sl .mut 2 []]) := nr rfl
@[go_sem] theorem T112 : T 112 = some (.struct 10 [(0, 1, false, 0), (1, 1, false, 0), (2, 1, false, 0), (3, 3, true, 0), (6, 4, true, 0)] [.i .i64 0, .i .i64 0, .s ⟨#[]⟩, .i .i64 0, .sl .mut 2 [], .sl .mut 1 [], .s ⟨#[]⟩, .s ⟨#[]⟩, .s ⟨#[]⟩, .sl .mut 2 []]) := nr rfl
@[go_sem] theorem T113 : T 113 = some (.struct 10 [(0, 1, false, 0), (1, 1, false, 0), (2, 1, false, 0), (3, 3, true, 0), (6, 4, true, 0)] [.i .i64 0, .i .i64 0, .s ⟨#[]⟩, .i .i64 0, .sl .mut 2 [], .sl .mut 1 [], .s ⟨#[]⟩, .s ⟨#[]⟩, .s ⟨#[]⟩, .sl .mut 2 []]) := nr rfl
@[go_sem] theorem T114 : T 114 = some .fn := nr rfl
@[go_sem] theorem T115 : T 115 = some (.slice 2 32 [.s ⟨#[]⟩, .s ⟨#[]⟩]) := nr rfl
@[go_sem] theorem T116 : T 116 = some (.struct 3 [(0, 1, false, 0), (1, 1, false, 2), (2, 1, false, 1)] [.i .i64 0, .sl .mut 2 [], .sl .mut 1 []]) := nr rfl
@[go_sem] theorem T117 : T 117 = some (.struct 3 [(0, 1, false, 0), (1, 1, false, 2), (2, 1, false, 1)] [.i .i64 0, .sl .mut 2 [], .sl .mut 1 []]) := nr rfl
@[go_sem] theorem T118 : T 118 = some (.struct 4 [(0, 1, false, 0), (1, 1, false, 0), (2, 1, false, 0), (3, 1, false, 2)] [.s ⟨#[]⟩, .s ⟨#[]⟩, .s ⟨#[]⟩, .sl .mut 2 []]) := nr rfl
@[go_sem] theorem T119 : T 119 = some (.struct 4 [(0, 1, false, 0), (1, 1, false, 0), (2, 1, false, 0), (3, 1, false, 2)] [.s ⟨#[]⟩, .s ⟨#[]⟩, .s ⟨#[]⟩, .sl .mut 2 []]) := nr rfl
@[go_sem] theorem T120 : T 120 = some (.struct 10 [(0, 1, false, 0), (1, 1, false, 0), (2, 1, false, 0), (3, 3, true, 0), (6, 4, true, 0)] [.i .i64 0, .i .i64 0, .s ⟨#[]⟩, .i .i64 0, .sl .mut 2 [], .sl .mut 1 [], .s ⟨#[]⟩, .s ⟨#[]⟩, .s ⟨#[]⟩, .sl .mut 2 []]) := nr rfl
@[go_sem] theorem T121 : T 121 = some (.struct 10 [(0, 1, false, 0), (1, 1, false, 0), (2, 1, false, 0), (3, 3, true, 0), (6, 4, true, 0)] [.i .i64 0, .i .i64 0, .s ⟨#[]⟩, .i .i64 0, .sl .mut 2 [], .sl .mut 1 [], .s ⟨#[]⟩, .s ⟨#[]⟩, .s ⟨#[]⟩, .sl .mut 2 []]) := nr rfl
@[go_sem] theorem T122 : T 122 = some .fn := nr rfl
@[go_sem] theorem T123 : T 123 = some .fn := nr rfl
@[go_sem] theorem T124 : T 124 = some .fn := nr rfl
@[go_sem] theorem T125 : T 125 = some .fn := nr rfl
@[go_sem] theorem T126 : T 126 = some .fn := nr rfl
@[go_sem] theorem T127 : T 127 = some .fn := nr rfl
@[go_sem] theorem T128 : T 128 = some .fn := nr rfl
@[go_sem] theorem T129 : T 129 = some .fn := nr rfl
@[go_sem] theorem T130 : T 130 = some .fn := nr rfl
@[go_sem] theorem T131 : T 131 = some .fn := nr rfl
@[go_sem] theorem T132 : T 132 = some (.struct 3 [(0, 1, false, 0), (1, 1, false, 0), (2, 1, false, 0)] [.i .i64 0, .b false, .b false]) := nr rfl
@[go_sem] theorem T133 : T 133 = some .fn := nr rfl
@[go_sem] theorem T134 : T 134 = some .fn := nr rfl
@[go_sem] theorem T135 : T 135 = some .fn := nr rfl
@[go_sem] theorem T136 : T 136 = some .fn := nr rfl
@[go_sem] theorem T138 : T 138 = some .fn := nr rfl
@[go_sem] theorem T139 : T 139 = some .fn := nr rfl
@[go_sem] theorem T140 : T 140 = some (.struct 2 [(0, 1, false, 1), (1, 1, false, 0)] [.sl .mut 1 [], .i .i64 0]) := nr rfl
@[go_sem] theorem T141 : T 141 = some (.struct 2 [(0, 1, false, 1), (1, 1, false, 0)] [.sl .mut 1 [], .i .i64 0]) := nr rfl
@[go_sem] theorem T142 : T 142 = some .fn := nr rfl
@[go_sem] theorem T143 : T 143 = some .fn := nr rfl
@[go_sem] theorem T144 : T 144 = some .fn := nr rfl
@[go_sem] theorem T145 : T 145 = some .fn := nr rfl
@[go_sem] theorem T146 : T 146 = some .fn := nr rfl
@[go_sem] theorem T147 : T 147 = some .fn := nr rfl
@[go_sem] theorem T148 : T 148 = some .fn := nr rfl
@[go_sem] theorem T149 : T 149 = some .fn := nr rfl
@[go_sem] theorem T150 : T 150 = some .fn := nr rfl
@[go_sem] theorem T152 : T 152 = some .fn := nr rfl
@[go_sem] theorem T153 : T 153 = some .fn := nr rfl
@[go_sem] theorem T154 : T 154 = some .fn := nr rfl
@[go_sem] theorem T155 : T 155 = some (.struct 2 [(0, 1, false, 0), (1, 1, false, 0)] [.s ⟨#[]⟩, .s ⟨#[]⟩]) := nr rfl
@[go_sem] theorem T156 : T 156 = some (.struct 2 [(0, 1, false, 0), (1, 1, false, 0)] [.s ⟨#[]⟩, .s ⟨#[]⟩]) := nr rfl
@[go_sem] theorem T158 : T 158 = some .fn := nr rfl
@[go_sem] theorem T159 : T 159 = some .fn := nr rfl
@[go_sem] theorem T160 : T 160 = some .fn := nr rfl
@[go_sem] theorem T161 : T 161 = some .fn := nr rfl
@[go_sem] theorem T162 : T 162 = some (.slice 1 8 [.u]) := nr rfl
@[go_sem] theorem T163 : T 163 = some .fn := nr rfl
@[go_sem] theorem T164 : T 164 = some .fn := nr rfl
@[go_sem] theorem T165 : T 165 = some .fn := nr rfl
@[go_sem] theorem T166 : T 166 = some (.struct 2 [(0, 1, false, 0), (1, 1, false, 0)] [.s ⟨#[]⟩, .s ⟨#[]⟩]) := nr rfl
@[go_sem] theorem T167 : T 167 = some .fn := nr rfl
@[go_sem] theorem T168 : T 168 = some .fn := nr rfl
@[go_sem] theorem T175 : T 175 = some .fn := nr rfl
@[go_sem] theorem T176 : T 176 = some (.int .u32) := nr rfl
@[go_sem] theorem T180 : T 180 = some .ptr := nr rfl
def Q : TypeId → Option (List Nat)
  | 27 => some [1, 1, 1, 1, 1]
  | 28 => some [1, 1, 1, 1, 1]
  | 34 => some [1, 1]
  | 35 => some [1, 1]
  | 48 => some [1, 0, 0]
  | 49 => some [1, 0, 0]
  | 66 => some [1, 1, 1, 1, 1]
  | 94 => some [1, 0]
  | 95 => some [1, 0]
  | 132 => some [1, 0, 0]
  | 155 => some [2, 2]
  | 156 => some [2, 2]
  | 166 => some [2, 2]
  | _ => none
@[go_sem] theorem Q27 : Q 27 = some [1, 1, 1, 1, 1] := nr rfl
@[go_sem] theorem Q28 : Q 28 = some [1, 1, 1, 1, 1] := nr rfl
@[go_sem] theorem Q34 : Q 34 = some [1, 1] := nr rfl
@[go_sem] theorem Q35 : Q 35 = some [1, 1] := nr rfl
@[go_sem] theorem Q48 : Q 48 = some [1, 0, 0] := nr rfl
@[go_sem] theorem Q49 : Q 49 = some [1, 0, 0] := nr rfl
@[go_sem] theorem Q66 : Q 66 = some [1, 1, 1, 1, 1] := nr rfl
@[go_sem] theorem Q94 : Q 94 = some [1, 0] := nr rfl
@[go_sem] theorem Q95 : Q 95 = some [1, 0] := nr rfl
@[go_sem] theorem Q132 : Q 132 = some [1, 0, 0] := nr rfl
@[go_sem] theorem Q155 : Q 155 = some [2, 2] := nr rfl
@[go_sem] theorem Q156 : Q 156 = some [2, 2] := nr rfl
@[go_sem] theorem Q166 : Q 166 = some [2, 2] := nr rfl
theorem tyOk (cx : Cx) (h : cx.T = T) (h2 : cx.eqs = Q) : CxOk Try.prog cx := by
  refine ⟨fun t ti ht => ?_, fun t ks hk => ?_⟩
  · rw [h] at ht
    unfold T at ht
    split at ht <;> first | cases ht; done | (injection ht with ht; subst ht; exact tiOk_s (by kernel_rfl))
  · rw [h2] at hk
    unfold Q at hk
    split at hk <;> first | cases hk; done | (injection hk with hk; subst hk; kernel_rfl)
def tyA : TyOf Try.prog := ⟨T, Q, tyOk, by kernel_rfl⟩
@[go_sem] theorem tyA_T : tyA.T = T := nr rfl
@[go_sem] theorem tyA_Q : tyA.Q = Q := nr rfl
end Go.Vm.A
