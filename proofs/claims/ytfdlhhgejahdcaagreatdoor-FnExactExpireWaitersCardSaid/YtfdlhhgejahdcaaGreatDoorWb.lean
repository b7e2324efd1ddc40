/- Functions of the program, walked by the evaluator. -/
import Derived.Test.YtfdlhhgejahdcaaGreatDoorWa
import Derived.Test.YtfdlhhgejahdcaaGreatDoorProg
import Derived.KernelRfl
import Derived.WalkKit
import Derived.Shelf.Strings.SlTrimAscii
/- What the evaluator must know of the program's types. -/
set_option autoImplicit false
set_option maxRecDepth 100000
set_option maxHeartbeats 4000000
set_option linter.unusedVariables false
set_option linter.unusedSimpArgs false

namespace Go.Vm.A
open Go.Proofs
def T : TypeId → Option TI
  | 1 => some .fn
  | 2 => some (.int .i64)
  | 3 => some (.int .i64)
  | 4 => some .bool
  | 5 => some (.int .u8)
  | 9 => some .str
  | 21 => some (.int .i32)
  | 22 => some (.slice 1 1 [.i .u8 0])
  | 23 => some .fn
  | 24 => some (.slice 11 144 [.i .i64 0, .s ⟨#[]⟩, .b false, .b false, .i .i64 0, .b false, .s ⟨#[]⟩, .s ⟨#[]⟩, .s ⟨#[]⟩, .sl .mut 2 [], .sl .mut 4 []])
  | 26 => some .fn
  | 27 => some (.struct 2 [(0, 1, false, 0), (1, 1, false, 0)] [.i .i64 0, .i .i64 0])
  | 28 => some (.struct 2 [(0, 1, false, 0), (1, 1, false, 0)] [.i .i64 0, .i .i64 0])
  | 29 => some .fn
  | 31 => some .fn
  | 32 => some .fn
  | 33 => some .fn
  | 34 => some (.slice 2 32 [.s ⟨#[]⟩, .s ⟨#[]⟩])
  | 35 => some (.struct 4 [(0, 1, false, 0), (1, 1, false, 0), (2, 1, false, 0), (3, 1, false, 2)] [.s ⟨#[]⟩, .s ⟨#[]⟩, .s ⟨#[]⟩, .sl .mut 2 []])
  | 36 => some (.struct 4 [(0, 1, false, 0), (1, 1, false, 0), (2, 1, false, 0), (3, 1, false, 2)] [.s ⟨#[]⟩, .s ⟨#[]⟩, .s ⟨#[]⟩, .sl .mut 2 []])
  | 37 => some (.slice 4 32 [.i .i64 0, .b false, .i .i64 0, .b false])
  | 38 => some (.struct 11 [(0, 1, false, 0), (1, 1, false, 0), (2, 1, false, 0), (3, 1, false, 0), (4, 1, false, 0), (5, 1, false, 0), (6, 4, true, 0), (10, 1, false, 4)] [.i .i64 0, .s ⟨#[]⟩, .b false, .b false, .i .i64 0, .b false, .s ⟨#[]⟩, .s ⟨#[]⟩, .s ⟨#[]⟩, .sl .mut 2 [], .sl .mut 4 []])
  | 39 => some (.struct 11 [(0, 1, false, 0), (1, 1, false, 0), (2, 1, false, 0), (3, 1, false, 0), (4, 1, false, 0), (5, 1, false, 0), (6, 4, true, 0), (10, 1, false, 4)] [.i .i64 0, .s ⟨#[]⟩, .b false, .b false, .i .i64 0, .b false, .s ⟨#[]⟩, .s ⟨#[]⟩, .s ⟨#[]⟩, .sl .mut 2 [], .sl .mut 4 []])
  | 40 => some .fn
  | 41 => some (.slice 2 32 [.s ⟨#[]⟩, .s ⟨#[]⟩])
  | 42 => some (.struct 4 [(0, 1, false, 0), (1, 1, false, 0), (2, 1, false, 0), (3, 1, false, 2)] [.s ⟨#[]⟩, .s ⟨#[]⟩, .s ⟨#[]⟩, .sl .mut 2 []])
  | 43 => some (.struct 4 [(0, 1, false, 0), (1, 1, false, 0), (2, 1, false, 0), (3, 1, false, 2)] [.s ⟨#[]⟩, .s ⟨#[]⟩, .s ⟨#[]⟩, .sl .mut 2 []])
  | 44 => some (.struct 7 [(0, 1, false, 0), (1, 1, false, 0), (2, 1, false, 0), (3, 1, false, 0), (4, 1, false, 0), (5, 1, false, 0), (6, 1, false, 0)] [.i .i64 0, .i .i64 0, .i .i64 0, .i .i64 0, .i .i64 0, .b false, .b false])
  | 45 => some (.struct 7 [(0, 1, false, 0), (1, 1, false, 0), (2, 1, false, 0), (3, 1, false, 0), (4, 1, false, 0), (5, 1, false, 0), (6, 1, false, 0)] [.i .i64 0, .i .i64 0, .i .i64 0, .i .i64 0, .i .i64 0, .b false, .b false])
  | 46 => some (.slice 1 16 [.s ⟨#[]⟩])
  | 47 => some (.struct 13 [(0, 1, false, 0), (1, 1, false, 0), (2, 1, false, 2), (3, 1, false, 1), (4, 7, true, 0), (11, 1, false, 1), (12, 1, false, 0)] [.s ⟨#[]⟩, .i .i64 0, .sl .mut 2 [], .sl .mut 1 [], .i .i64 0, .i .i64 0, .i .i64 0, .i .i64 0, .i .i64 0, .b false, .b false, .sl .mut 1 [], .i .i64 0])
  | 48 => some (.struct 13 [(0, 1, false, 0), (1, 1, false, 0), (2, 1, false, 2), (3, 1, false, 1), (4, 7, true, 0), (11, 1, false, 1), (12, 1, false, 0)] [.s ⟨#[]⟩, .i .i64 0, .sl .mut 2 [], .sl .mut 1 [], .i .i64 0, .i .i64 0, .i .i64 0, .i .i64 0, .i .i64 0, .b false, .b false, .sl .mut 1 [], .i .i64 0])
  | 49 => some .fn
  | 50 => some .fn
  | 51 => some (.struct 5 [(0, 1, false, 0), (1, 4, true, 0)] [.i .i64 0, .s ⟨#[]⟩, .s ⟨#[]⟩, .s ⟨#[]⟩, .sl .mut 2 []])
  | 52 => some (.struct 5 [(0, 1, false, 0), (1, 4, true, 0)] [.i .i64 0, .s ⟨#[]⟩, .s ⟨#[]⟩, .s ⟨#[]⟩, .sl .mut 2 []])
  | 53 => some .fn
  | 54 => some .fn
  | 55 => some (.struct 7 [(0, 1, false, 0), (1, 1, false, 0), (2, 1, false, 0), (3, 1, false, 0), (4, 1, false, 0), (5, 1, false, 0), (6, 1, false, 0)] [.i .i64 0, .i .i64 0, .i .i64 0, .i .i64 0, .i .i64 0, .b false, .b false])
  | 56 => some (.struct 13 [(0, 1, false, 0), (1, 1, false, 0), (2, 1, false, 2), (3, 1, false, 1), (4, 7, true, 0), (11, 1, false, 1), (12, 1, false, 0)] [.s ⟨#[]⟩, .i .i64 0, .sl .mut 2 [], .sl .mut 1 [], .i .i64 0, .i .i64 0, .i .i64 0, .i .i64 0, .i .i64 0, .b false, .b false, .sl .mut 1 [], .i .i64 0])
  | 57 => some (.struct 13 [(0, 1, false, 0), (1, 1, false, 0), (2, 1, false, 2), (3, 1, false, 1), (4, 7, true, 0), (11, 1, false, 1), (12, 1, false, 0)] [.s ⟨#[]⟩, .i .i64 0, .sl .mut 2 [], .sl .mut 1 [], .i .i64 0, .i .i64 0, .i .i64 0, .i .i64 0, .i .i64 0, .b false, .b false, .sl .mut 1 [], .i .i64 0])
  | 58 => some .fn
  | 59 => some .fn
  | 60 => some .fn
  | 61 => some .fn
  | 62 => some .fn
  | 63 => some .fn
  | 64 => some .fn
  | 65 => some .fn
  | 66 => some (.slice 4 32 [.i .i64 0, .b false, .i .i64 0, .b false])
  | 67 => some (.struct 11 [(0, 1, false, 0), (1, 1, false, 0), (2, 1, false, 0), (3, 1, false, 0), (4, 1, false, 0), (5, 1, false, 0), (6, 4, true, 0), (10, 1, false, 4)] [.i .i64 0, .s ⟨#[]⟩, .b false, .b false, .i .i64 0, .b false, .s ⟨#[]⟩, .s ⟨#[]⟩, .s ⟨#[]⟩, .sl .mut 2 [], .sl .mut 4 []])
  | 68 => some (.struct 11 [(0, 1, false, 0), (1, 1, false, 0), (2, 1, false, 0), (3, 1, false, 0), (4, 1, false, 0), (5, 1, false, 0), (6, 4, true, 0), (10, 1, false, 4)] [.i .i64 0, .s ⟨#[]⟩, .b false, .b false, .i .i64 0, .b false, .s ⟨#[]⟩, .s ⟨#[]⟩, .s ⟨#[]⟩, .sl .mut 2 [], .sl .mut 4 []])
  | 69 => some (.struct 4 [(0, 1, false, 0), (1, 1, false, 0), (2, 1, false, 0), (3, 1, false, 0)] [.i .i64 0, .b false, .i .i64 0, .b false])
  | 70 => some (.struct 4 [(0, 1, false, 0), (1, 1, false, 0), (2, 1, false, 0), (3, 1, false, 0)] [.i .i64 0, .b false, .i .i64 0, .b false])
  | 71 => some .fn
  | 72 => some (.struct 12 [(0, 1, false, 0), (1, 11, true, 0)] [.i .i64 0, .i .i64 0, .s ⟨#[]⟩, .b false, .b false, .i .i64 0, .b false, .s ⟨#[]⟩, .s ⟨#[]⟩, .s ⟨#[]⟩, .sl .mut 2 [], .sl .mut 4 []])
  | 73 => some (.struct 12 [(0, 1, false, 0), (1, 11, true, 0)] [.i .i64 0, .i .i64 0, .s ⟨#[]⟩, .b false, .b false, .i .i64 0, .b false, .s ⟨#[]⟩, .s ⟨#[]⟩, .s ⟨#[]⟩, .sl .mut 2 [], .sl .mut 4 []])
  | 74 => some .fn
  | 75 => some .fn
  | 76 => some (.struct 4 [(0, 1, false, 0), (1, 1, false, 0), (2, 1, false, 0), (3, 1, false, 0)] [.i .i64 0, .b false, .i .i64 0, .b false])
  | 77 => some .fn
  | 78 => some .fn
  | 79 => some .fn
  | 80 => some .fn
  | 81 => some .fn
  | 82 => some .fn
  | 83 => some (.struct 13 [(0, 1, false, 0), (1, 11, true, 0), (12, 1, false, 4)] [.i .i64 0, .i .i64 0, .s ⟨#[]⟩, .b false, .b false, .i .i64 0, .b false, .s ⟨#[]⟩, .s ⟨#[]⟩, .s ⟨#[]⟩, .sl .mut 2 [], .sl .mut 4 [], .sl .mut 4 []])
  | 84 => some (.struct 13 [(0, 1, false, 0), (1, 11, true, 0), (12, 1, false, 4)] [.i .i64 0, .i .i64 0, .s ⟨#[]⟩, .b false, .b false, .i .i64 0, .b false, .s ⟨#[]⟩, .s ⟨#[]⟩, .s ⟨#[]⟩, .sl .mut 2 [], .sl .mut 4 [], .sl .mut 4 []])
  | 85 => some .fn
  | 86 => some .fn
  | 87 => some .fn
  | 88 => some .fn
  | 89 => some .ptr
  | 90 => some .fn
  | 91 => some .fn
  | 92 => some .fn
  | 93 => some .fn
  | 94 => some .fn
  | 95 => some .fn
  | 96 => some .fn
  | 98 => some .fn
  | 99 => some .fn
  | 100 => some .fn
  | 101 => some .fn
  | 102 => some .fn
  | 103 => some .fn
  | 104 => some .fn
  | 105 => some .fn
  | 106 => some .fn
  | 107 => some .fn
  | 108 => some .ptr
  | 109 => some .ptr
  | 110 => some .fn
  | 111 => some .fn
  | 112 => some .fn
  | 113 => some .fn
  | 114 => some .fn
  | 115 => some .fn
  | 116 => some .fn
  | 117 => some .fn
  | 118 => some .fn
  | 119 => some .fn
  | 120 => some .fn
  | 121 => some .fn
  | 122 => some .fn
  | 123 => some .fn
  | 124 => some .fn
  | 125 => some .ptr
  | 126 => some .fn
  | 127 => some .fn
  | 128 => some .fn
  | 129 => some .fn
  | 130 => some .fn
  | 131 => some .fn
  | 132 => some .fn
  | 133 => some (.struct 2 [(0, 1, false, 1), (1, 1, false, 0)] [.sl .mut 1 [], .i .i64 0])
  | 134 => some (.struct 2 [(0, 1, false, 1), (1, 1, false, 0)] [.sl .mut 1 [], .i .i64 0])
  | 135 => some .fn
  | 136 => some .fn
  | 138 => some .fn
  | 139 => some .fn
  | 140 => some (.slice 1 8 [.i .i64 0])
  | 141 => some .fn
  | 142 => some .fn
  | 143 => some .fn
  | 144 => some .fn
  | 145 => some (.struct 2 [(0, 1, false, 0), (1, 1, false, 0)] [.s ⟨#[]⟩, .s ⟨#[]⟩])
  | 146 => some (.struct 2 [(0, 1, false, 0), (1, 1, false, 0)] [.s ⟨#[]⟩, .s ⟨#[]⟩])
  | 147 => some .fn
  | 149 => some .fn
  | 150 => some .fn
  | 151 => some .fn
  | 152 => some .fn
  | 153 => some .fn
  | 154 => some (.struct 2 [(0, 1, false, 0), (1, 1, false, 0)] [.s ⟨#[]⟩, .s ⟨#[]⟩])
  | 155 => some .fn
  | 156 => some .fn
  | 157 => some (.struct 2 [(0, 1, false, 0), (1, 1, false, 0)] [.i .i64 0, .s ⟨#[]⟩])
  | 158 => some (.struct 2 [(0, 1, false, 0), (1, 1, false, 0)] [.i .i64 0, .s ⟨#[]⟩])
  | 159 => some .fn
  | 160 => some .fn
  | 161 => some .fn
  | 162 => some .fn
  | 163 => some .fn
  | 164 => some .fn
  | 165 => some .fn
  | 166 => some .fn
  | 167 => some .fn
  | 168 => some .fn
  | 169 => some .fn
  | 170 => some .fn
  | 171 => some .fn
  | 173 => some .fn
  | 174 => some .fn
  | 175 => some .fn
  | 176 => some .fn
  | 177 => some .fn
  | 178 => some .fn
  | 179 => some .fn
  | 180 => some .fn
  | 181 => some .fn
  | 185 => some .fn
  | 186 => some .fn
  | 187 => some .ptr
  | 189 => some .fn
  | 190 => some .fn
  | 191 => some .fn
  | 193 => some (.int .u64)
  | 194 => some (.struct 2 [(0, 1, false, 0), (1, 1, false, 0)] [.i .u8 0, .i .u8 0])
  | 195 => some (.struct 2 [(0, 1, false, 0), (1, 1, false, 0)] [.i .u8 0, .i .u8 0])
  | 197 => some .fn
  | 198 => some .fn
  | 199 => some .fn
  | 206 => some .fn
  | 207 => some (.int .u32)
  | 211 => some .ptr
  | 216 => some .fn
  | _ => none
@[go_sem] theorem T1 : T 1 = some .fn := nr rfl
@[go_sem] theorem T2 : T 2 = some (.int .i64) := nr rfl
@[go_sem] theorem T3 : T 3 = some (.int .i64) := nr rfl
@[go_sem] theorem T4 : T 4 = some .bool := nr rfl
@[go_sem] theorem T5 : T 5 = some (.int .u8) := nr rfl
@[go_sem] theorem T9 : T 9 = some .str := nr rfl
@[go_sem] theorem T21 : T 21 = some (.int .i32) := nr rfl
@[go_sem] theorem T22 : T 22 = some (.slice 1 1 [.i .u8 0]) := nr rfl
@[go_sem] theorem T23 : T 23 = some .fn := nr rfl
@[go_sem] theorem T24 : T 24 = some (.slice 11 144 [.i .i64 0, .s ⟨#[]⟩, .b false, .b false, .i .i64 0, .b false, .s ⟨#[]⟩, .s ⟨#[]⟩, .s ⟨#[]⟩, .sl .mut 2 [], .sl .mut 4 []]) := nr rfl
@[go_sem] theorem T26 : T 26 = some .fn := nr rfl
@[go_sem] theorem T27 : T 27 = some (.struct 2 [(0, 1, false, 0), (1, 1, false, 0)] [.i .i64 0, .i .i64 0]) := nr rfl
@[go_sem] theorem T28 : T 28 = some (.struct 2 [(0, 1, false, 0), (1, 1, false, 0)] [.i .i64 0, .i .i64 0]) := nr rfl
@[go_sem] theorem T29 : T 29 = some .fn := nr rfl
@[go_sem] theorem T31 : T 31 = some .fn := nr rfl
@[go_sem] theorem T32 : T 32 = some .fn := nr rfl
@[go_sem] theorem T33 : T 33 = some .fn := nr rfl
@[go_sem] theorem T34 : T 34 = some (.slice 2 32 [.s ⟨#[]⟩, .s ⟨#[]⟩]) := nr rfl
@[go_sem] theorem T35 : T 35 = some (.struct 4 [(0, 1, false, 0), (1, 1, false, 0), (2, 1, false, 0), (3, 1, false, 2)] [.s ⟨#[]⟩, .s ⟨#[]⟩, .s ⟨#[]⟩, .sl .mut 2 []]) := nr rfl
@[go_sem] theorem T36 : T 36 = some (.struct 4 [(0, 1, false, 0), (1, 1, false, 0), (2, 1, false, 0), (3, 1, false, 2)] [.s ⟨#[]⟩, .s ⟨#[]⟩, .s ⟨#[]⟩, .sl .mut 2 []]) := nr rfl
@[go_sem] theorem T37 : T 37 = some (.slice 4 32 [.i .i64 0, .b false, .i .i64 0, .b false]) := nr rfl
@[go_sem] theorem T38 : T 38 = some (.struct 11 [(0, 1, false, 0), (1, 1, false, 0), (2, 1, false, 0), (3, 1, false, 0), (4, 1, false, 0), (5, 1, false, 0), (6, 4, true, 0), (10, 1, false, 4)] [.i .i64 0, .s ⟨#[]⟩, .b false, .b false, .i .i64 0, .b false, .s ⟨#[]⟩, .s ⟨#[]⟩, .s ⟨#[]⟩, .sl .mut 2 [], .sl .mut 4 []]) := nr rfl
@[go_sem] theorem T39 : T 39 = some (.struct 11 [(0, 1, false, 0), (1, 1, false, 0), (2, 1, false, 0), (3, 1, false, 0), (4, 1, false, 0), (5, 1, false, 0), (6, 4, true, 0), (10, 1, false, 4)] [.i .i64 0, .s ⟨#[]⟩, .b false, .b false, .i .i64 0, .b false, .s ⟨#[]⟩, .s ⟨#[]⟩, .s ⟨#[]⟩, .sl .mut 2 [], .sl .mut 4 []]) := nr rfl
@[go_sem] theorem T40 : T 40 = some .fn := nr rfl
@[go_sem] theorem T41 : T 41 = some (.slice 2 32 [.s ⟨#[]⟩, .s ⟨#[]⟩]) := nr rfl
@[go_sem] theorem T42 : T 42 = some (.struct 4 [(0, 1, false, 0), (1, 1, false, 0), (2, 1, false, 0), (3, 1, false, 2)] [.s ⟨#[]⟩, .s ⟨#[]⟩, .s ⟨#[]⟩, .sl .mut 2 []]) := nr rfl
@[go_sem] theorem T43 : T 43 = some (.struct 4 [(0, 1, false, 0), (1, 1, false, 0), (2, 1, false, 0), (3, 1, false, 2)] [.s ⟨#[]⟩, .s ⟨#[]⟩, .s ⟨#[]⟩, .sl .mut 2 []]) := nr rfl
@[go_sem] theorem T44 : T 44 = some (.struct 7 [(0, 1, false, 0), (1, 1, false, 0), (2, 1, false, 0), (3, 1, false, 0), (4, 1, false, 0), (5, 1, false, 0), (6, 1, false, 0)] [.i .i64 0, .i .i64 0, .i .i64 0, .i .i64 0, .i .i64 0, .b false, .b false]) := nr rfl
@[go_sem] theorem T45 : T 45 = some (.struct 7 [(0, 1, false, 0), (1, 1, false, 0), (2, 1, false, 0), (3, 1, false, 0), (4, 1, false, 0), (5, 1, false, 0), (6, 1, false, 0)] [.i .i64 0, .i .i64 0, .i .i64 0, .i .i64 0, .i .i64 0, .b false, .b false]) := nr rfl
@[go_sem] theorem T46 : T 46 = some (.slice 1 16 [.s ⟨#[]⟩]) := nr rfl
@[go_sem] theorem T47 : T 47 = some (.struct 13 [(0, 1, false, 0), (1, 1, false, 0), (2, 1, false, 2), (3, 1, false, 1), (4, 7, true, 0), (11, 1, false, 1), (12, 1, false, 0)] [.s ⟨#[]⟩, .i .i64 0, .sl .mut 2 [], .sl .mut 1 [], .i .i64 0, .i .i64 0, .i .i64 0, .i .i64 0, .i .i64 0, .b false, .b false, .sl .mut 1 [], .i .i64 0]) := nr rfl
@[go_sem] theorem T48 : T 48 = some (.struct 13 [(0, 1, false, 0), (1, 1, false, 0), (2, 1, false, 2), (3, 1, false, 1), (4, 7, true, 0), (11, 1, false, 1), (12, 1, false, 0)] [.s ⟨#[]⟩, .i .i64 0, .sl .mut 2 [], .sl .mut 1 [], .i .i64 0, .i .i64 0, .i .i64 0, .i .i64 0, .i .i64 0, .b false, .b false, .sl .mut 1 [], .i .i64 0]) := nr rfl
@[go_sem] theorem T49 : T 49 = some .fn := nr rfl
@[go_sem] theorem T50 : T 50 = some .fn := nr rfl
@[go_sem] theorem T51 : T 51 = some (.struct 5 [(0, 1, false, 0), (1, 4, true, 0)] [.i .i64 0, .s ⟨#[]⟩, .s ⟨#[]⟩, .s ⟨#[]⟩, .sl .mut 2 []]) := nr rfl
@[go_sem] theorem T52 : T 52 = some (.struct 5 [(0, 1, false, 0), (1, 4, true, 0)] [.i .i64 0, .s ⟨#[]⟩, .s ⟨#[]⟩, .s ⟨#[]⟩, .sl .mut 2 []]) := nr rfl
@[go_sem] theorem T53 : T 53 = some .fn := nr rfl
@[go_sem] theorem T54 : T 54 = some .fn := nr rfl
@[go_sem] theorem T55 : T 55 = some (.struct 7 [(0, 1, false, 0), (1, 1, false, 0), (2, 1, false, 0), (3, 1, false, 0), (4, 1, false, 0), (5, 1, false, 0), (6, 1, false, 0)] [.i .i64 0, .i .i64 0, .i .i64 0, .i .i64 0, .i .i64 0, .b false, .b false]) := nr rfl
@[go_sem] theorem T56 : T 56 = some (.struct 13 [(0, 1, false, 0), (1, 1, false, 0), (2, 1, false, 2), (3, 1, false, 1), (4, 7, true, 0), (11, 1, false, 1), (12, 1, false, 0)] [.s ⟨#[]⟩, .i .i64 0, .sl .mut 2 [], .sl .mut 1 [], .i .i64 0, .i .i64 0, .i .i64 0, .i .i64 0, .i .i64 0, .b false, .b false, .sl .mut 1 [], .i .i64 0]) := nr rfl
@[go_sem] theorem T57 : T 57 = some (.struct 13 [(0, 1, false, 0), (1, 1, false, 0), (2, 1, false, 2), (3, 1, false, 1), (4, 7, true, 0), (11, 1, false, 1), (12, 1, false, 0)] [.s ⟨#[]⟩, .i .i64 0, .sl .mut 2 [], .sl .mut 1 [], .i .i64 0, .i .i64 0, .i .i64 0, .i .i64 0, .i .i64 0, .b false, .b false, .sl .mut 1 [], .i .i64 0]) := nr rfl
@[go_sem] theorem T58 : T 58 = some .fn := nr rfl
@[go_sem] theorem T59 : T 59 = some .fn := nr rfl
@[go_sem] theorem T60 : T 60 = some .fn := nr rfl
@[go_sem] theorem T61 : T 61 = some .fn := nr rfl
@[go_sem] theorem T62 : T 62 = some .fn := nr rfl
@[go_sem] theorem T63 : T 63 = some .fn := nr rfl
@[go_sem] theorem T64 : T 64 = some .fn := nr rfl
@[go_sem] theorem T65 : T 65 = some .fn := nr rfl
@[go_sem] theorem T66 : T 66 = some (.slice 4 32 [.i .i64 0, .b false, .i .i64 0, .b false]) := nr rfl
@[go_sem] theorem T67 : T 67 = some (.struct 11 [(0, 1, false, 0), (1, 1, false, 0), (2, 1, false, 0), (3, 1, false, 0), (4, 1, false, 0), (5, 1, false, 0), (6, 4, true, 0), (10, 1, false, 4)] [.i .i64 0, .s ⟨#[]⟩, .b false, .b false, .i .i64 0, .b false, .s ⟨#[]⟩, .s ⟨#[]⟩, .s ⟨#[]⟩, .sl .mut 2 [], .sl .mut 4 []]) := nr rfl
@[go_sem] theorem T68 : T 68 = some (.struct 11 [(0, 1, false, 0), (1, 1, false, 0), (2, 1, false, 0), (3, 1, false, 0), (4, 1, false, 0), (5, 1, false, 0), (6, 4, true, 0), (10, 1, false, 4)] [.i .i64 0, .s ⟨#[]⟩, .b false, .b false, .i .i64 0, .b false, .s ⟨#[]⟩, .s ⟨#[]⟩, .s ⟨#[]⟩, .sl .mut 2 [], .sl .mut 4 []]) := nr rfl
@[go_sem] theorem T69 : T 69 = some (.struct 4 [(0, 1, false, 0), (1, 1, false, 0), (2, 1, false, 0), (3, 1, false, 0)] [.i .i64 0, .b false, .i .i64 0, .b false]) := nr rfl
@[go_sem] theorem T70 : T 70 = some (.struct 4 [(0, 1, false, 0), (1, 1, false, 0), (2, 1, false, 0), (3, 1, false, 0)] [.i .i64 0, .b false, .i .i64 0, .b false]) := nr rfl
@[go_sem] theorem T71 : T 71 = some .fn := nr rfl
@[go_sem] theorem T72 : T 72 = some (.struct 12 [(0, 1, false, 0), (1, 11, true, 0)] [.i .i64 0, .i .i64 0, .s ⟨#[]⟩, .b false, .b false, .i .i64 0, .b false, .s ⟨#[]⟩, .s ⟨#[]⟩, .s ⟨#[]⟩, .sl .mut 2 [], .sl .mut 4 []]) := nr rfl
@[go_sem] theorem T73 : T 73 = some (.struct 12 [(0, 1, false, 0), (1, 11, true, 0)] [.i .i64 0, .i .i64 0, .s ⟨#[]⟩, .b false, .b false, .i .i64 0, .b false, .s ⟨#[]⟩, .s ⟨#[]⟩, .s ⟨#[]⟩, .sl .mut 2 [], .sl .mut 4 []]) := nr rfl
@[go_sem] theorem T74 : T 74 = some .fn := nr rfl
@[go_sem] theorem T75 : T 75 = some .fn := nr rfl
@[go_sem] theorem T76 : T 76 = some (.struct 4 [(0, 1, false, 0), (1, 1, false, 0), (2, 1, false, 0), (3, 1, false, 0)] [.i .i64 0, .b false, .i .i64 0, .b false]) := nr rfl
@[go_sem] theorem T77 : T 77 = some .fn := nr rfl
@[go_sem] theorem T78 : T 78 = some .fn := nr rfl
@[go_sem] theorem T79 : T 79 = some .fn := nr rfl
@[go_sem] theorem T80 : T 80 = some .fn := nr rfl
@[go_sem] theorem T81 : T 81 = some .fn := nr rfl
@[go_sem] theorem T82 : T 82 = some .fn := nr rfl
@[go_sem] theorem T83 : T 83 = some (.struct 13 [(0, 1, false, 0), (1, 11, true, 0), (12, 1, false, 4)] [.i .i64 0, .i .i64 0, .s ⟨#[]⟩, .b false, .b false, .i .i64 0, .b false, .s ⟨#[]⟩, .s ⟨#[]⟩, .s ⟨#[]⟩, .sl .mut 2 [], .sl .mut 4 [], .sl .mut 4 []]) := nr rfl
@[go_sem] theorem T84 : T 84 = some (.struct 13 [(0, 1, false, 0), (1, 11, true, 0), (12, 1, false, 4)] [.i .i64 0, .i .i64 0, .s ⟨#[]⟩, .b false, .b false, .i .i64 0, .b false, .s ⟨#[]⟩, .s ⟨#[]⟩, .s ⟨#[]⟩, .sl .mut 2 [], .sl .mut 4 [], .sl .mut 4 []]) := nr rfl
@[go_sem] theorem T85 : T 85 = some .fn := nr rfl
@[go_sem] theorem T86 : T 86 = some .fn := nr rfl
@[go_sem] theorem T87 : T 87 = some .fn := nr rfl
@[go_sem] theorem T88 : T 88 = some .fn := nr rfl
@[go_sem] theorem T89 : T 89 = some .ptr := nr rfl
@[go_sem] theorem T90 : T 90 = some .fn := nr rfl
@[go_sem] theorem T91 : T 91 = some .fn := nr rfl
@[go_sem] theorem T92 : T 92 = some .fn := nr rfl
@[go_sem] theorem T93 : T 93 = some .fn := nr rfl
@[go_sem] theorem T94 : T 94 = some .fn := nr rfl
@[go_sem] theorem T95 : T 95 = some .fn := nr rfl
@[go_sem] theorem T96 : T 96 = some .fn := nr rfl
@[go_sem] theorem T98 : T 98 = some .fn := nr rfl
@[go_sem] theorem T99 : T 99 = some .fn := nr rfl
@[go_sem] theorem T100 : T 100 = some .fn := nr rfl
@[go_sem] theorem T101 : T 101 = some .fn := nr rfl
@[go_sem] theorem T102 : T 102 = some .fn := nr rfl
@[go_sem] theorem T103 : T 103 = some .fn := nr rfl
@[go_sem] theorem T104 : T 104 = some .fn := nr rfl
@[go_sem] theorem T105 : T 105 = some .fn := nr rfl
@[go_sem] theorem T106 : T 106 = some .fn := nr rfl
@[go_sem] theorem T107 : T 107 = some .fn := nr rfl
@[go_sem] theorem T108 : T 108 = some .ptr := nr rfl
@[go_sem] theorem T109 : T 109 = some .ptr := nr rfl
@[go_sem] theorem T110 : T 110 = some .fn := nr rfl
@[go_sem] theorem T111 : T 111 = some .fn := nr rfl
@[go_sem] theorem T112 : T 112 = some .fn := nr rfl
@[go_sem] theorem T113 : T 113 = some .fn := nr rfl
@[go_sem] theorem T114 : T 114 = some .fn := nr rfl
@[go_sem] theorem T115 : T 115 = some .fn := nr rfl
@[go_sem] theorem T116 : T 116 = some .fn := nr rfl
@[go_sem] theorem T117 : T 117 = some .fn := nr rfl
@[go_sem] theorem T118 : T 118 = some .fn := nr rfl
@[go_sem] theorem T119 : T 119 = some .fn := nr rfl
@[go_sem] theorem T120 : T 120 = some .fn := nr rfl
@[go_sem] theorem T121 : T 121 = some .fn := nr rfl
@[go_sem] theorem T122 : T 122 = some .fn := nr rfl
@[go_sem] theorem T123 : T 123 = some .fn := nr rfl
@[go_sem] theorem T124 : T 124 = some .fn := nr rfl
@[go_sem] theorem T125 : T 125 = some .ptr := nr rfl
@[go_sem] theorem T126 : T 126 = some .fn := nr rfl
@[go_sem] theorem T127 : T 127 = some .fn := nr rfl
@[go_sem] theorem T128 : T 128 = some .fn := nr rfl
@[go_sem] theorem T129 : T 129 = some .fn := nr rfl
@[go_sem] theorem T130 : T 130 = some .fn := nr rfl
@[go_sem] theorem T131 : T 131 = some .fn := nr rfl
@[go_sem] theorem T132 : T 132 = some .fn := nr rfl
@[go_sem] theorem T133 : T 133 = some (.struct 2 [(0, 1, false, 1), (1, 1, false, 0)] [.sl .mut 1 [], .i .i64 0]) := nr rfl
@[go_sem] theorem T134 : T 134 = some (.struct 2 [(0, 1, false, 1), (1, 1, false, 0)] [.sl .mut 1 [], .i .i64 0]) := nr rfl
@[go_sem] theorem T135 : T 135 = some .fn := nr rfl
@[go_sem] theorem T136 : T 136 = some .fn := nr rfl
@[go_sem] theorem T138 : T 138 = some .fn := nr rfl
@[go_sem] theorem T139 : T 139 = some .fn := nr rfl
@[go_sem] theorem T140 : T 140 = some (.slice 1 8 [.i .i64 0]) := nr rfl
@[go_sem] theorem T141 : T 141 = some .fn := nr rfl
@[go_sem] theorem T142 : T 142 = some .fn := nr rfl
@[go_sem] theorem T143 : T 143 = some .fn := nr rfl
@[go_sem] theorem T144 : T 144 = some .fn := nr rfl
@[go_sem] theorem T145 : T 145 = some (.struct 2 [(0, 1, false, 0), (1, 1, false, 0)] [.s ⟨#[]⟩, .s ⟨#[]⟩]) := nr rfl
@[go_sem] theorem T146 : T 146 = some (.struct 2 [(0, 1, false, 0), (1, 1, false, 0)] [.s ⟨#[]⟩, .s ⟨#[]⟩]) := nr rfl
@[go_sem] theorem T147 : T 147 = some .fn := nr rfl
@[go_sem] theorem T149 : T 149 = some .fn := nr rfl
@[go_sem] theorem T150 : T 150 = some .fn := nr rfl
@[go_sem] theorem T151 : T 151 = some .fn := nr rfl
@[go_sem] theorem T152 : T 152 = some .fn := nr rfl
@[go_sem] theorem T153 : T 153 = some .fn := nr rfl
@[go_sem] theorem T154 : T 154 = some (.struct 2 [(0, 1, false, 0), (1, 1, false, 0)] [.s ⟨#[]⟩, .s ⟨#[]⟩]) := nr rfl
@[go_sem] theorem T155 : T 155 = some .fn := nr rfl
@[go_sem] theorem T156 : T 156 = some .fn := nr rfl
@[go_sem] theorem T157 : T 157 = some (.struct 2 [(0, 1, false, 0), (1, 1, false, 0)] [.i .i64 0, .s ⟨#[]⟩]) := nr rfl
@[go_sem] theorem T158 : T 158 = some (.struct 2 [(0, 1, false, 0), (1, 1, false, 0)] [.i .i64 0, .s ⟨#[]⟩]) := nr rfl
@[go_sem] theorem T159 : T 159 = some .fn := nr rfl
@[go_sem] theorem T160 : T 160 = some .fn := nr rfl
@[go_sem] theorem T161 : T 161 = some .fn := nr rfl
@[go_sem] theorem T162 : T 162 = some .fn := nr rfl
@[go_sem] theorem T163 : T 163 = some .fn := nr rfl
@[go_sem] theorem T164 : T 164 = some .fn := nr rfl
@[go_sem] theorem T165 : T 165 = some .fn := nr rfl
@[go_sem] theorem T166 : T 166 = some .fn := nr rfl
@[go_sem] theorem T167 : T 167 = some .fn := nr rfl
@[go_sem] theorem T168 : T 168 = some .fn := nr rfl
@[go_sem] theorem T169 : T 169 = some .fn := nr rfl
@[go_sem] theorem T170 : T 170 = some .fn := nr rfl
@[go_sem] theorem T171 : T 171 = some .fn := nr rfl
@[go_sem] theorem T173 : T 173 = some .fn := nr rfl
@[go_sem] theorem T174 : T 174 = some .fn := nr rfl
@[go_sem] theorem T175 : T 175 = some .fn := nr rfl
@[go_sem] theorem T176 : T 176 = some .fn := nr rfl
@[go_sem] theorem T177 : T 177 = some .fn := nr rfl
@[go_sem] theorem T178 : T 178 = some .fn := nr rfl
@[go_sem] theorem T179 : T 179 = some .fn := nr rfl
@[go_sem] theorem T180 : T 180 = some .fn := nr rfl
@[go_sem] theorem T181 : T 181 = some .fn := nr rfl
@[go_sem] theorem T185 : T 185 = some .fn := nr rfl
@[go_sem] theorem T186 : T 186 = some .fn := nr rfl
@[go_sem] theorem T187 : T 187 = some .ptr := nr rfl
@[go_sem] theorem T189 : T 189 = some .fn := nr rfl
@[go_sem] theorem T190 : T 190 = some .fn := nr rfl
@[go_sem] theorem T191 : T 191 = some .fn := nr rfl
@[go_sem] theorem T193 : T 193 = some (.int .u64) := nr rfl
@[go_sem] theorem T194 : T 194 = some (.struct 2 [(0, 1, false, 0), (1, 1, false, 0)] [.i .u8 0, .i .u8 0]) := nr rfl
@[go_sem] theorem T195 : T 195 = some (.struct 2 [(0, 1, false, 0), (1, 1, false, 0)] [.i .u8 0, .i .u8 0]) := nr rfl
@[go_sem] theorem T197 : T 197 = some .fn := nr rfl
@[go_sem] theorem T198 : T 198 = some .fn := nr rfl
@[go_sem] theorem T199 : T 199 = some .fn := nr rfl
@[go_sem] theorem T206 : T 206 = some .fn := nr rfl
@[go_sem] theorem T207 : T 207 = some (.int .u32) := nr rfl
@[go_sem] theorem T211 : T 211 = some .ptr := nr rfl
@[go_sem] theorem T216 : T 216 = some .fn := nr rfl
def Q : TypeId → Option (List Nat)
  | 27 => some [1, 1]
  | 28 => some [1, 1]
  | 44 => some [1, 1, 1, 1, 1, 0, 0]
  | 45 => some [1, 1, 1, 1, 1, 0, 0]
  | 55 => some [1, 1, 1, 1, 1, 0, 0]
  | 69 => some [1, 0, 1, 0]
  | 70 => some [1, 0, 1, 0]
  | 76 => some [1, 0, 1, 0]
  | 145 => some [2, 2]
  | 146 => some [2, 2]
  | 154 => some [2, 2]
  | 157 => some [1, 2]
  | 158 => some [1, 2]
  | 194 => some [1, 1]
  | 195 => some [1, 1]
  | _ => none
@[go_sem] theorem Q27 : Q 27 = some [1, 1] := nr rfl
@[go_sem] theorem Q28 : Q 28 = some [1, 1] := nr rfl
@[go_sem] theorem Q44 : Q 44 = some [1, 1, 1, 1, 1, 0, 0] := nr rfl
@[go_sem] theorem Q45 : Q 45 = some [1, 1, 1, 1, 1, 0, 0] := nr rfl
@[go_sem] theorem Q55 : Q 55 = some [1, 1, 1, 1, 1, 0, 0] := nr rfl
@[go_sem] theorem Q69 : Q 69 = some [1, 0, 1, 0] := nr rfl
@[go_sem] theorem Q70 : Q 70 = some [1, 0, 1, 0] := nr rfl
@[go_sem] theorem Q76 : Q 76 = some [1, 0, 1, 0] := nr rfl
@[go_sem] theorem Q145 : Q 145 = some [2, 2] := nr rfl
@[go_sem] theorem Q146 : Q 146 = some [2, 2] := nr rfl
@[go_sem] theorem Q154 : Q 154 = some [2, 2] := nr rfl
@[go_sem] theorem Q157 : Q 157 = some [1, 2] := nr rfl
@[go_sem] theorem Q158 : Q 158 = some [1, 2] := nr rfl
@[go_sem] theorem Q194 : Q 194 = some [1, 1] := nr rfl
@[go_sem] theorem Q195 : Q 195 = some [1, 1] := nr rfl
theorem tyOk (cx : Cx) (h : cx.T = T) (h2 : cx.eqs = Q) : CxOk Tryz.prog cx := by
  refine ⟨fun t ti ht => ?_, fun t ks hk => ?_⟩
  · rw [h] at ht
    unfold T at ht
    split at ht <;> first | cases ht; done | (injection ht with ht; subst ht; exact tiOk_s (by kernel_rfl))
  · rw [h2] at hk
    unfold Q at hk
    split at hk <;> first | cases hk; done | (injection hk with hk; subst hk; kernel_rfl)
def tyA : TyOf Tryz.prog := ⟨T, Q, tyOk, by kernel_rfl⟩
@[go_sem] theorem tyA_T : tyA.T = T := nr rfl
@[go_sem] theorem tyA_Q : tyA.Q = Q := nr rfl
end Go.Vm.A
/- The library's functions of the program, laid by the shelf. -/
namespace Go.Proofs
open Go.Shelf
def Tryz.lays160_ren : Go.Shelf.Ren := ⟨fun | 160 => 169 | 232 => 179 | 231 => 178 | 227 => 180 | 234 => 182 | 233 => 181 | 236 => 184 | 235 => 183 | 228 => 186 | 271 => 189 | 151 => 188 | 197 => 187 | 120 => 192 | 152 => 191 | 260 => 190 | 137 => 166 | 119 => 193 | 224 => 194 | 225 => 195 | 217 => 176 | 266 => 185 | n => n, fun | 9 => 9 | 4 => 4 | 3 => 3 | 5 => 5 | 117 => 184 | 116 => 183 | 0 => 0 | 124 => 187 | 21 => 21 | 105 => 188 | 46 => 193 | 119 => 192 | 139 => 196 | 138 => 195 | n => n, fun | 3 => 1 | 4 => 2 | n => n⟩
theorem Tryz.lays160 : Go.Proofs.Lays.n160 Tryz.prog Tryz.lays160_ren := {
  mixed := by kernel_rfl
  f119 := Tryz.func193.trans (congrArg some (by kernel_rfl))
  f120 := Tryz.func192.trans (congrArg some (by kernel_rfl))
  f137 := Tryz.func166.trans (congrArg some (by kernel_rfl))
  f151 := Tryz.func188.trans (congrArg some (by kernel_rfl))
  f152 := Tryz.func191.trans (congrArg some (by kernel_rfl))
  f160 := Tryz.func169.trans (congrArg some (by kernel_rfl))
  f197 := Tryz.func187.trans (congrArg some (by kernel_rfl))
  f217 := Tryz.func176.trans (congrArg some (by kernel_rfl))
  f224 := Tryz.func194.trans (congrArg some (by kernel_rfl))
  f225 := Tryz.func195.trans (congrArg some (by kernel_rfl))
  f227 := Tryz.func180.trans (congrArg some (by kernel_rfl))
  f228 := Tryz.func186.trans (congrArg some (by kernel_rfl))
  f231 := Tryz.func178.trans (congrArg some (by kernel_rfl))
  f232 := Tryz.func179.trans (congrArg some (by kernel_rfl))
  f233 := Tryz.func181.trans (congrArg some (by kernel_rfl))
  f234 := Tryz.func182.trans (congrArg some (by kernel_rfl))
  f235 := Tryz.func183.trans (congrArg some (by kernel_rfl))
  f236 := Tryz.func184.trans (congrArg some (by kernel_rfl))
  f260 := Tryz.func190.trans (congrArg some (by kernel_rfl))
  f266 := Tryz.func185.trans (congrArg some (by kernel_rfl))
  f271 := Tryz.func189.trans (congrArg some (by kernel_rfl))
  t0 := Tryz.underlying0
  a0 := Tryz.isAgg0
  z0 := Tryz.sizeOf0
  v0 := Tryz.zeroValue0
  t3 := Tryz.underlying3
  a3 := Tryz.isAgg3
  z3 := Tryz.sizeOf3
  v3 := Tryz.zeroValue3
  t4 := Tryz.underlying4
  a4 := Tryz.isAgg4
  z4 := Tryz.sizeOf4
  v4 := Tryz.zeroValue4
  t5 := Tryz.underlying5
  a5 := Tryz.isAgg5
  z5 := Tryz.sizeOf5
  v5 := Tryz.zeroValue5
  t9 := Tryz.underlying9
  a9 := Tryz.isAgg9
  z9 := Tryz.sizeOf9
  v9 := Tryz.zeroValue9
  t21 := Tryz.underlying21
  a21 := Tryz.isAgg21
  z21 := Tryz.sizeOf21
  v21 := Tryz.zeroValue21
  t46 := Tryz.underlying193
  a46 := Tryz.isAgg193
  z46 := Tryz.sizeOf193
  v46 := Tryz.zeroValue193
  t105 := Tryz.underlying188
  a105 := Tryz.isAgg188
  z105 := Tryz.sizeOf188
  v105 := Tryz.zeroValue188
  t116 := Tryz.underlying183
  a116 := Tryz.isAgg183
  z116 := Tryz.sizeOf183
  t117 := Tryz.underlying184
  a117 := Tryz.isAgg184
  z117 := Tryz.sizeOf184
  v117 := Tryz.zeroValue184
  t119 := Tryz.underlying192
  a119 := Tryz.isAgg192
  z119 := Tryz.sizeOf192
  t124 := Tryz.underlying187
  a124 := Tryz.isAgg187
  z124 := Tryz.sizeOf187
  v124 := Tryz.zeroValue187
  t138 := Tryz.underlying195
  a138 := Tryz.isAgg195
  z138 := Tryz.sizeOf195
  v138 := Tryz.zeroValue195
  t139 := Tryz.underlying196
  a139 := Tryz.isAgg196
  z139 := Tryz.sizeOf196
  v139 := Tryz.zeroValue196
  g3 := by kernel_rfl
  g4 := by kernel_rfl }
theorem Tryz.trimSpTab (s : ByteArray) (w : World) (hs : s.size ≤ 9223372036854775807) :
    Calls Tryz.prog 169 #[.string s, .string ⟨#[32, 9]⟩] w fun e w' => e = .returned (.string ⟨(Lib.trimS s.data.toList [32, 9]).toArray⟩) ∧ Go.RowKit.Below w.heap.size w w' :=
  Any.strings_Trim_laid Tryz.lays160 (by kernel_rfl) s ⟨#[32, 9]⟩ w hs (by decide) (ascii_of_all (by decide))
end Go.Proofs
