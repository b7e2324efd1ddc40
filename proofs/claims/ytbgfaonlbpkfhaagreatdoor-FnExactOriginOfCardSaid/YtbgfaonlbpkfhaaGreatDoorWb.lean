/- Functions of the program, walked by the evaluator. -/
import Derived.Test.YtbgfaonlbpkfhaaGreatDoorWa
import Derived.Test.YtbgfaonlbpkfhaaGreatDoorProg
import Derived.KernelRfl
import Derived.WalkKit
import Derived.LoopTactic
import Derived.Shelf.Strings.BuilderK
import Derived.Shelf.Strings.SlTrimAscii
import Derived.Lib.AppendZerosOnto
import Derived.Shelf.Spec.SlicesGrow
set_option linter.unusedVariables false
set_option linter.unusedSimpArgs false
set_option autoImplicit false
set_option maxRecDepth 100000
set_option maxHeartbeats 4000000
set_option linter.defProp false
namespace Go.Vm.A
open Go.Proofs
def T:TypeId->Option TI
  | 1 => some .fn
  | 2 => some (.int .i64)
  | 3 => some (.int .i64)
  | 4 => some .bool
  | 5 => some (.int .u8)
  | 9 => some .str
  | 21 => some (.int .i32)
  | 22 => some (.slice 1 16 [.s ⟨#[]⟩])
  | 23 => some (.struct 3 [(0,1,false,0),(1,1,false,0),(2,1,false,0)] [.i .i64 0,.i .i64 0,.i .i64 0])
  | 24 => some (.struct 3 [(0,1,false,0),(1,1,false,0),(2,1,false,0)] [.i .i64 0,.i .i64 0,.i .i64 0])
  | 25 => some (.struct 5 [(0,1,false,0),(1,1,false,0),(2,1,false,0),(3,1,false,0),(4,1,false,0)] [.i .i64 0,.i .i64 0,.i .i64 0,.i .i64 0,.i .i64 0])
  | 26 => some (.struct 5 [(0,1,false,0),(1,1,false,0),(2,1,false,0),(3,1,false,0),(4,1,false,0)] [.i .i64 0,.i .i64 0,.i .i64 0,.i .i64 0,.i .i64 0])
  | 27 => some (.struct 17 [(0,1,false,0),(1,1,false,0),(2,1,false,0),(3,1,false,0),(4,1,false,0),(5,1,false,0),(6,1,false,0),(7,1,false,0),(8,1,false,1),(9,3,true,0),(12,5,true,0)] [.i .i64 0,.i .i64 0,.i .i64 0,.i .i64 0,.i .i64 0,.i .i64 0,.i .i64 0,.i .i64 0,.sl .mut 1 [],.i .i64 0,.i .i64 0,.i .i64 0,.i .i64 0,.i .i64 0,.i .i64 0,.i .i64 0,.i .i64 0])
  | 28 => some (.struct 17 [(0,1,false,0),(1,1,false,0),(2,1,false,0),(3,1,false,0),(4,1,false,0),(5,1,false,0),(6,1,false,0),(7,1,false,0),(8,1,false,1),(9,3,true,0),(12,5,true,0)] [.i .i64 0,.i .i64 0,.i .i64 0,.i .i64 0,.i .i64 0,.i .i64 0,.i .i64 0,.i .i64 0,.sl .mut 1 [],.i .i64 0,.i .i64 0,.i .i64 0,.i .i64 0,.i .i64 0,.i .i64 0,.i .i64 0,.i .i64 0])
  | 29 => some .fn
  | 30 => some (.struct 3 [(0,1,false,0),(1,1,false,0),(2,1,false,0)] [.i .i64 0,.i .i64 0,.i .i64 0])
  | 31 => some (.struct 5 [(0,1,false,0),(1,1,false,0),(2,1,false,0),(3,1,false,0),(4,1,false,0)] [.i .i64 0,.i .i64 0,.i .i64 0,.i .i64 0,.i .i64 0])
  | 32 => some (.struct 17 [(0,1,false,0),(1,1,false,0),(2,1,false,0),(3,1,false,0),(4,1,false,0),(5,1,false,0),(6,1,false,0),(7,1,false,0),(8,1,false,1),(9,3,true,0),(12,5,true,0)] [.i .i64 0,.i .i64 0,.i .i64 0,.i .i64 0,.i .i64 0,.i .i64 0,.i .i64 0,.i .i64 0,.sl .mut 1 [],.i .i64 0,.i .i64 0,.i .i64 0,.i .i64 0,.i .i64 0,.i .i64 0,.i .i64 0,.i .i64 0])
  | 33 => some (.struct 17 [(0,1,false,0),(1,1,false,0),(2,1,false,0),(3,1,false,0),(4,1,false,0),(5,1,false,0),(6,1,false,0),(7,1,false,0),(8,1,false,1),(9,3,true,0),(12,5,true,0)] [.i .i64 0,.i .i64 0,.i .i64 0,.i .i64 0,.i .i64 0,.i .i64 0,.i .i64 0,.i .i64 0,.sl .mut 1 [],.i .i64 0,.i .i64 0,.i .i64 0,.i .i64 0,.i .i64 0,.i .i64 0,.i .i64 0,.i .i64 0])
  | 34 => some (.slice 13 152 [.s ⟨#[]⟩,.i .i64 0,.sl .mut 2 [],.sl .mut 1 [],.i .i64 0,.i .i64 0,.i .i64 0,.i .i64 0,.i .i64 0,.b false,.b false,.sl .mut 1 [],.i .i64 0])
  | 35 => some (.struct 4 [(0,1,false,0),(1,1,false,0),(2,1,false,13),(3,1,false,13)] [.i .i64 0,.i .i64 0,.sl .mut 13 [],.sl .mut 13 []])
  | 36 => some (.struct 4 [(0,1,false,0),(1,1,false,0),(2,1,false,13),(3,1,false,13)] [.i .i64 0,.i .i64 0,.sl .mut 13 [],.sl .mut 13 []])
  | 37 => some (.slice 7 96 [.s ⟨#[]⟩,.i .i64 0,.sl .mut 2 [],.i .i64 0,.i .i64 0,.i .i64 0,.sl .mut 2 []])
  | 38 => some (.slice 11 144 [.i .i64 0,.s ⟨#[]⟩,.b false,.b false,.i .i64 0,.b false,.s ⟨#[]⟩,.s ⟨#[]⟩,.s ⟨#[]⟩,.sl .mut 2 [],.sl .mut 4 []])
  | 39 => some (.struct 25 [(0,17,true,0),(17,1,false,0),(18,1,false,0),(19,4,true,0),(23,1,false,7),(24,1,false,11)] [.i .i64 0,.i .i64 0,.i .i64 0,.i .i64 0,.i .i64 0,.i .i64 0,.i .i64 0,.i .i64 0,.sl .mut 1 [],.i .i64 0,.i .i64 0,.i .i64 0,.i .i64 0,.i .i64 0,.i .i64 0,.i .i64 0,.i .i64 0,.i .i64 0,.i .i64 0,.i .i64 0,.i .i64 0,.sl .mut 13 [],.sl .mut 13 [],.sl .mut 7 [],.sl .mut 11 []])
  | 40 => some (.struct 25 [(0,17,true,0),(17,1,false,0),(18,1,false,0),(19,4,true,0),(23,1,false,7),(24,1,false,11)] [.i .i64 0,.i .i64 0,.i .i64 0,.i .i64 0,.i .i64 0,.i .i64 0,.i .i64 0,.i .i64 0,.sl .mut 1 [],.i .i64 0,.i .i64 0,.i .i64 0,.i .i64 0,.i .i64 0,.i .i64 0,.i .i64 0,.i .i64 0,.i .i64 0,.i .i64 0,.i .i64 0,.i .i64 0,.sl .mut 13 [],.sl .mut 13 [],.sl .mut 7 [],.sl .mut 11 []])
  | 41 => some (.struct 26 [(0,1,false,0),(1,25,true,0)] [.i .i64 0,.i .i64 0,.i .i64 0,.i .i64 0,.i .i64 0,.i .i64 0,.i .i64 0,.i .i64 0,.i .i64 0,.sl .mut 1 [],.i .i64 0,.i .i64 0,.i .i64 0,.i .i64 0,.i .i64 0,.i .i64 0,.i .i64 0,.i .i64 0,.i .i64 0,.i .i64 0,.i .i64 0,.i .i64 0,.sl .mut 13 [],.sl .mut 13 [],.sl .mut 7 [],.sl .mut 11 []])
  | 42 => some (.struct 26 [(0,1,false,0),(1,25,true,0)] [.i .i64 0,.i .i64 0,.i .i64 0,.i .i64 0,.i .i64 0,.i .i64 0,.i .i64 0,.i .i64 0,.i .i64 0,.sl .mut 1 [],.i .i64 0,.i .i64 0,.i .i64 0,.i .i64 0,.i .i64 0,.i .i64 0,.i .i64 0,.i .i64 0,.i .i64 0,.i .i64 0,.i .i64 0,.i .i64 0,.sl .mut 13 [],.sl .mut 13 [],.sl .mut 7 [],.sl .mut 11 []])
  | 43 => some .fn
  | 44 => some .fn
  | 45 => some .fn
  | 46 => some .fn
  | 47 => some .fn
  | 48 => some .fn
  | 49 => some .fn
  | 50 => some (.slice 13 152 [.s ⟨#[]⟩,.i .i64 0,.sl .mut 2 [],.sl .mut 1 [],.i .i64 0,.i .i64 0,.i .i64 0,.i .i64 0,.i .i64 0,.b false,.b false,.sl .mut 1 [],.i .i64 0])
  | 51 => some (.struct 4 [(0,1,false,0),(1,1,false,0),(2,1,false,13),(3,1,false,13)] [.i .i64 0,.i .i64 0,.sl .mut 13 [],.sl .mut 13 []])
  | 52 => some (.struct 4 [(0,1,false,0),(1,1,false,0),(2,1,false,13),(3,1,false,13)] [.i .i64 0,.i .i64 0,.sl .mut 13 [],.sl .mut 13 []])
  | 53 => some (.slice 7 96 [.s ⟨#[]⟩,.i .i64 0,.sl .mut 2 [],.i .i64 0,.i .i64 0,.i .i64 0,.sl .mut 2 []])
  | 54 => some (.slice 11 144 [.i .i64 0,.s ⟨#[]⟩,.b false,.b false,.i .i64 0,.b false,.s ⟨#[]⟩,.s ⟨#[]⟩,.s ⟨#[]⟩,.sl .mut 2 [],.sl .mut 4 []])
  | 55 => some (.struct 25 [(0,17,true,0),(17,1,false,0),(18,1,false,0),(19,4,true,0),(23,1,false,7),(24,1,false,11)] [.i .i64 0,.i .i64 0,.i .i64 0,.i .i64 0,.i .i64 0,.i .i64 0,.i .i64 0,.i .i64 0,.sl .mut 1 [],.i .i64 0,.i .i64 0,.i .i64 0,.i .i64 0,.i .i64 0,.i .i64 0,.i .i64 0,.i .i64 0,.i .i64 0,.i .i64 0,.i .i64 0,.i .i64 0,.sl .mut 13 [],.sl .mut 13 [],.sl .mut 7 [],.sl .mut 11 []])
  | 56 => some (.struct 25 [(0,17,true,0),(17,1,false,0),(18,1,false,0),(19,4,true,0),(23,1,false,7),(24,1,false,11)] [.i .i64 0,.i .i64 0,.i .i64 0,.i .i64 0,.i .i64 0,.i .i64 0,.i .i64 0,.i .i64 0,.sl .mut 1 [],.i .i64 0,.i .i64 0,.i .i64 0,.i .i64 0,.i .i64 0,.i .i64 0,.i .i64 0,.i .i64 0,.i .i64 0,.i .i64 0,.i .i64 0,.i .i64 0,.sl .mut 13 [],.sl .mut 13 [],.sl .mut 7 [],.sl .mut 11 []])
  | 57 => some .fn
  | 58 => some .fn
  | 59 => some .fn
  | 60 => some .fn
  | 61 => some .fn
  | 62 => some (.struct 2 [(0,1,false,0),(1,1,false,0)] [.i .i64 0,.i .i64 0])
  | 63 => some (.struct 2 [(0,1,false,0),(1,1,false,0)] [.i .i64 0,.i .i64 0])
  | 64 => some .fn
  | 65 => some .fn
  | 66 => some .fn
  | 67 => some .fn
  | 68 => some (.slice 2 16 [.i .i64 0,.i .i64 0])
  | 69 => some (.struct 2 [(0,1,false,0),(1,1,false,2)] [.i .i64 0,.sl .mut 2 []])
  | 70 => some (.struct 2 [(0,1,false,0),(1,1,false,2)] [.i .i64 0,.sl .mut 2 []])
  | 71 => some (.slice 2 16 [.i .i64 0,.b false])
  | 72 => some (.struct 4 [(0,1,false,0),(1,1,false,0),(2,1,false,0),(3,1,false,2)] [.i .i64 0,.i .i64 0,.i .i64 0,.sl .mut 2 []])
  | 73 => some (.struct 4 [(0,1,false,0),(1,1,false,0),(2,1,false,0),(3,1,false,2)] [.i .i64 0,.i .i64 0,.i .i64 0,.sl .mut 2 []])
  | 74 => some (.struct 7 [(0,1,false,0),(1,2,true,0),(3,4,true,0)] [.s ⟨#[]⟩,.i .i64 0,.sl .mut 2 [],.i .i64 0,.i .i64 0,.i .i64 0,.sl .mut 2 []])
  | 75 => some (.struct 7 [(0,1,false,0),(1,2,true,0),(3,4,true,0)] [.s ⟨#[]⟩,.i .i64 0,.sl .mut 2 [],.i .i64 0,.i .i64 0,.i .i64 0,.sl .mut 2 []])
  | 76 => some (.struct 8 [(0,1,false,0),(1,7,true,0)] [.i .i64 0,.s ⟨#[]⟩,.i .i64 0,.sl .mut 2 [],.i .i64 0,.i .i64 0,.i .i64 0,.sl .mut 2 []])
  | 77 => some (.struct 8 [(0,1,false,0),(1,7,true,0)] [.i .i64 0,.s ⟨#[]⟩,.i .i64 0,.sl .mut 2 [],.i .i64 0,.i .i64 0,.i .i64 0,.sl .mut 2 []])
  | 78 => some .fn
  | 79 => some .fn
  | 80 => some .fn
  | 81 => some .fn
  | 82 => some .fn
  | 83 => some .fn
  | 84 => some .fn
  | 85 => some .ptr
  | 86 => some .fn
  | 87 => some .fn
  | 88 => some .fn
  | 89 => some .fn
  | 90 => some .fn
  | 91 => some .fn
  | 92 => some .fn
  | 93 => some .fn
  | 94 => some .fn
  | 95 => some .fn
  | 96 => some .fn
  | 97 => some .fn
  | 98 => some .fn
  | 99 => some .ptr
  | 100 => some .fn
  | 101 => some .fn
  | 102 => some .fn
  | 103 => some .fn
  | 104 => some .fn
  | 106 => some .fn
  | 107 => some .fn
  | 108 => some .fn
  | 109 => some .fn
  | 110 => some .fn
  | 111 => some .fn
  | 112 => some .fn
  | 113 => some .fn
  | 114 => some (.slice 2 32 [.s ⟨#[]⟩,.s ⟨#[]⟩])
  | 115 => some (.struct 4 [(0,1,false,0),(1,1,false,0),(2,1,false,0),(3,1,false,2)] [.s ⟨#[]⟩,.s ⟨#[]⟩,.s ⟨#[]⟩,.sl .mut 2 []])
  | 116 => some (.struct 4 [(0,1,false,0),(1,1,false,0),(2,1,false,0),(3,1,false,2)] [.s ⟨#[]⟩,.s ⟨#[]⟩,.s ⟨#[]⟩,.sl .mut 2 []])
  | 117 => some (.slice 4 32 [.i .i64 0,.b false,.i .i64 0,.b false])
  | 118 => some (.struct 11 [(0,1,false,0),(1,1,false,0),(2,1,false,0),(3,1,false,0),(4,1,false,0),(5,1,false,0),(6,4,true,0),(10,1,false,4)] [.i .i64 0,.s ⟨#[]⟩,.b false,.b false,.i .i64 0,.b false,.s ⟨#[]⟩,.s ⟨#[]⟩,.s ⟨#[]⟩,.sl .mut 2 [],.sl .mut 4 []])
  | 119 => some (.struct 11 [(0,1,false,0),(1,1,false,0),(2,1,false,0),(3,1,false,0),(4,1,false,0),(5,1,false,0),(6,4,true,0),(10,1,false,4)] [.i .i64 0,.s ⟨#[]⟩,.b false,.b false,.i .i64 0,.b false,.s ⟨#[]⟩,.s ⟨#[]⟩,.s ⟨#[]⟩,.sl .mut 2 [],.sl .mut 4 []])
  | 120 => some .fn
  | 121 => some .ptr
  | 123 => some .fn
  | 124 => some .fn
  | 125 => some .fn
  | 126 => some .ptr
  | 127 => some .fn
  | 128 => some .fn
  | 129 => some .fn
  | 130 => some .fn
  | 131 => some .fn
  | 132 => some .fn
  | 133 => some (.struct 5 [(0,1,false,0),(1,4,true,0)] [.i .i64 0,.i .i64 0,.i .i64 0,.sl .mut 13 [],.sl .mut 13 []])
  | 134 => some (.struct 5 [(0,1,false,0),(1,4,true,0)] [.i .i64 0,.i .i64 0,.i .i64 0,.sl .mut 13 [],.sl .mut 13 []])
  | 135 => some .fn
  | 136 => some .fn
  | 137 => some .fn
  | 138 => some .fn
  | 139 => some .fn
  | 140 => some .fn
  | 141 => some .fn
  | 142 => some .fn
  | 143 => some .fn
  | 144 => some .fn
  | 145 => some (.slice 2 16 [.i .i64 0,.i .i64 0])
  | 146 => some (.struct 2 [(0,1,false,0),(1,1,false,2)] [.i .i64 0,.sl .mut 2 []])
  | 147 => some (.struct 2 [(0,1,false,0),(1,1,false,2)] [.i .i64 0,.sl .mut 2 []])
  | 148 => some (.slice 2 16 [.i .i64 0,.b false])
  | 149 => some (.struct 4 [(0,1,false,0),(1,1,false,0),(2,1,false,0),(3,1,false,2)] [.i .i64 0,.i .i64 0,.i .i64 0,.sl .mut 2 []])
  | 150 => some (.struct 4 [(0,1,false,0),(1,1,false,0),(2,1,false,0),(3,1,false,2)] [.i .i64 0,.i .i64 0,.i .i64 0,.sl .mut 2 []])
  | 151 => some (.struct 7 [(0,1,false,0),(1,2,true,0),(3,4,true,0)] [.s ⟨#[]⟩,.i .i64 0,.sl .mut 2 [],.i .i64 0,.i .i64 0,.i .i64 0,.sl .mut 2 []])
  | 152 => some (.struct 7 [(0,1,false,0),(1,2,true,0),(3,4,true,0)] [.s ⟨#[]⟩,.i .i64 0,.sl .mut 2 [],.i .i64 0,.i .i64 0,.i .i64 0,.sl .mut 2 []])
  | 153 => some .fn
  | 154 => some (.slice 2 32 [.s ⟨#[]⟩,.s ⟨#[]⟩])
  | 155 => some (.struct 4 [(0,1,false,0),(1,1,false,0),(2,1,false,0),(3,1,false,2)] [.s ⟨#[]⟩,.s ⟨#[]⟩,.s ⟨#[]⟩,.sl .mut 2 []])
  | 156 => some (.struct 4 [(0,1,false,0),(1,1,false,0),(2,1,false,0),(3,1,false,2)] [.s ⟨#[]⟩,.s ⟨#[]⟩,.s ⟨#[]⟩,.sl .mut 2 []])
  | 157 => some (.slice 4 32 [.i .i64 0,.b false,.i .i64 0,.b false])
  | 158 => some (.struct 11 [(0,1,false,0),(1,1,false,0),(2,1,false,0),(3,1,false,0),(4,1,false,0),(5,1,false,0),(6,4,true,0),(10,1,false,4)] [.i .i64 0,.s ⟨#[]⟩,.b false,.b false,.i .i64 0,.b false,.s ⟨#[]⟩,.s ⟨#[]⟩,.s ⟨#[]⟩,.sl .mut 2 [],.sl .mut 4 []])
  | 159 => some (.struct 11 [(0,1,false,0),(1,1,false,0),(2,1,false,0),(3,1,false,0),(4,1,false,0),(5,1,false,0),(6,4,true,0),(10,1,false,4)] [.i .i64 0,.s ⟨#[]⟩,.b false,.b false,.i .i64 0,.b false,.s ⟨#[]⟩,.s ⟨#[]⟩,.s ⟨#[]⟩,.sl .mut 2 [],.sl .mut 4 []])
  | 160 => some .fn
  | 161 => some .ptr
  | 162 => some .fn
  | 163 => some (.slice 1 1 [.i .u8 0])
  | 164 => some (.struct 7 [(0,1,false,0),(1,1,false,0),(2,1,false,0),(3,1,false,0),(4,1,false,0),(5,1,false,0),(6,1,false,0)] [.i .i64 0,.i .i64 0,.i .i64 0,.i .i64 0,.i .i64 0,.b false,.b false])
  | 165 => some (.struct 7 [(0,1,false,0),(1,1,false,0),(2,1,false,0),(3,1,false,0),(4,1,false,0),(5,1,false,0),(6,1,false,0)] [.i .i64 0,.i .i64 0,.i .i64 0,.i .i64 0,.i .i64 0,.b false,.b false])
  | 166 => some (.struct 13 [(0,1,false,0),(1,1,false,0),(2,1,false,2),(3,1,false,1),(4,7,true,0),(11,1,false,1),(12,1,false,0)] [.s ⟨#[]⟩,.i .i64 0,.sl .mut 2 [],.sl .mut 1 [],.i .i64 0,.i .i64 0,.i .i64 0,.i .i64 0,.i .i64 0,.b false,.b false,.sl .mut 1 [],.i .i64 0])
  | 167 => some (.struct 13 [(0,1,false,0),(1,1,false,0),(2,1,false,2),(3,1,false,1),(4,7,true,0),(11,1,false,1),(12,1,false,0)] [.s ⟨#[]⟩,.i .i64 0,.sl .mut 2 [],.sl .mut 1 [],.i .i64 0,.i .i64 0,.i .i64 0,.i .i64 0,.i .i64 0,.b false,.b false,.sl .mut 1 [],.i .i64 0])
  | 168 => some .fn
  | 169 => some .fn
  | 170 => some .fn
  | 171 => some .fn
  | 172 => some .fn
  | 173 => some (.struct 2 [(0,1,false,0),(1,1,false,0)] [.i .i64 0,.b false])
  | 174 => some (.struct 2 [(0,1,false,0),(1,1,false,0)] [.i .i64 0,.b false])
  | 175 => some .fn
  | 176 => some .fn
  | 177 => some (.slice 1 8 [.i .i64 0])
  | 178 => some .fn
  | 179 => some .ptr
  | 180 => some .fn
  | 181 => some .fn
  | 182 => some .fn
  | 183 => some (.slice 1 8 [.u])
  | 184 => some .fn
  | 185 => some .fn
  | 186 => some .fn
  | 187 => some .fn
  | 188 => some .fn
  | 189 => some .fn
  | 190 => some .fn
  | 191 => some .fn
  | 192 => some .fn
  | 193 => some .fn
  | 194 => some .fn
  | 195 => some .fn
  | 196 => some .fn
  | 197 => some .fn
  | 198 => some .ptr
  | 199 => some .fn
  | 200 => some .fn
  | 201 => some .fn
  | 202 => some .fn
  | 203 => some .fn
  | 204 => some .fn
  | 205 => some .fn
  | 206 => some .fn
  | 207 => some .fn
  | 208 => some .fn
  | 209 => some .fn
  | 210 => some .fn
  | 211 => some .fn
  | 212 => some .fn
  | 213 => some .fn
  | 214 => some (.struct 4 [(0,1,false,0),(1,1,false,0),(2,1,false,0),(3,1,false,0)] [.i .i64 0,.b false,.i .i64 0,.b false])
  | 215 => some (.struct 4 [(0,1,false,0),(1,1,false,0),(2,1,false,0),(3,1,false,0)] [.i .i64 0,.b false,.i .i64 0,.b false])
  | 216 => some .fn
  | 217 => some (.struct 7 [(0,1,false,0),(1,1,false,0),(2,1,false,0),(3,1,false,0),(4,1,false,0),(5,1,false,0),(6,1,false,0)] [.i .i64 0,.i .i64 0,.i .i64 0,.i .i64 0,.i .i64 0,.b false,.b false])
  | 218 => some (.struct 13 [(0,1,false,0),(1,1,false,0),(2,1,false,2),(3,1,false,1),(4,7,true,0),(11,1,false,1),(12,1,false,0)] [.s ⟨#[]⟩,.i .i64 0,.sl .mut 2 [],.sl .mut 1 [],.i .i64 0,.i .i64 0,.i .i64 0,.i .i64 0,.i .i64 0,.b false,.b false,.sl .mut 1 [],.i .i64 0])
  | 219 => some (.struct 13 [(0,1,false,0),(1,1,false,0),(2,1,false,2),(3,1,false,1),(4,7,true,0),(11,1,false,1),(12,1,false,0)] [.s ⟨#[]⟩,.i .i64 0,.sl .mut 2 [],.sl .mut 1 [],.i .i64 0,.i .i64 0,.i .i64 0,.i .i64 0,.i .i64 0,.b false,.b false,.sl .mut 1 [],.i .i64 0])
  | 220 => some .fn
  | 221 => some .fn
  | 222 => some .fn
  | 223 => some .fn
  | 224 => some .fn
  | 225 => some .fn
  | 226 => some .fn
  | 227 => some .ptr
  | 228 => some .fn
  | 229 => some (.struct 2 [(0,1,false,0),(1,1,false,0)] [.i .i64 0,.i .i64 0])
  | 230 => some (.struct 2 [(0,1,false,0),(1,1,false,0)] [.i .i64 0,.i .i64 0])
  | 231 => some .fn
  | 232 => some .fn
  | 233 => some .fn
  | 234 => some .fn
  | 235 => some .fn
  | 236 => some .fn
  | 238 => some .fn
  | 239 => some .fn
  | 240 => some .fn
  | 241 => some .fn
  | 242 => some .fn
  | 243 => some .fn
  | 244 => some .fn
  | 245 => some .fn
  | 246 => some .fn
  | 247 => some .fn
  | 248 => some .fn
  | 249 => some .fn
  | 250 => some .fn
  | 251 => some .fn
  | 252 => some .fn
  | 253 => some .fn
  | 254 => some .fn
  | 255 => some .fn
  | 256 => some .fn
  | 257 => some .fn
  | 258 => some (.struct 2 [(0,1,false,0),(1,1,false,0)] [.s ⟨#[]⟩,.s ⟨#[]⟩])
  | 259 => some (.struct 2 [(0,1,false,0),(1,1,false,0)] [.s ⟨#[]⟩,.s ⟨#[]⟩])
  | 260 => some .fn
  | 261 => some .fn
  | 262 => some .fn
  | 263 => some .fn
  | 264 => some .fn
  | 265 => some .fn
  | 266 => some .fn
  | 267 => some .fn
  | 269 => some .fn
  | 270 => some .fn
  | 271 => some .fn
  | 272 => some .fn
  | 273 => some .fn
  | 274 => some .fn
  | 275 => some .fn
  | 276 => some (.struct 4 [(0,1,false,0),(1,1,false,0),(2,1,false,0),(3,1,false,0)] [.i .i64 0,.b false,.i .i64 0,.b false])
  | 277 => some (.slice 1 24 [.sl .mut 13 []])
  | 278 => some .fn
  | 279 => some (.array 5 1 false [.i .i64 0,.i .i64 0,.i .i64 0,.i .i64 0,.i .i64 0])
  | 280 => some .fn
  | 281 => some .fn
  | 282 => some .fn
  | 283 => some .fn
  | 284 => some .fn
  | 285 => some .fn
  | 286 => some .fn
  | 287 => some .fn
  | 288 => some .fn
  | 289 => some .fn
  | 290 => some (.struct 2 [(0,1,false,0),(1,1,false,0)] [.s ⟨#[]⟩,.s ⟨#[]⟩])
  | 291 => some .fn
  | 292 => some .fn
  | 293 => some .fn
  | 294 => some (.struct 2 [(0,1,false,0),(1,1,false,0)] [.i .i64 0,.i .i64 0])
  | 295 => some .fn
  | 296 => some (.struct 2 [(0,1,false,0),(1,1,false,0)] [.i .i64 0,.b false])
  | 297 => some .fn
  | 298 => some .ptr
  | 299 => some (.struct 2 [(0,1,false,0),(1,1,false,1)] [.pn,.sl .mut 1 []])
  | 300 => some (.struct 2 [(0,1,false,0),(1,1,false,1)] [.pn,.sl .mut 1 []])
  | 304 => some .fn
  | 305 => some .fn
  | 307 => some .fn
  | 308 => some .fn
  | 312 => some .fn
  | 313 => some .fn
  | 314 => some .ptr
  | 315 => some .ptr
  | 317 => some .fn
  | 318 => some .fn
  | 321 => some .fn
  | 323 => some (.int .u64)
  | 324 => some (.struct 2 [(0,1,false,0),(1,1,false,0)] [.i .u8 0,.i .u8 0])
  | 325 => some (.struct 2 [(0,1,false,0),(1,1,false,0)] [.i .u8 0,.i .u8 0])
  | 326 => some (.array 16 2 true [.i .u8 0,.i .u8 0,.i .u8 0,.i .u8 0,.i .u8 0,.i .u8 0,.i .u8 0,.i .u8 0,.i .u8 0,.i .u8 0,.i .u8 0,.i .u8 0,.i .u8 0,.i .u8 0,.i .u8 0,.i .u8 0,.i .u8 0,.i .u8 0,.i .u8 0,.i .u8 0,.i .u8 0,.i .u8 0,.i .u8 0,.i .u8 0,.i .u8 0,.i .u8 0,.i .u8 0,.i .u8 0,.i .u8 0,.i .u8 0,.i .u8 0,.i .u8 0])
  | 327 => some .fn
  | 328 => some .fn
  | 329 => some .fn
  | 335 => some .fn
  | 336 => some (.int .u32)
  | _ => none
@[go_sem] def T1:T 1=some .fn :=nr rfl
@[go_sem] def T2:T 2=some (.int .i64) :=nr rfl
@[go_sem] def T3:T 3=some (.int .i64) :=nr rfl
@[go_sem] def T4:T 4=some .bool :=nr rfl
@[go_sem] def T5:T 5=some (.int .u8) :=nr rfl
@[go_sem] def T9:T 9=some .str :=nr rfl
@[go_sem] def T21:T 21=some (.int .i32) :=nr rfl
@[go_sem] def T22:T 22=some (.slice 1 16 [.s ⟨#[]⟩]) :=nr rfl
@[go_sem] def T23:T 23=some (.struct 3 [(0,1,false,0),(1,1,false,0),(2,1,false,0)] [.i .i64 0,.i .i64 0,.i .i64 0]) :=nr rfl
@[go_sem] def T24:T 24=some (.struct 3 [(0,1,false,0),(1,1,false,0),(2,1,false,0)] [.i .i64 0,.i .i64 0,.i .i64 0]) :=nr rfl
@[go_sem] def T25:T 25=some (.struct 5 [(0,1,false,0),(1,1,false,0),(2,1,false,0),(3,1,false,0),(4,1,false,0)] [.i .i64 0,.i .i64 0,.i .i64 0,.i .i64 0,.i .i64 0]) :=nr rfl
@[go_sem] def T26:T 26=some (.struct 5 [(0,1,false,0),(1,1,false,0),(2,1,false,0),(3,1,false,0),(4,1,false,0)] [.i .i64 0,.i .i64 0,.i .i64 0,.i .i64 0,.i .i64 0]) :=nr rfl
@[go_sem] def T27:T 27=some (.struct 17 [(0,1,false,0),(1,1,false,0),(2,1,false,0),(3,1,false,0),(4,1,false,0),(5,1,false,0),(6,1,false,0),(7,1,false,0),(8,1,false,1),(9,3,true,0),(12,5,true,0)] [.i .i64 0,.i .i64 0,.i .i64 0,.i .i64 0,.i .i64 0,.i .i64 0,.i .i64 0,.i .i64 0,.sl .mut 1 [],.i .i64 0,.i .i64 0,.i .i64 0,.i .i64 0,.i .i64 0,.i .i64 0,.i .i64 0,.i .i64 0]) :=nr rfl
@[go_sem] def T28:T 28=some (.struct 17 [(0,1,false,0),(1,1,false,0),(2,1,false,0),(3,1,false,0),(4,1,false,0),(5,1,false,0),(6,1,false,0),(7,1,false,0),(8,1,false,1),(9,3,true,0),(12,5,true,0)] [.i .i64 0,.i .i64 0,.i .i64 0,.i .i64 0,.i .i64 0,.i .i64 0,.i .i64 0,.i .i64 0,.sl .mut 1 [],.i .i64 0,.i .i64 0,.i .i64 0,.i .i64 0,.i .i64 0,.i .i64 0,.i .i64 0,.i .i64 0]) :=nr rfl
@[go_sem] def T29:T 29=some .fn :=nr rfl
@[go_sem] def T30:T 30=some (.struct 3 [(0,1,false,0),(1,1,false,0),(2,1,false,0)] [.i .i64 0,.i .i64 0,.i .i64 0]) :=nr rfl
@[go_sem] def T31:T 31=some (.struct 5 [(0,1,false,0),(1,1,false,0),(2,1,false,0),(3,1,false,0),(4,1,false,0)] [.i .i64 0,.i .i64 0,.i .i64 0,.i .i64 0,.i .i64 0]) :=nr rfl
@[go_sem] def T32:T 32=some (.struct 17 [(0,1,false,0),(1,1,false,0),(2,1,false,0),(3,1,false,0),(4,1,false,0),(5,1,false,0),(6,1,false,0),(7,1,false,0),(8,1,false,1),(9,3,true,0),(12,5,true,0)] [.i .i64 0,.i .i64 0,.i .i64 0,.i .i64 0,.i .i64 0,.i .i64 0,.i .i64 0,.i .i64 0,.sl .mut 1 [],.i .i64 0,.i .i64 0,.i .i64 0,.i .i64 0,.i .i64 0,.i .i64 0,.i .i64 0,.i .i64 0]) :=nr rfl
@[go_sem] def T33:T 33=some (.struct 17 [(0,1,false,0),(1,1,false,0),(2,1,false,0),(3,1,false,0),(4,1,false,0),(5,1,false,0),(6,1,false,0),(7,1,false,0),(8,1,false,1),(9,3,true,0),(12,5,true,0)] [.i .i64 0,.i .i64 0,.i .i64 0,.i .i64 0,.i .i64 0,.i .i64 0,.i .i64 0,.i .i64 0,.sl .mut 1 [],.i .i64 0,.i .i64 0,.i .i64 0,.i .i64 0,.i .i64 0,.i .i64 0,.i .i64 0,.i .i64 0]) :=nr rfl
@[go_sem] def T34:T 34=some (.slice 13 152 [.s ⟨#[]⟩,.i .i64 0,.sl .mut 2 [],.sl .mut 1 [],.i .i64 0,.i .i64 0,.i .i64 0,.i .i64 0,.i .i64 0,.b false,.b false,.sl .mut 1 [],.i .i64 0]) :=nr rfl
@[go_sem] def T35:T 35=some (.struct 4 [(0,1,false,0),(1,1,false,0),(2,1,false,13),(3,1,false,13)] [.i .i64 0,.i .i64 0,.sl .mut 13 [],.sl .mut 13 []]) :=nr rfl
@[go_sem] def T36:T 36=some (.struct 4 [(0,1,false,0),(1,1,false,0),(2,1,false,13),(3,1,false,13)] [.i .i64 0,.i .i64 0,.sl .mut 13 [],.sl .mut 13 []]) :=nr rfl
@[go_sem] def T37:T 37=some (.slice 7 96 [.s ⟨#[]⟩,.i .i64 0,.sl .mut 2 [],.i .i64 0,.i .i64 0,.i .i64 0,.sl .mut 2 []]) :=nr rfl
@[go_sem] def T38:T 38=some (.slice 11 144 [.i .i64 0,.s ⟨#[]⟩,.b false,.b false,.i .i64 0,.b false,.s ⟨#[]⟩,.s ⟨#[]⟩,.s ⟨#[]⟩,.sl .mut 2 [],.sl .mut 4 []]) :=nr rfl
@[go_sem] def T39:T 39=some (.struct 25 [(0,17,true,0),(17,1,false,0),(18,1,false,0),(19,4,true,0),(23,1,false,7),(24,1,false,11)] [.i .i64 0,.i .i64 0,.i .i64 0,.i .i64 0,.i .i64 0,.i .i64 0,.i .i64 0,.i .i64 0,.sl .mut 1 [],.i .i64 0,.i .i64 0,.i .i64 0,.i .i64 0,.i .i64 0,.i .i64 0,.i .i64 0,.i .i64 0,.i .i64 0,.i .i64 0,.i .i64 0,.i .i64 0,.sl .mut 13 [],.sl .mut 13 [],.sl .mut 7 [],.sl .mut 11 []]) :=nr rfl
@[go_sem] def T40:T 40=some (.struct 25 [(0,17,true,0),(17,1,false,0),(18,1,false,0),(19,4,true,0),(23,1,false,7),(24,1,false,11)] [.i .i64 0,.i .i64 0,.i .i64 0,.i .i64 0,.i .i64 0,.i .i64 0,.i .i64 0,.i .i64 0,.sl .mut 1 [],.i .i64 0,.i .i64 0,.i .i64 0,.i .i64 0,.i .i64 0,.i .i64 0,.i .i64 0,.i .i64 0,.i .i64 0,.i .i64 0,.i .i64 0,.i .i64 0,.sl .mut 13 [],.sl .mut 13 [],.sl .mut 7 [],.sl .mut 11 []]) :=nr rfl
@[go_sem] def T41:T 41=some (.struct 26 [(0,1,false,0),(1,25,true,0)] [.i .i64 0,.i .i64 0,.i .i64 0,.i .i64 0,.i .i64 0,.i .i64 0,.i .i64 0,.i .i64 0,.i .i64 0,.sl .mut 1 [],.i .i64 0,.i .i64 0,.i .i64 0,.i .i64 0,.i .i64 0,.i .i64 0,.i .i64 0,.i .i64 0,.i .i64 0,.i .i64 0,.i .i64 0,.i .i64 0,.sl .mut 13 [],.sl .mut 13 [],.sl .mut 7 [],.sl .mut 11 []]) :=nr rfl
@[go_sem] def T42:T 42=some (.struct 26 [(0,1,false,0),(1,25,true,0)] [.i .i64 0,.i .i64 0,.i .i64 0,.i .i64 0,.i .i64 0,.i .i64 0,.i .i64 0,.i .i64 0,.i .i64 0,.sl .mut 1 [],.i .i64 0,.i .i64 0,.i .i64 0,.i .i64 0,.i .i64 0,.i .i64 0,.i .i64 0,.i .i64 0,.i .i64 0,.i .i64 0,.i .i64 0,.i .i64 0,.sl .mut 13 [],.sl .mut 13 [],.sl .mut 7 [],.sl .mut 11 []]) :=nr rfl
@[go_sem] def T43:T 43=some .fn :=nr rfl
@[go_sem] def T44:T 44=some .fn :=nr rfl
@[go_sem] def T45:T 45=some .fn :=nr rfl
@[go_sem] def T46:T 46=some .fn :=nr rfl
@[go_sem] def T47:T 47=some .fn :=nr rfl
@[go_sem] def T48:T 48=some .fn :=nr rfl
@[go_sem] def T49:T 49=some .fn :=nr rfl
@[go_sem] def T50:T 50=some (.slice 13 152 [.s ⟨#[]⟩,.i .i64 0,.sl .mut 2 [],.sl .mut 1 [],.i .i64 0,.i .i64 0,.i .i64 0,.i .i64 0,.i .i64 0,.b false,.b false,.sl .mut 1 [],.i .i64 0]) :=nr rfl
@[go_sem] def T51:T 51=some (.struct 4 [(0,1,false,0),(1,1,false,0),(2,1,false,13),(3,1,false,13)] [.i .i64 0,.i .i64 0,.sl .mut 13 [],.sl .mut 13 []]) :=nr rfl
@[go_sem] def T52:T 52=some (.struct 4 [(0,1,false,0),(1,1,false,0),(2,1,false,13),(3,1,false,13)] [.i .i64 0,.i .i64 0,.sl .mut 13 [],.sl .mut 13 []]) :=nr rfl
@[go_sem] def T53:T 53=some (.slice 7 96 [.s ⟨#[]⟩,.i .i64 0,.sl .mut 2 [],.i .i64 0,.i .i64 0,.i .i64 0,.sl .mut 2 []]) :=nr rfl
@[go_sem] def T54:T 54=some (.slice 11 144 [.i .i64 0,.s ⟨#[]⟩,.b false,.b false,.i .i64 0,.b false,.s ⟨#[]⟩,.s ⟨#[]⟩,.s ⟨#[]⟩,.sl .mut 2 [],.sl .mut 4 []]) :=nr rfl
@[go_sem] def T55:T 55=some (.struct 25 [(0,17,true,0),(17,1,false,0),(18,1,false,0),(19,4,true,0),(23,1,false,7),(24,1,false,11)] [.i .i64 0,.i .i64 0,.i .i64 0,.i .i64 0,.i .i64 0,.i .i64 0,.i .i64 0,.i .i64 0,.sl .mut 1 [],.i .i64 0,.i .i64 0,.i .i64 0,.i .i64 0,.i .i64 0,.i .i64 0,.i .i64 0,.i .i64 0,.i .i64 0,.i .i64 0,.i .i64 0,.i .i64 0,.sl .mut 13 [],.sl .mut 13 [],.sl .mut 7 [],.sl .mut 11 []]) :=nr rfl
@[go_sem] def T56:T 56=some (.struct 25 [(0,17,true,0),(17,1,false,0),(18,1,false,0),(19,4,true,0),(23,1,false,7),(24,1,false,11)] [.i .i64 0,.i .i64 0,.i .i64 0,.i .i64 0,.i .i64 0,.i .i64 0,.i .i64 0,.i .i64 0,.sl .mut 1 [],.i .i64 0,.i .i64 0,.i .i64 0,.i .i64 0,.i .i64 0,.i .i64 0,.i .i64 0,.i .i64 0,.i .i64 0,.i .i64 0,.i .i64 0,.i .i64 0,.sl .mut 13 [],.sl .mut 13 [],.sl .mut 7 [],.sl .mut 11 []]) :=nr rfl
@[go_sem] def T57:T 57=some .fn :=nr rfl
@[go_sem] def T58:T 58=some .fn :=nr rfl
@[go_sem] def T59:T 59=some .fn :=nr rfl
@[go_sem] def T60:T 60=some .fn :=nr rfl
@[go_sem] def T61:T 61=some .fn :=nr rfl
@[go_sem] def T62:T 62=some (.struct 2 [(0,1,false,0),(1,1,false,0)] [.i .i64 0,.i .i64 0]) :=nr rfl
@[go_sem] def T63:T 63=some (.struct 2 [(0,1,false,0),(1,1,false,0)] [.i .i64 0,.i .i64 0]) :=nr rfl
@[go_sem] def T64:T 64=some .fn :=nr rfl
@[go_sem] def T65:T 65=some .fn :=nr rfl
@[go_sem] def T66:T 66=some .fn :=nr rfl
@[go_sem] def T67:T 67=some .fn :=nr rfl
@[go_sem] def T68:T 68=some (.slice 2 16 [.i .i64 0,.i .i64 0]) :=nr rfl
@[go_sem] def T69:T 69=some (.struct 2 [(0,1,false,0),(1,1,false,2)] [.i .i64 0,.sl .mut 2 []]) :=nr rfl
@[go_sem] def T70:T 70=some (.struct 2 [(0,1,false,0),(1,1,false,2)] [.i .i64 0,.sl .mut 2 []]) :=nr rfl
@[go_sem] def T71:T 71=some (.slice 2 16 [.i .i64 0,.b false]) :=nr rfl
@[go_sem] def T72:T 72=some (.struct 4 [(0,1,false,0),(1,1,false,0),(2,1,false,0),(3,1,false,2)] [.i .i64 0,.i .i64 0,.i .i64 0,.sl .mut 2 []]) :=nr rfl
@[go_sem] def T73:T 73=some (.struct 4 [(0,1,false,0),(1,1,false,0),(2,1,false,0),(3,1,false,2)] [.i .i64 0,.i .i64 0,.i .i64 0,.sl .mut 2 []]) :=nr rfl
@[go_sem] def T74:T 74=some (.struct 7 [(0,1,false,0),(1,2,true,0),(3,4,true,0)] [.s ⟨#[]⟩,.i .i64 0,.sl .mut 2 [],.i .i64 0,.i .i64 0,.i .i64 0,.sl .mut 2 []]) :=nr rfl
@[go_sem] def T75:T 75=some (.struct 7 [(0,1,false,0),(1,2,true,0),(3,4,true,0)] [.s ⟨#[]⟩,.i .i64 0,.sl .mut 2 [],.i .i64 0,.i .i64 0,.i .i64 0,.sl .mut 2 []]) :=nr rfl
@[go_sem] def T76:T 76=some (.struct 8 [(0,1,false,0),(1,7,true,0)] [.i .i64 0,.s ⟨#[]⟩,.i .i64 0,.sl .mut 2 [],.i .i64 0,.i .i64 0,.i .i64 0,.sl .mut 2 []]) :=nr rfl
@[go_sem] def T77:T 77=some (.struct 8 [(0,1,false,0),(1,7,true,0)] [.i .i64 0,.s ⟨#[]⟩,.i .i64 0,.sl .mut 2 [],.i .i64 0,.i .i64 0,.i .i64 0,.sl .mut 2 []]) :=nr rfl
@[go_sem] def T78:T 78=some .fn :=nr rfl
@[go_sem] def T79:T 79=some .fn :=nr rfl
@[go_sem] def T80:T 80=some .fn :=nr rfl
@[go_sem] def T81:T 81=some .fn :=nr rfl
@[go_sem] def T82:T 82=some .fn :=nr rfl
@[go_sem] def T83:T 83=some .fn :=nr rfl
@[go_sem] def T84:T 84=some .fn :=nr rfl
@[go_sem] def T85:T 85=some .ptr :=nr rfl
@[go_sem] def T86:T 86=some .fn :=nr rfl
@[go_sem] def T87:T 87=some .fn :=nr rfl
@[go_sem] def T88:T 88=some .fn :=nr rfl
@[go_sem] def T89:T 89=some .fn :=nr rfl
@[go_sem] def T90:T 90=some .fn :=nr rfl
@[go_sem] def T91:T 91=some .fn :=nr rfl
@[go_sem] def T92:T 92=some .fn :=nr rfl
@[go_sem] def T93:T 93=some .fn :=nr rfl
@[go_sem] def T94:T 94=some .fn :=nr rfl
@[go_sem] def T95:T 95=some .fn :=nr rfl
@[go_sem] def T96:T 96=some .fn :=nr rfl
@[go_sem] def T97:T 97=some .fn :=nr rfl
@[go_sem] def T98:T 98=some .fn :=nr rfl
@[go_sem] def T99:T 99=some .ptr :=nr rfl
@[go_sem] def XNA:T 100=some .fn :=nr rfl
@[go_sem] def XNB:T 101=some .fn :=nr rfl
@[go_sem] def XNC:T 102=some .fn :=nr rfl
@[go_sem] def XND:T 103=some .fn :=nr rfl
@[go_sem] def XNE:T 104=some .fn :=nr rfl
@[go_sem] def XNF:T 106=some .fn :=nr rfl
@[go_sem] def XNG:T 107=some .fn :=nr rfl
@[go_sem] def XNH:T 108=some .fn :=nr rfl
@[go_sem] def XNI:T 109=some .fn :=nr rfl
@[go_sem] def XNJ:T 110=some .fn :=nr rfl
@[go_sem] def XNK:T 111=some .fn :=nr rfl
@[go_sem] def XNL:T 112=some .fn :=nr rfl
@[go_sem] def XNM:T 113=some .fn :=nr rfl
@[go_sem] def XNN:T 114=some (.slice 2 32 [.s ⟨#[]⟩,.s ⟨#[]⟩]) :=nr rfl
@[go_sem] def XNO:T 115=some (.struct 4 [(0,1,false,0),(1,1,false,0),(2,1,false,0),(3,1,false,2)] [.s ⟨#[]⟩,.s ⟨#[]⟩,.s ⟨#[]⟩,.sl .mut 2 []]) :=nr rfl
@[go_sem] def XNP:T 116=some (.struct 4 [(0,1,false,0),(1,1,false,0),(2,1,false,0),(3,1,false,2)] [.s ⟨#[]⟩,.s ⟨#[]⟩,.s ⟨#[]⟩,.sl .mut 2 []]) :=nr rfl
@[go_sem] def XNQ:T 117=some (.slice 4 32 [.i .i64 0,.b false,.i .i64 0,.b false]) :=nr rfl
@[go_sem] def XNR:T 118=some (.struct 11 [(0,1,false,0),(1,1,false,0),(2,1,false,0),(3,1,false,0),(4,1,false,0),(5,1,false,0),(6,4,true,0),(10,1,false,4)] [.i .i64 0,.s ⟨#[]⟩,.b false,.b false,.i .i64 0,.b false,.s ⟨#[]⟩,.s ⟨#[]⟩,.s ⟨#[]⟩,.sl .mut 2 [],.sl .mut 4 []]) :=nr rfl
@[go_sem] def XNS:T 119=some (.struct 11 [(0,1,false,0),(1,1,false,0),(2,1,false,0),(3,1,false,0),(4,1,false,0),(5,1,false,0),(6,4,true,0),(10,1,false,4)] [.i .i64 0,.s ⟨#[]⟩,.b false,.b false,.i .i64 0,.b false,.s ⟨#[]⟩,.s ⟨#[]⟩,.s ⟨#[]⟩,.sl .mut 2 [],.sl .mut 4 []]) :=nr rfl
@[go_sem] def XNT:T 120=some .fn :=nr rfl
@[go_sem] def XNU:T 121=some .ptr :=nr rfl
@[go_sem] def XNV:T 123=some .fn :=nr rfl
@[go_sem] def XNW:T 124=some .fn :=nr rfl
@[go_sem] def XNX:T 125=some .fn :=nr rfl
@[go_sem] def XNY:T 126=some .ptr :=nr rfl
@[go_sem] def XNZ:T 127=some .fn :=nr rfl
@[go_sem] def XN0:T 128=some .fn :=nr rfl
@[go_sem] def XN1:T 129=some .fn :=nr rfl
@[go_sem] def XN2:T 130=some .fn :=nr rfl
@[go_sem] def XN3:T 131=some .fn :=nr rfl
@[go_sem] def XN4:T 132=some .fn :=nr rfl
@[go_sem] def XN5:T 133=some (.struct 5 [(0,1,false,0),(1,4,true,0)] [.i .i64 0,.i .i64 0,.i .i64 0,.sl .mut 13 [],.sl .mut 13 []]) :=nr rfl
@[go_sem] def XN6:T 134=some (.struct 5 [(0,1,false,0),(1,4,true,0)] [.i .i64 0,.i .i64 0,.i .i64 0,.sl .mut 13 [],.sl .mut 13 []]) :=nr rfl
@[go_sem] def XN7:T 135=some .fn :=nr rfl
@[go_sem] def XN8:T 136=some .fn :=nr rfl
@[go_sem] def XN9:T 137=some .fn :=nr rfl
@[go_sem] def XOa:T 138=some .fn :=nr rfl
@[go_sem] def XOb:T 139=some .fn :=nr rfl
@[go_sem] def XOc:T 140=some .fn :=nr rfl
@[go_sem] def XOd:T 141=some .fn :=nr rfl
@[go_sem] def XOe:T 142=some .fn :=nr rfl
@[go_sem] def XOf:T 143=some .fn :=nr rfl
@[go_sem] def XOg:T 144=some .fn :=nr rfl
@[go_sem] def XOh:T 145=some (.slice 2 16 [.i .i64 0,.i .i64 0]) :=nr rfl
@[go_sem] def XOi:T 146=some (.struct 2 [(0,1,false,0),(1,1,false,2)] [.i .i64 0,.sl .mut 2 []]) :=nr rfl
@[go_sem] def XOj:T 147=some (.struct 2 [(0,1,false,0),(1,1,false,2)] [.i .i64 0,.sl .mut 2 []]) :=nr rfl
@[go_sem] def XOk:T 148=some (.slice 2 16 [.i .i64 0,.b false]) :=nr rfl
@[go_sem] def XOl:T 149=some (.struct 4 [(0,1,false,0),(1,1,false,0),(2,1,false,0),(3,1,false,2)] [.i .i64 0,.i .i64 0,.i .i64 0,.sl .mut 2 []]) :=nr rfl
@[go_sem] def XOm:T 150=some (.struct 4 [(0,1,false,0),(1,1,false,0),(2,1,false,0),(3,1,false,2)] [.i .i64 0,.i .i64 0,.i .i64 0,.sl .mut 2 []]) :=nr rfl
@[go_sem] def XOn:T 151=some (.struct 7 [(0,1,false,0),(1,2,true,0),(3,4,true,0)] [.s ⟨#[]⟩,.i .i64 0,.sl .mut 2 [],.i .i64 0,.i .i64 0,.i .i64 0,.sl .mut 2 []]) :=nr rfl
@[go_sem] def XOo:T 152=some (.struct 7 [(0,1,false,0),(1,2,true,0),(3,4,true,0)] [.s ⟨#[]⟩,.i .i64 0,.sl .mut 2 [],.i .i64 0,.i .i64 0,.i .i64 0,.sl .mut 2 []]) :=nr rfl
@[go_sem] def XOp:T 153=some .fn :=nr rfl
@[go_sem] def XOq:T 154=some (.slice 2 32 [.s ⟨#[]⟩,.s ⟨#[]⟩]) :=nr rfl
@[go_sem] def XOr:T 155=some (.struct 4 [(0,1,false,0),(1,1,false,0),(2,1,false,0),(3,1,false,2)] [.s ⟨#[]⟩,.s ⟨#[]⟩,.s ⟨#[]⟩,.sl .mut 2 []]) :=nr rfl
@[go_sem] def XOs:T 156=some (.struct 4 [(0,1,false,0),(1,1,false,0),(2,1,false,0),(3,1,false,2)] [.s ⟨#[]⟩,.s ⟨#[]⟩,.s ⟨#[]⟩,.sl .mut 2 []]) :=nr rfl
@[go_sem] def XOt:T 157=some (.slice 4 32 [.i .i64 0,.b false,.i .i64 0,.b false]) :=nr rfl
@[go_sem] def XOu:T 158=some (.struct 11 [(0,1,false,0),(1,1,false,0),(2,1,false,0),(3,1,false,0),(4,1,false,0),(5,1,false,0),(6,4,true,0),(10,1,false,4)] [.i .i64 0,.s ⟨#[]⟩,.b false,.b false,.i .i64 0,.b false,.s ⟨#[]⟩,.s ⟨#[]⟩,.s ⟨#[]⟩,.sl .mut 2 [],.sl .mut 4 []]) :=nr rfl
@[go_sem] def XOv:T 159=some (.struct 11 [(0,1,false,0),(1,1,false,0),(2,1,false,0),(3,1,false,0),(4,1,false,0),(5,1,false,0),(6,4,true,0),(10,1,false,4)] [.i .i64 0,.s ⟨#[]⟩,.b false,.b false,.i .i64 0,.b false,.s ⟨#[]⟩,.s ⟨#[]⟩,.s ⟨#[]⟩,.sl .mut 2 [],.sl .mut 4 []]) :=nr rfl
@[go_sem] def XOw:T 160=some .fn :=nr rfl
@[go_sem] def XOx:T 161=some .ptr :=nr rfl
@[go_sem] def XOy:T 162=some .fn :=nr rfl
@[go_sem] def XOz:T 163=some (.slice 1 1 [.i .u8 0]) :=nr rfl
@[go_sem] def XOA:T 164=some (.struct 7 [(0,1,false,0),(1,1,false,0),(2,1,false,0),(3,1,false,0),(4,1,false,0),(5,1,false,0),(6,1,false,0)] [.i .i64 0,.i .i64 0,.i .i64 0,.i .i64 0,.i .i64 0,.b false,.b false]) :=nr rfl
@[go_sem] def XOB:T 165=some (.struct 7 [(0,1,false,0),(1,1,false,0),(2,1,false,0),(3,1,false,0),(4,1,false,0),(5,1,false,0),(6,1,false,0)] [.i .i64 0,.i .i64 0,.i .i64 0,.i .i64 0,.i .i64 0,.b false,.b false]) :=nr rfl
@[go_sem] def XOC:T 166=some (.struct 13 [(0,1,false,0),(1,1,false,0),(2,1,false,2),(3,1,false,1),(4,7,true,0),(11,1,false,1),(12,1,false,0)] [.s ⟨#[]⟩,.i .i64 0,.sl .mut 2 [],.sl .mut 1 [],.i .i64 0,.i .i64 0,.i .i64 0,.i .i64 0,.i .i64 0,.b false,.b false,.sl .mut 1 [],.i .i64 0]) :=nr rfl
@[go_sem] def XOD:T 167=some (.struct 13 [(0,1,false,0),(1,1,false,0),(2,1,false,2),(3,1,false,1),(4,7,true,0),(11,1,false,1),(12,1,false,0)] [.s ⟨#[]⟩,.i .i64 0,.sl .mut 2 [],.sl .mut 1 [],.i .i64 0,.i .i64 0,.i .i64 0,.i .i64 0,.i .i64 0,.b false,.b false,.sl .mut 1 [],.i .i64 0]) :=nr rfl
@[go_sem] def XOE:T 168=some .fn :=nr rfl
@[go_sem] def XOF:T 169=some .fn :=nr rfl
@[go_sem] def XOG:T 170=some .fn :=nr rfl
@[go_sem] def XOH:T 171=some .fn :=nr rfl
@[go_sem] def XOI:T 172=some .fn :=nr rfl
@[go_sem] def XOJ:T 173=some (.struct 2 [(0,1,false,0),(1,1,false,0)] [.i .i64 0,.b false]) :=nr rfl
@[go_sem] def XOK:T 174=some (.struct 2 [(0,1,false,0),(1,1,false,0)] [.i .i64 0,.b false]) :=nr rfl
@[go_sem] def XOL:T 175=some .fn :=nr rfl
@[go_sem] def XOM:T 176=some .fn :=nr rfl
@[go_sem] def XON:T 177=some (.slice 1 8 [.i .i64 0]) :=nr rfl
@[go_sem] def XOO:T 178=some .fn :=nr rfl
@[go_sem] def XOP:T 179=some .ptr :=nr rfl
@[go_sem] def XOQ:T 180=some .fn :=nr rfl
@[go_sem] def XOR:T 181=some .fn :=nr rfl
@[go_sem] def XOS:T 182=some .fn :=nr rfl
@[go_sem] def XOT:T 183=some (.slice 1 8 [.u]) :=nr rfl
@[go_sem] def XOU:T 184=some .fn :=nr rfl
@[go_sem] def XOV:T 185=some .fn :=nr rfl
@[go_sem] def XOW:T 186=some .fn :=nr rfl
@[go_sem] def XOX:T 187=some .fn :=nr rfl
@[go_sem] def XOY:T 188=some .fn :=nr rfl
@[go_sem] def XOZ:T 189=some .fn :=nr rfl
@[go_sem] def XO0:T 190=some .fn :=nr rfl
@[go_sem] def XO1:T 191=some .fn :=nr rfl
@[go_sem] def XO2:T 192=some .fn :=nr rfl
@[go_sem] def XO3:T 193=some .fn :=nr rfl
@[go_sem] def XO4:T 194=some .fn :=nr rfl
@[go_sem] def XO5:T 195=some .fn :=nr rfl
@[go_sem] def XO6:T 196=some .fn :=nr rfl
@[go_sem] def XO7:T 197=some .fn :=nr rfl
@[go_sem] def XO8:T 198=some .ptr :=nr rfl
@[go_sem] def XO9:T 199=some .fn :=nr rfl
@[go_sem] def XPa:T 200=some .fn :=nr rfl
@[go_sem] def XPb:T 201=some .fn :=nr rfl
@[go_sem] def XPc:T 202=some .fn :=nr rfl
@[go_sem] def XPd:T 203=some .fn :=nr rfl
@[go_sem] def XPe:T 204=some .fn :=nr rfl
@[go_sem] def XPf:T 205=some .fn :=nr rfl
@[go_sem] def XPg:T 206=some .fn :=nr rfl
@[go_sem] def XPh:T 207=some .fn :=nr rfl
@[go_sem] def XPi:T 208=some .fn :=nr rfl
@[go_sem] def XPj:T 209=some .fn :=nr rfl
@[go_sem] def XPk:T 210=some .fn :=nr rfl
@[go_sem] def XPl:T 211=some .fn :=nr rfl
@[go_sem] def XPm:T 212=some .fn :=nr rfl
@[go_sem] def XPn:T 213=some .fn :=nr rfl
@[go_sem] def XPo:T 214=some (.struct 4 [(0,1,false,0),(1,1,false,0),(2,1,false,0),(3,1,false,0)] [.i .i64 0,.b false,.i .i64 0,.b false]) :=nr rfl
@[go_sem] def XPp:T 215=some (.struct 4 [(0,1,false,0),(1,1,false,0),(2,1,false,0),(3,1,false,0)] [.i .i64 0,.b false,.i .i64 0,.b false]) :=nr rfl
@[go_sem] def XPq:T 216=some .fn :=nr rfl
@[go_sem] def XPr:T 217=some (.struct 7 [(0,1,false,0),(1,1,false,0),(2,1,false,0),(3,1,false,0),(4,1,false,0),(5,1,false,0),(6,1,false,0)] [.i .i64 0,.i .i64 0,.i .i64 0,.i .i64 0,.i .i64 0,.b false,.b false]) :=nr rfl
@[go_sem] def XPs:T 218=some (.struct 13 [(0,1,false,0),(1,1,false,0),(2,1,false,2),(3,1,false,1),(4,7,true,0),(11,1,false,1),(12,1,false,0)] [.s ⟨#[]⟩,.i .i64 0,.sl .mut 2 [],.sl .mut 1 [],.i .i64 0,.i .i64 0,.i .i64 0,.i .i64 0,.i .i64 0,.b false,.b false,.sl .mut 1 [],.i .i64 0]) :=nr rfl
@[go_sem] def XPt:T 219=some (.struct 13 [(0,1,false,0),(1,1,false,0),(2,1,false,2),(3,1,false,1),(4,7,true,0),(11,1,false,1),(12,1,false,0)] [.s ⟨#[]⟩,.i .i64 0,.sl .mut 2 [],.sl .mut 1 [],.i .i64 0,.i .i64 0,.i .i64 0,.i .i64 0,.i .i64 0,.b false,.b false,.sl .mut 1 [],.i .i64 0]) :=nr rfl
@[go_sem] def XPu:T 220=some .fn :=nr rfl
@[go_sem] def XPv:T 221=some .fn :=nr rfl
@[go_sem] def XPw:T 222=some .fn :=nr rfl
@[go_sem] def XPx:T 223=some .fn :=nr rfl
@[go_sem] def XPy:T 224=some .fn :=nr rfl
@[go_sem] def XPz:T 225=some .fn :=nr rfl
@[go_sem] def XPA:T 226=some .fn :=nr rfl
@[go_sem] def XPB:T 227=some .ptr :=nr rfl
@[go_sem] def XPC:T 228=some .fn :=nr rfl
@[go_sem] def XPD:T 229=some (.struct 2 [(0,1,false,0),(1,1,false,0)] [.i .i64 0,.i .i64 0]) :=nr rfl
@[go_sem] def XPE:T 230=some (.struct 2 [(0,1,false,0),(1,1,false,0)] [.i .i64 0,.i .i64 0]) :=nr rfl
@[go_sem] def XPF:T 231=some .fn :=nr rfl
@[go_sem] def XPG:T 232=some .fn :=nr rfl
@[go_sem] def XPH:T 233=some .fn :=nr rfl
@[go_sem] def XPI:T 234=some .fn :=nr rfl
@[go_sem] def XPJ:T 235=some .fn :=nr rfl
@[go_sem] def XPK:T 236=some .fn :=nr rfl
@[go_sem] def XPL:T 238=some .fn :=nr rfl
@[go_sem] def XPM:T 239=some .fn :=nr rfl
@[go_sem] def XPN:T 240=some .fn :=nr rfl
@[go_sem] def XPO:T 241=some .fn :=nr rfl
@[go_sem] def XPP:T 242=some .fn :=nr rfl
@[go_sem] def XPQ:T 243=some .fn :=nr rfl
@[go_sem] def XPR:T 244=some .fn :=nr rfl
@[go_sem] def XPS:T 245=some .fn :=nr rfl
@[go_sem] def XPT:T 246=some .fn :=nr rfl
@[go_sem] def XPU:T 247=some .fn :=nr rfl
@[go_sem] def XPV:T 248=some .fn :=nr rfl
@[go_sem] def XPW:T 249=some .fn :=nr rfl
@[go_sem] def XPX:T 250=some .fn :=nr rfl
@[go_sem] def XPY:T 251=some .fn :=nr rfl
@[go_sem] def XPZ:T 252=some .fn :=nr rfl
@[go_sem] def XP0:T 253=some .fn :=nr rfl
@[go_sem] def XP1:T 254=some .fn :=nr rfl
@[go_sem] def XP2:T 255=some .fn :=nr rfl
@[go_sem] def XP3:T 256=some .fn :=nr rfl
@[go_sem] def XP4:T 257=some .fn :=nr rfl
@[go_sem] def XP5:T 258=some (.struct 2 [(0,1,false,0),(1,1,false,0)] [.s ⟨#[]⟩,.s ⟨#[]⟩]) :=nr rfl
@[go_sem] def XP6:T 259=some (.struct 2 [(0,1,false,0),(1,1,false,0)] [.s ⟨#[]⟩,.s ⟨#[]⟩]) :=nr rfl
@[go_sem] def XP7:T 260=some .fn :=nr rfl
@[go_sem] def XP8:T 261=some .fn :=nr rfl
@[go_sem] def XP9:T 262=some .fn :=nr rfl
@[go_sem] def XQa:T 263=some .fn :=nr rfl
@[go_sem] def XQb:T 264=some .fn :=nr rfl
@[go_sem] def XQc:T 265=some .fn :=nr rfl
@[go_sem] def XQd:T 266=some .fn :=nr rfl
@[go_sem] def XQe:T 267=some .fn :=nr rfl
@[go_sem] def XQf:T 269=some .fn :=nr rfl
@[go_sem] def XQg:T 270=some .fn :=nr rfl
@[go_sem] def XQh:T 271=some .fn :=nr rfl
@[go_sem] def XQi:T 272=some .fn :=nr rfl
@[go_sem] def XQj:T 273=some .fn :=nr rfl
@[go_sem] def XQk:T 274=some .fn :=nr rfl
@[go_sem] def XQl:T 275=some .fn :=nr rfl
@[go_sem] def XQm:T 276=some (.struct 4 [(0,1,false,0),(1,1,false,0),(2,1,false,0),(3,1,false,0)] [.i .i64 0,.b false,.i .i64 0,.b false]) :=nr rfl
@[go_sem] def XQn:T 277=some (.slice 1 24 [.sl .mut 13 []]) :=nr rfl
@[go_sem] def XQo:T 278=some .fn :=nr rfl
@[go_sem] def XQp:T 279=some (.array 5 1 false [.i .i64 0,.i .i64 0,.i .i64 0,.i .i64 0,.i .i64 0]) :=nr rfl
@[go_sem] def XQq:T 280=some .fn :=nr rfl
@[go_sem] def XQr:T 281=some .fn :=nr rfl
@[go_sem] def XQs:T 282=some .fn :=nr rfl
@[go_sem] def XQt:T 283=some .fn :=nr rfl
@[go_sem] def XQu:T 284=some .fn :=nr rfl
@[go_sem] def XQv:T 285=some .fn :=nr rfl
@[go_sem] def XQw:T 286=some .fn :=nr rfl
@[go_sem] def XQx:T 287=some .fn :=nr rfl
@[go_sem] def XQy:T 288=some .fn :=nr rfl
@[go_sem] def XQz:T 289=some .fn :=nr rfl
@[go_sem] def XQA:T 290=some (.struct 2 [(0,1,false,0),(1,1,false,0)] [.s ⟨#[]⟩,.s ⟨#[]⟩]) :=nr rfl
@[go_sem] def XQB:T 291=some .fn :=nr rfl
@[go_sem] def XQC:T 292=some .fn :=nr rfl
@[go_sem] def XQD:T 293=some .fn :=nr rfl
@[go_sem] def XQE:T 294=some (.struct 2 [(0,1,false,0),(1,1,false,0)] [.i .i64 0,.i .i64 0]) :=nr rfl
@[go_sem] def XQF:T 295=some .fn :=nr rfl
@[go_sem] def XQG:T 296=some (.struct 2 [(0,1,false,0),(1,1,false,0)] [.i .i64 0,.b false]) :=nr rfl
@[go_sem] def XQH:T 297=some .fn :=nr rfl
@[go_sem] def XQI:T 298=some .ptr :=nr rfl
@[go_sem] def XQJ:T 299=some (.struct 2 [(0,1,false,0),(1,1,false,1)] [.pn,.sl .mut 1 []]) :=nr rfl
@[go_sem] def XQK:T 300=some (.struct 2 [(0,1,false,0),(1,1,false,1)] [.pn,.sl .mut 1 []]) :=nr rfl
@[go_sem] def XQL:T 304=some .fn :=nr rfl
@[go_sem] def XQM:T 305=some .fn :=nr rfl
@[go_sem] def XQN:T 307=some .fn :=nr rfl
@[go_sem] def XQO:T 308=some .fn :=nr rfl
@[go_sem] def XQP:T 312=some .fn :=nr rfl
@[go_sem] def XQQ:T 313=some .fn :=nr rfl
@[go_sem] def XQR:T 314=some .ptr :=nr rfl
@[go_sem] def XQS:T 315=some .ptr :=nr rfl
@[go_sem] def XQT:T 317=some .fn :=nr rfl
@[go_sem] def XQU:T 318=some .fn :=nr rfl
@[go_sem] def XQV:T 321=some .fn :=nr rfl
@[go_sem] def XQW:T 323=some (.int .u64) :=nr rfl
@[go_sem] def XQX:T 324=some (.struct 2 [(0,1,false,0),(1,1,false,0)] [.i .u8 0,.i .u8 0]) :=nr rfl
@[go_sem] def XQY:T 325=some (.struct 2 [(0,1,false,0),(1,1,false,0)] [.i .u8 0,.i .u8 0]) :=nr rfl
@[go_sem] def XQZ:T 326=some (.array 16 2 true [.i .u8 0,.i .u8 0,.i .u8 0,.i .u8 0,.i .u8 0,.i .u8 0,.i .u8 0,.i .u8 0,.i .u8 0,.i .u8 0,.i .u8 0,.i .u8 0,.i .u8 0,.i .u8 0,.i .u8 0,.i .u8 0,.i .u8 0,.i .u8 0,.i .u8 0,.i .u8 0,.i .u8 0,.i .u8 0,.i .u8 0,.i .u8 0,.i .u8 0,.i .u8 0,.i .u8 0,.i .u8 0,.i .u8 0,.i .u8 0,.i .u8 0,.i .u8 0]) :=nr rfl
@[go_sem] def XQ0:T 327=some .fn :=nr rfl
@[go_sem] def XQ1:T 328=some .fn :=nr rfl
@[go_sem] def XQ2:T 329=some .fn :=nr rfl
@[go_sem] def XQ3:T 335=some .fn :=nr rfl
@[go_sem] def XQ4:T 336=some (.int .u32) :=nr rfl
def Q:TypeId->Option (List Nat)
  | 23 => some [1,1,1]
  | 24 => some [1,1,1]
  | 25 => some [1,1,1,1,1]
  | 26 => some [1,1,1,1,1]
  | 30 => some [1,1,1]
  | 31 => some [1,1,1,1,1]
  | 62 => some [1,1]
  | 63 => some [1,1]
  | 164 => some [1,1,1,1,1,0,0]
  | 165 => some [1,1,1,1,1,0,0]
  | 173 => some [1,0]
  | 174 => some [1,0]
  | 214 => some [1,0,1,0]
  | 215 => some [1,0,1,0]
  | 217 => some [1,1,1,1,1,0,0]
  | 229 => some [1,1]
  | 230 => some [1,1]
  | 258 => some [2,2]
  | 259 => some [2,2]
  | 276 => some [1,0,1,0]
  | 290 => some [2,2]
  | 294 => some [1,1]
  | 296 => some [1,0]
  | 324 => some [1,1]
  | 325 => some [1,1]
  | _ => none
@[go_sem] def Q23:Q 23=some [1,1,1] :=nr rfl
@[go_sem] def Q24:Q 24=some [1,1,1] :=nr rfl
@[go_sem] def Q25:Q 25=some [1,1,1,1,1] :=nr rfl
@[go_sem] def Q26:Q 26=some [1,1,1,1,1] :=nr rfl
@[go_sem] def Q30:Q 30=some [1,1,1] :=nr rfl
@[go_sem] def Q31:Q 31=some [1,1,1,1,1] :=nr rfl
@[go_sem] def Q62:Q 62=some [1,1] :=nr rfl
@[go_sem] def Q63:Q 63=some [1,1] :=nr rfl
@[go_sem] def XQ5:Q 164=some [1,1,1,1,1,0,0] :=nr rfl
@[go_sem] def XQ6:Q 165=some [1,1,1,1,1,0,0] :=nr rfl
@[go_sem] def XQ7:Q 173=some [1,0] :=nr rfl
@[go_sem] def XQ8:Q 174=some [1,0] :=nr rfl
@[go_sem] def XQ9:Q 214=some [1,0,1,0] :=nr rfl
@[go_sem] def XRa:Q 215=some [1,0,1,0] :=nr rfl
@[go_sem] def XRb:Q 217=some [1,1,1,1,1,0,0] :=nr rfl
@[go_sem] def XRc:Q 229=some [1,1] :=nr rfl
@[go_sem] def XRd:Q 230=some [1,1] :=nr rfl
@[go_sem] def XRe:Q 258=some [2,2] :=nr rfl
@[go_sem] def XRf:Q 259=some [2,2] :=nr rfl
@[go_sem] def XRg:Q 276=some [1,0,1,0] :=nr rfl
@[go_sem] def XRh:Q 290=some [2,2] :=nr rfl
@[go_sem] def XRi:Q 294=some [1,1] :=nr rfl
@[go_sem] def XRj:Q 296=some [1,0] :=nr rfl
@[go_sem] def XRk:Q 324=some [1,1] :=nr rfl
@[go_sem] def XRl:Q 325=some [1,1] :=nr rfl
instance instTb:HasTb Tryz.prog :=⟨λ_ _ => True,λ_ _ _ _ => trivial⟩
def XID(cx:Cx)(h:cx.T=T)(h2:cx.eqs=Q):Xg0 Tryz.prog cx :=by
  refine⟨λt ti ht => ?_,λt ks hk => ?_⟩
  · rw[h] at ht
    unfold T at ht
    split at ht<;>first | cases ht; done | (injection ht with ht; subst ht; exact XtC (by kernel_rfl))
  · rw[h2] at hk
    unfold Q at hk
    split at hk<;>first | cases hk; done | (injection hk with hk; subst hk; kernel_rfl)
def tyA:Xqk Tryz.prog :=⟨T,Q,XID,by kernel_rfl⟩
@[go_sem] def XIE:tyA.T=T :=nr rfl
@[go_sem] def XIF:tyA.Q=Q :=nr rfl
end Go.Vm.A
namespace Go.Proofs
open Go.Shelf
def Tryz.lays169_ren:Go.Shelf.Ren :=⟨fun | 169 => 274 | n => n,fun | 70 => 298 | 9 => 9 | 0 => 0 | 72 => 300 | 37 => 163 | 127 => 315 | 3 => 3 | 5 => 5 | n => n,fun | n => n⟩
def Tryz.lays169:Go.Proofs.Lays.n169 Tryz.prog Tryz.lays169_ren :={
  mixed :=by kernel_rfl
  f169 :=Tryz.func274.trans (congrArg some (by kernel_rfl))
  t0 :=Tryz.underlying0
  a0 :=Tryz.isAgg0
  z0 :=Tryz.sizeOf0
  v0 :=Tryz.zeroValue0
  t3 :=Tryz.underlying3
  a3 :=Tryz.isAgg3
  z3 :=Tryz.sizeOf3
  v3 :=Tryz.zeroValue3
  t9 :=Tryz.underlying9
  a9 :=Tryz.isAgg9
  z9 :=Tryz.sizeOf9
  v9 :=Tryz.zeroValue9
  t37 :=Tryz.underlying163
  a37 :=Tryz.isAgg163
  z37 :=Tryz.sizeOf163
  v37 :=Tryz.zeroValue163
  t70 :=Tryz.underlying298
  a70 :=Tryz.isAgg298
  z70 :=Tryz.sizeOf298
  v70 :=Tryz.zeroValue298
  t72 :=Tryz.underlying300
  a72 :=Tryz.isAgg300
  z72 :=Tryz.sizeOf300
  v72 :=Tryz.zeroValue300
  t127 :=Tryz.underlying315
  a127 :=Tryz.isAgg315
  z127 :=Tryz.sizeOf315
  v127 :=Tryz.zeroValue315}
def Tryz.Builder_Extra_169:Builder.Extra Tryz.prog Tryz.lays169_ren :={
  sizeBuilder :=by kernel_rfl
  liesBuilder :=by kernel_rfl
  t5 :=Tryz.underlying5
  a5 :=Tryz.isAgg5
  z5 :=Tryz.sizeOf5
  v5 :=Tryz.zeroValue5
  infoByte :=by kernel_rfl
  cellsByte :=by kernel_rfl
  sizeByte :=by kernel_rfl
  neB5 :=by decide}
open Go.RowKit in
def Tryz.Builder_String_any_k(B b:Nat)(l:List UInt8)(w:World)(h:Lib.IsBuilderF 300 5 B b (Lib.byteCells l) w)(hBw:B<=w.heap.size) :
    Calls Tryz.prog 274 #[.pointer (some ⟨b,0,none⟩)] w λe w' => e=.returned (.string ⟨l.toArray⟩)/\(Lib.IsBuilderF 300 5 B b (Lib.byteCells l) w'/\Below B w w'/\Lib.OthersKept 5 (some b) w w') :=Any.Builder_String_any_k Tryz.lays169 Tryz.Builder_Extra_169 B b l w h hBw
def Tryz.lays160_ren:Go.Shelf.Ren :=⟨fun | 160 => 271 | 232 => 283 | 231 => 282 | 227 => 284 | 234 => 286 | 233 => 285 | 236 => 288 | 235 => 287 | 228 => 291 | 271 => 294 | 151 => 293 | 197 => 292 | 120 => 298 | 152 => 297 | 260 => 296 | 137 => 260 | 119 => 299 | 224 => 300 | 225 => 301 | 217 => 278 | 266 => 290 | n => n,fun | 9 => 9 | 4 => 4 | 3 => 3 | 5 => 5 | 117 => 311 | 116 => 310 | 0 => 0 | 124 => 314 | 21 => 21 | 105 => 316 | 46 => 323 | 119 => 322 | 139 => 326 | 138 => 325 | n => n,fun | 3 => 1 | 4 => 2 | n => n⟩
def Tryz.lays160:Go.Proofs.Lays.n160 Tryz.prog Tryz.lays160_ren :={
  mixed :=by kernel_rfl
  f119 :=Tryz.func299.trans (congrArg some (by kernel_rfl))
  f120 :=Tryz.func298.trans (congrArg some (by kernel_rfl))
  f137 :=Tryz.func260.trans (congrArg some (by kernel_rfl))
  f151 :=Tryz.func293.trans (congrArg some (by kernel_rfl))
  f152 :=Tryz.func297.trans (congrArg some (by kernel_rfl))
  f160 :=Tryz.func271.trans (congrArg some (by kernel_rfl))
  f197 :=Tryz.func292.trans (congrArg some (by kernel_rfl))
  f217 :=Tryz.func278.trans (congrArg some (by kernel_rfl))
  f224 :=Tryz.func300.trans (congrArg some (by kernel_rfl))
  f225 :=Tryz.func301.trans (congrArg some (by kernel_rfl))
  f227 :=Tryz.func284.trans (congrArg some (by kernel_rfl))
  f228 :=Tryz.func291.trans (congrArg some (by kernel_rfl))
  f231 :=Tryz.func282.trans (congrArg some (by kernel_rfl))
  f232 :=Tryz.func283.trans (congrArg some (by kernel_rfl))
  f233 :=Tryz.func285.trans (congrArg some (by kernel_rfl))
  f234 :=Tryz.func286.trans (congrArg some (by kernel_rfl))
  f235 :=Tryz.func287.trans (congrArg some (by kernel_rfl))
  f236 :=Tryz.func288.trans (congrArg some (by kernel_rfl))
  f260 :=Tryz.func296.trans (congrArg some (by kernel_rfl))
  f266 :=Tryz.func290.trans (congrArg some (by kernel_rfl))
  f271 :=Tryz.func294.trans (congrArg some (by kernel_rfl))
  t0 :=Tryz.underlying0
  a0 :=Tryz.isAgg0
  z0 :=Tryz.sizeOf0
  v0 :=Tryz.zeroValue0
  t3 :=Tryz.underlying3
  a3 :=Tryz.isAgg3
  z3 :=Tryz.sizeOf3
  v3 :=Tryz.zeroValue3
  t4 :=Tryz.underlying4
  a4 :=Tryz.isAgg4
  z4 :=Tryz.sizeOf4
  v4 :=Tryz.zeroValue4
  t5 :=Tryz.underlying5
  a5 :=Tryz.isAgg5
  z5 :=Tryz.sizeOf5
  v5 :=Tryz.zeroValue5
  t9 :=Tryz.underlying9
  a9 :=Tryz.isAgg9
  z9 :=Tryz.sizeOf9
  v9 :=Tryz.zeroValue9
  t21 :=Tryz.underlying21
  a21 :=Tryz.isAgg21
  z21 :=Tryz.sizeOf21
  v21 :=Tryz.zeroValue21
  t46 :=Tryz.underlying323
  a46 :=Tryz.isAgg323
  z46 :=Tryz.sizeOf323
  v46 :=Tryz.zeroValue323
  t105 :=Tryz.underlying316
  a105 :=Tryz.isAgg316
  z105 :=Tryz.sizeOf316
  v105 :=Tryz.zeroValue316
  t116 :=Tryz.underlying310
  a116 :=Tryz.isAgg310
  z116 :=Tryz.sizeOf310
  t117 :=Tryz.underlying311
  a117 :=Tryz.isAgg311
  z117 :=Tryz.sizeOf311
  v117 :=Tryz.zeroValue311
  t119 :=Tryz.underlying322
  a119 :=Tryz.isAgg322
  z119 :=Tryz.sizeOf322
  t124 :=Tryz.underlying314
  a124 :=Tryz.isAgg314
  z124 :=Tryz.sizeOf314
  v124 :=Tryz.zeroValue314
  t138 :=Tryz.underlying325
  a138 :=Tryz.isAgg325
  z138 :=Tryz.sizeOf325
  v138 :=Tryz.zeroValue325
  t139 :=Tryz.underlying326
  a139 :=Tryz.isAgg326
  z139 :=Tryz.sizeOf326
  v139 :=Tryz.zeroValue326
  g3 :=by kernel_rfl
  g4 :=by kernel_rfl}
def Tryz.trimSpTab(s:ByteArray)(w:World)(hs:s.size<=9223372036854775807) :
    Calls Tryz.prog 271 #[.string s,.string ⟨#[32,9]⟩] w λe w' => e=.returned (.string ⟨(Lib.trimS s.data.toList [32,9]).toArray⟩)/\Go.RowKit.Below w.heap.size w w' :=
  Any.strings_Trim_laid Tryz.lays160 (by kernel_rfl) s ⟨#[32,9]⟩ w hs (by decide) (ascii_of_all (by decide))
open Go.RowKit
set_option maxHeartbeats 4000000
set_option maxRecDepth 100000
def Tryz.cc_fresh(b:Nat)(w:World)(h0:w.cell? ⟨b,0,none⟩=some (.pointer none))(hsh:w.shape? b=some (300,2))(hfz:w.frozen? ⟨b,0,none⟩=false) :
    Calls Tryz.prog 289 #[.pointer (some ⟨b,0,none⟩)] w λe w' => e=.returned (.tuple #[])/\w'=w.setCell ⟨b,0,none⟩ (.pointer (some ⟨b,0,none⟩)) :=by
  obtain⟨j,hj,hjs⟩ :=Option.map_eq_some_iff.1 Tryz.Builder_Extra_169.sizeBuilder
  have hl :=Tryz.Builder_Extra_169.liesBuilder
  go_enter Tryz.func289,Tryz.ntmps289
  go_wp2
  rw[Lib.run_to_unsafe w ⟨b,0,none⟩ Tryz.underlying298 Tryz.underlying319 hj (by rw[hjs]; decide) hsh (Nat.zero_lt_succ 1)]
  simp only[Result.andThen]
  rw[Oper.upon_value]
  go_wp2
  rw[run_callFunc_extern Tryz.func295 (by kernel_rfl) (by kernel_rfl) (by kernel_rfl) (e :=Extern.AbiNoEscape.same) (by kernel_rfl)]
  rw[Lib.run_noEscape]
  simp only[Result.andThen]
  rw[Oper.upon_value]
  go_wp2
  rw[Lib.run_from_unsafe w ⟨b,0,none⟩ Tryz.underlying319 Tryz.underlying298 hj hsh hl]
  simp only[Result.andThen]
  rw[Oper.upon_value]
  go_wp2
  go_end0
  exact⟨rfl,rfl⟩
def Tryz.cc_used(b:Nat)(w:World)(h0:w.cell? ⟨b,0,none⟩=some (.pointer (some ⟨b,0,none⟩))) :
    Calls Tryz.prog 289 #[.pointer (some ⟨b,0,none⟩)] w λe w' => e=.returned (.tuple #[])/\w'=w :=by
  obtain⟨j,hj,_⟩ :=Option.map_eq_some_iff.1 Tryz.Builder_Extra_169.sizeBuilder
  go_enter Tryz.func289,Tryz.ntmps289
  go_wp2
  rw[Lib.run_neq_ptr_same w _ Tryz.underlying298 hj]
  go_wp2
  go_end0
  exact⟨rfl,rfl⟩
def Tryz.cc_k(B b:Nat)(bs:List Value)(w:World)(h:Lib.IsBuilderF 300 5 B b bs w) :
    Calls Tryz.prog 289 #[.pointer (some ⟨b,0,none⟩)] w λe w' => e=.returned (.tuple #[])/\(Lib.BuilderAtF 300 5 B b (.pointer (some ⟨b,0,none⟩)) bs w'/\Below B w w') :=by
  rcases h with h | h
  · refine(Tryz.cc_fresh b w h.cell0 h.shape h.frozen0).mono ?_
    rintro e w' ⟨rfl,rfl⟩
    exact⟨rfl,h.used _,(Below.refl B w).setCell (p :=⟨b,0,none⟩) h.1 _⟩
  · refine(Tryz.cc_used b w h.cell0).mono ?_
    rintro e w' ⟨rfl,rfl⟩
    exact⟨rfl,h,Below.refl B _⟩
def Tryz.ws_k(B b:Nat)(bs:List Value)(s:ByteArray)(w:World)(h:Lib.IsBuilderF 300 5 B b bs w)(hlen:bs.length+s.size<=140737488355328)(hBw:B<=w.heap.size) :
    Calls Tryz.prog 272 #[.pointer (some ⟨b,0,none⟩),.string s] w λe w' => e=.returned (.tuple #[.int .i64 s.size,.nilIface])/\(Lib.IsBuilderF 300 5 B b (bs++Lib.strCells s) w'/\Below B w w') :=by
  obtain⟨i0,hi,hz0,hz1,hz2⟩ :=info_parts Tryz.Builder_Extra_169.infoByte
  go_enter Tryz.func272,Tryz.ntmps272
  go_wp2_with (go_at_call 289; refine(Tryz.cc_k B b bs _ h).mono ?_)
  rintro e w1 ⟨rfl,h1,hb1⟩
  obtain⟨hB,v,hbk,hown,hne⟩ :=h1
  have c0:w1.cell? ⟨b,0,none⟩=some (.pointer (some ⟨b,0,none⟩)) :=by rw[Lib.cell_of_heap hbk]; rfl
  have c1:w1.cell? ⟨b,1,none⟩=some v :=by rw[Lib.cell_of_heap hbk]; rfl
  go_wp2_with (at_builtin; refine Lib.wpList_append_own_stringF _ rfl _ _ 163 9 rfl B 5 i0 Tryz.underlying163 Tryz.underlying9 hi hz0 hz1 hz2 _ _ _ rfl hown s rfl ?c3 ?c4 ?c5 ?_)
  case c3 => unfold maxLen; omega
  case c4 => omega
  case c5 => have :=hb1.size; omega
  intro v' w2 hown' hgrow _
  have hlt:b<w1.heap.size :=by
    rcases Nat.lt_or_ge b w1.heap.size with h' | h'
    · exact h'
    · simp[Array.getElem?_eq_none h'] at hbk
  have hb2:w2.heap[b]?=some (.cells #[.pointer (some ⟨b,0,none⟩),v] 300 (0,0)) :=by
    rw[hgrow.block b hlt (λe => hne e.symm)]
    exact hbk
  have d0:w2.cell? ⟨b,0,none⟩=some (.pointer (some ⟨b,0,none⟩)) :=by rw[Lib.cell_of_heap hb2]; rfl
  have d1:w2.cell? ⟨b,1,none⟩=some v :=by rw[Lib.cell_of_heap hb2]; rfl
  have f1:w2.frozen? ⟨b,1,none⟩=false :=Lib.frozen_of_heap hb2 1
  obtain⟨ao,n',cap,rfl⟩:∃ao n' cap,v'=.slice ao n' cap :=by
    rcases hown'.2 with⟨hv,_⟩ | ⟨g,cap,cur,fz,hv,_⟩
    · exact⟨_,_,_,hv⟩
    · exact⟨_,_,_,hv⟩
  go_wp2
  go_ret2
  refine⟨rfl,Or.inr ?_,?_⟩
  · exact Lib.BuilderAtF.put (T :=300) (e :=5) hB hb2 (bs' :=bs++Lib.strCells s) (by simpa[Lib.strCells_length] using hown') Tryz.Builder_Extra_169.neB5
  · exact(hb1.grown hgrow (by have :=hb1.size; omega) (λk hk => (hown.lt k hk).1)).setCell (p :=⟨b,1,none⟩) hB _
def Tryz.ht_k(hs:List (ByteArray×ByteArray))(A:Option Addr)(n cap g off:Nat)(w:World)(hn:hs.length=n)(hA:0<n->A=some ⟨g,off,none⟩)(hg:0<n->g<w.heap.size)
    (hc:∀(i:Nat) (hi:i<hs.length),w.cell? ⟨g,off+i*2,none⟩=some (.string hs[i].1)/\w.cell? ⟨g,off+i*2+1,none⟩=some (.string hs[i].2))
    (hsz:∀p∈hs,p.1.size<=1048576/\p.2.size<=1048576) (hl:hs.length<=1048576) :
    Calls Tryz.prog 246 #[.slice A n cap] w λe w' => e=.returned (.string ⟨(Go.Vm.packL hs).toArray⟩)/\Below w.heap.size w w' :=by
  go_enter Tryz.func246,Tryz.ntmps246
  go_wp2
  go_loopw [9] (λi wr => ∃k:Nat,k<=n/\i=.int .i64 k/\Lib.IsBuilderF 300 5 w.heap.size w.heap.size (Lib.byteCells (Go.Vm.packL (hs.take k))) wr/\Below w.heap.size w wr) (λi _ => n-(intOf i).toNat)
  case atStart =>
    exact⟨0,Nat.zero_le _,rfl,Lib.IsBuilderF.of (Lib.fresh_isBuilder 300 5 w),(Below.refl _ w).alloc (Nat.le_refl _) _⟩
  case round =>
    obtain⟨k,hk,rfl,hI,hbw⟩ :=hrel
    by_cases hlt:k<n
    · obtain rfl :=hA (by omega)
      have hkl:k<hs.length :=by omega
      have hgw :=hg (by omega)
      obtain⟨e0,e1⟩ :=hc k hkl
      have e0':wr.cell? ⟨g,off+k*2,none⟩=some (.string hs[k].1) :=by rw[<-e0]; exact hbw.cell hgw
      have e1':wr.cell? ⟨g,off+k*2+1,none⟩=some (.string hs[k].2) :=by rw[<-e1]; exact hbw.cell hgw
      obtain⟨s1,s2⟩ :=hsz _ (List.getElem_mem hkl)
      obtain⟨x,hx⟩:∃x,hs[k].1=x :=⟨_,rfl⟩
      obtain⟨y,hy⟩:∃y,hs[k].2=y :=⟨_,rfl⟩
      rw[hx] at e0' s1
      rw[hy] at e1' s2
      have hp :=Go.Vm.packL_len (hs.take k) (λq hq => hsz q (List.mem_of_mem_take hq))
      have hpl:(hs.take k).length=k :=by rw[List.length_take]; omega
      rw[hpl] at hp
      go_wp2_with (first
        | (go_at_call 272; refine(Tryz.ws_k w.heap.size w.heap.size _ _ _ ((hI.alloc _).alloc _) ?q1 ?q2).mono ?_)
        | go_in)
      case q1 => rw[Lib.byteCells_length]; omega
      case q2 => have :=hbw.size; omega
      rintro e W1 rfl h1 b1
      go_wp2
      go_roundw
      case rel =>
        refine⟨k+1,by omega,by go_num,?_,?_⟩
        · rw[Go.Vm.packL_snoc hs k hkl,Go.Vm.lineB,hx,hy,Lib.byteCells_append]
          exact h1
        · exact((hbw.alloc (by have :=hbw.size; omega) _).alloc (by have :=hbw.size; simp; omega) _).trans b1
      case measure => simp[intOf]; omega
    · have hkn:k=n :=by omega
      have ht:hs.take k=hs :=List.take_of_length_le (by omega)
      rw[ht] at hI
      go_wp2_with (go_at_call 274; refine(Tryz.Builder_String_any_k w.heap.size w.heap.size _ _ hI (by have :=hbw.size; omega)).mono ?_)
      rintro e W1 ⟨rfl,_,b1,_⟩
      go_wp2
      go_ret
      exact⟨rfl,hbw.trans b1⟩
def Tryz.growInfo:∃(i0:TypeInfo) (zv:Value),Tryz.prog.info? 167=some i0/\i0.zero=some zv/\i0.bytes=152/\i0.size=13/\zv.cells.size=13 :=by
  have h:(Tryz.prog.info? 167).map (λi => (i.bytes,i.size,i.zero.map λz => z.cells.size))=some (152,13,some 13) :=by kernel_rfl
  obtain⟨i0,h1,h2⟩ :=Option.map_eq_some_iff.1 h
  simp only[Prod.mk.injEq] at h2
  obtain⟨e1,e2,e3⟩ :=h2
  obtain⟨zv,e4,e5⟩ :=Option.map_eq_some_iff.1 e3
  exact⟨i0,zv,h1,e4,e1,e2,e5⟩
def Tryz.grow0(w:World):Calls Tryz.prog 244 #[.slice none 0 0,.int .i64 0] w λe w' => e=.returned (.slice none 0 0)/\w'=w :=by
  go_enter Tryz.func244,Tryz.ntmps244
  go_wp2
  all_goals go_ret
  all_goals exact⟨rfl,rfl⟩
def Tryz.growN(i0:TypeInfo)(z:Value)(hi0:Tryz.prog.info? 167=some i0)(hz0:i0.zero=some z)(hs0:0<i0.size)(n:Nat)(w:World)(hn:0<n)(hbig:n*i0.bytes<=140737488355328)(h63:n<=4611686018427387904) :
    Calls Tryz.prog 244 #[.slice none 0 0,.int .i64 n] w λe w' => e=.returned (.slice (some ⟨w.heap.size,0,none⟩) 0 (grownCap w n 0 167))/\w'=w.drew.alloc (.cells (#[]++Builtin.zeroCells z.cells n++Builtin.zeroCells z.cells (grownCap w n 0 167-n)) 167) :=by
  have h1:¬((n:Int)<0) :=by omega
  have h4:(n:Int)>0 :=by omega
  have h2:wrap64 (n:Int)=(n:Int) :=by unfold wrap64; omega
  have h3:wrap64 (0:Int)=0 :=by unfold wrap64; omega
  have z25:∀w,(Go.sizeOf 167).run Tryz.prog w=.ok i0.size w :=λw => by simp[Go.sizeOf,typeInfo,hi0]
  have hold:(Builtin.firstCells i0.size 0 (.slice none 0 0)).run Tryz.prog w.drew=.ok #[] w.drew :=run_firstCells_none w.drew i0.size 0 0 0
  have hrz:∀ty,(Builtin.append_ #[34,3] ty #[.slice none 0 0,.int .i64 n]).run Tryz.prog w =
      .ok (.slice (some ⟨w.heap.size,0,none⟩) n (grownCap w n 0 167)) (w.drew.alloc (.cells (#[]++Builtin.zeroCells z.cells n++Builtin.zeroCells z.cells (grownCap w n 0 167-n)) 167)) :=λty => by
    have h :=Lib.run_append_grow_zeros w 34 3 ty 167 i0 z .i64 .i64 Tryz.underlying34 Tryz.underlying3 hi0 hz0 none 0 0 [] hold n (by omega) hs0 (by omega) (by omega)
      (by omega) (by rw[Nat.zero_add]; exact growslice_fits hn hbig)
    rw[Nat.zero_add] at h
    exact h
  have hGn:n<=grownCap w n 0 167 :=grownCap_ge w _ _ _
  obtain⟨G,hG⟩:∃G,G=grownCap w n 0 167 :=⟨_,rfl⟩
  rw[<-hG] at hrz hGn ⊢
  have hG63:G<=9223372036854775807 :=by
    have :=grownCap_le_maxLen w n 0 167 (by unfold maxLen; omega)
    rw[<-hG] at this
    unfold maxLen at this
    omega
  clear hold hG
  go_enter Tryz.func244,Tryz.ntmps244
  go_wp2_with (at_builtin; refine Lib.wpList_append_run _ rfl _ _ _ _ rfl _ _ rfl rfl _ _ (hrz _) ?_)
  all_goals (go_ret; exact⟨rfl,rfl⟩)
end Go.Proofs
