/- Functions of the program, walked by the evaluator. -/
import Derived.Test.YtnbhkifknleipaaGreatDoorWa
import Derived.Test.YtnbhkifknleipaaGreatDoorProg
import Derived.KernelRfl
import Derived.WalkKit
import Derived.LoopTactic
import Derived.Shelf.Strings.BuilderK
import Derived.Shelf.Strings.SlTrimAscii
import Derived.Lib.AppendZerosOnto
import Derived.Shelf.Spec.SlicesGrow
set_option linter.unusedVariables false
set_option linter.unusedSimpArgs false
set_option autoImplicit false
set_option maxRecDepth 100000
set_option maxHeartbeats 4000000
namespace Go.Vm.A
open Go.Proofs
def T : TypeId → Option TI
 | 1=>some .fn
 | 2=>some (.int .i64)
 | 3=>some (.int .i64)
 | 4=>some .bool
 | 5=>some (.int .u8)
 | 9=>some .str
 | 21=>some (.int .i32)
 | 22=>some (.slice 1 1 [.i .u8 0])
 | 23=>some .fn
 | 24=>some (.slice 11 144 [.i .i64 0,.s ⟨#[]⟩,.b false,.b false,.i .i64 0,.b false,.s ⟨#[]⟩,.s ⟨#[]⟩,.s ⟨#[]⟩,.sl .mut 2 [],.sl .mut 4 []])
 | 26=>some .fn
 | 27=>some (.struct 2 [(0,1,false,0),(1,1,false,0)] [.i .i64 0,.i .i64 0])
 | 28=>some (.struct 2 [(0,1,false,0),(1,1,false,0)] [.i .i64 0,.i .i64 0])
 | 29=>some .fn
 | 31=>some .fn
 | 32=>some .fn
 | 33=>some .fn
 | 34=>some (.slice 2 32 [.s ⟨#[]⟩,.s ⟨#[]⟩])
 | 35=>some (.struct 4 [(0,1,false,0),(1,1,false,0),(2,1,false,0),(3,1,false,2)] [.s ⟨#[]⟩,.s ⟨#[]⟩,.s ⟨#[]⟩,.sl .mut 2 []])
 | 36=>some (.struct 4 [(0,1,false,0),(1,1,false,0),(2,1,false,0),(3,1,false,2)] [.s ⟨#[]⟩,.s ⟨#[]⟩,.s ⟨#[]⟩,.sl .mut 2 []])
 | 37=>some (.slice 4 32 [.i .i64 0,.b false,.i .i64 0,.b false])
 | 38=>some (.struct 11 [(0,1,false,0),(1,1,false,0),(2,1,false,0),(3,1,false,0),(4,1,false,0),(5,1,false,0),(6,4,true,0),(10,1,false,4)] [.i .i64 0,.s ⟨#[]⟩,.b false,.b false,.i .i64 0,.b false,.s ⟨#[]⟩,.s ⟨#[]⟩,.s ⟨#[]⟩,.sl .mut 2 [],.sl .mut 4 []])
 | 39=>some (.struct 11 [(0,1,false,0),(1,1,false,0),(2,1,false,0),(3,1,false,0),(4,1,false,0),(5,1,false,0),(6,4,true,0),(10,1,false,4)] [.i .i64 0,.s ⟨#[]⟩,.b false,.b false,.i .i64 0,.b false,.s ⟨#[]⟩,.s ⟨#[]⟩,.s ⟨#[]⟩,.sl .mut 2 [],.sl .mut 4 []])
 | 40=>some .fn
 | 41=>some (.slice 2 32 [.s ⟨#[]⟩,.s ⟨#[]⟩])
 | 42=>some (.struct 4 [(0,1,false,0),(1,1,false,0),(2,1,false,0),(3,1,false,2)] [.s ⟨#[]⟩,.s ⟨#[]⟩,.s ⟨#[]⟩,.sl .mut 2 []])
 | 43=>some (.struct 4 [(0,1,false,0),(1,1,false,0),(2,1,false,0),(3,1,false,2)] [.s ⟨#[]⟩,.s ⟨#[]⟩,.s ⟨#[]⟩,.sl .mut 2 []])
 | 44=>some (.struct 7 [(0,1,false,0),(1,1,false,0),(2,1,false,0),(3,1,false,0),(4,1,false,0),(5,1,false,0),(6,1,false,0)] [.i .i64 0,.i .i64 0,.i .i64 0,.i .i64 0,.i .i64 0,.b false,.b false])
 | 45=>some (.struct 7 [(0,1,false,0),(1,1,false,0),(2,1,false,0),(3,1,false,0),(4,1,false,0),(5,1,false,0),(6,1,false,0)] [.i .i64 0,.i .i64 0,.i .i64 0,.i .i64 0,.i .i64 0,.b false,.b false])
 | 46=>some (.slice 1 16 [.s ⟨#[]⟩])
 | 47=>some (.struct 13 [(0,1,false,0),(1,1,false,0),(2,1,false,2),(3,1,false,1),(4,7,true,0),(11,1,false,1),(12,1,false,0)] [.s ⟨#[]⟩,.i .i64 0,.sl .mut 2 [],.sl .mut 1 [],.i .i64 0,.i .i64 0,.i .i64 0,.i .i64 0,.i .i64 0,.b false,.b false,.sl .mut 1 [],.i .i64 0])
 | 48=>some (.struct 13 [(0,1,false,0),(1,1,false,0),(2,1,false,2),(3,1,false,1),(4,7,true,0),(11,1,false,1),(12,1,false,0)] [.s ⟨#[]⟩,.i .i64 0,.sl .mut 2 [],.sl .mut 1 [],.i .i64 0,.i .i64 0,.i .i64 0,.i .i64 0,.i .i64 0,.b false,.b false,.sl .mut 1 [],.i .i64 0])
 | 49=>some .fn
 | 50=>some .fn
 | 51=>some (.struct 5 [(0,1,false,0),(1,4,true,0)] [.i .i64 0,.s ⟨#[]⟩,.s ⟨#[]⟩,.s ⟨#[]⟩,.sl .mut 2 []])
 | 52=>some (.struct 5 [(0,1,false,0),(1,4,true,0)] [.i .i64 0,.s ⟨#[]⟩,.s ⟨#[]⟩,.s ⟨#[]⟩,.sl .mut 2 []])
 | 53=>some .fn
 | 54=>some .fn
 | 55=>some (.struct 7 [(0,1,false,0),(1,1,false,0),(2,1,false,0),(3,1,false,0),(4,1,false,0),(5,1,false,0),(6,1,false,0)] [.i .i64 0,.i .i64 0,.i .i64 0,.i .i64 0,.i .i64 0,.b false,.b false])
 | 56=>some (.struct 13 [(0,1,false,0),(1,1,false,0),(2,1,false,2),(3,1,false,1),(4,7,true,0),(11,1,false,1),(12,1,false,0)] [.s ⟨#[]⟩,.i .i64 0,.sl .mut 2 [],.sl .mut 1 [],.i .i64 0,.i .i64 0,.i .i64 0,.i .i64 0,.i .i64 0,.b false,.b false,.sl .mut 1 [],.i .i64 0])
 | 57=>some (.struct 13 [(0,1,false,0),(1,1,false,0),(2,1,false,2),(3,1,false,1),(4,7,true,0),(11,1,false,1),(12,1,false,0)] [.s ⟨#[]⟩,.i .i64 0,.sl .mut 2 [],.sl .mut 1 [],.i .i64 0,.i .i64 0,.i .i64 0,.i .i64 0,.i .i64 0,.b false,.b false,.sl .mut 1 [],.i .i64 0])
 | 58=>some .fn
 | 59=>some .fn
 | 60=>some .fn
 | 61=>some .fn
 | 62=>some .fn
 | 63=>some .fn
 | 64=>some .fn
 | 65=>some .fn
 | 67=>some .fn
 | 68=>some (.struct 3 [(0,1,false,0),(1,1,false,2),(2,1,false,1)] [.i .i64 0,.sl .mut 2 [],.sl .mut 1 []])
 | 69=>some (.struct 3 [(0,1,false,0),(1,1,false,2),(2,1,false,1)] [.i .i64 0,.sl .mut 2 [],.sl .mut 1 []])
 | 71=>some .fn
 | 72=>some (.struct 4 [(0,1,false,0),(1,3,true,0)] [.i .i64 0,.i .i64 0,.sl .mut 2 [],.sl .mut 1 []])
 | 73=>some (.struct 4 [(0,1,false,0),(1,3,true,0)] [.i .i64 0,.i .i64 0,.sl .mut 2 [],.sl .mut 1 []])
 | 74=>some .fn
 | 75=>some .fn
 | 76=>some .fn
 | 77=>some .fn
 | 78=>some .fn
 | 79=>some (.struct 2 [(0,1,false,0),(1,1,false,0)] [.i .i64 0,.s ⟨#[]⟩])
 | 80=>some (.struct 2 [(0,1,false,0),(1,1,false,0)] [.i .i64 0,.s ⟨#[]⟩])
 | 81=>some .fn
 | 82=>some .fn
 | 83=>some .fn
 | 84=>some (.struct 3 [(0,1,false,0),(1,1,false,0),(2,1,false,0)] [.i .i64 0,.i .i64 0,.i .i64 0])
 | 85=>some (.struct 3 [(0,1,false,0),(1,1,false,0),(2,1,false,0)] [.i .i64 0,.i .i64 0,.i .i64 0])
 | 86=>some (.struct 5 [(0,1,false,0),(1,1,false,0),(2,1,false,0),(3,1,false,0),(4,1,false,0)] [.i .i64 0,.i .i64 0,.i .i64 0,.i .i64 0,.i .i64 0])
 | 87=>some (.struct 5 [(0,1,false,0),(1,1,false,0),(2,1,false,0),(3,1,false,0),(4,1,false,0)] [.i .i64 0,.i .i64 0,.i .i64 0,.i .i64 0,.i .i64 0])
 | 88=>some (.struct 17 [(0,1,false,0),(1,1,false,0),(2,1,false,0),(3,1,false,0),(4,1,false,0),(5,1,false,0),(6,1,false,0),(7,1,false,0),(8,1,false,1),(9,3,true,0),(12,5,true,0)] [.i .i64 0,.i .i64 0,.i .i64 0,.i .i64 0,.i .i64 0,.i .i64 0,.i .i64 0,.i .i64 0,.sl .mut 1 [],.i .i64 0,.i .i64 0,.i .i64 0,.i .i64 0,.i .i64 0,.i .i64 0,.i .i64 0,.i .i64 0])
 | 89=>some (.struct 17 [(0,1,false,0),(1,1,false,0),(2,1,false,0),(3,1,false,0),(4,1,false,0),(5,1,false,0),(6,1,false,0),(7,1,false,0),(8,1,false,1),(9,3,true,0),(12,5,true,0)] [.i .i64 0,.i .i64 0,.i .i64 0,.i .i64 0,.i .i64 0,.i .i64 0,.i .i64 0,.i .i64 0,.sl .mut 1 [],.i .i64 0,.i .i64 0,.i .i64 0,.i .i64 0,.i .i64 0,.i .i64 0,.i .i64 0,.i .i64 0])
 | 90=>some .fn
 | 91=>some (.slice 13 152 [.s ⟨#[]⟩,.i .i64 0,.sl .mut 2 [],.sl .mut 1 [],.i .i64 0,.i .i64 0,.i .i64 0,.i .i64 0,.i .i64 0,.b false,.b false,.sl .mut 1 [],.i .i64 0])
 | 92=>some (.struct 4 [(0,1,false,0),(1,1,false,0),(2,1,false,13),(3,1,false,13)] [.i .i64 0,.i .i64 0,.sl .mut 13 [],.sl .mut 13 []])
 | 93=>some (.struct 4 [(0,1,false,0),(1,1,false,0),(2,1,false,13),(3,1,false,13)] [.i .i64 0,.i .i64 0,.sl .mut 13 [],.sl .mut 13 []])
 | 94=>some (.slice 7 96 [.s ⟨#[]⟩,.i .i64 0,.sl .mut 2 [],.i .i64 0,.i .i64 0,.i .i64 0,.sl .mut 2 []])
 | 95=>some (.struct 25 [(0,17,true,0),(17,1,false,0),(18,1,false,0),(19,4,true,0),(23,1,false,7),(24,1,false,11)] [.i .i64 0,.i .i64 0,.i .i64 0,.i .i64 0,.i .i64 0,.i .i64 0,.i .i64 0,.i .i64 0,.sl .mut 1 [],.i .i64 0,.i .i64 0,.i .i64 0,.i .i64 0,.i .i64 0,.i .i64 0,.i .i64 0,.i .i64 0,.i .i64 0,.i .i64 0,.i .i64 0,.i .i64 0,.sl .mut 13 [],.sl .mut 13 [],.sl .mut 7 [],.sl .mut 11 []])
 | 96=>some (.struct 25 [(0,17,true,0),(17,1,false,0),(18,1,false,0),(19,4,true,0),(23,1,false,7),(24,1,false,11)] [.i .i64 0,.i .i64 0,.i .i64 0,.i .i64 0,.i .i64 0,.i .i64 0,.i .i64 0,.i .i64 0,.sl .mut 1 [],.i .i64 0,.i .i64 0,.i .i64 0,.i .i64 0,.i .i64 0,.i .i64 0,.i .i64 0,.i .i64 0,.i .i64 0,.i .i64 0,.i .i64 0,.i .i64 0,.sl .mut 13 [],.sl .mut 13 [],.sl .mut 7 [],.sl .mut 11 []])
 | 97=>some (.struct 26 [(0,1,false,0),(1,25,true,0)] [.i .i64 0,.i .i64 0,.i .i64 0,.i .i64 0,.i .i64 0,.i .i64 0,.i .i64 0,.i .i64 0,.i .i64 0,.sl .mut 1 [],.i .i64 0,.i .i64 0,.i .i64 0,.i .i64 0,.i .i64 0,.i .i64 0,.i .i64 0,.i .i64 0,.i .i64 0,.i .i64 0,.i .i64 0,.i .i64 0,.sl .mut 13 [],.sl .mut 13 [],.sl .mut 7 [],.sl .mut 11 []])
 | 98=>some (.struct 26 [(0,1,false,0),(1,25,true,0)] [.i .i64 0,.i .i64 0,.i .i64 0,.i .i64 0,.i .i64 0,.i .i64 0,.i .i64 0,.i .i64 0,.i .i64 0,.sl .mut 1 [],.i .i64 0,.i .i64 0,.i .i64 0,.i .i64 0,.i .i64 0,.i .i64 0,.i .i64 0,.i .i64 0,.i .i64 0,.i .i64 0,.i .i64 0,.i .i64 0,.sl .mut 13 [],.sl .mut 13 [],.sl .mut 7 [],.sl .mut 11 []])
 | 99=>some .fn
 | 101=>some .fn
 | 102=>some (.struct 5 [(0,1,false,0),(1,4,true,0)] [.i .i64 0,.i .i64 0,.i .i64 0,.sl .mut 13 [],.sl .mut 13 []])
 | 103=>some (.struct 5 [(0,1,false,0),(1,4,true,0)] [.i .i64 0,.i .i64 0,.i .i64 0,.sl .mut 13 [],.sl .mut 13 []])
 | 104=>some .fn
 | 105=>some .fn
 | 106=>some .fn
 | 107=>some .fn
 | 108=>some .fn
 | 109=>some .fn
 | 110=>some .fn
 | 111=>some .fn
 | 112=>some .fn
 | 113=>some .fn
 | 114=>some .fn
 | 115=>some (.struct 12 [(0,1,false,0),(1,1,false,0),(2,1,false,0),(3,4,true,0),(7,3,true,0),(10,1,false,0),(11,1,false,0)] [.i .i64 0,.i .i64 0,.i .i64 0,.s ⟨#[]⟩,.s ⟨#[]⟩,.s ⟨#[]⟩,.sl .mut 2 [],.i .i64 0,.sl .mut 2 [],.sl .mut 1 [],.s ⟨#[]⟩,.b false])
 | 116=>some (.struct 12 [(0,1,false,0),(1,1,false,0),(2,1,false,0),(3,4,true,0),(7,3,true,0),(10,1,false,0),(11,1,false,0)] [.i .i64 0,.i .i64 0,.i .i64 0,.s ⟨#[]⟩,.s ⟨#[]⟩,.s ⟨#[]⟩,.sl .mut 2 [],.i .i64 0,.sl .mut 2 [],.sl .mut 1 [],.s ⟨#[]⟩,.b false])
 | 117=>some (.struct 13 [(0,1,false,0),(1,12,true,0)] [.i .i64 0,.i .i64 0,.i .i64 0,.i .i64 0,.s ⟨#[]⟩,.s ⟨#[]⟩,.s ⟨#[]⟩,.sl .mut 2 [],.i .i64 0,.sl .mut 2 [],.sl .mut 1 [],.s ⟨#[]⟩,.b false])
 | 118=>some (.struct 13 [(0,1,false,0),(1,12,true,0)] [.i .i64 0,.i .i64 0,.i .i64 0,.i .i64 0,.s ⟨#[]⟩,.s ⟨#[]⟩,.s ⟨#[]⟩,.sl .mut 2 [],.i .i64 0,.sl .mut 2 [],.sl .mut 1 [],.s ⟨#[]⟩,.b false])
 | 119=>some .fn
 | 120=>some .fn
 | 121=>some .fn
 | 122=>some .fn
 | 123=>some .ptr
 | 124=>some .fn
 | 125=>some .fn
 | 126=>some .fn
 | 127=>some .fn
 | 128=>some .fn
 | 129=>some .fn
 | 130=>some .fn
 | 132=>some .fn
 | 133=>some .fn
 | 134=>some .fn
 | 135=>some .fn
 | 136=>some .fn
 | 137=>some .fn
 | 138=>some .fn
 | 139=>some .fn
 | 140=>some .fn
 | 141=>some .fn
 | 142=>some .ptr
 | 143=>some .ptr
 | 144=>some .fn
 | 145=>some .fn
 | 146=>some .fn
 | 147=>some .fn
 | 148=>some .fn
 | 149=>some .fn
 | 150=>some .fn
 | 151=>some .fn
 | 152=>some .fn
 | 153=>some .fn
 | 155=>some (.struct 2 [(0,1,false,0),(1,1,false,0)] [.s ⟨#[]⟩,.s ⟨#[]⟩])
 | 156=>some (.struct 2 [(0,1,false,0),(1,1,false,0)] [.s ⟨#[]⟩,.s ⟨#[]⟩])
 | 157=>some .fn
 | 158=>some .fn
 | 159=>some .fn
 | 160=>some .fn
 | 161=>some .fn
 | 162=>some .fn
 | 163=>some .fn
 | 164=>some .fn
 | 165=>some .fn
 | 166=>some .fn
 | 167=>some .fn
 | 169=>some .fn
 | 170=>some .fn
 | 171=>some .fn
 | 172=>some .fn
 | 173=>some .fn
 | 174=>some .fn
 | 175=>some .fn
 | 176=>some .fn
 | 178=>some .fn
 | 179=>some .fn
 | 180=>some (.slice 2 16 [.i .i64 0,.i .i64 0])
 | 181=>some (.struct 2 [(0,1,false,0),(1,1,false,2)] [.i .i64 0,.sl .mut 2 []])
 | 182=>some (.struct 2 [(0,1,false,0),(1,1,false,2)] [.i .i64 0,.sl .mut 2 []])
 | 183=>some (.slice 2 16 [.i .i64 0,.b false])
 | 184=>some (.struct 4 [(0,1,false,0),(1,1,false,0),(2,1,false,0),(3,1,false,2)] [.i .i64 0,.i .i64 0,.i .i64 0,.sl .mut 2 []])
 | 185=>some (.struct 4 [(0,1,false,0),(1,1,false,0),(2,1,false,0),(3,1,false,2)] [.i .i64 0,.i .i64 0,.i .i64 0,.sl .mut 2 []])
 | 186=>some (.struct 7 [(0,1,false,0),(1,2,true,0),(3,4,true,0)] [.s ⟨#[]⟩,.i .i64 0,.sl .mut 2 [],.i .i64 0,.i .i64 0,.i .i64 0,.sl .mut 2 []])
 | 187=>some (.struct 7 [(0,1,false,0),(1,2,true,0),(3,4,true,0)] [.s ⟨#[]⟩,.i .i64 0,.sl .mut 2 [],.i .i64 0,.i .i64 0,.i .i64 0,.sl .mut 2 []])
 | 188=>some .fn
 | 189=>some .fn
 | 190=>some .fn
 | 192=>some .fn
 | 193=>some .fn
 | 194=>some .fn
 | 195=>some .fn
 | 196=>some .fn
 | 197=>some .fn
 | 198=>some .ptr
 | 199=>some .fn
 | 200=>some .ptr
 | 201=>some .fn
 | 202=>some .fn
 | 203=>some .fn
 | 204=>some .fn
 | 205=>some .fn
 | 206=>some .fn
 | 208=>some .fn
 | 209=>some .fn
 | 210=>some .fn
 | 211=>some .fn
 | 212=>some .fn
 | 213=>some (.struct 2 [(0,1,false,1),(1,1,false,0)] [.sl .mut 1 [],.i .i64 0])
 | 214=>some (.struct 2 [(0,1,false,1),(1,1,false,0)] [.sl .mut 1 [],.i .i64 0])
 | 215=>some .fn
 | 216=>some (.struct 4 [(0,1,false,0),(1,1,false,0),(2,1,false,0),(3,1,false,0)] [.i .i64 0,.b false,.i .i64 0,.b false])
 | 217=>some (.struct 4 [(0,1,false,0),(1,1,false,0),(2,1,false,0),(3,1,false,0)] [.i .i64 0,.b false,.i .i64 0,.b false])
 | 218=>some .fn
 | 219=>some .fn
 | 220=>some (.slice 1 8 [.i .i64 0])
 | 221=>some .fn
 | 222=>some .fn
 | 223=>some .fn
 | 224=>some .fn
 | 225=>some (.struct 2 [(0,1,false,0),(1,1,false,0)] [.s ⟨#[]⟩,.s ⟨#[]⟩])
 | 226=>some .fn
 | 227=>some .fn
 | 228=>some .fn
 | 229=>some .fn
 | 230=>some .fn
 | 231=>some .fn
 | 232=>some .fn
 | 233=>some .fn
 | 234=>some .fn
 | 235=>some .fn
 | 236=>some .fn
 | 237=>some .fn
 | 238=>some .fn
 | 240=>some .fn
 | 241=>some .fn
 | 242=>some .fn
 | 243=>some .fn
 | 244=>some .fn
 | 245=>some .fn
 | 246=>some .fn
 | 247=>some .fn
 | 248=>some .fn
 | 249=>some .fn
 | 250=>some .fn
 | 251=>some .fn
 | 252=>some .fn
 | 253=>some (.slice 1 8 [.u])
 | 254=>some .fn
 | 255=>some .fn
 | 256=>some .ptr
 | 257=>some .fn
 | 258=>some (.struct 2 [(0,1,false,0),(1,1,false,0)] [.i .i64 0,.b false])
 | 259=>some (.struct 2 [(0,1,false,0),(1,1,false,0)] [.i .i64 0,.b false])
 | 260=>some .fn
 | 261=>some .fn
 | 262=>some .fn
 | 263=>some .fn
 | 264=>some .fn
 | 265=>some .fn
 | 266=>some .fn
 | 267=>some .fn
 | 268=>some .fn
 | 269=>some .fn
 | 270=>some .fn
 | 271=>some .fn
 | 272=>some .fn
 | 273=>some .fn
 | 274=>some .fn
 | 275=>some .fn
 | 276=>some .fn
 | 278=>some .fn
 | 279=>some .fn
 | 280=>some .fn
 | 281=>some .fn
 | 282=>some .ptr
 | 284=>some .fn
 | 285=>some .fn
 | 286=>some .fn
 | 288=>some .fn
 | 289=>some (.array 5 1 false [.i .i64 0,.i .i64 0,.i .i64 0,.i .i64 0,.i .i64 0])
 | 290=>some .fn
 | 291=>some .fn
 | 292=>some .fn
 | 293=>some .fn
 | 294=>some .fn
 | 295=>some .fn
 | 296=>some .ptr
 | 297=>some (.struct 2 [(0,1,false,0),(1,1,false,1)] [.pn,.sl .mut 1 []])
 | 298=>some (.struct 2 [(0,1,false,0),(1,1,false,1)] [.pn,.sl .mut 1 []])
 | 299=>some .fn
 | 303=>some .fn
 | 305=>some .fn
 | 306=>some .fn
 | 307=>some .fn
 | 308=>some .fn
 | 309=>some .fn
 | 310=>some .fn
 | 312=>some .fn
 | 313=>some .fn
 | 314=>some .fn
 | 315=>some .fn
 | 316=>some .fn
 | 317=>some (.struct 2 [(0,1,false,0),(1,1,false,0)] [.i .i64 0,.i .i64 0])
 | 318=>some (.struct 2 [(0,1,false,0),(1,1,false,0)] [.i .i64 0,.i .i64 0])
 | 319=>some .fn
 | 320=>some .fn
 | 321=>some .fn
 | 322=>some .fn
 | 323=>some .fn
 | 324=>some .fn
 | 325=>some .fn
 | 326=>some .fn
 | 327=>some .fn
 | 328=>some .fn
 | 329=>some .fn
 | 330=>some .fn
 | 331=>some .fn
 | 332=>some .fn
 | 333=>some .fn
 | 337=>some .fn
 | 338=>some .fn
 | 339=>some .ptr
 | 340=>some .ptr
 | 341=>some .fn
 | 342=>some .fn
 | 343=>some .fn
 | 344=>some (.slice 1 24 [.sl .mut 13 []])
 | 345=>some .fn
 | 347=>some (.int .u64)
 | 348=>some .fn
 | 349=>some .fn
 | 351=>some .fn
 | 353=>some .fn
 | 354=>some .fn
 | 355=>some .fn
 | 356=>some .fn
 | 357=>some .fn
 | 358=>some .fn
 | 360=>some .fn
 | 361=>some .fn
 | 364=>some .fn
 | 365=>some .fn
 | 366=>some .fn
 | 367=>some .fn
 | 369=>some (.int .u32)
 | 371=>some .fn
 | 372=>some (.int .u64)
 | 373=>some .fn
 | 374=>some .fn
 | 375=>some .fn
 | 377=>some (.struct 2 [(0,1,false,0),(1,1,false,0)] [.i .u8 0,.i .u8 0])
 | 378=>some (.struct 2 [(0,1,false,0),(1,1,false,0)] [.i .u8 0,.i .u8 0])
 | 379=>some (.array 16 2 true [.i .u8 0,.i .u8 0,.i .u8 0,.i .u8 0,.i .u8 0,.i .u8 0,.i .u8 0,.i .u8 0,.i .u8 0,.i .u8 0,.i .u8 0,.i .u8 0,.i .u8 0,.i .u8 0,.i .u8 0,.i .u8 0,.i .u8 0,.i .u8 0,.i .u8 0,.i .u8 0,.i .u8 0,.i .u8 0,.i .u8 0,.i .u8 0,.i .u8 0,.i .u8 0,.i .u8 0,.i .u8 0,.i .u8 0,.i .u8 0,.i .u8 0,.i .u8 0])
 | 380=>some .fn
 | 384=>some .fn
 | 390=>some .fn
 | _=>none
@[go_sem] theorem T1 : T 1 = some .fn:=nr rfl
@[go_sem] theorem T2 : T 2 = some (.int .i64):=nr rfl
@[go_sem] theorem T3 : T 3 = some (.int .i64):=nr rfl
@[go_sem] theorem T4 : T 4 = some .bool:=nr rfl
@[go_sem] theorem T5 : T 5 = some (.int .u8):=nr rfl
@[go_sem] theorem T9 : T 9 = some .str:=nr rfl
@[go_sem] theorem T21 : T 21 = some (.int .i32):=nr rfl
@[go_sem] theorem T22 : T 22 = some (.slice 1 1 [.i .u8 0]):=nr rfl
@[go_sem] theorem T23 : T 23 = some .fn:=nr rfl
@[go_sem] theorem T24 : T 24 = some (.slice 11 144 [.i .i64 0,.s ⟨#[]⟩,.b false,.b false,.i .i64 0,.b false,.s ⟨#[]⟩,.s ⟨#[]⟩,.s ⟨#[]⟩,.sl .mut 2 [],.sl .mut 4 []]):=nr rfl
@[go_sem] theorem T26 : T 26 = some .fn:=nr rfl
@[go_sem] theorem T27 : T 27 = some (.struct 2 [(0,1,false,0),(1,1,false,0)] [.i .i64 0,.i .i64 0]):=nr rfl
@[go_sem] theorem T28 : T 28 = some (.struct 2 [(0,1,false,0),(1,1,false,0)] [.i .i64 0,.i .i64 0]):=nr rfl
@[go_sem] theorem T29 : T 29 = some .fn:=nr rfl
@[go_sem] theorem T31 : T 31 = some .fn:=nr rfl
@[go_sem] theorem T32 : T 32 = some .fn:=nr rfl
@[go_sem] theorem T33 : T 33 = some .fn:=nr rfl
@[go_sem] theorem T34 : T 34 = some (.slice 2 32 [.s ⟨#[]⟩,.s ⟨#[]⟩]):=nr rfl
@[go_sem] theorem T35 : T 35 = some (.struct 4 [(0,1,false,0),(1,1,false,0),(2,1,false,0),(3,1,false,2)] [.s ⟨#[]⟩,.s ⟨#[]⟩,.s ⟨#[]⟩,.sl .mut 2 []]):=nr rfl
@[go_sem] theorem T36 : T 36 = some (.struct 4 [(0,1,false,0),(1,1,false,0),(2,1,false,0),(3,1,false,2)] [.s ⟨#[]⟩,.s ⟨#[]⟩,.s ⟨#[]⟩,.sl .mut 2 []]):=nr rfl
@[go_sem] theorem T37 : T 37 = some (.slice 4 32 [.i .i64 0,.b false,.i .i64 0,.b false]):=nr rfl
@[go_sem] theorem T38 : T 38 = some (.struct 11 [(0,1,false,0),(1,1,false,0),(2,1,false,0),(3,1,false,0),(4,1,false,0),(5,1,false,0),(6,4,true,0),(10,1,false,4)] [.i .i64 0,.s ⟨#[]⟩,.b false,.b false,.i .i64 0,.b false,.s ⟨#[]⟩,.s ⟨#[]⟩,.s ⟨#[]⟩,.sl .mut 2 [],.sl .mut 4 []]):=nr rfl
@[go_sem] theorem T39 : T 39 = some (.struct 11 [(0,1,false,0),(1,1,false,0),(2,1,false,0),(3,1,false,0),(4,1,false,0),(5,1,false,0),(6,4,true,0),(10,1,false,4)] [.i .i64 0,.s ⟨#[]⟩,.b false,.b false,.i .i64 0,.b false,.s ⟨#[]⟩,.s ⟨#[]⟩,.s ⟨#[]⟩,.sl .mut 2 [],.sl .mut 4 []]):=nr rfl
@[go_sem] theorem T40 : T 40 = some .fn:=nr rfl
@[go_sem] theorem T41 : T 41 = some (.slice 2 32 [.s ⟨#[]⟩,.s ⟨#[]⟩]):=nr rfl
@[go_sem] theorem T42 : T 42 = some (.struct 4 [(0,1,false,0),(1,1,false,0),(2,1,false,0),(3,1,false,2)] [.s ⟨#[]⟩,.s ⟨#[]⟩,.s ⟨#[]⟩,.sl .mut 2 []]):=nr rfl
@[go_sem] theorem T43 : T 43 = some (.struct 4 [(0,1,false,0),(1,1,false,0),(2,1,false,0),(3,1,false,2)] [.s ⟨#[]⟩,.s ⟨#[]⟩,.s ⟨#[]⟩,.sl .mut 2 []]):=nr rfl
@[go_sem] theorem T44 : T 44 = some (.struct 7 [(0,1,false,0),(1,1,false,0),(2,1,false,0),(3,1,false,0),(4,1,false,0),(5,1,false,0),(6,1,false,0)] [.i .i64 0,.i .i64 0,.i .i64 0,.i .i64 0,.i .i64 0,.b false,.b false]):=nr rfl
@[go_sem] theorem T45 : T 45 = some (.struct 7 [(0,1,false,0),(1,1,false,0),(2,1,false,0),(3,1,false,0),(4,1,false,0),(5,1,false,0),(6,1,false,0)] [.i .i64 0,.i .i64 0,.i .i64 0,.i .i64 0,.i .i64 0,.b false,.b false]):=nr rfl
@[go_sem] theorem T46 : T 46 = some (.slice 1 16 [.s ⟨#[]⟩]):=nr rfl
@[go_sem] theorem T47 : T 47 = some (.struct 13 [(0,1,false,0),(1,1,false,0),(2,1,false,2),(3,1,false,1),(4,7,true,0),(11,1,false,1),(12,1,false,0)] [.s ⟨#[]⟩,.i .i64 0,.sl .mut 2 [],.sl .mut 1 [],.i .i64 0,.i .i64 0,.i .i64 0,.i .i64 0,.i .i64 0,.b false,.b false,.sl .mut 1 [],.i .i64 0]):=nr rfl
@[go_sem] theorem T48 : T 48 = some (.struct 13 [(0,1,false,0),(1,1,false,0),(2,1,false,2),(3,1,false,1),(4,7,true,0),(11,1,false,1),(12,1,false,0)] [.s ⟨#[]⟩,.i .i64 0,.sl .mut 2 [],.sl .mut 1 [],.i .i64 0,.i .i64 0,.i .i64 0,.i .i64 0,.i .i64 0,.b false,.b false,.sl .mut 1 [],.i .i64 0]):=nr rfl
@[go_sem] theorem T49 : T 49 = some .fn:=nr rfl
@[go_sem] theorem T50 : T 50 = some .fn:=nr rfl
@[go_sem] theorem T51 : T 51 = some (.struct 5 [(0,1,false,0),(1,4,true,0)] [.i .i64 0,.s ⟨#[]⟩,.s ⟨#[]⟩,.s ⟨#[]⟩,.sl .mut 2 []]):=nr rfl
@[go_sem] theorem T52 : T 52 = some (.struct 5 [(0,1,false,0),(1,4,true,0)] [.i .i64 0,.s ⟨#[]⟩,.s ⟨#[]⟩,.s ⟨#[]⟩,.sl .mut 2 []]):=nr rfl
@[go_sem] theorem T53 : T 53 = some .fn:=nr rfl
@[go_sem] theorem T54 : T 54 = some .fn:=nr rfl
@[go_sem] theorem T55 : T 55 = some (.struct 7 [(0,1,false,0),(1,1,false,0),(2,1,false,0),(3,1,false,0),(4,1,false,0),(5,1,false,0),(6,1,false,0)] [.i .i64 0,.i .i64 0,.i .i64 0,.i .i64 0,.i .i64 0,.b false,.b false]):=nr rfl
@[go_sem] theorem T56 : T 56 = some (.struct 13 [(0,1,false,0),(1,1,false,0),(2,1,false,2),(3,1,false,1),(4,7,true,0),(11,1,false,1),(12,1,false,0)] [.s ⟨#[]⟩,.i .i64 0,.sl .mut 2 [],.sl .mut 1 [],.i .i64 0,.i .i64 0,.i .i64 0,.i .i64 0,.i .i64 0,.b false,.b false,.sl .mut 1 [],.i .i64 0]):=nr rfl
@[go_sem] theorem T57 : T 57 = some (.struct 13 [(0,1,false,0),(1,1,false,0),(2,1,false,2),(3,1,false,1),(4,7,true,0),(11,1,false,1),(12,1,false,0)] [.s ⟨#[]⟩,.i .i64 0,.sl .mut 2 [],.sl .mut 1 [],.i .i64 0,.i .i64 0,.i .i64 0,.i .i64 0,.i .i64 0,.b false,.b false,.sl .mut 1 [],.i .i64 0]):=nr rfl
@[go_sem] theorem T58 : T 58 = some .fn:=nr rfl
@[go_sem] theorem T59 : T 59 = some .fn:=nr rfl
@[go_sem] theorem T60 : T 60 = some .fn:=nr rfl
@[go_sem] theorem T61 : T 61 = some .fn:=nr rfl
@[go_sem] theorem T62 : T 62 = some .fn:=nr rfl
@[go_sem] theorem T63 : T 63 = some .fn:=nr rfl
@[go_sem] theorem T64 : T 64 = some .fn:=nr rfl
@[go_sem] theorem T65 : T 65 = some .fn:=nr rfl
@[go_sem] theorem T67 : T 67 = some .fn:=nr rfl
@[go_sem] theorem T68 : T 68 = some (.struct 3 [(0,1,false,0),(1,1,false,2),(2,1,false,1)] [.i .i64 0,.sl .mut 2 [],.sl .mut 1 []]):=nr rfl
@[go_sem] theorem T69 : T 69 = some (.struct 3 [(0,1,false,0),(1,1,false,2),(2,1,false,1)] [.i .i64 0,.sl .mut 2 [],.sl .mut 1 []]):=nr rfl
@[go_sem] theorem T71 : T 71 = some .fn:=nr rfl
@[go_sem] theorem T72 : T 72 = some (.struct 4 [(0,1,false,0),(1,3,true,0)] [.i .i64 0,.i .i64 0,.sl .mut 2 [],.sl .mut 1 []]):=nr rfl
@[go_sem] theorem T73 : T 73 = some (.struct 4 [(0,1,false,0),(1,3,true,0)] [.i .i64 0,.i .i64 0,.sl .mut 2 [],.sl .mut 1 []]):=nr rfl
@[go_sem] theorem T74 : T 74 = some .fn:=nr rfl
@[go_sem] theorem T75 : T 75 = some .fn:=nr rfl
@[go_sem] theorem T76 : T 76 = some .fn:=nr rfl
@[go_sem] theorem T77 : T 77 = some .fn:=nr rfl
@[go_sem] theorem T78 : T 78 = some .fn:=nr rfl
@[go_sem] theorem T79 : T 79 = some (.struct 2 [(0,1,false,0),(1,1,false,0)] [.i .i64 0,.s ⟨#[]⟩]):=nr rfl
@[go_sem] theorem T80 : T 80 = some (.struct 2 [(0,1,false,0),(1,1,false,0)] [.i .i64 0,.s ⟨#[]⟩]):=nr rfl
@[go_sem] theorem T81 : T 81 = some .fn:=nr rfl
@[go_sem] theorem T82 : T 82 = some .fn:=nr rfl
@[go_sem] theorem T83 : T 83 = some .fn:=nr rfl
@[go_sem] theorem T84 : T 84 = some (.struct 3 [(0,1,false,0),(1,1,false,0),(2,1,false,0)] [.i .i64 0,.i .i64 0,.i .i64 0]):=nr rfl
@[go_sem] theorem T85 : T 85 = some (.struct 3 [(0,1,false,0),(1,1,false,0),(2,1,false,0)] [.i .i64 0,.i .i64 0,.i .i64 0]):=nr rfl
@[go_sem] theorem T86 : T 86 = some (.struct 5 [(0,1,false,0),(1,1,false,0),(2,1,false,0),(3,1,false,0),(4,1,false,0)] [.i .i64 0,.i .i64 0,.i .i64 0,.i .i64 0,.i .i64 0]):=nr rfl
@[go_sem] theorem T87 : T 87 = some (.struct 5 [(0,1,false,0),(1,1,false,0),(2,1,false,0),(3,1,false,0),(4,1,false,0)] [.i .i64 0,.i .i64 0,.i .i64 0,.i .i64 0,.i .i64 0]):=nr rfl
@[go_sem] theorem T88 : T 88 = some (.struct 17 [(0,1,false,0),(1,1,false,0),(2,1,false,0),(3,1,false,0),(4,1,false,0),(5,1,false,0),(6,1,false,0),(7,1,false,0),(8,1,false,1),(9,3,true,0),(12,5,true,0)] [.i .i64 0,.i .i64 0,.i .i64 0,.i .i64 0,.i .i64 0,.i .i64 0,.i .i64 0,.i .i64 0,.sl .mut 1 [],.i .i64 0,.i .i64 0,.i .i64 0,.i .i64 0,.i .i64 0,.i .i64 0,.i .i64 0,.i .i64 0]):=nr rfl
@[go_sem] theorem T89 : T 89 = some (.struct 17 [(0,1,false,0),(1,1,false,0),(2,1,false,0),(3,1,false,0),(4,1,false,0),(5,1,false,0),(6,1,false,0),(7,1,false,0),(8,1,false,1),(9,3,true,0),(12,5,true,0)] [.i .i64 0,.i .i64 0,.i .i64 0,.i .i64 0,.i .i64 0,.i .i64 0,.i .i64 0,.i .i64 0,.sl .mut 1 [],.i .i64 0,.i .i64 0,.i .i64 0,.i .i64 0,.i .i64 0,.i .i64 0,.i .i64 0,.i .i64 0]):=nr rfl
@[go_sem] theorem T90 : T 90 = some .fn:=nr rfl
@[go_sem] theorem T91 : T 91 = some (.slice 13 152 [.s ⟨#[]⟩,.i .i64 0,.sl .mut 2 [],.sl .mut 1 [],.i .i64 0,.i .i64 0,.i .i64 0,.i .i64 0,.i .i64 0,.b false,.b false,.sl .mut 1 [],.i .i64 0]):=nr rfl
@[go_sem] theorem T92 : T 92 = some (.struct 4 [(0,1,false,0),(1,1,false,0),(2,1,false,13),(3,1,false,13)] [.i .i64 0,.i .i64 0,.sl .mut 13 [],.sl .mut 13 []]):=nr rfl
@[go_sem] theorem T93 : T 93 = some (.struct 4 [(0,1,false,0),(1,1,false,0),(2,1,false,13),(3,1,false,13)] [.i .i64 0,.i .i64 0,.sl .mut 13 [],.sl .mut 13 []]):=nr rfl
@[go_sem] theorem T94 : T 94 = some (.slice 7 96 [.s ⟨#[]⟩,.i .i64 0,.sl .mut 2 [],.i .i64 0,.i .i64 0,.i .i64 0,.sl .mut 2 []]):=nr rfl
@[go_sem] theorem T95 : T 95 = some (.struct 25 [(0,17,true,0),(17,1,false,0),(18,1,false,0),(19,4,true,0),(23,1,false,7),(24,1,false,11)] [.i .i64 0,.i .i64 0,.i .i64 0,.i .i64 0,.i .i64 0,.i .i64 0,.i .i64 0,.i .i64 0,.sl .mut 1 [],.i .i64 0,.i .i64 0,.i .i64 0,.i .i64 0,.i .i64 0,.i .i64 0,.i .i64 0,.i .i64 0,.i .i64 0,.i .i64 0,.i .i64 0,.i .i64 0,.sl .mut 13 [],.sl .mut 13 [],.sl .mut 7 [],.sl .mut 11 []]):=nr rfl
@[go_sem] theorem T96 : T 96 = some (.struct 25 [(0,17,true,0),(17,1,false,0),(18,1,false,0),(19,4,true,0),(23,1,false,7),(24,1,false,11)] [.i .i64 0,.i .i64 0,.i .i64 0,.i .i64 0,.i .i64 0,.i .i64 0,.i .i64 0,.i .i64 0,.sl .mut 1 [],.i .i64 0,.i .i64 0,.i .i64 0,.i .i64 0,.i .i64 0,.i .i64 0,.i .i64 0,.i .i64 0,.i .i64 0,.i .i64 0,.i .i64 0,.i .i64 0,.sl .mut 13 [],.sl .mut 13 [],.sl .mut 7 [],.sl .mut 11 []]):=nr rfl
@[go_sem] theorem T97 : T 97 = some (.struct 26 [(0,1,false,0),(1,25,true,0)] [.i .i64 0,.i .i64 0,.i .i64 0,.i .i64 0,.i .i64 0,.i .i64 0,.i .i64 0,.i .i64 0,.i .i64 0,.sl .mut 1 [],.i .i64 0,.i .i64 0,.i .i64 0,.i .i64 0,.i .i64 0,.i .i64 0,.i .i64 0,.i .i64 0,.i .i64 0,.i .i64 0,.i .i64 0,.i .i64 0,.sl .mut 13 [],.sl .mut 13 [],.sl .mut 7 [],.sl .mut 11 []]):=nr rfl
@[go_sem] theorem T98 : T 98 = some (.struct 26 [(0,1,false,0),(1,25,true,0)] [.i .i64 0,.i .i64 0,.i .i64 0,.i .i64 0,.i .i64 0,.i .i64 0,.i .i64 0,.i .i64 0,.i .i64 0,.sl .mut 1 [],.i .i64 0,.i .i64 0,.i .i64 0,.i .i64 0,.i .i64 0,.i .i64 0,.i .i64 0,.i .i64 0,.i .i64 0,.i .i64 0,.i .i64 0,.i .i64 0,.sl .mut 13 [],.sl .mut 13 [],.sl .mut 7 [],.sl .mut 11 []]):=nr rfl
@[go_sem] theorem T99 : T 99 = some .fn:=nr rfl
@[go_sem] theorem T101 : T 101 = some .fn:=nr rfl
@[go_sem] theorem T102 : T 102 = some (.struct 5 [(0,1,false,0),(1,4,true,0)] [.i .i64 0,.i .i64 0,.i .i64 0,.sl .mut 13 [],.sl .mut 13 []]):=nr rfl
@[go_sem] theorem T103 : T 103 = some (.struct 5 [(0,1,false,0),(1,4,true,0)] [.i .i64 0,.i .i64 0,.i .i64 0,.sl .mut 13 [],.sl .mut 13 []]):=nr rfl
@[go_sem] theorem T104 : T 104 = some .fn:=nr rfl
@[go_sem] theorem T105 : T 105 = some .fn:=nr rfl
@[go_sem] theorem T106 : T 106 = some .fn:=nr rfl
@[go_sem] theorem T107 : T 107 = some .fn:=nr rfl
@[go_sem] theorem T108 : T 108 = some .fn:=nr rfl
@[go_sem] theorem T109 : T 109 = some .fn:=nr rfl
@[go_sem] theorem T110 : T 110 = some .fn:=nr rfl
@[go_sem] theorem T111 : T 111 = some .fn:=nr rfl
@[go_sem] theorem T112 : T 112 = some .fn:=nr rfl
@[go_sem] theorem T113 : T 113 = some .fn:=nr rfl
@[go_sem] theorem T114 : T 114 = some .fn:=nr rfl
@[go_sem] theorem T115 : T 115 = some (.struct 12 [(0,1,false,0),(1,1,false,0),(2,1,false,0),(3,4,true,0),(7,3,true,0),(10,1,false,0),(11,1,false,0)] [.i .i64 0,.i .i64 0,.i .i64 0,.s ⟨#[]⟩,.s ⟨#[]⟩,.s ⟨#[]⟩,.sl .mut 2 [],.i .i64 0,.sl .mut 2 [],.sl .mut 1 [],.s ⟨#[]⟩,.b false]):=nr rfl
@[go_sem] theorem T116 : T 116 = some (.struct 12 [(0,1,false,0),(1,1,false,0),(2,1,false,0),(3,4,true,0),(7,3,true,0),(10,1,false,0),(11,1,false,0)] [.i .i64 0,.i .i64 0,.i .i64 0,.s ⟨#[]⟩,.s ⟨#[]⟩,.s ⟨#[]⟩,.sl .mut 2 [],.i .i64 0,.sl .mut 2 [],.sl .mut 1 [],.s ⟨#[]⟩,.b false]):=nr rfl
@[go_sem] theorem T117 : T 117 = some (.struct 13 [(0,1,false,0),(1,12,true,0)] [.i .i64 0,.i .i64 0,.i .i64 0,.i .i64 0,.s ⟨#[]⟩,.s ⟨#[]⟩,.s ⟨#[]⟩,.sl .mut 2 [],.i .i64 0,.sl .mut 2 [],.sl .mut 1 [],.s ⟨#[]⟩,.b false]):=nr rfl
@[go_sem] theorem T118 : T 118 = some (.struct 13 [(0,1,false,0),(1,12,true,0)] [.i .i64 0,.i .i64 0,.i .i64 0,.i .i64 0,.s ⟨#[]⟩,.s ⟨#[]⟩,.s ⟨#[]⟩,.sl .mut 2 [],.i .i64 0,.sl .mut 2 [],.sl .mut 1 [],.s ⟨#[]⟩,.b false]):=nr rfl
@[go_sem] theorem T119 : T 119 = some .fn:=nr rfl
@[go_sem] theorem T120 : T 120 = some .fn:=nr rfl
@[go_sem] theorem T121 : T 121 = some .fn:=nr rfl
@[go_sem] theorem T122 : T 122 = some .fn:=nr rfl
@[go_sem] theorem T123 : T 123 = some .ptr:=nr rfl
@[go_sem] theorem T124 : T 124 = some .fn:=nr rfl
@[go_sem] theorem T125 : T 125 = some .fn:=nr rfl
@[go_sem] theorem T126 : T 126 = some .fn:=nr rfl
@[go_sem] theorem T127 : T 127 = some .fn:=nr rfl
@[go_sem] theorem T128 : T 128 = some .fn:=nr rfl
@[go_sem] theorem T129 : T 129 = some .fn:=nr rfl
@[go_sem] theorem T130 : T 130 = some .fn:=nr rfl
@[go_sem] theorem T132 : T 132 = some .fn:=nr rfl
@[go_sem] theorem T133 : T 133 = some .fn:=nr rfl
@[go_sem] theorem T134 : T 134 = some .fn:=nr rfl
@[go_sem] theorem T135 : T 135 = some .fn:=nr rfl
@[go_sem] theorem T136 : T 136 = some .fn:=nr rfl
@[go_sem] theorem T137 : T 137 = some .fn:=nr rfl
@[go_sem] theorem T138 : T 138 = some .fn:=nr rfl
@[go_sem] theorem T139 : T 139 = some .fn:=nr rfl
@[go_sem] theorem T140 : T 140 = some .fn:=nr rfl
@[go_sem] theorem T141 : T 141 = some .fn:=nr rfl
@[go_sem] theorem T142 : T 142 = some .ptr:=nr rfl
@[go_sem] theorem T143 : T 143 = some .ptr:=nr rfl
@[go_sem] theorem T144 : T 144 = some .fn:=nr rfl
@[go_sem] theorem T145 : T 145 = some .fn:=nr rfl
@[go_sem] theorem T146 : T 146 = some .fn:=nr rfl
@[go_sem] theorem T147 : T 147 = some .fn:=nr rfl
@[go_sem] theorem T148 : T 148 = some .fn:=nr rfl
@[go_sem] theorem T149 : T 149 = some .fn:=nr rfl
@[go_sem] theorem T150 : T 150 = some .fn:=nr rfl
@[go_sem] theorem T151 : T 151 = some .fn:=nr rfl
@[go_sem] theorem T152 : T 152 = some .fn:=nr rfl
@[go_sem] theorem T153 : T 153 = some .fn:=nr rfl
@[go_sem] theorem T155 : T 155 = some (.struct 2 [(0,1,false,0),(1,1,false,0)] [.s ⟨#[]⟩,.s ⟨#[]⟩]):=nr rfl
@[go_sem] theorem T156 : T 156 = some (.struct 2 [(0,1,false,0),(1,1,false,0)] [.s ⟨#[]⟩,.s ⟨#[]⟩]):=nr rfl
@[go_sem] theorem T157 : T 157 = some .fn:=nr rfl
@[go_sem] theorem T158 : T 158 = some .fn:=nr rfl
@[go_sem] theorem T159 : T 159 = some .fn:=nr rfl
@[go_sem] theorem T160 : T 160 = some .fn:=nr rfl
@[go_sem] theorem T161 : T 161 = some .fn:=nr rfl
@[go_sem] theorem T162 : T 162 = some .fn:=nr rfl
@[go_sem] theorem T163 : T 163 = some .fn:=nr rfl
@[go_sem] theorem T164 : T 164 = some .fn:=nr rfl
@[go_sem] theorem T165 : T 165 = some .fn:=nr rfl
@[go_sem] theorem T166 : T 166 = some .fn:=nr rfl
@[go_sem] theorem T167 : T 167 = some .fn:=nr rfl
@[go_sem] theorem T169 : T 169 = some .fn:=nr rfl
@[go_sem] theorem T170 : T 170 = some .fn:=nr rfl
@[go_sem] theorem T171 : T 171 = some .fn:=nr rfl
@[go_sem] theorem T172 : T 172 = some .fn:=nr rfl
@[go_sem] theorem T173 : T 173 = some .fn:=nr rfl
@[go_sem] theorem T174 : T 174 = some .fn:=nr rfl
@[go_sem] theorem T175 : T 175 = some .fn:=nr rfl
@[go_sem] theorem T176 : T 176 = some .fn:=nr rfl
@[go_sem] theorem T178 : T 178 = some .fn:=nr rfl
@[go_sem] theorem T179 : T 179 = some .fn:=nr rfl
@[go_sem] theorem T180 : T 180 = some (.slice 2 16 [.i .i64 0,.i .i64 0]):=nr rfl
@[go_sem] theorem T181 : T 181 = some (.struct 2 [(0,1,false,0),(1,1,false,2)] [.i .i64 0,.sl .mut 2 []]):=nr rfl
@[go_sem] theorem T182 : T 182 = some (.struct 2 [(0,1,false,0),(1,1,false,2)] [.i .i64 0,.sl .mut 2 []]):=nr rfl
@[go_sem] theorem T183 : T 183 = some (.slice 2 16 [.i .i64 0,.b false]):=nr rfl
@[go_sem] theorem T184 : T 184 = some (.struct 4 [(0,1,false,0),(1,1,false,0),(2,1,false,0),(3,1,false,2)] [.i .i64 0,.i .i64 0,.i .i64 0,.sl .mut 2 []]):=nr rfl
@[go_sem] theorem T185 : T 185 = some (.struct 4 [(0,1,false,0),(1,1,false,0),(2,1,false,0),(3,1,false,2)] [.i .i64 0,.i .i64 0,.i .i64 0,.sl .mut 2 []]):=nr rfl
@[go_sem] theorem T186 : T 186 = some (.struct 7 [(0,1,false,0),(1,2,true,0),(3,4,true,0)] [.s ⟨#[]⟩,.i .i64 0,.sl .mut 2 [],.i .i64 0,.i .i64 0,.i .i64 0,.sl .mut 2 []]):=nr rfl
@[go_sem] theorem T187 : T 187 = some (.struct 7 [(0,1,false,0),(1,2,true,0),(3,4,true,0)] [.s ⟨#[]⟩,.i .i64 0,.sl .mut 2 [],.i .i64 0,.i .i64 0,.i .i64 0,.sl .mut 2 []]):=nr rfl
@[go_sem] theorem T188 : T 188 = some .fn:=nr rfl
@[go_sem] theorem T189 : T 189 = some .fn:=nr rfl
@[go_sem] theorem T190 : T 190 = some .fn:=nr rfl
@[go_sem] theorem T192 : T 192 = some .fn:=nr rfl
@[go_sem] theorem T193 : T 193 = some .fn:=nr rfl
@[go_sem] theorem T194 : T 194 = some .fn:=nr rfl
@[go_sem] theorem T195 : T 195 = some .fn:=nr rfl
@[go_sem] theorem T196 : T 196 = some .fn:=nr rfl
@[go_sem] theorem T197 : T 197 = some .fn:=nr rfl
@[go_sem] theorem T198 : T 198 = some .ptr:=nr rfl
@[go_sem] theorem T199 : T 199 = some .fn:=nr rfl
@[go_sem] theorem T200 : T 200 = some .ptr:=nr rfl
@[go_sem] theorem T201 : T 201 = some .fn:=nr rfl
@[go_sem] theorem T202 : T 202 = some .fn:=nr rfl
@[go_sem] theorem T203 : T 203 = some .fn:=nr rfl
@[go_sem] theorem T204 : T 204 = some .fn:=nr rfl
@[go_sem] theorem T205 : T 205 = some .fn:=nr rfl
@[go_sem] theorem T206 : T 206 = some .fn:=nr rfl
@[go_sem] theorem T208 : T 208 = some .fn:=nr rfl
@[go_sem] theorem T209 : T 209 = some .fn:=nr rfl
@[go_sem] theorem T210 : T 210 = some .fn:=nr rfl
@[go_sem] theorem T211 : T 211 = some .fn:=nr rfl
@[go_sem] theorem T212 : T 212 = some .fn:=nr rfl
@[go_sem] theorem T213 : T 213 = some (.struct 2 [(0,1,false,1),(1,1,false,0)] [.sl .mut 1 [],.i .i64 0]):=nr rfl
@[go_sem] theorem T214 : T 214 = some (.struct 2 [(0,1,false,1),(1,1,false,0)] [.sl .mut 1 [],.i .i64 0]):=nr rfl
@[go_sem] theorem T215 : T 215 = some .fn:=nr rfl
@[go_sem] theorem T216 : T 216 = some (.struct 4 [(0,1,false,0),(1,1,false,0),(2,1,false,0),(3,1,false,0)] [.i .i64 0,.b false,.i .i64 0,.b false]):=nr rfl
@[go_sem] theorem T217 : T 217 = some (.struct 4 [(0,1,false,0),(1,1,false,0),(2,1,false,0),(3,1,false,0)] [.i .i64 0,.b false,.i .i64 0,.b false]):=nr rfl
@[go_sem] theorem T218 : T 218 = some .fn:=nr rfl
@[go_sem] theorem T219 : T 219 = some .fn:=nr rfl
@[go_sem] theorem T220 : T 220 = some (.slice 1 8 [.i .i64 0]):=nr rfl
@[go_sem] theorem T221 : T 221 = some .fn:=nr rfl
@[go_sem] theorem T222 : T 222 = some .fn:=nr rfl
@[go_sem] theorem T223 : T 223 = some .fn:=nr rfl
@[go_sem] theorem T224 : T 224 = some .fn:=nr rfl
@[go_sem] theorem T225 : T 225 = some (.struct 2 [(0,1,false,0),(1,1,false,0)] [.s ⟨#[]⟩,.s ⟨#[]⟩]):=nr rfl
@[go_sem] theorem T226 : T 226 = some .fn:=nr rfl
@[go_sem] theorem T227 : T 227 = some .fn:=nr rfl
@[go_sem] theorem T228 : T 228 = some .fn:=nr rfl
@[go_sem] theorem T229 : T 229 = some .fn:=nr rfl
@[go_sem] theorem T230 : T 230 = some .fn:=nr rfl
@[go_sem] theorem T231 : T 231 = some .fn:=nr rfl
@[go_sem] theorem T232 : T 232 = some .fn:=nr rfl
@[go_sem] theorem T233 : T 233 = some .fn:=nr rfl
@[go_sem] theorem T234 : T 234 = some .fn:=nr rfl
@[go_sem] theorem T235 : T 235 = some .fn:=nr rfl
@[go_sem] theorem T236 : T 236 = some .fn:=nr rfl
@[go_sem] theorem T237 : T 237 = some .fn:=nr rfl
@[go_sem] theorem T238 : T 238 = some .fn:=nr rfl
@[go_sem] theorem T240 : T 240 = some .fn:=nr rfl
@[go_sem] theorem T241 : T 241 = some .fn:=nr rfl
@[go_sem] theorem T242 : T 242 = some .fn:=nr rfl
@[go_sem] theorem T243 : T 243 = some .fn:=nr rfl
@[go_sem] theorem T244 : T 244 = some .fn:=nr rfl
@[go_sem] theorem T245 : T 245 = some .fn:=nr rfl
@[go_sem] theorem T246 : T 246 = some .fn:=nr rfl
@[go_sem] theorem T247 : T 247 = some .fn:=nr rfl
@[go_sem] theorem T248 : T 248 = some .fn:=nr rfl
@[go_sem] theorem T249 : T 249 = some .fn:=nr rfl
@[go_sem] theorem T250 : T 250 = some .fn:=nr rfl
@[go_sem] theorem T251 : T 251 = some .fn:=nr rfl
@[go_sem] theorem T252 : T 252 = some .fn:=nr rfl
@[go_sem] theorem T253 : T 253 = some (.slice 1 8 [.u]):=nr rfl
@[go_sem] theorem T254 : T 254 = some .fn:=nr rfl
@[go_sem] theorem T255 : T 255 = some .fn:=nr rfl
@[go_sem] theorem T256 : T 256 = some .ptr:=nr rfl
@[go_sem] theorem T257 : T 257 = some .fn:=nr rfl
@[go_sem] theorem T258 : T 258 = some (.struct 2 [(0,1,false,0),(1,1,false,0)] [.i .i64 0,.b false]):=nr rfl
@[go_sem] theorem T259 : T 259 = some (.struct 2 [(0,1,false,0),(1,1,false,0)] [.i .i64 0,.b false]):=nr rfl
@[go_sem] theorem T260 : T 260 = some .fn:=nr rfl
@[go_sem] theorem T261 : T 261 = some .fn:=nr rfl
@[go_sem] theorem T262 : T 262 = some .fn:=nr rfl
@[go_sem] theorem T263 : T 263 = some .fn:=nr rfl
@[go_sem] theorem T264 : T 264 = some .fn:=nr rfl
@[go_sem] theorem T265 : T 265 = some .fn:=nr rfl
@[go_sem] theorem T266 : T 266 = some .fn:=nr rfl
@[go_sem] theorem T267 : T 267 = some .fn:=nr rfl
@[go_sem] theorem T268 : T 268 = some .fn:=nr rfl
@[go_sem] theorem T269 : T 269 = some .fn:=nr rfl
@[go_sem] theorem T270 : T 270 = some .fn:=nr rfl
@[go_sem] theorem T271 : T 271 = some .fn:=nr rfl
@[go_sem] theorem T272 : T 272 = some .fn:=nr rfl
@[go_sem] theorem T273 : T 273 = some .fn:=nr rfl
@[go_sem] theorem T274 : T 274 = some .fn:=nr rfl
@[go_sem] theorem T275 : T 275 = some .fn:=nr rfl
@[go_sem] theorem T276 : T 276 = some .fn:=nr rfl
@[go_sem] theorem T278 : T 278 = some .fn:=nr rfl
@[go_sem] theorem T279 : T 279 = some .fn:=nr rfl
@[go_sem] theorem T280 : T 280 = some .fn:=nr rfl
@[go_sem] theorem T281 : T 281 = some .fn:=nr rfl
@[go_sem] theorem T282 : T 282 = some .ptr:=nr rfl
@[go_sem] theorem T284 : T 284 = some .fn:=nr rfl
@[go_sem] theorem T285 : T 285 = some .fn:=nr rfl
@[go_sem] theorem T286 : T 286 = some .fn:=nr rfl
@[go_sem] theorem T288 : T 288 = some .fn:=nr rfl
@[go_sem] theorem T289 : T 289 = some (.array 5 1 false [.i .i64 0,.i .i64 0,.i .i64 0,.i .i64 0,.i .i64 0]):=nr rfl
@[go_sem] theorem T290 : T 290 = some .fn:=nr rfl
@[go_sem] theorem T291 : T 291 = some .fn:=nr rfl
@[go_sem] theorem T292 : T 292 = some .fn:=nr rfl
@[go_sem] theorem T293 : T 293 = some .fn:=nr rfl
@[go_sem] theorem T294 : T 294 = some .fn:=nr rfl
@[go_sem] theorem T295 : T 295 = some .fn:=nr rfl
@[go_sem] theorem T296 : T 296 = some .ptr:=nr rfl
@[go_sem] theorem T297 : T 297 = some (.struct 2 [(0,1,false,0),(1,1,false,1)] [.pn,.sl .mut 1 []]):=nr rfl
@[go_sem] theorem T298 : T 298 = some (.struct 2 [(0,1,false,0),(1,1,false,1)] [.pn,.sl .mut 1 []]):=nr rfl
@[go_sem] theorem T299 : T 299 = some .fn:=nr rfl
@[go_sem] theorem T303 : T 303 = some .fn:=nr rfl
@[go_sem] theorem T305 : T 305 = some .fn:=nr rfl
@[go_sem] theorem T306 : T 306 = some .fn:=nr rfl
@[go_sem] theorem T307 : T 307 = some .fn:=nr rfl
@[go_sem] theorem T308 : T 308 = some .fn:=nr rfl
@[go_sem] theorem T309 : T 309 = some .fn:=nr rfl
@[go_sem] theorem T310 : T 310 = some .fn:=nr rfl
@[go_sem] theorem T312 : T 312 = some .fn:=nr rfl
@[go_sem] theorem T313 : T 313 = some .fn:=nr rfl
@[go_sem] theorem T314 : T 314 = some .fn:=nr rfl
@[go_sem] theorem T315 : T 315 = some .fn:=nr rfl
@[go_sem] theorem T316 : T 316 = some .fn:=nr rfl
@[go_sem] theorem T317 : T 317 = some (.struct 2 [(0,1,false,0),(1,1,false,0)] [.i .i64 0,.i .i64 0]):=nr rfl
@[go_sem] theorem T318 : T 318 = some (.struct 2 [(0,1,false,0),(1,1,false,0)] [.i .i64 0,.i .i64 0]):=nr rfl
@[go_sem] theorem T319 : T 319 = some .fn:=nr rfl
@[go_sem] theorem T320 : T 320 = some .fn:=nr rfl
@[go_sem] theorem T321 : T 321 = some .fn:=nr rfl
@[go_sem] theorem T322 : T 322 = some .fn:=nr rfl
@[go_sem] theorem T323 : T 323 = some .fn:=nr rfl
@[go_sem] theorem T324 : T 324 = some .fn:=nr rfl
@[go_sem] theorem T325 : T 325 = some .fn:=nr rfl
@[go_sem] theorem T326 : T 326 = some .fn:=nr rfl
@[go_sem] theorem T327 : T 327 = some .fn:=nr rfl
@[go_sem] theorem T328 : T 328 = some .fn:=nr rfl
@[go_sem] theorem T329 : T 329 = some .fn:=nr rfl
@[go_sem] theorem T330 : T 330 = some .fn:=nr rfl
@[go_sem] theorem T331 : T 331 = some .fn:=nr rfl
@[go_sem] theorem T332 : T 332 = some .fn:=nr rfl
@[go_sem] theorem T333 : T 333 = some .fn:=nr rfl
@[go_sem] theorem T337 : T 337 = some .fn:=nr rfl
@[go_sem] theorem T338 : T 338 = some .fn:=nr rfl
@[go_sem] theorem T339 : T 339 = some .ptr:=nr rfl
@[go_sem] theorem T340 : T 340 = some .ptr:=nr rfl
@[go_sem] theorem T341 : T 341 = some .fn:=nr rfl
@[go_sem] theorem T342 : T 342 = some .fn:=nr rfl
@[go_sem] theorem T343 : T 343 = some .fn:=nr rfl
@[go_sem] theorem T344 : T 344 = some (.slice 1 24 [.sl .mut 13 []]):=nr rfl
@[go_sem] theorem T345 : T 345 = some .fn:=nr rfl
@[go_sem] theorem T347 : T 347 = some (.int .u64):=nr rfl
@[go_sem] theorem T348 : T 348 = some .fn:=nr rfl
@[go_sem] theorem T349 : T 349 = some .fn:=nr rfl
@[go_sem] theorem T351 : T 351 = some .fn:=nr rfl
@[go_sem] theorem T353 : T 353 = some .fn:=nr rfl
@[go_sem] theorem T354 : T 354 = some .fn:=nr rfl
@[go_sem] theorem T355 : T 355 = some .fn:=nr rfl
@[go_sem] theorem T356 : T 356 = some .fn:=nr rfl
@[go_sem] theorem T357 : T 357 = some .fn:=nr rfl
@[go_sem] theorem T358 : T 358 = some .fn:=nr rfl
@[go_sem] theorem T360 : T 360 = some .fn:=nr rfl
@[go_sem] theorem T361 : T 361 = some .fn:=nr rfl
@[go_sem] theorem T364 : T 364 = some .fn:=nr rfl
@[go_sem] theorem T365 : T 365 = some .fn:=nr rfl
@[go_sem] theorem T366 : T 366 = some .fn:=nr rfl
@[go_sem] theorem T367 : T 367 = some .fn:=nr rfl
@[go_sem] theorem T369 : T 369 = some (.int .u32):=nr rfl
@[go_sem] theorem T371 : T 371 = some .fn:=nr rfl
@[go_sem] theorem T372 : T 372 = some (.int .u64):=nr rfl
@[go_sem] theorem T373 : T 373 = some .fn:=nr rfl
@[go_sem] theorem T374 : T 374 = some .fn:=nr rfl
@[go_sem] theorem T375 : T 375 = some .fn:=nr rfl
@[go_sem] theorem T377 : T 377 = some (.struct 2 [(0,1,false,0),(1,1,false,0)] [.i .u8 0,.i .u8 0]):=nr rfl
@[go_sem] theorem T378 : T 378 = some (.struct 2 [(0,1,false,0),(1,1,false,0)] [.i .u8 0,.i .u8 0]):=nr rfl
@[go_sem] theorem T379 : T 379 = some (.array 16 2 true [.i .u8 0,.i .u8 0,.i .u8 0,.i .u8 0,.i .u8 0,.i .u8 0,.i .u8 0,.i .u8 0,.i .u8 0,.i .u8 0,.i .u8 0,.i .u8 0,.i .u8 0,.i .u8 0,.i .u8 0,.i .u8 0,.i .u8 0,.i .u8 0,.i .u8 0,.i .u8 0,.i .u8 0,.i .u8 0,.i .u8 0,.i .u8 0,.i .u8 0,.i .u8 0,.i .u8 0,.i .u8 0,.i .u8 0,.i .u8 0,.i .u8 0,.i .u8 0]):=nr rfl
@[go_sem] theorem T380 : T 380 = some .fn:=nr rfl
@[go_sem] theorem T384 : T 384 = some .fn:=nr rfl
@[go_sem] theorem T390 : T 390 = some .fn:=nr rfl
def Q : TypeId → Option (List Nat)
 | 27=>some [1,1]
 | 28=>some [1,1]
 | 44=>some [1,1,1,1,1,0,0]
 | 45=>some [1,1,1,1,1,0,0]
 | 55=>some [1,1,1,1,1,0,0]
 | 79=>some [1,2]
 | 80=>some [1,2]
 | 84=>some [1,1,1]
 | 85=>some [1,1,1]
 | 86=>some [1,1,1,1,1]
 | 87=>some [1,1,1,1,1]
 | 155=>some [2,2]
 | 156=>some [2,2]
 | 216=>some [1,0,1,0]
 | 217=>some [1,0,1,0]
 | 225=>some [2,2]
 | 258=>some [1,0]
 | 259=>some [1,0]
 | 317=>some [1,1]
 | 318=>some [1,1]
 | 377=>some [1,1]
 | 378=>some [1,1]
 | _=>none
@[go_sem] theorem Q27 : Q 27 = some [1,1]:=nr rfl
@[go_sem] theorem Q28 : Q 28 = some [1,1]:=nr rfl
@[go_sem] theorem Q44 : Q 44 = some [1,1,1,1,1,0,0]:=nr rfl
@[go_sem] theorem Q45 : Q 45 = some [1,1,1,1,1,0,0]:=nr rfl
@[go_sem] theorem Q55 : Q 55 = some [1,1,1,1,1,0,0]:=nr rfl
@[go_sem] theorem Q79 : Q 79 = some [1,2]:=nr rfl
@[go_sem] theorem Q80 : Q 80 = some [1,2]:=nr rfl
@[go_sem] theorem Q84 : Q 84 = some [1,1,1]:=nr rfl
@[go_sem] theorem Q85 : Q 85 = some [1,1,1]:=nr rfl
@[go_sem] theorem Q86 : Q 86 = some [1,1,1,1,1]:=nr rfl
@[go_sem] theorem Q87 : Q 87 = some [1,1,1,1,1]:=nr rfl
@[go_sem] theorem Q155 : Q 155 = some [2,2]:=nr rfl
@[go_sem] theorem Q156 : Q 156 = some [2,2]:=nr rfl
@[go_sem] theorem Q216 : Q 216 = some [1,0,1,0]:=nr rfl
@[go_sem] theorem Q217 : Q 217 = some [1,0,1,0]:=nr rfl
@[go_sem] theorem Q225 : Q 225 = some [2,2]:=nr rfl
@[go_sem] theorem Q258 : Q 258 = some [1,0]:=nr rfl
@[go_sem] theorem Q259 : Q 259 = some [1,0]:=nr rfl
@[go_sem] theorem Q317 : Q 317 = some [1,1]:=nr rfl
@[go_sem] theorem Q318 : Q 318 = some [1,1]:=nr rfl
@[go_sem] theorem Q377 : Q 377 = some [1,1]:=nr rfl
@[go_sem] theorem Q378 : Q 378 = some [1,1]:=nr rfl
instance instTb : HasTb Tryz.prog:=⟨fun _ _=>True,fun _ _ _ _=>trivial⟩
theorem tyOk (cx : Cx) (h : cx.T = T) (h2 : cx.eqs = Q) : CxOk Tryz.prog cx:=by
 refine ⟨fun t ti ht=>?_,fun t ks hk=>?_⟩
 ·rw [h] at ht
  unfold T at ht
  split at ht <;> first | cases ht; done | (injection ht with ht; subst ht; exact tiOk_s (by kernel_rfl))
 ·rw [h2] at hk
  unfold Q at hk
  split at hk <;> first | cases hk; done | (injection hk with hk; subst hk; kernel_rfl)
def tyA : TyOf Tryz.prog:=⟨T,Q,tyOk,by kernel_rfl⟩
@[go_sem] theorem tyA_T : tyA.T = T:=nr rfl
@[go_sem] theorem tyA_Q : tyA.Q = Q:=nr rfl
end Go.Vm.A
namespace Go.Proofs
open Go.Shelf
def Tryz.lays169_ren : Go.Shelf.Ren := ⟨fun | 169 => 301 | n => n, fun | 70 => 296 | 9 => 9 | 0 => 0 | 72 => 298 | 37 => 22 | 127 => 340 | 3 => 3 | 5 => 5 | n => n, fun | n => n⟩
theorem Tryz.lays169 : Go.Proofs.Lays.n169 Tryz.prog Tryz.lays169_ren := {
  mixed := by kernel_rfl
  f169 := Tryz.func301.trans (congrArg some (by kernel_rfl))
  t0 := Tryz.underlying0
  a0 := Tryz.isAgg0
  z0 := Tryz.sizeOf0
  v0 := Tryz.zeroValue0
  t3 := Tryz.underlying3
  a3 := Tryz.isAgg3
  z3 := Tryz.sizeOf3
  v3 := Tryz.zeroValue3
  t9 := Tryz.underlying9
  a9 := Tryz.isAgg9
  z9 := Tryz.sizeOf9
  v9 := Tryz.zeroValue9
  t37 := Tryz.underlying22
  a37 := Tryz.isAgg22
  z37 := Tryz.sizeOf22
  v37 := Tryz.zeroValue22
  t70 := Tryz.underlying296
  a70 := Tryz.isAgg296
  z70 := Tryz.sizeOf296
  v70 := Tryz.zeroValue296
  t72 := Tryz.underlying298
  a72 := Tryz.isAgg298
  z72 := Tryz.sizeOf298
  v72 := Tryz.zeroValue298
  t127 := Tryz.underlying340
  a127 := Tryz.isAgg340
  z127 := Tryz.sizeOf340
  v127 := Tryz.zeroValue340 }
theorem Tryz.Builder_Extra_169 : Builder.Extra Tryz.prog Tryz.lays169_ren := {
  sizeBuilder := by kernel_rfl
  liesBuilder := by kernel_rfl
  t5 := Tryz.underlying5
  a5 := Tryz.isAgg5
  z5 := Tryz.sizeOf5
  v5 := Tryz.zeroValue5
  infoByte := by kernel_rfl
  cellsByte := by kernel_rfl
  sizeByte := by kernel_rfl
  neB5 := by decide }
open Go.RowKit in
theorem Tryz.Builder_String_any_k (B b : Nat) (l : List UInt8) (w : World) (h : Lib.IsBuilderF 298 5 B b (Lib.byteCells l) w) (hBw : B ≤ w.heap.size) :
    Calls Tryz.prog 301 #[.pointer (some ⟨b, 0, none⟩)] w fun e w' => e = .returned (.string ⟨l.toArray⟩) ∧ (Lib.IsBuilderF 298 5 B b (Lib.byteCells l) w' ∧ Below B w w' ∧ Lib.OthersKept 5 (some b) w w') := Any.Builder_String_any_k Tryz.lays169 Tryz.Builder_Extra_169 B b l w h hBw
def Tryz.lays160_ren : Go.Shelf.Ren := ⟨fun | 160 => 298 | 232 => 346 | 231 => 345 | 227 => 347 | 234 => 349 | 233 => 348 | 236 => 351 | 235 => 350 | 228 => 372 | 271 => 375 | 151 => 374 | 197 => 373 | 120 => 391 | 152 => 390 | 260 => 389 | 137 => 304 | 119 => 397 | 224 => 395 | 225 => 394 | 217 => 354 | 266 => 378 | n => n, fun | 9 => 9 | 4 => 4 | 3 => 3 | 5 => 5 | 117 => 336 | 116 => 335 | 0 => 0 | 124 => 339 | 21 => 21 | 105 => 359 | 46 => 372 | 119 => 376 | 139 => 379 | 138 => 378 | n => n, fun | 3 => 2 | 4 => 3 | n => n⟩
theorem Tryz.lays160 : Go.Proofs.Lays.n160 Tryz.prog Tryz.lays160_ren := {
  mixed := by kernel_rfl
  f119 := Tryz.func397.trans (congrArg some (by kernel_rfl))
  f120 := Tryz.func391.trans (congrArg some (by kernel_rfl))
  f137 := Tryz.func304.trans (congrArg some (by kernel_rfl))
  f151 := Tryz.func374.trans (congrArg some (by kernel_rfl))
  f152 := Tryz.func390.trans (congrArg some (by kernel_rfl))
  f160 := Tryz.func298.trans (congrArg some (by kernel_rfl))
  f197 := Tryz.func373.trans (congrArg some (by kernel_rfl))
  f217 := Tryz.func354.trans (congrArg some (by kernel_rfl))
  f224 := Tryz.func395.trans (congrArg some (by kernel_rfl))
  f225 := Tryz.func394.trans (congrArg some (by kernel_rfl))
  f227 := Tryz.func347.trans (congrArg some (by kernel_rfl))
  f228 := Tryz.func372.trans (congrArg some (by kernel_rfl))
  f231 := Tryz.func345.trans (congrArg some (by kernel_rfl))
  f232 := Tryz.func346.trans (congrArg some (by kernel_rfl))
  f233 := Tryz.func348.trans (congrArg some (by kernel_rfl))
  f234 := Tryz.func349.trans (congrArg some (by kernel_rfl))
  f235 := Tryz.func350.trans (congrArg some (by kernel_rfl))
  f236 := Tryz.func351.trans (congrArg some (by kernel_rfl))
  f260 := Tryz.func389.trans (congrArg some (by kernel_rfl))
  f266 := Tryz.func378.trans (congrArg some (by kernel_rfl))
  f271 := Tryz.func375.trans (congrArg some (by kernel_rfl))
  t0 := Tryz.underlying0
  a0 := Tryz.isAgg0
  z0 := Tryz.sizeOf0
  v0 := Tryz.zeroValue0
  t3 := Tryz.underlying3
  a3 := Tryz.isAgg3
  z3 := Tryz.sizeOf3
  v3 := Tryz.zeroValue3
  t4 := Tryz.underlying4
  a4 := Tryz.isAgg4
  z4 := Tryz.sizeOf4
  v4 := Tryz.zeroValue4
  t5 := Tryz.underlying5
  a5 := Tryz.isAgg5
  z5 := Tryz.sizeOf5
  v5 := Tryz.zeroValue5
  t9 := Tryz.underlying9
  a9 := Tryz.isAgg9
  z9 := Tryz.sizeOf9
  v9 := Tryz.zeroValue9
  t21 := Tryz.underlying21
  a21 := Tryz.isAgg21
  z21 := Tryz.sizeOf21
  v21 := Tryz.zeroValue21
  t46 := Tryz.underlying372
  a46 := Tryz.isAgg372
  z46 := Tryz.sizeOf372
  v46 := Tryz.zeroValue372
  t105 := Tryz.underlying359
  a105 := Tryz.isAgg359
  z105 := Tryz.sizeOf359
  v105 := Tryz.zeroValue359
  t116 := Tryz.underlying335
  a116 := Tryz.isAgg335
  z116 := Tryz.sizeOf335
  t117 := Tryz.underlying336
  a117 := Tryz.isAgg336
  z117 := Tryz.sizeOf336
  v117 := Tryz.zeroValue336
  t119 := Tryz.underlying376
  a119 := Tryz.isAgg376
  z119 := Tryz.sizeOf376
  t124 := Tryz.underlying339
  a124 := Tryz.isAgg339
  z124 := Tryz.sizeOf339
  v124 := Tryz.zeroValue339
  t138 := Tryz.underlying378
  a138 := Tryz.isAgg378
  z138 := Tryz.sizeOf378
  v138 := Tryz.zeroValue378
  t139 := Tryz.underlying379
  a139 := Tryz.isAgg379
  z139 := Tryz.sizeOf379
  v139 := Tryz.zeroValue379
  g3 := by kernel_rfl
  g4 := by kernel_rfl }
theorem Tryz.trimSpTab (s : ByteArray) (w : World) (hs : s.size ≤ 9223372036854775807) :
    Calls Tryz.prog 298 #[.string s, .string ⟨#[32, 9]⟩] w fun e w' => e = .returned (.string ⟨(Lib.trimS s.data.toList [32, 9]).toArray⟩) ∧ Go.RowKit.Below w.heap.size w w' :=
  Any.strings_Trim_laid Tryz.lays160 (by kernel_rfl) s ⟨#[32, 9]⟩ w hs (by decide) (ascii_of_all (by decide))
open Go.RowKit
set_option maxHeartbeats 4000000
set_option maxRecDepth 100000
theorem Tryz.cc_fresh (b : Nat) (w : World) (h0 : w.cell? ⟨b, 0, none⟩ = some (.pointer none)) (hsh : w.shape? b = some (298, 2)) (hfz : w.frozen? ⟨b, 0, none⟩ = false) :
    Calls Tryz.prog 352 #[.pointer (some ⟨b, 0, none⟩)] w fun e w' => e = .returned (.tuple #[]) ∧ w' = w.setCell ⟨b, 0, none⟩ (.pointer (some ⟨b, 0, none⟩)) := by
  obtain ⟨j, hj, hjs⟩ := Option.map_eq_some_iff.1 Tryz.Builder_Extra_169.sizeBuilder
  have hl := Tryz.Builder_Extra_169.liesBuilder
  go_enter Tryz.func352, Tryz.ntmps352
  go_wp2
  rw [Lib.run_to_unsafe w ⟨b, 0, none⟩ Tryz.underlying296 Tryz.underlying362 hj (by rw [hjs]; decide) hsh (Nat.zero_lt_succ 1)]
  simp only [Result.andThen]
  rw [Oper.upon_value]
  go_wp2
  rw [run_callFunc_extern Tryz.func376 (by kernel_rfl) (by kernel_rfl) (by kernel_rfl) (e := Extern.AbiNoEscape.same) (by kernel_rfl)]
  rw [Lib.run_noEscape]
  simp only [Result.andThen]
  rw [Oper.upon_value]
  go_wp2
  rw [Lib.run_from_unsafe w ⟨b, 0, none⟩ Tryz.underlying362 Tryz.underlying296 hj hsh hl]
  simp only [Result.andThen]
  rw [Oper.upon_value]
  go_wp2
  go_end0
  exact ⟨rfl, rfl⟩
theorem Tryz.cc_used (b : Nat) (w : World) (h0 : w.cell? ⟨b, 0, none⟩ = some (.pointer (some ⟨b, 0, none⟩))) :
    Calls Tryz.prog 352 #[.pointer (some ⟨b, 0, none⟩)] w fun e w' => e = .returned (.tuple #[]) ∧ w' = w := by
  obtain ⟨j, hj, _⟩ := Option.map_eq_some_iff.1 Tryz.Builder_Extra_169.sizeBuilder
  go_enter Tryz.func352, Tryz.ntmps352
  go_wp2
  rw [Lib.run_neq_ptr_same w _ Tryz.underlying296 hj]
  go_wp2
  go_end0
  exact ⟨rfl, rfl⟩
theorem Tryz.cc_k (B b : Nat) (bs : List Value) (w : World) (h : Lib.IsBuilderF 298 5 B b bs w) :
    Calls Tryz.prog 352 #[.pointer (some ⟨b, 0, none⟩)] w fun e w' => e = .returned (.tuple #[]) ∧ (Lib.BuilderAtF 298 5 B b (.pointer (some ⟨b, 0, none⟩)) bs w' ∧ Below B w w') := by
  rcases h with h | h
  · refine (Tryz.cc_fresh b w h.cell0 h.shape h.frozen0).mono ?_
    rintro e w' ⟨rfl, rfl⟩
    exact ⟨rfl, h.used _, (Below.refl B w).setCell (p := ⟨b, 0, none⟩) h.1 _⟩
  · refine (Tryz.cc_used b w h.cell0).mono ?_
    rintro e w' ⟨rfl, rfl⟩
    exact ⟨rfl, h, Below.refl B _⟩
theorem Tryz.ws_k (B b : Nat) (bs : List Value) (s : ByteArray) (w : World) (h : Lib.IsBuilderF 298 5 B b bs w) (hlen : bs.length + s.size ≤ 140737488355328) (hBw : B ≤ w.heap.size) :
    Calls Tryz.prog 300 #[.pointer (some ⟨b, 0, none⟩), .string s] w fun e w' => e = .returned (.tuple #[.int .i64 s.size, .nilIface]) ∧ (Lib.IsBuilderF 298 5 B b (bs ++ Lib.strCells s) w' ∧ Below B w w') := by
  obtain ⟨i0, hi, hz0, hz1, hz2⟩ := info_parts Tryz.Builder_Extra_169.infoByte
  go_enter Tryz.func300, Tryz.ntmps300
  go_wp2_with (go_at_call 352; refine (Tryz.cc_k B b bs _ h).mono ?_)
  rintro e w1 ⟨rfl, h1, hb1⟩
  obtain ⟨hB, v, hbk, hown, hne⟩ := h1
  have c0 : w1.cell? ⟨b, 0, none⟩ = some (.pointer (some ⟨b, 0, none⟩)) := by rw [Lib.cell_of_heap hbk]; rfl
  have c1 : w1.cell? ⟨b, 1, none⟩ = some v := by rw [Lib.cell_of_heap hbk]; rfl
  go_wp2_with (at_builtin; refine Lib.wpList_append_own_stringF _ rfl _ _ 22 9 rfl B 5 i0 Tryz.underlying22 Tryz.underlying9 hi hz0 hz1 hz2 _ _ _ rfl hown s rfl ?c3 ?c4 ?c5 ?_)
  case c3 => unfold maxLen; omega
  case c4 => omega
  case c5 => have := hb1.size; omega
  intro v' w2 hown' hgrow _
  have hlt : b < w1.heap.size := by
    rcases Nat.lt_or_ge b w1.heap.size with h' | h'
    · exact h'
    · simp [Array.getElem?_eq_none h'] at hbk
  have hb2 : w2.heap[b]? = some (.cells #[.pointer (some ⟨b, 0, none⟩), v] 298 (0, 0)) := by
    rw [hgrow.block b hlt (fun e => hne e.symm)]
    exact hbk
  have d0 : w2.cell? ⟨b, 0, none⟩ = some (.pointer (some ⟨b, 0, none⟩)) := by rw [Lib.cell_of_heap hb2]; rfl
  have d1 : w2.cell? ⟨b, 1, none⟩ = some v := by rw [Lib.cell_of_heap hb2]; rfl
  have f1 : w2.frozen? ⟨b, 1, none⟩ = false := Lib.frozen_of_heap hb2 1
  obtain ⟨ao, n', cap, rfl⟩ : ∃ ao n' cap, v' = .slice ao n' cap := by
    rcases hown'.2 with ⟨hv, _⟩ | ⟨g, cap, cur, fz, hv, _⟩
    · exact ⟨_, _, _, hv⟩
    · exact ⟨_, _, _, hv⟩
  go_wp2
  go_ret2
  refine ⟨rfl, Or.inr ?_, ?_⟩
  · exact Lib.BuilderAtF.put (T := 298) (e := 5) hB hb2 (bs' := bs ++ Lib.strCells s) (by simpa [Lib.strCells_length] using hown') Tryz.Builder_Extra_169.neB5
  · exact (hb1.grown hgrow (by have := hb1.size; omega) (fun k hk => (hown.lt k hk).1)).setCell (p := ⟨b, 1, none⟩) hB _
theorem Tryz.ht_k (hs : List (ByteArray × ByteArray)) (A : Option Addr) (n cap g off : Nat) (w : World) (hn : hs.length = n) (hA : 0 < n → A = some ⟨g, off, none⟩) (hg : 0 < n → g < w.heap.size)
    (hc : ∀ (i : Nat) (hi : i < hs.length), w.cell? ⟨g, off + i * 2, none⟩ = some (.string hs[i].1) ∧ w.cell? ⟨g, off + i * 2 + 1, none⟩ = some (.string hs[i].2))
    (hsz : ∀ p ∈ hs, p.1.size ≤ 1048576 ∧ p.2.size ≤ 1048576) (hl : hs.length ≤ 1048576) :
    Calls Tryz.prog 359 #[.slice A n cap] w fun e w' => e = .returned (.string ⟨(Go.Vm.packL hs).toArray⟩) ∧ Below w.heap.size w w' := by
  go_enter Tryz.func359, Tryz.ntmps359
  go_wp2
  go_loopw [9] (fun i wr => ∃ k : Nat, k ≤ n ∧ i = .int .i64 k ∧ Lib.IsBuilderF 298 5 w.heap.size w.heap.size (Lib.byteCells (Go.Vm.packL (hs.take k))) wr ∧ Below w.heap.size w wr) (fun i _ => n - (intOf i).toNat)
  case atStart =>
    exact ⟨0, Nat.zero_le _, rfl, Lib.IsBuilderF.of (Lib.fresh_isBuilder 298 5 w), (Below.refl _ w).alloc (Nat.le_refl _) _⟩
  case round =>
    obtain ⟨k, hk, rfl, hI, hbw⟩ := hrel
    by_cases hlt : k < n
    · obtain rfl := hA (by omega)
      have hkl : k < hs.length := by omega
      have hgw := hg (by omega)
      obtain ⟨e0, e1⟩ := hc k hkl
      have e0' : wr.cell? ⟨g, off + k * 2, none⟩ = some (.string hs[k].1) := by rw [← e0]; exact hbw.cell hgw
      have e1' : wr.cell? ⟨g, off + k * 2 + 1, none⟩ = some (.string hs[k].2) := by rw [← e1]; exact hbw.cell hgw
      obtain ⟨s1, s2⟩ := hsz _ (List.getElem_mem hkl)
      obtain ⟨x, hx⟩ : ∃ x, hs[k].1 = x := ⟨_, rfl⟩
      obtain ⟨y, hy⟩ : ∃ y, hs[k].2 = y := ⟨_, rfl⟩
      rw [hx] at e0' s1
      rw [hy] at e1' s2
      have hp := Go.Vm.packL_len (hs.take k) (fun q hq => hsz q (List.mem_of_mem_take hq))
      have hpl : (hs.take k).length = k := by rw [List.length_take]; omega
      rw [hpl] at hp
      go_wp2_with (first
        | (go_at_call 300; refine (Tryz.ws_k w.heap.size w.heap.size _ _ _ ((hI.alloc _).alloc _) ?q1 ?q2).mono ?_)
        | go_in)
      case q1 => rw [Lib.byteCells_length]; omega
      case q2 => have := hbw.size; omega
      rintro e W1 rfl h1 b1
      go_wp2
      go_roundw
      case rel =>
        refine ⟨k + 1, by omega, by go_num, ?_, ?_⟩
        · rw [Go.Vm.packL_snoc hs k hkl, Go.Vm.lineB, hx, hy, Lib.byteCells_append]
          exact h1
        · exact ((hbw.alloc (by have := hbw.size; omega) _).alloc (by have := hbw.size; simp; omega) _).trans b1
      case measure => simp [intOf]; omega
    · have hkn : k = n := by omega
      have ht : hs.take k = hs := List.take_of_length_le (by omega)
      rw [ht] at hI
      go_wp2_with (go_at_call 301; refine (Tryz.Builder_String_any_k w.heap.size w.heap.size _ _ hI (by have := hbw.size; omega)).mono ?_)
      rintro e W1 ⟨rfl, _, b1, _⟩
      go_wp2
      go_ret
      exact ⟨rfl, hbw.trans b1⟩
theorem Tryz.growInfo : ∃ (i0 : TypeInfo) (zv : Value), Tryz.prog.info? 57 = some i0 ∧ i0.zero = some zv ∧ i0.bytes = 152 ∧ i0.size = 13 ∧ zv.cells.size = 13 := by
  have h : (Tryz.prog.info? 57).map (fun i => (i.bytes, i.size, i.zero.map fun z => z.cells.size)) = some (152, 13, some 13) := by kernel_rfl
  obtain ⟨i0, h1, h2⟩ := Option.map_eq_some_iff.1 h
  simp only [Prod.mk.injEq] at h2
  obtain ⟨e1, e2, e3⟩ := h2
  obtain ⟨zv, e4, e5⟩ := Option.map_eq_some_iff.1 e3
  exact ⟨i0, zv, h1, e4, e1, e2, e5⟩
theorem Tryz.grow0 (w : World) : Calls Tryz.prog 358 #[.slice none 0 0, .int .i64 0] w fun e w' => e = .returned (.slice none 0 0) ∧ w' = w := by
  go_enter Tryz.func358, Tryz.ntmps358
  go_wp2
  all_goals go_ret
  all_goals exact ⟨rfl, rfl⟩
theorem Tryz.growN (i0 : TypeInfo) (z : Value) (hi0 : Tryz.prog.info? 57 = some i0) (hz0 : i0.zero = some z) (hs0 : 0 < i0.size) (n : Nat) (w : World) (hn : 0 < n) (hbig : n * i0.bytes ≤ 140737488355328) (h63 : n ≤ 4611686018427387904) :
    Calls Tryz.prog 358 #[.slice none 0 0, .int .i64 n] w fun e w' => e = .returned (.slice (some ⟨w.heap.size, 0, none⟩) 0 (grownCap w n 0 57)) ∧ w' = w.drew.alloc (.cells (#[] ++ Builtin.zeroCells z.cells n ++ Builtin.zeroCells z.cells (grownCap w n 0 57 - n)) 57) := by
  have h1 : ¬ ((n : Int) < 0) := by omega
  have h4 : (n : Int) > 0 := by omega
  have h2 : wrap64 (n : Int) = (n : Int) := by unfold wrap64; omega
  have h3 : wrap64 (0 : Int) = 0 := by unfold wrap64; omega
  have z25 : ∀ w, (Go.sizeOf 57).run Tryz.prog w = .ok i0.size w := fun w => by simp [Go.sizeOf, typeInfo, hi0]
  have hold : (Builtin.firstCells i0.size 0 (.slice none 0 0)).run Tryz.prog w.drew = .ok #[] w.drew := run_firstCells_none w.drew i0.size 0 0 0
  have hrz : ∀ ty, (Builtin.append_ #[91, 3] ty #[.slice none 0 0, .int .i64 n]).run Tryz.prog w =
      .ok (.slice (some ⟨w.heap.size, 0, none⟩) n (grownCap w n 0 57)) (w.drew.alloc (.cells (#[] ++ Builtin.zeroCells z.cells n ++ Builtin.zeroCells z.cells (grownCap w n 0 57 - n)) 57)) := fun ty => by
    have h := Lib.run_append_grow_zeros w 91 3 ty 57 i0 z .i64 .i64 Tryz.underlying91 Tryz.underlying3 hi0 hz0 none 0 0 [] hold n (by omega) hs0 (by omega) (by omega)
      (by omega) (by rw [Nat.zero_add]; exact growslice_fits hn hbig)
    rw [Nat.zero_add] at h
    exact h
  have hGn : n ≤ grownCap w n 0 57 := grownCap_ge w _ _ _
  obtain ⟨G, hG⟩ : ∃ G, G = grownCap w n 0 57 := ⟨_, rfl⟩
  rw [← hG] at hrz hGn ⊢
  have hG63 : G ≤ 9223372036854775807 := by
    have := grownCap_le_maxLen w n 0 57 (by unfold maxLen; omega)
    rw [← hG] at this
    unfold maxLen at this
    omega
  clear hold hG
  go_enter Tryz.func358, Tryz.ntmps358
  go_wp2_with (at_builtin; refine Lib.wpList_append_run _ rfl _ _ _ _ rfl _ _ rfl rfl _ _ (hrz _) ?_)
  all_goals (go_ret; exact ⟨rfl, rfl⟩)
end Go.Proofs
