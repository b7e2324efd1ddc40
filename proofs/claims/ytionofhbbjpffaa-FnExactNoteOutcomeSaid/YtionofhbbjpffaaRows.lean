/-
  No cell of these rows narrows 'for every input' (looked for: loops, veiled, ifaces, maps, wideKeys, modest, calm, conditions, laid).
  DERIVED. THE GIVEN ROWS OF THIS SEAT. 5 by the template 'for every input the law returns true; each argument reads behind the call as it read before'; 0 by the template 'total and deterministic' (their statements: YtionofhbbjpffaaTotals.lean).
  GIVEN WITH THE SEED: the statements are not yours to turn. If you find one false, say at which input.
  Laid BY PROGRAM, IN A SANDBOX (cutbox-rows.mjs): the forced cells as the released guide's own fill.sh prints them over the translation 3cb1db740a080f66… (all of the seat's roots in one cut). By AI agents, Wed Nov 11 2026. No macro, syntax, notation, axiom, sorry.
-/
import Derived.Test.YtionofhbbjpffaaChecked
import GoSem.Claim
import GoSem.ClaimJoined
import GoSem.ClaimMapViews
import Derived.JoinedTies
import Derived.KernelRfl
namespace Go.Proofs.Ytionofhbbjpffaa
/- THE CELL 'sum', in the pinned program and in every row, IS THE sha256 OF THE DUMP (.gsa) THAT YtionofhbbjpffaaProg.lean LOADS. Nothing in Lean hashes anything: it is a label: what it is worth is what the hold of that sum in a sandbox is worth. -/
noncomputable def Try.pinned : Pinned := { name := "ytionofhbbjpffaa", sum := "3cb1db740a080f6655e54eec7a41b7d6ad9f78dc15e8ae04fb9a6b4817d688c1", checked := Try.checked }
namespace Rows
def none {H : Type} : Left H := { results := [], args := [] }

/-- 'laws.FnExactErrorOf': WHATEVER THE INPUT: true; the input reads as it did. -/
def fnExactErrorOfSpec : ChangeSpec := { name := "fnExactErrorOf", fn := fun _ => fun
  | [d] => { results := [.lit (.bool true)], args := [d] }
  | _ => none }
def fnExactErrorOfRow : OpenClaim := { program := "ytionofhbbjpffaa", sum := "3cb1db740a080f6655e54eec7a41b7d6ad9f78dc15e8ae04fb9a6b4817d688c1", func := "loop.example/g00665/laws.FnExactErrorOf", spec := "fnExactErrorOf", apart := false }
def FnExactErrorOfSaid : Prop := fnExactErrorOfRow.holds Try.pinned (OpenSpec.ofChange fnExactErrorOfSpec)

/-- ITS FALSE NEIGHBOUR: 'it returns false'. Refute it at one input. -/
def fnExactErrorOfWrong : ChangeSpec := { name := "fnExactErrorOf", fn := fun _ => fun
  | [d] => { results := [.lit (.bool false)], args := [d] }
  | _ => none }
def FnExactErrorOfWrongFalsely : Prop := fnExactErrorOfRow.holds Try.pinned (OpenSpec.ofChange fnExactErrorOfWrong)

/-- 'laws.FnExactFetchesIn': WHATEVER THE INPUT: true; the input reads as it did. -/
def fnExactFetchesInSpec : ChangeSpec := { name := "fnExactFetchesIn", fn := fun _ => fun
  | [d] => { results := [.lit (.bool true)], args := [d] }
  | _ => none }
def fnExactFetchesInRow : OpenClaim := { program := "ytionofhbbjpffaa", sum := "3cb1db740a080f6655e54eec7a41b7d6ad9f78dc15e8ae04fb9a6b4817d688c1", func := "loop.example/g00665/laws.FnExactFetchesIn", spec := "fnExactFetchesIn", unfollowed := true, recurses := true, apart := false }
def FnExactFetchesInSaid : Prop := fnExactFetchesInRow.holds Try.pinned (OpenSpec.ofChange fnExactFetchesInSpec)

/-- ITS FALSE NEIGHBOUR: 'it returns false'. Refute it at one input. -/
def fnExactFetchesInWrong : ChangeSpec := { name := "fnExactFetchesIn", fn := fun _ => fun
  | [d] => { results := [.lit (.bool false)], args := [d] }
  | _ => none }
def FnExactFetchesInWrongFalsely : Prop := fnExactFetchesInRow.holds Try.pinned (OpenSpec.ofChange fnExactFetchesInWrong)

/-- 'laws.FnExactAnswersTo': WHATEVER THE INPUT: true; the input reads as it did. -/
def fnExactAnswersToSpec : ChangeSpec := { name := "fnExactAnswersTo", fn := fun _ => fun
  | [d1, d2] => { results := [.lit (.bool true)], args := [d1, d2] }
  | _ => none }
def fnExactAnswersToRow : OpenClaim := { program := "ytionofhbbjpffaa", sum := "3cb1db740a080f6655e54eec7a41b7d6ad9f78dc15e8ae04fb9a6b4817d688c1", func := "loop.example/g00665/laws.FnExactAnswersTo", spec := "fnExactAnswersTo", unfollowed := true, recurses := true, apart := false }
def FnExactAnswersToSaid : Prop := fnExactAnswersToRow.holds Try.pinned (OpenSpec.ofChange fnExactAnswersToSpec)

/-- ITS FALSE NEIGHBOUR: 'it returns false'. Refute it at one input. -/
def fnExactAnswersToWrong : ChangeSpec := { name := "fnExactAnswersTo", fn := fun _ => fun
  | [d1, d2] => { results := [.lit (.bool false)], args := [d1, d2] }
  | _ => none }
def FnExactAnswersToWrongFalsely : Prop := fnExactAnswersToRow.holds Try.pinned (OpenSpec.ofChange fnExactAnswersToWrong)

/-- 'laws.FnExactSameOuts': WHATEVER THE INPUT: true; the input reads as it did. -/
def fnExactSameOutsSpec : ChangeSpec := { name := "fnExactSameOuts", fn := fun _ => fun
  | [d1, d2] => { results := [.lit (.bool true)], args := [d1, d2] }
  | _ => none }
def fnExactSameOutsRow : OpenClaim := { program := "ytionofhbbjpffaa", sum := "3cb1db740a080f6655e54eec7a41b7d6ad9f78dc15e8ae04fb9a6b4817d688c1", func := "loop.example/g00665/laws.FnExactSameOuts", spec := "fnExactSameOuts", unfollowed := true, recurses := true, apart := false }
def FnExactSameOutsSaid : Prop := fnExactSameOutsRow.holds Try.pinned (OpenSpec.ofChange fnExactSameOutsSpec)

/-- ITS FALSE NEIGHBOUR: 'it returns false'. Refute it at one input. -/
def fnExactSameOutsWrong : ChangeSpec := { name := "fnExactSameOuts", fn := fun _ => fun
  | [d1, d2] => { results := [.lit (.bool false)], args := [d1, d2] }
  | _ => none }
def FnExactSameOutsWrongFalsely : Prop := fnExactSameOutsRow.holds Try.pinned (OpenSpec.ofChange fnExactSameOutsWrong)

/-- 'laws.FnExactNoteOutcome': WHATEVER THE INPUT: true; the input reads as it did. -/
def fnExactNoteOutcomeSpec : ChangeSpec := { name := "fnExactNoteOutcome", fn := fun _ => fun
  | [d1, d2, d3, d4] => { results := [.lit (.bool true)], args := [d1, d2, d3, d4] }
  | _ => none }
def fnExactNoteOutcomeRow : OpenClaim := { program := "ytionofhbbjpffaa", sum := "3cb1db740a080f6655e54eec7a41b7d6ad9f78dc15e8ae04fb9a6b4817d688c1", func := "loop.example/g00665/laws.FnExactNoteOutcome", spec := "fnExactNoteOutcome", unfollowed := true, recurses := true, apart := false }
def FnExactNoteOutcomeSaid : Prop := fnExactNoteOutcomeRow.holds Try.pinned (OpenSpec.ofChange fnExactNoteOutcomeSpec)

/-- ITS FALSE NEIGHBOUR: 'it returns false'. Refute it at one input. -/
def fnExactNoteOutcomeWrong : ChangeSpec := { name := "fnExactNoteOutcome", fn := fun _ => fun
  | [d1, d2, d3, d4] => { results := [.lit (.bool false)], args := [d1, d2, d3, d4] }
  | _ => none }
def FnExactNoteOutcomeWrongFalsely : Prop := fnExactNoteOutcomeRow.holds Try.pinned (OpenSpec.ofChange fnExactNoteOutcomeWrong)

/- THE SECOND FORM. 'bulk': how many values and letters a reading holds, each counted each time it is reached (what is shared counts as often as it is met; a slice's spare places count too). A statement '..UptoSaid' is the law's where the arguments, and the package variables that the reading takes, are together of bulk at most 1048576: NARROWER than '..Said'. Prove '..Said' where nothing that the law and all that it calls make is longer than what came in: it says more and counts as full. Else prove '..UptoSaid'. A law counts once. -/
mutual
def uptoBulk {H : Type} : DataW H → Nat
  | .lit (.string bytes) => bytes.length + 1
  | .lit _ => 1
  | .nil => 1
  | .ptr d => uptoBulk d + 1
  | .slice elems spare => uptoBulkAll elems + uptoBulkAll spare + 1
  | .agg parts => uptoBulkAll parts + 1
  | .iface _ d => uptoBulk d + 1
  | .map entries => uptoBulkEntries entries + 1
  | .held _ => 1
def uptoBulkAll {H : Type} : List (DataW H) → Nat
  | [] => 0
  | d :: r => uptoBulk d + uptoBulkAll r
def uptoBulkEntries {H : Type} : List (Lit × DataW H) → Nat
  | [] => 0
  | x :: r => uptoBulkEntry x + uptoBulkEntries r
def uptoBulkEntry {H : Type} : Lit × DataW H → Nat
  | (.string bytes, d) => bytes.length + uptoBulk d + 1
  | (_, d) => uptoBulk d + 1
 end
def uptoSmall : (H : Type) → List (DataW H) → Bool := fun _ ds => decide (uptoBulkAll ds ≤ 1048576)
def OpenSpec.upto (s : _root_.Go.ChangeSpec) : _root_.Go.OpenSpec := { _root_.Go.OpenSpec.ofChange s with cond := some uptoSmall }

/-- 'laws.FnExactErrorOf', WHERE WHAT IT READS IS OF BULK AT MOST 1048576: true; the input reads as it did. -/
def fnExactErrorOfUptoRow : OpenClaim := { program := "ytionofhbbjpffaa", sum := "3cb1db740a080f6655e54eec7a41b7d6ad9f78dc15e8ae04fb9a6b4817d688c1", func := "loop.example/g00665/laws.FnExactErrorOf", spec := "fnExactErrorOf", apart := false, narrowed := true }
def FnExactErrorOfUptoSaid : Prop := fnExactErrorOfUptoRow.holds Try.pinned (OpenSpec.upto fnExactErrorOfSpec)

/-- 'laws.FnExactFetchesIn', WHERE WHAT IT READS IS OF BULK AT MOST 1048576: true; the input reads as it did. -/
def fnExactFetchesInUptoRow : OpenClaim := { program := "ytionofhbbjpffaa", sum := "3cb1db740a080f6655e54eec7a41b7d6ad9f78dc15e8ae04fb9a6b4817d688c1", func := "loop.example/g00665/laws.FnExactFetchesIn", spec := "fnExactFetchesIn", unfollowed := true, recurses := true, apart := false, narrowed := true }
def FnExactFetchesInUptoSaid : Prop := fnExactFetchesInUptoRow.holds Try.pinned (OpenSpec.upto fnExactFetchesInSpec)

/-- 'laws.FnExactAnswersTo', WHERE WHAT IT READS IS OF BULK AT MOST 1048576: true; the input reads as it did. -/
def fnExactAnswersToUptoRow : OpenClaim := { program := "ytionofhbbjpffaa", sum := "3cb1db740a080f6655e54eec7a41b7d6ad9f78dc15e8ae04fb9a6b4817d688c1", func := "loop.example/g00665/laws.FnExactAnswersTo", spec := "fnExactAnswersTo", unfollowed := true, recurses := true, apart := false, narrowed := true }
def FnExactAnswersToUptoSaid : Prop := fnExactAnswersToUptoRow.holds Try.pinned (OpenSpec.upto fnExactAnswersToSpec)

/-- 'laws.FnExactSameOuts', WHERE WHAT IT READS IS OF BULK AT MOST 1048576: true; the input reads as it did. -/
def fnExactSameOutsUptoRow : OpenClaim := { program := "ytionofhbbjpffaa", sum := "3cb1db740a080f6655e54eec7a41b7d6ad9f78dc15e8ae04fb9a6b4817d688c1", func := "loop.example/g00665/laws.FnExactSameOuts", spec := "fnExactSameOuts", unfollowed := true, recurses := true, apart := false, narrowed := true }
def FnExactSameOutsUptoSaid : Prop := fnExactSameOutsUptoRow.holds Try.pinned (OpenSpec.upto fnExactSameOutsSpec)

/-- 'laws.FnExactNoteOutcome', WHERE WHAT IT READS IS OF BULK AT MOST 1048576: true; the input reads as it did. -/
def fnExactNoteOutcomeUptoRow : OpenClaim := { program := "ytionofhbbjpffaa", sum := "3cb1db740a080f6655e54eec7a41b7d6ad9f78dc15e8ae04fb9a6b4817d688c1", func := "loop.example/g00665/laws.FnExactNoteOutcome", spec := "fnExactNoteOutcome", unfollowed := true, recurses := true, apart := false, narrowed := true }
def FnExactNoteOutcomeUptoSaid : Prop := fnExactNoteOutcomeUptoRow.holds Try.pinned (OpenSpec.upto fnExactNoteOutcomeSpec)

end Rows
end Go.Proofs.Ytionofhbbjpffaa
