/-
  NARROWER THAN 'FOR EVERY INPUT', by the rows' own cells (each row's printed sentence says how): FnFinds: laid · FnExactFetchFor: laid · FnExactJoinFlight: laid · FnExactExpireWaiters: laid.
  DERIVED. THE GIVEN ROWS OF THIS SEAT. 4 by the template 'for every input the law returns true; each argument reads behind the call as it read before'; 0 by the template 'total and deterministic' (their statements: YtfdlhhgejahdcaaGreatDoorTotals.lean).
  GIVEN WITH THE SEED: the statements are not yours to turn. If you find one false, say at which input.
  Laid BY PROGRAM, IN A SANDBOX (cutbox-rows.mjs): the forced cells as the released guide's own fill.sh prints them over the translation c36ca981104ad006… (all of the seat's roots in one cut). By AI agents, Wed Nov 11 2026. No macro, syntax, notation, axiom, sorry.
-/
import Derived.Test.YtfdlhhgejahdcaaGreatDoorChecked
import GoSem.PinnedTables
import GoSem.Claim
import GoSem.ClaimJoined
import GoSem.ClaimMapViews
import Derived.JoinedTies
import Derived.KernelRfl
namespace Go.Proofs.YtfdlhhgejahdcaaGreatDoor
/- THE CELL 'sum', in the pinned program and in every row, IS THE sha256 OF THE DUMP (.gsa) THAT YtfdlhhgejahdcaaGreatDoorProg.lean LOADS. Nothing in Lean hashes anything: it is a label: what it is worth is what the hold of that sum in a sandbox is worth. -/
noncomputable def Tryz.pinned : Pinned := { name := "ytfdlhhgejahdcaagreatdoor", sum := "c36ca981104ad0068b1fdcf7bc10b53ada33055f0202485d4538e8ffd11a49c7", checked := Tryz.checked }
namespace Rows
def none {H : Type} : Left H := { results := [], args := [] }

/- WHAT THE LISTED PACKAGE-LEVEL VARIABLES READ AS WHEN THE CALL BEGINS. Each datum BY PROGRAM (the guide's laid-datum.mjs) off the statement by which the dump's own 'gosem.cut.vars' lays the variable. In a bare row this is a premise. The card (YtfdlhhgejahdcaaGreatDoorCards.lean) ties it to the program's text. -/
def laid_unicode_utf8_acceptRanges {H : Type} : DataW H := .agg [.agg [.lit (.int .u8 128), .lit (.int .u8 191)], .agg [.lit (.int .u8 160), .lit (.int .u8 191)], .agg [.lit (.int .u8 128), .lit (.int .u8 159)], .agg [.lit (.int .u8 144), .lit (.int .u8 191)], .agg [.lit (.int .u8 128), .lit (.int .u8 143)], .agg [.lit (.int .u8 0), .lit (.int .u8 0)], .agg [.lit (.int .u8 0), .lit (.int .u8 0)], .agg [.lit (.int .u8 0), .lit (.int .u8 0)], .agg [.lit (.int .u8 0), .lit (.int .u8 0)], .agg [.lit (.int .u8 0), .lit (.int .u8 0)], .agg [.lit (.int .u8 0), .lit (.int .u8 0)], .agg [.lit (.int .u8 0), .lit (.int .u8 0)], .agg [.lit (.int .u8 0), .lit (.int .u8 0)], .agg [.lit (.int .u8 0), .lit (.int .u8 0)], .agg [.lit (.int .u8 0), .lit (.int .u8 0)], .agg [.lit (.int .u8 0), .lit (.int .u8 0)]]
/-- One of Go's own tables, pinned by name: the form's constant. -/
def laid_unicode_utf8_first : DataW Unit := Go.Pinned.utf8First

/-- 'laws.FnFinds': WHATEVER THE INPUT: true; the input reads as it did. -/
def fnFindsSpec : ChangeSpec := { name := "fnFinds", fn := fun _ => fun
  | [d] => { results := [.lit (.bool true)], args := [d] }
  | _ => none }
def fnFindsRow : OpenClaim := { program := "ytfdlhhgejahdcaagreatdoor", sum := "c36ca981104ad0068b1fdcf7bc10b53ada33055f0202485d4538e8ffd11a49c7", func := "loop.example/g00665/laws.FnFinds", spec := "fnFinds", inPlace := ["internal/bytealg.IndexByteString", "internal/bytealg.IndexString"], unfollowed := true, recurses := true, named := ["unicode/utf8.first", "unicode/utf8.acceptRanges", "internal/bytealg.MaxLen"], apart := false, laid := [("unicode/utf8.acceptRanges", laid_unicode_utf8_acceptRanges), ("unicode/utf8.first", laid_unicode_utf8_first)] }
def FnFindsSaid : Prop := fnFindsRow.holds Tryz.pinned (OpenSpec.ofChange fnFindsSpec)

/-- ITS FALSE NEIGHBOUR: 'it returns false'. Refute it at one input. -/
def fnFindsWrong : ChangeSpec := { name := "fnFinds", fn := fun _ => fun
  | [d] => { results := [.lit (.bool false)], args := [d] }
  | _ => none }
def FnFindsWrongFalsely : Prop := fnFindsRow.holds Tryz.pinned (OpenSpec.ofChange fnFindsWrong)

/-- 'laws.FnExactFetchFor': WHATEVER THE INPUT: true; the input reads as it did. -/
def fnExactFetchForSpec : ChangeSpec := { name := "fnExactFetchFor", fn := fun _ => fun
  | [d1, d2, d3] => { results := [.lit (.bool true)], args := [d1, d2, d3] }
  | _ => none }
def fnExactFetchForRow : OpenClaim := { program := "ytfdlhhgejahdcaagreatdoor", sum := "c36ca981104ad0068b1fdcf7bc10b53ada33055f0202485d4538e8ffd11a49c7", func := "loop.example/g00665/laws.FnExactFetchFor", spec := "fnExactFetchFor", inPlace := ["internal/bytealg.IndexByteString", "internal/bytealg.IndexString"], unfollowed := true, recurses := true, named := ["unicode/utf8.first", "unicode/utf8.acceptRanges", "internal/bytealg.MaxLen"], apart := false, laid := [("unicode/utf8.acceptRanges", laid_unicode_utf8_acceptRanges), ("unicode/utf8.first", laid_unicode_utf8_first)] }
def FnExactFetchForSaid : Prop := fnExactFetchForRow.holds Tryz.pinned (OpenSpec.ofChange fnExactFetchForSpec)

/-- ITS FALSE NEIGHBOUR: 'it returns false'. Refute it at one input. -/
def fnExactFetchForWrong : ChangeSpec := { name := "fnExactFetchFor", fn := fun _ => fun
  | [d1, d2, d3] => { results := [.lit (.bool false)], args := [d1, d2, d3] }
  | _ => none }
def FnExactFetchForWrongFalsely : Prop := fnExactFetchForRow.holds Tryz.pinned (OpenSpec.ofChange fnExactFetchForWrong)

/-- 'laws.FnExactJoinFlight': WHATEVER THE INPUT: true; the input reads as it did. -/
def fnExactJoinFlightSpec : ChangeSpec := { name := "fnExactJoinFlight", fn := fun _ => fun
  | [d1, d2, d3] => { results := [.lit (.bool true)], args := [d1, d2, d3] }
  | _ => none }
def fnExactJoinFlightRow : OpenClaim := { program := "ytfdlhhgejahdcaagreatdoor", sum := "c36ca981104ad0068b1fdcf7bc10b53ada33055f0202485d4538e8ffd11a49c7", func := "loop.example/g00665/laws.FnExactJoinFlight", spec := "fnExactJoinFlight", inPlace := ["internal/bytealg.IndexByteString", "internal/bytealg.IndexString"], unfollowed := true, recurses := true, named := ["unicode/utf8.first", "unicode/utf8.acceptRanges", "internal/bytealg.MaxLen"], apart := false, laid := [("unicode/utf8.acceptRanges", laid_unicode_utf8_acceptRanges), ("unicode/utf8.first", laid_unicode_utf8_first)] }
def FnExactJoinFlightSaid : Prop := fnExactJoinFlightRow.holds Tryz.pinned (OpenSpec.ofChange fnExactJoinFlightSpec)

/-- ITS FALSE NEIGHBOUR: 'it returns false'. Refute it at one input. -/
def fnExactJoinFlightWrong : ChangeSpec := { name := "fnExactJoinFlight", fn := fun _ => fun
  | [d1, d2, d3] => { results := [.lit (.bool false)], args := [d1, d2, d3] }
  | _ => none }
def FnExactJoinFlightWrongFalsely : Prop := fnExactJoinFlightRow.holds Tryz.pinned (OpenSpec.ofChange fnExactJoinFlightWrong)

/-- 'laws.FnExactExpireWaiters': WHATEVER THE INPUT: true; the input reads as it did. -/
def fnExactExpireWaitersSpec : ChangeSpec := { name := "fnExactExpireWaiters", fn := fun _ => fun
  | [d1, d2] => { results := [.lit (.bool true)], args := [d1, d2] }
  | _ => none }
def fnExactExpireWaitersRow : OpenClaim := { program := "ytfdlhhgejahdcaagreatdoor", sum := "c36ca981104ad0068b1fdcf7bc10b53ada33055f0202485d4538e8ffd11a49c7", func := "loop.example/g00665/laws.FnExactExpireWaiters", spec := "fnExactExpireWaiters", inPlace := ["internal/bytealg.IndexByteString", "internal/bytealg.IndexString"], unfollowed := true, recurses := true, named := ["unicode/utf8.first", "unicode/utf8.acceptRanges", "internal/bytealg.MaxLen"], apart := false, laid := [("unicode/utf8.acceptRanges", laid_unicode_utf8_acceptRanges), ("unicode/utf8.first", laid_unicode_utf8_first)] }
def FnExactExpireWaitersSaid : Prop := fnExactExpireWaitersRow.holds Tryz.pinned (OpenSpec.ofChange fnExactExpireWaitersSpec)

/-- ITS FALSE NEIGHBOUR: 'it returns false'. Refute it at one input. -/
def fnExactExpireWaitersWrong : ChangeSpec := { name := "fnExactExpireWaiters", fn := fun _ => fun
  | [d1, d2] => { results := [.lit (.bool false)], args := [d1, d2] }
  | _ => none }
def FnExactExpireWaitersWrongFalsely : Prop := fnExactExpireWaitersRow.holds Tryz.pinned (OpenSpec.ofChange fnExactExpireWaitersWrong)

/- THE SECOND FORM. 'bulk': how many values and letters a reading holds, each counted each time it is reached (what is shared counts as often as it is met; a slice's spare places count too). A statement '..UptoSaid' is the law's where the arguments, and the package variables that the reading takes, are together of bulk at most 1048576: NARROWER than '..Said'. Prove '..Said' where nothing that the law and all that it calls make is longer than what came in: it says more and counts as full. Else prove '..UptoSaid'. A law counts once. -/
mutual
def uptoBulk {H : Type} : DataW H → Nat
  | .lit (.string bytes) => bytes.length + 1
  | .lit _ => 1
  | .nil => 1
  | .ptr d => uptoBulk d + 1
  | .slice elems spare => uptoBulkAll elems + uptoBulkAll spare + 1
  | .agg parts => uptoBulkAll parts + 1
  | .iface _ d => uptoBulk d + 1
  | .map entries => uptoBulkEntries entries + 1
  | .held _ => 1
def uptoBulkAll {H : Type} : List (DataW H) → Nat
  | [] => 0
  | d :: r => uptoBulk d + uptoBulkAll r
def uptoBulkEntries {H : Type} : List (Lit × DataW H) → Nat
  | [] => 0
  | x :: r => uptoBulkEntry x + uptoBulkEntries r
def uptoBulkEntry {H : Type} : Lit × DataW H → Nat
  | (.string bytes, d) => bytes.length + uptoBulk d + 1
  | (_, d) => uptoBulk d + 1
 end
def uptoSmall : (H : Type) → List (DataW H) → Bool := fun _ ds => decide (uptoBulkAll ds ≤ 1048576)
def OpenSpec.upto (s : _root_.Go.ChangeSpec) : _root_.Go.OpenSpec := { _root_.Go.OpenSpec.ofChange s with cond := some uptoSmall }

/-- 'laws.FnFinds', WHERE WHAT IT READS IS OF BULK AT MOST 1048576: true; the input reads as it did. -/
def fnFindsUptoRow : OpenClaim := { program := "ytfdlhhgejahdcaagreatdoor", sum := "c36ca981104ad0068b1fdcf7bc10b53ada33055f0202485d4538e8ffd11a49c7", func := "loop.example/g00665/laws.FnFinds", spec := "fnFinds", inPlace := ["internal/bytealg.IndexByteString", "internal/bytealg.IndexString"], unfollowed := true, recurses := true, named := ["unicode/utf8.first", "unicode/utf8.acceptRanges", "internal/bytealg.MaxLen"], apart := false, laid := [("unicode/utf8.acceptRanges", laid_unicode_utf8_acceptRanges), ("unicode/utf8.first", laid_unicode_utf8_first)], narrowed := true }
def FnFindsUptoSaid : Prop := fnFindsUptoRow.holds Tryz.pinned (OpenSpec.upto fnFindsSpec)

/-- 'laws.FnExactFetchFor', WHERE WHAT IT READS IS OF BULK AT MOST 1048576: true; the input reads as it did. -/
def fnExactFetchForUptoRow : OpenClaim := { program := "ytfdlhhgejahdcaagreatdoor", sum := "c36ca981104ad0068b1fdcf7bc10b53ada33055f0202485d4538e8ffd11a49c7", func := "loop.example/g00665/laws.FnExactFetchFor", spec := "fnExactFetchFor", inPlace := ["internal/bytealg.IndexByteString", "internal/bytealg.IndexString"], unfollowed := true, recurses := true, named := ["unicode/utf8.first", "unicode/utf8.acceptRanges", "internal/bytealg.MaxLen"], apart := false, laid := [("unicode/utf8.acceptRanges", laid_unicode_utf8_acceptRanges), ("unicode/utf8.first", laid_unicode_utf8_first)], narrowed := true }
def FnExactFetchForUptoSaid : Prop := fnExactFetchForUptoRow.holds Tryz.pinned (OpenSpec.upto fnExactFetchForSpec)

/-- 'laws.FnExactJoinFlight', WHERE WHAT IT READS IS OF BULK AT MOST 1048576: true; the input reads as it did. -/
def fnExactJoinFlightUptoRow : OpenClaim := { program := "ytfdlhhgejahdcaagreatdoor", sum := "c36ca981104ad0068b1fdcf7bc10b53ada33055f0202485d4538e8ffd11a49c7", func := "loop.example/g00665/laws.FnExactJoinFlight", spec := "fnExactJoinFlight", inPlace := ["internal/bytealg.IndexByteString", "internal/bytealg.IndexString"], unfollowed := true, recurses := true, named := ["unicode/utf8.first", "unicode/utf8.acceptRanges", "internal/bytealg.MaxLen"], apart := false, laid := [("unicode/utf8.acceptRanges", laid_unicode_utf8_acceptRanges), ("unicode/utf8.first", laid_unicode_utf8_first)], narrowed := true }
def FnExactJoinFlightUptoSaid : Prop := fnExactJoinFlightUptoRow.holds Tryz.pinned (OpenSpec.upto fnExactJoinFlightSpec)

/-- 'laws.FnExactExpireWaiters', WHERE WHAT IT READS IS OF BULK AT MOST 1048576: true; the input reads as it did. -/
def fnExactExpireWaitersUptoRow : OpenClaim := { program := "ytfdlhhgejahdcaagreatdoor", sum := "c36ca981104ad0068b1fdcf7bc10b53ada33055f0202485d4538e8ffd11a49c7", func := "loop.example/g00665/laws.FnExactExpireWaiters", spec := "fnExactExpireWaiters", inPlace := ["internal/bytealg.IndexByteString", "internal/bytealg.IndexString"], unfollowed := true, recurses := true, named := ["unicode/utf8.first", "unicode/utf8.acceptRanges", "internal/bytealg.MaxLen"], apart := false, laid := [("unicode/utf8.acceptRanges", laid_unicode_utf8_acceptRanges), ("unicode/utf8.first", laid_unicode_utf8_first)], narrowed := true }
def FnExactExpireWaitersUptoSaid : Prop := fnExactExpireWaitersUptoRow.holds Tryz.pinned (OpenSpec.upto fnExactExpireWaitersSpec)

end Rows
end Go.Proofs.YtfdlhhgejahdcaaGreatDoor
