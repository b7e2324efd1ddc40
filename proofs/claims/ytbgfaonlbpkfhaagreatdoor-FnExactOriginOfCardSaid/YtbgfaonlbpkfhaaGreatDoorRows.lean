/-
  NARROWER THAN 'FOR EVERY INPUT', by the rows' own cells (each row's printed sentence says how): FnExactNewShield: laid · FnExactShieldFault: laid · FnExactOutTo: laid · FnExactWaitingIn: laid · FnExactOriginOf: laid.
  DERIVED. THE GIVEN ROWS OF THIS SEAT. 5 by the template 'for every input the law returns true; each argument reads behind the call as it read before'; 0 by the template 'total and deterministic' (their statements: YtbgfaonlbpkfhaaGreatDoorTotals.lean).
  GIVEN WITH THE SEED: the statements are not yours to turn. If you find one false, say at which input.
  Laid BY PROGRAM, IN A SANDBOX (cutbox-rows.mjs): the forced cells as the released guide's own fill.sh prints them over the translation 78c47ae8b8b076a9… (all of the seat's roots in one cut). By AI agents, Wed Nov 11 2026. No macro, syntax, notation, axiom, sorry.
-/
import Derived.Test.YtbgfaonlbpkfhaaGreatDoorChecked
import GoSem.PinnedTables
import GoSem.Claim
import GoSem.ClaimJoined
import GoSem.ClaimMapViews
import Derived.JoinedTies
import Derived.KernelRfl
namespace Go.Proofs.YtbgfaonlbpkfhaaGreatDoor
/- THE CELL 'sum', in the pinned program and in every row, IS THE sha256 OF THE DUMP (.gsa) THAT YtbgfaonlbpkfhaaGreatDoorProg.lean LOADS. Nothing in Lean hashes anything: it is a label: what it is worth is what the hold of that sum in a sandbox is worth. -/
noncomputable def Tryz.pinned : Pinned := { name := "ytbgfaonlbpkfhaagreatdoor", sum := "78c47ae8b8b076a90e1378c1b32d07ad76877b49cd44c56284c6cf6e28be9805", checked := Tryz.checked }
namespace Rows
def none {H : Type} : Left H := { results := [], args := [] }

/- WHAT THE LISTED PACKAGE-LEVEL VARIABLES READ AS WHEN THE CALL BEGINS. Each datum BY PROGRAM (the guide's laid-datum.mjs) off the statement by which the dump's own 'gosem.cut.vars' lays the variable. In a bare row this is a premise. The card (YtbgfaonlbpkfhaaGreatDoorCards.lean) ties it to the program's text. -/
def laid_unicode_utf8_acceptRanges {H : Type} : DataW H := .agg [.agg [.lit (.int .u8 128), .lit (.int .u8 191)], .agg [.lit (.int .u8 160), .lit (.int .u8 191)], .agg [.lit (.int .u8 128), .lit (.int .u8 159)], .agg [.lit (.int .u8 144), .lit (.int .u8 191)], .agg [.lit (.int .u8 128), .lit (.int .u8 143)], .agg [.lit (.int .u8 0), .lit (.int .u8 0)], .agg [.lit (.int .u8 0), .lit (.int .u8 0)], .agg [.lit (.int .u8 0), .lit (.int .u8 0)], .agg [.lit (.int .u8 0), .lit (.int .u8 0)], .agg [.lit (.int .u8 0), .lit (.int .u8 0)], .agg [.lit (.int .u8 0), .lit (.int .u8 0)], .agg [.lit (.int .u8 0), .lit (.int .u8 0)], .agg [.lit (.int .u8 0), .lit (.int .u8 0)], .agg [.lit (.int .u8 0), .lit (.int .u8 0)], .agg [.lit (.int .u8 0), .lit (.int .u8 0)], .agg [.lit (.int .u8 0), .lit (.int .u8 0)]]
/-- One of Go's own tables, pinned by name: the form's constant. -/
def laid_unicode_utf8_first : DataW Unit := Go.Pinned.utf8First

/-- 'laws.FnExactNewShield': WHATEVER THE INPUT: true; the input reads as it did. -/
def fnExactNewShieldSpec : ChangeSpec := { name := "fnExactNewShield", fn := fun _ => fun
  | [d] => { results := [.lit (.bool true)], args := [d] }
  | _ => none }
def fnExactNewShieldRow : OpenClaim := { program := "ytbgfaonlbpkfhaagreatdoor", sum := "78c47ae8b8b076a90e1378c1b32d07ad76877b49cd44c56284c6cf6e28be9805", func := "loop.example/g00665/laws.FnExactNewShield", spec := "fnExactNewShield", inPlace := ["internal/bytealg.IndexByteString", "internal/bytealg.IndexString", "internal/abi.NoEscape"], unfollowed := true, recurses := true, named := ["unicode/utf8.first", "unicode/utf8.acceptRanges", "internal/bytealg.MaxLen"], apart := false, laid := [("unicode/utf8.acceptRanges", laid_unicode_utf8_acceptRanges), ("unicode/utf8.first", laid_unicode_utf8_first)] }
def FnExactNewShieldSaid : Prop := fnExactNewShieldRow.holds Tryz.pinned (OpenSpec.ofChange fnExactNewShieldSpec)

/-- ITS FALSE NEIGHBOUR: 'it returns false'. Refute it at one input. -/
def fnExactNewShieldWrong : ChangeSpec := { name := "fnExactNewShield", fn := fun _ => fun
  | [d] => { results := [.lit (.bool false)], args := [d] }
  | _ => none }
def FnExactNewShieldWrongFalsely : Prop := fnExactNewShieldRow.holds Tryz.pinned (OpenSpec.ofChange fnExactNewShieldWrong)

/-- 'laws.FnExactShieldFault': WHATEVER THE INPUT: true; the input reads as it did. -/
def fnExactShieldFaultSpec : ChangeSpec := { name := "fnExactShieldFault", fn := fun _ => fun
  | [d] => { results := [.lit (.bool true)], args := [d] }
  | _ => none }
def fnExactShieldFaultRow : OpenClaim := { program := "ytbgfaonlbpkfhaagreatdoor", sum := "78c47ae8b8b076a90e1378c1b32d07ad76877b49cd44c56284c6cf6e28be9805", func := "loop.example/g00665/laws.FnExactShieldFault", spec := "fnExactShieldFault", inPlace := ["internal/bytealg.IndexByteString", "internal/bytealg.IndexString", "internal/abi.NoEscape"], unfollowed := true, recurses := true, named := ["unicode/utf8.first", "unicode/utf8.acceptRanges", "internal/bytealg.MaxLen"], apart := false, laid := [("unicode/utf8.acceptRanges", laid_unicode_utf8_acceptRanges), ("unicode/utf8.first", laid_unicode_utf8_first)] }
def FnExactShieldFaultSaid : Prop := fnExactShieldFaultRow.holds Tryz.pinned (OpenSpec.ofChange fnExactShieldFaultSpec)

/-- ITS FALSE NEIGHBOUR: 'it returns false'. Refute it at one input. -/
def fnExactShieldFaultWrong : ChangeSpec := { name := "fnExactShieldFault", fn := fun _ => fun
  | [d] => { results := [.lit (.bool false)], args := [d] }
  | _ => none }
def FnExactShieldFaultWrongFalsely : Prop := fnExactShieldFaultRow.holds Tryz.pinned (OpenSpec.ofChange fnExactShieldFaultWrong)

/-- 'laws.FnExactOutTo': WHATEVER THE INPUT: true; the input reads as it did. -/
def fnExactOutToSpec : ChangeSpec := { name := "fnExactOutTo", fn := fun _ => fun
  | [d1, d2] => { results := [.lit (.bool true)], args := [d1, d2] }
  | _ => none }
def fnExactOutToRow : OpenClaim := { program := "ytbgfaonlbpkfhaagreatdoor", sum := "78c47ae8b8b076a90e1378c1b32d07ad76877b49cd44c56284c6cf6e28be9805", func := "loop.example/g00665/laws.FnExactOutTo", spec := "fnExactOutTo", inPlace := ["internal/bytealg.IndexByteString", "internal/bytealg.IndexString", "internal/abi.NoEscape"], unfollowed := true, recurses := true, named := ["unicode/utf8.first", "unicode/utf8.acceptRanges", "internal/bytealg.MaxLen"], apart := false, laid := [("unicode/utf8.acceptRanges", laid_unicode_utf8_acceptRanges), ("unicode/utf8.first", laid_unicode_utf8_first)] }
def FnExactOutToSaid : Prop := fnExactOutToRow.holds Tryz.pinned (OpenSpec.ofChange fnExactOutToSpec)

/-- ITS FALSE NEIGHBOUR: 'it returns false'. Refute it at one input. -/
def fnExactOutToWrong : ChangeSpec := { name := "fnExactOutTo", fn := fun _ => fun
  | [d1, d2] => { results := [.lit (.bool false)], args := [d1, d2] }
  | _ => none }
def FnExactOutToWrongFalsely : Prop := fnExactOutToRow.holds Tryz.pinned (OpenSpec.ofChange fnExactOutToWrong)

/-- 'laws.FnExactWaitingIn': WHATEVER THE INPUT: true; the input reads as it did. -/
def fnExactWaitingInSpec : ChangeSpec := { name := "fnExactWaitingIn", fn := fun _ => fun
  | [d] => { results := [.lit (.bool true)], args := [d] }
  | _ => none }
def fnExactWaitingInRow : OpenClaim := { program := "ytbgfaonlbpkfhaagreatdoor", sum := "78c47ae8b8b076a90e1378c1b32d07ad76877b49cd44c56284c6cf6e28be9805", func := "loop.example/g00665/laws.FnExactWaitingIn", spec := "fnExactWaitingIn", inPlace := ["internal/bytealg.IndexByteString", "internal/bytealg.IndexString", "internal/abi.NoEscape"], unfollowed := true, recurses := true, named := ["unicode/utf8.first", "unicode/utf8.acceptRanges", "internal/bytealg.MaxLen"], apart := false, laid := [("unicode/utf8.acceptRanges", laid_unicode_utf8_acceptRanges), ("unicode/utf8.first", laid_unicode_utf8_first)] }
def FnExactWaitingInSaid : Prop := fnExactWaitingInRow.holds Tryz.pinned (OpenSpec.ofChange fnExactWaitingInSpec)

/-- ITS FALSE NEIGHBOUR: 'it returns false'. Refute it at one input. -/
def fnExactWaitingInWrong : ChangeSpec := { name := "fnExactWaitingIn", fn := fun _ => fun
  | [d] => { results := [.lit (.bool false)], args := [d] }
  | _ => none }
def FnExactWaitingInWrongFalsely : Prop := fnExactWaitingInRow.holds Tryz.pinned (OpenSpec.ofChange fnExactWaitingInWrong)

/-- 'laws.FnExactOriginOf': WHATEVER THE INPUT: true; the input reads as it did. -/
def fnExactOriginOfSpec : ChangeSpec := { name := "fnExactOriginOf", fn := fun _ => fun
  | [d1, d2] => { results := [.lit (.bool true)], args := [d1, d2] }
  | _ => none }
def fnExactOriginOfRow : OpenClaim := { program := "ytbgfaonlbpkfhaagreatdoor", sum := "78c47ae8b8b076a90e1378c1b32d07ad76877b49cd44c56284c6cf6e28be9805", func := "loop.example/g00665/laws.FnExactOriginOf", spec := "fnExactOriginOf", inPlace := ["internal/bytealg.IndexByteString", "internal/bytealg.IndexString", "internal/abi.NoEscape"], unfollowed := true, recurses := true, named := ["unicode/utf8.first", "unicode/utf8.acceptRanges", "internal/bytealg.MaxLen"], apart := false, laid := [("unicode/utf8.acceptRanges", laid_unicode_utf8_acceptRanges), ("unicode/utf8.first", laid_unicode_utf8_first)] }
def FnExactOriginOfSaid : Prop := fnExactOriginOfRow.holds Tryz.pinned (OpenSpec.ofChange fnExactOriginOfSpec)

/-- ITS FALSE NEIGHBOUR: 'it returns false'. Refute it at one input. -/
def fnExactOriginOfWrong : ChangeSpec := { name := "fnExactOriginOf", fn := fun _ => fun
  | [d1, d2] => { results := [.lit (.bool false)], args := [d1, d2] }
  | _ => none }
def FnExactOriginOfWrongFalsely : Prop := fnExactOriginOfRow.holds Tryz.pinned (OpenSpec.ofChange fnExactOriginOfWrong)

/- THE SECOND FORM. 'bulk': how many values and letters a reading holds, each counted each time it is reached (what is shared counts as often as it is met; a slice's spare places count too). A statement '..UptoSaid' is the law's where the arguments, and the package variables that the reading takes, are together of bulk at most 1048576: NARROWER than '..Said'. Prove '..Said' where nothing that the law and all that it calls make is longer than what came in: it says more and counts as full. Else prove '..UptoSaid'. A law counts once. -/
mutual
def uptoBulk {H : Type} : DataW H → Nat
  | .lit (.string bytes) => bytes.length + 1
  | .lit _ => 1
  | .nil => 1
  | .ptr d => uptoBulk d + 1
  | .slice elems spare => uptoBulkAll elems + uptoBulkAll spare + 1
  | .agg parts => uptoBulkAll parts + 1
  | .iface _ d => uptoBulk d + 1
  | .map entries => uptoBulkEntries entries + 1
  | .held _ => 1
def uptoBulkAll {H : Type} : List (DataW H) → Nat
  | [] => 0
  | d :: r => uptoBulk d + uptoBulkAll r
def uptoBulkEntries {H : Type} : List (Lit × DataW H) → Nat
  | [] => 0
  | x :: r => uptoBulkEntry x + uptoBulkEntries r
def uptoBulkEntry {H : Type} : Lit × DataW H → Nat
  | (.string bytes, d) => bytes.length + uptoBulk d + 1
  | (_, d) => uptoBulk d + 1
 end
def uptoSmall : (H : Type) → List (DataW H) → Bool := fun _ ds => decide (uptoBulkAll ds ≤ 1048576)
def OpenSpec.upto (s : _root_.Go.ChangeSpec) : _root_.Go.OpenSpec := { _root_.Go.OpenSpec.ofChange s with cond := some uptoSmall }

/-- 'laws.FnExactNewShield', WHERE WHAT IT READS IS OF BULK AT MOST 1048576: true; the input reads as it did. -/
def fnExactNewShieldUptoRow : OpenClaim := { program := "ytbgfaonlbpkfhaagreatdoor", sum := "78c47ae8b8b076a90e1378c1b32d07ad76877b49cd44c56284c6cf6e28be9805", func := "loop.example/g00665/laws.FnExactNewShield", spec := "fnExactNewShield", inPlace := ["internal/bytealg.IndexByteString", "internal/bytealg.IndexString", "internal/abi.NoEscape"], unfollowed := true, recurses := true, named := ["unicode/utf8.first", "unicode/utf8.acceptRanges", "internal/bytealg.MaxLen"], apart := false, laid := [("unicode/utf8.acceptRanges", laid_unicode_utf8_acceptRanges), ("unicode/utf8.first", laid_unicode_utf8_first)], narrowed := true }
def FnExactNewShieldUptoSaid : Prop := fnExactNewShieldUptoRow.holds Tryz.pinned (OpenSpec.upto fnExactNewShieldSpec)

/-- 'laws.FnExactShieldFault', WHERE WHAT IT READS IS OF BULK AT MOST 1048576: true; the input reads as it did. -/
def fnExactShieldFaultUptoRow : OpenClaim := { program := "ytbgfaonlbpkfhaagreatdoor", sum := "78c47ae8b8b076a90e1378c1b32d07ad76877b49cd44c56284c6cf6e28be9805", func := "loop.example/g00665/laws.FnExactShieldFault", spec := "fnExactShieldFault", inPlace := ["internal/bytealg.IndexByteString", "internal/bytealg.IndexString", "internal/abi.NoEscape"], unfollowed := true, recurses := true, named := ["unicode/utf8.first", "unicode/utf8.acceptRanges", "internal/bytealg.MaxLen"], apart := false, laid := [("unicode/utf8.acceptRanges", laid_unicode_utf8_acceptRanges), ("unicode/utf8.first", laid_unicode_utf8_first)], narrowed := true }
def FnExactShieldFaultUptoSaid : Prop := fnExactShieldFaultUptoRow.holds Tryz.pinned (OpenSpec.upto fnExactShieldFaultSpec)

/-- 'laws.FnExactOutTo', WHERE WHAT IT READS IS OF BULK AT MOST 1048576: true; the input reads as it did. -/
def fnExactOutToUptoRow : OpenClaim := { program := "ytbgfaonlbpkfhaagreatdoor", sum := "78c47ae8b8b076a90e1378c1b32d07ad76877b49cd44c56284c6cf6e28be9805", func := "loop.example/g00665/laws.FnExactOutTo", spec := "fnExactOutTo", inPlace := ["internal/bytealg.IndexByteString", "internal/bytealg.IndexString", "internal/abi.NoEscape"], unfollowed := true, recurses := true, named := ["unicode/utf8.first", "unicode/utf8.acceptRanges", "internal/bytealg.MaxLen"], apart := false, laid := [("unicode/utf8.acceptRanges", laid_unicode_utf8_acceptRanges), ("unicode/utf8.first", laid_unicode_utf8_first)], narrowed := true }
def FnExactOutToUptoSaid : Prop := fnExactOutToUptoRow.holds Tryz.pinned (OpenSpec.upto fnExactOutToSpec)

/-- 'laws.FnExactWaitingIn', WHERE WHAT IT READS IS OF BULK AT MOST 1048576: true; the input reads as it did. -/
def fnExactWaitingInUptoRow : OpenClaim := { program := "ytbgfaonlbpkfhaagreatdoor", sum := "78c47ae8b8b076a90e1378c1b32d07ad76877b49cd44c56284c6cf6e28be9805", func := "loop.example/g00665/laws.FnExactWaitingIn", spec := "fnExactWaitingIn", inPlace := ["internal/bytealg.IndexByteString", "internal/bytealg.IndexString", "internal/abi.NoEscape"], unfollowed := true, recurses := true, named := ["unicode/utf8.first", "unicode/utf8.acceptRanges", "internal/bytealg.MaxLen"], apart := false, laid := [("unicode/utf8.acceptRanges", laid_unicode_utf8_acceptRanges), ("unicode/utf8.first", laid_unicode_utf8_first)], narrowed := true }
def FnExactWaitingInUptoSaid : Prop := fnExactWaitingInUptoRow.holds Tryz.pinned (OpenSpec.upto fnExactWaitingInSpec)

/-- 'laws.FnExactOriginOf', WHERE WHAT IT READS IS OF BULK AT MOST 1048576: true; the input reads as it did. -/
def fnExactOriginOfUptoRow : OpenClaim := { program := "ytbgfaonlbpkfhaagreatdoor", sum := "78c47ae8b8b076a90e1378c1b32d07ad76877b49cd44c56284c6cf6e28be9805", func := "loop.example/g00665/laws.FnExactOriginOf", spec := "fnExactOriginOf", inPlace := ["internal/bytealg.IndexByteString", "internal/bytealg.IndexString", "internal/abi.NoEscape"], unfollowed := true, recurses := true, named := ["unicode/utf8.first", "unicode/utf8.acceptRanges", "internal/bytealg.MaxLen"], apart := false, laid := [("unicode/utf8.acceptRanges", laid_unicode_utf8_acceptRanges), ("unicode/utf8.first", laid_unicode_utf8_first)], narrowed := true }
def FnExactOriginOfUptoSaid : Prop := fnExactOriginOfUptoRow.holds Tryz.pinned (OpenSpec.upto fnExactOriginOfSpec)

end Rows
end Go.Proofs.YtbgfaonlbpkfhaaGreatDoor
