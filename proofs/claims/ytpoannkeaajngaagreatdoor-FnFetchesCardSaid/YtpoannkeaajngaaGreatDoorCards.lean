/-
  DERIVED. GIVEN WITH THE SEED: THE CARDS: each row of YtpoannkeaajngaaGreatDoorRows.lean that lists a variable, with what it lists TIED to the program's text (the seventh form; the later family's looks); each row that meets fmt, with fmt's text TOLD by the authors' own Lean function (tested against real Go, not proved from fmt's source: count such statements apart). THE CARD IS WHAT COUNTS. Prove the row's statement (the work); the ties are given (YtpoannkeaajngaaGreatDoorTie.lean); close each card by the builder's one call (the guide's Derived/Test/ToyasCard.lean, 'card_holds'). Laid BY PROGRAM, IN A SANDBOX (cutbox-door.mjs). By AI agents, Wed Nov 11 2026. No macro, syntax, notation, axiom, sorry.
-/
import Derived.Test.YtpoannkeaajngaaGreatDoorRows
import GoSem.ClaimSeven
namespace Go.Proofs.YtpoannkeaajngaaGreatDoor
namespace Rows

/-- THE TIED CARD OF 'laws.FnFetches'. -/
def fnFetchesCard : Claim7 := { stood := { row := fnFetchesRow, standIns := [], harness := (true, "08a0f87a99e44562382d5dae8826946144636f5a5470fb394046ab1b0473da36"), looks := false }, kinds := [], alts := [], laidByText := true, laidKinds := [.data, .pinned], laidTests := true, laidLooks := .later }
def FnFetchesCardSaid : Prop := Claim7.holds Tryz.pinned (.plain (OpenSpec.ofChange fnFetchesSpec)) fnFetchesCard

/-- THE TIED CARD OF 'laws.FnExactEventOf'. -/
def fnExactEventOfCard : Claim7 := { stood := { row := fnExactEventOfRow, standIns := [], harness := (true, "08a0f87a99e44562382d5dae8826946144636f5a5470fb394046ab1b0473da36"), looks := false }, kinds := [], alts := [], laidByText := true, laidKinds := [.data, .pinned], laidTests := true, laidLooks := .later }
def FnExactEventOfCardSaid : Prop := Claim7.holds Tryz.pinned (.plain (OpenSpec.ofChange fnExactEventOfSpec)) fnExactEventOfCard

/-- THE SECOND FORM's CARD OF 'laws.FnFetches'. -/
def fnFetchesUptoCard : Claim7 := { stood := { row := fnFetchesUptoRow, standIns := [], harness := (true, "08a0f87a99e44562382d5dae8826946144636f5a5470fb394046ab1b0473da36"), looks := false }, kinds := [], alts := [], laidByText := true, laidKinds := [.data, .pinned], laidTests := true, laidLooks := .later }
def FnFetchesUptoCardSaid : Prop := Claim7.holds Tryz.pinned (.plain (OpenSpec.upto fnFetchesSpec)) fnFetchesUptoCard

/-- THE SECOND FORM's CARD OF 'laws.FnExactEventOf'. -/
def fnExactEventOfUptoCard : Claim7 := { stood := { row := fnExactEventOfUptoRow, standIns := [], harness := (true, "08a0f87a99e44562382d5dae8826946144636f5a5470fb394046ab1b0473da36"), looks := false }, kinds := [], alts := [], laidByText := true, laidKinds := [.data, .pinned], laidTests := true, laidLooks := .later }
def FnExactEventOfUptoCardSaid : Prop := Claim7.holds Tryz.pinned (.plain (OpenSpec.upto fnExactEventOfSpec)) fnExactEventOfUptoCard
end Rows
end Go.Proofs.YtpoannkeaajngaaGreatDoor
