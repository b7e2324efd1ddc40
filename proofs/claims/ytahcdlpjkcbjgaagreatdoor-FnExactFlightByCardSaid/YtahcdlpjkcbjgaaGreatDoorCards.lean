/-
  DERIVED. GIVEN WITH THE SEED: THE CARDS: each row of YtahcdlpjkcbjgaaGreatDoorRows.lean that lists a variable, with what it lists TIED to the program's text (the seventh form; the later family's looks); each row that meets fmt, with fmt's text TOLD by the authors' own Lean function (tested against real Go, not proved from fmt's source: count such statements apart). THE CARD IS WHAT COUNTS. Prove the row's statement (the work); the ties are given (YtahcdlpjkcbjgaaGreatDoorTie.lean); close each card by the builder's one call (the guide's Derived/Test/ToyasCard.lean, 'card_holds'). Laid BY PROGRAM, IN A SANDBOX (cutbox-door.mjs). By AI agents, Wed Nov 11 2026. No macro, syntax, notation, axiom, sorry.
-/
import Derived.Test.YtahcdlpjkcbjgaaGreatDoorRows
import GoSem.ClaimSeven
namespace Go.Proofs.YtahcdlpjkcbjgaaGreatDoor
namespace Rows

/-- THE TIED CARD OF 'laws.FnExactConfigFault'. -/
def fnExactConfigFaultCard : Claim7 := { stood := { row := fnExactConfigFaultRow, standIns := [], harness := (true, "0364ccb4a74a44cbcc6e6865206e3970bd8f746cec292b9139f0fb60fa7f3b19"), looks := false }, kinds := [], alts := [], laidByText := true, laidKinds := [.data, .pinned], laidTests := true, laidLooks := .later }
def FnExactConfigFaultCardSaid : Prop := Claim7.holds Tryz.pinned (.plain (OpenSpec.ofChange fnExactConfigFaultSpec)) fnExactConfigFaultCard

/-- THE TIED CARD OF 'laws.FnExactFlightOf'. -/
def fnExactFlightOfCard : Claim7 := { stood := { row := fnExactFlightOfRow, standIns := [], harness := (true, "0364ccb4a74a44cbcc6e6865206e3970bd8f746cec292b9139f0fb60fa7f3b19"), looks := false }, kinds := [], alts := [], laidByText := true, laidKinds := [.data, .pinned], laidTests := true, laidLooks := .later }
def FnExactFlightOfCardSaid : Prop := Claim7.holds Tryz.pinned (.plain (OpenSpec.ofChange fnExactFlightOfSpec)) fnExactFlightOfCard

/-- THE TIED CARD OF 'laws.FnExactFlightBy'. -/
def fnExactFlightByCard : Claim7 := { stood := { row := fnExactFlightByRow, standIns := [], harness := (true, "0364ccb4a74a44cbcc6e6865206e3970bd8f746cec292b9139f0fb60fa7f3b19"), looks := false }, kinds := [], alts := [], laidByText := true, laidKinds := [.data, .pinned], laidTests := true, laidLooks := .later }
def FnExactFlightByCardSaid : Prop := Claim7.holds Tryz.pinned (.plain (OpenSpec.ofChange fnExactFlightBySpec)) fnExactFlightByCard

/-- THE SECOND FORM's CARD OF 'laws.FnExactConfigFault'. -/
def fnExactConfigFaultUptoCard : Claim7 := { stood := { row := fnExactConfigFaultUptoRow, standIns := [], harness := (true, "0364ccb4a74a44cbcc6e6865206e3970bd8f746cec292b9139f0fb60fa7f3b19"), looks := false }, kinds := [], alts := [], laidByText := true, laidKinds := [.data, .pinned], laidTests := true, laidLooks := .later }
def FnExactConfigFaultUptoCardSaid : Prop := Claim7.holds Tryz.pinned (.plain (OpenSpec.upto fnExactConfigFaultSpec)) fnExactConfigFaultUptoCard

/-- THE SECOND FORM's CARD OF 'laws.FnExactFlightOf'. -/
def fnExactFlightOfUptoCard : Claim7 := { stood := { row := fnExactFlightOfUptoRow, standIns := [], harness := (true, "0364ccb4a74a44cbcc6e6865206e3970bd8f746cec292b9139f0fb60fa7f3b19"), looks := false }, kinds := [], alts := [], laidByText := true, laidKinds := [.data, .pinned], laidTests := true, laidLooks := .later }
def FnExactFlightOfUptoCardSaid : Prop := Claim7.holds Tryz.pinned (.plain (OpenSpec.upto fnExactFlightOfSpec)) fnExactFlightOfUptoCard

/-- THE SECOND FORM's CARD OF 'laws.FnExactFlightBy'. -/
def fnExactFlightByUptoCard : Claim7 := { stood := { row := fnExactFlightByUptoRow, standIns := [], harness := (true, "0364ccb4a74a44cbcc6e6865206e3970bd8f746cec292b9139f0fb60fa7f3b19"), looks := false }, kinds := [], alts := [], laidByText := true, laidKinds := [.data, .pinned], laidTests := true, laidLooks := .later }
def FnExactFlightByUptoCardSaid : Prop := Claim7.holds Tryz.pinned (.plain (OpenSpec.upto fnExactFlightBySpec)) fnExactFlightByUptoCard
end Rows
end Go.Proofs.YtahcdlpjkcbjgaaGreatDoor
