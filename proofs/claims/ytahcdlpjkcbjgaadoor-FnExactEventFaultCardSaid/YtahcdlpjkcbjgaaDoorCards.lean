/-
  DERIVED. GIVEN WITH THE SEED: THE CARDS: each row of YtahcdlpjkcbjgaaDoorRows.lean that lists a variable, with what it lists TIED to the program's text (the seventh form; the later family's looks); each row that meets fmt, with fmt's text TOLD by the authors' own Lean function (tested against real Go, not proved from fmt's source: count such statements apart). THE CARD IS WHAT COUNTS. Prove the row's statement (the work); the ties are given (YtahcdlpjkcbjgaaDoorTie.lean); close each card by the builder's one call (the guide's Derived/Test/ToyasCard.lean, 'card_holds'). Laid BY PROGRAM, IN A SANDBOX (cutbox-door.mjs). By AI agents, Wed Nov 11 2026. No macro, syntax, notation, axiom, sorry.
-/
import Derived.Test.YtahcdlpjkcbjgaaDoorRows
import GoSem.ClaimSeven
namespace Go.Proofs.YtahcdlpjkcbjgaaDoor
namespace Rows

/-- THE TIED CARD OF 'laws.FnExactOutText'. -/
def fnExactOutTextCard : Claim7 := { stood := { row := fnExactOutTextRow, standIns := [], harness := (true, "8f9695b28edbadc3cfe828b8e272a3b5a1e3947e0451f8edb0a09c84ee28e66d"), looks := false }, kinds := [], alts := [], laidByText := true, laidKinds := [.data, .data, .data], laidTests := true, laidLooks := .later }
def FnExactOutTextCardSaid : Prop := Claim7.holds Tryd.pinned (.plain (OpenSpec.ofChange fnExactOutTextSpec)) fnExactOutTextCard

/-- THE TIED CARD OF 'laws.FnExactEventFault'. -/
def fnExactEventFaultCard : Claim7 := { stood := { row := fnExactEventFaultRow, standIns := [], harness := (true, "8f9695b28edbadc3cfe828b8e272a3b5a1e3947e0451f8edb0a09c84ee28e66d"), looks := false }, kinds := [], alts := [], laidByText := true, laidKinds := [.data, .pinned], laidTests := true, laidLooks := .later }
def FnExactEventFaultCardSaid : Prop := Claim7.holds Tryd.pinned (.plain (OpenSpec.ofChange fnExactEventFaultSpec)) fnExactEventFaultCard

/-- THE SECOND FORM's CARD OF 'laws.FnExactOutText'. -/
def fnExactOutTextUptoCard : Claim7 := { stood := { row := fnExactOutTextUptoRow, standIns := [], harness := (true, "8f9695b28edbadc3cfe828b8e272a3b5a1e3947e0451f8edb0a09c84ee28e66d"), looks := false }, kinds := [], alts := [], laidByText := true, laidKinds := [.data, .data, .data], laidTests := true, laidLooks := .later }
def FnExactOutTextUptoCardSaid : Prop := Claim7.holds Tryd.pinned (.plain (OpenSpec.upto fnExactOutTextSpec)) fnExactOutTextUptoCard

/-- THE SECOND FORM's CARD OF 'laws.FnExactEventFault'. -/
def fnExactEventFaultUptoCard : Claim7 := { stood := { row := fnExactEventFaultUptoRow, standIns := [], harness := (true, "8f9695b28edbadc3cfe828b8e272a3b5a1e3947e0451f8edb0a09c84ee28e66d"), looks := false }, kinds := [], alts := [], laidByText := true, laidKinds := [.data, .pinned], laidTests := true, laidLooks := .later }
def FnExactEventFaultUptoCardSaid : Prop := Claim7.holds Tryd.pinned (.plain (OpenSpec.upto fnExactEventFaultSpec)) fnExactEventFaultUptoCard
end Rows
end Go.Proofs.YtahcdlpjkcbjgaaDoor
