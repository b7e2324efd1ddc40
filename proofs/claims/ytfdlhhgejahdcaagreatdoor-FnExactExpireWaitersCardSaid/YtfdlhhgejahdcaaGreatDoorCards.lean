/-
  DERIVED. GIVEN WITH THE SEED: THE CARDS: each row of YtfdlhhgejahdcaaGreatDoorRows.lean that lists a variable, with what it lists TIED to the program's text (the seventh form; the later family's looks); each row that meets fmt, with fmt's text TOLD by the authors' own Lean function (tested against real Go, not proved from fmt's source: count such statements apart). THE CARD IS WHAT COUNTS. Prove the row's statement (the work); the ties are given (YtfdlhhgejahdcaaGreatDoorTie.lean); close each card by the builder's one call (the guide's Derived/Test/ToyasCard.lean, 'card_holds'). Laid BY PROGRAM, IN A SANDBOX (cutbox-door.mjs). By AI agents, Wed Nov 11 2026. No macro, syntax, notation, axiom, sorry.
-/
import Derived.Test.YtfdlhhgejahdcaaGreatDoorRows
import GoSem.ClaimSeven
namespace Go.Proofs.YtfdlhhgejahdcaaGreatDoor
namespace Rows

/-- THE TIED CARD OF 'laws.FnFinds'. -/
def fnFindsCard : Claim7 := { stood := { row := fnFindsRow, standIns := [], harness := (true, "b9eb8114474c19f9fb1e5290bcc8e577af0c57f02ae9911a1a7ca82d5daf13c1"), looks := false }, kinds := [], alts := [], laidByText := true, laidKinds := [.data, .pinned], laidTests := true, laidLooks := .later }
def FnFindsCardSaid : Prop := Claim7.holds Tryz.pinned (.plain (OpenSpec.ofChange fnFindsSpec)) fnFindsCard

/-- THE TIED CARD OF 'laws.FnExactFetchFor'. -/
def fnExactFetchForCard : Claim7 := { stood := { row := fnExactFetchForRow, standIns := [], harness := (true, "b9eb8114474c19f9fb1e5290bcc8e577af0c57f02ae9911a1a7ca82d5daf13c1"), looks := false }, kinds := [], alts := [], laidByText := true, laidKinds := [.data, .pinned], laidTests := true, laidLooks := .later }
def FnExactFetchForCardSaid : Prop := Claim7.holds Tryz.pinned (.plain (OpenSpec.ofChange fnExactFetchForSpec)) fnExactFetchForCard

/-- THE TIED CARD OF 'laws.FnExactJoinFlight'. -/
def fnExactJoinFlightCard : Claim7 := { stood := { row := fnExactJoinFlightRow, standIns := [], harness := (true, "b9eb8114474c19f9fb1e5290bcc8e577af0c57f02ae9911a1a7ca82d5daf13c1"), looks := false }, kinds := [], alts := [], laidByText := true, laidKinds := [.data, .pinned], laidTests := true, laidLooks := .later }
def FnExactJoinFlightCardSaid : Prop := Claim7.holds Tryz.pinned (.plain (OpenSpec.ofChange fnExactJoinFlightSpec)) fnExactJoinFlightCard

/-- THE TIED CARD OF 'laws.FnExactExpireWaiters'. -/
def fnExactExpireWaitersCard : Claim7 := { stood := { row := fnExactExpireWaitersRow, standIns := [], harness := (true, "b9eb8114474c19f9fb1e5290bcc8e577af0c57f02ae9911a1a7ca82d5daf13c1"), looks := false }, kinds := [], alts := [], laidByText := true, laidKinds := [.data, .pinned], laidTests := true, laidLooks := .later }
def FnExactExpireWaitersCardSaid : Prop := Claim7.holds Tryz.pinned (.plain (OpenSpec.ofChange fnExactExpireWaitersSpec)) fnExactExpireWaitersCard

/-- THE SECOND FORM's CARD OF 'laws.FnFinds'. -/
def fnFindsUptoCard : Claim7 := { stood := { row := fnFindsUptoRow, standIns := [], harness := (true, "b9eb8114474c19f9fb1e5290bcc8e577af0c57f02ae9911a1a7ca82d5daf13c1"), looks := false }, kinds := [], alts := [], laidByText := true, laidKinds := [.data, .pinned], laidTests := true, laidLooks := .later }
def FnFindsUptoCardSaid : Prop := Claim7.holds Tryz.pinned (.plain (OpenSpec.upto fnFindsSpec)) fnFindsUptoCard

/-- THE SECOND FORM's CARD OF 'laws.FnExactFetchFor'. -/
def fnExactFetchForUptoCard : Claim7 := { stood := { row := fnExactFetchForUptoRow, standIns := [], harness := (true, "b9eb8114474c19f9fb1e5290bcc8e577af0c57f02ae9911a1a7ca82d5daf13c1"), looks := false }, kinds := [], alts := [], laidByText := true, laidKinds := [.data, .pinned], laidTests := true, laidLooks := .later }
def FnExactFetchForUptoCardSaid : Prop := Claim7.holds Tryz.pinned (.plain (OpenSpec.upto fnExactFetchForSpec)) fnExactFetchForUptoCard

/-- THE SECOND FORM's CARD OF 'laws.FnExactJoinFlight'. -/
def fnExactJoinFlightUptoCard : Claim7 := { stood := { row := fnExactJoinFlightUptoRow, standIns := [], harness := (true, "b9eb8114474c19f9fb1e5290bcc8e577af0c57f02ae9911a1a7ca82d5daf13c1"), looks := false }, kinds := [], alts := [], laidByText := true, laidKinds := [.data, .pinned], laidTests := true, laidLooks := .later }
def FnExactJoinFlightUptoCardSaid : Prop := Claim7.holds Tryz.pinned (.plain (OpenSpec.upto fnExactJoinFlightSpec)) fnExactJoinFlightUptoCard

/-- THE SECOND FORM's CARD OF 'laws.FnExactExpireWaiters'. -/
def fnExactExpireWaitersUptoCard : Claim7 := { stood := { row := fnExactExpireWaitersUptoRow, standIns := [], harness := (true, "b9eb8114474c19f9fb1e5290bcc8e577af0c57f02ae9911a1a7ca82d5daf13c1"), looks := false }, kinds := [], alts := [], laidByText := true, laidKinds := [.data, .pinned], laidTests := true, laidLooks := .later }
def FnExactExpireWaitersUptoCardSaid : Prop := Claim7.holds Tryz.pinned (.plain (OpenSpec.upto fnExactExpireWaitersSpec)) fnExactExpireWaitersUptoCard
end Rows
end Go.Proofs.YtfdlhhgejahdcaaGreatDoor
