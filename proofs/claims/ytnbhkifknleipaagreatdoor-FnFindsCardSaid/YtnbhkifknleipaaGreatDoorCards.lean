/-
  DERIVED. GIVEN WITH THE SEED: THE CARDS: each row of YtnbhkifknleipaaGreatDoorRows.lean that lists a variable, with what it lists TIED to the program's text (the seventh form; the later family's looks); each row that meets fmt, with fmt's text TOLD by the authors' own Lean function (tested against real Go, not proved from fmt's source: count such statements apart). THE CARD IS WHAT COUNTS. Prove the row's statement (the work); the ties are given (YtnbhkifknleipaaGreatDoorTie.lean); close each card by the builder's one call (the guide's Derived/Test/ToyasCard.lean, 'card_holds'). Laid BY PROGRAM, IN A SANDBOX (cutbox-door.mjs). By AI agents, Wed Nov 11 2026. No macro, syntax, notation, axiom, sorry.
-/
import Derived.Test.YtnbhkifknleipaaGreatDoorRows
import GoSem.ClaimSeven
namespace Go.Proofs.YtnbhkifknleipaaGreatDoor
namespace Rows

/-- THE TIED CARD OF 'laws.FnFinds'. -/
def fnFindsCard : Claim7 := { stood := { row := fnFindsRow, standIns := [], harness := (true, "cee3b9266652cc1d8cc2b6d4622eef91b4f65921c5bc5cab053dfdb5479cfefe"), looks := false }, kinds := [], alts := [], laidByText := true, laidKinds := [.data, .pinned], laidTests := true, laidLooks := .later }
def FnFindsCardSaid : Prop := Claim7.holds Tryz.pinned (.plain (OpenSpec.ofChange fnFindsSpec)) fnFindsCard

/-- THE TIED CARD OF 'laws.FnExactFetchFor'. -/
def fnExactFetchForCard : Claim7 := { stood := { row := fnExactFetchForRow, standIns := [], harness := (true, "cee3b9266652cc1d8cc2b6d4622eef91b4f65921c5bc5cab053dfdb5479cfefe"), looks := false }, kinds := [], alts := [], laidByText := true, laidKinds := [.data, .pinned], laidTests := true, laidLooks := .later }
def FnExactFetchForCardSaid : Prop := Claim7.holds Tryz.pinned (.plain (OpenSpec.ofChange fnExactFetchForSpec)) fnExactFetchForCard

/-- THE TIED CARD OF 'laws.FnFetches'. -/
def fnFetchesCard : Claim7 := { stood := { row := fnFetchesRow, standIns := [], harness := (true, "cee3b9266652cc1d8cc2b6d4622eef91b4f65921c5bc5cab053dfdb5479cfefe"), looks := false }, kinds := [], alts := [], laidByText := true, laidKinds := [.data, .pinned], laidTests := true, laidLooks := .later }
def FnFetchesCardSaid : Prop := Claim7.holds Tryz.pinned (.plain (OpenSpec.ofChange fnFetchesSpec)) fnFetchesCard

/-- THE TIED CARD OF 'laws.FnConfigs'. -/
def fnConfigsCard : Claim7 := { stood := { row := fnConfigsRow, standIns := [], harness := (true, "cee3b9266652cc1d8cc2b6d4622eef91b4f65921c5bc5cab053dfdb5479cfefe"), looks := false }, kinds := [], alts := [], laidByText := true, laidKinds := [.data, .pinned], laidTests := true, laidLooks := .later }
def FnConfigsCardSaid : Prop := Claim7.holds Tryz.pinned (.plain (OpenSpec.ofChange fnConfigsSpec)) fnConfigsCard

/-- THE TIED CARD OF 'laws.FnExactAnswerOf'. -/
def fnExactAnswerOfCard : Claim7 := { stood := { row := fnExactAnswerOfRow, standIns := [], harness := (true, "cee3b9266652cc1d8cc2b6d4622eef91b4f65921c5bc5cab053dfdb5479cfefe"), looks := false }, kinds := [], alts := [], laidByText := true, laidKinds := [.data, .data, .data, .data, .pinned], laidTests := true, laidLooks := .later }
def FnExactAnswerOfCardSaid : Prop := Claim7.holds Tryz.pinned (.plain (OpenSpec.ofChange fnExactAnswerOfSpec)) fnExactAnswerOfCard

/-- THE TIED CARD OF 'laws.FnExactEventOf'. -/
def fnExactEventOfCard : Claim7 := { stood := { row := fnExactEventOfRow, standIns := [], harness := (true, "cee3b9266652cc1d8cc2b6d4622eef91b4f65921c5bc5cab053dfdb5479cfefe"), looks := false }, kinds := [], alts := [], laidByText := true, laidKinds := [.data, .pinned], laidTests := true, laidLooks := .later }
def FnExactEventOfCardSaid : Prop := Claim7.holds Tryz.pinned (.plain (OpenSpec.ofChange fnExactEventOfSpec)) fnExactEventOfCard

/-- THE SECOND FORM's CARD OF 'laws.FnFinds'. -/
def fnFindsUptoCard : Claim7 := { stood := { row := fnFindsUptoRow, standIns := [], harness := (true, "cee3b9266652cc1d8cc2b6d4622eef91b4f65921c5bc5cab053dfdb5479cfefe"), looks := false }, kinds := [], alts := [], laidByText := true, laidKinds := [.data, .pinned], laidTests := true, laidLooks := .later }
def FnFindsUptoCardSaid : Prop := Claim7.holds Tryz.pinned (.plain (OpenSpec.upto fnFindsSpec)) fnFindsUptoCard

/-- THE SECOND FORM's CARD OF 'laws.FnExactFetchFor'. -/
def fnExactFetchForUptoCard : Claim7 := { stood := { row := fnExactFetchForUptoRow, standIns := [], harness := (true, "cee3b9266652cc1d8cc2b6d4622eef91b4f65921c5bc5cab053dfdb5479cfefe"), looks := false }, kinds := [], alts := [], laidByText := true, laidKinds := [.data, .pinned], laidTests := true, laidLooks := .later }
def FnExactFetchForUptoCardSaid : Prop := Claim7.holds Tryz.pinned (.plain (OpenSpec.upto fnExactFetchForSpec)) fnExactFetchForUptoCard

/-- THE SECOND FORM's CARD OF 'laws.FnFetches'. -/
def fnFetchesUptoCard : Claim7 := { stood := { row := fnFetchesUptoRow, standIns := [], harness := (true, "cee3b9266652cc1d8cc2b6d4622eef91b4f65921c5bc5cab053dfdb5479cfefe"), looks := false }, kinds := [], alts := [], laidByText := true, laidKinds := [.data, .pinned], laidTests := true, laidLooks := .later }
def FnFetchesUptoCardSaid : Prop := Claim7.holds Tryz.pinned (.plain (OpenSpec.upto fnFetchesSpec)) fnFetchesUptoCard

/-- THE SECOND FORM's CARD OF 'laws.FnConfigs'. -/
def fnConfigsUptoCard : Claim7 := { stood := { row := fnConfigsUptoRow, standIns := [], harness := (true, "cee3b9266652cc1d8cc2b6d4622eef91b4f65921c5bc5cab053dfdb5479cfefe"), looks := false }, kinds := [], alts := [], laidByText := true, laidKinds := [.data, .pinned], laidTests := true, laidLooks := .later }
def FnConfigsUptoCardSaid : Prop := Claim7.holds Tryz.pinned (.plain (OpenSpec.upto fnConfigsSpec)) fnConfigsUptoCard

/-- THE SECOND FORM's CARD OF 'laws.FnExactAnswerOf'. -/
def fnExactAnswerOfUptoCard : Claim7 := { stood := { row := fnExactAnswerOfUptoRow, standIns := [], harness := (true, "cee3b9266652cc1d8cc2b6d4622eef91b4f65921c5bc5cab053dfdb5479cfefe"), looks := false }, kinds := [], alts := [], laidByText := true, laidKinds := [.data, .data, .data, .data, .pinned], laidTests := true, laidLooks := .later }
def FnExactAnswerOfUptoCardSaid : Prop := Claim7.holds Tryz.pinned (.plain (OpenSpec.upto fnExactAnswerOfSpec)) fnExactAnswerOfUptoCard

/-- THE SECOND FORM's CARD OF 'laws.FnExactEventOf'. -/
def fnExactEventOfUptoCard : Claim7 := { stood := { row := fnExactEventOfUptoRow, standIns := [], harness := (true, "cee3b9266652cc1d8cc2b6d4622eef91b4f65921c5bc5cab053dfdb5479cfefe"), looks := false }, kinds := [], alts := [], laidByText := true, laidKinds := [.data, .pinned], laidTests := true, laidLooks := .later }
def FnExactEventOfUptoCardSaid : Prop := Claim7.holds Tryz.pinned (.plain (OpenSpec.upto fnExactEventOfSpec)) fnExactEventOfUptoCard
end Rows
end Go.Proofs.YtnbhkifknleipaaGreatDoor
