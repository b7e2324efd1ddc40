/-
  DERIVED. GIVEN WITH THE SEED: THE CARDS: each row of YtbgfaonlbpkfhaaGreatDoorRows.lean that lists a variable, with what it lists TIED to the program's text (the seventh form; the later family's looks); each row that meets fmt, with fmt's text TOLD by the authors' own Lean function (tested against real Go, not proved from fmt's source: count such statements apart). THE CARD IS WHAT COUNTS. Prove the row's statement (the work); the ties are given (YtbgfaonlbpkfhaaGreatDoorTie.lean); close each card by the builder's one call (the guide's Derived/Test/ToyasCard.lean, 'card_holds'). Laid BY PROGRAM, IN A SANDBOX (cutbox-door.mjs). By AI agents, Wed Nov 11 2026. No macro, syntax, notation, axiom, sorry.
-/
import Derived.Test.YtbgfaonlbpkfhaaGreatDoorRows
import GoSem.ClaimSeven
namespace Go.Proofs.YtbgfaonlbpkfhaaGreatDoor
namespace Rows

/-- THE TIED CARD OF 'laws.FnExactNewShield'. -/
def fnExactNewShieldCard : Claim7 := { stood := { row := fnExactNewShieldRow, standIns := [], harness := (true, "22eb947ef8388fab08d0b2a86a7e4e387908f1739a957b02ca376b0730892a76"), looks := false }, kinds := [], alts := [], laidByText := true, laidKinds := [.data, .pinned], laidTests := true, laidLooks := .later }
def FnExactNewShieldCardSaid : Prop := Claim7.holds Tryz.pinned (.plain (OpenSpec.ofChange fnExactNewShieldSpec)) fnExactNewShieldCard

/-- THE TIED CARD OF 'laws.FnExactShieldFault'. -/
def fnExactShieldFaultCard : Claim7 := { stood := { row := fnExactShieldFaultRow, standIns := [], harness := (true, "22eb947ef8388fab08d0b2a86a7e4e387908f1739a957b02ca376b0730892a76"), looks := false }, kinds := [], alts := [], laidByText := true, laidKinds := [.data, .pinned], laidTests := true, laidLooks := .later }
def FnExactShieldFaultCardSaid : Prop := Claim7.holds Tryz.pinned (.plain (OpenSpec.ofChange fnExactShieldFaultSpec)) fnExactShieldFaultCard

/-- THE TIED CARD OF 'laws.FnExactOutTo'. -/
def fnExactOutToCard : Claim7 := { stood := { row := fnExactOutToRow, standIns := [], harness := (true, "22eb947ef8388fab08d0b2a86a7e4e387908f1739a957b02ca376b0730892a76"), looks := false }, kinds := [], alts := [], laidByText := true, laidKinds := [.data, .pinned], laidTests := true, laidLooks := .later }
def FnExactOutToCardSaid : Prop := Claim7.holds Tryz.pinned (.plain (OpenSpec.ofChange fnExactOutToSpec)) fnExactOutToCard

/-- THE TIED CARD OF 'laws.FnExactWaitingIn'. -/
def fnExactWaitingInCard : Claim7 := { stood := { row := fnExactWaitingInRow, standIns := [], harness := (true, "22eb947ef8388fab08d0b2a86a7e4e387908f1739a957b02ca376b0730892a76"), looks := false }, kinds := [], alts := [], laidByText := true, laidKinds := [.data, .pinned], laidTests := true, laidLooks := .later }
def FnExactWaitingInCardSaid : Prop := Claim7.holds Tryz.pinned (.plain (OpenSpec.ofChange fnExactWaitingInSpec)) fnExactWaitingInCard

/-- THE TIED CARD OF 'laws.FnExactOriginOf'. -/
def fnExactOriginOfCard : Claim7 := { stood := { row := fnExactOriginOfRow, standIns := [], harness := (true, "22eb947ef8388fab08d0b2a86a7e4e387908f1739a957b02ca376b0730892a76"), looks := false }, kinds := [], alts := [], laidByText := true, laidKinds := [.data, .pinned], laidTests := true, laidLooks := .later }
def FnExactOriginOfCardSaid : Prop := Claim7.holds Tryz.pinned (.plain (OpenSpec.ofChange fnExactOriginOfSpec)) fnExactOriginOfCard

/-- THE SECOND FORM's CARD OF 'laws.FnExactNewShield'. -/
def fnExactNewShieldUptoCard : Claim7 := { stood := { row := fnExactNewShieldUptoRow, standIns := [], harness := (true, "22eb947ef8388fab08d0b2a86a7e4e387908f1739a957b02ca376b0730892a76"), looks := false }, kinds := [], alts := [], laidByText := true, laidKinds := [.data, .pinned], laidTests := true, laidLooks := .later }
def FnExactNewShieldUptoCardSaid : Prop := Claim7.holds Tryz.pinned (.plain (OpenSpec.upto fnExactNewShieldSpec)) fnExactNewShieldUptoCard

/-- THE SECOND FORM's CARD OF 'laws.FnExactShieldFault'. -/
def fnExactShieldFaultUptoCard : Claim7 := { stood := { row := fnExactShieldFaultUptoRow, standIns := [], harness := (true, "22eb947ef8388fab08d0b2a86a7e4e387908f1739a957b02ca376b0730892a76"), looks := false }, kinds := [], alts := [], laidByText := true, laidKinds := [.data, .pinned], laidTests := true, laidLooks := .later }
def FnExactShieldFaultUptoCardSaid : Prop := Claim7.holds Tryz.pinned (.plain (OpenSpec.upto fnExactShieldFaultSpec)) fnExactShieldFaultUptoCard

/-- THE SECOND FORM's CARD OF 'laws.FnExactOutTo'. -/
def fnExactOutToUptoCard : Claim7 := { stood := { row := fnExactOutToUptoRow, standIns := [], harness := (true, "22eb947ef8388fab08d0b2a86a7e4e387908f1739a957b02ca376b0730892a76"), looks := false }, kinds := [], alts := [], laidByText := true, laidKinds := [.data, .pinned], laidTests := true, laidLooks := .later }
def FnExactOutToUptoCardSaid : Prop := Claim7.holds Tryz.pinned (.plain (OpenSpec.upto fnExactOutToSpec)) fnExactOutToUptoCard

/-- THE SECOND FORM's CARD OF 'laws.FnExactWaitingIn'. -/
def fnExactWaitingInUptoCard : Claim7 := { stood := { row := fnExactWaitingInUptoRow, standIns := [], harness := (true, "22eb947ef8388fab08d0b2a86a7e4e387908f1739a957b02ca376b0730892a76"), looks := false }, kinds := [], alts := [], laidByText := true, laidKinds := [.data, .pinned], laidTests := true, laidLooks := .later }
def FnExactWaitingInUptoCardSaid : Prop := Claim7.holds Tryz.pinned (.plain (OpenSpec.upto fnExactWaitingInSpec)) fnExactWaitingInUptoCard

/-- THE SECOND FORM's CARD OF 'laws.FnExactOriginOf'. -/
def fnExactOriginOfUptoCard : Claim7 := { stood := { row := fnExactOriginOfUptoRow, standIns := [], harness := (true, "22eb947ef8388fab08d0b2a86a7e4e387908f1739a957b02ca376b0730892a76"), looks := false }, kinds := [], alts := [], laidByText := true, laidKinds := [.data, .pinned], laidTests := true, laidLooks := .later }
def FnExactOriginOfUptoCardSaid : Prop := Claim7.holds Tryz.pinned (.plain (OpenSpec.upto fnExactOriginOfSpec)) fnExactOriginOfUptoCard
end Rows
end Go.Proofs.YtbgfaonlbpkfhaaGreatDoor
