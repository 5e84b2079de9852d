/-
  DERIVED. GIVEN WITH THE SEED: THE CARDS: each row of YtnkbifkbpdmchaaGreatDoorRows.lean that lists a variable, with what it lists TIED to the program's text (the seventh form; the later family's looks); each row that meets fmt, with fmt's text TOLD by the authors' own Lean function (tested against real Go, not proved from fmt's source: count such statements apart). THE CARD IS WHAT COUNTS. Prove the row's statement (the work); the ties are given (YtnkbifkbpdmchaaGreatDoorTie.lean); close each card by the builder's one call (the guide's Derived/Test/ToyasCard.lean, 'card_holds'). Laid BY PROGRAM, IN A SANDBOX (cutbox-door.mjs). By AI agents, Wed Nov 11 2026. No macro, syntax, notation, axiom, sorry.
-/
import Derived.Test.YtnkbifkbpdmchaaGreatDoorRows
import GoSem.ClaimSeven
namespace Go.Proofs.YtnkbifkbpdmchaaGreatDoor
namespace Rows

/-- THE TIED CARD OF 'laws.FnExactValueOf'. -/
def fnExactValueOfCard : Claim7 := { stood := { row := fnExactValueOfRow, standIns := [], harness := (true, "f632b6aa21320bec5a52f2ac4bfa4f779c913768db5071c0b70cdb0dc04a8172"), looks := true }, kinds := [], alts := [], laidByText := true, laidKinds := [.data, .data, .data, .sentinel, .sentinel, .widerDeep], laidTests := true, laidLooks := .later }
def FnExactValueOfCardSaid : Prop := Claim7.holds Tryz.pinned (.plain (OpenSpec.ofChange fnExactValueOfSpec)) fnExactValueOfCard

/-- THE TIED CARD OF 'laws.FnExactAbsOk'. -/
def fnExactAbsOkCard : Claim7 := { stood := { row := fnExactAbsOkRow, standIns := [], harness := (true, "f632b6aa21320bec5a52f2ac4bfa4f779c913768db5071c0b70cdb0dc04a8172"), looks := true }, kinds := [], alts := [], laidByText := true, laidKinds := [.data, .data, .data, .sentinel, .sentinel, .widerDeep, .data], laidTests := true, laidLooks := .later }
def FnExactAbsOkCardSaid : Prop := Claim7.holds Tryz.pinned (.plain (OpenSpec.ofChange fnExactAbsOkSpec)) fnExactAbsOkCard

/-- THE SECOND FORM's CARD OF 'laws.FnExactValueOf'. -/
def fnExactValueOfUptoCard : Claim7 := { stood := { row := fnExactValueOfUptoRow, standIns := [], harness := (true, "f632b6aa21320bec5a52f2ac4bfa4f779c913768db5071c0b70cdb0dc04a8172"), looks := true }, kinds := [], alts := [], laidByText := true, laidKinds := [.data, .data, .data, .sentinel, .sentinel, .widerDeep], laidTests := true, laidLooks := .later }
def FnExactValueOfUptoCardSaid : Prop := Claim7.holds Tryz.pinned (.plain (OpenSpec.upto fnExactValueOfSpec)) fnExactValueOfUptoCard

/-- THE SECOND FORM's CARD OF 'laws.FnExactAbsOk'. -/
def fnExactAbsOkUptoCard : Claim7 := { stood := { row := fnExactAbsOkUptoRow, standIns := [], harness := (true, "f632b6aa21320bec5a52f2ac4bfa4f779c913768db5071c0b70cdb0dc04a8172"), looks := true }, kinds := [], alts := [], laidByText := true, laidKinds := [.data, .data, .data, .sentinel, .sentinel, .widerDeep, .data], laidTests := true, laidLooks := .later }
def FnExactAbsOkUptoCardSaid : Prop := Claim7.holds Tryz.pinned (.plain (OpenSpec.upto fnExactAbsOkSpec)) fnExactAbsOkUptoCard
end Rows
end Go.Proofs.YtnkbifkbpdmchaaGreatDoor
