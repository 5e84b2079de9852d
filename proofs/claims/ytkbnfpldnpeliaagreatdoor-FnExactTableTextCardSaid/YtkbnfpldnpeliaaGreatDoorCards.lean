/-
  DERIVED. GIVEN WITH THE SEED: THE CARDS: each row of YtkbnfpldnpeliaaGreatDoorRows.lean that lists a variable, with what it lists TIED to the program's text (the seventh form; the later family's looks); each row that meets fmt, with fmt's text TOLD by the authors' own Lean function (tested against real Go, not proved from fmt's source: count such statements apart). THE CARD IS WHAT COUNTS. Prove the row's statement (the work); the ties are given (YtkbnfpldnpeliaaGreatDoorTie.lean); close each card by the builder's one call (the guide's Derived/Test/ToyasCard.lean, 'card_holds'). Laid BY PROGRAM, IN A SANDBOX (cutbox-door.mjs). By AI agents, Wed Nov 11 2026. No macro, syntax, notation, axiom, sorry.
-/
import Derived.Test.YtkbnfpldnpeliaaGreatDoorRows
import GoSem.ClaimSeven
namespace Go.Proofs.YtkbnfpldnpeliaaGreatDoor
namespace Rows

/-- THE TIED CARD OF 'laws.FnExactAbsOk'. -/
def fnExactAbsOkCard : Claim7 := { stood := { row := fnExactAbsOkRow, standIns := [], harness := (true, "d35ee47ff190fb7873dd88243860b9dcd9a1d312e82e7e6cfcc343d1833945ab"), looks := true }, kinds := [], alts := [], laidByText := true, laidKinds := [.data, .data, .data, .sentinel, .sentinel, .widerDeep, .data], laidTests := true, laidLooks := .later }
def FnExactAbsOkCardSaid : Prop := Claim7.holds Tryz.pinned (.plain (OpenSpec.ofChange fnExactAbsOkSpec)) fnExactAbsOkCard

/-- THE TIED CARD OF 'laws.FnExactCertText'. -/
def fnExactCertTextCard : Claim7 := { stood := { row := fnExactCertTextRow, standIns := [], harness := (true, "d35ee47ff190fb7873dd88243860b9dcd9a1d312e82e7e6cfcc343d1833945ab"), looks := true }, kinds := [], alts := [], laidByText := true, laidKinds := [.data, .data, .data, .sentinel, .sentinel, .widerDeep, .data], laidTests := true, laidLooks := .later }
def FnExactCertTextCardSaid : Prop := Claim7.holds Tryz.pinned (.plain (OpenSpec.ofChange fnExactCertTextSpec)) fnExactCertTextCard

/-- THE TIED CARD OF 'laws.FnExactAbsText'. -/
def fnExactAbsTextCard : Claim7 := { stood := { row := fnExactAbsTextRow, standIns := [], harness := (true, "d35ee47ff190fb7873dd88243860b9dcd9a1d312e82e7e6cfcc343d1833945ab"), looks := true }, kinds := [], alts := [], laidByText := true, laidKinds := [.data, .data, .data, .sentinel, .sentinel, .widerDeep, .data], laidTests := true, laidLooks := .later }
def FnExactAbsTextCardSaid : Prop := Claim7.holds Tryz.pinned (.plain (OpenSpec.ofChange fnExactAbsTextSpec)) fnExactAbsTextCard

/-- THE TIED CARD OF 'laws.FnExactTableText'. -/
def fnExactTableTextCard : Claim7 := { stood := { row := fnExactTableTextRow, standIns := [], harness := (true, "d35ee47ff190fb7873dd88243860b9dcd9a1d312e82e7e6cfcc343d1833945ab"), looks := true }, kinds := [], alts := [], laidByText := true, laidKinds := [.data, .data, .data, .sentinel, .sentinel, .widerDeep, .data], laidTests := true, laidLooks := .later }
def FnExactTableTextCardSaid : Prop := Claim7.holds Tryz.pinned (.plain (OpenSpec.ofChange fnExactTableTextSpec)) fnExactTableTextCard

/-- THE SECOND FORM's CARD OF 'laws.FnExactAbsOk'. -/
def fnExactAbsOkUptoCard : Claim7 := { stood := { row := fnExactAbsOkUptoRow, standIns := [], harness := (true, "d35ee47ff190fb7873dd88243860b9dcd9a1d312e82e7e6cfcc343d1833945ab"), looks := true }, kinds := [], alts := [], laidByText := true, laidKinds := [.data, .data, .data, .sentinel, .sentinel, .widerDeep, .data], laidTests := true, laidLooks := .later }
def FnExactAbsOkUptoCardSaid : Prop := Claim7.holds Tryz.pinned (.plain (OpenSpec.upto fnExactAbsOkSpec)) fnExactAbsOkUptoCard

/-- THE SECOND FORM's CARD OF 'laws.FnExactCertText'. -/
def fnExactCertTextUptoCard : Claim7 := { stood := { row := fnExactCertTextUptoRow, standIns := [], harness := (true, "d35ee47ff190fb7873dd88243860b9dcd9a1d312e82e7e6cfcc343d1833945ab"), looks := true }, kinds := [], alts := [], laidByText := true, laidKinds := [.data, .data, .data, .sentinel, .sentinel, .widerDeep, .data], laidTests := true, laidLooks := .later }
def FnExactCertTextUptoCardSaid : Prop := Claim7.holds Tryz.pinned (.plain (OpenSpec.upto fnExactCertTextSpec)) fnExactCertTextUptoCard

/-- THE SECOND FORM's CARD OF 'laws.FnExactAbsText'. -/
def fnExactAbsTextUptoCard : Claim7 := { stood := { row := fnExactAbsTextUptoRow, standIns := [], harness := (true, "d35ee47ff190fb7873dd88243860b9dcd9a1d312e82e7e6cfcc343d1833945ab"), looks := true }, kinds := [], alts := [], laidByText := true, laidKinds := [.data, .data, .data, .sentinel, .sentinel, .widerDeep, .data], laidTests := true, laidLooks := .later }
def FnExactAbsTextUptoCardSaid : Prop := Claim7.holds Tryz.pinned (.plain (OpenSpec.upto fnExactAbsTextSpec)) fnExactAbsTextUptoCard

/-- THE SECOND FORM's CARD OF 'laws.FnExactTableText'. -/
def fnExactTableTextUptoCard : Claim7 := { stood := { row := fnExactTableTextUptoRow, standIns := [], harness := (true, "d35ee47ff190fb7873dd88243860b9dcd9a1d312e82e7e6cfcc343d1833945ab"), looks := true }, kinds := [], alts := [], laidByText := true, laidKinds := [.data, .data, .data, .sentinel, .sentinel, .widerDeep, .data], laidTests := true, laidLooks := .later }
def FnExactTableTextUptoCardSaid : Prop := Claim7.holds Tryz.pinned (.plain (OpenSpec.upto fnExactTableTextSpec)) fnExactTableTextUptoCard
end Rows
end Go.Proofs.YtkbnfpldnpeliaaGreatDoor
