/-
  DERIVED. GIVEN WITH THE SEED: THE CARDS: each row of YtojhghmilenfkaaGreatDoorRows.lean that lists a variable, with what it lists TIED to the program's text (the seventh form; the later family's looks); each row that meets fmt, with fmt's text TOLD by the authors' own Lean function (tested against real Go, not proved from fmt's source: count such statements apart). THE CARD IS WHAT COUNTS. Prove the row's statement (the work); the ties are given (YtojhghmilenfkaaGreatDoorTie.lean); close each card by the builder's one call (the guide's Derived/Test/ToyasCard.lean, 'card_holds'). Laid BY PROGRAM, IN A SANDBOX (cutbox-door.mjs). By AI agents, Wed Nov 11 2026. No macro, syntax, notation, axiom, sorry.
-/
import Derived.Test.YtojhghmilenfkaaGreatDoorRows
import GoSem.ClaimSeven
namespace Go.Proofs.YtojhghmilenfkaaGreatDoor
namespace Rows

/-- THE TIED CARD OF 'laws.FnExactAccessesOf'. -/
def fnExactAccessesOfCard : Claim7 := { stood := { row := fnExactAccessesOfRow, standIns := [], harness := (true, "9ded98d4aed16069952d3d73fa6dfd8c85af0397e1d4671adf6fdc6c2133c302"), looks := true }, kinds := [], alts := [], laidByText := true, laidKinds := [.data, .data, .data, .sentinel, .sentinel, .widerDeep], laidTests := true, laidLooks := .later }
def FnExactAccessesOfCardSaid : Prop := Claim7.holds Tryz.pinned (.plain (OpenSpec.ofChange fnExactAccessesOfSpec)) fnExactAccessesOfCard

/-- THE TIED CARD OF 'laws.FnExactBegin'. -/
def fnExactBeginCard : Claim7 := { stood := { row := fnExactBeginRow, standIns := [], harness := (true, "9ded98d4aed16069952d3d73fa6dfd8c85af0397e1d4671adf6fdc6c2133c302"), looks := true }, kinds := [], alts := [], laidByText := true, laidKinds := [.data, .data, .data, .sentinel, .sentinel, .widerDeep], laidTests := true, laidLooks := .later }
def FnExactBeginCardSaid : Prop := Claim7.holds Tryz.pinned (.plain (OpenSpec.ofChange fnExactBeginSpec)) fnExactBeginCard

/-- THE TIED CARD OF 'laws.FnExactSweepsOf'. -/
def fnExactSweepsOfCard : Claim7 := { stood := { row := fnExactSweepsOfRow, standIns := [], harness := (true, "9ded98d4aed16069952d3d73fa6dfd8c85af0397e1d4671adf6fdc6c2133c302"), looks := true }, kinds := [], alts := [], laidByText := true, laidKinds := [.data, .data, .data, .sentinel, .sentinel, .widerDeep], laidTests := true, laidLooks := .later }
def FnExactSweepsOfCardSaid : Prop := Claim7.holds Tryz.pinned (.plain (OpenSpec.ofChange fnExactSweepsOfSpec)) fnExactSweepsOfCard

/-- THE TIED CARD OF 'laws.FnExactPathOf'. -/
def fnExactPathOfCard : Claim7 := { stood := { row := fnExactPathOfRow, standIns := [], harness := (true, "9ded98d4aed16069952d3d73fa6dfd8c85af0397e1d4671adf6fdc6c2133c302"), looks := true }, kinds := [], alts := [], laidByText := true, laidKinds := [.data, .data, .data, .sentinel, .sentinel, .widerDeep], laidTests := true, laidLooks := .later }
def FnExactPathOfCardSaid : Prop := Claim7.holds Tryz.pinned (.plain (OpenSpec.ofChange fnExactPathOfSpec)) fnExactPathOfCard

/-- THE TIED CARD OF 'laws.FnExactRunTo'. -/
def fnExactRunToCard : Claim7 := { stood := { row := fnExactRunToRow, standIns := [], harness := (true, "9ded98d4aed16069952d3d73fa6dfd8c85af0397e1d4671adf6fdc6c2133c302"), looks := true }, kinds := [], alts := [], laidByText := true, laidKinds := [.data, .data, .data, .sentinel, .sentinel, .widerDeep], laidTests := true, laidLooks := .later }
def FnExactRunToCardSaid : Prop := Claim7.holds Tryz.pinned (.plain (OpenSpec.ofChange fnExactRunToSpec)) fnExactRunToCard

/-- THE TIED CARD OF 'laws.FnExactStep'. -/
def fnExactStepCard : Claim7 := { stood := { row := fnExactStepRow, standIns := [], harness := (true, "9ded98d4aed16069952d3d73fa6dfd8c85af0397e1d4671adf6fdc6c2133c302"), looks := true }, kinds := [], alts := [], laidByText := true, laidKinds := [.data, .data, .data, .sentinel, .sentinel, .widerDeep], laidTests := true, laidLooks := .later }
def FnExactStepCardSaid : Prop := Claim7.holds Tryz.pinned (.plain (OpenSpec.ofChange fnExactStepSpec)) fnExactStepCard

/-- THE TIED CARD OF 'laws.FnExactAbsHas'. -/
def fnExactAbsHasCard : Claim7 := { stood := { row := fnExactAbsHasRow, standIns := [], harness := (true, "9ded98d4aed16069952d3d73fa6dfd8c85af0397e1d4671adf6fdc6c2133c302"), looks := true }, kinds := [], alts := [], laidByText := true, laidKinds := [.data, .data, .data, .sentinel, .sentinel, .widerDeep, .data], laidTests := true, laidLooks := .later }
def FnExactAbsHasCardSaid : Prop := Claim7.holds Tryz.pinned (.plain (OpenSpec.ofChange fnExactAbsHasSpec)) fnExactAbsHasCard

/-- THE SECOND FORM's CARD OF 'laws.FnExactAccessesOf'. -/
def fnExactAccessesOfUptoCard : Claim7 := { stood := { row := fnExactAccessesOfUptoRow, standIns := [], harness := (true, "9ded98d4aed16069952d3d73fa6dfd8c85af0397e1d4671adf6fdc6c2133c302"), looks := true }, kinds := [], alts := [], laidByText := true, laidKinds := [.data, .data, .data, .sentinel, .sentinel, .widerDeep], laidTests := true, laidLooks := .later }
def FnExactAccessesOfUptoCardSaid : Prop := Claim7.holds Tryz.pinned (.plain (OpenSpec.upto fnExactAccessesOfSpec)) fnExactAccessesOfUptoCard

/-- THE SECOND FORM's CARD OF 'laws.FnExactBegin'. -/
def fnExactBeginUptoCard : Claim7 := { stood := { row := fnExactBeginUptoRow, standIns := [], harness := (true, "9ded98d4aed16069952d3d73fa6dfd8c85af0397e1d4671adf6fdc6c2133c302"), looks := true }, kinds := [], alts := [], laidByText := true, laidKinds := [.data, .data, .data, .sentinel, .sentinel, .widerDeep], laidTests := true, laidLooks := .later }
def FnExactBeginUptoCardSaid : Prop := Claim7.holds Tryz.pinned (.plain (OpenSpec.upto fnExactBeginSpec)) fnExactBeginUptoCard

/-- THE SECOND FORM's CARD OF 'laws.FnExactSweepsOf'. -/
def fnExactSweepsOfUptoCard : Claim7 := { stood := { row := fnExactSweepsOfUptoRow, standIns := [], harness := (true, "9ded98d4aed16069952d3d73fa6dfd8c85af0397e1d4671adf6fdc6c2133c302"), looks := true }, kinds := [], alts := [], laidByText := true, laidKinds := [.data, .data, .data, .sentinel, .sentinel, .widerDeep], laidTests := true, laidLooks := .later }
def FnExactSweepsOfUptoCardSaid : Prop := Claim7.holds Tryz.pinned (.plain (OpenSpec.upto fnExactSweepsOfSpec)) fnExactSweepsOfUptoCard

/-- THE SECOND FORM's CARD OF 'laws.FnExactPathOf'. -/
def fnExactPathOfUptoCard : Claim7 := { stood := { row := fnExactPathOfUptoRow, standIns := [], harness := (true, "9ded98d4aed16069952d3d73fa6dfd8c85af0397e1d4671adf6fdc6c2133c302"), looks := true }, kinds := [], alts := [], laidByText := true, laidKinds := [.data, .data, .data, .sentinel, .sentinel, .widerDeep], laidTests := true, laidLooks := .later }
def FnExactPathOfUptoCardSaid : Prop := Claim7.holds Tryz.pinned (.plain (OpenSpec.upto fnExactPathOfSpec)) fnExactPathOfUptoCard

/-- THE SECOND FORM's CARD OF 'laws.FnExactRunTo'. -/
def fnExactRunToUptoCard : Claim7 := { stood := { row := fnExactRunToUptoRow, standIns := [], harness := (true, "9ded98d4aed16069952d3d73fa6dfd8c85af0397e1d4671adf6fdc6c2133c302"), looks := true }, kinds := [], alts := [], laidByText := true, laidKinds := [.data, .data, .data, .sentinel, .sentinel, .widerDeep], laidTests := true, laidLooks := .later }
def FnExactRunToUptoCardSaid : Prop := Claim7.holds Tryz.pinned (.plain (OpenSpec.upto fnExactRunToSpec)) fnExactRunToUptoCard

/-- THE SECOND FORM's CARD OF 'laws.FnExactStep'. -/
def fnExactStepUptoCard : Claim7 := { stood := { row := fnExactStepUptoRow, standIns := [], harness := (true, "9ded98d4aed16069952d3d73fa6dfd8c85af0397e1d4671adf6fdc6c2133c302"), looks := true }, kinds := [], alts := [], laidByText := true, laidKinds := [.data, .data, .data, .sentinel, .sentinel, .widerDeep], laidTests := true, laidLooks := .later }
def FnExactStepUptoCardSaid : Prop := Claim7.holds Tryz.pinned (.plain (OpenSpec.upto fnExactStepSpec)) fnExactStepUptoCard

/-- THE SECOND FORM's CARD OF 'laws.FnExactAbsHas'. -/
def fnExactAbsHasUptoCard : Claim7 := { stood := { row := fnExactAbsHasUptoRow, standIns := [], harness := (true, "9ded98d4aed16069952d3d73fa6dfd8c85af0397e1d4671adf6fdc6c2133c302"), looks := true }, kinds := [], alts := [], laidByText := true, laidKinds := [.data, .data, .data, .sentinel, .sentinel, .widerDeep, .data], laidTests := true, laidLooks := .later }
def FnExactAbsHasUptoCardSaid : Prop := Claim7.holds Tryz.pinned (.plain (OpenSpec.upto fnExactAbsHasSpec)) fnExactAbsHasUptoCard
end Rows
end Go.Proofs.YtojhghmilenfkaaGreatDoor
