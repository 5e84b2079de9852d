/-
  DERIVED. GIVEN WITH THE SEED: THE CARDS: each row of YtfpfmkljakiedaaGreatDoorRows.lean that lists a variable, with what it lists TIED to the program's text (the seventh form; the later family's looks); each row that meets fmt, with fmt's text TOLD by the authors' own Lean function (tested against real Go, not proved from fmt's source: count such statements apart). THE CARD IS WHAT COUNTS. Prove the row's statement (the work); the ties are given (YtfpfmkljakiedaaGreatDoorTie.lean); close each card by the builder's one call (the guide's Derived/Test/ToyasCard.lean, 'card_holds'). Laid BY PROGRAM, IN A SANDBOX (cutbox-door.mjs). By AI agents, Wed Nov 11 2026. No macro, syntax, notation, axiom, sorry.
-/
import Derived.Test.YtfpfmkljakiedaaGreatDoorRows
import GoSem.ClaimSeven
namespace Go.Proofs.YtfpfmkljakiedaaGreatDoor
namespace Rows

/-- THE TIED CARD OF 'laws.FnExactSymOf'. -/
def fnExactSymOfCard : Claim7 := { stood := { row := fnExactSymOfRow, standIns := [], harness := (true, "9beb6159167449b801bbfd424ae819002481232a335c7d8335cda3a55b54dbf0"), looks := true }, kinds := [], alts := [], laidByText := true, laidKinds := [.data, .data, .data, .sentinel, .sentinel, .widerDeep], laidTests := true, laidLooks := .later }
def FnExactSymOfCardSaid : Prop := Claim7.holds Tryz.pinned (.plain (OpenSpec.ofChange fnExactSymOfSpec)) fnExactSymOfCard

/-- THE TIED CARD OF 'laws.FnExactAccessesOf'. -/
def fnExactAccessesOfCard : Claim7 := { stood := { row := fnExactAccessesOfRow, standIns := [], harness := (true, "9beb6159167449b801bbfd424ae819002481232a335c7d8335cda3a55b54dbf0"), looks := true }, kinds := [], alts := [], laidByText := true, laidKinds := [.data, .data, .data, .sentinel, .sentinel, .widerDeep], laidTests := true, laidLooks := .later }
def FnExactAccessesOfCardSaid : Prop := Claim7.holds Tryz.pinned (.plain (OpenSpec.ofChange fnExactAccessesOfSpec)) fnExactAccessesOfCard

/-- THE TIED CARD OF 'laws.FnExactConfOk'. -/
def fnExactConfOkCard : Claim7 := { stood := { row := fnExactConfOkRow, standIns := [], harness := (true, "9beb6159167449b801bbfd424ae819002481232a335c7d8335cda3a55b54dbf0"), looks := true }, kinds := [], alts := [], laidByText := true, laidKinds := [.data, .data, .data, .sentinel, .sentinel, .widerDeep], laidTests := true, laidLooks := .later }
def FnExactConfOkCardSaid : Prop := Claim7.holds Tryz.pinned (.plain (OpenSpec.ofChange fnExactConfOkSpec)) fnExactConfOkCard

/-- THE TIED CARD OF 'laws.FnGraphs'. -/
def fnGraphsCard : Claim7 := { stood := { row := fnGraphsRow, standIns := [], harness := (true, "9beb6159167449b801bbfd424ae819002481232a335c7d8335cda3a55b54dbf0"), looks := true }, kinds := [], alts := [], laidByText := true, laidKinds := [.data, .data, .data, .sentinel, .sentinel, .widerDeep], laidTests := true, laidLooks := .later }
def FnGraphsCardSaid : Prop := Claim7.holds Tryz.pinned (.plain (OpenSpec.ofChange fnGraphsSpec)) fnGraphsCard

/-- THE TIED CARD OF 'laws.FnExactBegin'. -/
def fnExactBeginCard : Claim7 := { stood := { row := fnExactBeginRow, standIns := [], harness := (true, "9beb6159167449b801bbfd424ae819002481232a335c7d8335cda3a55b54dbf0"), looks := true }, kinds := [], alts := [], laidByText := true, laidKinds := [.data, .data, .data, .sentinel, .sentinel, .widerDeep], laidTests := true, laidLooks := .later }
def FnExactBeginCardSaid : Prop := Claim7.holds Tryz.pinned (.plain (OpenSpec.ofChange fnExactBeginSpec)) fnExactBeginCard

/-- THE TIED CARD OF 'laws.FnExactSweepsOf'. -/
def fnExactSweepsOfCard : Claim7 := { stood := { row := fnExactSweepsOfRow, standIns := [], harness := (true, "9beb6159167449b801bbfd424ae819002481232a335c7d8335cda3a55b54dbf0"), looks := true }, kinds := [], alts := [], laidByText := true, laidKinds := [.data, .data, .data, .sentinel, .sentinel, .widerDeep], laidTests := true, laidLooks := .later }
def FnExactSweepsOfCardSaid : Prop := Claim7.holds Tryz.pinned (.plain (OpenSpec.ofChange fnExactSweepsOfSpec)) fnExactSweepsOfCard

/-- THE SECOND FORM's CARD OF 'laws.FnExactSymOf'. -/
def fnExactSymOfUptoCard : Claim7 := { stood := { row := fnExactSymOfUptoRow, standIns := [], harness := (true, "9beb6159167449b801bbfd424ae819002481232a335c7d8335cda3a55b54dbf0"), looks := true }, kinds := [], alts := [], laidByText := true, laidKinds := [.data, .data, .data, .sentinel, .sentinel, .widerDeep], laidTests := true, laidLooks := .later }
def FnExactSymOfUptoCardSaid : Prop := Claim7.holds Tryz.pinned (.plain (OpenSpec.upto fnExactSymOfSpec)) fnExactSymOfUptoCard

/-- THE SECOND FORM's CARD OF 'laws.FnExactAccessesOf'. -/
def fnExactAccessesOfUptoCard : Claim7 := { stood := { row := fnExactAccessesOfUptoRow, standIns := [], harness := (true, "9beb6159167449b801bbfd424ae819002481232a335c7d8335cda3a55b54dbf0"), looks := true }, kinds := [], alts := [], laidByText := true, laidKinds := [.data, .data, .data, .sentinel, .sentinel, .widerDeep], laidTests := true, laidLooks := .later }
def FnExactAccessesOfUptoCardSaid : Prop := Claim7.holds Tryz.pinned (.plain (OpenSpec.upto fnExactAccessesOfSpec)) fnExactAccessesOfUptoCard

/-- THE SECOND FORM's CARD OF 'laws.FnExactConfOk'. -/
def fnExactConfOkUptoCard : Claim7 := { stood := { row := fnExactConfOkUptoRow, standIns := [], harness := (true, "9beb6159167449b801bbfd424ae819002481232a335c7d8335cda3a55b54dbf0"), looks := true }, kinds := [], alts := [], laidByText := true, laidKinds := [.data, .data, .data, .sentinel, .sentinel, .widerDeep], laidTests := true, laidLooks := .later }
def FnExactConfOkUptoCardSaid : Prop := Claim7.holds Tryz.pinned (.plain (OpenSpec.upto fnExactConfOkSpec)) fnExactConfOkUptoCard

/-- THE SECOND FORM's CARD OF 'laws.FnGraphs'. -/
def fnGraphsUptoCard : Claim7 := { stood := { row := fnGraphsUptoRow, standIns := [], harness := (true, "9beb6159167449b801bbfd424ae819002481232a335c7d8335cda3a55b54dbf0"), looks := true }, kinds := [], alts := [], laidByText := true, laidKinds := [.data, .data, .data, .sentinel, .sentinel, .widerDeep], laidTests := true, laidLooks := .later }
def FnGraphsUptoCardSaid : Prop := Claim7.holds Tryz.pinned (.plain (OpenSpec.upto fnGraphsSpec)) fnGraphsUptoCard

/-- THE SECOND FORM's CARD OF 'laws.FnExactBegin'. -/
def fnExactBeginUptoCard : Claim7 := { stood := { row := fnExactBeginUptoRow, standIns := [], harness := (true, "9beb6159167449b801bbfd424ae819002481232a335c7d8335cda3a55b54dbf0"), looks := true }, kinds := [], alts := [], laidByText := true, laidKinds := [.data, .data, .data, .sentinel, .sentinel, .widerDeep], laidTests := true, laidLooks := .later }
def FnExactBeginUptoCardSaid : Prop := Claim7.holds Tryz.pinned (.plain (OpenSpec.upto fnExactBeginSpec)) fnExactBeginUptoCard

/-- THE SECOND FORM's CARD OF 'laws.FnExactSweepsOf'. -/
def fnExactSweepsOfUptoCard : Claim7 := { stood := { row := fnExactSweepsOfUptoRow, standIns := [], harness := (true, "9beb6159167449b801bbfd424ae819002481232a335c7d8335cda3a55b54dbf0"), looks := true }, kinds := [], alts := [], laidByText := true, laidKinds := [.data, .data, .data, .sentinel, .sentinel, .widerDeep], laidTests := true, laidLooks := .later }
def FnExactSweepsOfUptoCardSaid : Prop := Claim7.holds Tryz.pinned (.plain (OpenSpec.upto fnExactSweepsOfSpec)) fnExactSweepsOfUptoCard
end Rows
end Go.Proofs.YtfpfmkljakiedaaGreatDoor
