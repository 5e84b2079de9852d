/- For all arguments FnExactStep returns true and leaves them as they were: the card: no condition but the row's own. -/
import Derived.Test.YtojhghmilenfkaaGreatDoorQ19
set_option linter.unusedVariables false
set_option linter.unusedSimpArgs false
namespace Go.Proofs.YtojhghmilenfkaaGreatDoor.step
open Go Go.Proofs Go.V Go.ChangeShapes Go.WideShapes Go.ChangeAt Go.RowKit
set_option maxRecDepth 100000
theorem card:Rows.FnExactStepCardSaid:=
 Claim7.holds_tied_plain_at .later [] _ _ _ _ A6w (fun _ h=>by cases h) (by as_aux_lemma=>kernel_rfl) (fun _ h=>by cases h) fnExactStep_row_tie rfl ⟨rfl,rfl⟩ (by as_aux_lemma=>kernel_rfl) rfl plain (by as_aux_lemma=>kernel_rfl)
#print axioms card
end Go.Proofs.YtojhghmilenfkaaGreatDoor.step
