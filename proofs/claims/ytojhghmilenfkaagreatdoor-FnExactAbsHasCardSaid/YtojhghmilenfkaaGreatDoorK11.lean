/- For all arguments FnExactAbsHas returns true and leaves them as they were: the row and its card: no condition but the row's own. -/
import Derived.Test.YtojhghmilenfkaaGreatDoorK10
set_option linter.unusedVariables false
set_option linter.unusedSimpArgs false
namespace Go.Proofs.YtojhghmilenfkaaGreatDoor.absHas
open Go Go.Proofs Go.V Go.ChangeShapes Go.WideShapes Go.ChangeAt Go.RowKit
set_option maxRecDepth 100000
theorem card:Rows.FnExactAbsHasCardSaid :=
 Claim7.holds_tied_plain_at .later [] _ _ _ _ Ayk (fun _ h=>by cases h) (by as_aux_lemma=>kernel_rfl) (fun _ h=>by cases h) fnExactAbsHas_row_tie rfl ⟨rfl,rfl⟩ (by as_aux_lemma=>kernel_rfl) rfl plain (by as_aux_lemma=>kernel_rfl)
#print axioms card
end Go.Proofs.YtojhghmilenfkaaGreatDoor.absHas
