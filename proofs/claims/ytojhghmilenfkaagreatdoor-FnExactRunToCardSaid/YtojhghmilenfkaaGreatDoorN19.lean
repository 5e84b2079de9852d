/- For all arguments FnExactRunTo returns true and leaves them as they were: the card: no condition but the row's own. -/
import Derived.Test.YtojhghmilenfkaaGreatDoorN18
set_option linter.unusedVariables false
set_option linter.unusedSimpArgs false
namespace Go.Proofs.YtojhghmilenfkaaGreatDoor.runTo
open Go Go.Proofs Go.V Go.ChangeShapes Go.WideShapes Go.ChangeAt Go.RowKit
set_option maxRecDepth 100000
theorem card:Rows.FnExactRunToCardSaid:=
 Claim7.holds_tied_plain_at .later [] _ _ _ _ A5f (fun _ h=>by cases h) (by as_aux_lemma=>kernel_rfl) (fun _ h=>by cases h) fnExactRunTo_row_tie rfl ⟨rfl,rfl⟩ (by as_aux_lemma=>kernel_rfl) rfl plain (by as_aux_lemma=>kernel_rfl)
#print axioms card
end Go.Proofs.YtojhghmilenfkaaGreatDoor.runTo
