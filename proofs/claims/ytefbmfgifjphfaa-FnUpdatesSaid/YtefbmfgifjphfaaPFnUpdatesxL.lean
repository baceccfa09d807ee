-- written by xprint.py for this seat
import Derived.Test.YtefbmfgifjphfaaPFnUpdatesx0
import Derived.Test.YtefbmfgifjphfaaXOpen
import Derived.Test.YtefbmfgifjphfaaPFnUpdatesx6
namespace Go.Proofs.Ytefbmfgifjphfaa.PFnUpdates
open Go.RowKit Go.Proofs.YtefbmfgifjphfaaW.PrintWords Go.Proofs.YtefbmfgifjphfaaW.PrintLast Go.Proofs.YtefbmfgifjphfaaW.PrintMore
attribute [local go_sem] max2_int min2_int max_two min_two max_three min_three max_four min_four   -- for this text's walks alone
set_option linter.unusedVariables false
set_option linter.unusedSimpArgs false

open Go.Proofs.Ytefbmfgifjphfaa.XOpen
/-- What is left to be proved of laws_FnUpdates, over numbers and lists. -/
def laws_FnUpdates.Pure : Prop := ∀ (l0 : List Int), (fun l_ : List Int => l_.length ≤ maxLen ∧ ∀ x_ ∈ l_, (fun n_ : Int => (Lit.int .u8 n_).wf = true) x_) l0 → ∃ k, laws_FnUpdates.f k l0 = some true
end Go.Proofs.Ytefbmfgifjphfaa.PFnUpdates
