-- written by xprint.py for this seat
import Derived.Test.YtefbmfgifjphfaaDoorPFnExactFormatVarsx0
import Derived.Test.YtefbmfgifjphfaaDoorXOpen
import Derived.Test.YtefbmfgifjphfaaDoorPFnExactFormatVarsx2
namespace Go.Proofs.YtefbmfgifjphfaaDoor.PFnExactFormatVars
open Go.RowKit Go.Proofs.YtefbmfgifjphfaaDoorW.PrintWords Go.Proofs.YtefbmfgifjphfaaDoorW.PrintLast Go.Proofs.YtefbmfgifjphfaaDoorW.PrintMore
attribute [local go_sem] max2_int min2_int max_two min_two max_three min_three max_four min_four   -- for this text's walks alone
set_option linter.unusedVariables false
set_option linter.unusedSimpArgs false

open Go.Proofs.YtefbmfgifjphfaaDoor.XOpen
/-- What is left to be proved of laws_FnExactFormatVars, over numbers and lists. -/
def laws_FnExactFormatVars.Pure : Prop := ∀ (l0 : List Int), (fun l_ : List Int => l_.length ≤ maxLen ∧ ∀ x_ ∈ l_, (fun n_ : Int => (Lit.int .i64 n_).wf = true) x_) l0 → ∃ k, laws_FnExactFormatVars.f k l0 = some true
end Go.Proofs.YtefbmfgifjphfaaDoor.PFnExactFormatVars
