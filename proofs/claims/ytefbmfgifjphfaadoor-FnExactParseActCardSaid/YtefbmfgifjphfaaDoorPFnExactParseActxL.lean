-- written by xprint.py for this seat
import Derived.Test.YtefbmfgifjphfaaDoorPFnExactParseActx0
import Derived.Test.YtefbmfgifjphfaaDoorXOpen
import Derived.Test.YtefbmfgifjphfaaDoorPFnExactParseActx10
namespace Go.Proofs.YtefbmfgifjphfaaDoor.PFnExactParseAct
open Go.RowKit Go.Proofs.YtefbmfgifjphfaaDoorW.PrintWords Go.Proofs.YtefbmfgifjphfaaDoorW.PrintLast Go.Proofs.YtefbmfgifjphfaaDoorW.PrintMore
attribute [local go_sem] max2_int min2_int max_two min_two max_three min_three max_four min_four   -- for this text's walks alone
set_option linter.unusedVariables false
set_option linter.unusedSimpArgs false

open Go.Proofs.YtefbmfgifjphfaaDoor.XOpen
/-- What is left to be proved of laws_FnExactParseAct, over numbers and lists. -/
def laws_FnExactParseAct.Pure : Prop := ∀ (a0 : ByteArray), (fun s_ : ByteArray => s_.size ≤ maxLen) a0 → ∃ k, laws_FnExactParseAct.f k a0 = some true
end Go.Proofs.YtefbmfgifjphfaaDoor.PFnExactParseAct
