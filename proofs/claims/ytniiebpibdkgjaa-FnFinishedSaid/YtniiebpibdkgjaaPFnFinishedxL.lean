-- written by xprint.py for this seat
import Derived.Test.YtniiebpibdkgjaaPFnFinishedx0
import Derived.Test.YtniiebpibdkgjaaXOpen
import Derived.Test.YtniiebpibdkgjaaPFnFinishedx4
namespace Go.Proofs.Ytniiebpibdkgjaa.PFnFinished
open Go.RowKit Go.Proofs.YtniiebpibdkgjaaW.PrintWords Go.Proofs.YtniiebpibdkgjaaW.PrintLast Go.Proofs.YtniiebpibdkgjaaW.PrintMore
attribute [local go_sem] max2_int min2_int max_two min_two max_three min_three max_four min_four   -- for this text's walks alone
set_option linter.unusedVariables false
set_option linter.unusedSimpArgs false

open Go.Proofs.Ytniiebpibdkgjaa.XOpen
/-- What is left to be proved of laws_FnFinished, over numbers and lists. -/
def laws_FnFinished.Pure : Prop := ∀ (l0 : List Int), (fun l_ : List Int => l_.length ≤ maxLen ∧ ∀ x_ ∈ l_, (fun n_ : Int => (Lit.int .u8 n_).wf = true) x_) l0 → ∃ k, laws_FnFinished.f k l0 = some true
end Go.Proofs.Ytniiebpibdkgjaa.PFnFinished
