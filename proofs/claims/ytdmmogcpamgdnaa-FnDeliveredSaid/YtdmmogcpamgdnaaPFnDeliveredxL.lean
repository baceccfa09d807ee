-- written by xprint.py for this seat
import Derived.Test.YtdmmogcpamgdnaaPFnDeliveredx0
import Derived.Test.YtdmmogcpamgdnaaXOpen
import Derived.Test.YtdmmogcpamgdnaaPFnDeliveredx9
namespace Go.Proofs.Ytdmmogcpamgdnaa.PFnDelivered
open Go.RowKit Go.Proofs.YtdmmogcpamgdnaaW.PrintWords Go.Proofs.YtdmmogcpamgdnaaW.PrintLast Go.Proofs.YtdmmogcpamgdnaaW.PrintMore
attribute [local go_sem] max2_int min2_int max_two min_two max_three min_three max_four min_four   -- for this text's walks alone
set_option linter.unusedVariables false
set_option linter.unusedSimpArgs false

open Go.Proofs.Ytdmmogcpamgdnaa.XOpen
/-- What is left to be proved of laws_FnDelivered, over numbers and lists. -/
def laws_FnDelivered.Pure : Prop := ∀ (l0 : List Int), (fun l_ : List Int => l_.length ≤ maxLen ∧ ∀ x_ ∈ l_, (fun n_ : Int => (Lit.int .u8 n_).wf = true) x_) l0 → ∃ k, laws_FnDelivered.f k l0 = some true
end Go.Proofs.Ytdmmogcpamgdnaa.PFnDelivered
