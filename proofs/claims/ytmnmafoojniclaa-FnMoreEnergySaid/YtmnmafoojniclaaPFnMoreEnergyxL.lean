-- written by xprint.py for this seat
import Derived.Test.YtmnmafoojniclaaPFnMoreEnergyx0
import Derived.Test.YtmnmafoojniclaaXOpen
import Derived.Test.YtmnmafoojniclaaPFnMoreEnergyx4
namespace Go.Proofs.Ytmnmafoojniclaa.PFnMoreEnergy
open Go.RowKit Go.Proofs.YtmnmafoojniclaaW.PrintWords Go.Proofs.YtmnmafoojniclaaW.PrintLast Go.Proofs.YtmnmafoojniclaaW.PrintMore
attribute [local go_sem] max2_int min2_int max_two min_two max_three min_three max_four min_four   -- for this text's walks alone
set_option linter.unusedVariables false
set_option linter.unusedSimpArgs false

open Go.Proofs.Ytmnmafoojniclaa.XOpen
/-- What is left to be proved of laws_FnMoreEnergy, over numbers and lists. -/
def laws_FnMoreEnergy.Pure : Prop := ∀ (l0 : List Int), (fun l_ : List Int => l_.length ≤ maxLen ∧ ∀ x_ ∈ l_, (fun n_ : Int => (Lit.int .u8 n_).wf = true) x_) l0 → ∃ k, laws_FnMoreEnergy.f k l0 = some true
end Go.Proofs.Ytmnmafoojniclaa.PFnMoreEnergy
