-- written by xprint.py for this seat
import Derived.Test.YtmnmafoojniclaaPFnExactIdentityRulesx0
import Derived.Test.YtmnmafoojniclaaXOpen
import Derived.Test.YtmnmafoojniclaaPFnExactIdentityRulesx2
namespace Go.Proofs.Ytmnmafoojniclaa.PFnExactIdentityRules
open Go.RowKit Go.Proofs.YtmnmafoojniclaaW.PrintWords Go.Proofs.YtmnmafoojniclaaW.PrintLast Go.Proofs.YtmnmafoojniclaaW.PrintMore
attribute [local go_sem] max2_int min2_int max_two min_two max_three min_three max_four min_four   -- for this text's walks alone
set_option linter.unusedVariables false
set_option linter.unusedSimpArgs false

open Go.Proofs.Ytmnmafoojniclaa.XOpen
/-- What is left to be proved of laws_FnExactIdentityRules, over numbers and lists. -/
def laws_FnExactIdentityRules.Pure : Prop := ∃ k, laws_FnExactIdentityRules.f k  = some true
end Go.Proofs.Ytmnmafoojniclaa.PFnExactIdentityRules
