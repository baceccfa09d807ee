/- How the arguments of FnActTexts are read, and what is left to be proved of it. No conditions. -/
import Derived.Test.YtpndhhellhfegaaDoorAEvF1
import Derived.Test.YtpndhhellhfegaaDoorLibO
namespace Go.Proofs.YtpndhhellhfegaaDoor.Ev
open Go.Proofs.YtpndhhellhfegaaDoorEv Go.RowKit
set_option linter.unusedVariables false
set_option maxRecDepth 100000
noncomputable section
open Go.ChangeShapes Go.WideShapes
/-- What is left to be proved of laws_FnActTexts, over numbers and lists. -/
def laws_FnActTexts.Pure : Prop := ∀ (a0 : List Int), (fun l_ : List Int => l_.length ≤ maxLen ∧ ∀ x_ ∈ l_, (fun n_ : Int => (Lit.int .u8 n_).wf = true) x_) a0 → laws_FnActTexts.f a0 = some true
end
end Go.Proofs.YtpndhhellhfegaaDoor.Ev
