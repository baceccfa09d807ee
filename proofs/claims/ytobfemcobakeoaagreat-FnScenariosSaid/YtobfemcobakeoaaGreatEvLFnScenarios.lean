/- How the arguments of FnScenarios are read, and what is left to be proved of it. No conditions. -/
import Derived.Test.YtobfemcobakeoaaGreatSEvF1
import Derived.Test.YtobfemcobakeoaaGreatLibO
namespace Go.Proofs.YtobfemcobakeoaaGreat.Ev
open Go.Proofs.YtobfemcobakeoaaGreatEv Go.RowKit
set_option linter.unusedVariables false
set_option maxRecDepth 100000
noncomputable section
open Go.ChangeShapes Go.WideShapes
/-- What is left to be proved of laws_FnScenarios, over numbers and lists. -/
def laws_FnScenarios.Pure : Prop := ∀ (a0 : List Int), (fun l_ : List Int => l_.length ≤ maxLen ∧ ∀ x_ ∈ l_, (fun n_ : Int => (Lit.int .u8 n_).wf = true) x_) a0 → laws_FnScenarios.f a0 = some true
end
end Go.Proofs.YtobfemcobakeoaaGreat.Ev
