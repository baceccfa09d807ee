/- How the arguments of FnActParts are read, and what is left to be proved of it. No conditions. -/
import Derived.Test.YtobfemcobakeoaaGreatAEvF1
import Derived.Test.YtobfemcobakeoaaGreatLibO
namespace Go.Proofs.YtobfemcobakeoaaGreat.Ev
open Go.Proofs.YtobfemcobakeoaaGreatEv Go.RowKit
set_option linter.unusedVariables false
set_option maxRecDepth 100000
noncomputable section
open Go.ChangeShapes Go.WideShapes
/-- What is left to be proved of laws_FnActParts, over numbers and lists. -/
def laws_FnActParts.Pure : Prop := ∀ (a0 : List Int), (fun l_ : List Int => l_.length ≤ maxLen ∧ ∀ x_ ∈ l_, (fun n_ : Int => (Lit.int .u8 n_).wf = true) x_) a0 → laws_FnActParts.f a0 = some true
end
end Go.Proofs.YtobfemcobakeoaaGreat.Ev
