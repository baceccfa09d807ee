/- How the arguments of FnReplays are read, and what is left to be proved of it. No conditions. -/
import Derived.Test.YtobfemcobakeoaaGreatREvF1
import Derived.Test.YtobfemcobakeoaaGreatLibO
namespace Go.Proofs.YtobfemcobakeoaaGreat.Ev
open Go.Proofs.YtobfemcobakeoaaGreatEv Go.RowKit
set_option linter.unusedVariables false
set_option maxRecDepth 100000
noncomputable section
open Go.ChangeShapes Go.WideShapes
/-- What is left to be proved of laws_FnReplays, over numbers and lists. -/
def laws_FnReplays.Pure : Prop := ∀ (a0 : List Int), (fun l_ : List Int => l_.length ≤ maxLen ∧ ∀ x_ ∈ l_, (fun n_ : Int => (Lit.int .u8 n_).wf = true) x_) a0 → laws_FnReplays.f a0 = some true
end
end Go.Proofs.YtobfemcobakeoaaGreat.Ev
