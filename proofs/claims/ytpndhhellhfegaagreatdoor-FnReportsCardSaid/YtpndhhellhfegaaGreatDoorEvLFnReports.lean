/- How the arguments of FnReports are read, and what is left to be proved of it. No conditions. -/
import Derived.Test.YtpndhhellhfegaaGreatDoorREvF20
import Derived.Test.YtpndhhellhfegaaGreatDoorLibO
namespace Go.Proofs.YtpndhhellhfegaaGreatDoor.Ev
open Go.Proofs.YtpndhhellhfegaaGreatDoor.aa Go.RowKit
set_option linter.unusedVariables false
set_option maxRecDepth 100000
noncomputable section
open Go.ChangeShapes Go.WideShapes
def cF.Pure:Prop:=∀(a0:List Int),(fun l_:List Int=>l_.length≤maxLen∧∀x_∈l_,(fun n_:Int=>(Lit.int .u8 n_).wf=true) x_) a0→cF.f a0=some true
end
end Go.Proofs.YtpndhhellhfegaaGreatDoor.Ev
