/- How the arguments of FnNodes are read, and what is left to be proved of it. No conditions. -/
import Derived.Test.YtmapddgocpkgeaaGreatNEvF33
import Derived.Test.YtmapddgocpkgeaaGreatLibO
namespace Go.Proofs.YtmapddgocpkgeaaGreat.Ev
open Go.Proofs.YtmapddgocpkgeaaGreat.aa Go.RowKit
set_option linter.unusedVariables false
set_option maxRecDepth 100000
noncomputable section
open Go.ChangeShapes Go.WideShapes
def cY.Pure:Prop:=∀(a0:List Int),(fun l_:List Int=>l_.length≤maxLen∧∀x_∈l_,(fun n_:Int=>(Lit.int .u8 n_).wf=true) x_) a0→cY.f a0=some true
end
end Go.Proofs.YtmapddgocpkgeaaGreat.Ev
