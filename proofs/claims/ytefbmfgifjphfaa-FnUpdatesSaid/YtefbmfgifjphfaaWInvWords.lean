-- words of the kit's print for this seat, cut down by prune.py of this session to what its laws need
import Derived.Test.YtefbmfgifjphfaaWInv
import Derived.Test.YtefbmfgifjphfaaWFootNe
namespace Go.Proofs.YtefbmfgifjphfaaW.PrintWords
open Go.RowKit
end Go.Proofs.YtefbmfgifjphfaaW.PrintWords
namespace Go.Proofs.YtefbmfgifjphfaaW.PrintLast
section
variable {ops : Array Oper} {a : Act} {o og : Oper} {g : Nat} {t : Tmp} {u : Bool}
end
end Go.Proofs.YtefbmfgifjphfaaW.PrintLast
