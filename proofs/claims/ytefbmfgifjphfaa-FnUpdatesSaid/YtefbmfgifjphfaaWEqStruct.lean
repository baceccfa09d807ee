-- words of the kit's print for this seat, cut down by prune.py of this session to what its laws need
import Derived.Test.YtefbmfgifjphfaaWWords
import Derived.Laws.StructEq
/-! ### 53. '==' of structs as_ one Bool -/
namespace Go.Proofs.YtefbmfgifjphfaaW.PrintWords
open Go.RowKit
section
variable {P : Program} {d : Nat} {xs ys : Array Value} {f : Field} {fs : List Field} {a b : Value} {r s : Bool} {w : World}
end
end Go.Proofs.YtefbmfgifjphfaaW.PrintWords
