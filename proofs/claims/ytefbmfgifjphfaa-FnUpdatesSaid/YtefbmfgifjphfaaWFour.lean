-- words of the kit's print for this seat, cut down by prune.py of this session to what its laws need
import Derived.Test.YtefbmfgifjphfaaWTab
/-! ### 56. Four, five, six operations that may come up next, in any order -/
namespace Go.Proofs.YtefbmfgifjphfaaW.PrintLast
section
variable {P : Program} {ops : Array Oper} {Q : Exit → Act → World → Prop} {md : Region.Mode} {S : World → Prop} {ds : List Nat} {T : Bool × List (List Nat × List Nat)}
end
end Go.Proofs.YtefbmfgifjphfaaW.PrintLast
