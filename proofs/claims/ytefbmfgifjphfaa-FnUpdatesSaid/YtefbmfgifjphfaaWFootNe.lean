-- words of the kit's print for this seat, cut down by prune.py of this session to what its laws need
import Derived.Test.YtefbmfgifjphfaaWN
/-! ### 52. A row that stays read whatever happens to a block (a set of blocks) doesn't lie there -/
namespace Go.Proofs.YtefbmfgifjphfaaW.PrintWords
open Go.RowKit
namespace Kd
section
variable {α : Type} {d : Kd α} {W : World} {g n : Nat} {S ok : Nat → Prop} {A : Option Addr} {ad : Addr} {xs : List α}
end
end Kd
end Go.Proofs.YtefbmfgifjphfaaW.PrintWords
