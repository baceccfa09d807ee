-- words of the kit's print for this seat, cut down by prune.py of this session to what its laws need
import Derived.Test.YtlcfebadojmnlaaWInv
import Derived.Test.YtlcfebadojmnlaaWFootNe
namespace Go.Proofs.YtlcfebadojmnlaaW.PrintWords
open Go.RowKit
end Go.Proofs.YtlcfebadojmnlaaW.PrintWords
namespace Go.Proofs.YtlcfebadojmnlaaW.PrintLast
section
variable {ops : Array Oper} {a : Act} {o og : Oper} {g : Nat} {t : Tmp} {u : Bool}
end
end Go.Proofs.YtlcfebadojmnlaaW.PrintLast
