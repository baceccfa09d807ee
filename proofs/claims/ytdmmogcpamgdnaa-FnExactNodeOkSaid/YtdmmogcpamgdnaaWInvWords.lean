-- words of the kit's print for this seat, cut down by prune.py of this session to what its laws need
import Derived.Test.YtdmmogcpamgdnaaWInv
import Derived.Test.YtdmmogcpamgdnaaWFootNe
namespace Go.Proofs.YtdmmogcpamgdnaaW.PrintWords
open Go.RowKit
end Go.Proofs.YtdmmogcpamgdnaaW.PrintWords
namespace Go.Proofs.YtdmmogcpamgdnaaW.PrintLast
section
variable {ops : Array Oper} {a : Act} {o og : Oper} {g : Nat} {t : Tmp} {u : Bool}
end
end Go.Proofs.YtdmmogcpamgdnaaW.PrintLast
