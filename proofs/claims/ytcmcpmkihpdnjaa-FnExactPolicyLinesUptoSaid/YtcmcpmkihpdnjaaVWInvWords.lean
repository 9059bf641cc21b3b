import Derived.Test.YtcmcpmkihpdnjaaVWInv
import Derived.Test.YtcmcpmkihpdnjaaVWFootNe
namespace Go.Proofs.YtcmcpmkihpdnjaaW.PrintWords
open Go.RowKit
end Go.Proofs.YtcmcpmkihpdnjaaW.PrintWords
namespace Go.Proofs.YtcmcpmkihpdnjaaW.PrintLast
section
variable {ops : Array Oper} {a : Act} {o og : Oper} {g : Nat} {t : Tmp} {u : Bool}
end
end Go.Proofs.YtcmcpmkihpdnjaaW.PrintLast
