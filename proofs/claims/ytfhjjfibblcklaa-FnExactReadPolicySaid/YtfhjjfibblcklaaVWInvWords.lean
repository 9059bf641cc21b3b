import Derived.Test.YtfhjjfibblcklaaVWInv
import Derived.Test.YtfhjjfibblcklaaVWFootNe
namespace Go.Proofs.YtfhjjfibblcklaaW.PrintWords
open Go.RowKit
end Go.Proofs.YtfhjjfibblcklaaW.PrintWords
namespace Go.Proofs.YtfhjjfibblcklaaW.PrintLast
section
variable {ops : Array Oper} {a : Act} {o og : Oper} {g : Nat} {t : Tmp} {u : Bool}
end
end Go.Proofs.YtfhjjfibblcklaaW.PrintLast
