import Derived.Test.YtfhjjfibblcklaaGreatVWInv
import Derived.Test.YtfhjjfibblcklaaGreatVWFootNe
namespace Go.Proofs.YtfhjjfibblcklaaGreatW.PrintWords
open Go.RowKit
end Go.Proofs.YtfhjjfibblcklaaGreatW.PrintWords
namespace Go.Proofs.YtfhjjfibblcklaaGreatW.PrintLast
section
variable {ops : Array Oper} {a : Act} {o og : Oper} {g : Nat} {t : Tmp} {u : Bool}
end
end Go.Proofs.YtfhjjfibblcklaaGreatW.PrintLast
