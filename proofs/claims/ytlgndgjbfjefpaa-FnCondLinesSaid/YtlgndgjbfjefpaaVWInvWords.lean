import Derived.Test.YtlgndgjbfjefpaaVWInv
import Derived.Test.YtlgndgjbfjefpaaVWFootNe
namespace Go.Proofs.YtlgndgjbfjefpaaW.PrintWords
open Go.RowKit
end Go.Proofs.YtlgndgjbfjefpaaW.PrintWords
namespace Go.Proofs.YtlgndgjbfjefpaaW.PrintLast
section
variable {ops : Array Oper} {a : Act} {o og : Oper} {g : Nat} {t : Tmp} {u : Bool}
end
end Go.Proofs.YtlgndgjbfjefpaaW.PrintLast
