import Derived.Test.YtpbalojiaghfhaaVWInv
import Derived.Test.YtpbalojiaghfhaaVWFootNe
namespace Go.Proofs.YtpbalojiaghfhaaW.PrintWords
open Go.RowKit
end Go.Proofs.YtpbalojiaghfhaaW.PrintWords
namespace Go.Proofs.YtpbalojiaghfhaaW.PrintLast
section
variable {ops : Array Oper} {a : Act} {o og : Oper} {g : Nat} {t : Tmp} {u : Bool}
end
end Go.Proofs.YtpbalojiaghfhaaW.PrintLast
