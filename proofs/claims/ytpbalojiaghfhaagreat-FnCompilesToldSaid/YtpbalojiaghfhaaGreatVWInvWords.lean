import Derived.Test.YtpbalojiaghfhaaGreatVWInv
import Derived.Test.YtpbalojiaghfhaaGreatVWFootNe
namespace Go.Proofs.YtpbalojiaghfhaaGreatW.PrintWords
open Go.RowKit
end Go.Proofs.YtpbalojiaghfhaaGreatW.PrintWords
namespace Go.Proofs.YtpbalojiaghfhaaGreatW.PrintLast
section
variable {ops : Array Oper} {a : Act} {o og : Oper} {g : Nat} {t : Tmp} {u : Bool}
end
end Go.Proofs.YtpbalojiaghfhaaGreatW.PrintLast
