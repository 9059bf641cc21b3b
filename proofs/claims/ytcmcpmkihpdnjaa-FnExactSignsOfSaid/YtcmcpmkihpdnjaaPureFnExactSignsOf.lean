/- FnExactSignsOf: SignsOf of the program tells the same signs as the reference's, for every text. No conditions. -/
import Derived.Test.YtcmcpmkihpdnjaaMFnExactSignsOf
namespace Go.Proofs.Ytcmcpmkihpdnjaa.Pure
open Go Go.RowKit Go.Proofs.Ytcmcpmkihpdnjaa.PFnExactSignsOf Go.Proofs.YtcmcpmkihpdnjaaW.PrintWords Go.Proofs.YtcmcpmkihpdnjaaW.PrintLast
theorem FnExactSignsOf : laws_FnExactSignsOf.Pure := by
 intro s _; exact main s
end Go.Proofs.Ytcmcpmkihpdnjaa.Pure
