/- FnCondLinesTold: the lines of drawn conditions and rules are what the reference tells. No conditions. -/
import Derived.Test.YtlgndgjbfjefpaaMFnCondLinesTold
namespace Go.Proofs.Ytlgndgjbfjefpaa.Pure
open Go Go.RowKit Go.Proofs.Ytlgndgjbfjefpaa.PFnCondLinesTold Go.Proofs.YtlgndgjbfjefpaaW.PrintWords Go.Proofs.YtlgndgjbfjefpaaW.PrintLast
theorem FnCondLinesTold : laws_FnCondLinesTold.Pure := by
 intro l _ _ _; exact main l
end Go.Proofs.Ytlgndgjbfjefpaa.Pure
