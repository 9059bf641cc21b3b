/- FnLinesTold: what is told of drawn lines, right or not, is what the reference tells. No conditions. -/
import Derived.Test.YtlgndgjbfjefpaaMFnLinesTold
namespace Go.Proofs.Ytlgndgjbfjefpaa.Pure
open Go Go.RowKit Go.Proofs.Ytlgndgjbfjefpaa.PFnLinesTold Go.Proofs.YtlgndgjbfjefpaaW.PrintWords Go.Proofs.YtlgndgjbfjefpaaW.PrintLast
theorem FnLinesTold : laws_FnLinesTold.Pure := by
 intro l _ _ _; exact main l
end Go.Proofs.Ytlgndgjbfjefpaa.Pure
