/- FnRings: what is offered to a ring is in it, place by place, or is counted. No conditions. -/
import Derived.Test.YtlgndgjbfjefpaaMFnRings
namespace Go.Proofs.Ytlgndgjbfjefpaa.Pure
open Go Go.RowKit Go.Proofs.Ytlgndgjbfjefpaa.PFnRings Go.Proofs.YtlgndgjbfjefpaaW.PrintWords Go.Proofs.YtlgndgjbfjefpaaW.PrintLast
theorem FnRings : laws_FnRings.Pure := by
 intro l _ _ _; exact main l
end Go.Proofs.Ytlgndgjbfjefpaa.Pure
