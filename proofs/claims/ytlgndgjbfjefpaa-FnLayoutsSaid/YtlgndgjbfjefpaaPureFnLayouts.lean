/- FnLayouts: ways lead where their labels stand, however far: what lines do their words do, as the statement has it. No conditions. -/
import Derived.Test.YtlgndgjbfjefpaaMFnLayouts
namespace Go.Proofs.Ytlgndgjbfjefpaa.Pure
open Go Go.RowKit Go.Proofs.Ytlgndgjbfjefpaa.PFnLayouts Go.Proofs.YtlgndgjbfjefpaaW.PrintWords Go.Proofs.YtlgndgjbfjefpaaW.PrintLast
theorem FnLayouts : laws_FnLayouts.Pure := by
 intro l hm _ _; exact main l hm
end Go.Proofs.Ytlgndgjbfjefpaa.Pure
