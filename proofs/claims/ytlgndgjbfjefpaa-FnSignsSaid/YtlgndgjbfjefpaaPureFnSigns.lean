/- FnSigns: the signs of a text: what the reader tells of signs written out is these signs, as the statement has it. No conditions. -/
import Derived.Test.YtlgndgjbfjefpaaMFnSigns
namespace Go.Proofs.Ytlgndgjbfjefpaa.Pure
open Go Go.RowKit Go.Proofs.Ytlgndgjbfjefpaa.PFnSigns Go.Proofs.YtlgndgjbfjefpaaW.PrintWords Go.Proofs.YtlgndgjbfjefpaaW.PrintLast
theorem FnSigns : laws_FnSigns.Pure := by
 intro l _ _ _; exact main l
end Go.Proofs.Ytlgndgjbfjefpaa.Pure
