/- FnDecides: the first rule that holds decides, and where none does the policy. No conditions. -/
import Derived.Test.YtlgndgjbfjefpaaMFnDecides
namespace Go.Proofs.Ytlgndgjbfjefpaa.Pure
open Go Go.RowKit Go.Proofs.Ytlgndgjbfjefpaa.PFnDecides Go.Proofs.YtlgndgjbfjefpaaW.PrintWords Go.Proofs.YtlgndgjbfjefpaaW.PrintLast
theorem FnDecides : laws_FnDecides.Pure := by
 intro l _ _ _; exact main l
end Go.Proofs.Ytlgndgjbfjefpaa.Pure
