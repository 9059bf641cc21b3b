/- FnCondLines: the lines of a condition go to yes just when it holds, and the lines of a rule come to their end just when its conditions hold, as the statement has it. No conditions. -/
import Derived.Test.YtlgndgjbfjefpaaMFnCondLines
namespace Go.Proofs.Ytlgndgjbfjefpaa.Pure
open Go Go.RowKit Go.Proofs.Ytlgndgjbfjefpaa.PFnCondLines Go.Proofs.YtlgndgjbfjefpaaW.PrintWords Go.Proofs.YtlgndgjbfjefpaaW.PrintLast
theorem FnCondLines : laws_FnCondLines.Pure := by
 intro l _ _ _; exact main l
end Go.Proofs.Ytlgndgjbfjefpaa.Pure
