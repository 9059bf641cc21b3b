/- The pure statement of the law FnExactSignText. -/
import Derived.Test.YtgpmmmidplkhnaaMFnExactSignText
import Derived.Test.YtgpmmmidplkhnaaPFnExactSignTexty2
namespace Go.Proofs.Ytgpmmmidplkhnaa.Pure
open Go Go.RowKit Go.Proofs.Ytgpmmmidplkhnaa.PFnExactSignText Go.Proofs.YtgpmmmidplkhnaaW.PrintWords Go.Proofs.YtgpmmmidplkhnaaW.PrintLast
theorem FnExactSignText : ∀ (l0 : List (S58)), l0.length ≤ maxLen → (∀ x ∈ l0, ((Lit.int .i64 x.f0).wf = true ∧ x.f1.size ≤ maxLen ∧ (Lit.int .i64 x.f2).wf = true)) → ∃ k, laws_FnExactSignText.f k l0 = some true := by
 intro l h w; exact main l h w
end Go.Proofs.Ytgpmmmidplkhnaa.Pure
