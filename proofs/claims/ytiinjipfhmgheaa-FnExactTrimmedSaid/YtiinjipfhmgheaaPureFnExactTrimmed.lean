/- The pure statement of the law FnExactTrimmed. -/
import Derived.Test.YtiinjipfhmgheaaMFnExactTrimmed
import Derived.Test.YtiinjipfhmgheaaPFnExactTrimmedy8
namespace Go.Proofs.Ytiinjipfhmgheaa.Pure
open Go Go.RowKit Go.Proofs.Ytiinjipfhmgheaa.PFnExactTrimmed Go.Proofs.YtiinjipfhmgheaaW.PrintWords Go.Proofs.YtiinjipfhmgheaaW.PrintLast
theorem FnExactTrimmed : ∀ (l0 : List (S120)), l0.length ≤ maxLen → (∀ x ∈ l0, ((Lit.int .i64 x.f0).wf = true ∧ (Lit.int .i64 x.f1).wf = true ∧ (Lit.int .i64 x.f2).wf = true ∧ (Lit.int .i64 x.f3).wf = true)) → ∃ k, laws_FnExactTrimmed.f k l0 = some true := by
 intro l h w; exact main l h
end Go.Proofs.Ytiinjipfhmgheaa.Pure
