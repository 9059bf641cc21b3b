/- The pure statement of the law FnExactShort. -/
import Derived.Test.YtiinjipfhmgheaaMFnExactShort
import Derived.Test.YtiinjipfhmgheaaPFnExactShorty9
namespace Go.Proofs.Ytiinjipfhmgheaa.Pure
open Go Go.RowKit Go.Proofs.Ytiinjipfhmgheaa.PFnExactShort Go.Proofs.YtiinjipfhmgheaaW.PrintWords Go.Proofs.YtiinjipfhmgheaaW.PrintLast
theorem FnExactShort : ∀ (l0 : List (S120)), l0.length ≤ maxLen → (∀ x ∈ l0, ((Lit.int .i64 x.f0).wf = true ∧ (Lit.int .i64 x.f1).wf = true ∧ (Lit.int .i64 x.f2).wf = true ∧ (Lit.int .i64 x.f3).wf = true)) → ∃ k, laws_FnExactShort.f k l0 = some true := by
 intro l h w; exact main l h
end Go.Proofs.Ytiinjipfhmgheaa.Pure
