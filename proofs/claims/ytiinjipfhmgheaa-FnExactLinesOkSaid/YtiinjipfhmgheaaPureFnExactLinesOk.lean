/- The pure statement of the law FnExactLinesOk. -/
import Derived.Test.YtiinjipfhmgheaaMFnExactLinesOk
import Derived.Test.YtiinjipfhmgheaaPFnExactLinesOky8
namespace Go.Proofs.Ytiinjipfhmgheaa.Pure
open Go Go.RowKit Go.Proofs.Ytiinjipfhmgheaa.PFnExactLinesOk Go.Proofs.YtiinjipfhmgheaaW.PrintWords Go.Proofs.YtiinjipfhmgheaaW.PrintLast
theorem FnExactLinesOk : ∀ (l0 : List (S132)), l0.length ≤ maxLen → (∀ x ∈ l0, (x.f0.size ≤ maxLen ∧ ((Lit.int .i64 x.f1.f0).wf = true ∧ (Lit.int .i64 x.f1.f1).wf = true ∧ (Lit.int .i64 x.f1.f2).wf = true ∧ (Lit.int .i64 x.f1.f3).wf = true) ∧ x.f2.size ≤ maxLen ∧ x.f3.size ≤ maxLen)) → ∃ k, laws_FnExactLinesOk.f k l0 = some true := by
 intro l h w; exact main l ⟨w, h⟩
end Go.Proofs.Ytiinjipfhmgheaa.Pure
