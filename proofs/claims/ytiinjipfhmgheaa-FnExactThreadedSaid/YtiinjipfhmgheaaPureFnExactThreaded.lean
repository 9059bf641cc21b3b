/- The pure statement of the law FnExactThreaded. -/
import Derived.Test.YtiinjipfhmgheaaMFnExactThreaded
import Derived.Test.YtiinjipfhmgheaaPFnExactThreadedy5
namespace Go.Proofs.Ytiinjipfhmgheaa.Pure
open Go Go.RowKit Go.Proofs.Ytiinjipfhmgheaa.PFnExactThreaded Go.Proofs.YtiinjipfhmgheaaW.PrintWords Go.Proofs.YtiinjipfhmgheaaW.PrintLast
theorem FnExactThreaded : ∀ (l0 : List (S120)), l0.length ≤ maxLen → (∀ x ∈ l0, ((Lit.int .i64 x.f0).wf = true ∧ (Lit.int .i64 x.f1).wf = true ∧ (Lit.int .i64 x.f2).wf = true ∧ (Lit.int .i64 x.f3).wf = true)) → ∃ k, laws_FnExactThreaded.f k l0 = some true := by
 intro l0 hm _; exact main l0 (by unfold maxLen at hm; omega)
end Go.Proofs.Ytiinjipfhmgheaa.Pure
