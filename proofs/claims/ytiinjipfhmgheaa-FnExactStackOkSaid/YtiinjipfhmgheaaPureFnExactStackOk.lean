/- The pure statement of the law FnExactStackOk. -/
import Derived.Test.YtiinjipfhmgheaaMFnExactStackOk
import Derived.Test.YtiinjipfhmgheaaPFnExactStackOky5
namespace Go.Proofs.Ytiinjipfhmgheaa.Pure
open Go Go.RowKit Go.Proofs.Ytiinjipfhmgheaa.PFnExactStackOk Go.Proofs.YtiinjipfhmgheaaW.PrintWords Go.Proofs.YtiinjipfhmgheaaW.PrintLast
theorem FnExactStackOk : ∀ (l0 : List (List (S120))), l0.length ≤ maxLen → (∀ x ∈ l0, ((∀ u1 ∈ x, ((Lit.int .i64 u1.f0).wf = true ∧ (Lit.int .i64 u1.f1).wf = true ∧ (Lit.int .i64 u1.f2).wf = true ∧ (Lit.int .i64 u1.f3).wf = true)) ∧ x.length ≤ maxLen)) → ∃ k, laws_FnExactStackOk.f k l0 = some true := by
 intro l0 hm hw; exact main l0 hm hw
end Go.Proofs.Ytiinjipfhmgheaa.Pure
