/- The pure statement of the law FnExactLayout. -/
import Derived.Test.YtfmilhpneelonaaMFnExactLayout
import Derived.Test.YtfmilhpneelonaaPFnExactLayouty15
namespace Go.Proofs.Ytfmilhpneelonaa.Pure
open Go Go.RowKit Go.Proofs.Ytfmilhpneelonaa.PFnExactLayout Go.Proofs.YtfmilhpneelonaaW.PrintWords Go.Proofs.YtfmilhpneelonaaW.PrintLast
theorem FnExactLayout : ∀ (l0 : List (S167)), l0.length ≤ maxLen → (∀ x ∈ l0, (x.f0.size ≤ maxLen ∧ ((Lit.int .i64 x.f1.f0).wf = true ∧ (Lit.int .i64 x.f1.f1).wf = true ∧ (Lit.int .i64 x.f1.f2).wf = true ∧ (Lit.int .i64 x.f1.f3).wf = true) ∧ x.f2.size ≤ maxLen ∧ x.f3.size ≤ maxLen)) → ∃ k, laws_FnExactLayout.f k l0 = some true := by
 intro l h w; exact main l ⟨w, h⟩
end Go.Proofs.Ytfmilhpneelonaa.Pure
