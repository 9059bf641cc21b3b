/- The pure statement of the law FnExactRunStack. -/
import Derived.Test.YtiinjipfhmgheaaMFnExactRunStack
import Derived.Test.YtiinjipfhmgheaaPFnExactRunStacky10
namespace Go.Proofs.Ytiinjipfhmgheaa.Pure
open Go Go.RowKit Go.Proofs.Ytiinjipfhmgheaa.PFnExactRunStack Go.Proofs.YtiinjipfhmgheaaW.PrintWords Go.Proofs.YtiinjipfhmgheaaW.PrintLast
theorem FnExactRunStack : ∀ (l0 : List (List (S120))) (a1_0 : Int) (a1_1 : Int) (l1_2 : List (S30)), l0.length ≤ maxLen → (∀ x ∈ l0, ((∀ u1 ∈ x, ((Lit.int .i64 u1.f0).wf = true ∧ (Lit.int .i64 u1.f1).wf = true ∧ (Lit.int .i64 u1.f2).wf = true ∧ (Lit.int .i64 u1.f3).wf = true)) ∧ x.length ≤ maxLen)) → ((Lit.int .i64 a1_0).wf = true ∧ (Lit.int .i64 a1_1).wf = true ∧ ((∀ u4 ∈ l1_2, ((Lit.int .i64 u4.f0).wf = true ∧ (Lit.int .i64 u4.f1).wf = true)) ∧ l1_2.length ≤ maxLen)) → ∃ k, laws_FnExactRunStack.f k l0 a1_0 a1_1 l1_2 = some true := by
 intro l a b w h hx hw; exact main l a b w h hx hw.2.2
end Go.Proofs.Ytiinjipfhmgheaa.Pure
