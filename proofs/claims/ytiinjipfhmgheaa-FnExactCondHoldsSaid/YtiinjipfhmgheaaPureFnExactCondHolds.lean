/- The pure statement of the law FnExactCondHolds. -/
import Derived.Test.YtiinjipfhmgheaaMFnExactCondHolds
import Derived.Test.YtiinjipfhmgheaaPFnExactCondHoldsy6
namespace Go.Proofs.Ytiinjipfhmgheaa.Pure
open Go Go.RowKit Go.Proofs.Ytiinjipfhmgheaa.PFnExactCondHolds Go.Proofs.YtiinjipfhmgheaaW.PrintWords Go.Proofs.YtiinjipfhmgheaaW.PrintLast
theorem FnExactCondHolds : ∀ (a0_0 : Int) (a0_1 : Int) (a0_2 : Int) (a0_3 : Int) (a0_4 : Int) (a0_5 : Int) (a1_0 : Int) (a1_1 : Int) (l1_2 : List (S30)), ((Lit.int .i64 a0_0).wf = true ∧ ((Lit.int .i64 a0_1).wf = true ∧ (Lit.int .i64 a0_2).wf = true) ∧ (Lit.int .i64 a0_3).wf = true ∧ ((Lit.int .i64 a0_4).wf = true ∧ (Lit.int .i64 a0_5).wf = true)) → ((Lit.int .i64 a1_0).wf = true ∧ (Lit.int .i64 a1_1).wf = true ∧ ((∀ x ∈ l1_2, ((Lit.int .i64 x.f0).wf = true ∧ (Lit.int .i64 x.f1).wf = true)) ∧ l1_2.length ≤ maxLen)) → ∃ k, laws_FnExactCondHolds.f k a0_0 a0_1 a0_2 a0_3 a0_4 a0_5 a1_0 a1_1 l1_2 = some true := by
 intro a0 a1 a2 a3 a4 a5 b0 b1 l h0 h; exact main a0 a1 a2 a3 a4 a5 b0 b1 l (by unfold maxLen at h; omega)
end Go.Proofs.Ytiinjipfhmgheaa.Pure
