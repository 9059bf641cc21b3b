/- The pure statement of the law FnExactRefilled. -/
import Derived.Test.YtgpmmmidplkhnaaMFnExactRefilled
import Derived.Test.YtgpmmmidplkhnaaPFnExactRefilledy4
namespace Go.Proofs.Ytgpmmmidplkhnaa.Pure
open Go Go.RowKit Go.Proofs.Ytgpmmmidplkhnaa.PFnExactRefilled Go.Proofs.YtgpmmmidplkhnaaW.PrintWords Go.Proofs.YtgpmmmidplkhnaaW.PrintLast
theorem FnExactRefilled : ∀ (l0_0 : List (S30)) (a0_1 : Int) (a0_2 : Int) (a0_3 : Int) (a1 : Int), (((∀ u4 ∈ l0_0, ((Lit.int .i64 u4.f0).wf = true ∧ (Lit.int .i64 u4.f1).wf = true ∧ (Lit.int .i64 u4.f2).wf = true ∧ (Lit.int .i64 u4.f3).wf = true)) ∧ l0_0.length ≤ maxLen) ∧ (Lit.int .i64 a0_1).wf = true ∧ (Lit.int .i64 a0_2).wf = true ∧ (Lit.int .i64 a0_3).wf = true) → (Lit.int .i64 a1).wf = true → ∃ k, laws_FnExactRefilled.f k l0_0 a0_1 a0_2 a0_3 a1 = some true := by
 intro l a b c x h hx; exact main l a b c x h.1.2 (wf64 h.2.1) (wf64 hx)
end Go.Proofs.Ytgpmmmidplkhnaa.Pure
