/- The pure statement of the law FnExactDrained. -/
import Derived.Test.YtgpmmmidplkhnaaMFnExactDrained
import Derived.Test.YtgpmmmidplkhnaaPFnExactDrainedy4
namespace Go.Proofs.Ytgpmmmidplkhnaa.Pure
open Go Go.RowKit Go.Proofs.Ytgpmmmidplkhnaa.PFnExactDrained Go.Proofs.YtgpmmmidplkhnaaW.PrintWords Go.Proofs.YtgpmmmidplkhnaaW.PrintLast
theorem FnExactDrained : ∀ (l0_0 : List (S30)) (a0_1 : Int) (a0_2 : Int) (a0_3 : Int), (((∀ u4 ∈ l0_0, ((Lit.int .i64 u4.f0).wf = true ∧ (Lit.int .i64 u4.f1).wf = true ∧ (Lit.int .i64 u4.f2).wf = true ∧ (Lit.int .i64 u4.f3).wf = true)) ∧ l0_0.length ≤ maxLen) ∧ (Lit.int .i64 a0_1).wf = true ∧ (Lit.int .i64 a0_2).wf = true ∧ (Lit.int .i64 a0_3).wf = true) → ∃ k, laws_FnExactDrained.f k l0_0 a0_1 a0_2 a0_3 = some true := by
 intro l a b c h; exact main l a b c h.1.2
end Go.Proofs.Ytgpmmmidplkhnaa.Pure
