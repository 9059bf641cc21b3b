/- The pure statement of the law FnExactFrameText. -/
import Derived.Test.YtgpmmmidplkhnaaMFnExactFrameText
import Derived.Test.YtgpmmmidplkhnaaPFnExactFrameTexty6
namespace Go.Proofs.Ytgpmmmidplkhnaa.Pure
open Go Go.RowKit Go.Proofs.Ytgpmmmidplkhnaa.PFnExactFrameText Go.Proofs.YtgpmmmidplkhnaaW.PrintWords Go.Proofs.YtgpmmmidplkhnaaW.PrintLast
theorem FnExactFrameText : ∀ (a0_0 : Int) (a0_1 : Int) (a0_2 : Int) (a0_3 : Int) (a0_4 : Int) (a0_5 : Int) (a0_6 : Int), ((Lit.int .i64 a0_0).wf = true ∧ (Lit.int .i64 a0_1).wf = true ∧ (Lit.int .i64 a0_2).wf = true ∧ ((Lit.int .i64 a0_3).wf = true ∧ (Lit.int .i64 a0_4).wf = true ∧ (Lit.int .i64 a0_5).wf = true ∧ (Lit.int .i64 a0_6).wf = true)) → ∃ k, laws_FnExactFrameText.f k a0_0 a0_1 a0_2 a0_3 a0_4 a0_5 a0_6 = some true := by
 intros; exact main _ _ _ _ _ _ _
end Go.Proofs.Ytgpmmmidplkhnaa.Pure
