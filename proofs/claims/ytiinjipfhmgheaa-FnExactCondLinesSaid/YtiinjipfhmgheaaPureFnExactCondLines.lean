/- The pure statement of the law FnExactCondLines. -/
import Derived.Test.YtiinjipfhmgheaaMFnExactCondLines
import Derived.Test.YtiinjipfhmgheaaPFnExactCondLinesy7
namespace Go.Proofs.Ytiinjipfhmgheaa.Pure
open Go Go.RowKit Go.Proofs.Ytiinjipfhmgheaa.PFnExactCondLines Go.Proofs.YtiinjipfhmgheaaW.PrintWords Go.Proofs.YtiinjipfhmgheaaW.PrintLast
theorem FnExactCondLines : ∀ (a0_0 : Int) (a0_1 : Int) (a0_2 : Int) (a0_3 : Int) (a0_4 : Int) (a0_5 : Int) (a1 : ByteArray) (a2 : ByteArray) (a3 : ByteArray), ((Lit.int .i64 a0_0).wf = true ∧ ((Lit.int .i64 a0_1).wf = true ∧ (Lit.int .i64 a0_2).wf = true) ∧ (Lit.int .i64 a0_3).wf = true ∧ ((Lit.int .i64 a0_4).wf = true ∧ (Lit.int .i64 a0_5).wf = true)) → a1.size ≤ maxLen → a2.size ≤ maxLen → a3.size ≤ maxLen → ∃ k, laws_FnExactCondLines.f k a0_0 a0_1 a0_2 a0_3 a0_4 a0_5 a1 a2 a3 = some true := by
 intro a b c d e f s1 s2 s3; intros; exact main a b c d e f s1 s2 s3
end Go.Proofs.Ytiinjipfhmgheaa.Pure
