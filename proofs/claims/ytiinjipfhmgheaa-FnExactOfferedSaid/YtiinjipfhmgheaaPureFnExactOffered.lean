/- The pure statement of the law FnExactOffered. -/
import Derived.Test.YtiinjipfhmgheaaMFnExactOffered
import Derived.Test.YtiinjipfhmgheaaPFnExactOfferedy8
namespace Go.Proofs.Ytiinjipfhmgheaa.Pure
open Go Go.RowKit Go.Proofs.Ytiinjipfhmgheaa.PFnExactOffered Go.Proofs.YtiinjipfhmgheaaW.PrintWords Go.Proofs.YtiinjipfhmgheaaW.PrintLast
theorem FnExactOffered : ∀ (l0_0 : List (S177)) (a0_1 : Int) (a0_2 : Int) (a0_3 : Int) (a1 : Int) (a2 : Int), (((∀ u4 ∈ l0_0, ((Lit.int .i64 u4.f0).wf = true ∧ (Lit.int .i64 u4.f1).wf = true ∧ (Lit.int .i64 u4.f2).wf = true ∧ (Lit.int .i64 u4.f3).wf = true)) ∧ l0_0.length ≤ maxLen) ∧ (Lit.int .i64 a0_1).wf = true ∧ (Lit.int .i64 a0_2).wf = true ∧ (Lit.int .i64 a0_3).wf = true) → (Lit.int .i64 a1).wf = true → (Lit.int .i64 a2).wf = true → ∃ k, laws_FnExactOffered.f k l0_0 a0_1 a0_2 a0_3 a1 a2 = some true := by
 intro l a b c x y h _ _; exact main l a b c x y h.1.2
end Go.Proofs.Ytiinjipfhmgheaa.Pure
