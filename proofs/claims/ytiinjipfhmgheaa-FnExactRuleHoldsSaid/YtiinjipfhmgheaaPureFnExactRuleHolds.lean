/- The pure statement of the law FnExactRuleHolds. -/
import Derived.Test.YtiinjipfhmgheaaMFnExactRuleHolds
import Derived.Test.YtiinjipfhmgheaaPFnExactRuleHoldsy9
namespace Go.Proofs.Ytiinjipfhmgheaa.Pure
open Go Go.RowKit Go.Proofs.Ytiinjipfhmgheaa.PFnExactRuleHolds Go.Proofs.YtiinjipfhmgheaaW.PrintWords Go.Proofs.YtiinjipfhmgheaaW.PrintLast
theorem FnExactRuleHolds : ∀ (l0_0 : List Int) (l0_1 : List (S32)) (a0_2 : Int) (a0_3 : Int) (a1_0 : Int) (a1_1 : Int) (l1_2 : List (S30)), (((∀ u4 ∈ l0_0, (Lit.int .i64 u4).wf = true) ∧ l0_0.length ≤ maxLen) ∧ ((∀ u4 ∈ l0_1, ((Lit.int .i64 u4.f0).wf = true ∧ ((Lit.int .i64 u4.f1.f0).wf = true ∧ (Lit.int .i64 u4.f1.f1).wf = true) ∧ (Lit.int .i64 u4.f2).wf = true ∧ ((Lit.int .i64 u4.f3.f0).wf = true ∧ (Lit.int .i64 u4.f3.f1).wf = true))) ∧ l0_1.length ≤ maxLen) ∧ (Lit.int .i64 a0_2).wf = true ∧ (Lit.int .i64 a0_3).wf = true) → ((Lit.int .i64 a1_0).wf = true ∧ (Lit.int .i64 a1_1).wf = true ∧ ((∀ u4 ∈ l1_2, ((Lit.int .i64 u4.f0).wf = true ∧ (Lit.int .i64 u4.f1).wf = true)) ∧ l1_2.length ≤ maxLen)) → ∃ k, laws_FnExactRuleHolds.f k l0_0 l0_1 a0_2 a0_3 a1_0 a1_1 l1_2 = some true := by
 intro x l a b c d w h1 h2; exact main x l a b c d w h1.1 h1.2.1 h2.2.2
end Go.Proofs.Ytiinjipfhmgheaa.Pure
