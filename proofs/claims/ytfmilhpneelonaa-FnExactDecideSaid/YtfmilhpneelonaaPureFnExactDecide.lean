/- The pure statement of the law FnExactDecide. -/
import Derived.Test.YtfmilhpneelonaaMFnExactDecide
import Derived.Test.YtfmilhpneelonaaPFnExactDecidey14
namespace Go.Proofs.Ytfmilhpneelonaa.Pure
open Go Go.RowKit Go.Proofs.Ytfmilhpneelonaa.PFnExactDecide Go.Proofs.YtfmilhpneelonaaW.PrintWords Go.Proofs.YtfmilhpneelonaaW.PrintLast
theorem FnExactDecide : ∀ (a0_0 : Int) (a0_1 : Int) (a0_2 : Int) (l0_3 : List (S108)) (a1_0 : Int) (a1_1 : Int) (l1_2 : List (S199)), ((Lit.int .i64 a0_0).wf = true ∧ (Lit.int .i64 a0_1).wf = true ∧ (Lit.int .i64 a0_2).wf = true ∧ ((∀ u4 ∈ l0_3, (((∀ u5 ∈ u4.f0, (Lit.int .i64 u5).wf = true) ∧ u4.f0.length ≤ maxLen) ∧ ((∀ u5 ∈ u4.f1, ((Lit.int .i64 u5.f0).wf = true ∧ ((Lit.int .i64 u5.f1.f0).wf = true ∧ (Lit.int .i64 u5.f1.f1).wf = true) ∧ (Lit.int .i64 u5.f2).wf = true ∧ ((Lit.int .i64 u5.f3.f0).wf = true ∧ (Lit.int .i64 u5.f3.f1).wf = true))) ∧ u4.f1.length ≤ maxLen) ∧ (Lit.int .i64 u4.f2).wf = true ∧ (Lit.int .i64 u4.f3).wf = true)) ∧ l0_3.length ≤ maxLen)) → ((Lit.int .i64 a1_0).wf = true ∧ (Lit.int .i64 a1_1).wf = true ∧ ((∀ u4 ∈ l1_2, ((Lit.int .i64 u4.f0).wf = true ∧ (Lit.int .i64 u4.f1).wf = true)) ∧ l1_2.length ≤ maxLen)) → ∃ k, laws_FnExactDecide.f k a0_0 a0_1 a0_2 l0_3 a1_0 a1_1 l1_2 = some true := by
 intro a b c l d e w h1 h2; exact main a b c l d e w h1.2.2.2 h2.2.2
end Go.Proofs.Ytfmilhpneelonaa.Pure
