/- The pure statement of the law FnExactRuleLines. -/
import Derived.Test.YtfmilhpneelonaaMFnExactRuleLines
import Derived.Test.YtfmilhpneelonaaPFnExactRuleLinesy11
namespace Go.Proofs.Ytfmilhpneelonaa.Pure
open Go Go.RowKit Go.Proofs.Ytfmilhpneelonaa.PFnExactRuleLines Go.Proofs.YtfmilhpneelonaaW.PrintWords Go.Proofs.YtfmilhpneelonaaW.PrintLast
theorem FnExactRuleLines : ∀ (l0_0 : List Int) (l0_1 : List (S201)) (a0_2 : Int) (a0_3 : Int) (a1 : ByteArray) (a2 : ByteArray), (((∀ u4 ∈ l0_0, (Lit.int .i64 u4).wf = true) ∧ l0_0.length ≤ maxLen) ∧ ((∀ u4 ∈ l0_1, ((Lit.int .i64 u4.f0).wf = true ∧ ((Lit.int .i64 u4.f1.f0).wf = true ∧ (Lit.int .i64 u4.f1.f1).wf = true) ∧ (Lit.int .i64 u4.f2).wf = true ∧ ((Lit.int .i64 u4.f3.f0).wf = true ∧ (Lit.int .i64 u4.f3.f1).wf = true))) ∧ l0_1.length ≤ maxLen) ∧ (Lit.int .i64 a0_2).wf = true ∧ (Lit.int .i64 a0_3).wf = true) → a1.size ≤ maxLen → a2.size ≤ maxLen → ∃ k, laws_FnExactRuleLines.f k l0_0 l0_1 a0_2 a0_3 a1 a2 = some true := by
 intro x l a b s1 s2 h; intros; exact main x l a b s1 s2 h.1 h.2.1
end Go.Proofs.Ytfmilhpneelonaa.Pure
