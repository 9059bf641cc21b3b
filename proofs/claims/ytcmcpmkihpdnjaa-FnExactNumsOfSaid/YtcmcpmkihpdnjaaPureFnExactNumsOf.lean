/- The pure statement of the law FnExactNumsOf. -/
import Derived.Test.YtcmcpmkihpdnjaaMFnExactNumsOf
import Derived.Test.YtcmcpmkihpdnjaaPFnExactNumsOfy5
namespace Go.Proofs.Ytcmcpmkihpdnjaa.Pure
open Go Go.RowKit Go.Proofs.Ytcmcpmkihpdnjaa.PFnExactNumsOf Go.Proofs.YtcmcpmkihpdnjaaW.PrintWords Go.Proofs.YtcmcpmkihpdnjaaW.PrintLast
theorem FnExactNumsOf : ∀ (a0_0 : Int) (a0_1 : Int) (a0_2 : Int) (l0_3 : List (S136)), ((Lit.int .i64 a0_0).wf = true ∧ (Lit.int .i64 a0_1).wf = true ∧ (Lit.int .i64 a0_2).wf = true ∧ ((∀ u4 ∈ l0_3, (((∀ u5 ∈ u4.f0, (Lit.int .i64 u5).wf = true) ∧ u4.f0.length ≤ maxLen) ∧ ((∀ u5 ∈ u4.f1, ((Lit.int .i64 u5.f0).wf = true ∧ ((Lit.int .i64 u5.f1.f0).wf = true ∧ (Lit.int .i64 u5.f1.f1).wf = true) ∧ (Lit.int .i64 u5.f2).wf = true ∧ ((Lit.int .i64 u5.f3.f0).wf = true ∧ (Lit.int .i64 u5.f3.f1).wf = true))) ∧ u4.f1.length ≤ maxLen) ∧ (Lit.int .i64 u4.f2).wf = true ∧ (Lit.int .i64 u4.f3).wf = true)) ∧ l0_3.length ≤ maxLen)) → ∃ k, laws_FnExactNumsOf.f k a0_0 a0_1 a0_2 l0_3 = some true := by
 intro a b c l h; exact main a b c l h.2.2.2
end Go.Proofs.Ytcmcpmkihpdnjaa.Pure
