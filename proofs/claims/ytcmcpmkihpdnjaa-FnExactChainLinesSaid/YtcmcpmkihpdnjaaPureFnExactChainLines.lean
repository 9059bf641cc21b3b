/- The pure statement of the law FnExactChainLines. -/
import Derived.Test.YtcmcpmkihpdnjaaMFnExactChainLines
import Derived.Test.YtcmcpmkihpdnjaaPFnExactChainLinesy13
namespace Go.Proofs.Ytcmcpmkihpdnjaa.Pure
open Go Go.RowKit Go.Proofs.Ytcmcpmkihpdnjaa.PFnExactChainLines Go.Proofs.YtcmcpmkihpdnjaaW.PrintWords Go.Proofs.YtcmcpmkihpdnjaaW.PrintLast
theorem FnExactChainLines : ∀ (a0_0 : Int) (a0_1 : Int) (a0_2 : Int) (l0_3 : List (S136)) (a1 : Int) (a2 : Bool) (a3 : ByteArray), ((Lit.int .i64 a0_0).wf = true ∧ (Lit.int .i64 a0_1).wf = true ∧ (Lit.int .i64 a0_2).wf = true ∧ ((∀ u4 ∈ l0_3, (((∀ u5 ∈ u4.f0, (Lit.int .i64 u5).wf = true) ∧ u4.f0.length ≤ maxLen) ∧ ((∀ u5 ∈ u4.f1, ((Lit.int .i64 u5.f0).wf = true ∧ ((Lit.int .i64 u5.f1.f0).wf = true ∧ (Lit.int .i64 u5.f1.f1).wf = true) ∧ (Lit.int .i64 u5.f2).wf = true ∧ ((Lit.int .i64 u5.f3.f0).wf = true ∧ (Lit.int .i64 u5.f3.f1).wf = true))) ∧ u4.f1.length ≤ maxLen) ∧ (Lit.int .i64 u4.f2).wf = true ∧ (Lit.int .i64 u4.f3).wf = true)) ∧ l0_3.length ≤ maxLen)) → (Lit.int .i64 a1).wf = true → a3.size ≤ maxLen → ∃ k, laws_FnExactChainLines.f k a0_0 a0_1 a0_2 l0_3 a1 a2 a3 = some true := by
 intro a b c l n t s h _ _; exact main a b c l n t s h.2.2.2
end Go.Proofs.Ytcmcpmkihpdnjaa.Pure
