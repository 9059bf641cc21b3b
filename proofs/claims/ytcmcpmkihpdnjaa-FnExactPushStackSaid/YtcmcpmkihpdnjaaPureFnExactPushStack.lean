/- The pure statement of the law FnExactPushStack. -/
import Derived.Test.YtcmcpmkihpdnjaaMFnExactPushStack
import Derived.Test.YtcmcpmkihpdnjaaPFnExactPushStacky6
namespace Go.Proofs.Ytcmcpmkihpdnjaa.Pure
open Go Go.RowKit Go.Proofs.Ytcmcpmkihpdnjaa.PFnExactPushStack Go.Proofs.YtcmcpmkihpdnjaaW.PrintWords Go.Proofs.YtcmcpmkihpdnjaaW.PrintLast
theorem FnExactPushStack : ∀ (l0 : List (List (S77))) (l1 : List (S77)), l0.length ≤ maxLen → (∀ x ∈ l0, ((∀ u1 ∈ x, ((Lit.int .i64 u1.f0).wf = true ∧ (Lit.int .i64 u1.f1).wf = true ∧ (Lit.int .i64 u1.f2).wf = true ∧ (Lit.int .i64 u1.f3).wf = true)) ∧ x.length ≤ maxLen)) → l1.length ≤ maxLen → (∀ x ∈ l1, ((Lit.int .i64 x.f0).wf = true ∧ (Lit.int .i64 x.f1).wf = true ∧ (Lit.int .i64 x.f2).wf = true ∧ (Lit.int .i64 x.f3).wf = true)) → ∃ k, laws_FnExactPushStack.f k l0 l1 = some true := by
 intro l0 l1 hm hw hm1 _; exact main l0 l1 hm hw hm1
end Go.Proofs.Ytcmcpmkihpdnjaa.Pure
