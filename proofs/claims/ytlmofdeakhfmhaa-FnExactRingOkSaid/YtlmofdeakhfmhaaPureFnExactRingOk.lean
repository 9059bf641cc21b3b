/- The pure statement of the law FnExactRingOk. -/
import Derived.Test.YtlmofdeakhfmhaaMFnExactRingOk
import Derived.Test.YtlmofdeakhfmhaaPFnExactRingOky4
namespace Go.Proofs.Ytlmofdeakhfmhaa.Pure
open Go Go.RowKit Go.Proofs.Ytlmofdeakhfmhaa.PFnExactRingOk Go.Proofs.YtlmofdeakhfmhaaW.PrintWords Go.Proofs.YtlmofdeakhfmhaaW.PrintLast
theorem FnExactRingOk : ∀ (l0_0 : List (S33)) (a0_1 : Int) (a0_2 : Int) (a0_3 : Int), (((∀ x ∈ l0_0, ((Lit.int .i64 x.f0).wf = true ∧ (Lit.int .i64 x.f1).wf = true ∧ (Lit.int .i64 x.f2).wf = true ∧ (Lit.int .i64 x.f3).wf = true)) ∧ l0_0.length ≤ maxLen) ∧ (Lit.int .i64 a0_1).wf = true ∧ (Lit.int .i64 a0_2).wf = true ∧ (Lit.int .i64 a0_3).wf = true) → ∃ k, laws_FnExactRingOk.f k l0_0 a0_1 a0_2 a0_3 = some true := by
 intro l0_0 a b c h; exact main l0_0 a b c (by unfold maxLen at h; omega)
end Go.Proofs.Ytlmofdeakhfmhaa.Pure
