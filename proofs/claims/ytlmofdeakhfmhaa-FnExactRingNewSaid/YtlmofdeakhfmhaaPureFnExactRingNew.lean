/- The new ring of the program is the new ring of the reference, and each answer is new memory: the pure statement of this law, by computing it. -/
import Derived.Test.YtlmofdeakhfmhaaPFnExactRingNewx2
namespace Go.Proofs.Ytlmofdeakhfmhaa.Pure
open Go.RowKit Go.Proofs.Ytlmofdeakhfmhaa.PFnExactRingNew Go.Proofs.YtlmofdeakhfmhaaW.PrintWords Go.Proofs.YtlmofdeakhfmhaaW.PrintLast

theorem FnExactRingNew : laws_FnExactRingNew.Pure := by
  exact ⟨20, by decide +kernel⟩

end Go.Proofs.Ytlmofdeakhfmhaa.Pure
