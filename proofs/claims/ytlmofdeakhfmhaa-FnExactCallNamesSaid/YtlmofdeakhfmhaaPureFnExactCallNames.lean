/- The call names of the program are the call names of the reference, each answer is new memory: the pure statement of this law, by computing it. -/
import Derived.Test.YtlmofdeakhfmhaaPFnExactCallNamesx1
namespace Go.Proofs.Ytlmofdeakhfmhaa.Pure
open Go.RowKit Go.Proofs.Ytlmofdeakhfmhaa.PFnExactCallNames Go.Proofs.YtlmofdeakhfmhaaW.PrintWords Go.Proofs.YtlmofdeakhfmhaaW.PrintLast

theorem FnExactCallNames : laws_FnExactCallNames.Pure := by
  exact ⟨20, by decide +kernel⟩

end Go.Proofs.Ytlmofdeakhfmhaa.Pure
