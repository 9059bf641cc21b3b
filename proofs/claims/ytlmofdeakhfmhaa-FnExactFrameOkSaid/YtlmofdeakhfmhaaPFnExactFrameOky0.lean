import Derived.Test.YtlmofdeakhfmhaaProg
import Derived.Below
import Derived.Deep.Draws
import Derived.Deep.AppendLies
import Derived.Maps.AppendAt
import Derived.OwnWalk
import Derived.Laws.BytesArg
import Derived.Laws.MakeOwn
import Derived.Laws.OwnMore
import Derived.Deep.OwnRows
import Derived.Tactics
import Derived.Lib.ConvBytes
import Derived.Laws.Slices
import Derived.WalkKit
import Derived.KernelRfl
import Derived.RowKit3
import Derived.Deep.LoopGhost
import Derived.Deep.QuietTactic
import Derived.BigQuiet
import Derived.WideLaws
import Derived.Deep.DeepCutAuto
import Derived.Deep.CutBlock
import Derived.Deep.RegionHeld3
import Derived.Laws.Rows
import Derived.Lib.AppendStr
import Derived.ArgAppend
import Derived.Laws.IdiomCopy
import Derived.OrdersHeld
import Derived.Laws.BitsLemmas
import Derived.RowKit
import Derived.Test.YtlmofdeakhfmhaaWWords
import Derived.Test.YtlmofdeakhfmhaaWLast
import Derived.Test.YtlmofdeakhfmhaaWTab
import Derived.Test.YtlmofdeakhfmhaaWFour
import Derived.Test.YtlmofdeakhfmhaaWQPut
import Derived.Test.YtlmofdeakhfmhaaWApart
import Derived.Test.YtlmofdeakhfmhaaWArr
import Derived.Test.YtlmofdeakhfmhaaWZeros
import Derived.Test.YtlmofdeakhfmhaaWFoot
import Derived.Test.YtlmofdeakhfmhaaWKept
import Derived.Test.YtlmofdeakhfmhaaWShare
import Derived.Test.YtlmofdeakhfmhaaWN
import Derived.Test.YtlmofdeakhfmhaaWFootNe
import Derived.Test.YtlmofdeakhfmhaaWAt
import Derived.Test.YtlmofdeakhfmhaaWEqStruct
import Derived.Test.YtlmofdeakhfmhaaWRepsOne
import Derived.Test.YtlmofdeakhfmhaaWInv
import Derived.Test.YtlmofdeakhfmhaaWInvWords
import Derived.Test.YtlmofdeakhfmhaaWGuard
import Derived.Test.YtlmofdeakhfmhaaWNEv
import Derived.Test.YtlmofdeakhfmhaaWMore
import Derived.Test.YtlmofdeakhfmhaaZ
namespace Go.Proofs.Ytlmofdeakhfmhaa.PFnExactFrameOk
open Go.RowKit Go.Proofs.YtlmofdeakhfmhaaW.PrintWords Go.Proofs.YtlmofdeakhfmhaaW.PrintLast Go.Proofs.YtlmofdeakhfmhaaW.PrintMore Go.Proofs.YtlmofdeakhfmhaaW.Z
attribute [local go_sem] max2_int min2_int max_two min_two max_three min_three max_four min_four
set_option linter.unusedVariables false
set_option linter.unusedSimpArgs false
def errW : Option Int → Value
  | none => .nilIface
  | some c => .iface 0 (.int .i64 c)
theorem errW_none : errW none = .nilIface := rfl
theorem errW_some (c : Int) : errW (some c) = .iface 0 (.int .i64 c) := rfl
theorem rE {P : Prop} (h : P := by first | rfl | (simp [errW_none, errW_some] <;> rfl) | (simp [*, errW_none, errW_some] <;> rfl)) : P := h
end Go.Proofs.Ytlmofdeakhfmhaa.PFnExactFrameOk
