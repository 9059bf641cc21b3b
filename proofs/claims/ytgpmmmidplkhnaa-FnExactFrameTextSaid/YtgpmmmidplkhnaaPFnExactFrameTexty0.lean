import Derived.Test.YtgpmmmidplkhnaaProg
import Derived.Below
import Derived.Deep.Draws
import Derived.Deep.AppendLies
import Derived.Maps.AppendAt
import Derived.OwnWalk
import Derived.Laws.BytesArg
import Derived.Laws.MakeOwn
import Derived.Laws.OwnMore
import Derived.Deep.OwnRows
import Derived.Tactics
import Derived.Lib.ConvBytes
import Derived.Laws.Slices
import Derived.WalkKit
import Derived.KernelRfl
import Derived.RowKit3
import Derived.Deep.LoopGhost
import Derived.Deep.QuietTactic
import Derived.BigQuiet
import Derived.WideLaws
import Derived.Deep.DeepCutAuto
import Derived.Deep.CutBlock
import Derived.Deep.RegionHeld3
import Derived.Laws.Rows
import Derived.Lib.AppendStr
import Derived.ArgAppend
import Derived.Laws.IdiomCopy
import Derived.OrdersHeld
import Derived.Laws.BitsLemmas
import Derived.RowKit
import Derived.Test.YtgpmmmidplkhnaaWWords
import Derived.Test.YtgpmmmidplkhnaaWLast
import Derived.Test.YtgpmmmidplkhnaaWTab
import Derived.Test.YtgpmmmidplkhnaaWFour
import Derived.Test.YtgpmmmidplkhnaaWQPut
import Derived.Test.YtgpmmmidplkhnaaWApart
import Derived.Test.YtgpmmmidplkhnaaWArr
import Derived.Test.YtgpmmmidplkhnaaWZeros
import Derived.Test.YtgpmmmidplkhnaaWFoot
import Derived.Test.YtgpmmmidplkhnaaWKept
import Derived.Test.YtgpmmmidplkhnaaWShare
import Derived.Test.YtgpmmmidplkhnaaWN
import Derived.Test.YtgpmmmidplkhnaaWFootNe
import Derived.Test.YtgpmmmidplkhnaaWAt
import Derived.Test.YtgpmmmidplkhnaaWEqStruct
import Derived.Test.YtgpmmmidplkhnaaWRepsOne
import Derived.Test.YtgpmmmidplkhnaaWInv
import Derived.Test.YtgpmmmidplkhnaaWInvWords
import Derived.Test.YtgpmmmidplkhnaaWGuard
import Derived.Test.YtgpmmmidplkhnaaWNEv
import Derived.Test.YtgpmmmidplkhnaaWMore
import Derived.Test.YtgpmmmidplkhnaaZ
namespace Go.Proofs.Ytgpmmmidplkhnaa.PFnExactFrameText
open Go.RowKit Go.Proofs.YtgpmmmidplkhnaaW.PrintWords Go.Proofs.YtgpmmmidplkhnaaW.PrintLast Go.Proofs.YtgpmmmidplkhnaaW.PrintMore Go.Proofs.YtgpmmmidplkhnaaW.Z
attribute [local go_sem] isS max2_int min2_int max_two min_two max_three min_three max_four min_four
set_option linter.unusedVariables false
set_option linter.unusedSimpArgs false
def errW : Option Int → Value
  | none => .nilIface
  | some c => .iface 0 (.int .i64 c)
theorem errW_none : errW none = .nilIface := rfl
theorem errW_some (c : Int) : errW (some c) = .iface 0 (.int .i64 c) := rfl
theorem info5 : (Try.prog.info? 5).map (fun i => (i.zero, i.size, i.bytes)) = some (some (.int .u8 0), 1, 1) := by kernel_rfl
theorem rE {P : Prop} (h : P := by first | rfl | (simp [errW_none, errW_some] <;> rfl) | (simp [*, errW_none, errW_some] <;> rfl)) : P := h
end Go.Proofs.Ytgpmmmidplkhnaa.PFnExactFrameText
