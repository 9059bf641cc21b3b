/-
  No cell of these rows narrows 'for every input' (looked for: loops, veiled, ifaces, maps, wideKeys, modest, calm, conditions, laid).
  DERIVED. THE GIVEN ROWS OF THIS SEAT. 12 by the template 'for every input the law returns true; each argument reads behind the call as it read before'; 0 by the template 'total and deterministic' (their statements: YtiinjipfhmgheaaTotals.lean).
  GIVEN WITH THE SEED: the statements are not yours to turn. If you find one false, say at which input.
  Laid BY PROGRAM, IN A SANDBOX (cutbox-rows.mjs): the forced cells as the released guide's own fill.sh prints them over the translation f9070ffc628eefc3… (all of the seat's roots in one cut). By AI agents, Wed Nov 11 2026. No macro, syntax, notation, axiom, sorry.
-/
import Derived.Test.YtiinjipfhmgheaaChecked
import GoSem.Claim
import GoSem.ClaimJoined
import GoSem.ClaimMapViews
import Derived.JoinedTies
import Derived.KernelRfl
namespace Go.Proofs.Ytiinjipfhmgheaa
/- THE CELL 'sum', in the pinned program and in every row, IS THE sha256 OF THE DUMP (.gsa) THAT YtiinjipfhmgheaaProg.lean LOADS. Nothing in Lean hashes anything: it is a label: what it is worth is what the hold of that sum in a sandbox is worth. -/
noncomputable def Try.pinned : Pinned := { name := "ytiinjipfhmgheaa", sum := "f9070ffc628eefc31bbfb3bfc5307e9f8839b2740dd13841a24974a05449654d", checked := Try.checked }
namespace Rows
def none {H : Type} : Left H := { results := [], args := [] }

/-- 'laws.FnExactStackOk': WHATEVER THE INPUT: true; the input reads as it did. -/
def fnExactStackOkSpec : ChangeSpec := { name := "fnExactStackOk", fn := fun _ => fun
  | [d] => { results := [.lit (.bool true)], args := [d] }
  | _ => none }
def fnExactStackOkRow : OpenClaim := { program := "ytiinjipfhmgheaa", sum := "f9070ffc628eefc31bbfb3bfc5307e9f8839b2740dd13841a24974a05449654d", func := "loop.example/g00397/laws.FnExactStackOk", spec := "fnExactStackOk", apart := false }
def FnExactStackOkSaid : Prop := fnExactStackOkRow.holds Try.pinned (OpenSpec.ofChange fnExactStackOkSpec)

/-- ITS FALSE NEIGHBOUR: 'it returns false'. Refute it at one input. -/
def fnExactStackOkWrong : ChangeSpec := { name := "fnExactStackOk", fn := fun _ => fun
  | [d] => { results := [.lit (.bool false)], args := [d] }
  | _ => none }
def FnExactStackOkWrongFalsely : Prop := fnExactStackOkRow.holds Try.pinned (OpenSpec.ofChange fnExactStackOkWrong)

/-- 'laws.FnExactCondHolds': WHATEVER THE INPUT: true; the input reads as it did. -/
def fnExactCondHoldsSpec : ChangeSpec := { name := "fnExactCondHolds", fn := fun _ => fun
  | [d1, d2] => { results := [.lit (.bool true)], args := [d1, d2] }
  | _ => none }
def fnExactCondHoldsRow : OpenClaim := { program := "ytiinjipfhmgheaa", sum := "f9070ffc628eefc31bbfb3bfc5307e9f8839b2740dd13841a24974a05449654d", func := "loop.example/g00397/laws.FnExactCondHolds", spec := "fnExactCondHolds", apart := false }
def FnExactCondHoldsSaid : Prop := fnExactCondHoldsRow.holds Try.pinned (OpenSpec.ofChange fnExactCondHoldsSpec)

/-- ITS FALSE NEIGHBOUR: 'it returns false'. Refute it at one input. -/
def fnExactCondHoldsWrong : ChangeSpec := { name := "fnExactCondHolds", fn := fun _ => fun
  | [d1, d2] => { results := [.lit (.bool false)], args := [d1, d2] }
  | _ => none }
def FnExactCondHoldsWrongFalsely : Prop := fnExactCondHoldsRow.holds Try.pinned (OpenSpec.ofChange fnExactCondHoldsWrong)

/-- 'laws.FnExactThreaded': WHATEVER THE INPUT: true; the input reads as it did. -/
def fnExactThreadedSpec : ChangeSpec := { name := "fnExactThreaded", fn := fun _ => fun
  | [d] => { results := [.lit (.bool true)], args := [d] }
  | _ => none }
def fnExactThreadedRow : OpenClaim := { program := "ytiinjipfhmgheaa", sum := "f9070ffc628eefc31bbfb3bfc5307e9f8839b2740dd13841a24974a05449654d", func := "loop.example/g00397/laws.FnExactThreaded", spec := "fnExactThreaded", apart := false }
def FnExactThreadedSaid : Prop := fnExactThreadedRow.holds Try.pinned (OpenSpec.ofChange fnExactThreadedSpec)

/-- ITS FALSE NEIGHBOUR: 'it returns false'. Refute it at one input. -/
def fnExactThreadedWrong : ChangeSpec := { name := "fnExactThreaded", fn := fun _ => fun
  | [d] => { results := [.lit (.bool false)], args := [d] }
  | _ => none }
def FnExactThreadedWrongFalsely : Prop := fnExactThreadedRow.holds Try.pinned (OpenSpec.ofChange fnExactThreadedWrong)

/-- 'laws.FnExactCondLines': WHATEVER THE INPUT: true; the input reads as it did. -/
def fnExactCondLinesSpec : ChangeSpec := { name := "fnExactCondLines", fn := fun _ => fun
  | [d1, d2, d3, d4] => { results := [.lit (.bool true)], args := [d1, d2, d3, d4] }
  | _ => none }
def fnExactCondLinesRow : OpenClaim := { program := "ytiinjipfhmgheaa", sum := "f9070ffc628eefc31bbfb3bfc5307e9f8839b2740dd13841a24974a05449654d", func := "loop.example/g00397/laws.FnExactCondLines", spec := "fnExactCondLines", apart := false }
def FnExactCondLinesSaid : Prop := fnExactCondLinesRow.holds Try.pinned (OpenSpec.ofChange fnExactCondLinesSpec)

/-- ITS FALSE NEIGHBOUR: 'it returns false'. Refute it at one input. -/
def fnExactCondLinesWrong : ChangeSpec := { name := "fnExactCondLines", fn := fun _ => fun
  | [d1, d2, d3, d4] => { results := [.lit (.bool false)], args := [d1, d2, d3, d4] }
  | _ => none }
def FnExactCondLinesWrongFalsely : Prop := fnExactCondLinesRow.holds Try.pinned (OpenSpec.ofChange fnExactCondLinesWrong)

/-- 'laws.FnExactLinesOk': WHATEVER THE INPUT: true; the input reads as it did. -/
def fnExactLinesOkSpec : ChangeSpec := { name := "fnExactLinesOk", fn := fun _ => fun
  | [d] => { results := [.lit (.bool true)], args := [d] }
  | _ => none }
def fnExactLinesOkRow : OpenClaim := { program := "ytiinjipfhmgheaa", sum := "f9070ffc628eefc31bbfb3bfc5307e9f8839b2740dd13841a24974a05449654d", func := "loop.example/g00397/laws.FnExactLinesOk", spec := "fnExactLinesOk", apart := false }
def FnExactLinesOkSaid : Prop := fnExactLinesOkRow.holds Try.pinned (OpenSpec.ofChange fnExactLinesOkSpec)

/-- ITS FALSE NEIGHBOUR: 'it returns false'. Refute it at one input. -/
def fnExactLinesOkWrong : ChangeSpec := { name := "fnExactLinesOk", fn := fun _ => fun
  | [d] => { results := [.lit (.bool false)], args := [d] }
  | _ => none }
def FnExactLinesOkWrongFalsely : Prop := fnExactLinesOkRow.holds Try.pinned (OpenSpec.ofChange fnExactLinesOkWrong)

/-- 'laws.FnExactOffered': WHATEVER THE INPUT: true; the input reads as it did. -/
def fnExactOfferedSpec : ChangeSpec := { name := "fnExactOffered", fn := fun _ => fun
  | [d1, d2, d3] => { results := [.lit (.bool true)], args := [d1, d2, d3] }
  | _ => none }
def fnExactOfferedRow : OpenClaim := { program := "ytiinjipfhmgheaa", sum := "f9070ffc628eefc31bbfb3bfc5307e9f8839b2740dd13841a24974a05449654d", func := "loop.example/g00397/laws.FnExactOffered", spec := "fnExactOffered", apart := false }
def FnExactOfferedSaid : Prop := fnExactOfferedRow.holds Try.pinned (OpenSpec.ofChange fnExactOfferedSpec)

/-- ITS FALSE NEIGHBOUR: 'it returns false'. Refute it at one input. -/
def fnExactOfferedWrong : ChangeSpec := { name := "fnExactOffered", fn := fun _ => fun
  | [d1, d2, d3] => { results := [.lit (.bool false)], args := [d1, d2, d3] }
  | _ => none }
def FnExactOfferedWrongFalsely : Prop := fnExactOfferedRow.holds Try.pinned (OpenSpec.ofChange fnExactOfferedWrong)

/-- 'laws.FnExactPolicyOk': WHATEVER THE INPUT: true; the input reads as it did. -/
def fnExactPolicyOkSpec : ChangeSpec := { name := "fnExactPolicyOk", fn := fun _ => fun
  | [d] => { results := [.lit (.bool true)], args := [d] }
  | _ => none }
def fnExactPolicyOkRow : OpenClaim := { program := "ytiinjipfhmgheaa", sum := "f9070ffc628eefc31bbfb3bfc5307e9f8839b2740dd13841a24974a05449654d", func := "loop.example/g00397/laws.FnExactPolicyOk", spec := "fnExactPolicyOk", apart := false }
def FnExactPolicyOkSaid : Prop := fnExactPolicyOkRow.holds Try.pinned (OpenSpec.ofChange fnExactPolicyOkSpec)

/-- ITS FALSE NEIGHBOUR: 'it returns false'. Refute it at one input. -/
def fnExactPolicyOkWrong : ChangeSpec := { name := "fnExactPolicyOk", fn := fun _ => fun
  | [d] => { results := [.lit (.bool false)], args := [d] }
  | _ => none }
def FnExactPolicyOkWrongFalsely : Prop := fnExactPolicyOkRow.holds Try.pinned (OpenSpec.ofChange fnExactPolicyOkWrong)

/-- 'laws.FnExactPushStack': WHATEVER THE INPUT: true; the input reads as it did. -/
def fnExactPushStackSpec : ChangeSpec := { name := "fnExactPushStack", fn := fun _ => fun
  | [d1, d2] => { results := [.lit (.bool true)], args := [d1, d2] }
  | _ => none }
def fnExactPushStackRow : OpenClaim := { program := "ytiinjipfhmgheaa", sum := "f9070ffc628eefc31bbfb3bfc5307e9f8839b2740dd13841a24974a05449654d", func := "loop.example/g00397/laws.FnExactPushStack", spec := "fnExactPushStack", apart := false }
def FnExactPushStackSaid : Prop := fnExactPushStackRow.holds Try.pinned (OpenSpec.ofChange fnExactPushStackSpec)

/-- ITS FALSE NEIGHBOUR: 'it returns false'. Refute it at one input. -/
def fnExactPushStackWrong : ChangeSpec := { name := "fnExactPushStack", fn := fun _ => fun
  | [d1, d2] => { results := [.lit (.bool false)], args := [d1, d2] }
  | _ => none }
def FnExactPushStackWrongFalsely : Prop := fnExactPushStackRow.holds Try.pinned (OpenSpec.ofChange fnExactPushStackWrong)

/-- 'laws.FnExactTrimmed': WHATEVER THE INPUT: true; the input reads as it did. -/
def fnExactTrimmedSpec : ChangeSpec := { name := "fnExactTrimmed", fn := fun _ => fun
  | [d] => { results := [.lit (.bool true)], args := [d] }
  | _ => none }
def fnExactTrimmedRow : OpenClaim := { program := "ytiinjipfhmgheaa", sum := "f9070ffc628eefc31bbfb3bfc5307e9f8839b2740dd13841a24974a05449654d", func := "loop.example/g00397/laws.FnExactTrimmed", spec := "fnExactTrimmed", apart := false }
def FnExactTrimmedSaid : Prop := fnExactTrimmedRow.holds Try.pinned (OpenSpec.ofChange fnExactTrimmedSpec)

/-- ITS FALSE NEIGHBOUR: 'it returns false'. Refute it at one input. -/
def fnExactTrimmedWrong : ChangeSpec := { name := "fnExactTrimmed", fn := fun _ => fun
  | [d] => { results := [.lit (.bool false)], args := [d] }
  | _ => none }
def FnExactTrimmedWrongFalsely : Prop := fnExactTrimmedRow.holds Try.pinned (OpenSpec.ofChange fnExactTrimmedWrong)

/-- 'laws.FnExactShort': WHATEVER THE INPUT: true; the input reads as it did. -/
def fnExactShortSpec : ChangeSpec := { name := "fnExactShort", fn := fun _ => fun
  | [d] => { results := [.lit (.bool true)], args := [d] }
  | _ => none }
def fnExactShortRow : OpenClaim := { program := "ytiinjipfhmgheaa", sum := "f9070ffc628eefc31bbfb3bfc5307e9f8839b2740dd13841a24974a05449654d", func := "loop.example/g00397/laws.FnExactShort", spec := "fnExactShort", apart := false }
def FnExactShortSaid : Prop := fnExactShortRow.holds Try.pinned (OpenSpec.ofChange fnExactShortSpec)

/-- ITS FALSE NEIGHBOUR: 'it returns false'. Refute it at one input. -/
def fnExactShortWrong : ChangeSpec := { name := "fnExactShort", fn := fun _ => fun
  | [d] => { results := [.lit (.bool false)], args := [d] }
  | _ => none }
def FnExactShortWrongFalsely : Prop := fnExactShortRow.holds Try.pinned (OpenSpec.ofChange fnExactShortWrong)

/-- 'laws.FnExactRuleHolds': WHATEVER THE INPUT: true; the input reads as it did. -/
def fnExactRuleHoldsSpec : ChangeSpec := { name := "fnExactRuleHolds", fn := fun _ => fun
  | [d1, d2] => { results := [.lit (.bool true)], args := [d1, d2] }
  | _ => none }
def fnExactRuleHoldsRow : OpenClaim := { program := "ytiinjipfhmgheaa", sum := "f9070ffc628eefc31bbfb3bfc5307e9f8839b2740dd13841a24974a05449654d", func := "loop.example/g00397/laws.FnExactRuleHolds", spec := "fnExactRuleHolds", apart := false }
def FnExactRuleHoldsSaid : Prop := fnExactRuleHoldsRow.holds Try.pinned (OpenSpec.ofChange fnExactRuleHoldsSpec)

/-- ITS FALSE NEIGHBOUR: 'it returns false'. Refute it at one input. -/
def fnExactRuleHoldsWrong : ChangeSpec := { name := "fnExactRuleHolds", fn := fun _ => fun
  | [d1, d2] => { results := [.lit (.bool false)], args := [d1, d2] }
  | _ => none }
def FnExactRuleHoldsWrongFalsely : Prop := fnExactRuleHoldsRow.holds Try.pinned (OpenSpec.ofChange fnExactRuleHoldsWrong)

/-- 'laws.FnExactRunStack': WHATEVER THE INPUT: true; the input reads as it did. -/
def fnExactRunStackSpec : ChangeSpec := { name := "fnExactRunStack", fn := fun _ => fun
  | [d1, d2] => { results := [.lit (.bool true)], args := [d1, d2] }
  | _ => none }
def fnExactRunStackRow : OpenClaim := { program := "ytiinjipfhmgheaa", sum := "f9070ffc628eefc31bbfb3bfc5307e9f8839b2740dd13841a24974a05449654d", func := "loop.example/g00397/laws.FnExactRunStack", spec := "fnExactRunStack", apart := false }
def FnExactRunStackSaid : Prop := fnExactRunStackRow.holds Try.pinned (OpenSpec.ofChange fnExactRunStackSpec)

/-- ITS FALSE NEIGHBOUR: 'it returns false'. Refute it at one input. -/
def fnExactRunStackWrong : ChangeSpec := { name := "fnExactRunStack", fn := fun _ => fun
  | [d1, d2] => { results := [.lit (.bool false)], args := [d1, d2] }
  | _ => none }
def FnExactRunStackWrongFalsely : Prop := fnExactRunStackRow.holds Try.pinned (OpenSpec.ofChange fnExactRunStackWrong)

/- THE SECOND FORM. 'bulk': how many values and letters a reading holds, each counted each time it is reached (what is shared counts as often as it is met; a slice's spare places count too). A statement '..UptoSaid' is the law's where the arguments, and the package variables that the reading takes, are together of bulk at most 1048576: NARROWER than '..Said'. Prove '..Said' where nothing that the law and all that it calls make is longer than what came in: it says more and counts as full. Else prove '..UptoSaid'. A law counts once. -/
mutual
def uptoBulk {H : Type} : DataW H → Nat
  | .lit (.string bytes) => bytes.length + 1
  | .lit _ => 1
  | .nil => 1
  | .ptr d => uptoBulk d + 1
  | .slice elems spare => uptoBulkAll elems + uptoBulkAll spare + 1
  | .agg parts => uptoBulkAll parts + 1
  | .iface _ d => uptoBulk d + 1
  | .map entries => uptoBulkEntries entries + 1
  | .held _ => 1
def uptoBulkAll {H : Type} : List (DataW H) → Nat
  | [] => 0
  | d :: r => uptoBulk d + uptoBulkAll r
def uptoBulkEntries {H : Type} : List (Lit × DataW H) → Nat
  | [] => 0
  | x :: r => uptoBulkEntry x + uptoBulkEntries r
def uptoBulkEntry {H : Type} : Lit × DataW H → Nat
  | (.string bytes, d) => bytes.length + uptoBulk d + 1
  | (_, d) => uptoBulk d + 1
 end
def uptoSmall : (H : Type) → List (DataW H) → Bool := fun _ ds => decide (uptoBulkAll ds ≤ 1048576)
def OpenSpec.upto (s : _root_.Go.ChangeSpec) : _root_.Go.OpenSpec := { _root_.Go.OpenSpec.ofChange s with cond := some uptoSmall }

/-- 'laws.FnExactStackOk', WHERE WHAT IT READS IS OF BULK AT MOST 1048576: true; the input reads as it did. -/
def fnExactStackOkUptoRow : OpenClaim := { program := "ytiinjipfhmgheaa", sum := "f9070ffc628eefc31bbfb3bfc5307e9f8839b2740dd13841a24974a05449654d", func := "loop.example/g00397/laws.FnExactStackOk", spec := "fnExactStackOk", apart := false, narrowed := true }
def FnExactStackOkUptoSaid : Prop := fnExactStackOkUptoRow.holds Try.pinned (OpenSpec.upto fnExactStackOkSpec)

/-- 'laws.FnExactCondHolds', WHERE WHAT IT READS IS OF BULK AT MOST 1048576: true; the input reads as it did. -/
def fnExactCondHoldsUptoRow : OpenClaim := { program := "ytiinjipfhmgheaa", sum := "f9070ffc628eefc31bbfb3bfc5307e9f8839b2740dd13841a24974a05449654d", func := "loop.example/g00397/laws.FnExactCondHolds", spec := "fnExactCondHolds", apart := false, narrowed := true }
def FnExactCondHoldsUptoSaid : Prop := fnExactCondHoldsUptoRow.holds Try.pinned (OpenSpec.upto fnExactCondHoldsSpec)

/-- 'laws.FnExactThreaded', WHERE WHAT IT READS IS OF BULK AT MOST 1048576: true; the input reads as it did. -/
def fnExactThreadedUptoRow : OpenClaim := { program := "ytiinjipfhmgheaa", sum := "f9070ffc628eefc31bbfb3bfc5307e9f8839b2740dd13841a24974a05449654d", func := "loop.example/g00397/laws.FnExactThreaded", spec := "fnExactThreaded", apart := false, narrowed := true }
def FnExactThreadedUptoSaid : Prop := fnExactThreadedUptoRow.holds Try.pinned (OpenSpec.upto fnExactThreadedSpec)

/-- 'laws.FnExactCondLines', WHERE WHAT IT READS IS OF BULK AT MOST 1048576: true; the input reads as it did. -/
def fnExactCondLinesUptoRow : OpenClaim := { program := "ytiinjipfhmgheaa", sum := "f9070ffc628eefc31bbfb3bfc5307e9f8839b2740dd13841a24974a05449654d", func := "loop.example/g00397/laws.FnExactCondLines", spec := "fnExactCondLines", apart := false, narrowed := true }
def FnExactCondLinesUptoSaid : Prop := fnExactCondLinesUptoRow.holds Try.pinned (OpenSpec.upto fnExactCondLinesSpec)

/-- 'laws.FnExactLinesOk', WHERE WHAT IT READS IS OF BULK AT MOST 1048576: true; the input reads as it did. -/
def fnExactLinesOkUptoRow : OpenClaim := { program := "ytiinjipfhmgheaa", sum := "f9070ffc628eefc31bbfb3bfc5307e9f8839b2740dd13841a24974a05449654d", func := "loop.example/g00397/laws.FnExactLinesOk", spec := "fnExactLinesOk", apart := false, narrowed := true }
def FnExactLinesOkUptoSaid : Prop := fnExactLinesOkUptoRow.holds Try.pinned (OpenSpec.upto fnExactLinesOkSpec)

/-- 'laws.FnExactOffered', WHERE WHAT IT READS IS OF BULK AT MOST 1048576: true; the input reads as it did. -/
def fnExactOfferedUptoRow : OpenClaim := { program := "ytiinjipfhmgheaa", sum := "f9070ffc628eefc31bbfb3bfc5307e9f8839b2740dd13841a24974a05449654d", func := "loop.example/g00397/laws.FnExactOffered", spec := "fnExactOffered", apart := false, narrowed := true }
def FnExactOfferedUptoSaid : Prop := fnExactOfferedUptoRow.holds Try.pinned (OpenSpec.upto fnExactOfferedSpec)

/-- 'laws.FnExactPolicyOk', WHERE WHAT IT READS IS OF BULK AT MOST 1048576: true; the input reads as it did. -/
def fnExactPolicyOkUptoRow : OpenClaim := { program := "ytiinjipfhmgheaa", sum := "f9070ffc628eefc31bbfb3bfc5307e9f8839b2740dd13841a24974a05449654d", func := "loop.example/g00397/laws.FnExactPolicyOk", spec := "fnExactPolicyOk", apart := false, narrowed := true }
def FnExactPolicyOkUptoSaid : Prop := fnExactPolicyOkUptoRow.holds Try.pinned (OpenSpec.upto fnExactPolicyOkSpec)

/-- 'laws.FnExactPushStack', WHERE WHAT IT READS IS OF BULK AT MOST 1048576: true; the input reads as it did. -/
def fnExactPushStackUptoRow : OpenClaim := { program := "ytiinjipfhmgheaa", sum := "f9070ffc628eefc31bbfb3bfc5307e9f8839b2740dd13841a24974a05449654d", func := "loop.example/g00397/laws.FnExactPushStack", spec := "fnExactPushStack", apart := false, narrowed := true }
def FnExactPushStackUptoSaid : Prop := fnExactPushStackUptoRow.holds Try.pinned (OpenSpec.upto fnExactPushStackSpec)

/-- 'laws.FnExactTrimmed', WHERE WHAT IT READS IS OF BULK AT MOST 1048576: true; the input reads as it did. -/
def fnExactTrimmedUptoRow : OpenClaim := { program := "ytiinjipfhmgheaa", sum := "f9070ffc628eefc31bbfb3bfc5307e9f8839b2740dd13841a24974a05449654d", func := "loop.example/g00397/laws.FnExactTrimmed", spec := "fnExactTrimmed", apart := false, narrowed := true }
def FnExactTrimmedUptoSaid : Prop := fnExactTrimmedUptoRow.holds Try.pinned (OpenSpec.upto fnExactTrimmedSpec)

/-- 'laws.FnExactShort', WHERE WHAT IT READS IS OF BULK AT MOST 1048576: true; the input reads as it did. -/
def fnExactShortUptoRow : OpenClaim := { program := "ytiinjipfhmgheaa", sum := "f9070ffc628eefc31bbfb3bfc5307e9f8839b2740dd13841a24974a05449654d", func := "loop.example/g00397/laws.FnExactShort", spec := "fnExactShort", apart := false, narrowed := true }
def FnExactShortUptoSaid : Prop := fnExactShortUptoRow.holds Try.pinned (OpenSpec.upto fnExactShortSpec)

/-- 'laws.FnExactRuleHolds', WHERE WHAT IT READS IS OF BULK AT MOST 1048576: true; the input reads as it did. -/
def fnExactRuleHoldsUptoRow : OpenClaim := { program := "ytiinjipfhmgheaa", sum := "f9070ffc628eefc31bbfb3bfc5307e9f8839b2740dd13841a24974a05449654d", func := "loop.example/g00397/laws.FnExactRuleHolds", spec := "fnExactRuleHolds", apart := false, narrowed := true }
def FnExactRuleHoldsUptoSaid : Prop := fnExactRuleHoldsUptoRow.holds Try.pinned (OpenSpec.upto fnExactRuleHoldsSpec)

/-- 'laws.FnExactRunStack', WHERE WHAT IT READS IS OF BULK AT MOST 1048576: true; the input reads as it did. -/
def fnExactRunStackUptoRow : OpenClaim := { program := "ytiinjipfhmgheaa", sum := "f9070ffc628eefc31bbfb3bfc5307e9f8839b2740dd13841a24974a05449654d", func := "loop.example/g00397/laws.FnExactRunStack", spec := "fnExactRunStack", apart := false, narrowed := true }
def FnExactRunStackUptoSaid : Prop := fnExactRunStackUptoRow.holds Try.pinned (OpenSpec.upto fnExactRunStackSpec)

end Rows
end Go.Proofs.Ytiinjipfhmgheaa
