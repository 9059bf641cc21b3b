/-
  No cell of these rows narrows 'for every input' (looked for: loops, veiled, ifaces, maps, wideKeys, modest, calm, conditions, laid).
  DERIVED. THE GIVEN ROWS OF THIS SEAT. 9 by the template 'for every input the law returns true; each argument reads behind the call as it read before'; 0 by the template 'total and deterministic' (their statements: YtcmcpmkihpdnjaaTotals.lean).
  GIVEN WITH THE SEED: the statements are not yours to turn. If you find one false, say at which input.
  Laid BY PROGRAM, IN A SANDBOX (cutbox-rows.mjs): the forced cells as the released guide's own fill.sh prints them over the translation d4ef92aca032193d… (all of the seat's roots in one cut). By AI agents, Wed Nov 11 2026. No macro, syntax, notation, axiom, sorry.
-/
import Derived.Test.YtcmcpmkihpdnjaaChecked
import GoSem.Claim
import GoSem.ClaimJoined
import GoSem.ClaimMapViews
import Derived.JoinedTies
import Derived.KernelRfl
namespace Go.Proofs.Ytcmcpmkihpdnjaa
/- THE CELL 'sum', in the pinned program and in every row, IS THE sha256 OF THE DUMP (.gsa) THAT YtcmcpmkihpdnjaaProg.lean LOADS. Nothing in Lean hashes anything: it is a label: what it is worth is what the hold of that sum in a sandbox is worth. -/
noncomputable def Try.pinned : Pinned := { name := "ytcmcpmkihpdnjaa", sum := "d4ef92aca032193d164878a46313bf5f1b4ea878eb52f8798eb869641bf52b6c", checked := Try.checked }
namespace Rows
def none {H : Type} : Left H := { results := [], args := [] }

/-- 'laws.FnExactPushStack': WHATEVER THE INPUT: true; the input reads as it did. -/
def fnExactPushStackSpec : ChangeSpec := { name := "fnExactPushStack", fn := fun _ => fun
  | [d1, d2] => { results := [.lit (.bool true)], args := [d1, d2] }
  | _ => none }
def fnExactPushStackRow : OpenClaim := { program := "ytcmcpmkihpdnjaa", sum := "d4ef92aca032193d164878a46313bf5f1b4ea878eb52f8798eb869641bf52b6c", func := "loop.example/g00397/laws.FnExactPushStack", spec := "fnExactPushStack", apart := false }
def FnExactPushStackSaid : Prop := fnExactPushStackRow.holds Try.pinned (OpenSpec.ofChange fnExactPushStackSpec)

/-- ITS FALSE NEIGHBOUR: 'it returns false'. Refute it at one input. -/
def fnExactPushStackWrong : ChangeSpec := { name := "fnExactPushStack", fn := fun _ => fun
  | [d1, d2] => { results := [.lit (.bool false)], args := [d1, d2] }
  | _ => none }
def FnExactPushStackWrongFalsely : Prop := fnExactPushStackRow.holds Try.pinned (OpenSpec.ofChange fnExactPushStackWrong)

/-- 'laws.FnExactSignsOf': WHATEVER THE INPUT: true; the input reads as it did. -/
def fnExactSignsOfSpec : ChangeSpec := { name := "fnExactSignsOf", fn := fun _ => fun
  | [d] => { results := [.lit (.bool true)], args := [d] }
  | _ => none }
def fnExactSignsOfRow : OpenClaim := { program := "ytcmcpmkihpdnjaa", sum := "d4ef92aca032193d164878a46313bf5f1b4ea878eb52f8798eb869641bf52b6c", func := "loop.example/g00397/laws.FnExactSignsOf", spec := "fnExactSignsOf", unfollowed := true, recurses := true, apart := false }
def FnExactSignsOfSaid : Prop := fnExactSignsOfRow.holds Try.pinned (OpenSpec.ofChange fnExactSignsOfSpec)

/-- ITS FALSE NEIGHBOUR: 'it returns false'. Refute it at one input. -/
def fnExactSignsOfWrong : ChangeSpec := { name := "fnExactSignsOf", fn := fun _ => fun
  | [d] => { results := [.lit (.bool false)], args := [d] }
  | _ => none }
def FnExactSignsOfWrongFalsely : Prop := fnExactSignsOfRow.holds Try.pinned (OpenSpec.ofChange fnExactSignsOfWrong)

/-- 'laws.FnExactSamePolicy': WHATEVER THE INPUT: true; the input reads as it did. -/
def fnExactSamePolicySpec : ChangeSpec := { name := "fnExactSamePolicy", fn := fun _ => fun
  | [d1, d2] => { results := [.lit (.bool true)], args := [d1, d2] }
  | _ => none }
def fnExactSamePolicyRow : OpenClaim := { program := "ytcmcpmkihpdnjaa", sum := "d4ef92aca032193d164878a46313bf5f1b4ea878eb52f8798eb869641bf52b6c", func := "loop.example/g00397/laws.FnExactSamePolicy", spec := "fnExactSamePolicy", unfollowed := true, recurses := true, apart := false }
def FnExactSamePolicySaid : Prop := fnExactSamePolicyRow.holds Try.pinned (OpenSpec.ofChange fnExactSamePolicySpec)

/-- ITS FALSE NEIGHBOUR: 'it returns false'. Refute it at one input. -/
def fnExactSamePolicyWrong : ChangeSpec := { name := "fnExactSamePolicy", fn := fun _ => fun
  | [d1, d2] => { results := [.lit (.bool false)], args := [d1, d2] }
  | _ => none }
def FnExactSamePolicyWrongFalsely : Prop := fnExactSamePolicyRow.holds Try.pinned (OpenSpec.ofChange fnExactSamePolicyWrong)

/-- 'laws.FnExactShowPolicy': WHATEVER THE INPUT: true; the input reads as it did. -/
def fnExactShowPolicySpec : ChangeSpec := { name := "fnExactShowPolicy", fn := fun _ => fun
  | [d] => { results := [.lit (.bool true)], args := [d] }
  | _ => none }
def fnExactShowPolicyRow : OpenClaim := { program := "ytcmcpmkihpdnjaa", sum := "d4ef92aca032193d164878a46313bf5f1b4ea878eb52f8798eb869641bf52b6c", func := "loop.example/g00397/laws.FnExactShowPolicy", spec := "fnExactShowPolicy", apart := false }
def FnExactShowPolicySaid : Prop := fnExactShowPolicyRow.holds Try.pinned (OpenSpec.ofChange fnExactShowPolicySpec)

/-- ITS FALSE NEIGHBOUR: 'it returns false'. Refute it at one input. -/
def fnExactShowPolicyWrong : ChangeSpec := { name := "fnExactShowPolicy", fn := fun _ => fun
  | [d] => { results := [.lit (.bool false)], args := [d] }
  | _ => none }
def FnExactShowPolicyWrongFalsely : Prop := fnExactShowPolicyRow.holds Try.pinned (OpenSpec.ofChange fnExactShowPolicyWrong)

/-- 'laws.FnExactChainLines': WHATEVER THE INPUT: true; the input reads as it did. -/
def fnExactChainLinesSpec : ChangeSpec := { name := "fnExactChainLines", fn := fun _ => fun
  | [d1, d2, d3, d4] => { results := [.lit (.bool true)], args := [d1, d2, d3, d4] }
  | _ => none }
def fnExactChainLinesRow : OpenClaim := { program := "ytcmcpmkihpdnjaa", sum := "d4ef92aca032193d164878a46313bf5f1b4ea878eb52f8798eb869641bf52b6c", func := "loop.example/g00397/laws.FnExactChainLines", spec := "fnExactChainLines", apart := false }
def FnExactChainLinesSaid : Prop := fnExactChainLinesRow.holds Try.pinned (OpenSpec.ofChange fnExactChainLinesSpec)

/-- ITS FALSE NEIGHBOUR: 'it returns false'. Refute it at one input. -/
def fnExactChainLinesWrong : ChangeSpec := { name := "fnExactChainLines", fn := fun _ => fun
  | [d1, d2, d3, d4] => { results := [.lit (.bool false)], args := [d1, d2, d3, d4] }
  | _ => none }
def FnExactChainLinesWrongFalsely : Prop := fnExactChainLinesRow.holds Try.pinned (OpenSpec.ofChange fnExactChainLinesWrong)

/-- 'laws.FnExactTreeLines': WHATEVER THE INPUT: true; the input reads as it did. -/
def fnExactTreeLinesSpec : ChangeSpec := { name := "fnExactTreeLines", fn := fun _ => fun
  | [d1, d2, d3] => { results := [.lit (.bool true)], args := [d1, d2, d3] }
  | _ => none }
def fnExactTreeLinesRow : OpenClaim := { program := "ytcmcpmkihpdnjaa", sum := "d4ef92aca032193d164878a46313bf5f1b4ea878eb52f8798eb869641bf52b6c", func := "loop.example/g00397/laws.FnExactTreeLines", spec := "fnExactTreeLines", recurses := true, apart := false }
def FnExactTreeLinesSaid : Prop := fnExactTreeLinesRow.holds Try.pinned (OpenSpec.ofChange fnExactTreeLinesSpec)

/-- ITS FALSE NEIGHBOUR: 'it returns false'. Refute it at one input. -/
def fnExactTreeLinesWrong : ChangeSpec := { name := "fnExactTreeLines", fn := fun _ => fun
  | [d1, d2, d3] => { results := [.lit (.bool false)], args := [d1, d2, d3] }
  | _ => none }
def FnExactTreeLinesWrongFalsely : Prop := fnExactTreeLinesRow.holds Try.pinned (OpenSpec.ofChange fnExactTreeLinesWrong)

/-- 'laws.FnExactNumsOf': WHATEVER THE INPUT: true; the input reads as it did. -/
def fnExactNumsOfSpec : ChangeSpec := { name := "fnExactNumsOf", fn := fun _ => fun
  | [d] => { results := [.lit (.bool true)], args := [d] }
  | _ => none }
def fnExactNumsOfRow : OpenClaim := { program := "ytcmcpmkihpdnjaa", sum := "d4ef92aca032193d164878a46313bf5f1b4ea878eb52f8798eb869641bf52b6c", func := "loop.example/g00397/laws.FnExactNumsOf", spec := "fnExactNumsOf", recurses := true, apart := false }
def FnExactNumsOfSaid : Prop := fnExactNumsOfRow.holds Try.pinned (OpenSpec.ofChange fnExactNumsOfSpec)

/-- ITS FALSE NEIGHBOUR: 'it returns false'. Refute it at one input. -/
def fnExactNumsOfWrong : ChangeSpec := { name := "fnExactNumsOf", fn := fun _ => fun
  | [d] => { results := [.lit (.bool false)], args := [d] }
  | _ => none }
def FnExactNumsOfWrongFalsely : Prop := fnExactNumsOfRow.holds Try.pinned (OpenSpec.ofChange fnExactNumsOfWrong)

/-- 'laws.FnExactPolicyLines': WHATEVER THE INPUT: true; the input reads as it did. -/
def fnExactPolicyLinesSpec : ChangeSpec := { name := "fnExactPolicyLines", fn := fun _ => fun
  | [d] => { results := [.lit (.bool true)], args := [d] }
  | _ => none }
def fnExactPolicyLinesRow : OpenClaim := { program := "ytcmcpmkihpdnjaa", sum := "d4ef92aca032193d164878a46313bf5f1b4ea878eb52f8798eb869641bf52b6c", func := "loop.example/g00397/laws.FnExactPolicyLines", spec := "fnExactPolicyLines", recurses := true, apart := false }
def FnExactPolicyLinesSaid : Prop := fnExactPolicyLinesRow.holds Try.pinned (OpenSpec.ofChange fnExactPolicyLinesSpec)

/-- ITS FALSE NEIGHBOUR: 'it returns false'. Refute it at one input. -/
def fnExactPolicyLinesWrong : ChangeSpec := { name := "fnExactPolicyLines", fn := fun _ => fun
  | [d] => { results := [.lit (.bool false)], args := [d] }
  | _ => none }
def FnExactPolicyLinesWrongFalsely : Prop := fnExactPolicyLinesRow.holds Try.pinned (OpenSpec.ofChange fnExactPolicyLinesWrong)

/-- 'laws.FnExactReadPolicy': WHATEVER THE INPUT: true; the input reads as it did. -/
def fnExactReadPolicySpec : ChangeSpec := { name := "fnExactReadPolicy", fn := fun _ => fun
  | [d] => { results := [.lit (.bool true)], args := [d] }
  | _ => none }
def fnExactReadPolicyRow : OpenClaim := { program := "ytcmcpmkihpdnjaa", sum := "d4ef92aca032193d164878a46313bf5f1b4ea878eb52f8798eb869641bf52b6c", func := "loop.example/g00397/laws.FnExactReadPolicy", spec := "fnExactReadPolicy", unfollowed := true, recurses := true, apart := false }
def FnExactReadPolicySaid : Prop := fnExactReadPolicyRow.holds Try.pinned (OpenSpec.ofChange fnExactReadPolicySpec)

/-- ITS FALSE NEIGHBOUR: 'it returns false'. Refute it at one input. -/
def fnExactReadPolicyWrong : ChangeSpec := { name := "fnExactReadPolicy", fn := fun _ => fun
  | [d] => { results := [.lit (.bool false)], args := [d] }
  | _ => none }
def FnExactReadPolicyWrongFalsely : Prop := fnExactReadPolicyRow.holds Try.pinned (OpenSpec.ofChange fnExactReadPolicyWrong)

/- THE SECOND FORM. 'bulk': how many values and letters a reading holds, each counted each time it is reached (what is shared counts as often as it is met; a slice's spare places count too). A statement '..UptoSaid' is the law's where the arguments, and the package variables that the reading takes, are together of bulk at most 1048576: NARROWER than '..Said'. Prove '..Said' where nothing that the law and all that it calls make is longer than what came in: it says more and counts as full. Else prove '..UptoSaid'. A law counts once. -/
mutual
def uptoBulk {H : Type} : DataW H → Nat
  | .lit (.string bytes) => bytes.length + 1
  | .lit _ => 1
  | .nil => 1
  | .ptr d => uptoBulk d + 1
  | .slice elems spare => uptoBulkAll elems + uptoBulkAll spare + 1
  | .agg parts => uptoBulkAll parts + 1
  | .iface _ d => uptoBulk d + 1
  | .map entries => uptoBulkEntries entries + 1
  | .held _ => 1
def uptoBulkAll {H : Type} : List (DataW H) → Nat
  | [] => 0
  | d :: r => uptoBulk d + uptoBulkAll r
def uptoBulkEntries {H : Type} : List (Lit × DataW H) → Nat
  | [] => 0
  | x :: r => uptoBulkEntry x + uptoBulkEntries r
def uptoBulkEntry {H : Type} : Lit × DataW H → Nat
  | (.string bytes, d) => bytes.length + uptoBulk d + 1
  | (_, d) => uptoBulk d + 1
 end
def uptoSmall : (H : Type) → List (DataW H) → Bool := fun _ ds => decide (uptoBulkAll ds ≤ 1048576)
def OpenSpec.upto (s : _root_.Go.ChangeSpec) : _root_.Go.OpenSpec := { _root_.Go.OpenSpec.ofChange s with cond := some uptoSmall }

/-- 'laws.FnExactPushStack', WHERE WHAT IT READS IS OF BULK AT MOST 1048576: true; the input reads as it did. -/
def fnExactPushStackUptoRow : OpenClaim := { program := "ytcmcpmkihpdnjaa", sum := "d4ef92aca032193d164878a46313bf5f1b4ea878eb52f8798eb869641bf52b6c", func := "loop.example/g00397/laws.FnExactPushStack", spec := "fnExactPushStack", apart := false, narrowed := true }
def FnExactPushStackUptoSaid : Prop := fnExactPushStackUptoRow.holds Try.pinned (OpenSpec.upto fnExactPushStackSpec)

/-- 'laws.FnExactSignsOf', WHERE WHAT IT READS IS OF BULK AT MOST 1048576: true; the input reads as it did. -/
def fnExactSignsOfUptoRow : OpenClaim := { program := "ytcmcpmkihpdnjaa", sum := "d4ef92aca032193d164878a46313bf5f1b4ea878eb52f8798eb869641bf52b6c", func := "loop.example/g00397/laws.FnExactSignsOf", spec := "fnExactSignsOf", unfollowed := true, recurses := true, apart := false, narrowed := true }
def FnExactSignsOfUptoSaid : Prop := fnExactSignsOfUptoRow.holds Try.pinned (OpenSpec.upto fnExactSignsOfSpec)

/-- 'laws.FnExactSamePolicy', WHERE WHAT IT READS IS OF BULK AT MOST 1048576: true; the input reads as it did. -/
def fnExactSamePolicyUptoRow : OpenClaim := { program := "ytcmcpmkihpdnjaa", sum := "d4ef92aca032193d164878a46313bf5f1b4ea878eb52f8798eb869641bf52b6c", func := "loop.example/g00397/laws.FnExactSamePolicy", spec := "fnExactSamePolicy", unfollowed := true, recurses := true, apart := false, narrowed := true }
def FnExactSamePolicyUptoSaid : Prop := fnExactSamePolicyUptoRow.holds Try.pinned (OpenSpec.upto fnExactSamePolicySpec)

/-- 'laws.FnExactShowPolicy', WHERE WHAT IT READS IS OF BULK AT MOST 1048576: true; the input reads as it did. -/
def fnExactShowPolicyUptoRow : OpenClaim := { program := "ytcmcpmkihpdnjaa", sum := "d4ef92aca032193d164878a46313bf5f1b4ea878eb52f8798eb869641bf52b6c", func := "loop.example/g00397/laws.FnExactShowPolicy", spec := "fnExactShowPolicy", apart := false, narrowed := true }
def FnExactShowPolicyUptoSaid : Prop := fnExactShowPolicyUptoRow.holds Try.pinned (OpenSpec.upto fnExactShowPolicySpec)

/-- 'laws.FnExactChainLines', WHERE WHAT IT READS IS OF BULK AT MOST 1048576: true; the input reads as it did. -/
def fnExactChainLinesUptoRow : OpenClaim := { program := "ytcmcpmkihpdnjaa", sum := "d4ef92aca032193d164878a46313bf5f1b4ea878eb52f8798eb869641bf52b6c", func := "loop.example/g00397/laws.FnExactChainLines", spec := "fnExactChainLines", apart := false, narrowed := true }
def FnExactChainLinesUptoSaid : Prop := fnExactChainLinesUptoRow.holds Try.pinned (OpenSpec.upto fnExactChainLinesSpec)

/-- 'laws.FnExactTreeLines', WHERE WHAT IT READS IS OF BULK AT MOST 1048576: true; the input reads as it did. -/
def fnExactTreeLinesUptoRow : OpenClaim := { program := "ytcmcpmkihpdnjaa", sum := "d4ef92aca032193d164878a46313bf5f1b4ea878eb52f8798eb869641bf52b6c", func := "loop.example/g00397/laws.FnExactTreeLines", spec := "fnExactTreeLines", recurses := true, apart := false, narrowed := true }
def FnExactTreeLinesUptoSaid : Prop := fnExactTreeLinesUptoRow.holds Try.pinned (OpenSpec.upto fnExactTreeLinesSpec)

/-- 'laws.FnExactNumsOf', WHERE WHAT IT READS IS OF BULK AT MOST 1048576: true; the input reads as it did. -/
def fnExactNumsOfUptoRow : OpenClaim := { program := "ytcmcpmkihpdnjaa", sum := "d4ef92aca032193d164878a46313bf5f1b4ea878eb52f8798eb869641bf52b6c", func := "loop.example/g00397/laws.FnExactNumsOf", spec := "fnExactNumsOf", recurses := true, apart := false, narrowed := true }
def FnExactNumsOfUptoSaid : Prop := fnExactNumsOfUptoRow.holds Try.pinned (OpenSpec.upto fnExactNumsOfSpec)

/-- 'laws.FnExactPolicyLines', WHERE WHAT IT READS IS OF BULK AT MOST 1048576: true; the input reads as it did. -/
def fnExactPolicyLinesUptoRow : OpenClaim := { program := "ytcmcpmkihpdnjaa", sum := "d4ef92aca032193d164878a46313bf5f1b4ea878eb52f8798eb869641bf52b6c", func := "loop.example/g00397/laws.FnExactPolicyLines", spec := "fnExactPolicyLines", recurses := true, apart := false, narrowed := true }
def FnExactPolicyLinesUptoSaid : Prop := fnExactPolicyLinesUptoRow.holds Try.pinned (OpenSpec.upto fnExactPolicyLinesSpec)

/-- 'laws.FnExactReadPolicy', WHERE WHAT IT READS IS OF BULK AT MOST 1048576: true; the input reads as it did. -/
def fnExactReadPolicyUptoRow : OpenClaim := { program := "ytcmcpmkihpdnjaa", sum := "d4ef92aca032193d164878a46313bf5f1b4ea878eb52f8798eb869641bf52b6c", func := "loop.example/g00397/laws.FnExactReadPolicy", spec := "fnExactReadPolicy", unfollowed := true, recurses := true, apart := false, narrowed := true }
def FnExactReadPolicyUptoSaid : Prop := fnExactReadPolicyUptoRow.holds Try.pinned (OpenSpec.upto fnExactReadPolicySpec)

end Rows
end Go.Proofs.Ytcmcpmkihpdnjaa
