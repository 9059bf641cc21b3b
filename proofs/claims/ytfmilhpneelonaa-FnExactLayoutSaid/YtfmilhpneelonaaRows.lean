/-
  No cell of these rows narrows 'for every input' (looked for: loops, veiled, ifaces, maps, wideKeys, modest, calm, conditions, laid).
  DERIVED. THE GIVEN ROWS OF THIS SEAT. 12 by the template 'for every input the law returns true; each argument reads behind the call as it read before'; 0 by the template 'total and deterministic' (their statements: YtfmilhpneelonaaTotals.lean).
  GIVEN WITH THE SEED: the statements are not yours to turn. If you find one false, say at which input.
  Laid BY PROGRAM, IN A SANDBOX (cutbox-rows.mjs): the forced cells as the released guide's own fill.sh prints them over the translation a9fb132e132b5c16… (all of the seat's roots in one cut). By AI agents, Wed Nov 11 2026. No macro, syntax, notation, axiom, sorry.
-/
import Derived.Test.YtfmilhpneelonaaChecked
import GoSem.Claim
import GoSem.ClaimJoined
import GoSem.ClaimMapViews
import Derived.JoinedTies
import Derived.KernelRfl
namespace Go.Proofs.Ytfmilhpneelonaa
/- THE CELL 'sum', in the pinned program and in every row, IS THE sha256 OF THE DUMP (.gsa) THAT YtfmilhpneelonaaProg.lean LOADS. Nothing in Lean hashes anything: it is a label: what it is worth is what the hold of that sum in a sandbox is worth. -/
noncomputable def Try.pinned : Pinned := { name := "ytfmilhpneelonaa", sum := "a9fb132e132b5c168dbe36bbdb7bb6d1ff09303929e2acc78dcb6802918ec263", checked := Try.checked }
namespace Rows
def none {H : Type} : Left H := { results := [], args := [] }

/-- 'laws.FnConds': WHATEVER THE INPUT: true; the input reads as it did. -/
def fnCondsSpec : ChangeSpec := { name := "fnConds", fn := fun _ => fun
  | [d] => { results := [.lit (.bool true)], args := [d] }
  | _ => none }
def fnCondsRow : OpenClaim := { program := "ytfmilhpneelonaa", sum := "a9fb132e132b5c168dbe36bbdb7bb6d1ff09303929e2acc78dcb6802918ec263", func := "loop.example/g00397/laws.FnConds", spec := "fnConds", apart := false }
def FnCondsSaid : Prop := fnCondsRow.holds Try.pinned (OpenSpec.ofChange fnCondsSpec)

/-- ITS FALSE NEIGHBOUR: 'it returns false'. Refute it at one input. -/
def fnCondsWrong : ChangeSpec := { name := "fnConds", fn := fun _ => fun
  | [d] => { results := [.lit (.bool false)], args := [d] }
  | _ => none }
def FnCondsWrongFalsely : Prop := fnCondsRow.holds Try.pinned (OpenSpec.ofChange fnCondsWrong)

/-- 'laws.FnCondLinesTold': WHATEVER THE INPUT: true; the input reads as it did. -/
def fnCondLinesToldSpec : ChangeSpec := { name := "fnCondLinesTold", fn := fun _ => fun
  | [d] => { results := [.lit (.bool true)], args := [d] }
  | _ => none }
def fnCondLinesToldRow : OpenClaim := { program := "ytfmilhpneelonaa", sum := "a9fb132e132b5c168dbe36bbdb7bb6d1ff09303929e2acc78dcb6802918ec263", func := "loop.example/g00397/laws.FnCondLinesTold", spec := "fnCondLinesTold", apart := false }
def FnCondLinesToldSaid : Prop := fnCondLinesToldRow.holds Try.pinned (OpenSpec.ofChange fnCondLinesToldSpec)

/-- ITS FALSE NEIGHBOUR: 'it returns false'. Refute it at one input. -/
def fnCondLinesToldWrong : ChangeSpec := { name := "fnCondLinesTold", fn := fun _ => fun
  | [d] => { results := [.lit (.bool false)], args := [d] }
  | _ => none }
def FnCondLinesToldWrongFalsely : Prop := fnCondLinesToldRow.holds Try.pinned (OpenSpec.ofChange fnCondLinesToldWrong)

/-- 'laws.FnRingsTold': WHATEVER THE INPUT: true; the input reads as it did. -/
def fnRingsToldSpec : ChangeSpec := { name := "fnRingsTold", fn := fun _ => fun
  | [d] => { results := [.lit (.bool true)], args := [d] }
  | _ => none }
def fnRingsToldRow : OpenClaim := { program := "ytfmilhpneelonaa", sum := "a9fb132e132b5c168dbe36bbdb7bb6d1ff09303929e2acc78dcb6802918ec263", func := "loop.example/g00397/laws.FnRingsTold", spec := "fnRingsTold", apart := false }
def FnRingsToldSaid : Prop := fnRingsToldRow.holds Try.pinned (OpenSpec.ofChange fnRingsToldSpec)

/-- ITS FALSE NEIGHBOUR: 'it returns false'. Refute it at one input. -/
def fnRingsToldWrong : ChangeSpec := { name := "fnRingsTold", fn := fun _ => fun
  | [d] => { results := [.lit (.bool false)], args := [d] }
  | _ => none }
def FnRingsToldWrongFalsely : Prop := fnRingsToldRow.holds Try.pinned (OpenSpec.ofChange fnRingsToldWrong)

/-- 'laws.FnLayouts': WHATEVER THE INPUT: true; the input reads as it did. -/
def fnLayoutsSpec : ChangeSpec := { name := "fnLayouts", fn := fun _ => fun
  | [d] => { results := [.lit (.bool true)], args := [d] }
  | _ => none }
def fnLayoutsRow : OpenClaim := { program := "ytfmilhpneelonaa", sum := "a9fb132e132b5c168dbe36bbdb7bb6d1ff09303929e2acc78dcb6802918ec263", func := "loop.example/g00397/laws.FnLayouts", spec := "fnLayouts", apart := false }
def FnLayoutsSaid : Prop := fnLayoutsRow.holds Try.pinned (OpenSpec.ofChange fnLayoutsSpec)

/-- ITS FALSE NEIGHBOUR: 'it returns false'. Refute it at one input. -/
def fnLayoutsWrong : ChangeSpec := { name := "fnLayouts", fn := fun _ => fun
  | [d] => { results := [.lit (.bool false)], args := [d] }
  | _ => none }
def FnLayoutsWrongFalsely : Prop := fnLayoutsRow.holds Try.pinned (OpenSpec.ofChange fnLayoutsWrong)

/-- 'laws.FnExactSizes': WHATEVER THE INPUT: true; the input reads as it did. -/
def fnExactSizesSpec : ChangeSpec := { name := "fnExactSizes", fn := fun _ => fun
  | [d] => { results := [.lit (.bool true)], args := [d] }
  | _ => none }
def fnExactSizesRow : OpenClaim := { program := "ytfmilhpneelonaa", sum := "a9fb132e132b5c168dbe36bbdb7bb6d1ff09303929e2acc78dcb6802918ec263", func := "loop.example/g00397/laws.FnExactSizes", spec := "fnExactSizes", apart := false }
def FnExactSizesSaid : Prop := fnExactSizesRow.holds Try.pinned (OpenSpec.ofChange fnExactSizesSpec)

/-- ITS FALSE NEIGHBOUR: 'it returns false'. Refute it at one input. -/
def fnExactSizesWrong : ChangeSpec := { name := "fnExactSizes", fn := fun _ => fun
  | [d] => { results := [.lit (.bool false)], args := [d] }
  | _ => none }
def FnExactSizesWrongFalsely : Prop := fnExactSizesRow.holds Try.pinned (OpenSpec.ofChange fnExactSizesWrong)

/-- 'laws.FnDecides': WHATEVER THE INPUT: true; the input reads as it did. -/
def fnDecidesSpec : ChangeSpec := { name := "fnDecides", fn := fun _ => fun
  | [d] => { results := [.lit (.bool true)], args := [d] }
  | _ => none }
def fnDecidesRow : OpenClaim := { program := "ytfmilhpneelonaa", sum := "a9fb132e132b5c168dbe36bbdb7bb6d1ff09303929e2acc78dcb6802918ec263", func := "loop.example/g00397/laws.FnDecides", spec := "fnDecides", apart := false }
def FnDecidesSaid : Prop := fnDecidesRow.holds Try.pinned (OpenSpec.ofChange fnDecidesSpec)

/-- ITS FALSE NEIGHBOUR: 'it returns false'. Refute it at one input. -/
def fnDecidesWrong : ChangeSpec := { name := "fnDecides", fn := fun _ => fun
  | [d] => { results := [.lit (.bool false)], args := [d] }
  | _ => none }
def FnDecidesWrongFalsely : Prop := fnDecidesRow.holds Try.pinned (OpenSpec.ofChange fnDecidesWrong)

/-- 'laws.FnExactRuleLines': WHATEVER THE INPUT: true; the input reads as it did. -/
def fnExactRuleLinesSpec : ChangeSpec := { name := "fnExactRuleLines", fn := fun _ => fun
  | [d1, d2, d3] => { results := [.lit (.bool true)], args := [d1, d2, d3] }
  | _ => none }
def fnExactRuleLinesRow : OpenClaim := { program := "ytfmilhpneelonaa", sum := "a9fb132e132b5c168dbe36bbdb7bb6d1ff09303929e2acc78dcb6802918ec263", func := "loop.example/g00397/laws.FnExactRuleLines", spec := "fnExactRuleLines", apart := false }
def FnExactRuleLinesSaid : Prop := fnExactRuleLinesRow.holds Try.pinned (OpenSpec.ofChange fnExactRuleLinesSpec)

/-- ITS FALSE NEIGHBOUR: 'it returns false'. Refute it at one input. -/
def fnExactRuleLinesWrong : ChangeSpec := { name := "fnExactRuleLines", fn := fun _ => fun
  | [d1, d2, d3] => { results := [.lit (.bool false)], args := [d1, d2, d3] }
  | _ => none }
def FnExactRuleLinesWrongFalsely : Prop := fnExactRuleLinesRow.holds Try.pinned (OpenSpec.ofChange fnExactRuleLinesWrong)

/-- 'laws.FnLinesTold': WHATEVER THE INPUT: true; the input reads as it did. -/
def fnLinesToldSpec : ChangeSpec := { name := "fnLinesTold", fn := fun _ => fun
  | [d] => { results := [.lit (.bool true)], args := [d] }
  | _ => none }
def fnLinesToldRow : OpenClaim := { program := "ytfmilhpneelonaa", sum := "a9fb132e132b5c168dbe36bbdb7bb6d1ff09303929e2acc78dcb6802918ec263", func := "loop.example/g00397/laws.FnLinesTold", spec := "fnLinesTold", apart := false }
def FnLinesToldSaid : Prop := fnLinesToldRow.holds Try.pinned (OpenSpec.ofChange fnLinesToldSpec)

/-- ITS FALSE NEIGHBOUR: 'it returns false'. Refute it at one input. -/
def fnLinesToldWrong : ChangeSpec := { name := "fnLinesTold", fn := fun _ => fun
  | [d] => { results := [.lit (.bool false)], args := [d] }
  | _ => none }
def FnLinesToldWrongFalsely : Prop := fnLinesToldRow.holds Try.pinned (OpenSpec.ofChange fnLinesToldWrong)

/-- 'laws.FnExactLayout': WHATEVER THE INPUT: true; the input reads as it did. -/
def fnExactLayoutSpec : ChangeSpec := { name := "fnExactLayout", fn := fun _ => fun
  | [d] => { results := [.lit (.bool true)], args := [d] }
  | _ => none }
def fnExactLayoutRow : OpenClaim := { program := "ytfmilhpneelonaa", sum := "a9fb132e132b5c168dbe36bbdb7bb6d1ff09303929e2acc78dcb6802918ec263", func := "loop.example/g00397/laws.FnExactLayout", spec := "fnExactLayout", apart := false }
def FnExactLayoutSaid : Prop := fnExactLayoutRow.holds Try.pinned (OpenSpec.ofChange fnExactLayoutSpec)

/-- ITS FALSE NEIGHBOUR: 'it returns false'. Refute it at one input. -/
def fnExactLayoutWrong : ChangeSpec := { name := "fnExactLayout", fn := fun _ => fun
  | [d] => { results := [.lit (.bool false)], args := [d] }
  | _ => none }
def FnExactLayoutWrongFalsely : Prop := fnExactLayoutRow.holds Try.pinned (OpenSpec.ofChange fnExactLayoutWrong)

/-- 'laws.FnCondLines': WHATEVER THE INPUT: true; the input reads as it did. -/
def fnCondLinesSpec : ChangeSpec := { name := "fnCondLines", fn := fun _ => fun
  | [d] => { results := [.lit (.bool true)], args := [d] }
  | _ => none }
def fnCondLinesRow : OpenClaim := { program := "ytfmilhpneelonaa", sum := "a9fb132e132b5c168dbe36bbdb7bb6d1ff09303929e2acc78dcb6802918ec263", func := "loop.example/g00397/laws.FnCondLines", spec := "fnCondLines", apart := false }
def FnCondLinesSaid : Prop := fnCondLinesRow.holds Try.pinned (OpenSpec.ofChange fnCondLinesSpec)

/-- ITS FALSE NEIGHBOUR: 'it returns false'. Refute it at one input. -/
def fnCondLinesWrong : ChangeSpec := { name := "fnCondLines", fn := fun _ => fun
  | [d] => { results := [.lit (.bool false)], args := [d] }
  | _ => none }
def FnCondLinesWrongFalsely : Prop := fnCondLinesRow.holds Try.pinned (OpenSpec.ofChange fnCondLinesWrong)

/-- 'laws.FnExactDecide': WHATEVER THE INPUT: true; the input reads as it did. -/
def fnExactDecideSpec : ChangeSpec := { name := "fnExactDecide", fn := fun _ => fun
  | [d1, d2] => { results := [.lit (.bool true)], args := [d1, d2] }
  | _ => none }
def fnExactDecideRow : OpenClaim := { program := "ytfmilhpneelonaa", sum := "a9fb132e132b5c168dbe36bbdb7bb6d1ff09303929e2acc78dcb6802918ec263", func := "loop.example/g00397/laws.FnExactDecide", spec := "fnExactDecide", apart := false }
def FnExactDecideSaid : Prop := fnExactDecideRow.holds Try.pinned (OpenSpec.ofChange fnExactDecideSpec)

/-- ITS FALSE NEIGHBOUR: 'it returns false'. Refute it at one input. -/
def fnExactDecideWrong : ChangeSpec := { name := "fnExactDecide", fn := fun _ => fun
  | [d1, d2] => { results := [.lit (.bool false)], args := [d1, d2] }
  | _ => none }
def FnExactDecideWrongFalsely : Prop := fnExactDecideRow.holds Try.pinned (OpenSpec.ofChange fnExactDecideWrong)

/-- 'laws.FnExactChainLines': WHATEVER THE INPUT: true; the input reads as it did. -/
def fnExactChainLinesSpec : ChangeSpec := { name := "fnExactChainLines", fn := fun _ => fun
  | [d1, d2, d3, d4] => { results := [.lit (.bool true)], args := [d1, d2, d3, d4] }
  | _ => none }
def fnExactChainLinesRow : OpenClaim := { program := "ytfmilhpneelonaa", sum := "a9fb132e132b5c168dbe36bbdb7bb6d1ff09303929e2acc78dcb6802918ec263", func := "loop.example/g00397/laws.FnExactChainLines", spec := "fnExactChainLines", apart := false }
def FnExactChainLinesSaid : Prop := fnExactChainLinesRow.holds Try.pinned (OpenSpec.ofChange fnExactChainLinesSpec)

/-- ITS FALSE NEIGHBOUR: 'it returns false'. Refute it at one input. -/
def fnExactChainLinesWrong : ChangeSpec := { name := "fnExactChainLines", fn := fun _ => fun
  | [d1, d2, d3, d4] => { results := [.lit (.bool false)], args := [d1, d2, d3, d4] }
  | _ => none }
def FnExactChainLinesWrongFalsely : Prop := fnExactChainLinesRow.holds Try.pinned (OpenSpec.ofChange fnExactChainLinesWrong)

/- THE SECOND FORM. 'bulk': how many values and letters a reading holds, each counted each time it is reached (what is shared counts as often as it is met; a slice's spare places count too). A statement '..UptoSaid' is the law's where the arguments, and the package variables that the reading takes, are together of bulk at most 1048576: NARROWER than '..Said'. Prove '..Said' where nothing that the law and all that it calls make is longer than what came in: it says more and counts as full. Else prove '..UptoSaid'. A law counts once. -/
mutual
def uptoBulk {H : Type} : DataW H → Nat
  | .lit (.string bytes) => bytes.length + 1
  | .lit _ => 1
  | .nil => 1
  | .ptr d => uptoBulk d + 1
  | .slice elems spare => uptoBulkAll elems + uptoBulkAll spare + 1
  | .agg parts => uptoBulkAll parts + 1
  | .iface _ d => uptoBulk d + 1
  | .map entries => uptoBulkEntries entries + 1
  | .held _ => 1
def uptoBulkAll {H : Type} : List (DataW H) → Nat
  | [] => 0
  | d :: r => uptoBulk d + uptoBulkAll r
def uptoBulkEntries {H : Type} : List (Lit × DataW H) → Nat
  | [] => 0
  | x :: r => uptoBulkEntry x + uptoBulkEntries r
def uptoBulkEntry {H : Type} : Lit × DataW H → Nat
  | (.string bytes, d) => bytes.length + uptoBulk d + 1
  | (_, d) => uptoBulk d + 1
 end
def uptoSmall : (H : Type) → List (DataW H) → Bool := fun _ ds => decide (uptoBulkAll ds ≤ 1048576)
def OpenSpec.upto (s : _root_.Go.ChangeSpec) : _root_.Go.OpenSpec := { _root_.Go.OpenSpec.ofChange s with cond := some uptoSmall }

/-- 'laws.FnConds', WHERE WHAT IT READS IS OF BULK AT MOST 1048576: true; the input reads as it did. -/
def fnCondsUptoRow : OpenClaim := { program := "ytfmilhpneelonaa", sum := "a9fb132e132b5c168dbe36bbdb7bb6d1ff09303929e2acc78dcb6802918ec263", func := "loop.example/g00397/laws.FnConds", spec := "fnConds", apart := false, narrowed := true }
def FnCondsUptoSaid : Prop := fnCondsUptoRow.holds Try.pinned (OpenSpec.upto fnCondsSpec)

/-- 'laws.FnCondLinesTold', WHERE WHAT IT READS IS OF BULK AT MOST 1048576: true; the input reads as it did. -/
def fnCondLinesToldUptoRow : OpenClaim := { program := "ytfmilhpneelonaa", sum := "a9fb132e132b5c168dbe36bbdb7bb6d1ff09303929e2acc78dcb6802918ec263", func := "loop.example/g00397/laws.FnCondLinesTold", spec := "fnCondLinesTold", apart := false, narrowed := true }
def FnCondLinesToldUptoSaid : Prop := fnCondLinesToldUptoRow.holds Try.pinned (OpenSpec.upto fnCondLinesToldSpec)

/-- 'laws.FnRingsTold', WHERE WHAT IT READS IS OF BULK AT MOST 1048576: true; the input reads as it did. -/
def fnRingsToldUptoRow : OpenClaim := { program := "ytfmilhpneelonaa", sum := "a9fb132e132b5c168dbe36bbdb7bb6d1ff09303929e2acc78dcb6802918ec263", func := "loop.example/g00397/laws.FnRingsTold", spec := "fnRingsTold", apart := false, narrowed := true }
def FnRingsToldUptoSaid : Prop := fnRingsToldUptoRow.holds Try.pinned (OpenSpec.upto fnRingsToldSpec)

/-- 'laws.FnLayouts', WHERE WHAT IT READS IS OF BULK AT MOST 1048576: true; the input reads as it did. -/
def fnLayoutsUptoRow : OpenClaim := { program := "ytfmilhpneelonaa", sum := "a9fb132e132b5c168dbe36bbdb7bb6d1ff09303929e2acc78dcb6802918ec263", func := "loop.example/g00397/laws.FnLayouts", spec := "fnLayouts", apart := false, narrowed := true }
def FnLayoutsUptoSaid : Prop := fnLayoutsUptoRow.holds Try.pinned (OpenSpec.upto fnLayoutsSpec)

/-- 'laws.FnExactSizes', WHERE WHAT IT READS IS OF BULK AT MOST 1048576: true; the input reads as it did. -/
def fnExactSizesUptoRow : OpenClaim := { program := "ytfmilhpneelonaa", sum := "a9fb132e132b5c168dbe36bbdb7bb6d1ff09303929e2acc78dcb6802918ec263", func := "loop.example/g00397/laws.FnExactSizes", spec := "fnExactSizes", apart := false, narrowed := true }
def FnExactSizesUptoSaid : Prop := fnExactSizesUptoRow.holds Try.pinned (OpenSpec.upto fnExactSizesSpec)

/-- 'laws.FnDecides', WHERE WHAT IT READS IS OF BULK AT MOST 1048576: true; the input reads as it did. -/
def fnDecidesUptoRow : OpenClaim := { program := "ytfmilhpneelonaa", sum := "a9fb132e132b5c168dbe36bbdb7bb6d1ff09303929e2acc78dcb6802918ec263", func := "loop.example/g00397/laws.FnDecides", spec := "fnDecides", apart := false, narrowed := true }
def FnDecidesUptoSaid : Prop := fnDecidesUptoRow.holds Try.pinned (OpenSpec.upto fnDecidesSpec)

/-- 'laws.FnExactRuleLines', WHERE WHAT IT READS IS OF BULK AT MOST 1048576: true; the input reads as it did. -/
def fnExactRuleLinesUptoRow : OpenClaim := { program := "ytfmilhpneelonaa", sum := "a9fb132e132b5c168dbe36bbdb7bb6d1ff09303929e2acc78dcb6802918ec263", func := "loop.example/g00397/laws.FnExactRuleLines", spec := "fnExactRuleLines", apart := false, narrowed := true }
def FnExactRuleLinesUptoSaid : Prop := fnExactRuleLinesUptoRow.holds Try.pinned (OpenSpec.upto fnExactRuleLinesSpec)

/-- 'laws.FnLinesTold', WHERE WHAT IT READS IS OF BULK AT MOST 1048576: true; the input reads as it did. -/
def fnLinesToldUptoRow : OpenClaim := { program := "ytfmilhpneelonaa", sum := "a9fb132e132b5c168dbe36bbdb7bb6d1ff09303929e2acc78dcb6802918ec263", func := "loop.example/g00397/laws.FnLinesTold", spec := "fnLinesTold", apart := false, narrowed := true }
def FnLinesToldUptoSaid : Prop := fnLinesToldUptoRow.holds Try.pinned (OpenSpec.upto fnLinesToldSpec)

/-- 'laws.FnExactLayout', WHERE WHAT IT READS IS OF BULK AT MOST 1048576: true; the input reads as it did. -/
def fnExactLayoutUptoRow : OpenClaim := { program := "ytfmilhpneelonaa", sum := "a9fb132e132b5c168dbe36bbdb7bb6d1ff09303929e2acc78dcb6802918ec263", func := "loop.example/g00397/laws.FnExactLayout", spec := "fnExactLayout", apart := false, narrowed := true }
def FnExactLayoutUptoSaid : Prop := fnExactLayoutUptoRow.holds Try.pinned (OpenSpec.upto fnExactLayoutSpec)

/-- 'laws.FnCondLines', WHERE WHAT IT READS IS OF BULK AT MOST 1048576: true; the input reads as it did. -/
def fnCondLinesUptoRow : OpenClaim := { program := "ytfmilhpneelonaa", sum := "a9fb132e132b5c168dbe36bbdb7bb6d1ff09303929e2acc78dcb6802918ec263", func := "loop.example/g00397/laws.FnCondLines", spec := "fnCondLines", apart := false, narrowed := true }
def FnCondLinesUptoSaid : Prop := fnCondLinesUptoRow.holds Try.pinned (OpenSpec.upto fnCondLinesSpec)

/-- 'laws.FnExactDecide', WHERE WHAT IT READS IS OF BULK AT MOST 1048576: true; the input reads as it did. -/
def fnExactDecideUptoRow : OpenClaim := { program := "ytfmilhpneelonaa", sum := "a9fb132e132b5c168dbe36bbdb7bb6d1ff09303929e2acc78dcb6802918ec263", func := "loop.example/g00397/laws.FnExactDecide", spec := "fnExactDecide", apart := false, narrowed := true }
def FnExactDecideUptoSaid : Prop := fnExactDecideUptoRow.holds Try.pinned (OpenSpec.upto fnExactDecideSpec)

/-- 'laws.FnExactChainLines', WHERE WHAT IT READS IS OF BULK AT MOST 1048576: true; the input reads as it did. -/
def fnExactChainLinesUptoRow : OpenClaim := { program := "ytfmilhpneelonaa", sum := "a9fb132e132b5c168dbe36bbdb7bb6d1ff09303929e2acc78dcb6802918ec263", func := "loop.example/g00397/laws.FnExactChainLines", spec := "fnExactChainLines", apart := false, narrowed := true }
def FnExactChainLinesUptoSaid : Prop := fnExactChainLinesUptoRow.holds Try.pinned (OpenSpec.upto fnExactChainLinesSpec)

end Rows
end Go.Proofs.Ytfmilhpneelonaa
