/-
  No cell of these rows narrows 'for every input' (looked for: loops, veiled, ifaces, maps, wideKeys, modest, calm, conditions, laid).
  DERIVED. THE GIVEN ROWS OF THIS SEAT. 9 by the template 'for every input the law returns true; each argument reads behind the call as it read before'; 0 by the template 'total and deterministic' (their statements: YtlgndgjbfjefpaaTotals.lean).
  GIVEN WITH THE SEED: the statements are not yours to turn. If you find one false, say at which input.
  Laid BY PROGRAM, IN A SANDBOX (cutbox-rows.mjs): the forced cells as the released guide's own fill.sh prints them over the translation 0e804f8fcd7b1a3f… (all of the seat's roots in one cut). By AI agents, Wed Nov 11 2026. No macro, syntax, notation, axiom, sorry.
-/
import Derived.Test.YtlgndgjbfjefpaaChecked
import GoSem.Claim
import GoSem.ClaimJoined
import GoSem.ClaimMapViews
import Derived.JoinedTies
import Derived.KernelRfl
namespace Go.Proofs.Ytlgndgjbfjefpaa
/- THE CELL 'sum', in the pinned program and in every row, IS THE sha256 OF THE DUMP (.gsa) THAT YtlgndgjbfjefpaaProg.lean LOADS. Nothing in Lean hashes anything: it is a label: what it is worth is what the hold of that sum in a sandbox is worth. -/
noncomputable def Try.pinned : Pinned := { name := "ytlgndgjbfjefpaa", sum := "0e804f8fcd7b1a3f7eaf996df6cbffb410eb38d30662d866dc80142450c8ed55", checked := Try.checked }
namespace Rows
def none {H : Type} : Left H := { results := [], args := [] }

/-- 'laws.FnRings': WHATEVER THE INPUT: true; the input reads as it did. -/
def fnRingsSpec : ChangeSpec := { name := "fnRings", fn := fun _ => fun
  | [d] => { results := [.lit (.bool true)], args := [d] }
  | _ => none }
def fnRingsRow : OpenClaim := { program := "ytlgndgjbfjefpaa", sum := "0e804f8fcd7b1a3f7eaf996df6cbffb410eb38d30662d866dc80142450c8ed55", func := "loop.example/g00397/laws.FnRings", spec := "fnRings", apart := false }
def FnRingsSaid : Prop := fnRingsRow.holds Try.pinned (OpenSpec.ofChange fnRingsSpec)

/-- ITS FALSE NEIGHBOUR: 'it returns false'. Refute it at one input. -/
def fnRingsWrong : ChangeSpec := { name := "fnRings", fn := fun _ => fun
  | [d] => { results := [.lit (.bool false)], args := [d] }
  | _ => none }
def FnRingsWrongFalsely : Prop := fnRingsRow.holds Try.pinned (OpenSpec.ofChange fnRingsWrong)

/-- 'laws.FnRingsTold': WHATEVER THE INPUT: true; the input reads as it did. -/
def fnRingsToldSpec : ChangeSpec := { name := "fnRingsTold", fn := fun _ => fun
  | [d] => { results := [.lit (.bool true)], args := [d] }
  | _ => none }
def fnRingsToldRow : OpenClaim := { program := "ytlgndgjbfjefpaa", sum := "0e804f8fcd7b1a3f7eaf996df6cbffb410eb38d30662d866dc80142450c8ed55", func := "loop.example/g00397/laws.FnRingsTold", spec := "fnRingsTold", apart := false }
def FnRingsToldSaid : Prop := fnRingsToldRow.holds Try.pinned (OpenSpec.ofChange fnRingsToldSpec)

/-- ITS FALSE NEIGHBOUR: 'it returns false'. Refute it at one input. -/
def fnRingsToldWrong : ChangeSpec := { name := "fnRingsTold", fn := fun _ => fun
  | [d] => { results := [.lit (.bool false)], args := [d] }
  | _ => none }
def FnRingsToldWrongFalsely : Prop := fnRingsToldRow.holds Try.pinned (OpenSpec.ofChange fnRingsToldWrong)

/-- 'laws.FnConds': WHATEVER THE INPUT: true; the input reads as it did. -/
def fnCondsSpec : ChangeSpec := { name := "fnConds", fn := fun _ => fun
  | [d] => { results := [.lit (.bool true)], args := [d] }
  | _ => none }
def fnCondsRow : OpenClaim := { program := "ytlgndgjbfjefpaa", sum := "0e804f8fcd7b1a3f7eaf996df6cbffb410eb38d30662d866dc80142450c8ed55", func := "loop.example/g00397/laws.FnConds", spec := "fnConds", apart := false }
def FnCondsSaid : Prop := fnCondsRow.holds Try.pinned (OpenSpec.ofChange fnCondsSpec)

/-- ITS FALSE NEIGHBOUR: 'it returns false'. Refute it at one input. -/
def fnCondsWrong : ChangeSpec := { name := "fnConds", fn := fun _ => fun
  | [d] => { results := [.lit (.bool false)], args := [d] }
  | _ => none }
def FnCondsWrongFalsely : Prop := fnCondsRow.holds Try.pinned (OpenSpec.ofChange fnCondsWrong)

/-- 'laws.FnCondLinesTold': WHATEVER THE INPUT: true; the input reads as it did. -/
def fnCondLinesToldSpec : ChangeSpec := { name := "fnCondLinesTold", fn := fun _ => fun
  | [d] => { results := [.lit (.bool true)], args := [d] }
  | _ => none }
def fnCondLinesToldRow : OpenClaim := { program := "ytlgndgjbfjefpaa", sum := "0e804f8fcd7b1a3f7eaf996df6cbffb410eb38d30662d866dc80142450c8ed55", func := "loop.example/g00397/laws.FnCondLinesTold", spec := "fnCondLinesTold", apart := false }
def FnCondLinesToldSaid : Prop := fnCondLinesToldRow.holds Try.pinned (OpenSpec.ofChange fnCondLinesToldSpec)

/-- ITS FALSE NEIGHBOUR: 'it returns false'. Refute it at one input. -/
def fnCondLinesToldWrong : ChangeSpec := { name := "fnCondLinesTold", fn := fun _ => fun
  | [d] => { results := [.lit (.bool false)], args := [d] }
  | _ => none }
def FnCondLinesToldWrongFalsely : Prop := fnCondLinesToldRow.holds Try.pinned (OpenSpec.ofChange fnCondLinesToldWrong)

/-- 'laws.FnDecides': WHATEVER THE INPUT: true; the input reads as it did. -/
def fnDecidesSpec : ChangeSpec := { name := "fnDecides", fn := fun _ => fun
  | [d] => { results := [.lit (.bool true)], args := [d] }
  | _ => none }
def fnDecidesRow : OpenClaim := { program := "ytlgndgjbfjefpaa", sum := "0e804f8fcd7b1a3f7eaf996df6cbffb410eb38d30662d866dc80142450c8ed55", func := "loop.example/g00397/laws.FnDecides", spec := "fnDecides", apart := false }
def FnDecidesSaid : Prop := fnDecidesRow.holds Try.pinned (OpenSpec.ofChange fnDecidesSpec)

/-- ITS FALSE NEIGHBOUR: 'it returns false'. Refute it at one input. -/
def fnDecidesWrong : ChangeSpec := { name := "fnDecides", fn := fun _ => fun
  | [d] => { results := [.lit (.bool false)], args := [d] }
  | _ => none }
def FnDecidesWrongFalsely : Prop := fnDecidesRow.holds Try.pinned (OpenSpec.ofChange fnDecidesWrong)

/-- 'laws.FnLinesTold': WHATEVER THE INPUT: true; the input reads as it did. -/
def fnLinesToldSpec : ChangeSpec := { name := "fnLinesTold", fn := fun _ => fun
  | [d] => { results := [.lit (.bool true)], args := [d] }
  | _ => none }
def fnLinesToldRow : OpenClaim := { program := "ytlgndgjbfjefpaa", sum := "0e804f8fcd7b1a3f7eaf996df6cbffb410eb38d30662d866dc80142450c8ed55", func := "loop.example/g00397/laws.FnLinesTold", spec := "fnLinesTold", apart := false }
def FnLinesToldSaid : Prop := fnLinesToldRow.holds Try.pinned (OpenSpec.ofChange fnLinesToldSpec)

/-- ITS FALSE NEIGHBOUR: 'it returns false'. Refute it at one input. -/
def fnLinesToldWrong : ChangeSpec := { name := "fnLinesTold", fn := fun _ => fun
  | [d] => { results := [.lit (.bool false)], args := [d] }
  | _ => none }
def FnLinesToldWrongFalsely : Prop := fnLinesToldRow.holds Try.pinned (OpenSpec.ofChange fnLinesToldWrong)

/-- 'laws.FnLayouts': WHATEVER THE INPUT: true; the input reads as it did. -/
def fnLayoutsSpec : ChangeSpec := { name := "fnLayouts", fn := fun _ => fun
  | [d] => { results := [.lit (.bool true)], args := [d] }
  | _ => none }
def fnLayoutsRow : OpenClaim := { program := "ytlgndgjbfjefpaa", sum := "0e804f8fcd7b1a3f7eaf996df6cbffb410eb38d30662d866dc80142450c8ed55", func := "loop.example/g00397/laws.FnLayouts", spec := "fnLayouts", apart := false }
def FnLayoutsSaid : Prop := fnLayoutsRow.holds Try.pinned (OpenSpec.ofChange fnLayoutsSpec)

/-- ITS FALSE NEIGHBOUR: 'it returns false'. Refute it at one input. -/
def fnLayoutsWrong : ChangeSpec := { name := "fnLayouts", fn := fun _ => fun
  | [d] => { results := [.lit (.bool false)], args := [d] }
  | _ => none }
def FnLayoutsWrongFalsely : Prop := fnLayoutsRow.holds Try.pinned (OpenSpec.ofChange fnLayoutsWrong)

/-- 'laws.FnCondLines': WHATEVER THE INPUT: true; the input reads as it did. -/
def fnCondLinesSpec : ChangeSpec := { name := "fnCondLines", fn := fun _ => fun
  | [d] => { results := [.lit (.bool true)], args := [d] }
  | _ => none }
def fnCondLinesRow : OpenClaim := { program := "ytlgndgjbfjefpaa", sum := "0e804f8fcd7b1a3f7eaf996df6cbffb410eb38d30662d866dc80142450c8ed55", func := "loop.example/g00397/laws.FnCondLines", spec := "fnCondLines", apart := false }
def FnCondLinesSaid : Prop := fnCondLinesRow.holds Try.pinned (OpenSpec.ofChange fnCondLinesSpec)

/-- ITS FALSE NEIGHBOUR: 'it returns false'. Refute it at one input. -/
def fnCondLinesWrong : ChangeSpec := { name := "fnCondLines", fn := fun _ => fun
  | [d] => { results := [.lit (.bool false)], args := [d] }
  | _ => none }
def FnCondLinesWrongFalsely : Prop := fnCondLinesRow.holds Try.pinned (OpenSpec.ofChange fnCondLinesWrong)

/-- 'laws.FnSigns': WHATEVER THE INPUT: true; the input reads as it did. -/
def fnSignsSpec : ChangeSpec := { name := "fnSigns", fn := fun _ => fun
  | [d] => { results := [.lit (.bool true)], args := [d] }
  | _ => none }
def fnSignsRow : OpenClaim := { program := "ytlgndgjbfjefpaa", sum := "0e804f8fcd7b1a3f7eaf996df6cbffb410eb38d30662d866dc80142450c8ed55", func := "loop.example/g00397/laws.FnSigns", spec := "fnSigns", unfollowed := true, recurses := true, apart := false }
def FnSignsSaid : Prop := fnSignsRow.holds Try.pinned (OpenSpec.ofChange fnSignsSpec)

/-- ITS FALSE NEIGHBOUR: 'it returns false'. Refute it at one input. -/
def fnSignsWrong : ChangeSpec := { name := "fnSigns", fn := fun _ => fun
  | [d] => { results := [.lit (.bool false)], args := [d] }
  | _ => none }
def FnSignsWrongFalsely : Prop := fnSignsRow.holds Try.pinned (OpenSpec.ofChange fnSignsWrong)

/- THE SECOND FORM. 'bulk': how many values and letters a reading holds, each counted each time it is reached (what is shared counts as often as it is met; a slice's spare places count too). A statement '..UptoSaid' is the law's where the arguments, and the package variables that the reading takes, are together of bulk at most 1048576: NARROWER than '..Said'. Prove '..Said' where nothing that the law and all that it calls make is longer than what came in: it says more and counts as full. Else prove '..UptoSaid'. A law counts once. -/
mutual
def uptoBulk {H : Type} : DataW H → Nat
  | .lit (.string bytes) => bytes.length + 1
  | .lit _ => 1
  | .nil => 1
  | .ptr d => uptoBulk d + 1
  | .slice elems spare => uptoBulkAll elems + uptoBulkAll spare + 1
  | .agg parts => uptoBulkAll parts + 1
  | .iface _ d => uptoBulk d + 1
  | .map entries => uptoBulkEntries entries + 1
  | .held _ => 1
def uptoBulkAll {H : Type} : List (DataW H) → Nat
  | [] => 0
  | d :: r => uptoBulk d + uptoBulkAll r
def uptoBulkEntries {H : Type} : List (Lit × DataW H) → Nat
  | [] => 0
  | x :: r => uptoBulkEntry x + uptoBulkEntries r
def uptoBulkEntry {H : Type} : Lit × DataW H → Nat
  | (.string bytes, d) => bytes.length + uptoBulk d + 1
  | (_, d) => uptoBulk d + 1
 end
def uptoSmall : (H : Type) → List (DataW H) → Bool := fun _ ds => decide (uptoBulkAll ds ≤ 1048576)
def OpenSpec.upto (s : _root_.Go.ChangeSpec) : _root_.Go.OpenSpec := { _root_.Go.OpenSpec.ofChange s with cond := some uptoSmall }

/-- 'laws.FnRings', WHERE WHAT IT READS IS OF BULK AT MOST 1048576: true; the input reads as it did. -/
def fnRingsUptoRow : OpenClaim := { program := "ytlgndgjbfjefpaa", sum := "0e804f8fcd7b1a3f7eaf996df6cbffb410eb38d30662d866dc80142450c8ed55", func := "loop.example/g00397/laws.FnRings", spec := "fnRings", apart := false, narrowed := true }
def FnRingsUptoSaid : Prop := fnRingsUptoRow.holds Try.pinned (OpenSpec.upto fnRingsSpec)

/-- 'laws.FnRingsTold', WHERE WHAT IT READS IS OF BULK AT MOST 1048576: true; the input reads as it did. -/
def fnRingsToldUptoRow : OpenClaim := { program := "ytlgndgjbfjefpaa", sum := "0e804f8fcd7b1a3f7eaf996df6cbffb410eb38d30662d866dc80142450c8ed55", func := "loop.example/g00397/laws.FnRingsTold", spec := "fnRingsTold", apart := false, narrowed := true }
def FnRingsToldUptoSaid : Prop := fnRingsToldUptoRow.holds Try.pinned (OpenSpec.upto fnRingsToldSpec)

/-- 'laws.FnConds', WHERE WHAT IT READS IS OF BULK AT MOST 1048576: true; the input reads as it did. -/
def fnCondsUptoRow : OpenClaim := { program := "ytlgndgjbfjefpaa", sum := "0e804f8fcd7b1a3f7eaf996df6cbffb410eb38d30662d866dc80142450c8ed55", func := "loop.example/g00397/laws.FnConds", spec := "fnConds", apart := false, narrowed := true }
def FnCondsUptoSaid : Prop := fnCondsUptoRow.holds Try.pinned (OpenSpec.upto fnCondsSpec)

/-- 'laws.FnCondLinesTold', WHERE WHAT IT READS IS OF BULK AT MOST 1048576: true; the input reads as it did. -/
def fnCondLinesToldUptoRow : OpenClaim := { program := "ytlgndgjbfjefpaa", sum := "0e804f8fcd7b1a3f7eaf996df6cbffb410eb38d30662d866dc80142450c8ed55", func := "loop.example/g00397/laws.FnCondLinesTold", spec := "fnCondLinesTold", apart := false, narrowed := true }
def FnCondLinesToldUptoSaid : Prop := fnCondLinesToldUptoRow.holds Try.pinned (OpenSpec.upto fnCondLinesToldSpec)

/-- 'laws.FnDecides', WHERE WHAT IT READS IS OF BULK AT MOST 1048576: true; the input reads as it did. -/
def fnDecidesUptoRow : OpenClaim := { program := "ytlgndgjbfjefpaa", sum := "0e804f8fcd7b1a3f7eaf996df6cbffb410eb38d30662d866dc80142450c8ed55", func := "loop.example/g00397/laws.FnDecides", spec := "fnDecides", apart := false, narrowed := true }
def FnDecidesUptoSaid : Prop := fnDecidesUptoRow.holds Try.pinned (OpenSpec.upto fnDecidesSpec)

/-- 'laws.FnLinesTold', WHERE WHAT IT READS IS OF BULK AT MOST 1048576: true; the input reads as it did. -/
def fnLinesToldUptoRow : OpenClaim := { program := "ytlgndgjbfjefpaa", sum := "0e804f8fcd7b1a3f7eaf996df6cbffb410eb38d30662d866dc80142450c8ed55", func := "loop.example/g00397/laws.FnLinesTold", spec := "fnLinesTold", apart := false, narrowed := true }
def FnLinesToldUptoSaid : Prop := fnLinesToldUptoRow.holds Try.pinned (OpenSpec.upto fnLinesToldSpec)

/-- 'laws.FnLayouts', WHERE WHAT IT READS IS OF BULK AT MOST 1048576: true; the input reads as it did. -/
def fnLayoutsUptoRow : OpenClaim := { program := "ytlgndgjbfjefpaa", sum := "0e804f8fcd7b1a3f7eaf996df6cbffb410eb38d30662d866dc80142450c8ed55", func := "loop.example/g00397/laws.FnLayouts", spec := "fnLayouts", apart := false, narrowed := true }
def FnLayoutsUptoSaid : Prop := fnLayoutsUptoRow.holds Try.pinned (OpenSpec.upto fnLayoutsSpec)

/-- 'laws.FnCondLines', WHERE WHAT IT READS IS OF BULK AT MOST 1048576: true; the input reads as it did. -/
def fnCondLinesUptoRow : OpenClaim := { program := "ytlgndgjbfjefpaa", sum := "0e804f8fcd7b1a3f7eaf996df6cbffb410eb38d30662d866dc80142450c8ed55", func := "loop.example/g00397/laws.FnCondLines", spec := "fnCondLines", apart := false, narrowed := true }
def FnCondLinesUptoSaid : Prop := fnCondLinesUptoRow.holds Try.pinned (OpenSpec.upto fnCondLinesSpec)

/-- 'laws.FnSigns', WHERE WHAT IT READS IS OF BULK AT MOST 1048576: true; the input reads as it did. -/
def fnSignsUptoRow : OpenClaim := { program := "ytlgndgjbfjefpaa", sum := "0e804f8fcd7b1a3f7eaf996df6cbffb410eb38d30662d866dc80142450c8ed55", func := "loop.example/g00397/laws.FnSigns", spec := "fnSigns", unfollowed := true, recurses := true, apart := false, narrowed := true }
def FnSignsUptoSaid : Prop := fnSignsUptoRow.holds Try.pinned (OpenSpec.upto fnSignsSpec)

end Rows
end Go.Proofs.Ytlgndgjbfjefpaa
