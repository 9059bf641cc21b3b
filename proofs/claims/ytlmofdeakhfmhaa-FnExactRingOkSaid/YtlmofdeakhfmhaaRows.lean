/-
  No cell of these rows narrows 'for every input' (looked for: loops, veiled, ifaces, maps, wideKeys, modest, calm, conditions, laid).
  DERIVED. THE GIVEN ROWS OF THIS SEAT. 12 by the template 'for every input the law returns true; each argument reads behind the call as it read before'; 0 by the template 'total and deterministic' (their statements: YtlmofdeakhfmhaaTotals.lean).
  GIVEN WITH THE SEED: the statements are not yours to turn. If you find one false, say at which input.
  Laid BY PROGRAM, IN A SANDBOX (cutbox-rows.mjs): the forced cells as the released guide's own fill.sh prints them over the translation 2a1c5dd1088da51d… (all of the seat's roots in one cut). By AI agents, Wed Nov 11 2026. No macro, syntax, notation, axiom, sorry.
-/
import Derived.Test.YtlmofdeakhfmhaaChecked
import GoSem.Claim
import GoSem.ClaimJoined
import GoSem.ClaimMapViews
import Derived.JoinedTies
import Derived.KernelRfl
namespace Go.Proofs.Ytlmofdeakhfmhaa
/- THE CELL 'sum', in the pinned program and in every row, IS THE sha256 OF THE DUMP (.gsa) THAT YtlmofdeakhfmhaaProg.lean LOADS. Nothing in Lean hashes anything: it is a label: what it is worth is what the hold of that sum in a sandbox is worth. -/
noncomputable def Try.pinned : Pinned := { name := "ytlmofdeakhfmhaa", sum := "2a1c5dd1088da51d4a1b91673c218c952e657dec07914a117ca14960126909be", checked := Try.checked }
namespace Rows
def none {H : Type} : Left H := { results := [], args := [] }

/-- 'laws.FnExactCondOk': WHATEVER THE INPUT: true; the input reads as it did. -/
def fnExactCondOkSpec : ChangeSpec := { name := "fnExactCondOk", fn := fun _ => fun
  | [d] => { results := [.lit (.bool true)], args := [d] }
  | _ => none }
def fnExactCondOkRow : OpenClaim := { program := "ytlmofdeakhfmhaa", sum := "2a1c5dd1088da51d4a1b91673c218c952e657dec07914a117ca14960126909be", func := "loop.example/g00397/laws.FnExactCondOk", spec := "fnExactCondOk", apart := false }
def FnExactCondOkSaid : Prop := fnExactCondOkRow.holds Try.pinned (OpenSpec.ofChange fnExactCondOkSpec)

/-- ITS FALSE NEIGHBOUR: 'it returns false'. Refute it at one input. -/
def fnExactCondOkWrong : ChangeSpec := { name := "fnExactCondOk", fn := fun _ => fun
  | [d] => { results := [.lit (.bool false)], args := [d] }
  | _ => none }
def FnExactCondOkWrongFalsely : Prop := fnExactCondOkRow.holds Try.pinned (OpenSpec.ofChange fnExactCondOkWrong)

/-- 'laws.FnExactItemOk': WHATEVER THE INPUT: true; the input reads as it did. -/
def fnExactItemOkSpec : ChangeSpec := { name := "fnExactItemOk", fn := fun _ => fun
  | [d] => { results := [.lit (.bool true)], args := [d] }
  | _ => none }
def fnExactItemOkRow : OpenClaim := { program := "ytlmofdeakhfmhaa", sum := "2a1c5dd1088da51d4a1b91673c218c952e657dec07914a117ca14960126909be", func := "loop.example/g00397/laws.FnExactItemOk", spec := "fnExactItemOk", apart := false }
def FnExactItemOkSaid : Prop := fnExactItemOkRow.holds Try.pinned (OpenSpec.ofChange fnExactItemOkSpec)

/-- ITS FALSE NEIGHBOUR: 'it returns false'. Refute it at one input. -/
def fnExactItemOkWrong : ChangeSpec := { name := "fnExactItemOk", fn := fun _ => fun
  | [d] => { results := [.lit (.bool false)], args := [d] }
  | _ => none }
def FnExactItemOkWrongFalsely : Prop := fnExactItemOkRow.holds Try.pinned (OpenSpec.ofChange fnExactItemOkWrong)

/-- 'laws.FnExactCallNames': WHATEVER THE INPUT: true; the input reads as it did. -/
def fnExactCallNamesSpec : ChangeSpec := { name := "fnExactCallNames", fn := fun _ => fun
  | [] => { results := [.lit (.bool true)], args := [] }
  | _ => none }
def fnExactCallNamesRow : OpenClaim := { program := "ytlmofdeakhfmhaa", sum := "2a1c5dd1088da51d4a1b91673c218c952e657dec07914a117ca14960126909be", func := "loop.example/g00397/laws.FnExactCallNames", spec := "fnExactCallNames", apart := false }
def FnExactCallNamesSaid : Prop := fnExactCallNamesRow.holds Try.pinned (OpenSpec.ofChange fnExactCallNamesSpec)

/-- ITS FALSE NEIGHBOUR: 'it returns false'. Refute it at one input. -/
def fnExactCallNamesWrong : ChangeSpec := { name := "fnExactCallNames", fn := fun _ => fun
  | [] => { results := [.lit (.bool false)], args := [] }
  | _ => none }
def FnExactCallNamesWrongFalsely : Prop := fnExactCallNamesRow.holds Try.pinned (OpenSpec.ofChange fnExactCallNamesWrong)

/-- 'laws.FnExactFrameOk': WHATEVER THE INPUT: true; the input reads as it did. -/
def fnExactFrameOkSpec : ChangeSpec := { name := "fnExactFrameOk", fn := fun _ => fun
  | [d] => { results := [.lit (.bool true)], args := [d] }
  | _ => none }
def fnExactFrameOkRow : OpenClaim := { program := "ytlmofdeakhfmhaa", sum := "2a1c5dd1088da51d4a1b91673c218c952e657dec07914a117ca14960126909be", func := "loop.example/g00397/laws.FnExactFrameOk", spec := "fnExactFrameOk", apart := false }
def FnExactFrameOkSaid : Prop := fnExactFrameOkRow.holds Try.pinned (OpenSpec.ofChange fnExactFrameOkSpec)

/-- ITS FALSE NEIGHBOUR: 'it returns false'. Refute it at one input. -/
def fnExactFrameOkWrong : ChangeSpec := { name := "fnExactFrameOk", fn := fun _ => fun
  | [d] => { results := [.lit (.bool false)], args := [d] }
  | _ => none }
def FnExactFrameOkWrongFalsely : Prop := fnExactFrameOkRow.holds Try.pinned (OpenSpec.ofChange fnExactFrameOkWrong)

/-- 'laws.FnExactRingNew': WHATEVER THE INPUT: true; the input reads as it did. -/
def fnExactRingNewSpec : ChangeSpec := { name := "fnExactRingNew", fn := fun _ => fun
  | [] => { results := [.lit (.bool true)], args := [] }
  | _ => none }
def fnExactRingNewRow : OpenClaim := { program := "ytlmofdeakhfmhaa", sum := "2a1c5dd1088da51d4a1b91673c218c952e657dec07914a117ca14960126909be", func := "loop.example/g00397/laws.FnExactRingNew", spec := "fnExactRingNew", apart := false }
def FnExactRingNewSaid : Prop := fnExactRingNewRow.holds Try.pinned (OpenSpec.ofChange fnExactRingNewSpec)

/-- ITS FALSE NEIGHBOUR: 'it returns false'. Refute it at one input. -/
def fnExactRingNewWrong : ChangeSpec := { name := "fnExactRingNew", fn := fun _ => fun
  | [] => { results := [.lit (.bool false)], args := [] }
  | _ => none }
def FnExactRingNewWrongFalsely : Prop := fnExactRingNewRow.holds Try.pinned (OpenSpec.ofChange fnExactRingNewWrong)

/-- 'laws.FnShorter': WHATEVER THE INPUT: true; the input reads as it did. -/
def fnShorterSpec : ChangeSpec := { name := "fnShorter", fn := fun _ => fun
  | [d] => { results := [.lit (.bool true)], args := [d] }
  | _ => none }
def fnShorterRow : OpenClaim := { program := "ytlmofdeakhfmhaa", sum := "2a1c5dd1088da51d4a1b91673c218c952e657dec07914a117ca14960126909be", func := "loop.example/g00397/laws.FnShorter", spec := "fnShorter", recurses := true, apart := false }
def FnShorterSaid : Prop := fnShorterRow.holds Try.pinned (OpenSpec.ofChange fnShorterSpec)

/-- ITS FALSE NEIGHBOUR: 'it returns false'. Refute it at one input. -/
def fnShorterWrong : ChangeSpec := { name := "fnShorter", fn := fun _ => fun
  | [d] => { results := [.lit (.bool false)], args := [d] }
  | _ => none }
def FnShorterWrongFalsely : Prop := fnShorterRow.holds Try.pinned (OpenSpec.ofChange fnShorterWrong)

/-- 'laws.FnExactSignText': WHATEVER THE INPUT: true; the input reads as it did. -/
def fnExactSignTextSpec : ChangeSpec := { name := "fnExactSignText", fn := fun _ => fun
  | [d] => { results := [.lit (.bool true)], args := [d] }
  | _ => none }
def fnExactSignTextRow : OpenClaim := { program := "ytlmofdeakhfmhaa", sum := "2a1c5dd1088da51d4a1b91673c218c952e657dec07914a117ca14960126909be", func := "loop.example/g00397/laws.FnExactSignText", spec := "fnExactSignText", apart := false }
def FnExactSignTextSaid : Prop := fnExactSignTextRow.holds Try.pinned (OpenSpec.ofChange fnExactSignTextSpec)

/-- ITS FALSE NEIGHBOUR: 'it returns false'. Refute it at one input. -/
def fnExactSignTextWrong : ChangeSpec := { name := "fnExactSignText", fn := fun _ => fun
  | [d] => { results := [.lit (.bool false)], args := [d] }
  | _ => none }
def FnExactSignTextWrongFalsely : Prop := fnExactSignTextRow.holds Try.pinned (OpenSpec.ofChange fnExactSignTextWrong)

/-- 'laws.FnRings': WHATEVER THE INPUT: true; the input reads as it did. -/
def fnRingsSpec : ChangeSpec := { name := "fnRings", fn := fun _ => fun
  | [d] => { results := [.lit (.bool true)], args := [d] }
  | _ => none }
def fnRingsRow : OpenClaim := { program := "ytlmofdeakhfmhaa", sum := "2a1c5dd1088da51d4a1b91673c218c952e657dec07914a117ca14960126909be", func := "loop.example/g00397/laws.FnRings", spec := "fnRings", apart := false }
def FnRingsSaid : Prop := fnRingsRow.holds Try.pinned (OpenSpec.ofChange fnRingsSpec)

/-- ITS FALSE NEIGHBOUR: 'it returns false'. Refute it at one input. -/
def fnRingsWrong : ChangeSpec := { name := "fnRings", fn := fun _ => fun
  | [d] => { results := [.lit (.bool false)], args := [d] }
  | _ => none }
def FnRingsWrongFalsely : Prop := fnRingsRow.holds Try.pinned (OpenSpec.ofChange fnRingsWrong)

/-- 'laws.FnExactRingOk': WHATEVER THE INPUT: true; the input reads as it did. -/
def fnExactRingOkSpec : ChangeSpec := { name := "fnExactRingOk", fn := fun _ => fun
  | [d] => { results := [.lit (.bool true)], args := [d] }
  | _ => none }
def fnExactRingOkRow : OpenClaim := { program := "ytlmofdeakhfmhaa", sum := "2a1c5dd1088da51d4a1b91673c218c952e657dec07914a117ca14960126909be", func := "loop.example/g00397/laws.FnExactRingOk", spec := "fnExactRingOk", apart := false }
def FnExactRingOkSaid : Prop := fnExactRingOkRow.holds Try.pinned (OpenSpec.ofChange fnExactRingOkSpec)

/-- ITS FALSE NEIGHBOUR: 'it returns false'. Refute it at one input. -/
def fnExactRingOkWrong : ChangeSpec := { name := "fnExactRingOk", fn := fun _ => fun
  | [d] => { results := [.lit (.bool false)], args := [d] }
  | _ => none }
def FnExactRingOkWrongFalsely : Prop := fnExactRingOkRow.holds Try.pinned (OpenSpec.ofChange fnExactRingOkWrong)

/-- 'laws.FnExactFrameText': WHATEVER THE INPUT: true; the input reads as it did. -/
def fnExactFrameTextSpec : ChangeSpec := { name := "fnExactFrameText", fn := fun _ => fun
  | [d] => { results := [.lit (.bool true)], args := [d] }
  | _ => none }
def fnExactFrameTextRow : OpenClaim := { program := "ytlmofdeakhfmhaa", sum := "2a1c5dd1088da51d4a1b91673c218c952e657dec07914a117ca14960126909be", func := "loop.example/g00397/laws.FnExactFrameText", spec := "fnExactFrameText", apart := false }
def FnExactFrameTextSaid : Prop := fnExactFrameTextRow.holds Try.pinned (OpenSpec.ofChange fnExactFrameTextSpec)

/-- ITS FALSE NEIGHBOUR: 'it returns false'. Refute it at one input. -/
def fnExactFrameTextWrong : ChangeSpec := { name := "fnExactFrameText", fn := fun _ => fun
  | [d] => { results := [.lit (.bool false)], args := [d] }
  | _ => none }
def FnExactFrameTextWrongFalsely : Prop := fnExactFrameTextRow.holds Try.pinned (OpenSpec.ofChange fnExactFrameTextWrong)

/-- 'laws.FnExactRefilled': WHATEVER THE INPUT: true; the input reads as it did. -/
def fnExactRefilledSpec : ChangeSpec := { name := "fnExactRefilled", fn := fun _ => fun
  | [d1, d2] => { results := [.lit (.bool true)], args := [d1, d2] }
  | _ => none }
def fnExactRefilledRow : OpenClaim := { program := "ytlmofdeakhfmhaa", sum := "2a1c5dd1088da51d4a1b91673c218c952e657dec07914a117ca14960126909be", func := "loop.example/g00397/laws.FnExactRefilled", spec := "fnExactRefilled", apart := false }
def FnExactRefilledSaid : Prop := fnExactRefilledRow.holds Try.pinned (OpenSpec.ofChange fnExactRefilledSpec)

/-- ITS FALSE NEIGHBOUR: 'it returns false'. Refute it at one input. -/
def fnExactRefilledWrong : ChangeSpec := { name := "fnExactRefilled", fn := fun _ => fun
  | [d1, d2] => { results := [.lit (.bool false)], args := [d1, d2] }
  | _ => none }
def FnExactRefilledWrongFalsely : Prop := fnExactRefilledRow.holds Try.pinned (OpenSpec.ofChange fnExactRefilledWrong)

/-- 'laws.FnExactDrained': WHATEVER THE INPUT: true; the input reads as it did. -/
def fnExactDrainedSpec : ChangeSpec := { name := "fnExactDrained", fn := fun _ => fun
  | [d] => { results := [.lit (.bool true)], args := [d] }
  | _ => none }
def fnExactDrainedRow : OpenClaim := { program := "ytlmofdeakhfmhaa", sum := "2a1c5dd1088da51d4a1b91673c218c952e657dec07914a117ca14960126909be", func := "loop.example/g00397/laws.FnExactDrained", spec := "fnExactDrained", apart := false }
def FnExactDrainedSaid : Prop := fnExactDrainedRow.holds Try.pinned (OpenSpec.ofChange fnExactDrainedSpec)

/-- ITS FALSE NEIGHBOUR: 'it returns false'. Refute it at one input. -/
def fnExactDrainedWrong : ChangeSpec := { name := "fnExactDrained", fn := fun _ => fun
  | [d] => { results := [.lit (.bool false)], args := [d] }
  | _ => none }
def FnExactDrainedWrongFalsely : Prop := fnExactDrainedRow.holds Try.pinned (OpenSpec.ofChange fnExactDrainedWrong)

/- THE SECOND FORM. 'bulk': how many values and letters a reading holds, each counted each time it is reached (what is shared counts as often as it is met; a slice's spare places count too). A statement '..UptoSaid' is the law's where the arguments, and the package variables that the reading takes, are together of bulk at most 1048576: NARROWER than '..Said'. Prove '..Said' where nothing that the law and all that it calls make is longer than what came in: it says more and counts as full. Else prove '..UptoSaid'. A law counts once. -/
mutual
def uptoBulk {H : Type} : DataW H → Nat
  | .lit (.string bytes) => bytes.length + 1
  | .lit _ => 1
  | .nil => 1
  | .ptr d => uptoBulk d + 1
  | .slice elems spare => uptoBulkAll elems + uptoBulkAll spare + 1
  | .agg parts => uptoBulkAll parts + 1
  | .iface _ d => uptoBulk d + 1
  | .map entries => uptoBulkEntries entries + 1
  | .held _ => 1
def uptoBulkAll {H : Type} : List (DataW H) → Nat
  | [] => 0
  | d :: r => uptoBulk d + uptoBulkAll r
def uptoBulkEntries {H : Type} : List (Lit × DataW H) → Nat
  | [] => 0
  | x :: r => uptoBulkEntry x + uptoBulkEntries r
def uptoBulkEntry {H : Type} : Lit × DataW H → Nat
  | (.string bytes, d) => bytes.length + uptoBulk d + 1
  | (_, d) => uptoBulk d + 1
 end
def uptoSmall : (H : Type) → List (DataW H) → Bool := fun _ ds => decide (uptoBulkAll ds ≤ 1048576)
def OpenSpec.upto (s : _root_.Go.ChangeSpec) : _root_.Go.OpenSpec := { _root_.Go.OpenSpec.ofChange s with cond := some uptoSmall }

/-- 'laws.FnExactCondOk', WHERE WHAT IT READS IS OF BULK AT MOST 1048576: true; the input reads as it did. -/
def fnExactCondOkUptoRow : OpenClaim := { program := "ytlmofdeakhfmhaa", sum := "2a1c5dd1088da51d4a1b91673c218c952e657dec07914a117ca14960126909be", func := "loop.example/g00397/laws.FnExactCondOk", spec := "fnExactCondOk", apart := false, narrowed := true }
def FnExactCondOkUptoSaid : Prop := fnExactCondOkUptoRow.holds Try.pinned (OpenSpec.upto fnExactCondOkSpec)

/-- 'laws.FnExactItemOk', WHERE WHAT IT READS IS OF BULK AT MOST 1048576: true; the input reads as it did. -/
def fnExactItemOkUptoRow : OpenClaim := { program := "ytlmofdeakhfmhaa", sum := "2a1c5dd1088da51d4a1b91673c218c952e657dec07914a117ca14960126909be", func := "loop.example/g00397/laws.FnExactItemOk", spec := "fnExactItemOk", apart := false, narrowed := true }
def FnExactItemOkUptoSaid : Prop := fnExactItemOkUptoRow.holds Try.pinned (OpenSpec.upto fnExactItemOkSpec)

/-- 'laws.FnExactCallNames', WHERE WHAT IT READS IS OF BULK AT MOST 1048576: true; the input reads as it did. -/
def fnExactCallNamesUptoRow : OpenClaim := { program := "ytlmofdeakhfmhaa", sum := "2a1c5dd1088da51d4a1b91673c218c952e657dec07914a117ca14960126909be", func := "loop.example/g00397/laws.FnExactCallNames", spec := "fnExactCallNames", apart := false, narrowed := true }
def FnExactCallNamesUptoSaid : Prop := fnExactCallNamesUptoRow.holds Try.pinned (OpenSpec.upto fnExactCallNamesSpec)

/-- 'laws.FnExactFrameOk', WHERE WHAT IT READS IS OF BULK AT MOST 1048576: true; the input reads as it did. -/
def fnExactFrameOkUptoRow : OpenClaim := { program := "ytlmofdeakhfmhaa", sum := "2a1c5dd1088da51d4a1b91673c218c952e657dec07914a117ca14960126909be", func := "loop.example/g00397/laws.FnExactFrameOk", spec := "fnExactFrameOk", apart := false, narrowed := true }
def FnExactFrameOkUptoSaid : Prop := fnExactFrameOkUptoRow.holds Try.pinned (OpenSpec.upto fnExactFrameOkSpec)

/-- 'laws.FnExactRingNew', WHERE WHAT IT READS IS OF BULK AT MOST 1048576: true; the input reads as it did. -/
def fnExactRingNewUptoRow : OpenClaim := { program := "ytlmofdeakhfmhaa", sum := "2a1c5dd1088da51d4a1b91673c218c952e657dec07914a117ca14960126909be", func := "loop.example/g00397/laws.FnExactRingNew", spec := "fnExactRingNew", apart := false, narrowed := true }
def FnExactRingNewUptoSaid : Prop := fnExactRingNewUptoRow.holds Try.pinned (OpenSpec.upto fnExactRingNewSpec)

/-- 'laws.FnShorter', WHERE WHAT IT READS IS OF BULK AT MOST 1048576: true; the input reads as it did. -/
def fnShorterUptoRow : OpenClaim := { program := "ytlmofdeakhfmhaa", sum := "2a1c5dd1088da51d4a1b91673c218c952e657dec07914a117ca14960126909be", func := "loop.example/g00397/laws.FnShorter", spec := "fnShorter", recurses := true, apart := false, narrowed := true }
def FnShorterUptoSaid : Prop := fnShorterUptoRow.holds Try.pinned (OpenSpec.upto fnShorterSpec)

/-- 'laws.FnExactSignText', WHERE WHAT IT READS IS OF BULK AT MOST 1048576: true; the input reads as it did. -/
def fnExactSignTextUptoRow : OpenClaim := { program := "ytlmofdeakhfmhaa", sum := "2a1c5dd1088da51d4a1b91673c218c952e657dec07914a117ca14960126909be", func := "loop.example/g00397/laws.FnExactSignText", spec := "fnExactSignText", apart := false, narrowed := true }
def FnExactSignTextUptoSaid : Prop := fnExactSignTextUptoRow.holds Try.pinned (OpenSpec.upto fnExactSignTextSpec)

/-- 'laws.FnRings', WHERE WHAT IT READS IS OF BULK AT MOST 1048576: true; the input reads as it did. -/
def fnRingsUptoRow : OpenClaim := { program := "ytlmofdeakhfmhaa", sum := "2a1c5dd1088da51d4a1b91673c218c952e657dec07914a117ca14960126909be", func := "loop.example/g00397/laws.FnRings", spec := "fnRings", apart := false, narrowed := true }
def FnRingsUptoSaid : Prop := fnRingsUptoRow.holds Try.pinned (OpenSpec.upto fnRingsSpec)

/-- 'laws.FnExactRingOk', WHERE WHAT IT READS IS OF BULK AT MOST 1048576: true; the input reads as it did. -/
def fnExactRingOkUptoRow : OpenClaim := { program := "ytlmofdeakhfmhaa", sum := "2a1c5dd1088da51d4a1b91673c218c952e657dec07914a117ca14960126909be", func := "loop.example/g00397/laws.FnExactRingOk", spec := "fnExactRingOk", apart := false, narrowed := true }
def FnExactRingOkUptoSaid : Prop := fnExactRingOkUptoRow.holds Try.pinned (OpenSpec.upto fnExactRingOkSpec)

/-- 'laws.FnExactFrameText', WHERE WHAT IT READS IS OF BULK AT MOST 1048576: true; the input reads as it did. -/
def fnExactFrameTextUptoRow : OpenClaim := { program := "ytlmofdeakhfmhaa", sum := "2a1c5dd1088da51d4a1b91673c218c952e657dec07914a117ca14960126909be", func := "loop.example/g00397/laws.FnExactFrameText", spec := "fnExactFrameText", apart := false, narrowed := true }
def FnExactFrameTextUptoSaid : Prop := fnExactFrameTextUptoRow.holds Try.pinned (OpenSpec.upto fnExactFrameTextSpec)

/-- 'laws.FnExactRefilled', WHERE WHAT IT READS IS OF BULK AT MOST 1048576: true; the input reads as it did. -/
def fnExactRefilledUptoRow : OpenClaim := { program := "ytlmofdeakhfmhaa", sum := "2a1c5dd1088da51d4a1b91673c218c952e657dec07914a117ca14960126909be", func := "loop.example/g00397/laws.FnExactRefilled", spec := "fnExactRefilled", apart := false, narrowed := true }
def FnExactRefilledUptoSaid : Prop := fnExactRefilledUptoRow.holds Try.pinned (OpenSpec.upto fnExactRefilledSpec)

/-- 'laws.FnExactDrained', WHERE WHAT IT READS IS OF BULK AT MOST 1048576: true; the input reads as it did. -/
def fnExactDrainedUptoRow : OpenClaim := { program := "ytlmofdeakhfmhaa", sum := "2a1c5dd1088da51d4a1b91673c218c952e657dec07914a117ca14960126909be", func := "loop.example/g00397/laws.FnExactDrained", spec := "fnExactDrained", apart := false, narrowed := true }
def FnExactDrainedUptoSaid : Prop := fnExactDrainedUptoRow.holds Try.pinned (OpenSpec.upto fnExactDrainedSpec)

end Rows
end Go.Proofs.Ytlmofdeakhfmhaa
