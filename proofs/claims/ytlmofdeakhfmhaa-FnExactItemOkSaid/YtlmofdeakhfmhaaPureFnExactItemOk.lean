/- The program's ItemOk and the reference's are the same function of an item's four numbers: the pure statement of this law. -/
import Derived.Test.YtlmofdeakhfmhaaPFnExactItemOky1
namespace Go.Proofs.Ytlmofdeakhfmhaa.Pure
open Go Go.RowKit Go.Proofs.Ytlmofdeakhfmhaa.PFnExactItemOk Go.Proofs.YtlmofdeakhfmhaaW.PrintWords Go.Proofs.YtlmofdeakhfmhaaW.PrintLast
theorem inS (a b c : Int) : spec_l01In.f a b c = some (decide (a ≥ b) && decide (a ≤ c)) := by
 unfold spec_l01In.f
 by_cases h : a ≥ b <;> simp [h]
theorem halfS (a : Int) : spec_HalfOk.f a = some (decide (a ≥ 0) && decide (a ≤ 4294967295)) := by
 unfold spec_HalfOk.f
 rw [inS]
 rfl
theorem itemS (a b c d : Int) : ∃ t, spec_ItemOk.f a b c d = some t := by
 unfold spec_ItemOk.f
 simp only [inS, halfS, Option.bind_some]
 split
 ·split
  ·split <;> exact ⟨_, rfl⟩
  ·exact ⟨_, rfl⟩
 ·split
  ·split
   ·split <;> exact ⟨_, rfl⟩
   ·exact ⟨_, rfl⟩
  ·exact ⟨_, rfl⟩
theorem FnExactItemOk : ∀ (a0_0 : Int) (a0_1 : Int) (a0_2 : Int) (a0_3 : Int), ((Lit.int .i64 a0_0).wf = true ∧ (Lit.int .i64 a0_1).wf = true ∧ (Lit.int .i64 a0_2).wf = true ∧ (Lit.int .i64 a0_3).wf = true) → laws_FnExactItemOk.f a0_0 a0_1 a0_2 a0_3 = some true := by
 intro a b c d _
 obtain ⟨t, ht⟩ := itemS a b c d
 have hi : impl_ItemOk.f a b c d = some t := ht
 unfold laws_FnExactItemOk.f
 simp [laws_toItem.f, hi, ht]
end Go.Proofs.Ytlmofdeakhfmhaa.Pure
