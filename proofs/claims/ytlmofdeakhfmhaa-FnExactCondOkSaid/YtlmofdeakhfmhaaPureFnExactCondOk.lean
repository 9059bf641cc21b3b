/- The program's CondOk and the reference's are the same function of a condition's six numbers: the pure statement of this law. -/
import Derived.Test.YtlmofdeakhfmhaaPFnExactCondOky1
namespace Go.Proofs.Ytlmofdeakhfmhaa.Pure
open Go Go.RowKit Go.Proofs.Ytlmofdeakhfmhaa.PFnExactCondOk Go.Proofs.YtlmofdeakhfmhaaW.PrintWords Go.Proofs.YtlmofdeakhfmhaaW.PrintLast
theorem inS (a b c : Int) : spec_l01In.f a b c = some (decide (a ≥ b) && decide (a ≤ c)) := by
 unfold spec_l01In.f
 by_cases h : a ≥ b <;> simp [h]
theorem halfS (a : Int) : spec_HalfOk.f a = some (decide (a ≥ 0) && decide (a ≤ 4294967295)) := by
 unfold spec_HalfOk.f
 rw [inS]
 rfl
theorem wideS (a b : Int) : ∃ t, spec_WideOk.f a b = some t := by
 unfold spec_WideOk.f
 simp only [halfS, Option.bind_some]
 split <;> exact ⟨_, rfl⟩
theorem condS (a b c d e f : Int) : ∃ t, spec_CondOk.f a b c d e f = some t := by
 obtain ⟨u, hu⟩ := wideS b c
 obtain ⟨v, hv⟩ := wideS e f
 unfold spec_CondOk.f
 simp only [inS, hu, hv, Option.bind_some]
 split
 ·split
  ·split <;> exact ⟨_, rfl⟩
  ·exact ⟨_, rfl⟩
 ·exact ⟨_, rfl⟩
theorem FnExactCondOk : ∀ (a0_0 : Int) (a0_1 : Int) (a0_2 : Int) (a0_3 : Int) (a0_4 : Int) (a0_5 : Int), ((Lit.int .i64 a0_0).wf = true ∧ ((Lit.int .i64 a0_1).wf = true ∧ (Lit.int .i64 a0_2).wf = true) ∧ (Lit.int .i64 a0_3).wf = true ∧ ((Lit.int .i64 a0_4).wf = true ∧ (Lit.int .i64 a0_5).wf = true)) → laws_FnExactCondOk.f a0_0 a0_1 a0_2 a0_3 a0_4 a0_5 = some true := by
 intro a b c d e f _
 obtain ⟨t, ht⟩ := condS a b c d e f
 have hi : impl_CondOk.f a b c d e f = some t := ht
 unfold laws_FnExactCondOk.f
 simp [laws_toCond.f, laws_toWide.f, hi, ht]
end Go.Proofs.Ytlmofdeakhfmhaa.Pure
