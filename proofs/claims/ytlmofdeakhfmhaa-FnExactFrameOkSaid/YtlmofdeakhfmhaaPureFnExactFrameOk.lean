/- The program's FrameOk and the reference's are the same function of a frame's seven numbers: the pure statement of this law. -/
import Derived.Test.YtlmofdeakhfmhaaPFnExactFrameOky3
namespace Go.Proofs.Ytlmofdeakhfmhaa.Pure
open Go Go.RowKit Go.Proofs.Ytlmofdeakhfmhaa.PFnExactFrameOk Go.Proofs.YtlmofdeakhfmhaaW.PrintWords Go.Proofs.YtlmofdeakhfmhaaW.PrintLast
theorem inS (a b c : Int) : spec_l01In.f a b c = some (decide (a ≥ b) && decide (a ≤ c)) := by
 unfold spec_l01In.f
 by_cases h : a ≥ b <;> simp [h]
theorem halfS (a : Int) : spec_HalfOk.f a = some (decide (a ≥ 0) && decide (a ≤ 4294967295)) := by
 unfold spec_HalfOk.f
 rw [inS]
 rfl
theorem itemS (a b c d : Int) : ∃ t, spec_ItemOk.f a b c d = some t := by
 unfold spec_ItemOk.f
 simp only [inS, halfS, Option.bind_some]
 split
 ·split
  ·split <;> exact ⟨_, rfl⟩
  ·exact ⟨_, rfl⟩
 ·split
  ·split
   ·split <;> exact ⟨_, rfl⟩
   ·exact ⟨_, rfl⟩
  ·exact ⟨_, rfl⟩
theorem pidS (a : Int) : impl_isPid.f a = spec_l01In.f a 0 2 := by
 have h : impl_within.f a 0 2 = spec_l01In.f a 0 2 := rfl
 unfold impl_isPid.f
 rw [h, inS]
 rfl
theorem joinS (b : Bool) (k p s c d e f : Int) : ∃ t, spec_FrameOk.j0 1 b k p s c d e f = some t := by
 obtain ⟨u, hu⟩ := itemS c d e f
 unfold spec_FrameOk.j0
 simp only [hu, Option.bind_some]
 split
 ·exact ⟨_, rfl⟩
 ·split
  ·exact ⟨_, rfl⟩
  ·split <;> exact ⟨_, rfl⟩
theorem frameS (k p s c d e f : Int) : ∃ t, spec_FrameOk.f 1 k p s c d e f = some t := by
 unfold spec_FrameOk.f
 simp only [inS, Option.bind_some]
 split
 ·exact joinS _ _ _ _ _ _ _ _
 ·exact joinS _ _ _ _ _ _ _ _
theorem frameI (k p s c d e f : Int) : impl_FrameOk.f 1 k p s c d e f = spec_FrameOk.f 1 k p s c d e f := by
 unfold impl_FrameOk.f spec_FrameOk.f
 rw [pidS]
 rfl
theorem FnExactFrameOk : ∀ (a0_0 : Int) (a0_1 : Int) (a0_2 : Int) (a0_3 : Int) (a0_4 : Int) (a0_5 : Int) (a0_6 : Int), ((Lit.int .i64 a0_0).wf = true ∧ (Lit.int .i64 a0_1).wf = true ∧ (Lit.int .i64 a0_2).wf = true ∧ ((Lit.int .i64 a0_3).wf = true ∧ (Lit.int .i64 a0_4).wf = true ∧ (Lit.int .i64 a0_5).wf = true ∧ (Lit.int .i64 a0_6).wf = true)) → ∃ k, laws_FnExactFrameOk.f k a0_0 a0_1 a0_2 a0_3 a0_4 a0_5 a0_6 = some true := by
 intro a b c d e f g _
 obtain ⟨t, ht⟩ := frameS a b c d e f g
 refine ⟨1, ?_⟩
 unfold laws_FnExactFrameOk.f
 simp [laws_toFrame.f, laws_toItem.f, frameI, ht]
end Go.Proofs.Ytlmofdeakhfmhaa.Pure
