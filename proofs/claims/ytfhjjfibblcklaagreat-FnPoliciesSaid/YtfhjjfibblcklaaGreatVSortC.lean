/- The library's sort and compaction of a row of whole numbers that is the call's own, as the walks ask them: what the shelf proves of them, told of such a row. No conditions. -/
import Derived.Test.YtfhjjfibblcklaaGreatShelfP
import Derived.Sort.OwnSortedInts
import Derived.Test.YtfhjjfibblcklaaGreatVWMore
set_option linter.unusedVariables false
namespace Go.Proofs.YtfhjjfibblcklaaGreatW.PK
open Go Go.RowKit Go.Sort Go.Proofs.YtfhjjfibblcklaaGreatW.PrintWords Go.Proofs.YtfhjjfibblcklaaGreatW.PrintLast
theorem grow_none (w : World) : grow w #[] = w := by simp [grow]
theorem sort_own (P0_ : Nat → Prop) (u : Value) (l : List Int) (w0 w : World) (hB : Below w0.heap.size w0 w) (ho : Kd.R (Kd.int .i64) 3 w w0.heap.size P0_ u l) (hl : l.length < 4611686018427387904) :
    Calls Tryz.prog 62 #[u] w fun e w' => e = .returned (.tuple #[]) ∧ Kd.R (Kd.int .i64) 3 w' w0.heap.size (fun k_ => (P0_ k_ ∨ w.heap.size ≤ k_)) u (l.mergeSort fun x y => decide (x ≤ y)) ∧ Below w0.heap.size w0 w' ∧ Kept w w' (fun k_ => P0_ k_) := by
  have own := Kd.own_of_R ho
  obtain ⟨_, h⟩ := own
  rcases h with ⟨rfl, hn⟩ | ⟨g, cap, cur, rfl, hbase, hb, h1, h2, h3, h4⟩
  · have hl : l = [] := List.eq_nil_of_length_eq_zero hn
    subst hl
    refine (show Calls Tryz.prog 62 #[.slice none 0 0] w _ from Any.slices_Sort_int_none Tryz.lays189 none 0 w).mono ?_
    rintro e w' ⟨rfl, rfl⟩
    exact ⟨rfl, by rw [show (([] : List Int).mergeSort fun x y => decide (x ≤ y)) = [] from List.mergeSort_nil]; exact Kd.R_nil _ _ _ _ _, hB, Kept.refl _ _⟩
  · have hH : Holds (Value.int .i64) w g 0 l.toArray := holds_of_blockI hb (by rw [Nat.mul_one] at h4; exact h4)
    refine (show Calls Tryz.prog 62 #[.slice (some ⟨g, 0, none⟩) l.length cap] w _ from Any.slices_Sort_int Tryz.lays189 g 0 cap l w hH (Array.getElem?_eq_some_iff.1 hb).1 hl).mono ?_
    rintro e w' ⟨rfl, q, os, hw⟩
    have htl : (l.mergeSort fun x y => decide (x ≤ y)).length = l.length := List.length_mergeSort _
    generalize (l.mergeSort fun x y => decide (x ≤ y)) = ts at hw htl
    have hg : w.grownBy w' (some g) := by rw [hw]; exact grownBy_sortedI _
    have hR : Kd.R (Kd.int .i64) 3 w' w0.heap.size (fun k_ => (P0_ k_ ∨ w.heap.size ≤ k_)) (.slice (some ⟨g, 0, none⟩) l.length cap) ts := by
      refine Kd.R_of_own ?_ (fun k hk => .inl (ho.1 k hk))
      rw [hw, htl]
      exact ownsRow_sortedI htl hbase hb h1 h2 h3
    exact ⟨rfl, hR, hB.grown hg hB.size (fun k e_ => by injection e_ with e_; subst e_; exact hbase), Kept.of_grown hg (Kept.refl _ _) (fun k e_ => .inl (ho.1 k (by rw [← e_]; rfl)))⟩

end Go.Proofs.YtfhjjfibblcklaaGreatW.PK
