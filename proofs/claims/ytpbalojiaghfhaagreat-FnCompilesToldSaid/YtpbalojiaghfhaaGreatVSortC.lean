/- The library's sort and compaction of a row of whole numbers that is the call's own, as the walks ask them: what the shelf proves of them, told of such a row. No conditions. -/
import Derived.Test.YtpbalojiaghfhaaGreatShelfP
import Derived.Sort.OwnSortedInts
import Derived.Test.YtpbalojiaghfhaaGreatVWMore
set_option linter.unusedVariables false
namespace Go.Proofs.YtpbalojiaghfhaaGreatW.PK
open Go Go.RowKit Go.Sort Go.Proofs.YtpbalojiaghfhaaGreatW.PrintWords Go.Proofs.YtpbalojiaghfhaaGreatW.PrintLast
theorem grow_none (w : World) : grow w #[] = w := by simp [grow]
theorem compact_le (zs : List Int) : (Lib.compact zs).length ≤ zs.length := by
  unfold Lib.compact Lib.compactUpTo
  rw [List.length_map]
  refine Nat.le_trans (List.length_filter_le _ _) ?_
  simp
theorem compact_own (P0_ : Nat → Prop) (u : Value) (l : List Int) (w0 w : World) (hB : Below w0.heap.size w0 w) (ho : Kd.R (Kd.int .i64) 3 w w0.heap.size P0_ u l) :
    Calls Tryz.prog 64 #[u] w fun e w' => ∃ v0_ : Value, e = .returned (v0_) ∧ Kd.R (Kd.int .i64) 3 w' w0.heap.size (fun k_ => (P0_ k_ ∨ w.heap.size ≤ k_)) v0_ (Lib.compact l) ∧ Below w0.heap.size w0 w' ∧ Kept w w' (fun k_ => P0_ k_) := by
  have own := Kd.own_of_R ho
  obtain ⟨_, h⟩ := own
  rcases h with ⟨rfl, hn⟩ | ⟨g, cap, cur, rfl, hbase, hb, h1, h2, h3, h4⟩
  · have hl : l = [] := List.eq_nil_of_length_eq_zero hn
    subst hl
    refine (show Calls Tryz.prog 64 #[.slice none 0 0] w _ from Any.slices_Compact_int_empty Tryz.lays2_20 none 0 w).mono ?_
    rintro e w' ⟨rfl, rfl⟩
    exact ⟨_, rfl, Kd.R_nil _ _ _ _ _, hB, Kept.refl _ _⟩
  · have hH : Holds (Value.int .i64) w g 0 l.toArray := holds_of_blockI hb (by rw [Nat.mul_one] at h4; exact h4)
    refine (show Calls Tryz.prog 64 #[.slice (some ⟨g, 0, none⟩) l.length cap] w _ from Any.slices_Compact_int Tryz.lays2_20 g 0 cap l w hH (Nat.le_trans h1 (Nat.le_trans h2 (by decide))) h1).mono ?_
    rintro e w' ⟨rfl, q, hw⟩
    have hc := compact_le l
    generalize hts : Lib.compact l ++ List.replicate (l.length - (Lib.compact l).length) 0 = ts at hw
    have htl : ts.length = l.length := by rw [← hts, List.length_append, List.length_replicate]; omega
    have hw2 : w' = grow (putRow (Value.int .i64) (Sort.ahead w q) g 0 ts.toArray) #[] := by rw [grow_none]; exact hw
    have hg : w.grownBy w' (some g) := by rw [hw2]; exact grownBy_sortedI _
    have hR : Kd.R (Kd.int .i64) 3 w' w0.heap.size (fun k_ => (P0_ k_ ∨ w.heap.size ≤ k_)) (.slice (some ⟨g, 0, none⟩) l.length cap) ts := by
      refine Kd.R_of_own ?_ (fun k hk => .inl (ho.1 k hk))
      rw [hw2, htl]
      exact ownsRow_sortedI htl hbase hb h1 h2 h3
    have hR2 := Kd.R_take hR (m := (Lib.compact l).length) (by omega)
    rw [← hts, List.take_left] at hR2
    refine ⟨_, rfl, hR2, hB.grown hg hB.size (fun k e_ => by injection e_ with e_; subst e_; exact hbase), Kept.of_grown hg (Kept.refl _ _) (fun k e_ => .inl (ho.1 k (by rw [← e_]; rfl)))⟩
theorem sort_own (P0_ : Nat → Prop) (u : Value) (l : List Int) (w0 w : World) (hB : Below w0.heap.size w0 w) (ho : Kd.R (Kd.int .i64) 3 w w0.heap.size P0_ u l) (hl : l.length < 4611686018427387904) :
    Calls Tryz.prog 63 #[u] w fun e w' => e = .returned (.tuple #[]) ∧ Kd.R (Kd.int .i64) 3 w' w0.heap.size (fun k_ => (P0_ k_ ∨ w.heap.size ≤ k_)) u (l.mergeSort fun x y => decide (x ≤ y)) ∧ Below w0.heap.size w0 w' ∧ Kept w w' (fun k_ => P0_ k_) := by
  have own := Kd.own_of_R ho
  obtain ⟨_, h⟩ := own
  rcases h with ⟨rfl, hn⟩ | ⟨g, cap, cur, rfl, hbase, hb, h1, h2, h3, h4⟩
  · have hl : l = [] := List.eq_nil_of_length_eq_zero hn
    subst hl
    refine (show Calls Tryz.prog 63 #[.slice none 0 0] w _ from Any.slices_Sort_int_none Tryz.lays189 none 0 w).mono ?_
    rintro e w' ⟨rfl, rfl⟩
    exact ⟨rfl, by rw [show (([] : List Int).mergeSort fun x y => decide (x ≤ y)) = [] from List.mergeSort_nil]; exact Kd.R_nil _ _ _ _ _, hB, Kept.refl _ _⟩
  · have hH : Holds (Value.int .i64) w g 0 l.toArray := holds_of_blockI hb (by rw [Nat.mul_one] at h4; exact h4)
    refine (show Calls Tryz.prog 63 #[.slice (some ⟨g, 0, none⟩) l.length cap] w _ from Any.slices_Sort_int Tryz.lays189 g 0 cap l w hH (Array.getElem?_eq_some_iff.1 hb).1 hl).mono ?_
    rintro e w' ⟨rfl, q, os, hw⟩
    have htl : (l.mergeSort fun x y => decide (x ≤ y)).length = l.length := List.length_mergeSort _
    generalize (l.mergeSort fun x y => decide (x ≤ y)) = ts at hw htl
    have hg : w.grownBy w' (some g) := by rw [hw]; exact grownBy_sortedI _
    have hR : Kd.R (Kd.int .i64) 3 w' w0.heap.size (fun k_ => (P0_ k_ ∨ w.heap.size ≤ k_)) (.slice (some ⟨g, 0, none⟩) l.length cap) ts := by
      refine Kd.R_of_own ?_ (fun k hk => .inl (ho.1 k hk))
      rw [hw, htl]
      exact ownsRow_sortedI htl hbase hb h1 h2 h3
    exact ⟨rfl, hR, hB.grown hg hB.size (fun k e_ => by injection e_ with e_; subst e_; exact hbase), Kept.of_grown hg (Kept.refl _ _) (fun k e_ => .inl (ho.1 k (by rw [← e_]; rfl)))⟩

end Go.Proofs.YtpbalojiaghfhaaGreatW.PK
