import Derived.Test.YtlmofdeakhfmhaaPFnExactRingOky4
import Derived.Test.YtlmofdeakhfmhaaPK
namespace Go.Proofs.Ytlmofdeakhfmhaa.PFnExactRingOk
set_option linter.unusedSimpArgs false
set_option linter.unusedVariables false
open Go Go.RowKit Go.Proofs.YtlmofdeakhfmhaaW.PrintWords Go.Proofs.YtlmofdeakhfmhaaW.PrintLast Go.Proofs.YtlmofdeakhfmhaaW.PK
def conv33 (a : S33) : S35 := ⟨a.f0, a.f1, a.f2, a.f3⟩
theorem rdn33 (l : List S33) (i : Nat) (h : i < l.length) : rd_T33 l (i : Int) = l[i] := getD_lt _ h
theorem rdn35 (l : List S35) (i : Nat) (h : i < l.length) : rd_T35 l (i : Int) = l[i] := getD_lt _ h
theorem toItemS_l0 (x : List S33) (hn : x.length ≤ 4611686018427387904) : ∀ (d i : Nat) (y : List S35), i + d = x.length → y.length = x.length → (∀ j, j < i → y[j]? = (x.map conv33)[j]?) → ∀ k, d < k → laws_toItemS.l0 k x y (i : Int) = some (x.map conv33)
  | 0, i, y, hi, hy, hj, k, hk => by
    obtain ⟨k, rfl⟩ : ∃ m, k = m + 1 := ⟨k - 1, by omega⟩
    simp only [laws_toItemS.l0]
    rw [if_neg (by omega)]
    refine congrArg some (List.ext_getElem? fun j => ?_)
    rcases Nat.lt_or_ge j i with h | h
    · exact hj j h
    · rw [List.getElem?_eq_none (by omega), List.getElem?_eq_none (by rw [List.length_map]; omega)]
  | d + 1, i, y, hi, hy, hj, k, hk => by
    obtain ⟨k, rfl⟩ : ∃ m, k = m + 1 := ⟨k - 1, by omega⟩
    have hlt : i < x.length := by omega
    simp only [laws_toItemS.l0]
    rw [if_pos (by omega), if_pos (by omega), rdn33 x i hlt]
    simp only [laws_toItem.f, Option.bind_some]
    rw [if_pos (by omega), wsucc hlt (by omega), Int.toNat_natCast]
    refine toItemS_l0 x hn d (i + 1) _ (by omega) (by rw [List.length_set]; exact hy) (fun j h => ?_) k (by omega)
    rcases Nat.lt_or_ge j i with h1 | h1
    · rw [List.getElem?_set_ne (by omega)]
      exact hj j h1
    · have : j = i := by omega
      subst this
      rw [List.getElem?_set_self (by omega), List.getElem?_map, List.getElem?_eq_getElem hlt]
      rfl
theorem toItemS (x : List S33) (hn : x.length ≤ 1048576) (k : Nat) (hk : x.length < k) : laws_toItemS.f k x = some (x.map conv33) := by
  unfold laws_toItemS.f
  rw [if_pos (by omega), if_pos (by omega), Int.toNat_natCast]
  exact toItemS_l0 x (by omega) x.length 0 _ (by omega) (by simp) (fun j h => by omega) k hk
theorem eqItemS_l0 (x : List S35) (hn : x.length ≤ 4611686018427387904) : ∀ (d i : Nat), i + d = x.length → ∀ k, d < k → laws_eqItemS.l0 k x x (i : Int) = some true
  | 0, i, hi, k, hk => by
    obtain ⟨k, rfl⟩ : ∃ m, k = m + 1 := ⟨k - 1, by omega⟩
    simp only [laws_eqItemS.l0]
    rw [if_neg (by omega)]
  | d + 1, i, hi, k, hk => by
    obtain ⟨k, rfl⟩ : ∃ m, k = m + 1 := ⟨k - 1, by omega⟩
    have hlt : i < x.length := by omega
    simp only [laws_eqItemS.l0]
    rw [if_pos (by omega), if_pos (by omega), if_pos (by omega), rdn35 x i hlt]
    simp only [laws_eqItem.f, if_true, Option.bind_some]
    rw [wsucc hlt (by omega)]
    exact eqItemS_l0 x hn d (i + 1) (by omega) k (by omega)
theorem eqItemS (x : List S35) (hn : x.length ≤ 4611686018427387904) (k : Nat) (hk : x.length < k) : laws_eqItemS.f k x x = some true := by
  unfold laws_eqItemS.f
  rw [if_pos rfl]
  exact eqItemS_l0 x hn x.length 0 (by omega) k hk

theorem rd_nat35 (l : List S35) (i : Nat) (h : i < l.length) : rd_T35 l (i : Int) = l[i] := getD_lt _ h
theorem inS (a b c : Int) : spec_l01In.f a b c = some (decide (b ≤ a ∧ a ≤ c)) := by
  unfold spec_l01In.f
  by_cases h : a ≥ b
  · rw [if_pos h]
    exact congrArg some (by rw [Bool.eq_iff_iff]; simp; omega)
  · rw [if_neg h]
    exact congrArg some (by rw [Bool.eq_iff_iff]; simp; omega)
theorem inI (a b c : Int) : impl_within.f a b c = some (decide (b ≤ a ∧ a ≤ c)) := inS a b c
theorem halfS (a : Int) : spec_HalfOk.f a = some (decide (0 ≤ a ∧ a ≤ 4294967295)) := by
  unfold spec_HalfOk.f
  rw [inS]
  rfl
theorem halfI (a : Int) : impl_HalfOk.f a = some (decide (0 ≤ a ∧ a ≤ 4294967295)) := halfS a
/-- A right item: a word, or a stretch. -/
def ItP (x : S35) : Prop := (x.f0 = 1 ∧ (0 ≤ x.f1 ∧ x.f1 ≤ 4294967295) ∧ (0 ≤ x.f2 ∧ x.f2 ≤ 4294967295) ∧ x.f3 = 0) ∨ (x.f0 = 2 ∧ (1 ≤ x.f3 ∧ x.f3 ≤ 1000000000) ∧ x.f1 = 0 ∧ x.f2 = 0)
instance (x : S35) : Decidable (ItP x) := by unfold ItP; infer_instance
theorem itS (x : S35) : spec_ItemOk.f x.f0 x.f1 x.f2 x.f3 = some (decide (ItP x)) := by
  have e : ∀ b : Bool, (b = true ↔ ItP x) → some b = some (decide (ItP x)) := fun b h => congrArg some (by rw [Bool.eq_iff_iff, h]; simp)
  unfold spec_ItemOk.f
  simp only [inS, halfS, Option.bind_some, decide_eq_true_eq]
  repeat' split
  all_goals (refine e _ ?_; clear e; unfold ItP; (try simp only [Bool.false_eq_true, beq_iff_eq, false_iff] at *))
  all_goals omega
theorem itI (x : S35) : impl_ItemOk.f x.f0 x.f1 x.f2 x.f3 = some (decide (ItP x)) := itS x
theorem areI (l : List S35) (hn : l.length ≤ 4611686018427387904) : ∀ (d i : Nat), i + d = l.length → ∃ b, (∀ k, d < k → impl_areItems.l0 k l (l.length : Int) (i : Int) = some b) ∧ (b = true ↔ ∀ j (h : j < l.length), i ≤ j → ItP l[j])
  | 0, i, hi => by
    refine ⟨true, fun k hk => ?_, by simp; intro j h1 h2; omega⟩
    obtain ⟨k, rfl⟩ : ∃ m, k = m + 1 := ⟨k - 1, by omega⟩
    simp only [impl_areItems.l0]
    rw [if_neg (by omega)]
  | d + 1, i, hi => by
    have hlt : i < l.length := by omega
    obtain ⟨b, hb, hbi⟩ := areI l hn d (i + 1) (by omega)
    by_cases hA : ItP l[i]
    · refine ⟨b, fun k hk => ?_, ?_⟩
      · obtain ⟨k, rfl⟩ : ∃ m, k = m + 1 := ⟨k - 1, by omega⟩
        simp only [impl_areItems.l0]
        rw [if_pos (by omega), if_pos (by omega), if_pos (by omega), rd_nat35 l i hlt, itI, wsucc hlt (by omega)]
        simp only [Option.bind_some, decide_eq_true_eq]
        rw [if_pos hA]
        exact hb k (by omega)
      · rw [hbi]
        refine ⟨fun h j hj hij => ?_, fun h j hj hij => h j hj (by omega)⟩
        rcases Nat.lt_or_ge i j with h3 | h3
        · exact h j hj (by omega)
        · have : i = j := by omega
          subst this
          exact hA
    · refine ⟨false, fun k hk => ?_, ⟨(fun h => by cases h), fun h => absurd (h i hlt (Nat.le_refl _)) hA⟩⟩
      obtain ⟨k, rfl⟩ : ∃ m, k = m + 1 := ⟨k - 1, by omega⟩
      simp only [impl_areItems.l0]
      rw [if_pos (by omega), if_pos (by omega), if_pos (by omega), rd_nat35 l i hlt, itI]
      simp only [Option.bind_some, decide_eq_true_eq]
      rw [if_neg hA]
theorem ringS_l0 (l : List S35) (a b c : Int) (hn : l.length ≤ 4611686018427387904) : ∀ (d i : Nat) (t : Int), i + d = l.length → ∃ r, (∀ k, d < k → spec_RingOk.l0 k t (i : Int) l a b c = some r) ∧ (¬ (∀ j (h : j < l.length), i ≤ j → ItP l[j]) → r = false)
  | 0, i, t, hi => by
    refine ⟨decide (t ≤ c), fun k hk => ?_, fun h => absurd (fun j h1 h2 => by omega) h⟩
    obtain ⟨k, rfl⟩ : ∃ m, k = m + 1 := ⟨k - 1, by omega⟩
    simp only [spec_RingOk.l0]
    rw [if_neg (by omega)]
  | d + 1, i, t, hi => by
    have hlt : i < l.length := by omega
    by_cases hA : ItP l[i]
    · obtain ⟨r, hr, hri⟩ := ringS_l0 l a b c hn d (i + 1) (wrap64 (t + if l[i].f0 = 2 then l[i].f3 else 1)) (by omega)
      refine ⟨r, fun k hk => ?_, fun h => hri fun h1 => h fun j hj hij => ?_⟩
      · obtain ⟨k, rfl⟩ : ∃ m, k = m + 1 := ⟨k - 1, by omega⟩
        have e : spec_l16Length.f l[i].f0 l[i].f1 l[i].f2 l[i].f3 = some (if l[i].f0 = 2 then l[i].f3 else 1) := by
          unfold spec_l16Length.f
          split <;> rfl
        simp only [spec_RingOk.l0]
        rw [if_pos (by omega), if_pos (by omega), rd_nat35 l i hlt, itS, e, wsucc hlt (by omega)]
        simp only [Option.bind_some, decide_eq_true_eq]
        rw [if_pos hA]
        exact hr k (by omega)
      · rcases Nat.lt_or_ge i j with h3 | h3
        · exact h1 j hj (by omega)
        · have : i = j := by omega
          subst this
          exact hA
    · refine ⟨false, fun k hk => ?_, fun _ => rfl⟩
      obtain ⟨k, rfl⟩ : ∃ m, k = m + 1 := ⟨k - 1, by omega⟩
      simp only [spec_RingOk.l0]
      rw [if_pos (by omega), if_pos (by omega), rd_nat35 l i hlt, itS]
      simp only [Option.bind_some, decide_eq_true_eq]
      rw [if_neg hA]
theorem ringI_l0 (l : List S35) (a b c : Int) (hn : l.length ≤ 4611686018427387904) (hl : ∀ j (h : j < l.length), ItP l[j]) : ∀ (d i : Nat) (t : Int), i + d = l.length → ∀ k, d < k → impl_RingOk.l0 k t l (l.length : Int) (i : Int) l a b c = spec_RingOk.l0 k t (i : Int) l a b c
  | 0, i, t, hi, k, hk => by
    obtain ⟨k, rfl⟩ : ∃ m, k = m + 1 := ⟨k - 1, by omega⟩
    simp only [spec_RingOk.l0, impl_RingOk.l0]
    rw [if_neg (by omega), if_neg (by omega)]
  | d + 1, i, t, hi, k, hk => by
    have hlt : i < l.length := by omega
    have hA := hl i hlt
    obtain ⟨k, rfl⟩ : ∃ m, k = m + 1 := ⟨k - 1, by omega⟩
    have e : spec_l16Length.f l[i].f0 l[i].f1 l[i].f2 l[i].f3 = some (if l[i].f0 = 2 then l[i].f3 else 1) := by
      unfold spec_l16Length.f
      split <;> rfl
    have eS : spec_RingOk.l0 (k + 1) t (i : Int) l a b c = spec_RingOk.l0 k (wrap64 (t + if l[i].f0 = 2 then l[i].f3 else 1)) ((i + 1 : Nat) : Int) l a b c := by
      simp only [spec_RingOk.l0]
      rw [if_pos (by omega), if_pos (by omega), rd_nat35 l i hlt, itS, e, wsucc hlt (by omega)]
      simp only [Option.bind_some, decide_eq_true_eq]
      rw [if_pos hA]
    rw [eS, ← ringI_l0 l a b c hn hl d (i + 1) _ (by omega) k (by omega)]
    simp only [impl_RingOk.l0]
    rw [if_pos (by omega), if_pos (by omega), if_pos (by omega), rd_nat35 l i hlt, wsucc hlt (by omega)]
    unfold ItP at hA
    by_cases h1 : l[i].f0 = 1
    · rw [if_pos h1, if_neg (by omega)]
    · rw [if_neg h1, if_pos (by omega)]
theorem ring (l : List S35) (a b c : Int) (hn : l.length ≤ 1048576) : ∃ r, (∀ k, l.length + 3 ≤ k → spec_RingOk.f k l a b c = some r) ∧ (∀ k, l.length + 3 ≤ k → impl_RingOk.f k l a b c = some r) := by
  obtain ⟨q, hq, hqi⟩ := areI l (by omega) l.length 0 (by omega)
  obtain ⟨r, hr, hri⟩ := ringS_l0 l a b c (by omega) l.length 0 b (by omega)
  have hq' : ∀ k, l.length < k → impl_areItems.f k l = some q := fun k hk => hq k hk
  by_cases h4 : (l.length : Int) > 4
  · refine ⟨false, fun k hk => ?_, fun k hk => ?_⟩
    · obtain ⟨k, rfl⟩ : ∃ m, k = m + 1 := ⟨k - 1, by omega⟩
      unfold spec_RingOk.f
      rw [if_pos h4]
      simp only [spec_RingOk.j0, if_true]
    · obtain ⟨k, rfl⟩ : ∃ m, k = m + 1 := ⟨k - 1, by omega⟩
      unfold impl_RingOk.f
      rw [if_pos h4]
      simp only [impl_RingOk.j0, if_true]
  refine ⟨if (0 ≤ a ∧ a ≤ 5) ∧ (0 ≤ b ∧ b ≤ 1000000000) ∧ (0 ≤ c ∧ c ≤ 1000000000) then r else false, fun k hk => ?_, fun k hk => ?_⟩
  · obtain ⟨k, rfl⟩ : ∃ m, k = m + 1 := ⟨k - 1, by omega⟩
    unfold spec_RingOk.f
    rw [if_neg h4]
    simp only [inS, Option.bind_some, decide_eq_true_eq, spec_RingOk.j0]
    have h := hr k (by omega)
    by_cases h1 : 0 ≤ a ∧ a ≤ 5
    · by_cases h2 : 0 ≤ b ∧ b ≤ 1000000000
      · by_cases h3 : 0 ≤ c ∧ c ≤ 1000000000
        · simp [h1, h2, h3]
          exact h
        · simp [h1, h2, h3]
      · simp [h1, h2]
    · simp [h1]
  · obtain ⟨k, rfl⟩ : ∃ m, k = m + 1 := ⟨k - 1, by omega⟩
    unfold impl_RingOk.f
    rw [if_neg h4]
    simp only [inI, Option.bind_some, decide_eq_true_eq, impl_RingOk.j0, hq' (k + 1) (by omega)]
    by_cases hP : ∀ j (h : j < l.length), ItP l[j]
    · have hq2 : q = true := hqi.2 fun j h _ => hP j h
      subst hq2
      have h := ringI_l0 l a b c (by omega) hP l.length 0 b (by omega) k (by omega)
      have h' := h.trans (hr k (by omega))
      by_cases h1 : 0 ≤ a ∧ a ≤ 5
      · by_cases h2 : 0 ≤ b ∧ b ≤ 1000000000
        · by_cases h3 : 0 ≤ c ∧ c ≤ 1000000000
          · simp [h1, h2, h3]
            exact h'
          · simp [h1, h2, h3]
        · simp [h1, h2]
      · simp [h1]
    · have hr2 : r = false := hri fun h => hP fun j hj => h j hj (Nat.zero_le _)
      have hq2 : q = false := by
        cases q
        · rfl
        · exact absurd (fun j hj => hqi.1 rfl j hj (Nat.zero_le _)) hP
      subst hr2 hq2
      simp
theorem main (l0 : List S33) (a b c : Int) (hm : l0.length ≤ 9223372036854775807) : ∃ k, laws_FnExactRingOk.f k l0 a b c = some true := by
  refine ⟨l0.length + 10, ?_⟩
  have e1 : wrap64 (1048576 - (l0.length : Int)) = 1048576 - (l0.length : Int) := w64 (by omega) (by omega)
  unfold laws_FnExactRingOk.f laws_szRing.f laws_szItemS.f
  rw [e1]
  by_cases hn : (1048576 : Int) - l0.length < 0
  · rw [if_pos hn]
    rfl
  · rw [if_neg hn]
    simp only [Option.bind_some]
    rw [if_neg hn]
    simp only [Option.bind_some]
    rw [if_neg hn]
    have hl : (l0.map conv33).length = l0.length := List.length_map _
    obtain ⟨r, rS, rI⟩ := ring (l0.map conv33) a b c (by omega)
    unfold laws_toRing.f
    simp only [toItemS l0 (by omega) (l0.length + 10) (by omega), Option.bind_some, rS (l0.length + 10) (by omega), rI (l0.length + 10) (by omega)]
    unfold laws_eqRing.f
    simp [eqItemS (l0.map conv33) (by omega) (l0.length + 10) (by omega)]
end Go.Proofs.Ytlmofdeakhfmhaa.PFnExactRingOk
