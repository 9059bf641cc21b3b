/- The pure law of FnExactOffered: what the functions of the program and of the reference come to is the same, for all arguments that the law is asked of. No conditions. -/
import Derived.Test.YtiinjipfhmgheaaPFnExactOfferedy8
import Derived.Test.YtiinjipfhmgheaaEV
set_option linter.unusedSimpArgs false
set_option linter.unusedVariables false
namespace Go.Proofs.Ytiinjipfhmgheaa.PFnExactOffered
open Go Go.RowKit Go.Proofs.YtiinjipfhmgheaaW.PrintWords Go.Proofs.YtiinjipfhmgheaaW.PrintLast Go.Proofs.YtiinjipfhmgheaaW.PK
def conv177 (a : S177) : S141 := ⟨a.f0, a.f1, a.f2, a.f3⟩
theorem rdn177 (l : List S177) (i : Nat) (h : i < l.length) : rd_T177 l (i : Int) = l[i] := getD_lt _ h
theorem rdn141 (l : List S141) (i : Nat) (h : i < l.length) : rd_T141 l (i : Int) = l[i] := getD_lt _ h
theorem toItemS_l0 (x : List S177) (hn : x.length ≤ 4611686018427387904) : ∀ (d i : Nat) (y : List S141), i + d = x.length → y.length = x.length → (∀ j, j < i → y[j]? = (x.map conv177)[j]?) → ∀ k, d < k → laws_toItemS.l0 k x y (i : Int) = some (x.map conv177)
  | 0, i, y, hi, hy, hj, k, hk => by
    obtain ⟨k, rfl⟩ : ∃ m, k = m + 1 := ⟨k - 1, by omega⟩
    simp only [laws_toItemS.l0]
    rw [if_neg (by omega)]
    refine congrArg some (List.ext_getElem? fun j => ?_)
    rcases Nat.lt_or_ge j i with h | h
    · exact hj j h
    · rw [List.getElem?_eq_none (by omega), List.getElem?_eq_none (by rw [List.length_map]; omega)]
  | d + 1, i, y, hi, hy, hj, k, hk => by
    obtain ⟨k, rfl⟩ : ∃ m, k = m + 1 := ⟨k - 1, by omega⟩
    have hlt : i < x.length := by omega
    simp only [laws_toItemS.l0]
    rw [if_pos (by omega), if_pos (by omega), rdn177 x i hlt]
    simp only [laws_toItem.f, Option.bind_some]
    rw [if_pos (by omega), wsucc hlt (by omega), Int.toNat_natCast]
    refine toItemS_l0 x hn d (i + 1) _ (by omega) (by rw [List.length_set]; exact hy) (fun j h => ?_) k (by omega)
    rcases Nat.lt_or_ge j i with h1 | h1
    · rw [List.getElem?_set_ne (by omega)]
      exact hj j h1
    · have : j = i := by omega
      subst this
      rw [List.getElem?_set_self (by omega), List.getElem?_map, List.getElem?_eq_getElem hlt]
      rfl
theorem toItemS (x : List S177) (hn : x.length ≤ 1048576) (k : Nat) (hk : x.length < k) : laws_toItemS.f k x = some (x.map conv177) := by
  unfold laws_toItemS.f
  rw [if_pos (by omega), if_pos (by omega), Int.toNat_natCast]
  exact toItemS_l0 x (by omega) x.length 0 _ (by omega) (by simp) (fun j h => by omega) k hk
theorem eqItemS_l0 (x : List S141) (hn : x.length ≤ 4611686018427387904) : ∀ (d i : Nat), i + d = x.length → ∀ k, d < k → laws_eqItemS.l0 k x x (i : Int) = some true
  | 0, i, hi, k, hk => by
    obtain ⟨k, rfl⟩ : ∃ m, k = m + 1 := ⟨k - 1, by omega⟩
    simp only [laws_eqItemS.l0]
    rw [if_neg (by omega)]
  | d + 1, i, hi, k, hk => by
    obtain ⟨k, rfl⟩ : ∃ m, k = m + 1 := ⟨k - 1, by omega⟩
    have hlt : i < x.length := by omega
    simp only [laws_eqItemS.l0]
    rw [if_pos (by omega), if_pos (by omega), if_pos (by omega), rdn141 x i hlt]
    simp only [laws_eqItem.f, if_true, Option.bind_some]
    rw [wsucc hlt (by omega)]
    exact eqItemS_l0 x hn d (i + 1) (by omega) k (by omega)
theorem eqItemS (x : List S141) (hn : x.length ≤ 4611686018427387904) (k : Nat) (hk : x.length < k) : laws_eqItemS.f k x x = some true := by
  unfold laws_eqItemS.f
  rw [if_pos rfl]
  exact eqItemS_l0 x hn x.length 0 (by omega) k hk
theorem markItemS_l0 : ∀ (d i : Nat) (x : List S141) (q : Int), i + d = x.length → 0 ≤ q → q + 4 * d ≤ 4611686018427387904 → x.length ≤ 4611686018427387904 → ∃ y, (∀ k, d < k → laws_markItemS.l0 k x q (i : Int) = some (q + 4 * d, y)) ∧ y.length = x.length ∧ (∀ j, j < i → y[j]? = x[j]?) ∧ ∀ j, i ≤ j → j < x.length → y[j]? = some ⟨q + 4 * ((j : Int) - i), q + 4 * ((j : Int) - i) + 1, q + 4 * ((j : Int) - i) + 2, q + 4 * ((j : Int) - i) + 3⟩
  | 0, i, x, q, hi, hq, hb, hl => by
    refine ⟨x, fun k hk => ?_, rfl, fun _ _ => rfl, fun j h1 h2 => by omega⟩
    obtain ⟨k, rfl⟩ : ∃ m, k = m + 1 := ⟨k - 1, by omega⟩
    simp only [laws_markItemS.l0]
    rw [if_neg (by omega)]
    simp
  | d + 1, i, x, q, hi, hq, hb, hl => by
    have hlt : i < x.length := by omega
    obtain ⟨y, hy, hyl, hy1, hy2⟩ := markItemS_l0 d (i + 1) (x.set i ⟨q, q + 1, q + 2, q + 3⟩) (q + 4) (by rw [List.length_set]; omega) (by omega) (by omega) (by rw [List.length_set]; exact hl)
    rw [List.length_set] at hyl hy2
    refine ⟨y, fun k hk => ?_, hyl, fun j hj => ?_, fun j h1 h2 => ?_⟩
    · obtain ⟨k, rfl⟩ : ∃ m, k = m + 1 := ⟨k - 1, by omega⟩
      have w1 : wrap64 (q + 1) = q + 1 := w64 (by omega) (by omega)
      have w2 : wrap64 (q + 2) = q + 2 := w64 (by omega) (by omega)
      have w3 : wrap64 (q + 3) = q + 3 := w64 (by omega) (by omega)
      have w4 : wrap64 (q + 4) = q + 4 := w64 (by omega) (by omega)
      simp only [laws_markItemS.l0]
      rw [if_pos (by omega), if_pos (by omega)]
      have rs : ∀ v, rd_T141 (x.set i v) (i : Int) = v := fun v => by rw [rdn141 _ i (by rw [List.length_set]; exact hlt), List.getElem_set_self]
      simp only [Option.bind_some, Int.toNat_natCast, rdn141 _ i hlt, rs, List.set_set]
      simp only [w1, w2, w3, w4, Int.add_assoc, Int.reduceAdd]
      rw [wsucc hlt (by omega)]
      have h3 := hy k (by omega)
      rw [h3]
      refine congrArg some (Prod.ext ?_ rfl)
      show q + 4 + 4 * (d : Int) = q + 4 * ((d + 1 : Nat) : Int)
      omega
    · rw [hy1 j (by omega), List.getElem?_set_ne (by omega)]
    · rcases Nat.lt_or_ge i j with h3 | h3
      · rw [hy2 j (by omega) (by omega)]
        refine congrArg some ?_
        have e : q + 4 + 4 * ((j : Int) - ((i + 1 : Nat) : Int)) = q + 4 * ((j : Int) - i) := by omega
        rw [e]
      · have : i = j := by omega
        subst this
        rw [hy1 i (by omega), List.getElem?_set_self hlt]
        simp
theorem heldItemS_l0 : ∀ (d i : Nat) (x : List S141) (q : Int), i + d = x.length → 0 ≤ q → q + 4 * d ≤ 4611686018427387904 → x.length ≤ 4611686018427387904 → (∀ j, i ≤ j → j < x.length → x[j]? = some ⟨q + 4 * ((j : Int) - i), q + 4 * ((j : Int) - i) + 1, q + 4 * ((j : Int) - i) + 2, q + 4 * ((j : Int) - i) + 3⟩) → ∀ k, d < k → laws_heldItemS.l0 k x q (i : Int) = some (q + 4 * d)
  | 0, i, x, q, hi, hq, hb, hl, hx, k, hk => by
    obtain ⟨k, rfl⟩ : ∃ m, k = m + 1 := ⟨k - 1, by omega⟩
    simp only [laws_heldItemS.l0]
    rw [if_neg (by omega)]
    simp
  | d + 1, i, x, q, hi, hq, hb, hl, hx, k, hk => by
    have hlt : i < x.length := by omega
    obtain ⟨k, rfl⟩ : ∃ m, k = m + 1 := ⟨k - 1, by omega⟩
    have w1 : wrap64 (q + 1) = q + 1 := w64 (by omega) (by omega)
    have w2 : wrap64 (q + 2) = q + 2 := w64 (by omega) (by omega)
    have w3 : wrap64 (q + 3) = q + 3 := w64 (by omega) (by omega)
    have w4 : wrap64 (q + 4) = q + 4 := w64 (by omega) (by omega)
    have h0 := hx i (Nat.le_refl _) hlt
    rw [List.getElem?_eq_getElem hlt] at h0
    have h1 : x[i] = ⟨q, q + 1, q + 2, q + 3⟩ := by have := Option.some.inj h0; simpa using this
    simp only [laws_heldItemS.l0]
    rw [if_pos (by omega), if_pos (by omega), rdn141 _ i hlt, h1]
    simp only [w1, w2, w3, w4, Int.add_assoc, Int.reduceAdd, if_true]
    rw [wsucc hlt (by omega)]
    have h2 := heldItemS_l0 d (i + 1) x (q + 4) (by omega) (by omega) (by omega) hl (fun j h3 h4 => by
      rw [hx j (by omega) h4]
      have e : q + 4 + 4 * ((j : Int) - ((i + 1 : Nat) : Int)) = q + 4 * ((j : Int) - i) := by omega
      rw [e]) k (by omega)
    rw [h2]
    refine congrArg some ?_
    omega
theorem markItemS (x : List S141) (hn : x.length ≤ 140737488355328) : ∃ y q, (∀ k, x.length < k → laws_markItemS.f k x 1 = some (q, y)) ∧ (∀ k, x.length < k → laws_heldItemS.f k y 1 = some q) ∧ 0 ≤ q := by
  obtain ⟨y, hy, hyl, _, hy2⟩ := markItemS_l0 x.length 0 x 1 (by omega) (by omega) (by omega) (by omega)
  refine ⟨y, _, fun k hk => hy k hk, fun k hk => ?_, by omega⟩
  have h := heldItemS_l0 y.length 0 y 1 (by omega) (by omega) (by omega) (by omega) (fun j h1 h2 => hy2 j h1 (by omega)) k (by omega)
  rw [hyl] at h
  exact h

theorem rd_nat141 (l : List S141) (i : Nat) (h : i < l.length) : rd_T141 l (i : Int) = l[i] := getD_lt _ h
theorem inS (a b c : Int) : spec_l01In.f a b c = some (decide (b ≤ a ∧ a ≤ c)) := by
  unfold spec_l01In.f
  by_cases h : a ≥ b
  · rw [if_pos h]
    exact congrArg some (by rw [Bool.eq_iff_iff]; simp; omega)
  · rw [if_neg h]
    exact congrArg some (by rw [Bool.eq_iff_iff]; simp; omega)
theorem inI (a b c : Int) : impl_within.f a b c = some (decide (b ≤ a ∧ a ≤ c)) := inS a b c
theorem halfS (a : Int) : spec_HalfOk.f a = some (decide (0 ≤ a ∧ a ≤ 4294967295)) := by
  unfold spec_HalfOk.f
  rw [inS]
  rfl
theorem halfI (a : Int) : impl_HalfOk.f a = some (decide (0 ≤ a ∧ a ≤ 4294967295)) := halfS a
/-- A right item: a word, or a stretch. -/
def ItP (x : S141) : Prop := (x.f0 = 1 ∧ (0 ≤ x.f1 ∧ x.f1 ≤ 4294967295) ∧ (0 ≤ x.f2 ∧ x.f2 ≤ 4294967295) ∧ x.f3 = 0) ∨ (x.f0 = 2 ∧ (1 ≤ x.f3 ∧ x.f3 ≤ 1000000000) ∧ x.f1 = 0 ∧ x.f2 = 0)
instance (x : S141) : Decidable (ItP x) := by unfold ItP; infer_instance
theorem itS (x : S141) : spec_ItemOk.f x.f0 x.f1 x.f2 x.f3 = some (decide (ItP x)) := by
  have e : ∀ b : Bool, (b = true ↔ ItP x) → some b = some (decide (ItP x)) := fun b h => congrArg some (by rw [Bool.eq_iff_iff, h]; simp)
  unfold spec_ItemOk.f
  simp only [inS, halfS, Option.bind_some, decide_eq_true_eq]
  repeat' split
  all_goals (refine e _ ?_; clear e; unfold ItP; (try simp only [Bool.false_eq_true, beq_iff_eq, false_iff] at *))
  all_goals omega
theorem itI (x : S141) : impl_ItemOk.f x.f0 x.f1 x.f2 x.f3 = some (decide (ItP x)) := itS x
theorem areI (l : List S141) (hn : l.length ≤ 4611686018427387904) : ∀ (d i : Nat), i + d = l.length → ∃ b, (∀ k, d < k → impl_areItems.l0 k l (l.length : Int) (i : Int) = some b) ∧ (b = true ↔ ∀ j (h : j < l.length), i ≤ j → ItP l[j])
  | 0, i, hi => by
    refine ⟨true, fun k hk => ?_, by simp; intro j h1 h2; omega⟩
    obtain ⟨k, rfl⟩ : ∃ m, k = m + 1 := ⟨k - 1, by omega⟩
    simp only [impl_areItems.l0]
    rw [if_neg (by omega)]
  | d + 1, i, hi => by
    have hlt : i < l.length := by omega
    obtain ⟨b, hb, hbi⟩ := areI l hn d (i + 1) (by omega)
    by_cases hA : ItP l[i]
    · refine ⟨b, fun k hk => ?_, ?_⟩
      · obtain ⟨k, rfl⟩ : ∃ m, k = m + 1 := ⟨k - 1, by omega⟩
        simp only [impl_areItems.l0]
        rw [if_pos (by omega), if_pos (by omega), if_pos (by omega), rd_nat141 l i hlt, itI, wsucc hlt (by omega)]
        simp only [Option.bind_some, decide_eq_true_eq]
        rw [if_pos hA]
        exact hb k (by omega)
      · rw [hbi]
        refine ⟨fun h j hj hij => ?_, fun h j hj hij => h j hj (by omega)⟩
        rcases Nat.lt_or_ge i j with h3 | h3
        · exact h j hj (by omega)
        · have : i = j := by omega
          subst this
          exact hA
    · refine ⟨false, fun k hk => ?_, ⟨(fun h => by cases h), fun h => absurd (h i hlt (Nat.le_refl _)) hA⟩⟩
      obtain ⟨k, rfl⟩ : ∃ m, k = m + 1 := ⟨k - 1, by omega⟩
      simp only [impl_areItems.l0]
      rw [if_pos (by omega), if_pos (by omega), if_pos (by omega), rd_nat141 l i hlt, itI]
      simp only [Option.bind_some, decide_eq_true_eq]
      rw [if_neg hA]
theorem ringS_l0 (l : List S141) (a b c : Int) (hn : l.length ≤ 4611686018427387904) : ∀ (d i : Nat) (t : Int), i + d = l.length → ∃ r, (∀ k, d < k → spec_RingOk.l0 k t (i : Int) l a b c = some r) ∧ (¬ (∀ j (h : j < l.length), i ≤ j → ItP l[j]) → r = false)
  | 0, i, t, hi => by
    refine ⟨decide (t ≤ c), fun k hk => ?_, fun h => absurd (fun j h1 h2 => by omega) h⟩
    obtain ⟨k, rfl⟩ : ∃ m, k = m + 1 := ⟨k - 1, by omega⟩
    simp only [spec_RingOk.l0]
    rw [if_neg (by omega)]
  | d + 1, i, t, hi => by
    have hlt : i < l.length := by omega
    by_cases hA : ItP l[i]
    · obtain ⟨r, hr, hri⟩ := ringS_l0 l a b c hn d (i + 1) (wrap64 (t + if l[i].f0 = 2 then l[i].f3 else 1)) (by omega)
      refine ⟨r, fun k hk => ?_, fun h => hri fun h1 => h fun j hj hij => ?_⟩
      · obtain ⟨k, rfl⟩ : ∃ m, k = m + 1 := ⟨k - 1, by omega⟩
        have e : spec_l16Length.f l[i].f0 l[i].f1 l[i].f2 l[i].f3 = some (if l[i].f0 = 2 then l[i].f3 else 1) := by
          unfold spec_l16Length.f
          split <;> rfl
        simp only [spec_RingOk.l0]
        rw [if_pos (by omega), if_pos (by omega), rd_nat141 l i hlt, itS, e, wsucc hlt (by omega)]
        simp only [Option.bind_some, decide_eq_true_eq]
        rw [if_pos hA]
        exact hr k (by omega)
      · rcases Nat.lt_or_ge i j with h3 | h3
        · exact h1 j hj (by omega)
        · have : i = j := by omega
          subst this
          exact hA
    · refine ⟨false, fun k hk => ?_, fun _ => rfl⟩
      obtain ⟨k, rfl⟩ : ∃ m, k = m + 1 := ⟨k - 1, by omega⟩
      simp only [spec_RingOk.l0]
      rw [if_pos (by omega), if_pos (by omega), rd_nat141 l i hlt, itS]
      simp only [Option.bind_some, decide_eq_true_eq]
      rw [if_neg hA]
theorem ringI_l0 (l : List S141) (a b c : Int) (hn : l.length ≤ 4611686018427387904) (hl : ∀ j (h : j < l.length), ItP l[j]) : ∀ (d i : Nat) (t : Int), i + d = l.length → ∀ k, d < k → impl_RingOk.l0 k t l (l.length : Int) (i : Int) l a b c = spec_RingOk.l0 k t (i : Int) l a b c
  | 0, i, t, hi, k, hk => by
    obtain ⟨k, rfl⟩ : ∃ m, k = m + 1 := ⟨k - 1, by omega⟩
    simp only [spec_RingOk.l0, impl_RingOk.l0]
    rw [if_neg (by omega), if_neg (by omega)]
  | d + 1, i, t, hi, k, hk => by
    have hlt : i < l.length := by omega
    have hA := hl i hlt
    obtain ⟨k, rfl⟩ : ∃ m, k = m + 1 := ⟨k - 1, by omega⟩
    have e : spec_l16Length.f l[i].f0 l[i].f1 l[i].f2 l[i].f3 = some (if l[i].f0 = 2 then l[i].f3 else 1) := by
      unfold spec_l16Length.f
      split <;> rfl
    have eS : spec_RingOk.l0 (k + 1) t (i : Int) l a b c = spec_RingOk.l0 k (wrap64 (t + if l[i].f0 = 2 then l[i].f3 else 1)) ((i + 1 : Nat) : Int) l a b c := by
      simp only [spec_RingOk.l0]
      rw [if_pos (by omega), if_pos (by omega), rd_nat141 l i hlt, itS, e, wsucc hlt (by omega)]
      simp only [Option.bind_some, decide_eq_true_eq]
      rw [if_pos hA]
    rw [eS, ← ringI_l0 l a b c hn hl d (i + 1) _ (by omega) k (by omega)]
    simp only [impl_RingOk.l0]
    rw [if_pos (by omega), if_pos (by omega), if_pos (by omega), rd_nat141 l i hlt, wsucc hlt (by omega)]
    unfold ItP at hA
    by_cases h1 : l[i].f0 = 1
    · rw [if_pos h1, if_neg (by omega)]
    · rw [if_neg h1, if_pos (by omega)]
theorem ring (l : List S141) (a b c : Int) (hn : l.length ≤ 1048576) : ∃ r, (∀ k, l.length + 3 ≤ k → spec_RingOk.f k l a b c = some r) ∧ (∀ k, l.length + 3 ≤ k → impl_RingOk.f k l a b c = some r) := by
  obtain ⟨q, hq, hqi⟩ := areI l (by omega) l.length 0 (by omega)
  obtain ⟨r, hr, hri⟩ := ringS_l0 l a b c (by omega) l.length 0 b (by omega)
  have hq' : ∀ k, l.length < k → impl_areItems.f k l = some q := fun k hk => hq k hk
  by_cases h4 : (l.length : Int) > 4
  · refine ⟨false, fun k hk => ?_, fun k hk => ?_⟩
    · obtain ⟨k, rfl⟩ : ∃ m, k = m + 1 := ⟨k - 1, by omega⟩
      unfold spec_RingOk.f
      rw [if_pos h4]
      simp only [spec_RingOk.j0, if_true]
    · obtain ⟨k, rfl⟩ : ∃ m, k = m + 1 := ⟨k - 1, by omega⟩
      unfold impl_RingOk.f
      rw [if_pos h4]
      simp only [impl_RingOk.j0, if_true]
  refine ⟨if (0 ≤ a ∧ a ≤ 5) ∧ (0 ≤ b ∧ b ≤ 1000000000) ∧ (0 ≤ c ∧ c ≤ 1000000000) then r else false, fun k hk => ?_, fun k hk => ?_⟩
  · obtain ⟨k, rfl⟩ : ∃ m, k = m + 1 := ⟨k - 1, by omega⟩
    unfold spec_RingOk.f
    rw [if_neg h4]
    simp only [inS, Option.bind_some, decide_eq_true_eq, spec_RingOk.j0]
    have h := hr k (by omega)
    by_cases h1 : 0 ≤ a ∧ a ≤ 5
    · by_cases h2 : 0 ≤ b ∧ b ≤ 1000000000
      · by_cases h3 : 0 ≤ c ∧ c ≤ 1000000000
        · simp [h1, h2, h3]
          exact h
        · simp [h1, h2, h3]
      · simp [h1, h2]
    · simp [h1]
  · obtain ⟨k, rfl⟩ : ∃ m, k = m + 1 := ⟨k - 1, by omega⟩
    unfold impl_RingOk.f
    rw [if_neg h4]
    simp only [inI, Option.bind_some, decide_eq_true_eq, impl_RingOk.j0, hq' (k + 1) (by omega)]
    by_cases hP : ∀ j (h : j < l.length), ItP l[j]
    · have hq2 : q = true := hqi.2 fun j h _ => hP j h
      subst hq2
      have h := ringI_l0 l a b c (by omega) hP l.length 0 b (by omega) k (by omega)
      have h' := h.trans (hr k (by omega))
      by_cases h1 : 0 ≤ a ∧ a ≤ 5
      · by_cases h2 : 0 ≤ b ∧ b ≤ 1000000000
        · by_cases h3 : 0 ≤ c ∧ c ≤ 1000000000
          · simp [h1, h2, h3]
            exact h'
          · simp [h1, h2, h3]
        · simp [h1, h2]
      · simp [h1]
    · have hr2 : r = false := hri fun h => hP fun j hj => h j hj (Nat.zero_le _)
      have hq2 : q = false := by
        cases q
        · rfl
        · exact absurd (fun j hj => hqi.1 rfl j hj (Nat.zero_le _)) hP
      subst hr2 hq2
      simp
theorem ring_c (k : Nat) (l : List S141) (a b c : Int) (h : spec_RingOk.f k l a b c = some true) : 0 ≤ c ∧ c ≤ 1000000000 := by
  unfold spec_RingOk.f at h
  by_cases h4 : (l.length : Int) > 4
  · rw [if_pos h4] at h
    cases k <;> simp [spec_RingOk.j0] at h
  · rw [if_neg h4] at h
    simp only [inS, Option.bind_some, decide_eq_true_eq] at h
    by_cases h1 : 0 ≤ a ∧ a ≤ 5
    · by_cases h2 : 0 ≤ b ∧ b ≤ 1000000000
      · by_cases h3 : 0 ≤ c ∧ c ≤ 1000000000
        · exact h3
        · cases k <;> simp [h1, h2, h3, spec_RingOk.j0] at h
      · rw [if_pos h1, if_neg h2] at h
        cases k <;> simp [spec_RingOk.j0] at h
    · rw [if_neg h1] at h
      cases k <;> simp [spec_RingOk.j0] at h
theorem off_j2 (k : Nat) (x1 x2 : Int) (d : Bool) (l : List S141) (a b c : Int) (m : List S141) (g : Int) : impl_Offered.j2 k x1 x2 d l a b c m a b g = spec_Offered.j2 k x1 x2 d l a b c m a b g := by
  cases k <;> simp only [impl_Offered.j2, spec_Offered.j2]
theorem off_j1 (k : Nat) (x1 x2 d : Int) (l : List S141) (a b c : Int) (m : List S141) (g : Int) : impl_Offered.j1 k x1 x2 d l a b c m a b g = spec_Offered.j1 k x1 x2 d l a b c m a b g := by
  cases k <;> simp only [impl_Offered.j1, spec_Offered.j1, off_j2]
theorem off_j0 (k : Nat) (x1 x2 : Int) (d : Bool) (l : List S141) (a b c : Int) (m : List S141) : impl_Offered.j0 k x1 x2 d l a b c m a b c = spec_Offered.j0 k x1 x2 d l a b c m a b c := by
  cases k <;> simp only [impl_Offered.j0, spec_Offered.j0, off_j1]
theorem off_tot (x1 x2 : Int) (d : Bool) (l : List S141) (a b c : Int) (hn : l.length ≤ 1048576) : ∃ R : List S141 × Int × Int × Int × Bool, (∀ k, 3 ≤ k → spec_Offered.j0 k x1 x2 d l a b c l a b c = some R) ∧ R.1.length ≤ 2000000 := by
  cases d
  · by_cases hb : b > 0
    · by_cases hw : a = 0 ∨ wrap64 ((l.length : Int) + 2) > 4
      · refine ⟨(l, a, wrap64 (b + 1), wrap64 (c + 1), false), fun k hk => ?_, by show l.length ≤ _; omega⟩
        obtain ⟨k, rfl⟩ : ∃ m, k = m + 3 := ⟨k - 3, by omega⟩
        simp only [spec_Offered.j0, spec_Offered.j1, spec_Offered.j2]
        rw [if_neg (by simp), if_pos hb]
        by_cases ha : a = 0
        · rw [if_pos ha]
          simp
        · rw [if_neg ha, if_pos (by simpa [ha] using hw)]
      · have ha : a ≠ 0 := fun h => hw (.inl h)
        have hw' : ¬ wrap64 ((l.length : Int) + 2) > 4 := fun h => hw (.inr h)
        refine ⟨(l ++ [⟨2, 0, 0, b⟩] ++ [⟨1, x1, x2, 0⟩], wrap64 (a - 1), 0, wrap64 (c + 1), true), fun k hk => ?_, by simp; omega⟩
        obtain ⟨k, rfl⟩ : ∃ m, k = m + 3 := ⟨k - 3, by omega⟩
        simp only [spec_Offered.j0, spec_Offered.j1, spec_Offered.j2]
        rw [if_neg (by simp), if_pos hb, if_neg ha, if_neg (by simpa using hw'), if_pos hb, if_pos (by omega)]
        simp only [Option.bind_some]
        rw [if_pos (by simp; omega)]
    · by_cases hw : a = 0 ∨ wrap64 ((l.length : Int) + 1) > 4
      · refine ⟨(l, a, wrap64 (b + 1), wrap64 (c + 1), false), fun k hk => ?_, by show l.length ≤ _; omega⟩
        obtain ⟨k, rfl⟩ : ∃ m, k = m + 3 := ⟨k - 3, by omega⟩
        simp only [spec_Offered.j0, spec_Offered.j1, spec_Offered.j2]
        rw [if_neg (by simp), if_neg hb]
        by_cases ha : a = 0
        · rw [if_pos ha]
          simp
        · rw [if_neg ha, if_pos (by simpa [ha] using hw)]
      · have ha : a ≠ 0 := fun h => hw (.inl h)
        have hw' : ¬ wrap64 ((l.length : Int) + 1) > 4 := fun h => hw (.inr h)
        refine ⟨(l ++ [⟨1, x1, x2, 0⟩], wrap64 (a - 1), b, wrap64 (c + 1), true), fun k hk => ?_, by simp; omega⟩
        obtain ⟨k, rfl⟩ : ∃ m, k = m + 3 := ⟨k - 3, by omega⟩
        simp only [spec_Offered.j0, spec_Offered.j1, spec_Offered.j2]
        rw [if_neg (by simp), if_neg hb, if_neg ha, if_neg (by simpa using hw'), if_neg hb, if_pos (by omega)]
  · refine ⟨(l, a, b, c, false), fun k hk => ?_, by show l.length ≤ _; omega⟩
    obtain ⟨k, rfl⟩ : ∃ m, k = m + 1 := ⟨k - 1, by omega⟩
    simp only [spec_Offered.j0, if_true]
theorem offered (x1 x2 : Int) (l : List S141) (a b c : Int) (hn : l.length ≤ 1048576) : ∃ R : List S141 × Int × Int × Int × Bool, (∀ k, l.length + 10 ≤ k → spec_Offered.f k l a b c x1 x2 = some R) ∧ (∀ k, l.length + 10 ≤ k → impl_Offered.f k l a b c x1 x2 = some R) ∧ R.1.length ≤ 2000000 := by
  obtain ⟨r, rS, rI⟩ := ring l a b c hn
  have eC : (if ([] : List S141).length + l.length < 4398046511104 then some (([] : List S141) ++ l, a, b, c) else none) = some (l, a, b, c) := by rw [if_pos (by simp; omega)]; rfl
  have eC' : (if ([] : List S141).length + l.length < 4398046511104 then some (([] : List S141) ++ l) else none) = some l := by rw [if_pos (by simp; omega)]; rfl
  have fS : ∀ k, l.length + 10 ≤ k → spec_Offered.f k l a b c x1 x2 = if r = true ∧ (0 ≤ x1 ∧ x1 ≤ 4294967295) ∧ (0 ≤ x2 ∧ x2 ≤ 4294967295) then spec_Offered.j0 k x1 x2 (decide (c ≥ 1000000000)) l a b c l a b c else spec_Offered.j0 k x1 x2 true l a b c l a b c := fun k hk => by
    simp only [spec_Offered.f, spec_l16Copy.f, Option.bind_some, eC, rS k (by omega), halfS, decide_eq_true_eq]
    by_cases h1 : r = true
    · by_cases h2 : 0 ≤ x1 ∧ x1 ≤ 4294967295
      · by_cases h3 : 0 ≤ x2 ∧ x2 ≤ 4294967295
        · rw [if_pos h1, if_pos h2, if_pos h3, if_pos ⟨h1, h2, h3⟩]
        · rw [if_pos h1, if_pos h2, if_neg h3, if_neg fun h => h3 h.2.2]
      · rw [if_pos h1, if_neg h2, if_neg fun h => h2 h.2.1]
    · rw [if_neg h1, if_neg fun h => h1 h.1]
  have fI : ∀ k, l.length + 10 ≤ k → impl_Offered.f k l a b c x1 x2 = if r = true ∧ (0 ≤ x1 ∧ x1 ≤ 4294967295) ∧ (0 ≤ x2 ∧ x2 ≤ 4294967295) then spec_Offered.j0 k x1 x2 (c == 1000000000) l a b c l a b c else spec_Offered.j0 k x1 x2 true l a b c l a b c := fun k hk => by
    simp only [impl_Offered.f, impl_copyRing.f, impl_copyItems.f, Option.bind_some, eC', rI k (by omega), halfI, decide_eq_true_eq, off_j0]
    by_cases h1 : r = true
    · by_cases h2 : 0 ≤ x1 ∧ x1 ≤ 4294967295
      · by_cases h3 : 0 ≤ x2 ∧ x2 ≤ 4294967295
        · rw [if_pos h1, if_pos h2, if_pos h3, if_pos ⟨h1, h2, h3⟩]
        · rw [if_pos h1, if_pos h2, if_neg h3, if_neg fun h => h3 h.2.2]
      · rw [if_pos h1, if_neg h2, if_neg fun h => h2 h.2.1]
    · rw [if_neg h1, if_neg fun h => h1 h.1]
  by_cases hc : r = true ∧ (0 ≤ x1 ∧ x1 ≤ 4294967295) ∧ (0 ≤ x2 ∧ x2 ≤ 4294967295)
  · have hr := rS (l.length + 3) (by omega)
    rw [hc.1] at hr
    have hcc := ring_c _ l a b c hr
    have e : (c == 1000000000) = decide (c ≥ 1000000000) := by
      rw [Bool.eq_iff_iff]
      simp
      omega
    obtain ⟨R, hR, hl⟩ := off_tot x1 x2 (decide (c ≥ 1000000000)) l a b c hn
    refine ⟨R, fun k hk => ?_, fun k hk => ?_, hl⟩
    · rw [fS k hk, if_pos hc]
      exact hR k (by omega)
    · rw [fI k hk, if_pos hc, e]
      exact hR k (by omega)
  · obtain ⟨R, hR, hl⟩ := off_tot x1 x2 true l a b c hn
    refine ⟨R, fun k hk => ?_, fun k hk => ?_, hl⟩
    · rw [fS k hk, if_neg hc]
      exact hR k (by omega)
    · rw [fI k hk, if_neg hc]
      exact hR k (by omega)
theorem main (l0 : List S177) (a b c x1 x2 : Int) (hm : l0.length ≤ 9223372036854775807) : ∃ k, laws_FnExactOffered.f k l0 a b c x1 x2 = some true := by
  refine ⟨l0.length + 3000000, ?_⟩
  have e1 : wrap64 (1048576 - (l0.length : Int)) = 1048576 - (l0.length : Int) := w64 (by omega) (by omega)
  unfold laws_FnExactOffered.f laws_szRing.f laws_szItemS.f
  rw [e1]
  by_cases hn : (1048576 : Int) - l0.length < 0
  · rw [if_pos hn]
    rfl
  · rw [if_neg hn]
    simp only [Option.bind_some]
    rw [if_neg hn]
    simp only [Option.bind_some]
    rw [if_neg hn]
    have hl : (l0.map conv177).length = l0.length := List.length_map _
    have T : ∀ k, l0.length < k → laws_toRing.f k l0 a b c = some (l0.map conv177, a, b, c) := fun k hk => by
      unfold laws_toRing.f
      rw [toItemS l0 (by omega) k hk]
      rfl
    have Q : ∀ (l : List S141) (a b c : Int), l.length ≤ 2000000 → ∀ k, l.length < k → laws_eqRing.f k l a b c l a b c = some true := fun l a b c h k hk => by
      unfold laws_eqRing.f
      simp [eqItemS l (by omega) k hk]
    obtain ⟨⟨R1, R2, R3, R4, R5⟩, hS, hI, hR⟩ := offered x1 x2 (l0.map conv177) a b c (by omega)
    dsimp only at hR
    obtain ⟨y1, q1, m1, _, p1⟩ := markItemS (l0.map conv177) (by omega)
    obtain ⟨y2, q2, m2, h2, p2⟩ := markItemS R1 (by omega)
    have M1 : ∀ k, l0.length < k → laws_markRing.f k (l0.map conv177) a b c 1 = some (q1, y1) := fun k hk => by
      unfold laws_markRing.f
      rw [m1 k (by omega)]
      rfl
    have M2 : ∀ k, R1.length < k → laws_markRing.f k R1 R2 R3 R4 1 = some (q2, y2) := fun k hk => by
      unfold laws_markRing.f
      rw [m2 k (by omega)]
      rfl
    have H2 : ∀ k, R1.length < k → laws_heldRing.f k y2 R2 R3 R4 1 = some q2 := fun k hk => by
      unfold laws_heldRing.f
      rw [h2 k (by omega)]
      simp only [Option.bind_some]
      rw [if_neg (by omega)]
    obtain ⟨n, hn'⟩ : ∃ n, n = l0.length + 2999990 := ⟨_, rfl⟩
    rw [show l0.length + 3000000 = n + 10 by omega]
    have N1 : ¬ q1 < 0 := by omega
    have N2 : ¬ q2 < 0 := by omega
    simp only [T _ (show l0.length < n + 10 by omega), hS _ (show (l0.map conv177).length + 10 ≤ n + 10 by omega), hI _ (show (l0.map conv177).length + 10 ≤ n + 10 by omega), Q _ _ _ _ hR _ (show R1.length < n + 10 by omega), Option.bind_some, if_true, bne_self_eq_false]
    simp only [laws_FnExactOffered.j0, T _ (show l0.length < n + 9 by omega), Q _ _ _ _ hR _ (show R1.length < n + 9 by omega), Q _ a b c (show (l0.map conv177).length ≤ 2000000 by omega) _ (show (l0.map conv177).length < n + 9 by omega), M1 _ (show l0.length < n + 9 by omega), Option.bind_some, if_true, if_neg N1, bne_self_eq_false, Bool.false_eq_true, if_false]
    simp only [laws_FnExactOffered.j1, T _ (show l0.length < n + 8 by omega), hI _ (show (l0.map conv177).length + 10 ≤ n + 8 by omega), Q _ _ _ _ hR _ (show R1.length < n + 8 by omega), M2 _ (show R1.length < n + 8 by omega), H2 _ (show R1.length < n + 8 by omega), Option.bind_some, if_true, if_neg N2, bne_self_eq_false, Bool.false_eq_true, if_false]
    simp only [laws_FnExactOffered.j2, H2 _ (show R1.length < n + 7 by omega), Option.bind_some, if_true, if_neg N2, Bool.false_eq_true, if_false]
end Go.Proofs.Ytiinjipfhmgheaa.PFnExactOffered
