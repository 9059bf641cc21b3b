/- The pure law of FnLinesTold: what is told of drawn lines, right or not, is what the reference tells. No conditions. -/
import Derived.Test.YtlgndgjbfjefpaaPFnLinesToldy14
import Derived.Test.YtlgndgjbfjefpaaEV
set_option linter.unusedSimpArgs false
set_option linter.unusedVariables false
namespace Go.Proofs.Ytlgndgjbfjefpaa.PFnLinesTold
open Go Go.RowKit Go.Proofs.YtlgndgjbfjefpaaW.PrintWords Go.Proofs.YtlgndgjbfjefpaaW.PrintLast Go.Proofs.YtlgndgjbfjefpaaW.PK
theorem inS (a b c : Int) : spec_l01In.f a b c = some (decide (b ≤ a ∧ a ≤ c)) := by
 unfold spec_l01In.f
 by_cases h : a ≥ b
 ·rw [if_pos h]
  exact congrArg some (by rw [Bool.eq_iff_iff]; simp; omega)
 ·rw [if_neg h]
  exact congrArg some (by rw [Bool.eq_iff_iff]; simp; omega)
theorem inI (a b c : Int) : impl_within.f a b c = some (decide (b ≤ a ∧ a ≤ c)) := inS a b c
theorem halfS (a : Int) : spec_HalfOk.f a = some (decide (0 ≤ a ∧ a ≤ 4294967295)) := by
 unfold spec_HalfOk.f
 rw [inS]
 rfl
theorem halfI (a : Int) : impl_HalfOk.f a = some (decide (0 ≤ a ∧ a ≤ 4294967295)) := halfS a
theorem askS (a : Int) : spec_l06Ask.f a = some (decide (3 ≤ a ∧ a ≤ 6)) := by
 unfold spec_l06Ask.f
 rw [inS]
 rfl
theorem askI (a b c d : Int) : impl_Ins_asks.f a b c d = some (decide (3 ≤ a ∧ a ≤ 6)) := askS a
def InsP (a b c d : Int) : Prop := (1 ≤ a ∧ a ≤ 8) ∧ (0 ≤ b ∧ b ≤ 4294967295) ∧ (0 ≤ c ∧ c ≤ 15) ∧ (0 ≤ d ∧ d ≤ 15) ∧ ((3 ≤ a ∧ a ≤ 6) ∨ (c = 0 ∧ d = 0)) ∧ (a = 1 → b < 8) ∧ (a = 7 → b < 400)
instance (a b c d : Int) : Decidable (InsP a b c d) := by unfold InsP; infer_instance
theorem okS (k : Nat) (hk : 2 ≤ k) (a b c d : Int) : spec_InsOk.f k a b c d = some (decide (InsP a b c d)) := by
 obtain ⟨k, rfl⟩ : ∃ m, k = m + 2 := ⟨k - 2, by omega⟩
 have e : ∀ x : Bool, (x = true ↔ InsP a b c d) → some x = some (decide (InsP a b c d)) := fun x h => congrArg some (by rw [Bool.eq_iff_iff, h]; simp)
 unfold spec_InsOk.f
 simp only [inS, halfS, askS, spec_InsOk.j0, spec_InsOk.j1, Option.bind_some, decide_eq_true_eq, Bool.not_eq_true', decide_eq_false_iff_not]
 repeat' split
 all_goals (refine e _ ?_; clear e; unfold InsP; (try simp only [Bool.false_eq_true, bne_iff_ne, ne_eq, decide_eq_true_eq, false_iff, true_iff, Classical.not_not] at *))
 all_goals (first | contradiction | omega)
theorem okI (k : Nat) (hk : 2 ≤ k) (a b c d : Int) : impl_InsOk.f k a b c d = some (decide (InsP a b c d)) := by
 obtain ⟨k, rfl⟩ : ∃ m, k = m + 2 := ⟨k - 2, by omega⟩
 have e : ∀ x : Bool, (x = true ↔ InsP a b c d) → some x = some (decide (InsP a b c d)) := fun x h => congrArg some (by rw [Bool.eq_iff_iff, h]; simp)
 unfold impl_InsOk.f
 simp only [inI, halfI, askI, impl_InsOk.j0, Option.bind_some, decide_eq_true_eq, bne_iff_ne]
 repeat' split
 all_goals (refine e _ ?_; clear e; unfold InsP; (try simp only [Bool.false_eq_true, bne_iff_ne, ne_eq, decide_eq_true_eq, false_iff, true_iff, Classical.not_not] at *))
 all_goals (first | contradiction | omega)
theorem nrd_T95 (l : List S95) (i : Nat) (h : i < l.length) : rd_T95 l (i : Int) = l[i] := getD_lt _ h
theorem rd_nat95 (l : List S95) (i : Nat) (h : i < l.length) : rd_T95 l (i : Int) = l[i] := getD_lt _ h
/-- The first place from an index on. -/
def Fst (Q : Nat → Prop) (n i : Nat) (v : Int) : Prop := (∃ j, i ≤ j ∧ j < n ∧ Q j ∧ v = (j : Int) ∧ ∀ m, i ≤ m → m < j → ¬ Q m) ∨ (v = -1 ∧ ∀ m, i ≤ m → m < n → ¬ Q m)
def PZ (x : S95) : Prop := x.f1.f0 = 0 ∧ x.f1.f1 = 0 ∧ x.f1.f2 = 0 ∧ x.f1.f3 = 0
instance (x : S95) : Decidable (PZ x) := by unfold PZ; infer_instance
def QS (L : List S95) (s : List UInt8) (j : Nat) : Prop := ∃ h : j < L.length, PZ L[j] ∧ L[j].f0.toList = s
def QI (L : List S95) (s : List UInt8) (j : Nat) : Prop := ∃ h : j < L.length, L[j].f1.f0 = 0 ∧ L[j].f0.toList = s
theorem Fst.here {Q : Nat → Prop} {n i : Nat} (h : i < n) (hq : Q i) : Fst Q n i (i : Int) := .inl ⟨i, Nat.le_refl _, h, hq, rfl, fun m h1 h2 => by omega⟩
theorem Fst.next {Q : Nat → Prop} {n i : Nat} {v : Int} (hq : ¬ Q i) (h : Fst Q n (i + 1) v) : Fst Q n i v := by
  rcases h with ⟨j, h1, h2, h3, h4, h5⟩ | ⟨h1, h2⟩
  · refine .inl ⟨j, by omega, h2, h3, h4, fun m h6 h7 => ?_⟩
    rcases Nat.lt_or_ge i m with h8 | h8
    · exact h5 m h8 h7
    · have : m = i := by omega
      subst this
      exact hq
  · refine .inr ⟨h1, fun m h6 h7 => ?_⟩
    rcases Nat.lt_or_ge i m with h8 | h8
    · exact h2 m h8 h7
    · have : m = i := by omega
      subst this
      exact hq
theorem atS_l0 (L : List S95) (s : ByteArray) (hn : L.length ≤ 4611686018427387904) : ∀ d i, i + d = L.length → ∃ v, (∀ k, d < k → spec_l11At.l0 k L s (i : Int) = some v) ∧ Fst (QS L s.toList) L.length i v
  | 0, i, hi => by
    refine ⟨-1, fun k hk => ?_, .inr ⟨rfl, fun m h1 h2 => by omega⟩⟩
    obtain ⟨k, rfl⟩ : ∃ m, k = m + 1 := ⟨k - 1, by omega⟩
    simp only [spec_l11At.l0]
    rw [if_neg (by omega)]
  | d + 1, i, hi => by
    have hlt : i < L.length := by omega
    by_cases hq : QS L s.toList i
    · refine ⟨i, fun k hk => ?_, .here hlt hq⟩
      obtain ⟨k, rfl⟩ : ∃ m, k = m + 1 := ⟨k - 1, by omega⟩
      obtain ⟨_, h1, h2⟩ := hq
      simp only [spec_l11At.l0, spec_l11Place.f]
      rw [if_pos (by omega), if_pos (by omega), rd_nat95 L i hlt]
      simp only [Option.bind_some]
      rw [if_pos (by obtain ⟨a, b, c, d⟩ := h1; simp [a, b, c, d]), if_pos h2]
    · obtain ⟨v, h1, h2⟩ := atS_l0 L s hn d (i + 1) (by omega)
      refine ⟨v, fun k hk => ?_, h2.next hq⟩
      obtain ⟨k, rfl⟩ : ∃ m, k = m + 1 := ⟨k - 1, by omega⟩
      simp only [spec_l11At.l0, spec_l11Place.f]
      rw [if_pos (by omega), if_pos (by omega), rd_nat95 L i hlt, wsucc hlt (by omega)]
      simp only [Option.bind_some]
      by_cases hp : PZ L[i]
      · rw [if_pos (by obtain ⟨a, b, c, d⟩ := hp; simp [a, b, c, d]), if_neg fun h => hq ⟨hlt, hp, h⟩]
        exact h1 k (by omega)
      · rw [if_neg (by unfold PZ at hp; simp; grind)]
        exact h1 k (by omega)
theorem atI_l0 (L : List S95) (s : ByteArray) (hn : L.length ≤ 4611686018427387904) : ∀ d i, i + d = L.length → ∃ v, (∀ k, d < k → impl_placeOf.l0 k L s (i : Int) = some v) ∧ Fst (QI L s.toList) L.length i v
  | 0, i, hi => by
    refine ⟨-1, fun k hk => ?_, .inr ⟨rfl, fun m h1 h2 => by omega⟩⟩
    obtain ⟨k, rfl⟩ : ∃ m, k = m + 1 := ⟨k - 1, by omega⟩
    simp only [impl_placeOf.l0]
    rw [if_neg (by omega)]
  | d + 1, i, hi => by
    have hlt : i < L.length := by omega
    by_cases hq : QI L s.toList i
    · refine ⟨i, fun k hk => ?_, .here hlt hq⟩
      obtain ⟨k, rfl⟩ : ∃ m, k = m + 1 := ⟨k - 1, by omega⟩
      obtain ⟨_, h1, h2⟩ := hq
      simp only [impl_placeOf.l0, impl_Line_isPlace.f]
      rw [if_pos (by omega), if_pos (by omega), rd_nat95 L i hlt]
      simp only [Option.bind_some]
      rw [if_pos (by simp [h1]), if_pos h2]
    · obtain ⟨v, h1, h2⟩ := atI_l0 L s hn d (i + 1) (by omega)
      refine ⟨v, fun k hk => ?_, h2.next hq⟩
      obtain ⟨k, rfl⟩ : ∃ m, k = m + 1 := ⟨k - 1, by omega⟩
      simp only [impl_placeOf.l0, impl_Line_isPlace.f]
      rw [if_pos (by omega), if_pos (by omega), rd_nat95 L i hlt, wsucc hlt (by omega)]
      simp only [Option.bind_some]
      by_cases hp : L[i].f1.f0 = 0
      · rw [if_pos (by simp [hp]), if_neg fun h => hq ⟨hlt, hp, h⟩]
        exact h1 k (by omega)
      · rw [if_neg (by simp [hp])]
        exact h1 k (by omega)
theorem atS (L : List S95) (s : ByteArray) (hn : L.length ≤ 1048576) : ∃ v, (∀ k, L.length < k → spec_l11At.f k L s = some v) ∧ Fst (QS L s.toList) L.length 0 v :=
  atS_l0 L s (by omega) L.length 0 (by omega)
theorem atI (L : List S95) (s : ByteArray) (hn : L.length ≤ 1048576) (a : Nat) (ha : a < L.length) : ∃ v, (∀ k, L.length < k → impl_placeOf.f k L s (a : Int) = some v) ∧ Fst (QI L s.toList) L.length (a + 1) v := by
  obtain ⟨v, h1, h2⟩ := atI_l0 L s (by omega) (L.length - (a + 1)) (a + 1) (by omega)
  refine ⟨v, fun k hk => ?_, h2⟩
  unfold impl_placeOf.f
  rw [wsucc ha (by omega)]
  exact h1 k (by omega)
theorem atI0 (L : List S95) (s : ByteArray) (hn : L.length ≤ 1048576) : ∃ v, (∀ k, L.length < k → impl_placeOf.f k L s (-1) = some v) ∧ Fst (QI L s.toList) L.length 0 v := by
  obtain ⟨v, h1, h2⟩ := atI_l0 L s (by omega) L.length 0 (by omega)
  refine ⟨v, fun k hk => ?_, h2⟩
  unfold impl_placeOf.f
  rw [show wrap64 (-1 + 1) = ((0 : Nat) : Int) from w64 (by omega) (by omega)]
  exact h1 k hk
def SL (x : S95) (i v0 v2 v3 : Int) : Prop :=
  (PZ x ∧ (1 ≤ (x.f0.size : Int) ∧ (x.f0.size : Int) ≤ 12) ∧ x.f2.toList = [] ∧ x.f3.toList = [] ∧ v0 = i) ∨
  (¬ PZ x ∧ x.f0.toList = [] ∧ x.f1.f2 = 0 ∧ x.f1.f3 = 0 ∧ (x.f1.f0 = 7 → x.f1.f1 = 0) ∧ InsP x.f1.f0 x.f1.f1 x.f1.f2 x.f1.f3 ∧
    ((x.f1.f0 = 7 ∧ x.f3.toList = [] ∧ v2 > i) ∨ ((3 ≤ x.f1.f0 ∧ x.f1.f0 ≤ 6) ∧ v2 > i ∧ v3 > i) ∨ (¬ x.f1.f0 = 7 ∧ ¬ (3 ≤ x.f1.f0 ∧ x.f1.f0 ≤ 6) ∧ x.f2.toList = [] ∧ x.f3.toList = [])))
instance (x : S95) (i v0 v2 v3 : Int) : Decidable (SL x i v0 v2 v3) := by unfold SL; infer_instance
def IL (x : S95) (i w0 w2 w3 : Int) : Prop :=
  (PZ x ∧ (1 ≤ (x.f0.size : Int) ∧ (x.f0.size : Int) ≤ 12) ∧ x.f2.toList = [] ∧ x.f3.toList = [] ∧ w0 = i) ∨
  (¬ x.f1.f0 = 0 ∧ x.f0.toList = [] ∧ x.f1.f2 = 0 ∧ x.f1.f3 = 0 ∧ (x.f1.f0 = 7 → x.f1.f1 = 0) ∧ InsP x.f1.f0 x.f1.f1 x.f1.f2 x.f1.f3 ∧
    ((x.f1.f0 = 7 ∧ x.f3.toList = [] ∧ w2 ≥ 0) ∨ ((3 ≤ x.f1.f0 ∧ x.f1.f0 ≤ 6) ∧ w2 ≥ 0 ∧ w3 ≥ 0) ∨ (¬ x.f1.f0 = 7 ∧ ¬ (3 ≤ x.f1.f0 ∧ x.f1.f0 ≤ 6) ∧ x.f2.toList = [] ∧ x.f3.toList = [])))
instance (x : S95) (i v0 v2 v3 : Int) : Decidable (IL x i v0 v2 v3) := by unfold IL; infer_instance
theorem eqb {b : Bool} {P : Prop} [Decidable P] (h : b = true ↔ P) : some b = some (decide P) := congrArg some (by rw [Bool.eq_iff_iff, h]; simp)
set_option maxHeartbeats 1000000 in
theorem lineS (L : List S95) (i : Nat) (hi : i < L.length) (k : Nat) (hk : 5 ≤ k) (v0 v2 v3 : Int) (h0 : ∀ m, k ≤ m + 1 → spec_l11At.f m L L[i].f0 = some v0) (h2 : ∀ m, k ≤ m + 1 → spec_l11At.f m L L[i].f2 = some v2) (h3 : ∀ m, k ≤ m + 1 → spec_l11At.f m L L[i].f3 = some v3) :
    spec_l11Line.f k L (i : Int) = some (decide (SL L[i] i v0 v2 v3)) := by
  obtain ⟨k, rfl⟩ : ∃ m, k = m + 1 := ⟨k - 1, by omega⟩
  simp only [spec_l11Line.f, spec_l11Place.f]
  rw [if_pos (by omega), if_pos (by omega), rd_nat95 L i hi]
  simp only [Option.bind_some, inS, okS _ (show 2 ≤ k + 1 by omega), h0 _ (Nat.le_succ _), spec_l11Line.j0, askS, h2 _ (Nat.le_refl _), h3 _ (Nat.le_refl _), decide_eq_true_eq]
  have eP : ((L[i].f1.f0 == 0 && (L[i].f1.f1 == 0 && (L[i].f1.f2 == 0 && (L[i].f1.f3 == 0)))) = true) = PZ L[i] := by
    unfold PZ
    simp
  simp only [eP]
  generalize L[i] = x
  by_cases hp : PZ x
  · rw [if_pos hp]
    repeat' split
    all_goals (refine eqb ?_; unfold SL; grind)
  · rw [if_neg hp]
    repeat' split
    all_goals (refine eqb ?_; unfold SL; grind)
set_option maxHeartbeats 1000000 in
theorem lineI (L : List S95) (i : Nat) (hi : i < L.length) (k : Nat) (hk : 5 ≤ k) (v0 v2 v3 : Int) (h0 : ∀ m, k ≤ m + 1 → impl_placeOf.f m L L[i].f0 (-1) = some v0) (h2 : ∀ m, k ≤ m + 1 → impl_placeOf.f m L L[i].f2 (i : Int) = some v2) (h3 : ∀ m, k ≤ m + 1 → impl_placeOf.f m L L[i].f3 (i : Int) = some v3) :
    impl_lineOk.f k L (i : Int) = some (decide (IL L[i] i v0 v2 v3)) := by
  obtain ⟨k, rfl⟩ : ∃ m, k = m + 1 := ⟨k - 1, by omega⟩
  simp only [impl_lineOk.f, impl_Line_isPlace.f]
  rw [if_pos (by omega), if_pos (by omega), rd_nat95 L i hi]
  simp only [Option.bind_some, inI, okI _ (show 2 ≤ k + 1 by omega), h0 _ (Nat.le_succ _), impl_lineOk.j0, askI, h2 _ (Nat.le_refl _), h3 _ (Nat.le_refl _), decide_eq_true_eq]
  have eP : ((L[i].f1.f0 == 0 && (L[i].f1.f1 == 0 && (L[i].f1.f2 == 0 && (L[i].f1.f3 == 0)))) = true) = PZ L[i] := by
    unfold PZ
    simp
  simp only [eP]
  generalize L[i] = x
  by_cases hp : x.f1.f0 = 0
  · rw [if_pos (by simp [hp])]
    repeat' split
    all_goals (refine eqb ?_; unfold IL; grind [PZ])
  · rw [if_neg (by simp [hp])]
    repeat' split
    all_goals (refine eqb ?_; unfold IL; grind [PZ])
theorem Fst.uniq {Q Q' : Nat → Prop} {n i : Nat} {v v' : Int} (h : Fst Q n i v) (h' : Fst Q' n i v') (e : ∀ m, m < n → (Q m ↔ Q' m)) : v = v' := by
  rcases h with ⟨j, h1, h2, h3, h4, h5⟩ | ⟨h1, h2⟩
  · rcases h' with ⟨j', g1, g2, g3, g4, g5⟩ | ⟨g1, g2⟩
    · have : j = j' := by
        rcases Nat.lt_trichotomy j j' with h | h | h
        · exact absurd ((e j h2).1 h3) (g5 j h1 h)
        · exact h
        · exact absurd ((e j' g2).2 g3) (h5 j' g1 h)
      omega
    · exact absurd ((e j h2).1 h3) (g2 j h1 h2)
  · rcases h' with ⟨j', g1, g2, g3, g4, g5⟩ | ⟨g1, g2⟩
    · exact absurd ((e j' g2).2 g3) (h2 j' g1 g2)
    · omega
theorem allLoop {F : Nat → Int → Option Bool} {n : Nat} {P : Nat → Prop} (h0 : ∀ k, F (k + 1) (n : Int) = some true)
    (h1 : ∀ i : Nat, i < n → ∃ b, (b = true ↔ P i) ∧ ∃ K, ∀ k, K ≤ k → F (k + 1) (i : Int) = if b = true then F k ((i + 1 : Nat) : Int) else some false) : ∃ b, Evt (fun k => F k 0) b ∧ (b = true ↔ ∀ i, i < n → P i) := by
  have h := down (T := fun i => ∃ b, Evt (fun k => F k (i : Int)) b ∧ (b = true ↔ ∀ j, i ≤ j → j < n → P j)) (n := n) ?_ ?_ n 0 (by omega)
  · obtain ⟨b, h2, h3⟩ := h
    exact ⟨b, h2, h3.trans ⟨fun h j hj => h j (Nat.zero_le _) hj, fun h j _ hj => h j hj⟩⟩
  · exact ⟨true, .succ (.const fun k => h0 k), by simp; intro j h2 h3; omega⟩
  · intro i hi ⟨b, ⟨K, hK⟩, hb⟩
    obtain ⟨b', hb', K', hK'⟩ := h1 i hi
    cases b' with
    | true =>
      refine ⟨b, .succ ⟨K + K', fun k hk => ?_⟩, hb.trans ⟨fun h j h2 h3 => ?_, fun h j h2 h3 => h j (by omega) h3⟩⟩
      · show F (k + 1) (i : Int) = _
        rw [hK' k (by omega), if_pos rfl]
        exact hK k (by omega)
      · rcases Nat.lt_or_ge i j with h4 | h4
        · exact h j h4 h3
        · have : i = j := by omega
          subst this
          exact hb'.1 rfl
    | false =>
      refine ⟨false, .succ ⟨K', fun k hk => ?_⟩, ⟨(fun h => by cases h), fun h => absurd (hb'.2 (h i (Nat.le_refl _) hi)) (by simp)⟩⟩
      show F (k + 1) (i : Int) = _
      rw [hK' k (by omega), if_neg (by simp)]
def SAll (L : List S95) : Prop := ∀ j (h : j < L.length), ∀ v0 v2 v3, Fst (QS L L[j].f0.toList) L.length 0 v0 → Fst (QS L L[j].f2.toList) L.length 0 v2 → Fst (QS L L[j].f3.toList) L.length 0 v3 → SL L[j] j v0 v2 v3
def IAll (L : List S95) : Prop := ∀ j (h : j < L.length), ∀ v0 v2 v3, Fst (QI L L[j].f0.toList) L.length 0 v0 → Fst (QI L L[j].f2.toList) L.length (j + 1) v2 → Fst (QI L L[j].f3.toList) L.length (j + 1) v3 → IL L[j] j v0 v2 v3
theorem sAll (L : List S95) (hn : L.length ≤ 1048576) : ∃ b, Evt (fun k => spec_LinesOk.l0 k L 0) b ∧ (b = true ↔ SAll L) := by
  obtain ⟨b, h1, h2⟩ := allLoop (F := fun k i => spec_LinesOk.l0 k L i) (n := L.length) (P := fun j => ∀ h : j < L.length, ∀ v0 v2 v3, Fst (QS L L[j].f0.toList) L.length 0 v0 → Fst (QS L L[j].f2.toList) L.length 0 v2 → Fst (QS L L[j].f3.toList) L.length 0 v3 → SL L[j] j v0 v2 v3)
    (fun k => by simp only [spec_LinesOk.l0]; rw [if_neg (by omega)]) (fun i hi => by
      obtain ⟨v0, a0, b0⟩ := atS L L[i].f0 hn
      obtain ⟨v2, a2, b2⟩ := atS L L[i].f2 hn
      obtain ⟨v3, a3, b3⟩ := atS L L[i].f3 hn
      refine ⟨decide (SL L[i] i v0 v2 v3), ?_, L.length + 10, fun k hk => ?_⟩
      · rw [decide_eq_true_eq]
        refine ⟨fun h _ u0 u2 u3 c0 c2 c3 => ?_, fun h => h hi v0 v2 v3 b0 b2 b3⟩
        rw [← b0.uniq c0 (fun _ _ => .rfl), ← b2.uniq c2 (fun _ _ => .rfl), ← b3.uniq c3 (fun _ _ => .rfl)]
        exact h
      · simp only [spec_LinesOk.l0]
        rw [if_pos (by omega), lineS L i hi k (by omega) v0 v2 v3 (fun m hm => a0 m (by omega)) (fun m hm => a2 m (by omega)) (fun m hm => a3 m (by omega)), wsucc hi (by omega)]
        rfl)
  exact ⟨b, h1, h2.trans ⟨fun h j hj => h j hj hj, fun h j hj _ => h j hj⟩⟩
theorem iAll (L : List S95) (hn : L.length ≤ 1048576) : ∃ b, Evt (fun k => impl_LinesOk.l0 k L (L.length : Int) 0) b ∧ (b = true ↔ IAll L) := by
  obtain ⟨b, h1, h2⟩ := allLoop (F := fun k i => impl_LinesOk.l0 k L (L.length : Int) i) (n := L.length) (P := fun j => ∀ h : j < L.length, ∀ v0 v2 v3, Fst (QI L L[j].f0.toList) L.length 0 v0 → Fst (QI L L[j].f2.toList) L.length (j + 1) v2 → Fst (QI L L[j].f3.toList) L.length (j + 1) v3 → IL L[j] j v0 v2 v3)
    (fun k => by simp only [impl_LinesOk.l0]; rw [if_neg (by omega)]) (fun i hi => by
      obtain ⟨v0, a0, b0⟩ := atI0 L L[i].f0 hn
      obtain ⟨v2, a2, b2⟩ := atI L L[i].f2 hn i hi
      obtain ⟨v3, a3, b3⟩ := atI L L[i].f3 hn i hi
      refine ⟨decide (IL L[i] i v0 v2 v3), ?_, L.length + 10, fun k hk => ?_⟩
      · rw [decide_eq_true_eq]
        refine ⟨fun h _ u0 u2 u3 c0 c2 c3 => ?_, fun h => h hi v0 v2 v3 b0 b2 b3⟩
        rw [← b0.uniq c0 (fun _ _ => .rfl), ← b2.uniq c2 (fun _ _ => .rfl), ← b3.uniq c3 (fun _ _ => .rfl)]
        exact h
      · simp only [impl_LinesOk.l0]
        rw [if_pos (by omega), lineI L i hi k (by omega) v0 v2 v3 (fun m hm => a0 m (by omega)) (fun m hm => a2 m (by omega)) (fun m hm => a3 m (by omega)), wsucc hi (by omega)]
        rfl)
  exact ⟨b, h1, h2.trans ⟨fun h j hj => h j hj hj, fun h j hj _ => h j hj⟩⟩
/-- Both ask the same of all lines: where all are right, each place is bare and bears a name of its own. -/
theorem qs_qi {L : List S95} (H : ∀ j (h : j < L.length), L[j].f1.f0 = 0 → PZ L[j]) (s : List UInt8) (m : Nat) : QS L s m ↔ QI L s m :=
  ⟨fun ⟨h, h1, h2⟩ => ⟨h, h1.1, h2⟩, fun ⟨h, h1, h2⟩ => ⟨h, H m h h1, h2⟩⟩
theorem fstS (L : List S95) (hn : L.length ≤ 1048576) (s : ByteArray) : ∃ v, Fst (QS L s.toList) L.length 0 v := by
  obtain ⟨v, _, h⟩ := atS L s hn
  exact ⟨v, h⟩
theorem fstI (L : List S95) (hn : L.length ≤ 1048576) (s : ByteArray) (i : Nat) (hi : i ≤ L.length) : ∃ v, Fst (QI L s.toList) L.length i v := by
  obtain ⟨v, _, h⟩ := atI_l0 L s (by omega) (L.length - i) i (by omega)
  exact ⟨v, h⟩
theorem all_iff (L : List S95) (hn : L.length ≤ 1048576) : SAll L ↔ IAll L := by
  constructor
  · intro hS
    have H : ∀ j (h : j < L.length), L[j].f1.f0 = 0 → PZ L[j] := fun j h e => by
      obtain ⟨v0, h0⟩ := fstS L hn L[j].f0
      obtain ⟨v2, h2⟩ := fstS L hn L[j].f2
      obtain ⟨v3, h3⟩ := fstS L hn L[j].f3
      rcases hS j h v0 v2 v3 h0 h2 h3 with h4 | h4
      · exact h4.1
      · have h5 := h4.2.2.2.2.2.1
        unfold InsP at h5
        omega
    have up : ∀ (s : ByteArray) (j : Nat) (v w : Int), Fst (QS L s.toList) L.length 0 v → Fst (QI L s.toList) L.length (j + 1) w → v > j → w ≥ 0 := fun s j v w h1 h2 h3 => by
      rcases h1 with ⟨m, _, m2, m3, m4, _⟩ | ⟨m1, _⟩
      · rcases h2 with ⟨u, _, _, _, u4, _⟩ | ⟨_, u2⟩
        · omega
        · exact absurd ((qs_qi H _ m).1 m3) (u2 m (by omega) m2)
      · omega
    intro j h w0 w2 w3 g0 g2 g3
    obtain ⟨v0, h0⟩ := fstS L hn L[j].f0
    obtain ⟨v2, h2⟩ := fstS L hn L[j].f2
    obtain ⟨v3, h3⟩ := fstS L hn L[j].f3
    have e0 := h0.uniq g0 (fun m _ => qs_qi H _ m)
    have u2 := up _ j v2 w2 h2 g2
    have u3 := up _ j v3 w3 h3 g3
    rcases hS j h v0 v2 v3 h0 h2 h3 with ⟨a, b, c, d, e⟩ | ⟨a, b, c, d, e, f, g⟩
    · exact .inl ⟨a, b, c, d, by omega⟩
    · refine .inr ⟨by unfold InsP at f; omega, b, c, d, e, f, ?_⟩
      rcases g with ⟨g1, g2, g3⟩ | ⟨g1, g2, g3⟩ | g
      · exact .inl ⟨g1, g2, u2 g3⟩
      · exact .inr (.inl ⟨g1, u2 g2, u3 g3⟩)
      · exact .inr (.inr g)
  · intro hI
    have hW : ∀ j (h : j < L.length), ∃ w0 w2 w3, Fst (QI L L[j].f0.toList) L.length 0 w0 ∧ Fst (QI L L[j].f2.toList) L.length (j + 1) w2 ∧ Fst (QI L L[j].f3.toList) L.length (j + 1) w3 ∧ IL L[j] j w0 w2 w3 := fun j h => by
      obtain ⟨v0, h0⟩ := fstI L hn L[j].f0 0 (by omega)
      obtain ⟨v2, h2⟩ := fstI L hn L[j].f2 (j + 1) h
      obtain ⟨v3, h3⟩ := fstI L hn L[j].f3 (j + 1) h
      exact ⟨v0, v2, v3, h0, h2, h3, hI j h v0 v2 v3 h0 h2 h3⟩
    have H : ∀ j (h : j < L.length), L[j].f1.f0 = 0 → PZ L[j] := fun j h e => by
      obtain ⟨w0, w2, w3, _, _, _, h4⟩ := hW j h
      rcases h4 with h4 | h4
      · exact h4.1
      · exact absurd e h4.1
    have dn : ∀ (s : ByteArray) (j : Nat) (v w : Int), Fst (QS L s.toList) L.length 0 v → Fst (QI L s.toList) L.length (j + 1) w → w ≥ 0 → v > j := fun s j v w h1 h2 h3 => by
      rcases h2 with ⟨m, m1, m2, m3, m4, _⟩ | ⟨m1, _⟩
      · obtain ⟨w0, w2, w3, g0, _, _, g4⟩ := hW m m2
        obtain ⟨_, m5, m6⟩ := m3
        have hz := H m m2 m5
        have e0 : w0 = m := by
          rcases g4 with g4 | g4
          · exact g4.2.2.2.2
          · exact absurd m5 g4.1
        rw [m6] at g0
        have := h1.uniq g0 (fun m _ => qs_qi H _ m)
        omega
      · omega
    intro j h v0 v2 v3 h0 h2 h3
    obtain ⟨w0, w2, w3, g0, g2, g3, hl⟩ := hW j h
    have e0 := h0.uniq g0 (fun m _ => qs_qi H _ m)
    have u2 := dn _ j v2 w2 h2 g2
    have u3 := dn _ j v3 w3 h3 g3
    rcases hl with ⟨a, b, c, d, e⟩ | ⟨a, b, c, d, e, f, g⟩
    · exact .inl ⟨a, b, c, d, by omega⟩
    · refine .inr ⟨fun h => a h.1, b, c, d, e, f, ?_⟩
      rcases g with ⟨g1, g2, g3⟩ | ⟨g1, g2, g3⟩ | g
      · exact .inl ⟨g1, g2, u2 g3⟩
      · exact .inr (.inl ⟨g1, u2 g2, u3 g3⟩)
      · exact .inr (.inr g)
/-- Both answer alike. -/
theorem linesOk (L : List S95) (hn : L.length ≤ 1048576) : ∃ b, Evt (fun k => spec_LinesOk.f k L) b ∧ Evt (fun k => impl_LinesOk.f k L) b ∧ (b = true → (1 ≤ L.length ∧ L.length ≤ 600) ∧ SAll L ∧ IAll L ∧ ∃ h : L.length - 1 < L.length, L[L.length - 1].f1.f0 = 8) := by
  by_cases h1 : 1 ≤ (L.length : Int) ∧ (L.length : Int) ≤ 600
  · have e : wrap64 ((L.length : Int) - 1) = ((L.length - 1 : Nat) : Int) := by unfold wrap64; omega
    have hlt : L.length - 1 < L.length := by omega
    by_cases h8 : (L[L.length - 1].f1.f0) = 8
    · obtain ⟨b, ⟨K, hb⟩, hbi⟩ := sAll L hn
      obtain ⟨b', ⟨K', hb'⟩, hbi'⟩ := iAll L hn
      have eb : b' = b := by rw [Bool.eq_iff_iff, hbi, hbi', all_iff L hn]
      subst eb
      refine ⟨b', .succ ⟨K + 1, fun k hk => ?_⟩, .succ ⟨K' + 1, fun k hk => ?_⟩, fun h => ⟨by omega, hbi.1 h, hbi'.1 h, hlt, h8⟩⟩
      · simp only [spec_LinesOk.f, inS, Option.bind_some, decide_eq_true_eq]
        rw [if_pos h1, e, if_pos (by omega), if_pos (by omega), rd_nat95 L _ hlt, h8]
        simp only [spec_LinesOk.j0]
        rw [if_neg (by simp)]
        exact hb k (by omega)
      · simp only [impl_LinesOk.f, inI, Option.bind_some, decide_eq_true_eq]
        rw [if_pos h1, e, if_pos (by omega), if_pos (by omega), rd_nat95 L _ hlt, h8]
        simp only [impl_LinesOk.j0]
        rw [if_neg (by simp)]
        exact hb' k (by omega)
    · refine ⟨false, .succ (.const fun k => ?_), .succ (.const fun k => ?_), fun h => by cases h⟩
      · simp only [spec_LinesOk.f, inS, Option.bind_some, decide_eq_true_eq]
        rw [if_pos h1, e, if_pos (by omega), if_pos (by omega), rd_nat95 L _ hlt]
        simp only [spec_LinesOk.j0]
        rw [if_pos (by simp [h8])]
      · simp only [impl_LinesOk.f, inI, Option.bind_some, decide_eq_true_eq]
        rw [if_pos h1, e, if_pos (by omega), if_pos (by omega), rd_nat95 L _ hlt]
        simp only [impl_LinesOk.j0]
        rw [if_pos (by simp [h8])]
  · refine ⟨false, .succ (.const fun k => ?_), .succ (.const fun k => ?_), fun h => by cases h⟩
    · simp only [spec_LinesOk.f, inS, Option.bind_some, decide_eq_true_eq]
      rw [if_neg h1]
      simp only [spec_LinesOk.j0, if_true]
    · simp only [impl_LinesOk.f, inI, Option.bind_some, decide_eq_true_eq]
      rw [if_neg h1]
      simp only [impl_LinesOk.j0, if_true]
/-- Sizes before an index, summed up. -/
def pre (o : List Int) (i : Nat) : Int := (o.take i).sum
theorem pre_succ {o : List Int} {i : Nat} (h : i < o.length) : pre o (i + 1) = pre o i + o[i] := by
  unfold pre
  rw [List.take_succ_eq_append_getElem h, List.sum_append]
  simp
theorem pre_bound {o : List Int} (ho : ∀ j (h : j < o.length), 0 ≤ o[j] ∧ o[j] ≤ 3) : ∀ i, i ≤ o.length → 0 ≤ pre o i ∧ pre o i ≤ 3 * i
  | 0, _ => by simp [pre]
  | i + 1, h => by
    have := pre_bound ho i (by omega)
    have := ho i (by omega)
    rw [pre_succ (by omega)]
    omega
theorem nrdI (l : List Int) (i : Nat) (h : i < l.length) : rd l (i : Int) = l[i] := getD_lt _ h
def ones : List Int → Nat
  | [] => 0
  | x :: l => (if x = 1 then 1 else 0) + ones l
theorem ones_le : ∀ l : List Int, ones l ≤ l.length
  | [] => Nat.le_refl _
  | x :: l => by
    have := ones_le l
    simp only [ones, List.length_cons]
    split <;> omega
theorem ones_set : ∀ (l : List Int) (i : Nat) (h : i < l.length), l[i] = 1 → ones (l.set i 3) + 1 = ones l
  | x :: l, 0, h, e => by
    simp only [List.getElem_cons_zero] at e
    subst e
    simp [ones]
    omega
  | x :: l, i + 1, h, e => by
    simp only [List.getElem_cons_succ] at e
    have := ones_set l i (by simpa using h) e
    simp only [List.set_cons_succ, ones]
    omega
/-- Where each word begins. -/
theorem begins (o : List Int) (hn : o.length ≤ 600) (ho : ∀ j (h : j < o.length), 0 ≤ o[j] ∧ o[j] ≤ 3) : ∃ B : List Int, B.length = o.length ∧ (∀ i (h : i < B.length), B[i] = pre o i) ∧ Evt (fun k => spec_l11Begins.f k o) B := by
  have key := down (T := fun i => ∀ b : List Int, b.length = i → (∀ j (h : j < b.length), b[j] = pre o j) → ∃ B : List Int, B.length = o.length ∧ (∀ j (h : j < B.length), B[j] = pre o j) ∧ Evt (fun k => spec_l11Begins.l0 k o b (pre o i) (i : Int)) B) (n := o.length) ?_ ?_ o.length 0 (by omega) [] rfl (by simp)
  · obtain ⟨B, h1, h2, h3⟩ := key
    exact ⟨B, h1, h2, h3⟩
  · intro b hb hj
    refine ⟨b, hb, hj, .succ (.const fun k => ?_)⟩
    simp only [spec_l11Begins.l0]
    rw [if_neg (by omega)]
  · intro i hi ih b hb hj
    have b1 := pre_bound ho i (by omega)
    have b2 := ho i hi
    obtain ⟨B, h1, h2, K, h3⟩ := ih (b ++ [pre o i]) (by simp; omega) (fun j h => by
      rcases Nat.lt_or_ge j b.length with h4 | h4
      · rw [List.getElem_append_left h4]
        exact hj j h4
      · have : j = b.length := by simp at h; omega
        subst this
        rw [List.getElem_append_right (Nat.le_refl _)]
        simp
        rw [hb])
    refine ⟨B, h1, h2, .succ ⟨K, fun k hk => ?_⟩⟩
    simp only [spec_l11Begins.l0]
    rw [if_pos (by omega), if_pos (by omega), if_pos (by omega), nrdI o i hi, w64 (x := pre o i + o[i]) (by omega) (by omega), wsucc hi (by omega)]
    have := h3 k hk
    rw [pre_succ hi] at this
    exact this
/-- How much stands between. -/
theorem betw (o : List Int) (hn : o.length ≤ 600) (ho : ∀ j (h : j < o.length), 0 ≤ o[j] ∧ o[j] ≤ 3) (y : Nat) (hy : y ≤ o.length) : ∀ (d i : Nat) (t : Int), i + d = y → 0 ≤ t → t ≤ 3 * i → Evt (fun k => impl_between.l0 k o t (y : Int) (i : Int)) (t + (pre o y - pre o i)) := by
  intro d
  induction d with
  | zero =>
    intro i t h _ _
    have : i = y := by omega
    subst this
    refine .succ (.const fun k => ?_)
    simp only [impl_between.l0]
    rw [if_neg (by omega)]
    simp
  | succ d ih =>
    intro i t h h0 h3
    have hi : i < o.length := by omega
    have b2 := ho i hi
    obtain ⟨K, hK⟩ := ih (i + 1) (t + o[i]) (by omega) (by omega) (by omega)
    refine .succ ⟨K, fun k hk => ?_⟩
    simp only [impl_between.l0]
    rw [if_pos (by omega), if_pos (by omega), if_pos (by omega), nrdI o i hi, w64 (x := t + o[i]) (by omega) (by omega), wsucc hi (by omega)]
    have := hK k hk
    dsimp only at this
    rw [this, pre_succ hi]
    refine congrArg some ?_
    omega
/-- Where the ways of right lines lead: both sides find the same place, behind the line. -/
theorem wayTo {L : List S95} (hn : L.length ≤ 1048576) (hS : SAll L) (hI : IAll L) {i : Nat} (hi : i < L.length) (ha : 3 ≤ L[i].f1.f0 ∧ L[i].f1.f0 ≤ 6) (s : ByteArray) (hs : s = L[i].f2 ∨ s = L[i].f3) :
    ∃ y : Nat, i < y ∧ y < L.length ∧ s.toList ≠ [] ∧ (∀ k, L.length < k → spec_l11At.f k L s = some (y : Int)) ∧ (∀ k, L.length < k → impl_placeOf.f k L s (i : Int) = some (y : Int)) := by
  have H : ∀ j (h : j < L.length), L[j].f1.f0 = 0 → PZ L[j] := fun j h e => by
    obtain ⟨w0, h0⟩ := fstI L hn L[j].f0 0 (by omega)
    obtain ⟨w2, h2⟩ := fstI L hn L[j].f2 (j + 1) h
    obtain ⟨w3, h3⟩ := fstI L hn L[j].f3 (j + 1) h
    rcases hI j h w0 w2 w3 h0 h2 h3 with h4 | h4
    · exact h4.1
    · exact absurd e h4.1
  obtain ⟨v, hv, fv⟩ := atS L s hn
  obtain ⟨w, hw, fw⟩ := atI L s hn i hi
  have hgt : v > i := by
    obtain ⟨v0, f0⟩ := fstS L hn L[i].f0
    obtain ⟨v2, f2⟩ := fstS L hn L[i].f2
    obtain ⟨v3, f3⟩ := fstS L hn L[i].f3
    have hl := hS i hi v0 v2 v3 f0 f2 f3
    have hz : ¬ PZ L[i] := fun h => by unfold PZ at h; omega
    rcases hl with h | ⟨_, _, _, _, _, _, h | h | h⟩
    · exact absurd h.1 hz
    · omega
    · rcases hs with e | e
      · subst e
        rw [fv.uniq f2 (fun _ _ => .rfl)]
        exact h.2.1
      · subst e
        rw [fv.uniq f3 (fun _ _ => .rfl)]
        exact h.2.2
    · exact absurd ha h.2.1
  rcases fv with ⟨m, _, m2, m3, m4, m5⟩ | ⟨m1, _⟩
  · have hwm : w = (m : Int) := by
      rcases fw with ⟨u, u1, u2, u3, u4, u5⟩ | ⟨_, u2⟩
      · have q1 : ¬ m < u := fun h => u5 m (by omega) h ((qs_qi H _ m).1 m3)
        have q2 : ¬ u < m := fun h => m5 u (Nat.zero_le _) h ((qs_qi H _ u).2 u3)
        omega
      · exact absurd ((qs_qi H _ m).1 m3) (u2 m (by omega) m2)
    refine ⟨m, by omega, m2, ?_, fun k hk => (hv k hk).trans (by rw [m4]), fun k hk => (hw k hk).trans (by rw [hwm])⟩
    obtain ⟨_, p1, p2⟩ := m3
    obtain ⟨v0, f0⟩ := fstS L hn L[m].f0
    obtain ⟨v2, f2⟩ := fstS L hn L[m].f2
    obtain ⟨v3, f3⟩ := fstS L hn L[m].f3
    rcases hS m m2 v0 v2 v3 f0 f2 f3 with h | h
    · intro e
      rw [← p2] at e
      rw [ByteArray.toList_eq] at e
      have h5 : L[m].f0.data.size = 0 := by simpa using congrArg List.length e
      have h6 : L[m].f0.size = L[m].f0.data.size := rfl
      have := h.2.1
      omega
    · exact absurd p1 h.1
  · omega
/-- Sizes that may stand for right lines. -/
def OkS (L : List S95) (o : List Int) : Prop := o.length = L.length ∧ (∀ j (h : j < o.length), 0 ≤ o[j] ∧ o[j] ≤ 3) ∧ (∀ j (h : j < o.length) (h' : j < L.length), 3 ≤ L[j].f1.f0 ∧ L[j].f1.f0 ≤ 6 → o[j] = 1 ∨ o[j] = 3) ∧ (∀ j (h : j < o.length) (h' : j < L.length), ¬ (3 ≤ L[j].f1.f0 ∧ L[j].f1.f0 ≤ 6) → o[j] = if L[j].f1.f0 = 0 then 0 else 1)
theorem OkS.set {L : List S95} {o : List Int} (h : OkS L o) (i : Nat) (hi : i < L.length) (hask : 3 ≤ L[i].f1.f0 ∧ L[i].f1.f0 ≤ 6) : OkS L (o.set i 3) := by
  obtain ⟨h1, h2, h3, h4⟩ := h
  refine ⟨by rw [List.length_set]; exact h1, fun j hj => ?_, fun j hj hj' ha => ?_, fun j hj hj' ha => ?_⟩
  · rw [List.length_set] at hj
    rw [List.getElem_set]
    split
    · omega
    · exact h2 j hj
  · rw [List.length_set] at hj
    rw [List.getElem_set]
    split
    · exact .inr rfl
    · exact h3 j hj hj' ha
  · rw [List.length_set] at hj
    rw [List.getElem_set]
    split
    · rename_i e
      subst e
      exact absurd hask ha
    · exact h4 j hj hj' ha
/-- The ways, as the reference keeps them. -/
def OkW (L : List S95) (Y N : List Int) : Prop := Y.length = L.length ∧ N.length = L.length ∧ ∀ j (h : j < L.length) (h1 : j < Y.length) (h2 : j < N.length), (L[j].f2.toList ≠ [] → ∀ v, (∀ k, L.length < k → spec_l11At.f k L L[j].f2 = some v) → Y[j] = v) ∧ (L[j].f3.toList ≠ [] → ∀ v, (∀ k, L.length < k → spec_l11At.f k L L[j].f3 = some v) → N[j] = v)
theorem ways (L : List S95) (hn : L.length ≤ 600) : ∃ Y N, OkW L Y N ∧ Evt (fun k => spec_l11Ways.f k L) (Y, N) := by
  have key := down (T := fun i => ∀ y n : List Int, y.length = i → n.length = i → (∀ j (h : j < L.length) (h1 : j < y.length) (h2 : j < n.length), (L[j].f2.toList ≠ [] → ∀ v, (∀ k, L.length < k → spec_l11At.f k L L[j].f2 = some v) → y[j] = v) ∧ (L[j].f3.toList ≠ [] → ∀ v, (∀ k, L.length < k → spec_l11At.f k L L[j].f3 = some v) → n[j] = v)) → ∃ Y N, OkW L Y N ∧ Evt (fun k => spec_l11Ways.l0 k L y n (i : Int)) (Y, N)) (n := L.length) ?_ ?_ L.length 0 (by omega) [] [] rfl rfl (by simp)
  · exact key
  · intro y n hy hm hj
    exact ⟨y, n, ⟨hy, hm, hj⟩, .succ (.const fun k => by simp only [spec_l11Ways.l0]; rw [if_neg (by omega)])⟩
  · intro i hi ih y n hy hm hj
    obtain ⟨a, ha, _⟩ := atS L L[i].f2 (by omega)
    obtain ⟨b, hb, _⟩ := atS L L[i].f3 (by omega)
    have ext : ∀ u v : Int, (L[i].f2.toList ≠ [] → u = a) → (L[i].f3.toList ≠ [] → v = b) → ∃ Y N, OkW L Y N ∧ Evt (fun k => spec_l11Ways.l0 k L (y ++ [u]) (n ++ [v]) ((i + 1 : Nat) : Int)) (Y, N) := fun u v hu hv => by
      refine ih (y ++ [u]) (n ++ [v]) (by simp; omega) (by simp; omega) (fun j h h1 h2 => ?_)
      rcases Nat.lt_or_ge j i with h4 | h4
      · rw [List.getElem_append_left (by omega), List.getElem_append_left (by omega)]
        exact hj j h (by omega) (by omega)
      · have : j = i := by simp at h1; omega
        subst this
        have e1 : (y ++ [u])[j] = u := by rw [List.getElem_append_right (by omega)]; simp
        have e2 : (n ++ [v])[j] = v := by rw [List.getElem_append_right (by omega)]; simp
        rw [e1, e2]
        refine ⟨fun h5 w h6 => ?_, fun h5 w h6 => ?_⟩
        · rw [hu h5]
          exact Option.some.inj ((ha (L.length + 1) (by omega)).symm.trans (h6 (L.length + 1) (by omega)))
        · rw [hv h5]
          exact Option.some.inj ((hb (L.length + 1) (by omega)).symm.trans (h6 (L.length + 1) (by omega)))
    by_cases c2 : L[i].f2.toList = []
    · by_cases c3 : L[i].f3.toList = []
      · obtain ⟨Y, N, h1, K, h2⟩ := ext (-1) (-1) (fun h => absurd c2 h) (fun h => absurd c3 h)
        refine ⟨Y, N, h1, .succ ⟨K, fun k hk => ?_⟩⟩
        simp only [spec_l11Ways.l0]
        rw [if_pos (by omega), if_pos (by omega), nrd_T95 L i hi, if_pos c2, if_pos c3, if_pos (by omega), if_pos (by omega), wsucc hi (by omega)]
        exact h2 k hk
      · obtain ⟨Y, N, h1, K, h2⟩ := ext (-1) b (fun h => absurd c2 h) (fun _ => rfl)
        refine ⟨Y, N, h1, .succ ⟨K + L.length + 1, fun k hk => ?_⟩⟩
        simp only [spec_l11Ways.l0]
        rw [if_pos (by omega), if_pos (by omega), nrd_T95 L i hi, if_pos c2, if_neg c3, hb k (by omega)]
        simp only [Option.bind_some]
        rw [if_pos (by omega), if_pos (by omega), wsucc hi (by omega)]
        exact h2 k (by omega)
    · by_cases c3 : L[i].f3.toList = []
      · obtain ⟨Y, N, h1, K, h2⟩ := ext a (-1) (fun _ => rfl) (fun h => absurd c3 h)
        refine ⟨Y, N, h1, .succ ⟨K + L.length + 1, fun k hk => ?_⟩⟩
        simp only [spec_l11Ways.l0]
        rw [if_pos (by omega), if_pos (by omega), nrd_T95 L i hi, if_neg c2, ha k (by omega)]
        simp only [Option.bind_some]
        rw [if_pos c3, if_pos (by omega), if_pos (by omega), wsucc hi (by omega)]
        exact h2 k (by omega)
      · obtain ⟨Y, N, h1, K, h2⟩ := ext a b (fun _ => rfl) (fun _ => rfl)
        refine ⟨Y, N, h1, .succ ⟨K + L.length + 1, fun k hk => ?_⟩⟩
        simp only [spec_l11Ways.l0]
        rw [if_pos (by omega), if_pos (by omega), nrd_T95 L i hi, if_neg c2, ha k (by omega)]
        simp only [Option.bind_some]
        rw [if_neg c3, hb k (by omega)]
        simp only [Option.bind_some]
        rw [if_pos (by omega), if_pos (by omega), wsucc hi (by omega)]
        exact h2 k (by omega)
/-- What both sides ask of a way. -/
theorem far_eq (o B : List Int) (i y : Nat) (hB : B.length = o.length) (hb : ∀ j (h : j < B.length), B[j] = pre o j) (hn : o.length ≤ 600) (ho : ∀ j (h : j < o.length), 0 ≤ o[j] ∧ o[j] ≤ 3) (hi : i < o.length) (hy : i < y) (hy' : y < o.length) (h1 : o[i] = 1) :
    wrap64 (wrap64 (rd B (y : Int) - rd B (i : Int)) - 1) = pre o y - pre o (i + 1) := by
  have b1 := pre_bound ho y (by omega)
  have b2 := pre_bound ho i (by omega)
  rw [nrdI B y (by omega), nrdI B i (by omega), hb y (by omega), hb i (by omega), pre_succ hi, h1]
  rw [w64 (x := pre o y - pre o i) (by omega) (by omega), w64 (by omega) (by omega)]
  omega
theorem round (L : List S95) (hn : L.length ≤ 600) (hS : SAll L) (hI : IAll L) (o Y N B : List Int) (ho : OkS L o) (hW : OkW L Y N) (hB : B.length = o.length) (hb : ∀ j (h : j < B.length), B[j] = pre o j) (r : Int) :
    ∃ c f, OkS L c ∧ (f = true → ones c < ones o) ∧ (∀ R, Evt (fun k => if f = true then spec_Sizes.l1 k L c Y N (wrap64 (r + 1)) else some c) R → Evt (fun k => spec_Sizes.l2 k L o Y N r B false ((0 : Nat) : Int)) R) ∧ (∀ R, Evt (fun k => impl_Sizes.l1 k L c f) R → Evt (fun k => impl_Sizes.l2 k L o false o L (L.length : Int) ((0 : Nat) : Int)) R) := by
  have ho' := ho
  obtain ⟨ol, o3, oa, _⟩ := ho
  obtain ⟨wy, wn, wj⟩ := hW
  have key := down (T := fun i => ∀ (c : List Int) (f : Bool), OkS L c → (∀ j (h : j < c.length) (h' : j < o.length), i ≤ j → c[j] = o[j]) → ones c ≤ ones o → (f = true → ones c < ones o) →
    ∃ c' f', OkS L c' ∧ (f' = true → ones c' < ones o) ∧ (∀ R, Evt (fun k => if f' = true then spec_Sizes.l1 k L c' Y N (wrap64 (r + 1)) else some c') R → Evt (fun k => spec_Sizes.l2 k L c Y N r B f (i : Int)) R) ∧ (∀ R, Evt (fun k => impl_Sizes.l1 k L c' f') R → Evt (fun k => impl_Sizes.l2 k L o f c L (L.length : Int) (i : Int)) R)) (n := L.length) ?_ ?_ L.length 0 (by omega) o false ho' (fun _ _ _ _ => rfl) (Nat.le_refl _) (fun h => by cases h)
  · exact key
  · intro c f hc _ _ h2
    refine ⟨c, f, hc, h2, fun R hR => .succ ?_, fun R hR => .succ ?_⟩
    · obtain ⟨K, hK⟩ := hR
      refine ⟨K, fun k hk => ?_⟩
      simp only [spec_Sizes.l2]
      rw [if_neg (by omega)]
      exact hK k hk
    · obtain ⟨K, hK⟩ := hR
      refine ⟨K, fun k hk => ?_⟩
      simp only [impl_Sizes.l2]
      rw [if_neg (by omega)]
      exact hK k hk
  · intro i hi ih c f hc hj h1 h2
    have cl := hc.1
    have ws := wsucc hi (show L.length ≤ 9223372036854775807 by omega)
    have skip : (∀ k, spec_Sizes.l2 (k + 2) L c Y N r B f (i : Int) = spec_Sizes.l2 k L c Y N r B f ((i + 1 : Nat) : Int)) → (∀ k, impl_Sizes.l2 (k + 2) L o f c L (L.length : Int) (i : Int) = impl_Sizes.l2 k L o f c L (L.length : Int) ((i + 1 : Nat) : Int)) →
        ∃ c' f', OkS L c' ∧ (f' = true → ones c' < ones o) ∧ (∀ R, Evt (fun k => if f' = true then spec_Sizes.l1 k L c' Y N (wrap64 (r + 1)) else some c') R → Evt (fun k => spec_Sizes.l2 k L c Y N r B f (i : Int)) R) ∧ (∀ R, Evt (fun k => impl_Sizes.l1 k L c' f') R → Evt (fun k => impl_Sizes.l2 k L o f c L (L.length : Int) (i : Int)) R) := fun eS eI => by
      obtain ⟨c', f', a1, a2, a3, a4⟩ := ih c f hc (fun j h h' hij => hj j h h' (by omega)) h1 h2
      refine ⟨c', f', a1, a2, fun R hR => ?_, fun R hR => ?_⟩
      · obtain ⟨K, hK⟩ := a3 R hR
        refine ⟨K + 2, fun k hk => ?_⟩
        obtain ⟨k, rfl⟩ : ∃ m, k = m + 2 := ⟨k - 2, by omega⟩
        exact (eS k).trans (hK k (by omega))
      · obtain ⟨K, hK⟩ := a4 R hR
        refine ⟨K + 2, fun k hk => ?_⟩
        obtain ⟨k, rfl⟩ : ∃ m, k = m + 2 := ⟨k - 2, by omega⟩
        exact (eI k).trans (hK k (by omega))
    by_cases ha : 3 ≤ L[i].f1.f0 ∧ L[i].f1.f0 ≤ 6
    · have hio : i < o.length := by omega
      have hic : i < c.length := by omega
      have ec : c[i] = o[i] := hj i hic hio (Nat.le_refl _)
      by_cases e3 : o[i] = 3
      · refine skip (fun k => ?_) (fun k => ?_)
        · simp only [spec_Sizes.l2, spec_Sizes.j3]
          rw [if_pos (by omega), if_pos (by omega), nrd_T95 L i hi]
          simp only [askS, Option.bind_some, decide_eq_true_eq]
          rw [if_pos ha, if_pos (by omega), nrdI c i hic, ec, e3, if_pos (by simp), ws]
        · simp only [impl_Sizes.l2, impl_Sizes.j3]
          rw [if_pos (by omega), if_pos (by omega), if_pos (by omega), nrd_T95 L i hi]
          simp only [askI, Option.bind_some, decide_eq_true_eq]
          rw [if_pos ha, if_pos (by omega), nrdI o i hio, e3, if_pos (by simp), ws]
      · have e1 : o[i] = 1 := (oa i hio hi ha).resolve_right e3
        obtain ⟨y, y1, y2, y3, y4, y5⟩ := wayTo (by omega) hS hI hi ha L[i].f2 (.inl rfl)
        obtain ⟨z, z1, z2, z3, z4, z5⟩ := wayTo (by omega) hS hI hi ha L[i].f3 (.inr rfl)
        have hY : rd Y (i : Int) = (y : Int) := by rw [nrdI Y i (by omega)]; exact (wj i hi (by omega) (by omega)).1 y3 _ y4
        have hN : rd N (i : Int) = (z : Int) := by rw [nrdI N i (by omega)]; exact (wj i hi (by omega) (by omega)).2 z3 _ z4
        have ey := far_eq o B i y hB hb (by omega) o3 hio y1 (by omega) e1
        have ez := far_eq o B i z hB hb (by omega) o3 hio z1 (by omega) e1
        obtain ⟨K1, b1⟩ := betw o (by omega) o3 y (by omega) (y - (i + 1)) (i + 1) 0 (by omega) (by omega) (by omega)
        obtain ⟨K2, b2⟩ := betw o (by omega) o3 z (by omega) (z - (i + 1)) (i + 1) 0 (by omega) (by omega) (by omega)
        dsimp only at b1 b2
        have g1 : ∀ k, K1 + L.length < k → impl_between.f k L o (i : Int) L[i].f2 = some (pre o y - pre o (i + 1)) := fun k hk => by
          simp only [impl_between.f, y5 k (by omega), Option.bind_some, ws, b1 k (by omega)]
          exact congrArg some (by omega)
        have g2 : ∀ k, K2 + L.length < k → impl_between.f k L o (i : Int) L[i].f3 = some (pre o z - pre o (i + 1)) := fun k hk => by
          simp only [impl_between.f, z5 k (by omega), Option.bind_some, ws, b2 k (by omega)]
          exact congrArg some (by omega)
        generalize pre o y - pre o (i + 1) = gy at ey g1
        generalize pre o z - pre o (i + 1) = gz at ez g2
        have n3 : ¬ (rd c (i : Int) == 3) = true := by rw [nrdI c i hic, ec, e1]; simp
        have m3 : ¬ (rd o (i : Int) == 3) = true := by rw [nrdI o i hio, e1]; simp
        by_cases far : gy > 15 ∨ gz > 15
        · have hs := ones_set c i hic (ec.trans e1)
          obtain ⟨c', f', a1, a2, a3, a4⟩ := ih (c.set i 3) true (hc.set i hi ha) (fun j h h' hij => by
            rw [List.getElem_set_ne (by omega)]
            rw [List.length_set] at h
            exact hj j h h' (by omega)) (by omega) (fun _ => by omega)
          refine ⟨c', f', a1, a2, fun R hR => ?_, fun R hR => ?_⟩
          · obtain ⟨K, hK⟩ := a3 R hR
            refine ⟨K + 2, fun k hk => ?_⟩
            obtain ⟨k, rfl⟩ : ∃ m, k = m + 2 := ⟨k - 2, by omega⟩
            simp only [spec_Sizes.l2, spec_Sizes.j3]
            rw [if_pos (by omega), if_pos (by omega), nrd_T95 L i hi]
            simp only [askS, Option.bind_some, decide_eq_true_eq]
            rw [if_pos ha, if_pos (by omega), if_neg n3, if_pos (by omega), if_pos (by omega), hY, if_pos (by omega), if_pos (by omega), if_pos (by omega), ey]
            by_cases q : gy > 15
            · rw [if_pos q, if_pos (by omega), ws, Int.toNat_natCast]
              exact hK k (by omega)
            · rw [if_neg q, if_pos (by omega), hN, if_pos (by omega), if_pos (by omega), ez, if_pos (far.resolve_left q), if_pos (by omega), ws, Int.toNat_natCast]
              exact hK k (by omega)
          · obtain ⟨K, hK⟩ := a4 R hR
            refine ⟨K + K1 + K2 + L.length + 3, fun k hk => ?_⟩
            obtain ⟨k, rfl⟩ : ∃ m, k = m + 2 := ⟨k - 2, by omega⟩
            simp only [impl_Sizes.l2, impl_Sizes.j3]
            rw [if_pos (by omega), if_pos (by omega), if_pos (by omega), nrd_T95 L i hi]
            simp only [askI, Option.bind_some, decide_eq_true_eq]
            rw [if_pos ha, if_pos (by omega), if_neg m3, g1 k (by omega)]
            simp only [Option.bind_some]
            by_cases q : gy > 15
            · rw [if_pos q, if_pos (by omega), if_pos (by omega), ws, Int.toNat_natCast]
              exact hK k (by omega)
            · rw [if_neg q, g2 k (by omega)]
              simp only [Option.bind_some]
              rw [if_pos (far.resolve_left q), if_pos (by omega), if_pos (by omega), ws, Int.toNat_natCast]
              exact hK k (by omega)
        · have q1 : ¬ gy > 15 := fun h => far (.inl h)
          have q2 : ¬ gz > 15 := fun h => far (.inr h)
          obtain ⟨c', f', a1, a2, a3, a4⟩ := ih c f hc (fun j h h' hij => hj j h h' (by omega)) h1 h2
          refine ⟨c', f', a1, a2, fun R hR => ?_, fun R hR => ?_⟩
          · obtain ⟨K, hK⟩ := a3 R hR
            refine ⟨K + 2, fun k hk => ?_⟩
            obtain ⟨k, rfl⟩ : ∃ m, k = m + 2 := ⟨k - 2, by omega⟩
            simp only [spec_Sizes.l2, spec_Sizes.j3]
            rw [if_pos (by omega), if_pos (by omega), nrd_T95 L i hi]
            simp only [askS, Option.bind_some, decide_eq_true_eq]
            rw [if_pos ha, if_pos (by omega), if_neg n3, if_pos (by omega), if_pos (by omega), hY, if_pos (by omega), if_pos (by omega), if_pos (by omega), ey, if_neg q1, if_pos (by omega), hN, if_pos (by omega), if_pos (by omega), ez, if_neg q2, ws]
            exact hK k (by omega)
          · obtain ⟨K, hK⟩ := a4 R hR
            refine ⟨K + K1 + K2 + L.length + 3, fun k hk => ?_⟩
            obtain ⟨k, rfl⟩ : ∃ m, k = m + 2 := ⟨k - 2, by omega⟩
            simp only [impl_Sizes.l2, impl_Sizes.j3]
            rw [if_pos (by omega), if_pos (by omega), if_pos (by omega), nrd_T95 L i hi]
            simp only [askI, Option.bind_some, decide_eq_true_eq]
            rw [if_pos ha, if_pos (by omega), if_neg m3, g1 k (by omega)]
            simp only [Option.bind_some]
            rw [if_neg q1, g2 k (by omega)]
            simp only [Option.bind_some]
            rw [if_neg q2, ws]
            exact hK k (by omega)
    · refine skip (fun k => ?_) (fun k => ?_)
      · simp only [spec_Sizes.l2, spec_Sizes.j3]
        rw [if_pos (by omega), if_pos (by omega), nrd_T95 L i hi]
        simp only [askS, Option.bind_some, decide_eq_true_eq]
        rw [if_neg ha, if_pos trivial, ws]
      · simp only [impl_Sizes.l2, impl_Sizes.j3]
        rw [if_pos (by omega), if_pos (by omega), if_pos (by omega), nrd_T95 L i hi]
        simp only [askI, Option.bind_some, decide_eq_true_eq]
        rw [if_neg ha, if_pos trivial, ws]
theorem rounds (L : List S95) (hn : L.length ≤ 600) (hS : SAll L) (hI : IAll L) (Y N : List Int) (hW : OkW L Y N) : ∀ (m : Nat) (o : List Int) (r : Nat), ones o ≤ m → ones o + r ≤ L.length → OkS L o →
    ∃ O, OkS L O ∧ Evt (fun k => spec_Sizes.l1 k L o Y N (r : Int)) O ∧ Evt (fun k => impl_Sizes.l1 k L o true) O := by
  intro m
  induction m with
  | zero =>
    intro o r hm hr ho
    obtain ⟨B, hB, hb, K0, b0⟩ := begins o (by have := ho.1; omega) ho.2.1
    obtain ⟨c, f, hc, hf, h1, h2⟩ := round L hn hS hI o Y N B ho hW hB hb (r : Int)
    cases f with
    | true => have := hf rfl; omega
    | false =>
      obtain ⟨K1, g1⟩ := h1 c (.const fun _ => by rw [if_neg (by simp)])
      obtain ⟨K2, g2⟩ := h2 c (.succ (.const fun k => by simp only [impl_Sizes.l1]; rw [if_neg (by simp)]))
      dsimp only at b0 g1 g2
      refine ⟨c, hc, .succ ⟨K0 + K1, fun k hk => ?_⟩, .succ ⟨K2, fun k hk => ?_⟩⟩
      · simp only [spec_Sizes.l1]
        rw [if_pos (by omega), b0 k (by omega)]
        exact g1 k (by omega)
      · have e : ([] : List Int) ++ o = o := rfl
        simp only [impl_Sizes.l1, Option.bind_some, if_true]
        rw [if_pos (by have := ho.1; simp; omega)]
        exact g2 k hk
  | succ m ih =>
    intro o r hm hr ho
    obtain ⟨B, hB, hb, K0, b0⟩ := begins o (by have := ho.1; omega) ho.2.1
    obtain ⟨c, f, hc, hf, h1, h2⟩ := round L hn hS hI o Y N B ho hW hB hb (r : Int)
    dsimp only at b0
    have fin : ∀ R, Evt (fun k => if f = true then spec_Sizes.l1 k L c Y N (wrap64 ((r : Int) + 1)) else some c) R → Evt (fun k => impl_Sizes.l1 k L c f) R → Evt (fun k => spec_Sizes.l1 k L o Y N (r : Int)) R ∧ Evt (fun k => impl_Sizes.l1 k L o true) R := fun R r1 r2 => by
      obtain ⟨K1, g1⟩ := h1 R r1
      obtain ⟨K2, g2⟩ := h2 R r2
      dsimp only at g1 g2
      refine ⟨.succ ⟨K0 + K1, fun k hk => ?_⟩, .succ ⟨K2, fun k hk => ?_⟩⟩
      · simp only [spec_Sizes.l1]
        rw [if_pos (by omega), b0 k (by omega)]
        exact g1 k (by omega)
      · simp only [impl_Sizes.l1, Option.bind_some, if_true]
        rw [if_pos (by have := ho.1; simp; omega)]
        exact g2 k hk
    cases f with
    | true =>
      have hlt := hf rfl
      obtain ⟨O, hO, i1, i2⟩ := ih c (r + 1) (by omega) (by omega) hc
      have ew : wrap64 ((r : Int) + 1) = ((r + 1 : Nat) : Int) := by unfold wrap64; omega
      exact ⟨O, hO, fin O (i1.congr fun k => by rw [if_pos rfl, ew]) i2⟩
    | false =>
      exact ⟨c, hc, fin c (.const fun _ => by rw [if_neg (by simp)]) (.succ (.const fun k => by simp only [impl_Sizes.l1]; rw [if_neg (by simp)]))⟩
theorem sizes_l0 (L : List S95) (hn : L.length ≤ 600) (hS : SAll L) (hI : IAll L) : ∃ O, OkS L O ∧ Evt (fun k => spec_Sizes.l0 k L [] ((0 : Nat) : Int)) O ∧ Evt (fun k => impl_Sizes.l0 k L [] L (L.length : Int) ((0 : Nat) : Int)) O := by
  have H : ∀ j (h : j < L.length), L[j].f1.f0 = 0 → PZ L[j] := fun j h e => by
    obtain ⟨w0, h0⟩ := fstI L (by omega) L[j].f0 0 (by omega)
    obtain ⟨w2, h2⟩ := fstI L (by omega) L[j].f2 (j + 1) h
    obtain ⟨w3, h3⟩ := fstI L (by omega) L[j].f3 (j + 1) h
    rcases hI j h w0 w2 w3 h0 h2 h3 with h4 | h4
    · exact h4.1
    · exact absurd e h4.1
  refine down (T := fun i => ∀ o : List Int, o.length = i → (∀ j (h : j < o.length) (h' : j < L.length), (0 ≤ o[j] ∧ o[j] ≤ 3) ∧ (3 ≤ L[j].f1.f0 ∧ L[j].f1.f0 ≤ 6 → o[j] = 1 ∨ o[j] = 3) ∧ (¬ (3 ≤ L[j].f1.f0 ∧ L[j].f1.f0 ≤ 6) → o[j] = if L[j].f1.f0 = 0 then 0 else 1)) → ∃ O, OkS L O ∧ Evt (fun k => spec_Sizes.l0 k L o (i : Int)) O ∧ Evt (fun k => impl_Sizes.l0 k L o L (L.length : Int) (i : Int)) O) (n := L.length) ?_ ?_ L.length 0 (by omega) [] rfl (by simp)
  · intro o hl hj
    obtain ⟨Y, N, hW, K0, w0⟩ := ways L hn
    have ho : OkS L o := ⟨hl, fun j h => (hj j h (by omega)).1, fun j h h' => (hj j h h').2.1, fun j h h' => (hj j h h').2.2⟩
    obtain ⟨O, hO, ⟨K1, h1⟩, ⟨K2, h2⟩⟩ := rounds L hn hS hI Y N hW (ones o) o 0 (Nat.le_refl _) (by have := ones_le o; omega) ho
    dsimp only at w0 h1 h2
    refine ⟨O, hO, .succ ⟨K0 + K1, fun k hk => ?_⟩, .succ ⟨K2, fun k hk => ?_⟩⟩
    · simp only [spec_Sizes.l0]
      rw [if_neg (by omega), w0 k (by omega)]
      exact h1 k (by omega)
    · simp only [impl_Sizes.l0]
      rw [if_neg (by omega)]
      exact h2 k hk
  · intro i hi ih o hl hj
    have ws := wsucc hi (show L.length ≤ 9223372036854775807 by omega)
    have ext : ∀ v : Int, (0 ≤ v ∧ v ≤ 3) → (3 ≤ L[i].f1.f0 ∧ L[i].f1.f0 ≤ 6 → v = 1 ∨ v = 3) → (¬ (3 ≤ L[i].f1.f0 ∧ L[i].f1.f0 ≤ 6) → v = if L[i].f1.f0 = 0 then 0 else 1) → ∃ O, OkS L O ∧ Evt (fun k => spec_Sizes.l0 k L (o ++ [v]) ((i + 1 : Nat) : Int)) O ∧ Evt (fun k => impl_Sizes.l0 k L (o ++ [v]) L (L.length : Int) ((i + 1 : Nat) : Int)) O := fun v h1 h2 h3 => by
      refine ih (o ++ [v]) (by simp; omega) (fun j h h' => ?_)
      rcases Nat.lt_or_ge j i with h4 | h4
      · rw [List.getElem_append_left (by omega)]
        exact hj j (by omega) h'
      · have : j = i := by simp at h; omega
        subst this
        have e1 : (o ++ [v])[j] = v := by rw [List.getElem_append_right (by omega)]; simp
        rw [e1]
        exact ⟨h1, h2, h3⟩
    by_cases hp : L[i].f1.f0 = 0
    · obtain ⟨a, b, c, d⟩ := H i hi hp
      obtain ⟨O, hO, ⟨K1, h1⟩, ⟨K2, h2⟩⟩ := ext 0 (by omega) (fun h => by omega) (fun _ => by rw [if_pos hp])
      dsimp only at h1 h2
      refine ⟨O, hO, .succ ⟨K1, fun k hk => ?_⟩, .succ ⟨K2, fun k hk => ?_⟩⟩
      · simp only [spec_Sizes.l0, spec_l11Place.f]
        rw [if_pos (by omega), if_pos (by omega), nrd_T95 L i hi]
        simp only [Option.bind_some]
        rw [if_pos (by simp [a, b, c, d]), if_pos (by omega), ws]
        exact h1 k hk
      · simp only [impl_Sizes.l0, impl_Line_isPlace.f]
        rw [if_pos (by omega), if_pos (by omega), if_pos (by omega), nrd_T95 L i hi]
        simp only [Option.bind_some]
        rw [if_pos (by simp [hp]), if_pos (by omega), ws]
        exact h2 k hk
    · obtain ⟨O, hO, ⟨K1, h1⟩, ⟨K2, h2⟩⟩ := ext 1 (by omega) (fun _ => .inl rfl) (fun _ => by rw [if_neg hp])
      dsimp only at h1 h2
      refine ⟨O, hO, .succ ⟨K1, fun k hk => ?_⟩, .succ ⟨K2, fun k hk => ?_⟩⟩
      · simp only [spec_Sizes.l0, spec_l11Place.f]
        rw [if_pos (by omega), if_pos (by omega), nrd_T95 L i hi]
        simp only [Option.bind_some]
        rw [if_neg (by simp [hp]), if_pos (by omega), ws]
        exact h1 k hk
      · simp only [impl_Sizes.l0, impl_Line_isPlace.f]
        rw [if_pos (by omega), if_pos (by omega), if_pos (by omega), nrd_T95 L i hi]
        simp only [Option.bind_some]
        rw [if_neg (by simp [hp]), if_pos (by omega), ws]
        exact h2 k hk
theorem sizes (L : List S95) (hn : L.length ≤ 1048576) : ∃ O : List Int, Evt (fun k => spec_Sizes.f k L) O ∧ Evt (fun k => impl_Sizes.f k L) O ∧ O.length ≤ 600 ∧ (O ≠ [] → L.length ≤ 600 ∧ SAll L ∧ IAll L ∧ OkS L O ∧ ∃ h : L.length - 1 < L.length, L[L.length - 1].f1.f0 = 8) ∧ (O = [] → L.length = 0 ∨ O.length = 0) := by
  obtain ⟨b, ⟨K1, h1⟩, ⟨K2, h2⟩, hb⟩ := linesOk L hn
  dsimp only at h1 h2
  cases b with
  | false =>
    refine ⟨[], ⟨K1, fun k hk => ?_⟩, ⟨K2, fun k hk => ?_⟩, by simp, fun h => absurd rfl h, fun _ => .inr rfl⟩
    · simp only [spec_Sizes.f, h1 k hk, Option.bind_some, Bool.false_eq_true, if_false]
    · simp only [impl_Sizes.f, h2 k hk, Option.bind_some, Bool.false_eq_true, if_false]
  | true =>
    obtain ⟨hl, hS, hI, h8⟩ := hb rfl
    obtain ⟨O, hO, ⟨K3, h3⟩, ⟨K4, h4⟩⟩ := sizes_l0 L hl.2 hS hI
    dsimp only at h3 h4
    refine ⟨O, ⟨K1 + K3, fun k hk => ?_⟩, ⟨K2 + K4, fun k hk => ?_⟩, by have := hO.1; omega, fun _ => ⟨hl.2, hS, hI, hO, h8⟩, fun h => .inr (by rw [h]; rfl)⟩
    · simp only [spec_Sizes.f, h1 k (by omega), Option.bind_some, if_true]
      exact h3 k (by omega)
    · simp only [impl_Sizes.f, h2 k (by omega), Option.bind_some, if_true]
      exact h4 k (by omega)
theorem rdn93 (l : List S93) (i : Nat) (h : i < l.length) : rd_T93 l (i : Int) = l[i] := getD_lt _ h
/-- A jump's way. -/
theorem wayJ {L : List S95} (hn : L.length ≤ 1048576) (hS : SAll L) (hI : IAll L) {i : Nat} (hi : i < L.length) (ha : L[i].f1.f0 = 7) :
    ∃ y : Nat, i < y ∧ y < L.length ∧ L[i].f2.toList ≠ [] ∧ (∀ k, L.length < k → spec_l11At.f k L L[i].f2 = some (y : Int)) ∧ (∀ k, L.length < k → impl_placeOf.f k L L[i].f2 (i : Int) = some (y : Int)) := by
  have H : ∀ j (h : j < L.length), L[j].f1.f0 = 0 → PZ L[j] := fun j h e => by
    obtain ⟨w0, h0⟩ := fstI L hn L[j].f0 0 (by omega)
    obtain ⟨w2, h2⟩ := fstI L hn L[j].f2 (j + 1) h
    obtain ⟨w3, h3⟩ := fstI L hn L[j].f3 (j + 1) h
    rcases hI j h w0 w2 w3 h0 h2 h3 with h4 | h4
    · exact h4.1
    · exact absurd e h4.1
  obtain ⟨v, hv, fv⟩ := atS L L[i].f2 hn
  obtain ⟨w, hw, fw⟩ := atI L L[i].f2 hn i hi
  have hgt : v > i := by
    obtain ⟨v0, f0⟩ := fstS L hn L[i].f0
    obtain ⟨v3, f3⟩ := fstS L hn L[i].f3
    have hl := hS i hi v0 v v3 f0 fv f3
    have hz : ¬ PZ L[i] := fun h => by unfold PZ at h; omega
    rcases hl with h | ⟨_, _, _, _, _, _, h | h | h⟩
    · exact absurd h.1 hz
    · exact h.2.2
    · omega
    · exact absurd ha h.1
  rcases fv with ⟨m, _, m2, m3, m4, m5⟩ | ⟨m1, _⟩
  · have hwm : w = (m : Int) := by
      rcases fw with ⟨u, u1, u2, u3, u4, u5⟩ | ⟨_, u2⟩
      · have q1 : ¬ m < u := fun h => u5 m (by omega) h ((qs_qi H _ m).1 m3)
        have q2 : ¬ u < m := fun h => m5 u (Nat.zero_le _) h ((qs_qi H _ u).2 u3)
        omega
      · exact absurd ((qs_qi H _ m).1 m3) (u2 m (by omega) m2)
    refine ⟨m, by omega, m2, ?_, fun k hk => (hv k hk).trans (by rw [m4]), fun k hk => (hw k hk).trans (by rw [hwm])⟩
    obtain ⟨_, p1, p2⟩ := m3
    obtain ⟨v0, f0⟩ := fstS L hn L[m].f0
    obtain ⟨v2, f2⟩ := fstS L hn L[m].f2
    obtain ⟨v3, f3⟩ := fstS L hn L[m].f3
    rcases hS m m2 v0 v2 v3 f0 f2 f3 with h | h
    · intro e
      rw [← p2] at e
      rw [ByteArray.toList_eq] at e
      have h5 : L[m].f0.data.size = 0 := by simpa using congrArg List.length e
      have h6 : L[m].f0.size = L[m].f0.data.size := rfl
      have := h.2.1
      omega
    · exact absurd p1 h.1
  · omega
theorem askZero {L : List S95} (hn : L.length ≤ 1048576) (hS : SAll L) {i : Nat} (hi : i < L.length) (ha : ¬ L[i].f1.f0 = 0) : L[i].f1.f2 = 0 ∧ L[i].f1.f3 = 0 := by
  obtain ⟨v0, f0⟩ := fstS L hn L[i].f0
  obtain ⟨v2, f2⟩ := fstS L hn L[i].f2
  obtain ⟨v3, f3⟩ := fstS L hn L[i].f3
  rcases hS i hi v0 v2 v3 f0 f2 f3 with h | h
  · exact absurd h.1.1 ha
  · exact ⟨h.2.2.1, h.2.2.2.1⟩
theorem far_gen (o B : List Int) (i y : Nat) (q : Int) (hB : B.length = o.length) (hb : ∀ j (h : j < B.length), B[j] = pre o j) (hn : o.length ≤ 600) (ho : ∀ j (h : j < o.length), 0 ≤ o[j] ∧ o[j] ≤ 3) (hi : i < o.length) (hy : i < y) (hy' : y < o.length) (hq : 0 ≤ q) (hq' : q ≤ 10) :
    wrap64 (wrap64 (rd B (y : Int) - rd B (i : Int)) - q) = pre o y - pre o (i + 1) + (o[i] - q) := by
  have b1 := pre_bound ho y (by omega)
  have b2 := pre_bound ho i (by omega)
  have b3 := ho i hi
  rw [nrdI B y (by omega), nrdI B i (by omega), hb y (by omega), hb i (by omega), pre_succ hi]
  rw [w64 (x := pre o y - pre o i) (by omega) (by omega), w64 (by omega) (by omega)]
  omega
theorem lay_l0 (L : List S95) (hn : L.length ≤ 600) (hS : SAll L) (hI : IAll L) (o Y N B : List Int) (ho : OkS L o) (hW : OkW L Y N) (hB : B.length = o.length) (hb : ∀ j (h : j < B.length), B[j] = pre o j) (h8 : ∃ h : L.length - 1 < L.length, L[L.length - 1].f1.f0 = 8) :
    ∃ R : List S93 × Bool, R.1.length ≤ 2000 ∧ Evt (fun k => spec_Layout.l0 k L [] o Y N B [] ((0 : Nat) : Int)) R ∧ Evt (fun k => impl_Layout.l0 k L o [] L (L.length : Int) ((0 : Nat) : Int)) R := by
  obtain ⟨ol, o3, oa, ok⟩ := ho
  obtain ⟨wy, wn, wj⟩ := hW
  refine down (T := fun i => ∀ c : List S93, c.length ≤ 3 * i → (i = L.length → 1 ≤ c.length) → ∃ R : List S93 × Bool, R.1.length ≤ 2000 ∧ Evt (fun k => spec_Layout.l0 k L [] o Y N B c (i : Int)) R ∧ Evt (fun k => impl_Layout.l0 k L o c L (L.length : Int) (i : Int)) R) (n := L.length) ?_ ?_ L.length 0 (by omega) [] (by simp) (fun h => by obtain ⟨h, _⟩ := h8; omega)
  · intro c hc h1
    have h1 := h1 rfl
    by_cases hm : (c.length : Int) > 400
    · refine ⟨([], false), by simp, .succ (.const fun k => ?_), .succ (.const fun k => ?_)⟩
      · simp only [spec_Layout.l0]
        rw [if_neg (by omega), if_pos hm]
      · simp only [impl_Layout.l0, inI, Option.bind_some, decide_eq_true_eq]
        rw [if_neg (by omega), if_neg (by omega)]
    · refine ⟨(c, true), by show c.length ≤ _; omega, .succ (.const fun k => ?_), .succ (.const fun k => ?_)⟩
      · simp only [spec_Layout.l0]
        rw [if_neg (by omega), if_neg hm]
      · simp only [impl_Layout.l0, inI, Option.bind_some, decide_eq_true_eq]
        rw [if_neg (by omega), if_pos (by omega)]
  · intro i hi ih c hc _
    have ws := wsucc hi (show L.length ≤ 9223372036854775807 by omega)
    have hio : i < o.length := by omega
    have o0 : ¬ (o.length : Int) = 0 := by omega
    by_cases hp : L[i].f1.f0 = 0
    · have e0 : o[i] = 0 := by rw [ok i hio hi (by omega), if_pos hp]
      obtain ⟨R, hR, ⟨K1, g1⟩, ⟨K2, g2⟩⟩ := ih c (by omega) (fun h => by
        obtain ⟨h, e⟩ := h8
        have e2 : L.length - 1 = i := by omega
        have e3 : L[i].f1.f0 = 8 := by simpa only [e2] using e
        omega)
      dsimp only at g1 g2
      refine ⟨R, hR, .succ ⟨K1, fun k hk => ?_⟩, .succ ⟨K2, fun k hk => ?_⟩⟩
      · simp only [spec_Layout.l0]
        rw [if_pos (by omega), if_pos (by omega), if_pos (by omega), nrdI o i hio, if_pos e0, ws]
        exact g1 k hk
      · simp only [impl_Layout.l0, impl_Line_isPlace.f]
        rw [if_pos (by omega), if_pos (by omega), if_pos (by omega), if_neg o0, nrd_T95 L i hi]
        simp only [Option.bind_some]
        rw [if_pos (by simp [hp]), ws]
        exact g2 k hk
    have hz := askZero (by omega) hS hi hp
    have hnp : ¬ (L[i].f1.f0 == 0) = true := by simpa using hp
    by_cases c7 : L[i].f1.f0 = 7
    · have e1 : o[i] = 1 := by rw [ok i hio hi (by omega), if_neg hp]
      obtain ⟨y, y1, y2, y3, y4, y5⟩ := wayJ (by omega) hS hI hi c7
      have hY : rd Y (i : Int) = (y : Int) := by rw [nrdI Y i (by omega)]; exact (wj i hi (by omega) (by omega)).1 y3 _ y4
      have ey := far_gen o B i y 1 hB hb (by omega) o3 hio y1 (by omega) (by omega) (by omega)
      rw [e1] at ey
      obtain ⟨K0, b1⟩ := betw o (by omega) o3 y (by omega) (y - (i + 1)) (i + 1) 0 (by omega) (by omega) (by omega)
      dsimp only at b1
      have gI : ∀ k, K0 + L.length < k → impl_between.f k L o (i : Int) L[i].f2 = some (pre o y - pre o (i + 1)) := fun k hk => by
        simp only [impl_between.f, y5 k (by omega), Option.bind_some, ws, b1 k (by omega)]
        exact congrArg some (by omega)
      generalize pre o y - pre o (i + 1) = gy at ey gI
      have ey' : wrap64 (wrap64 (rd B (y : Int) - rd B (i : Int)) - 1) = gy := by rw [ey]; omega
      obtain ⟨R, hR, ⟨K1, g1⟩, ⟨K2, g2⟩⟩ := ih (c ++ [⟨L[i].f1.f0, gy, L[i].f1.f2, L[i].f1.f3⟩]) (by simp; omega) (fun _ => by simp)
      dsimp only at g1 g2
      refine ⟨R, hR, .succ ⟨K1, fun k hk => ?_⟩, .succ ⟨K2 + K0 + L.length + 1, fun k hk => ?_⟩⟩
      · simp only [spec_Layout.l0]
        rw [if_pos (by omega), if_pos (by omega), if_pos (by omega), nrdI o i hio, if_neg (by omega), if_neg (by omega), nrd_T95 L i hi, if_pos c7, if_pos (by omega), hY, if_pos (by omega), if_pos (by omega), if_pos (by omega), if_pos (by omega), ey', ws]
        exact g1 k hk
      · simp only [impl_Layout.l0, impl_Line_isPlace.f]
        rw [if_pos (by omega), if_pos (by omega), if_pos (by omega), if_neg o0, nrd_T95 L i hi]
        simp only [Option.bind_some]
        rw [if_neg hnp, if_pos c7, gI k (by omega)]
        simp only [Option.bind_some]
        rw [if_pos (by omega), ws]
        exact g2 k (by omega)
    by_cases ha : 3 ≤ L[i].f1.f0 ∧ L[i].f1.f0 ≤ 6
    · obtain ⟨y, y1, y2, y3, y4, y5⟩ := wayTo (by omega) hS hI hi ha L[i].f2 (.inl rfl)
      obtain ⟨z, z1, z2, z3, z4, z5⟩ := wayTo (by omega) hS hI hi ha L[i].f3 (.inr rfl)
      have hY : rd Y (i : Int) = (y : Int) := by rw [nrdI Y i (by omega)]; exact (wj i hi (by omega) (by omega)).1 y3 _ y4
      have hN : rd N (i : Int) = (z : Int) := by rw [nrdI N i (by omega)]; exact (wj i hi (by omega) (by omega)).2 z3 _ z4
      have ey := fun q => far_gen o B i y q hB hb (by omega) o3 hio y1 (by omega)
      have ez := fun q => far_gen o B i z q hB hb (by omega) o3 hio z1 (by omega)
      obtain ⟨K0, b1⟩ := betw o (by omega) o3 y (by omega) (y - (i + 1)) (i + 1) 0 (by omega) (by omega) (by omega)
      obtain ⟨K9, b2⟩ := betw o (by omega) o3 z (by omega) (z - (i + 1)) (i + 1) 0 (by omega) (by omega) (by omega)
      have p1 := pre_bound o3 y (by omega)
      have p2 := pre_bound o3 (i + 1) (by omega)
      dsimp only at b1 b2
      have gI : ∀ k, K0 + L.length < k → impl_between.f k L o (i : Int) L[i].f2 = some (pre o y - pre o (i + 1)) := fun k hk => by
        simp only [impl_between.f, y5 k (by omega), Option.bind_some, ws, b1 k (by omega)]
        exact congrArg some (by omega)
      have gJ : ∀ k, K9 + L.length < k → impl_between.f k L o (i : Int) L[i].f3 = some (pre o z - pre o (i + 1)) := fun k hk => by
        simp only [impl_between.f, z5 k (by omega), Option.bind_some, ws, b2 k (by omega)]
        exact congrArg some (by omega)
      have hgy : wrap64 (pre o y - pre o (i + 1) + 1) = pre o y - pre o (i + 1) + 1 := w64 (by omega) (by omega)
      generalize pre o y - pre o (i + 1) = gy at ey gI hgy
      generalize pre o z - pre o (i + 1) = gz at ez gJ
      rcases oa i hio hi ha with e1 | e3
      · have ey' : wrap64 (wrap64 (rd B (y : Int) - rd B (i : Int)) - 1) = gy := by rw [ey 1 (by omega) (by omega), e1]; omega
        have ez' : wrap64 (wrap64 (rd B (z : Int) - rd B (i : Int)) - 1) = gz := by rw [ez 1 (by omega) (by omega), e1]; omega
        obtain ⟨R, hR, ⟨K1, g1⟩, ⟨K2, g2⟩⟩ := ih (c ++ [⟨L[i].f1.f0, L[i].f1.f1, gy, gz⟩]) (by simp; omega) (fun _ => by simp)
        dsimp only at g1 g2
        refine ⟨R, hR, .succ ⟨K1, fun k hk => ?_⟩, ⟨K2 + K0 + K9 + L.length + 3, fun k hk => ?_⟩⟩
        · simp only [spec_Layout.l0]
          rw [if_pos (by omega), if_pos (by omega), if_pos (by omega), nrdI o i hio, if_neg (by omega), if_neg (by omega), nrd_T95 L i hi, if_neg c7]
          simp only [askS, Option.bind_some, decide_eq_true_eq]
          rw [if_pos ha, if_pos (by omega), hY, if_pos (by omega), if_pos (by omega), if_pos (by omega), if_pos (by omega), hN, if_pos (by omega), if_pos (by omega), if_pos (by omega), ey', ez', ws]
          exact g1 k hk
        · obtain ⟨k, rfl⟩ : ∃ m, k = m + 2 := ⟨k - 2, by omega⟩
          simp only [impl_Layout.l0, impl_Line_isPlace.f, impl_Layout.j1]
          rw [if_pos (by omega), if_pos (by omega), if_pos (by omega), if_neg o0, nrd_T95 L i hi]
          simp only [Option.bind_some, askI, decide_eq_true_eq]
          rw [if_neg hnp, if_neg c7, if_pos ha, if_pos (by omega), nrdI o i hio, e1, if_neg (by simp), if_pos ha, gI k (by omega)]
          simp only [Option.bind_some]
          rw [gJ k (by omega)]
          simp only [Option.bind_some]
          rw [if_pos (by omega), ws]
          exact g2 k (by omega)
      · have ey' : wrap64 (wrap64 (rd B (y : Int) - rd B (i : Int)) - 2) = gy + 1 := by rw [ey 2 (by omega) (by omega), e3]; omega
        have ez' : wrap64 (wrap64 (rd B (z : Int) - rd B (i : Int)) - 3) = gz := by rw [ez 3 (by omega) (by omega), e3]; omega
        obtain ⟨R, hR, ⟨K1, g1⟩, ⟨K2, g2⟩⟩ := ih (c ++ [⟨L[i].f1.f0, L[i].f1.f1, 0, 1⟩, ⟨7, gy + 1, 0, 0⟩, ⟨7, gz, 0, 0⟩]) (by simp; omega) (fun _ => by simp)
        dsimp only at g1 g2
        refine ⟨R, hR, .succ ⟨K1, fun k hk => ?_⟩, ⟨K2 + K0 + K9 + L.length + 3, fun k hk => ?_⟩⟩
        · simp only [spec_Layout.l0]
          rw [if_pos (by omega), if_pos (by omega), if_pos (by omega), nrdI o i hio, if_neg (by omega), if_pos e3, if_pos (by omega), hY, if_pos (by omega), if_pos (by omega), if_pos (by omega), if_pos (by omega), hN, if_pos (by omega), if_pos (by omega), nrd_T95 L i hi, ey', ez', hz.1]
          simp only [Option.bind_some]
          rw [if_pos (by simp; omega), ws]
          exact g1 k hk
        · obtain ⟨k, rfl⟩ : ∃ m, k = m + 2 := ⟨k - 2, by omega⟩
          simp only [impl_Layout.l0, impl_Line_isPlace.f, impl_Layout.j1]
          rw [if_pos (by omega), if_pos (by omega), if_pos (by omega), if_neg o0, nrd_T95 L i hi]
          simp only [Option.bind_some, askI, decide_eq_true_eq]
          rw [if_neg hnp, if_neg c7, if_pos ha, if_pos (by omega), nrdI o i hio, e3, if_pos (by simp), gI k (by omega)]
          simp only [Option.bind_some]
          rw [gJ k (by omega)]
          simp only [Option.bind_some]
          rw [if_pos (by simp; omega), hgy, ws]
          exact g2 k (by omega)
    · have e1 : o[i] = 1 := by rw [ok i hio hi ha, if_neg hp]
      obtain ⟨R, hR, ⟨K1, g1⟩, ⟨K2, g2⟩⟩ := ih (c ++ [⟨L[i].f1.f0, L[i].f1.f1, L[i].f1.f2, L[i].f1.f3⟩]) (by simp; omega) (fun _ => by simp)
      dsimp only at g1 g2
      refine ⟨R, hR, .succ ⟨K1, fun k hk => ?_⟩, ⟨K2 + 2, fun k hk => ?_⟩⟩
      · simp only [spec_Layout.l0]
        rw [if_pos (by omega), if_pos (by omega), if_pos (by omega), nrdI o i hio, if_neg (by omega), if_neg (by omega), nrd_T95 L i hi, if_neg c7]
        simp only [askS, Option.bind_some, decide_eq_true_eq]
        rw [if_neg ha, if_pos (by omega), ws]
        exact g1 k hk
      · obtain ⟨k, rfl⟩ : ∃ m, k = m + 2 := ⟨k - 2, by omega⟩
        simp only [impl_Layout.l0, impl_Line_isPlace.f, impl_Layout.j1]
        rw [if_pos (by omega), if_pos (by omega), if_pos (by omega), if_neg o0, nrd_T95 L i hi]
        simp only [Option.bind_some, askI, decide_eq_true_eq]
        rw [if_neg hnp, if_neg c7, if_neg ha, if_neg (by simp), if_neg ha, if_pos (by omega), ws]
        exact g2 k (by omega)
theorem layout (L : List S95) (hn : L.length ≤ 1048576) : ∃ R : List S93 × Bool, R.1.length ≤ 2000 ∧ Evt (fun k => spec_Layout.f k L) R ∧ Evt (fun k => impl_Layout.f k L) R := by
  obtain ⟨O, ⟨K1, h1⟩, ⟨K2, h2⟩, hO, hne, _⟩ := sizes L hn
  dsimp only at h1 h2
  by_cases he : O = []
  · subst he
    refine ⟨([], false), by simp, ⟨K1, fun k hk => ?_⟩, ⟨K2 + 1, fun k hk => ?_⟩⟩
    · simp only [spec_Layout.f, h1 k hk, Option.bind_some, List.length_nil]
      rw [if_pos (by omega)]
    · obtain ⟨k, rfl⟩ : ∃ m, k = m + 1 := ⟨k - 1, by omega⟩
      simp only [impl_Layout.f, h2 (k + 1) (by omega), Option.bind_some, impl_Layout.l0]
      by_cases hl : (0 : Int) < (L.length : Int)
      · rw [if_pos hl, if_pos (by omega), if_pos hl, if_pos (by simp)]
      · rw [if_neg hl]
        simp only [inI, Option.bind_some, decide_eq_true_eq]
        rw [if_neg (by simp)]
  · obtain ⟨hl, hS, hI, ho, h8⟩ := hne he
    obtain ⟨Y, N, hW, K3, h3⟩ := ways L hl
    obtain ⟨B, hB, hb, K4, h4⟩ := begins O (by omega) ho.2.1
    obtain ⟨R, hR, ⟨K5, h5⟩, ⟨K6, h6⟩⟩ := lay_l0 L hl hS hI O Y N B ho hW hB hb h8
    dsimp only at h3 h4 h5 h6
    have hpos : ¬ (O.length : Int) = 0 := fun h => he (List.eq_nil_of_length_eq_zero (by omega))
    refine ⟨R, hR, ⟨K1 + K3 + K4 + K5, fun k hk => ?_⟩, ⟨K2 + K6, fun k hk => ?_⟩⟩
    · simp only [spec_Layout.f, h1 k (by omega), h3 k (by omega), h4 k (by omega), Option.bind_some, if_neg hpos]
      exact h5 k (by omega)
    · simp only [impl_Layout.f, h2 k (by omega), Option.bind_some]
      exact h6 k (by omega)
theorem and255 (x : Int) : 0 ≤ Go.bits .and .i64 x 255 ∧ Go.bits .and .i64 x 255 ≤ 255 := by
  have h : ((BitVec.ofInt IntKind.i64.bits x) &&& (BitVec.ofInt IntKind.i64.bits 255)).toNat ≤ 255 := by
    rw [BitVec.toNat_and]
    exact Nat.le_trans Nat.and_le_right (by decide)
  have e : Go.bits .and .i64 x 255 = IntKind.i64.wrap ((((BitVec.ofInt IntKind.i64.bits x) &&& (BitVec.ofInt IntKind.i64.bits 255)).toNat : Nat) : Int) := rfl
  rw [e, IntKind.wrap_i64]
  omega
theorem byte {s : List Int} (hs : s.length ≤ 1048576) (p e : Int) (hp : 0 ≤ p) : ∃ b p' e', spec_l01Byte.f s p e = some (b, p', e') ∧ (0 ≤ b ∧ b ≤ 255) ∧ 0 ≤ p' := by
  unfold spec_l01Byte.f
  by_cases h : p < (s.length : Int)
  · rw [if_pos h, if_pos hp]
    exact ⟨_, _, _, rfl, and255 _, by rw [w64 (by omega) (by omega)]; omega⟩
  · rw [if_neg h]
    exact ⟨_, _, _, rfl, and255 _, hp⟩
theorem below {s : List Int} (hs : s.length ≤ 1048576) (p e : Int) (hp : 0 ≤ p) (n : Int) (h1 : 1 ≤ n) (h2 : n ≤ 256) : ∃ r p' e', spec_l01Below.f s p e n = some (r, p', e') ∧ (0 ≤ r ∧ r < n) ∧ 0 ≤ p' := by
  obtain ⟨b, p', e', hb, hr, hp'⟩ := byte hs p e hp
  unfold spec_l01Below.f
  rw [if_neg (by omega), if_pos h2, hb]
  simp only [Option.bind_some]
  rw [if_neg (by omega)]
  refine ⟨_, _, _, rfl, ?_, hp'⟩
  rw [Int.tmod_eq_emod_of_nonneg hr.1]
  exact ⟨Int.emod_nonneg _ (by omega), Int.emod_lt_of_pos _ (by omega)⟩
theorem once {s : List Int} (hs : s.length ≤ 1048576) (p e : Int) (hp : 0 ≤ p) (n : Int) (h1 : 1 ≤ n) (h2 : n ≤ 256) : ∃ r p' e', spec_l01Once.f s p e n = some (r, p', e') ∧ 0 ≤ p' := by
  obtain ⟨r, p', e', h, _, hp'⟩ := below hs p e hp n h1 h2
  exact ⟨_, p', e', by unfold spec_l01Once.f; rw [h]; rfl, hp'⟩
theorem pick {s : List Int} (hs : s.length ≤ 1048576) (p e : Int) (hp : 0 ≤ p) (l : List Int) (h1 : 1 ≤ (l.length : Int)) (h2 : (l.length : Int) ≤ 256) : ∃ v p' e', spec_l01PickInt.f s p e l = some (v, p', e') ∧ v ∈ l ∧ 0 ≤ p' := by
  obtain ⟨r, p', e', h, hr, hp'⟩ := below hs p e hp _ h1 h2
  refine ⟨rd l r, p', e', by unfold spec_l01PickInt.f; rw [h]; simp only [Option.bind_some]; rw [if_pos hr.1, if_pos hr.2], ?_, hp'⟩
  obtain ⟨i, rfl⟩ := Int.eq_ofNat_of_zero_le hr.1
  have hi : i < l.length := by omega
  have e : rd l (i : Int) = l[i] := getD_lt _ hi
  rw [e]
  exact List.getElem_mem hi
theorem half {s : List Int} (hs : s.length ≤ 1048576) (p e : Int) (hp : 0 ≤ p) : ∃ v p' e', spec_l04Half.f s p e = some (v, p', e') ∧ (0 ≤ v ∧ v ≤ 4294967295) ∧ 0 ≤ p' := by
  obtain ⟨r, p1, e1, h, hr, hp1⟩ := below hs p e hp 12 (by omega) (by omega)
  obtain ⟨v, p2, e2, g, hv, hp2⟩ := pick hs p1 e1 hp1 [0, 1, 2, 3, 5, 7, 255, 4294967295, 2147483648, r] (by simp) (by simp)
  refine ⟨v, p2, e2, by unfold spec_l04Half.f; rw [h]; simp only [Option.bind_some]; rw [g]; rfl, ?_, hp2⟩
  simp only [List.mem_cons, List.not_mem_nil, or_false] at hv
  omega
theorem newC (l : List Int) (hl : l.length ≤ 1048576) : ∃ e, Evt (fun k => spec_l01New.f k l) (l, 0, e) := by
  have key : ∀ (d i : Nat) (e : Int), i + d = l.length → ∃ e', Evt (fun k => spec_l01New.l0 k l e (i : Int)) (l, 0, e') := by
    intro d
    induction d with
    | zero =>
      intro i e h
      exact ⟨e, .succ (.const fun k => by simp only [spec_l01New.l0]; rw [if_neg (by omega)])⟩
    | succ d ih =>
      intro i e h
      by_cases h4 : (i : Int) < 4000
      · obtain ⟨e', K, hK⟩ := ih (i + 1) (Go.bits .and .i64 (wrap64 ((wrap64 ((wrap64 (e * 131)) + (wrap64 (rd l (i : Int))))) + 7)) 1073741823) (by omega)
        refine ⟨e', .succ ⟨K, fun k hk => ?_⟩⟩
        simp only [spec_l01New.l0]
        rw [if_pos (by omega), if_pos h4, if_pos (by omega), wsucc (show i < l.length by omega) (by omega)]
        exact hK k hk
      · exact ⟨e, .succ (.const fun k => by simp only [spec_l01New.l0]; rw [if_pos (by omega), if_neg h4])⟩
  exact key l.length 0 _ (by omega)
theorem figS (i : Nat) (hi : i < 10) : Evt (fun k => spec_Decimal.f k (i : Int)) (strOfNums [(48 + (i : Int)) % 256]) := by
  by_cases h : (i : Int) = 0
  · refine .const fun k => ?_
    simp only [spec_Decimal.f]
    rw [if_pos h, h]
    rfl
  · have ed : Int.tdiv (i : Int) 10 = 0 := by rw [Int.tdiv_eq_ediv_of_nonneg (by omega)]; omega
    have em : Int.tmod (i : Int) 10 = i := by rw [Int.tmod_eq_emod_of_nonneg (by omega)]; omega
    have e48 : Aside0 (wrap64 (48 + (i : Int)) = 48 + i) := ⟨w64 (by omega) (by omega)⟩
    have e0 : Aside0 (wrap64 0 = 0) := ⟨w64 (by omega) (by omega)⟩
    have hs : (strOfNums [(48 + (i : Int)) % 256] ++ (⟨#[]⟩ : ByteArray)) = strOfNums [(48 + (i : Int)) % 256] := by rw [show (⟨#[]⟩ : ByteArray) = ByteArray.empty from rfl, ByteArray.append_empty]
    have hz : (strOfNums [(48 + (i : Int)) % 256]).size = 1 := rfl
    have hd : decide ((i : Int) < 0) = false := decide_eq_false (by omega)
    refine .succ (.succ (.succ (.const fun k => ?_)))
    simp only [spec_Decimal.f]
    rw [if_neg h, hd]
    simp only [spec_Decimal.l0, ed, em, spec_l01Figure.f, e48.out, e0.out, if_true]
    rw [if_neg h, if_neg (by omega), if_pos (by omega)]
    simp only [Option.bind_some]
    rw [if_pos (by rw [hz]; show 1 + 0 ≤ _; omega), if_neg (by simp), hs]
theorem resT (a b : Int) : ∃ v, spec_ResultOf.f a b = some v := by
  simp only [spec_ResultOf.f, inS, Option.bind_some, decide_eq_true_eq]
  repeat' split
  all_goals exact ⟨_, rfl⟩
/-- Drawn lines: they are told, and they are not many. -/
theorem lines_l0 {s : List Int} (hs : s.length ≤ 1048576) (n : Nat) (hn : n ≤ 4) : ∀ (d i : Nat) (p e : Int) (L : List S95), i + d = n → 0 ≤ p → L.length ≤ 1 + 30 * i → ∃ R p' e', Evt (fun k => spec_l11Lines.l0 k L (n : Int) (i : Int) s p e) (R, p', e') ∧ 1 ≤ R.length ∧ R.length ≤ 200 ∧ 0 ≤ p' := by
  intro d
  induction d with
  | zero =>
    intro i p e L hi hp hL
    obtain ⟨x, p1, e1, h1, hx, hp1⟩ := below hs p e hp 6 (by omega) (by omega)
    obtain ⟨y, p2, e2, h2, hy, hp2⟩ := below hs p1 e1 hp1 4 (by omega) (by omega)
    obtain ⟨v, hv⟩ := resT x y
    refine ⟨L ++ [⟨⟨#[]⟩, ⟨8, v, 0, 0⟩, ⟨#[]⟩, ⟨#[]⟩⟩], p2, e2, .succ (.const fun k => ?_), ?_, ?_, hp2⟩
    · simp only [spec_l11Lines.l0, h1, h2, hv, spec_l11Word.f, Option.bind_some]
      rw [if_neg (by omega), if_pos (by omega)]
    · simp
    · simp; omega
  | succ d ih =>
    intro i p e L hi hp hL
    obtain ⟨Kd, hd⟩ := figS i (by omega)
    dsimp only at hd
    obtain ⟨t, ht⟩ : ∃ t, t = strOfNums [(48 + (i : Int)) % 256] := ⟨_, rfl⟩
    have htz : t.size = 1 := by rw [ht]; rfl
    rw [← ht] at hd
    have j2 : ∀ (p e : Int) (L : List S95) (x y : ByteArray), 0 ≤ p → L.length ≤ 1 + 30 * i + 26 → ∃ R p' e', Evt (fun k => spec_l11Lines.j2 k L (n : Int) (i : Int) x y s p e) (R, p', e') ∧ 1 ≤ R.length ∧ R.length ≤ 200 ∧ 0 ≤ p' := fun p e L x y hp hL => by
      obtain ⟨u, p1, e1, h1, hu, hp1⟩ := below hs p e hp 8 (by omega) (by omega)
      obtain ⟨v, p2, e2, h2, hv, hp2⟩ := half hs p1 e1 hp1
      obtain ⟨R, p', e', ⟨K, hK⟩, hR⟩ := ih (i + 1) p2 e2 (L ++ [⟨x, ⟨0, 0, 0, 0⟩, ⟨#[]⟩, ⟨#[]⟩⟩, ⟨⟨#[]⟩, ⟨1, u, 0, 0⟩, ⟨#[]⟩, ⟨#[]⟩⟩] ++ [⟨y, ⟨0, 0, 0, 0⟩, ⟨#[]⟩, ⟨#[]⟩⟩, ⟨⟨#[]⟩, ⟨2, v, 0, 0⟩, ⟨#[]⟩, ⟨#[]⟩⟩]) (by omega) hp2 (by simp; omega)
      refine ⟨R, p', e', .succ ⟨K, fun k hk => ?_⟩, hR⟩
      have g := hK k hk
      simp only [spec_l11Lines.j2, h1, h2, spec_l11Word.f, Option.bind_some]
      rw [if_pos (by simp; omega), if_pos (by simp; omega), wsucc (show i < n by omega) (by omega)]
      exact g
    have l1 : ∀ (m j : Nat) (p e : Int) (L : List S95) (x y : ByteArray), j + m = 20 → 0 ≤ p → L.length ≤ 1 + 30 * i + 1 + j → ∃ R p' e', Evt (fun k => spec_l11Lines.l1 k L (n : Int) (i : Int) x y (j : Int) s p e) (R, p', e') ∧ 1 ≤ R.length ∧ R.length ≤ 200 ∧ 0 ≤ p' := by
      have stop : ∀ (j : Nat) (p e : Int) (L : List S95) (x y : ByteArray) (c p1 e1 : Int), spec_l01PickInt.f s p e [0, 1, 3, 14, 15, 16, 20] = some (c, p1, e1) → 0 ≤ p1 → ¬ (j : Int) < c → j ≤ 20 → L.length ≤ 1 + 30 * i + 1 + j → ∃ R p' e', Evt (fun k => spec_l11Lines.l1 k L (n : Int) (i : Int) x y (j : Int) s p e) (R, p', e') ∧ 1 ≤ R.length ∧ R.length ≤ 200 ∧ 0 ≤ p' := fun j p e L x y c p1 e1 h1 hp1 hc hj hL => by
        obtain ⟨o, p2, e2, h2, hp2⟩ := once hs p1 e1 hp1 2 (by omega) (by omega)
        cases o with
        | true =>
          obtain ⟨R, p', e', ⟨K, hK⟩, hR⟩ := j2 p2 e2 (L ++ [⟨⟨#[]⟩, ⟨7, 0, 0, 0⟩, y, ⟨#[]⟩⟩]) x y hp2 (by simp; omega)
          refine ⟨R, p', e', .succ ⟨K, fun k hk => ?_⟩, hR⟩
          have g := hK k hk
          simp only [spec_l11Lines.l1, h1, h2, spec_l11Asks.f, Option.bind_some]
          rw [if_neg hc, if_pos trivial, if_pos (by omega)]
          exact g
        | false =>
          obtain ⟨R, p', e', ⟨K, hK⟩, hR⟩ := j2 p2 e2 L x y hp2 (by omega)
          refine ⟨R, p', e', .succ ⟨K, fun k hk => ?_⟩, hR⟩
          have g := hK k hk
          simp only [spec_l11Lines.l1, h1, h2, Option.bind_some]
          rw [if_neg hc, if_neg (by simp)]
          exact g
      intro m
      induction m with
      | zero =>
        intro j p e L x y hj hp hL
        obtain ⟨c, p1, e1, h1, hc, hp1⟩ := pick hs p e hp [0, 1, 3, 14, 15, 16, 20] (by simp) (by simp)
        simp only [List.mem_cons, List.not_mem_nil, or_false] at hc
        exact stop j p e L x y c p1 e1 h1 hp1 (by omega) (by omega) hL
      | succ m ihm =>
        intro j p e L x y hj hp hL
        obtain ⟨c, p1, e1, h1, hc, hp1⟩ := pick hs p e hp [0, 1, 3, 14, 15, 16, 20] (by simp) (by simp)
        by_cases hlt : (j : Int) < c
        · obtain ⟨v, p2, e2, h2, hv, hp2⟩ := half hs p1 e1 hp1
          obtain ⟨R, p', e', ⟨K, hK⟩, hR⟩ := ihm (j + 1) p2 e2 (L ++ [⟨⟨#[]⟩, ⟨2, v, 0, 0⟩, ⟨#[]⟩, ⟨#[]⟩⟩]) x y (by omega) hp2 (by simp; omega)
          refine ⟨R, p', e', .succ ⟨K, fun k hk => ?_⟩, hR⟩
          have g := hK k hk
          simp only [spec_l11Lines.l1, h1, h2, spec_l11Word.f, Option.bind_some]
          rw [if_pos hlt, if_pos (by omega), wsucc (show j < 21 by omega) (by omega)]
          exact g
        · exact stop j p e L x y c p1 e1 h1 hp1 hlt (by omega) hL
    obtain ⟨q, p1, e1, h1, hq, hp1⟩ := below hs p e hp 4 (by omega) (by omega)
    obtain ⟨v, p2, e2, h2, hv, hp2⟩ := half hs p1 e1 hp1
    have e3 : Aside0 (wrap64 (3 + q) = 3 + q) := ⟨w64 (by omega) (by omega)⟩
    obtain ⟨R, p', e', ⟨K, hK⟩, hR⟩ := l1 20 0 p2 e2 (L ++ [⟨⟨#[]⟩, ⟨3 + q, v, 0, 0⟩, (⟨#[97]⟩ : ByteArray) ++ t, (⟨#[98]⟩ : ByteArray) ++ t⟩]) ((⟨#[97]⟩ : ByteArray) ++ t) ((⟨#[98]⟩ : ByteArray) ++ t) (by omega) hp2 (by simp; omega)
    refine ⟨R, p', e', .succ ⟨K + Kd, fun k hk => ?_⟩, hR⟩
    have g := hK k (by omega)
    have gd := hd k (by omega)
    simp only [spec_l11Lines.l0, gd, h1, h2, spec_l11Asks.f, Option.bind_some, e3.out]
    rw [if_pos (by omega), if_pos (by omega), if_pos (by omega), if_pos (by omega)]
    exact g
theorem drawLines {s : List Int} (hs : s.length ≤ 1048576) (p e : Int) (hp : 0 ≤ p) : ∃ R p' e', Evt (fun k => spec_l11Lines.f k s p e) (R, p', e') ∧ 1 ≤ R.length ∧ R.length ≤ 200 ∧ 0 ≤ p' := by
  obtain ⟨q, p1, e1, h1, hq, hp1⟩ := below hs p e hp 4 (by omega) (by omega)
  obtain ⟨n, hn⟩ := Int.eq_ofNat_of_zero_le hq.1
  subst hn
  obtain ⟨R, p', e', ⟨K, hK⟩, hR⟩ := lines_l0 hs (n + 1) (by omega) (n + 1) 0 p1 e1 [⟨⟨#[]⟩, ⟨1, 0, 0, 0⟩, ⟨#[]⟩, ⟨#[]⟩⟩] (by omega) hp1 (by simp)
  have e1' : Aside0 (wrap64 (1 + (n : Int)) = ((n + 1 : Nat) : Int)) := ⟨by rw [w64 (by omega) (by omega)]; omega⟩
  refine ⟨R, p', e', ⟨K, fun k hk => ?_⟩, hR⟩
  have g := hK k hk
  simp only [spec_l11Lines.f, h1, spec_l11Word.f, Option.bind_some, e1'.out]
  exact g
theorem longT (n : Nat) (hn : n ≤ 1000) (x : Int) : ∃ v, Evt (fun k => spec_l01Long.f k (n : Int) x) v := by
  have key : ∀ (d i : Nat) (l : List Int), i + d = n → l.length = n → ∃ v, Evt (fun k => spec_l01Long.l0 k (n : Int) x l (i : Int)) v := by
    intro d
    induction d with
    | zero =>
      intro i l hi hl
      refine ⟨strOfNums l, .succ (.const fun k => ?_)⟩
      simp only [spec_l01Long.l0]
      rw [if_neg (by omega)]
    | succ d ih =>
      intro i l hi hl
      obtain ⟨v, K, hK⟩ := ih (i + 1) (l.set (i : Int).toNat x) (by omega) (by rw [List.length_set]; exact hl)
      refine ⟨v, .succ ⟨K, fun k hk => ?_⟩⟩
      have g := hK k hk
      simp only [spec_l01Long.l0]
      rw [if_pos (by omega), if_pos (by omega), if_pos (by omega), wsucc (show i < n by omega) (by omega)]
      exact g
  obtain ⟨v, K, hK⟩ := key n 0 (List.replicate (n : Int).toNat 0) (by omega) (by simp)
  refine ⟨v, K, fun k hk => ?_⟩
  have g := hK k hk
  simp only [spec_l01Long.f]
  rw [if_pos (by omega), if_pos (by omega)]
  exact g
theorem anyL {s : List Int} (hs : s.length ≤ 1048576) (p e : Int) (hp : 0 ≤ p) : ∃ R p' e', Evt (fun k => spec_l11Any.f k s p e) (R, p', e') ∧ R.length ≤ 200 ∧ 0 ≤ p' := by
  obtain ⟨t, p1, e1, h1, ht, hp1⟩ := below hs p e hp 10 (by omega) (by omega)
  obtain ⟨y, p2, e2, h2, hy, hp2⟩ := below hs p1 e1 hp1 60 (by omega) (by omega)
  obtain ⟨L, p3, e3, ⟨K3, h3⟩, hL1, hL2, hp3⟩ := drawLines hs p2 e2 hp2
  dsimp only at h3
  have e0 : (([] : List S95) ++ L) = L := List.nil_append _
  have hm : ∀ n : Int, 0 < n → Int.tmod y n = y % n := fun n hn => Int.tmod_eq_emod_of_nonneg hy.1
  have hi1 : 0 ≤ y % (L.length : Int) := Int.emod_nonneg _ (by omega)
  have hi2 : y % (L.length : Int) < (L.length : Int) := Int.emod_lt_of_pos _ (by omega)
  have eL := hm (L.length : Int) (by omega)
  have e3' := hm 3 (by omega)
  have e2' := hm 2 (by omega)
  obtain ⟨i, hi⟩ : ∃ i, i = y % (L.length : Int) := ⟨_, rfl⟩
  rw [← hi] at hi1 hi2 eL
  have key : ∀ (R : List S95) (K : Nat), R.length ≤ 200 → (∀ k, K ≤ k → spec_l11Any.f k s p e = some (R, p3, e3)) → ∃ R p' e', Evt (fun k => spec_l11Any.f k s p e) (R, p', e') ∧ R.length ≤ 200 ∧ 0 ≤ p' := fun R K hR h => ⟨R, p3, e3, ⟨K, h⟩, hR, hp3⟩
  by_cases c0 : t = 0
  · refine key (L.set i.toNat ⟨⟨#[97, 48]⟩, ⟨(rd_T95 L i).f1.f0, (rd_T95 L i).f1.f1, (rd_T95 L i).f1.f2, (rd_T95 L i).f1.f3⟩, (rd_T95 L i).f2, (rd_T95 L i).f3⟩) K3 ?_ fun k hk => ?_
    rotate_left
    · have g3 := h3 k hk
      simp only [spec_l11Any.f, h1, h2, g3, Option.bind_some, e0, eL, List.length_nil, Nat.zero_add]
      rw [if_pos (by omega), if_neg (by omega), if_pos c0, if_pos hi1, if_pos hi2]
    · rw [List.length_set]; exact hL2
  by_cases c1 : t = 1
  · refine key (L.set i.toNat ⟨(rd_T95 L i).f0, ⟨(rd_T95 L i).f1.f0, (rd_T95 L i).f1.f1, (rd_T95 L i).f1.f2, (rd_T95 L i).f1.f3⟩, rdOf ByteArray.empty [(⟨#[97, 48]⟩ : ByteArray), ⟨#[]⟩, ⟨#[122, 122]⟩] (y % 3), (rd_T95 L i).f3⟩) K3 ?_ fun k hk => ?_
    rotate_left
    · have g3 := h3 k hk
      simp only [spec_l11Any.f, h1, h2, g3, Option.bind_some, e0, eL, e3', List.length_nil, Nat.zero_add]
      rw [if_pos (by omega), if_neg (by omega), if_neg c0, if_pos c1, if_pos (by omega), if_pos (by show _ < ((3 : Nat) : Int); omega), if_pos hi1, if_pos hi2]
    · rw [List.length_set]; exact hL2
  by_cases c2 : t = 2
  · refine key (L.set i.toNat ⟨(rd_T95 L i).f0, ⟨(rd_T95 L i).f1.f0, (rd_T95 L i).f1.f1, 1, (rd_T95 L i).f1.f3⟩, (rd_T95 L i).f2, (rd_T95 L i).f3⟩) K3 ?_ fun k hk => ?_
    rotate_left
    · have g3 := h3 k hk
      simp only [spec_l11Any.f, h1, h2, g3, Option.bind_some, e0, eL, List.length_nil, Nat.zero_add]
      rw [if_pos (by omega), if_neg (by omega), if_neg c0, if_neg c1, if_pos c2, if_pos hi1, if_pos hi2]
    · rw [List.length_set]; exact hL2
  by_cases c3 : t = 3
  · have ew : ∀ n : Nat, 1 ≤ n → n ≤ 200 → wrap64 ((n : Int) - 1) = (n : Int) - 1 := fun n a b => w64 (by omega) (by omega)
    have ew := Aside0.mk (ew L.length hL1 hL2)
    refine key (L.take ((L.length : Int) - 1).toNat) K3 ?_ fun k hk => ?_
    · rw [List.length_take]; omega
    · have g3 := h3 k hk
      simp only [spec_l11Any.f, h1, h2, g3, Option.bind_some, e0, ew.out, List.length_nil, Nat.zero_add]
      rw [if_pos (by omega), if_neg (by omega), if_neg c0, if_neg c1, if_neg c2, if_pos c3, if_pos (by omega), if_pos (by omega)]
  by_cases c4 : t = 4
  · have hy2 : 0 ≤ y % 2 ∧ y % 2 ≤ 1 := by omega
    obtain ⟨n, hn⟩ := Int.eq_ofNat_of_zero_le (show 0 ≤ 12 + y % 2 by omega)
    have ew : Aside0 (wrap64 (12 + y % 2) = (n : Int)) := ⟨by rw [w64 (by omega) (by omega)]; exact hn⟩
    obtain ⟨v, K4, h4⟩ := longT n (by omega) 97
    dsimp only at h4
    refine key (L.set i.toNat ⟨v, ⟨0, 0, 0, 0⟩, ⟨#[]⟩, ⟨#[]⟩⟩) (K3 + K4) ?_ fun k hk => ?_
    rotate_left
    · have g3 := h3 k (by omega)
      have g4 := h4 k (by omega)
      simp only [spec_l11Any.f, h1, h2, g3, Option.bind_some, e0, eL, e2', ew.out, g4, List.length_nil, Nat.zero_add]
      rw [if_pos (by omega), if_neg (by omega), if_neg c0, if_neg c1, if_neg c2, if_neg c3, if_pos c4, if_pos hi1, if_pos hi2]
    · rw [List.length_set]; exact hL2
  · refine key L K3 hL2 fun k hk => ?_
    have g3 := h3 k hk
    simp only [spec_l11Any.f, h1, h2, g3, Option.bind_some, e0, List.length_nil, Nat.zero_add]
    rw [if_pos (by omega), if_neg (by omega), if_neg c0, if_neg c1, if_neg c2, if_neg c3, if_neg c4]
theorem sameInts (l : List Int) (hn : l.length ≤ 100000) : Evt (fun k => laws_sameInts.f k l l) true := by
  have key : Evt (fun k => laws_sameInts.l0 k l l ((0 : Nat) : Int)) true := by
    refine down (T := fun i => Evt (fun k => laws_sameInts.l0 k l l (i : Int)) true) (n := l.length) ?_ ?_ l.length 0 (by omega)
    · refine .succ (.const fun k => ?_)
      simp only [laws_sameInts.l0]
      rw [if_neg (by omega)]
    · intro i hi ⟨K, h⟩
      refine .succ ⟨K, fun k hk => ?_⟩
      have g := h k hk
      simp only [laws_sameInts.l0]
      rw [if_pos (by omega), if_pos (by omega), if_pos (by omega), if_pos trivial, wsucc hi (by omega)]
      exact g
  obtain ⟨K, h⟩ := key
  exact ⟨K, fun k hk => by simp only [laws_sameInts.f]; rw [if_pos trivial]; exact h k hk⟩
theorem sameIns (l : List S93) (hn : l.length ≤ 100000) : Evt (fun k => laws_sameIns.f k l l) true := by
  have key : Evt (fun k => laws_sameIns.l0 k l l ((0 : Nat) : Int)) true := by
    refine down (T := fun i => Evt (fun k => laws_sameIns.l0 k l l (i : Int)) true) (n := l.length) ?_ ?_ l.length 0 (by omega)
    · refine .succ (.const fun k => ?_)
      simp only [laws_sameIns.l0]
      rw [if_neg (by omega)]
    · intro i hi ⟨K, h⟩
      refine .succ ⟨K, fun k hk => ?_⟩
      have g := h k hk
      simp only [laws_sameIns.l0]
      rw [if_pos (by omega), if_pos (by omega), if_pos (by omega), if_neg (by simp), wsucc hi (by omega)]
      exact g
  obtain ⟨K, h⟩ := key
  exact ⟨K, fun k hk => by simp only [laws_sameIns.f]; rw [if_pos trivial]; exact h k hk⟩
theorem oneRet : Evt (fun k => impl_LinesOk.f k [(⟨⟨#[]⟩, ⟨8, 0, 0, 0⟩, ⟨#[]⟩, ⟨#[]⟩⟩ : S95)]) true := by
  have e0 : wrap64 (((1 : Nat) : Int) - 1) = 0 := by rw [w64 (by omega) (by omega)]; rfl
  have e1 : wrap64 (0 + 1) = 1 := by rw [w64 (by omega) (by omega)]; rfl
  have er : rd_T95 [(⟨⟨#[]⟩, ⟨8, 0, 0, 0⟩, ⟨#[]⟩, ⟨#[]⟩⟩ : S95)] 0 = ⟨⟨#[]⟩, ⟨8, 0, 0, 0⟩, ⟨#[]⟩, ⟨#[]⟩⟩ := rfl
  have el : (⟨#[]⟩ : ByteArray).toList = [] := by unfold ByteArray.toList ByteArray.toList.loop; rfl
  have hl : [(⟨⟨#[]⟩, ⟨8, 0, 0, 0⟩, ⟨#[]⟩, ⟨#[]⟩⟩ : S95)].length = 1 := rfl
  refine ⟨10, fun k hk => ?_⟩
  obtain ⟨k, rfl⟩ : ∃ m, k = m + 5 := ⟨k - 5, by omega⟩
  simp only [impl_LinesOk.f, hl, inI, Option.bind_some, e0, er, impl_LinesOk.j0, impl_LinesOk.l0, e1]
  rw [decide_eq_true (by omega), if_pos rfl, if_pos (by omega), if_pos (by omega), if_neg (by simp), if_pos (by omega)]
  have hx : impl_lineOk.f (k + 3) [(⟨⟨#[]⟩, ⟨8, 0, 0, 0⟩, ⟨#[]⟩, ⟨#[]⟩⟩ : S95)] 0 = some true := by
    simp [impl_lineOk.f, er, el, impl_Line_isPlace.f, impl_InsOk.f, impl_Ins_asks.f, impl_HalfOk.f, impl_within.f, impl_lineOk.j0, impl_InsOk.j0]
  rw [hx]
  simp only [Option.bind_some, if_true]
  rw [if_neg (by omega)]
theorem main (l : List Int) : ∃ k, laws_FnLinesTold.f k l = some true := by
  by_cases hb : (l.length : Int) > 1048576
  · refine ⟨0, ?_⟩
    simp only [laws_FnLinesTold.f, laws_big.f, Option.bind_some, decide_eq_true hb, if_true]
  have hs : l.length ≤ 1048576 := by omega
  obtain ⟨e0, K0, h0⟩ := newC l hs
  obtain ⟨L, p1, e1, ⟨K1, h1⟩, hL, _⟩ := anyL hs 0 e0 (by omega)
  obtain ⟨b, ⟨K2, h2⟩, ⟨K3, h3⟩, _⟩ := linesOk L (by omega)
  obtain ⟨O, ⟨K4, h4⟩, ⟨K5, h5⟩, hO, _⟩ := sizes L (by omega)
  obtain ⟨⟨R, r⟩, hR, ⟨K6, h6⟩, ⟨K7, h7⟩⟩ := layout L (by omega)
  dsimp only at hR
  obtain ⟨K8, h8⟩ := sameInts O (by omega)
  obtain ⟨K9, h9⟩ := sameIns R (by omega)
  obtain ⟨K10, h10⟩ := oneRet
  dsimp only at h0 h1 h2 h3 h4 h5 h6 h7 h8 h9 h10
  obtain ⟨K, hK⟩ : ∃ K, K = K0 + K1 + K2 + K3 + K4 + K5 + K6 + K7 + K8 + K9 + K10 := ⟨_, rfl⟩
  refine ⟨K, ?_⟩
  simp only [laws_FnLinesTold.f, laws_big.f, spec_DrawLinesOk.f, spec_DrawSizes.f, spec_DrawLayout.f, Option.bind_some, decide_eq_false hb, Bool.false_eq_true, if_false, h0 K (by omega), h1 K (by omega), h2 K (by omega), h3 K (by omega), h4 K (by omega), h5 K (by omega), h6 K (by omega), h7 K (by omega), h8 K (by omega), h9 K (by omega), h10 K (by omega), beq_self_eq_true, if_true]
end Go.Proofs.Ytlgndgjbfjefpaa.PFnLinesTold
