/- The pure law of FnExactLinesOk: what the functions of the program and of the reference come to is the same, for all arguments that the law is asked of. No conditions. -/
import Derived.Test.YtiinjipfhmgheaaPFnExactLinesOky8
import Derived.Test.YtiinjipfhmgheaaEV
set_option linter.unusedSimpArgs false
set_option linter.unusedVariables false
namespace Go.Proofs.Ytiinjipfhmgheaa.PFnExactLinesOk
open Go Go.RowKit Go.Proofs.YtiinjipfhmgheaaW.PrintWords Go.Proofs.YtiinjipfhmgheaaW.PrintLast Go.Proofs.YtiinjipfhmgheaaW.PK
theorem Elaws_eqIns (a0_0 : Int) (a0_1 : Int) (a0_2 : Int) (a0_3 : Int) : Evt (fun k => laws_eqIns.f a0_0 a0_1 a0_2 a0_3 a0_0 a0_1 a0_2 a0_3) true := by
  refine ⟨0, fun k hk => ?_⟩
  simp only [laws_eqIns.f, Option.bind_some, if_true]
theorem Elaws_eqLine (a0_0 : ByteArray) (a0_1 : Int) (a0_2 : Int) (a0_3 : Int) (a0_4 : Int) (a0_5 : ByteArray) (a0_6 : ByteArray) : Evt (fun k => laws_eqLine.f a0_0 a0_1 a0_2 a0_3 a0_4 a0_5 a0_6 a0_0 a0_1 a0_2 a0_3 a0_4 a0_5 a0_6) true := by
  refine ⟨0, fun k hk => ?_⟩
  simp only [laws_eqLine.f, laws_eqIns.f, Option.bind_some, if_true]
theorem nrd_T124 (l : List (S124)) (i : Nat) (h : i < l.length) : rd_T124 l (i : Int) = l[i] := getD_lt _ h
theorem Elaws_eqLineS (l : List (S124)) (hn : l.length ≤ 4611686018427387904) : Evt (fun k => laws_eqLineS.f k l l) true := by
  have h := Evt.pass (F := fun k i => laws_eqLineS.l0 k l l i) (n := l.length) (r := true) ?_ ?_
  · refine h.congr fun k => ?_
    unfold laws_eqLineS.f
    rw [if_pos rfl]
  · refine .const fun k => ?_
    simp only [laws_eqLineS.l0]
    rw [if_neg (by omega)]
  · intro i hi
    obtain ⟨K, hK⟩ := Elaws_eqLine l[i].f0 l[i].f1.f0 l[i].f1.f1 l[i].f1.f2 l[i].f1.f3 l[i].f2 l[i].f3
    dsimp only at hK
    refine ⟨K, fun k hk => ?_⟩
    simp only [laws_eqLineS.l0]
    rw [if_pos (by omega), if_pos (by omega), if_pos (by omega), nrd_T124 l i hi, hK k hk]
    simp only [Option.bind_some, if_true]
    rw [wsucc hi (by omega)]
theorem Elaws_szLine (a0_0 : ByteArray) (a0_1 : Int) (a0_2 : Int) (a0_3 : Int) (a0_4 : Int) (a0_5 : ByteArray) (a0_6 : ByteArray) (q : Int) (hq : 0 ≤ q) (hq' : q ≤ 1048576) (ha0_0 : a0_0.size ≤ maxLen) (ha0_5 : a0_5.size ≤ maxLen) (ha0_6 : a0_6.size ≤ maxLen) : ∃ s : Int, s ≤ q ∧ (0 ≤ s → (a0_0.size ≤ 1048576 ∧ a0_5.size ≤ 1048576 ∧ a0_6.size ≤ 1048576)) ∧ Evt (fun k => laws_szLine.f a0_0 a0_1 a0_2 a0_3 a0_4 a0_5 a0_6 q) s := by
  have m0 : a0_0.size ≤ maxLen := ha0_0
  unfold maxLen at m0
  have e0 : wrap64 (q - (a0_0.size : Int)) = q - a0_0.size := w64 (by omega) (by omega)
  by_cases n0 : q - a0_0.size < 0
  · exact ⟨-1, by omega, fun h => by omega, 0, fun k hk => by simp only [laws_szLine.f, e0, Option.bind_some, if_pos n0]⟩
  have m1 : a0_5.size ≤ maxLen := ha0_5
  unfold maxLen at m1
  have e1 : wrap64 (q - a0_0.size - (a0_5.size : Int)) = q - a0_0.size - a0_5.size := w64 (by omega) (by omega)
  by_cases n1 : q - a0_0.size - a0_5.size < 0
  · exact ⟨-1, by omega, fun h => by omega, 0, fun k hk => by simp only [laws_szLine.f, e0, e1, Option.bind_some, if_neg n0, if_pos n1]⟩
  have m2 : a0_6.size ≤ maxLen := ha0_6
  unfold maxLen at m2
  have e2 : wrap64 (q - a0_0.size - a0_5.size - (a0_6.size : Int)) = q - a0_0.size - a0_5.size - a0_6.size := w64 (by omega) (by omega)
  by_cases n2 : q - a0_0.size - a0_5.size - a0_6.size < 0
  · exact ⟨-1, by omega, fun h => by omega, 0, fun k hk => by simp only [laws_szLine.f, e0, e1, e2, Option.bind_some, if_neg n0, if_neg n1, if_pos n2]⟩
  exact ⟨q - a0_0.size - a0_5.size - a0_6.size, by omega, fun h => ⟨(by omega), (by omega), (by omega)⟩, 0, fun k hk => by simp only [laws_szLine.f, e0, e1, e2, Option.bind_some, if_neg n0, if_neg n1, if_neg n2]⟩
theorem nrd_T132 (l : List (S132)) (i : Nat) (h : i < l.length) : rd_T132 l (i : Int) = l[i] := getD_lt _ h
theorem Elaws_szLineS (l : List (S132)) (q : Int) (hq : 0 ≤ q) (hq' : q ≤ 1048576) (hm : l.length ≤ maxLen) (hw : ∀ x ∈ l, (x.f0.size ≤ maxLen ∧ ((Lit.int .i64 x.f1.f0).wf = true ∧ (Lit.int .i64 x.f1.f1).wf = true ∧ (Lit.int .i64 x.f1.f2).wf = true ∧ (Lit.int .i64 x.f1.f3).wf = true) ∧ x.f2.size ≤ maxLen ∧ x.f3.size ≤ maxLen)) : ∃ s : Int, s ≤ q ∧ (0 ≤ s → l.length ≤ 1048576 ∧ ∀ y ∈ l, (y.f0.size ≤ 1048576 ∧ y.f2.size ≤ 1048576 ∧ y.f3.size ≤ 1048576)) ∧ Evt (fun k => laws_szLineS.f k l q) s := by
  unfold maxLen at hm
  have e : wrap64 (q - (l.length : Int)) = q - l.length := w64 (by omega) (by omega)
  by_cases hn : q - (l.length : Int) < 0
  · exact ⟨-1, by omega, fun h => by omega, .const fun k => by simp only [laws_szLineS.f, e, if_pos hn]⟩
  · have H := Evt.sz (F := fun k q i => laws_szLineS.l0 k l q i) (n := l.length) (P := fun i => ∀ h : i < l.length, (l[i].f0.size ≤ 1048576 ∧ l[i].f2.size ≤ 1048576 ∧ l[i].f3.size ≤ 1048576)) ?_ ?_ (q - l.length) (by omega) (by omega)
    · obtain ⟨s, hs, hP, hE⟩ := H
      refine ⟨s, by omega, fun h => ⟨by omega, fun y hy => ?_⟩, hE.congr fun k => ?_⟩
      · obtain ⟨i, hi, rfl⟩ := List.mem_iff_getElem.1 hy
        exact hP h i hi hi
      · simp only [laws_szLineS.f, e, if_neg hn]
    · intro k q
      simp only [laws_szLineS.l0]
      rw [if_neg (by omega)]
    · intro i hi q hq hq'
      obtain ⟨s, hs, hP, K, hK⟩ := Elaws_szLine l[i].f0 l[i].f1.f0 l[i].f1.f1 l[i].f1.f2 l[i].f1.f3 l[i].f2 l[i].f3 q hq hq' ((hw _ (List.getElem_mem hi)).1) ((hw _ (List.getElem_mem hi)).2.2.1) ((hw _ (List.getElem_mem hi)).2.2.2)
      dsimp only at hK
      refine ⟨s, hs, fun h _ => hP h, K, fun k hk => ?_⟩
      simp only [laws_szLineS.l0]
      rw [if_pos (by omega), if_pos (by omega), nrd_T132 l i hi, hK k hk, wsucc hi (by omega)]
      all_goals rfl
theorem Elaws_toIns (a0_0 : Int) (a0_1 : Int) (a0_2 : Int) (a0_3 : Int) : Evt (fun k => laws_toIns.f a0_0 a0_1 a0_2 a0_3) (a0_0, a0_1, a0_2, a0_3) := by
  exact .const fun k => rfl
theorem Elaws_toLine (a0_0 : ByteArray) (a0_1 : Int) (a0_2 : Int) (a0_3 : Int) (a0_4 : Int) (a0_5 : ByteArray) (a0_6 : ByteArray) (ha0_0 : a0_0.size ≤ 1048576) (ha0_5 : a0_5.size ≤ 1048576) (ha0_6 : a0_6.size ≤ 1048576) : Evt (fun k => laws_toLine.f a0_0 a0_1 a0_2 a0_3 a0_4 a0_5 a0_6) (a0_0, a0_1, a0_2, a0_3, a0_4, a0_5, a0_6) := by
  exact .const fun k => rfl
def conv120 (a : S120) : S118 := ⟨a.f0, a.f1, a.f2, a.f3⟩
def conv132 (a : S132) : S124 := ⟨a.f0, (conv120 a.f1), a.f2, a.f3⟩
theorem Elaws_toLineS (l : List (S132)) (hn : l.length ≤ 1048576) (hB : ∀ y ∈ l, (y.f0.size ≤ 1048576 ∧ y.f2.size ≤ 1048576 ∧ y.f3.size ≤ 1048576)) : Evt (fun k => laws_toLineS.f k l) (l.map conv132) := by
  have h := Evt.to (F := fun k y i => laws_toLineS.l0 k l y i) (x := l) (conv := conv132) ?_ ?_ (List.replicate l.length z124) (by simp)
  · refine h.congr fun k => ?_
    unfold laws_toLineS.f
    rw [if_pos (by omega), if_pos (by omega), Int.toNat_natCast]
  · intro k y
    simp only [laws_toLineS.l0]
    rw [if_neg (by omega)]
  · intro i hi
    obtain ⟨K, hK⟩ := Elaws_toLine l[i].f0 l[i].f1.f0 l[i].f1.f1 l[i].f1.f2 l[i].f1.f3 l[i].f2 l[i].f3 ((hB _ (List.getElem_mem hi)).1) ((hB _ (List.getElem_mem hi)).2.1) ((hB _ (List.getElem_mem hi)).2.2)
    dsimp only at hK
    refine ⟨K, fun k hk y hy => ?_⟩
    simp only [laws_toLineS.l0]
    rw [if_pos (by omega), if_pos (by omega), nrd_T132 l i hi, hK k hk]
    simp only [Option.bind_some]
    rw [if_pos (by omega), wsucc hi (by omega), Int.toNat_natCast]
    all_goals rfl
theorem inS (a b c : Int) : spec_l01In.f a b c = some (decide (b ≤ a ∧ a ≤ c)) := by
 unfold spec_l01In.f
 by_cases h : a ≥ b
 ·rw [if_pos h]
  exact congrArg some (by rw [Bool.eq_iff_iff]; simp; omega)
 ·rw [if_neg h]
  exact congrArg some (by rw [Bool.eq_iff_iff]; simp; omega)
theorem inI (a b c : Int) : impl_within.f a b c = some (decide (b ≤ a ∧ a ≤ c)) := inS a b c
theorem halfS (a : Int) : spec_HalfOk.f a = some (decide (0 ≤ a ∧ a ≤ 4294967295)) := by
 unfold spec_HalfOk.f
 rw [inS]
 rfl
theorem halfI (a : Int) : impl_HalfOk.f a = some (decide (0 ≤ a ∧ a ≤ 4294967295)) := halfS a
theorem askS (a : Int) : spec_l06Ask.f a = some (decide (3 ≤ a ∧ a ≤ 6)) := by
 unfold spec_l06Ask.f
 rw [inS]
 rfl
theorem askI (a b c d : Int) : impl_Ins_asks.f a b c d = some (decide (3 ≤ a ∧ a ≤ 6)) := askS a
def InsP (a b c d : Int) : Prop := (1 ≤ a ∧ a ≤ 8) ∧ (0 ≤ b ∧ b ≤ 4294967295) ∧ (0 ≤ c ∧ c ≤ 15) ∧ (0 ≤ d ∧ d ≤ 15) ∧ ((3 ≤ a ∧ a ≤ 6) ∨ (c = 0 ∧ d = 0)) ∧ (a = 1 → b < 8) ∧ (a = 7 → b < 400)
instance (a b c d : Int) : Decidable (InsP a b c d) := by unfold InsP; infer_instance
theorem okS (k : Nat) (hk : 2 ≤ k) (a b c d : Int) : spec_InsOk.f k a b c d = some (decide (InsP a b c d)) := by
 obtain ⟨k, rfl⟩ : ∃ m, k = m + 2 := ⟨k - 2, by omega⟩
 have e : ∀ x : Bool, (x = true ↔ InsP a b c d) → some x = some (decide (InsP a b c d)) := fun x h => congrArg some (by rw [Bool.eq_iff_iff, h]; simp)
 unfold spec_InsOk.f
 simp only [inS, halfS, askS, spec_InsOk.j0, spec_InsOk.j1, Option.bind_some, decide_eq_true_eq, Bool.not_eq_true', decide_eq_false_iff_not]
 repeat' split
 all_goals (refine e _ ?_; clear e; unfold InsP; (try simp only [Bool.false_eq_true, bne_iff_ne, ne_eq, decide_eq_true_eq, false_iff, true_iff, Classical.not_not] at *))
 all_goals (first | contradiction | omega)
theorem okI (k : Nat) (hk : 2 ≤ k) (a b c d : Int) : impl_InsOk.f k a b c d = some (decide (InsP a b c d)) := by
 obtain ⟨k, rfl⟩ : ∃ m, k = m + 2 := ⟨k - 2, by omega⟩
 have e : ∀ x : Bool, (x = true ↔ InsP a b c d) → some x = some (decide (InsP a b c d)) := fun x h => congrArg some (by rw [Bool.eq_iff_iff, h]; simp)
 unfold impl_InsOk.f
 simp only [inI, halfI, askI, impl_InsOk.j0, Option.bind_some, decide_eq_true_eq, bne_iff_ne]
 repeat' split
 all_goals (refine e _ ?_; clear e; unfold InsP; (try simp only [Bool.false_eq_true, bne_iff_ne, ne_eq, decide_eq_true_eq, false_iff, true_iff, Classical.not_not] at *))
 all_goals (first | contradiction | omega)
theorem rd_nat124 (l : List S124) (i : Nat) (h : i < l.length) : rd_T124 l (i : Int) = l[i] := getD_lt _ h
/-- The first place from an index on. -/
def Fst (Q : Nat → Prop) (n i : Nat) (v : Int) : Prop := (∃ j, i ≤ j ∧ j < n ∧ Q j ∧ v = (j : Int) ∧ ∀ m, i ≤ m → m < j → ¬ Q m) ∨ (v = -1 ∧ ∀ m, i ≤ m → m < n → ¬ Q m)
def PZ (x : S124) : Prop := x.f1.f0 = 0 ∧ x.f1.f1 = 0 ∧ x.f1.f2 = 0 ∧ x.f1.f3 = 0
instance (x : S124) : Decidable (PZ x) := by unfold PZ; infer_instance
def QS (L : List S124) (s : List UInt8) (j : Nat) : Prop := ∃ h : j < L.length, PZ L[j] ∧ L[j].f0.toList = s
def QI (L : List S124) (s : List UInt8) (j : Nat) : Prop := ∃ h : j < L.length, L[j].f1.f0 = 0 ∧ L[j].f0.toList = s
theorem Fst.here {Q : Nat → Prop} {n i : Nat} (h : i < n) (hq : Q i) : Fst Q n i (i : Int) := .inl ⟨i, Nat.le_refl _, h, hq, rfl, fun m h1 h2 => by omega⟩
theorem Fst.next {Q : Nat → Prop} {n i : Nat} {v : Int} (hq : ¬ Q i) (h : Fst Q n (i + 1) v) : Fst Q n i v := by
  rcases h with ⟨j, h1, h2, h3, h4, h5⟩ | ⟨h1, h2⟩
  · refine .inl ⟨j, by omega, h2, h3, h4, fun m h6 h7 => ?_⟩
    rcases Nat.lt_or_ge i m with h8 | h8
    · exact h5 m h8 h7
    · have : m = i := by omega
      subst this
      exact hq
  · refine .inr ⟨h1, fun m h6 h7 => ?_⟩
    rcases Nat.lt_or_ge i m with h8 | h8
    · exact h2 m h8 h7
    · have : m = i := by omega
      subst this
      exact hq
theorem atS_l0 (L : List S124) (s : ByteArray) (hn : L.length ≤ 4611686018427387904) : ∀ d i, i + d = L.length → ∃ v, (∀ k, d < k → spec_l11At.l0 k L s (i : Int) = some v) ∧ Fst (QS L s.toList) L.length i v
  | 0, i, hi => by
    refine ⟨-1, fun k hk => ?_, .inr ⟨rfl, fun m h1 h2 => by omega⟩⟩
    obtain ⟨k, rfl⟩ : ∃ m, k = m + 1 := ⟨k - 1, by omega⟩
    simp only [spec_l11At.l0]
    rw [if_neg (by omega)]
  | d + 1, i, hi => by
    have hlt : i < L.length := by omega
    by_cases hq : QS L s.toList i
    · refine ⟨i, fun k hk => ?_, .here hlt hq⟩
      obtain ⟨k, rfl⟩ : ∃ m, k = m + 1 := ⟨k - 1, by omega⟩
      obtain ⟨_, h1, h2⟩ := hq
      simp only [spec_l11At.l0, spec_l11Place.f]
      rw [if_pos (by omega), if_pos (by omega), rd_nat124 L i hlt]
      simp only [Option.bind_some]
      rw [if_pos (by obtain ⟨a, b, c, d⟩ := h1; simp [a, b, c, d]), if_pos h2]
    · obtain ⟨v, h1, h2⟩ := atS_l0 L s hn d (i + 1) (by omega)
      refine ⟨v, fun k hk => ?_, h2.next hq⟩
      obtain ⟨k, rfl⟩ : ∃ m, k = m + 1 := ⟨k - 1, by omega⟩
      simp only [spec_l11At.l0, spec_l11Place.f]
      rw [if_pos (by omega), if_pos (by omega), rd_nat124 L i hlt, wsucc hlt (by omega)]
      simp only [Option.bind_some]
      by_cases hp : PZ L[i]
      · rw [if_pos (by obtain ⟨a, b, c, d⟩ := hp; simp [a, b, c, d]), if_neg fun h => hq ⟨hlt, hp, h⟩]
        exact h1 k (by omega)
      · rw [if_neg (by unfold PZ at hp; simp; grind)]
        exact h1 k (by omega)
theorem atI_l0 (L : List S124) (s : ByteArray) (hn : L.length ≤ 4611686018427387904) : ∀ d i, i + d = L.length → ∃ v, (∀ k, d < k → impl_placeOf.l0 k L s (i : Int) = some v) ∧ Fst (QI L s.toList) L.length i v
  | 0, i, hi => by
    refine ⟨-1, fun k hk => ?_, .inr ⟨rfl, fun m h1 h2 => by omega⟩⟩
    obtain ⟨k, rfl⟩ : ∃ m, k = m + 1 := ⟨k - 1, by omega⟩
    simp only [impl_placeOf.l0]
    rw [if_neg (by omega)]
  | d + 1, i, hi => by
    have hlt : i < L.length := by omega
    by_cases hq : QI L s.toList i
    · refine ⟨i, fun k hk => ?_, .here hlt hq⟩
      obtain ⟨k, rfl⟩ : ∃ m, k = m + 1 := ⟨k - 1, by omega⟩
      obtain ⟨_, h1, h2⟩ := hq
      simp only [impl_placeOf.l0, impl_Line_isPlace.f]
      rw [if_pos (by omega), if_pos (by omega), rd_nat124 L i hlt]
      simp only [Option.bind_some]
      rw [if_pos (by simp [h1]), if_pos h2]
    · obtain ⟨v, h1, h2⟩ := atI_l0 L s hn d (i + 1) (by omega)
      refine ⟨v, fun k hk => ?_, h2.next hq⟩
      obtain ⟨k, rfl⟩ : ∃ m, k = m + 1 := ⟨k - 1, by omega⟩
      simp only [impl_placeOf.l0, impl_Line_isPlace.f]
      rw [if_pos (by omega), if_pos (by omega), rd_nat124 L i hlt, wsucc hlt (by omega)]
      simp only [Option.bind_some]
      by_cases hp : L[i].f1.f0 = 0
      · rw [if_pos (by simp [hp]), if_neg fun h => hq ⟨hlt, hp, h⟩]
        exact h1 k (by omega)
      · rw [if_neg (by simp [hp])]
        exact h1 k (by omega)
theorem atS (L : List S124) (s : ByteArray) (hn : L.length ≤ 1048576) : ∃ v, (∀ k, L.length < k → spec_l11At.f k L s = some v) ∧ Fst (QS L s.toList) L.length 0 v :=
  atS_l0 L s (by omega) L.length 0 (by omega)
theorem atI (L : List S124) (s : ByteArray) (hn : L.length ≤ 1048576) (a : Nat) (ha : a < L.length) : ∃ v, (∀ k, L.length < k → impl_placeOf.f k L s (a : Int) = some v) ∧ Fst (QI L s.toList) L.length (a + 1) v := by
  obtain ⟨v, h1, h2⟩ := atI_l0 L s (by omega) (L.length - (a + 1)) (a + 1) (by omega)
  refine ⟨v, fun k hk => ?_, h2⟩
  unfold impl_placeOf.f
  rw [wsucc ha (by omega)]
  exact h1 k (by omega)
theorem atI0 (L : List S124) (s : ByteArray) (hn : L.length ≤ 1048576) : ∃ v, (∀ k, L.length < k → impl_placeOf.f k L s (-1) = some v) ∧ Fst (QI L s.toList) L.length 0 v := by
  obtain ⟨v, h1, h2⟩ := atI_l0 L s (by omega) L.length 0 (by omega)
  refine ⟨v, fun k hk => ?_, h2⟩
  unfold impl_placeOf.f
  rw [show wrap64 (-1 + 1) = ((0 : Nat) : Int) from w64 (by omega) (by omega)]
  exact h1 k hk
def SL (x : S124) (i v0 v2 v3 : Int) : Prop :=
  (PZ x ∧ (1 ≤ (x.f0.size : Int) ∧ (x.f0.size : Int) ≤ 12) ∧ x.f2.toList = [] ∧ x.f3.toList = [] ∧ v0 = i) ∨
  (¬ PZ x ∧ x.f0.toList = [] ∧ x.f1.f2 = 0 ∧ x.f1.f3 = 0 ∧ (x.f1.f0 = 7 → x.f1.f1 = 0) ∧ InsP x.f1.f0 x.f1.f1 x.f1.f2 x.f1.f3 ∧
    ((x.f1.f0 = 7 ∧ x.f3.toList = [] ∧ v2 > i) ∨ ((3 ≤ x.f1.f0 ∧ x.f1.f0 ≤ 6) ∧ v2 > i ∧ v3 > i) ∨ (¬ x.f1.f0 = 7 ∧ ¬ (3 ≤ x.f1.f0 ∧ x.f1.f0 ≤ 6) ∧ x.f2.toList = [] ∧ x.f3.toList = [])))
instance (x : S124) (i v0 v2 v3 : Int) : Decidable (SL x i v0 v2 v3) := by unfold SL; infer_instance
def IL (x : S124) (i w0 w2 w3 : Int) : Prop :=
  (PZ x ∧ (1 ≤ (x.f0.size : Int) ∧ (x.f0.size : Int) ≤ 12) ∧ x.f2.toList = [] ∧ x.f3.toList = [] ∧ w0 = i) ∨
  (¬ x.f1.f0 = 0 ∧ x.f0.toList = [] ∧ x.f1.f2 = 0 ∧ x.f1.f3 = 0 ∧ (x.f1.f0 = 7 → x.f1.f1 = 0) ∧ InsP x.f1.f0 x.f1.f1 x.f1.f2 x.f1.f3 ∧
    ((x.f1.f0 = 7 ∧ x.f3.toList = [] ∧ w2 ≥ 0) ∨ ((3 ≤ x.f1.f0 ∧ x.f1.f0 ≤ 6) ∧ w2 ≥ 0 ∧ w3 ≥ 0) ∨ (¬ x.f1.f0 = 7 ∧ ¬ (3 ≤ x.f1.f0 ∧ x.f1.f0 ≤ 6) ∧ x.f2.toList = [] ∧ x.f3.toList = [])))
instance (x : S124) (i v0 v2 v3 : Int) : Decidable (IL x i v0 v2 v3) := by unfold IL; infer_instance
theorem eqb {b : Bool} {P : Prop} [Decidable P] (h : b = true ↔ P) : some b = some (decide P) := congrArg some (by rw [Bool.eq_iff_iff, h]; simp)
set_option maxHeartbeats 1000000 in
theorem lineS (L : List S124) (i : Nat) (hi : i < L.length) (k : Nat) (hk : 5 ≤ k) (v0 v2 v3 : Int) (h0 : ∀ m, k ≤ m + 1 → spec_l11At.f m L L[i].f0 = some v0) (h2 : ∀ m, k ≤ m + 1 → spec_l11At.f m L L[i].f2 = some v2) (h3 : ∀ m, k ≤ m + 1 → spec_l11At.f m L L[i].f3 = some v3) :
    spec_l11Line.f k L (i : Int) = some (decide (SL L[i] i v0 v2 v3)) := by
  obtain ⟨k, rfl⟩ : ∃ m, k = m + 1 := ⟨k - 1, by omega⟩
  simp only [spec_l11Line.f, spec_l11Place.f]
  rw [if_pos (by omega), if_pos (by omega), rd_nat124 L i hi]
  simp only [Option.bind_some, inS, okS _ (show 2 ≤ k + 1 by omega), h0 _ (Nat.le_succ _), spec_l11Line.j0, askS, h2 _ (Nat.le_refl _), h3 _ (Nat.le_refl _), decide_eq_true_eq]
  have eP : ((L[i].f1.f0 == 0 && (L[i].f1.f1 == 0 && (L[i].f1.f2 == 0 && (L[i].f1.f3 == 0)))) = true) = PZ L[i] := by
    unfold PZ
    simp
  simp only [eP]
  generalize L[i] = x
  by_cases hp : PZ x
  · rw [if_pos hp]
    repeat' split
    all_goals (refine eqb ?_; unfold SL; grind)
  · rw [if_neg hp]
    repeat' split
    all_goals (refine eqb ?_; unfold SL; grind)
set_option maxHeartbeats 1000000 in
theorem lineI (L : List S124) (i : Nat) (hi : i < L.length) (k : Nat) (hk : 5 ≤ k) (v0 v2 v3 : Int) (h0 : ∀ m, k ≤ m + 1 → impl_placeOf.f m L L[i].f0 (-1) = some v0) (h2 : ∀ m, k ≤ m + 1 → impl_placeOf.f m L L[i].f2 (i : Int) = some v2) (h3 : ∀ m, k ≤ m + 1 → impl_placeOf.f m L L[i].f3 (i : Int) = some v3) :
    impl_lineOk.f k L (i : Int) = some (decide (IL L[i] i v0 v2 v3)) := by
  obtain ⟨k, rfl⟩ : ∃ m, k = m + 1 := ⟨k - 1, by omega⟩
  simp only [impl_lineOk.f, impl_Line_isPlace.f]
  rw [if_pos (by omega), if_pos (by omega), rd_nat124 L i hi]
  simp only [Option.bind_some, inI, okI _ (show 2 ≤ k + 1 by omega), h0 _ (Nat.le_succ _), impl_lineOk.j0, askI, h2 _ (Nat.le_refl _), h3 _ (Nat.le_refl _), decide_eq_true_eq]
  have eP : ((L[i].f1.f0 == 0 && (L[i].f1.f1 == 0 && (L[i].f1.f2 == 0 && (L[i].f1.f3 == 0)))) = true) = PZ L[i] := by
    unfold PZ
    simp
  simp only [eP]
  generalize L[i] = x
  by_cases hp : x.f1.f0 = 0
  · rw [if_pos (by simp [hp])]
    repeat' split
    all_goals (refine eqb ?_; unfold IL; grind [PZ])
  · rw [if_neg (by simp [hp])]
    repeat' split
    all_goals (refine eqb ?_; unfold IL; grind [PZ])
theorem Fst.uniq {Q Q' : Nat → Prop} {n i : Nat} {v v' : Int} (h : Fst Q n i v) (h' : Fst Q' n i v') (e : ∀ m, m < n → (Q m ↔ Q' m)) : v = v' := by
  rcases h with ⟨j, h1, h2, h3, h4, h5⟩ | ⟨h1, h2⟩
  · rcases h' with ⟨j', g1, g2, g3, g4, g5⟩ | ⟨g1, g2⟩
    · have : j = j' := by
        rcases Nat.lt_trichotomy j j' with h | h | h
        · exact absurd ((e j h2).1 h3) (g5 j h1 h)
        · exact h
        · exact absurd ((e j' g2).2 g3) (h5 j' g1 h)
      omega
    · exact absurd ((e j h2).1 h3) (g2 j h1 h2)
  · rcases h' with ⟨j', g1, g2, g3, g4, g5⟩ | ⟨g1, g2⟩
    · exact absurd ((e j' g2).2 g3) (h2 j' g1 g2)
    · omega
theorem allLoop {F : Nat → Int → Option Bool} {n : Nat} {P : Nat → Prop} (h0 : ∀ k, F (k + 1) (n : Int) = some true)
    (h1 : ∀ i : Nat, i < n → ∃ b, (b = true ↔ P i) ∧ ∃ K, ∀ k, K ≤ k → F (k + 1) (i : Int) = if b = true then F k ((i + 1 : Nat) : Int) else some false) : ∃ b, Evt (fun k => F k 0) b ∧ (b = true ↔ ∀ i, i < n → P i) := by
  have h := down (T := fun i => ∃ b, Evt (fun k => F k (i : Int)) b ∧ (b = true ↔ ∀ j, i ≤ j → j < n → P j)) (n := n) ?_ ?_ n 0 (by omega)
  · obtain ⟨b, h2, h3⟩ := h
    exact ⟨b, h2, h3.trans ⟨fun h j hj => h j (Nat.zero_le _) hj, fun h j _ hj => h j hj⟩⟩
  · exact ⟨true, .succ (.const fun k => h0 k), by simp; intro j h2 h3; omega⟩
  · intro i hi ⟨b, ⟨K, hK⟩, hb⟩
    obtain ⟨b', hb', K', hK'⟩ := h1 i hi
    cases b' with
    | true =>
      refine ⟨b, .succ ⟨K + K', fun k hk => ?_⟩, hb.trans ⟨fun h j h2 h3 => ?_, fun h j h2 h3 => h j (by omega) h3⟩⟩
      · show F (k + 1) (i : Int) = _
        rw [hK' k (by omega), if_pos rfl]
        exact hK k (by omega)
      · rcases Nat.lt_or_ge i j with h4 | h4
        · exact h j h4 h3
        · have : i = j := by omega
          subst this
          exact hb'.1 rfl
    | false =>
      refine ⟨false, .succ ⟨K', fun k hk => ?_⟩, ⟨(fun h => by cases h), fun h => absurd (hb'.2 (h i (Nat.le_refl _) hi)) (by simp)⟩⟩
      show F (k + 1) (i : Int) = _
      rw [hK' k (by omega), if_neg (by simp)]
def SAll (L : List S124) : Prop := ∀ j (h : j < L.length), ∀ v0 v2 v3, Fst (QS L L[j].f0.toList) L.length 0 v0 → Fst (QS L L[j].f2.toList) L.length 0 v2 → Fst (QS L L[j].f3.toList) L.length 0 v3 → SL L[j] j v0 v2 v3
def IAll (L : List S124) : Prop := ∀ j (h : j < L.length), ∀ v0 v2 v3, Fst (QI L L[j].f0.toList) L.length 0 v0 → Fst (QI L L[j].f2.toList) L.length (j + 1) v2 → Fst (QI L L[j].f3.toList) L.length (j + 1) v3 → IL L[j] j v0 v2 v3
theorem sAll (L : List S124) (hn : L.length ≤ 1048576) : ∃ b, Evt (fun k => spec_LinesOk.l0 k L 0) b ∧ (b = true ↔ SAll L) := by
  obtain ⟨b, h1, h2⟩ := allLoop (F := fun k i => spec_LinesOk.l0 k L i) (n := L.length) (P := fun j => ∀ h : j < L.length, ∀ v0 v2 v3, Fst (QS L L[j].f0.toList) L.length 0 v0 → Fst (QS L L[j].f2.toList) L.length 0 v2 → Fst (QS L L[j].f3.toList) L.length 0 v3 → SL L[j] j v0 v2 v3)
    (fun k => by simp only [spec_LinesOk.l0]; rw [if_neg (by omega)]) (fun i hi => by
      obtain ⟨v0, a0, b0⟩ := atS L L[i].f0 hn
      obtain ⟨v2, a2, b2⟩ := atS L L[i].f2 hn
      obtain ⟨v3, a3, b3⟩ := atS L L[i].f3 hn
      refine ⟨decide (SL L[i] i v0 v2 v3), ?_, L.length + 10, fun k hk => ?_⟩
      · rw [decide_eq_true_eq]
        refine ⟨fun h _ u0 u2 u3 c0 c2 c3 => ?_, fun h => h hi v0 v2 v3 b0 b2 b3⟩
        rw [← b0.uniq c0 (fun _ _ => .rfl), ← b2.uniq c2 (fun _ _ => .rfl), ← b3.uniq c3 (fun _ _ => .rfl)]
        exact h
      · simp only [spec_LinesOk.l0]
        rw [if_pos (by omega), lineS L i hi k (by omega) v0 v2 v3 (fun m hm => a0 m (by omega)) (fun m hm => a2 m (by omega)) (fun m hm => a3 m (by omega)), wsucc hi (by omega)]
        rfl)
  exact ⟨b, h1, h2.trans ⟨fun h j hj => h j hj hj, fun h j hj _ => h j hj⟩⟩
theorem iAll (L : List S124) (hn : L.length ≤ 1048576) : ∃ b, Evt (fun k => impl_LinesOk.l0 k L (L.length : Int) 0) b ∧ (b = true ↔ IAll L) := by
  obtain ⟨b, h1, h2⟩ := allLoop (F := fun k i => impl_LinesOk.l0 k L (L.length : Int) i) (n := L.length) (P := fun j => ∀ h : j < L.length, ∀ v0 v2 v3, Fst (QI L L[j].f0.toList) L.length 0 v0 → Fst (QI L L[j].f2.toList) L.length (j + 1) v2 → Fst (QI L L[j].f3.toList) L.length (j + 1) v3 → IL L[j] j v0 v2 v3)
    (fun k => by simp only [impl_LinesOk.l0]; rw [if_neg (by omega)]) (fun i hi => by
      obtain ⟨v0, a0, b0⟩ := atI0 L L[i].f0 hn
      obtain ⟨v2, a2, b2⟩ := atI L L[i].f2 hn i hi
      obtain ⟨v3, a3, b3⟩ := atI L L[i].f3 hn i hi
      refine ⟨decide (IL L[i] i v0 v2 v3), ?_, L.length + 10, fun k hk => ?_⟩
      · rw [decide_eq_true_eq]
        refine ⟨fun h _ u0 u2 u3 c0 c2 c3 => ?_, fun h => h hi v0 v2 v3 b0 b2 b3⟩
        rw [← b0.uniq c0 (fun _ _ => .rfl), ← b2.uniq c2 (fun _ _ => .rfl), ← b3.uniq c3 (fun _ _ => .rfl)]
        exact h
      · simp only [impl_LinesOk.l0]
        rw [if_pos (by omega), lineI L i hi k (by omega) v0 v2 v3 (fun m hm => a0 m (by omega)) (fun m hm => a2 m (by omega)) (fun m hm => a3 m (by omega)), wsucc hi (by omega)]
        rfl)
  exact ⟨b, h1, h2.trans ⟨fun h j hj => h j hj hj, fun h j hj _ => h j hj⟩⟩
/-- Both ask the same of all lines: where all are right, each place is bare and bears a name of its own. -/
theorem qs_qi {L : List S124} (H : ∀ j (h : j < L.length), L[j].f1.f0 = 0 → PZ L[j]) (s : List UInt8) (m : Nat) : QS L s m ↔ QI L s m :=
  ⟨fun ⟨h, h1, h2⟩ => ⟨h, h1.1, h2⟩, fun ⟨h, h1, h2⟩ => ⟨h, H m h h1, h2⟩⟩
theorem fstS (L : List S124) (hn : L.length ≤ 1048576) (s : ByteArray) : ∃ v, Fst (QS L s.toList) L.length 0 v := by
  obtain ⟨v, _, h⟩ := atS L s hn
  exact ⟨v, h⟩
theorem fstI (L : List S124) (hn : L.length ≤ 1048576) (s : ByteArray) (i : Nat) (hi : i ≤ L.length) : ∃ v, Fst (QI L s.toList) L.length i v := by
  obtain ⟨v, _, h⟩ := atI_l0 L s (by omega) (L.length - i) i (by omega)
  exact ⟨v, h⟩
theorem all_iff (L : List S124) (hn : L.length ≤ 1048576) : SAll L ↔ IAll L := by
  constructor
  · intro hS
    have H : ∀ j (h : j < L.length), L[j].f1.f0 = 0 → PZ L[j] := fun j h e => by
      obtain ⟨v0, h0⟩ := fstS L hn L[j].f0
      obtain ⟨v2, h2⟩ := fstS L hn L[j].f2
      obtain ⟨v3, h3⟩ := fstS L hn L[j].f3
      rcases hS j h v0 v2 v3 h0 h2 h3 with h4 | h4
      · exact h4.1
      · have h5 := h4.2.2.2.2.2.1
        unfold InsP at h5
        omega
    have up : ∀ (s : ByteArray) (j : Nat) (v w : Int), Fst (QS L s.toList) L.length 0 v → Fst (QI L s.toList) L.length (j + 1) w → v > j → w ≥ 0 := fun s j v w h1 h2 h3 => by
      rcases h1 with ⟨m, _, m2, m3, m4, _⟩ | ⟨m1, _⟩
      · rcases h2 with ⟨u, _, _, _, u4, _⟩ | ⟨_, u2⟩
        · omega
        · exact absurd ((qs_qi H _ m).1 m3) (u2 m (by omega) m2)
      · omega
    intro j h w0 w2 w3 g0 g2 g3
    obtain ⟨v0, h0⟩ := fstS L hn L[j].f0
    obtain ⟨v2, h2⟩ := fstS L hn L[j].f2
    obtain ⟨v3, h3⟩ := fstS L hn L[j].f3
    have e0 := h0.uniq g0 (fun m _ => qs_qi H _ m)
    have u2 := up _ j v2 w2 h2 g2
    have u3 := up _ j v3 w3 h3 g3
    rcases hS j h v0 v2 v3 h0 h2 h3 with ⟨a, b, c, d, e⟩ | ⟨a, b, c, d, e, f, g⟩
    · exact .inl ⟨a, b, c, d, by omega⟩
    · refine .inr ⟨by unfold InsP at f; omega, b, c, d, e, f, ?_⟩
      rcases g with ⟨g1, g2, g3⟩ | ⟨g1, g2, g3⟩ | g
      · exact .inl ⟨g1, g2, u2 g3⟩
      · exact .inr (.inl ⟨g1, u2 g2, u3 g3⟩)
      · exact .inr (.inr g)
  · intro hI
    have hW : ∀ j (h : j < L.length), ∃ w0 w2 w3, Fst (QI L L[j].f0.toList) L.length 0 w0 ∧ Fst (QI L L[j].f2.toList) L.length (j + 1) w2 ∧ Fst (QI L L[j].f3.toList) L.length (j + 1) w3 ∧ IL L[j] j w0 w2 w3 := fun j h => by
      obtain ⟨v0, h0⟩ := fstI L hn L[j].f0 0 (by omega)
      obtain ⟨v2, h2⟩ := fstI L hn L[j].f2 (j + 1) h
      obtain ⟨v3, h3⟩ := fstI L hn L[j].f3 (j + 1) h
      exact ⟨v0, v2, v3, h0, h2, h3, hI j h v0 v2 v3 h0 h2 h3⟩
    have H : ∀ j (h : j < L.length), L[j].f1.f0 = 0 → PZ L[j] := fun j h e => by
      obtain ⟨w0, w2, w3, _, _, _, h4⟩ := hW j h
      rcases h4 with h4 | h4
      · exact h4.1
      · exact absurd e h4.1
    have dn : ∀ (s : ByteArray) (j : Nat) (v w : Int), Fst (QS L s.toList) L.length 0 v → Fst (QI L s.toList) L.length (j + 1) w → w ≥ 0 → v > j := fun s j v w h1 h2 h3 => by
      rcases h2 with ⟨m, m1, m2, m3, m4, _⟩ | ⟨m1, _⟩
      · obtain ⟨w0, w2, w3, g0, _, _, g4⟩ := hW m m2
        obtain ⟨_, m5, m6⟩ := m3
        have hz := H m m2 m5
        have e0 : w0 = m := by
          rcases g4 with g4 | g4
          · exact g4.2.2.2.2
          · exact absurd m5 g4.1
        rw [m6] at g0
        have := h1.uniq g0 (fun m _ => qs_qi H _ m)
        omega
      · omega
    intro j h v0 v2 v3 h0 h2 h3
    obtain ⟨w0, w2, w3, g0, g2, g3, hl⟩ := hW j h
    have e0 := h0.uniq g0 (fun m _ => qs_qi H _ m)
    have u2 := dn _ j v2 w2 h2 g2
    have u3 := dn _ j v3 w3 h3 g3
    rcases hl with ⟨a, b, c, d, e⟩ | ⟨a, b, c, d, e, f, g⟩
    · exact .inl ⟨a, b, c, d, by omega⟩
    · refine .inr ⟨fun h => a h.1, b, c, d, e, f, ?_⟩
      rcases g with ⟨g1, g2, g3⟩ | ⟨g1, g2, g3⟩ | g
      · exact .inl ⟨g1, g2, u2 g3⟩
      · exact .inr (.inl ⟨g1, u2 g2, u3 g3⟩)
      · exact .inr (.inr g)
/-- Both answer alike. -/
theorem linesOk (L : List S124) (hn : L.length ≤ 1048576) : ∃ b, Evt (fun k => spec_LinesOk.f k L) b ∧ Evt (fun k => impl_LinesOk.f k L) b ∧ (b = true → (1 ≤ L.length ∧ L.length ≤ 600) ∧ SAll L ∧ IAll L) := by
  by_cases h1 : 1 ≤ (L.length : Int) ∧ (L.length : Int) ≤ 600
  · have e : wrap64 ((L.length : Int) - 1) = ((L.length - 1 : Nat) : Int) := by unfold wrap64; omega
    have hlt : L.length - 1 < L.length := by omega
    by_cases h8 : (L[L.length - 1].f1.f0) = 8
    · obtain ⟨b, ⟨K, hb⟩, hbi⟩ := sAll L hn
      obtain ⟨b', ⟨K', hb'⟩, hbi'⟩ := iAll L hn
      have eb : b' = b := by rw [Bool.eq_iff_iff, hbi, hbi', all_iff L hn]
      subst eb
      refine ⟨b', .succ ⟨K + 1, fun k hk => ?_⟩, .succ ⟨K' + 1, fun k hk => ?_⟩, fun h => ⟨by omega, hbi.1 h, hbi'.1 h⟩⟩
      · simp only [spec_LinesOk.f, inS, Option.bind_some, decide_eq_true_eq]
        rw [if_pos h1, e, if_pos (by omega), if_pos (by omega), rd_nat124 L _ hlt, h8]
        simp only [spec_LinesOk.j0]
        rw [if_neg (by simp)]
        exact hb k (by omega)
      · simp only [impl_LinesOk.f, inI, Option.bind_some, decide_eq_true_eq]
        rw [if_pos h1, e, if_pos (by omega), if_pos (by omega), rd_nat124 L _ hlt, h8]
        simp only [impl_LinesOk.j0]
        rw [if_neg (by simp)]
        exact hb' k (by omega)
    · refine ⟨false, .succ (.const fun k => ?_), .succ (.const fun k => ?_), fun h => by cases h⟩
      · simp only [spec_LinesOk.f, inS, Option.bind_some, decide_eq_true_eq]
        rw [if_pos h1, e, if_pos (by omega), if_pos (by omega), rd_nat124 L _ hlt]
        simp only [spec_LinesOk.j0]
        rw [if_pos (by simp [h8])]
      · simp only [impl_LinesOk.f, inI, Option.bind_some, decide_eq_true_eq]
        rw [if_pos h1, e, if_pos (by omega), if_pos (by omega), rd_nat124 L _ hlt]
        simp only [impl_LinesOk.j0]
        rw [if_pos (by simp [h8])]
  · refine ⟨false, .succ (.const fun k => ?_), .succ (.const fun k => ?_), fun h => by cases h⟩
    · simp only [spec_LinesOk.f, inS, Option.bind_some, decide_eq_true_eq]
      rw [if_neg h1]
      simp only [spec_LinesOk.j0, if_true]
    · simp only [impl_LinesOk.f, inI, Option.bind_some, decide_eq_true_eq]
      rw [if_neg h1]
      simp only [impl_LinesOk.j0, if_true]
theorem main (l : List S132) (hl : ((∀ u ∈ l, (u.f0.size ≤ maxLen ∧ ((Lit.int .i64 u.f1.f0).wf = true ∧ (Lit.int .i64 u.f1.f1).wf = true ∧ (Lit.int .i64 u.f1.f2).wf = true ∧ (Lit.int .i64 u.f1.f3).wf = true) ∧ u.f2.size ≤ maxLen ∧ u.f3.size ≤ maxLen)) ∧ l.length ≤ maxLen)) : ∃ k, laws_FnExactLinesOk.f k l = some true := by
  obtain ⟨s, hs, hp, K1, h1⟩ := Elaws_szLineS l 1048576 (by omega) (by omega) hl.2 hl.1
  dsimp only at h1
  by_cases hn : s < 0
  · refine ⟨K1, ?_⟩
    simp only [laws_FnExactLinesOk.f, h1 K1 (Nat.le_refl _), Option.bind_some, if_pos hn]
  · obtain ⟨hp1, hp2⟩ := hp (by omega)
    obtain ⟨K2, h2⟩ := Elaws_toLineS l hp1 hp2
    have hc : (l.map conv132).length = l.length := List.length_map _
    obtain ⟨b, ⟨K3, h3⟩, ⟨K4, h4⟩, _⟩ := linesOk (l.map conv132) (by omega)
    obtain ⟨K5, h5⟩ := Elaws_eqLineS (l.map conv132) (by omega)
    dsimp only at h2 h3 h4 h5
    refine ⟨K1 + K2 + K3 + K4 + K5, ?_⟩
    simp only [laws_FnExactLinesOk.f, h1 _ (show K1 ≤ K1 + K2 + K3 + K4 + K5 by omega), h2 _ (show K2 ≤ K1 + K2 + K3 + K4 + K5 by omega), h3 _ (show K3 ≤ K1 + K2 + K3 + K4 + K5 by omega), h4 _ (show K4 ≤ K1 + K2 + K3 + K4 + K5 by omega), h5 _ (show K5 ≤ K1 + K2 + K3 + K4 + K5 by omega), Option.bind_some, if_neg hn, if_true, bne_self_eq_false, Bool.false_eq_true, if_false]
end Go.Proofs.Ytiinjipfhmgheaa.PFnExactLinesOk
