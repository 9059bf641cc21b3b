/- The pure law of FnExactLayout: what the functions of the program and of the reference come to is the same, for all arguments that the law is asked of. No conditions. -/
import Derived.Test.YtfmilhpneelonaaPFnExactLayouty15
import Derived.Test.YtfmilhpneelonaaEV
set_option linter.unusedSimpArgs false
set_option linter.unusedVariables false
namespace Go.Proofs.Ytfmilhpneelonaa.PFnExactLayout
open Go Go.RowKit Go.Proofs.YtfmilhpneelonaaW.PrintWords Go.Proofs.YtfmilhpneelonaaW.PrintLast Go.Proofs.YtfmilhpneelonaaW.PK
theorem Elaws_szLine (a0_0 : ByteArray) (a0_1 : Int) (a0_2 : Int) (a0_3 : Int) (a0_4 : Int) (a0_5 : ByteArray) (a0_6 : ByteArray) (q : Int) (hq : 0 ≤ q) (hq' : q ≤ 1048576) (ha0_0 : a0_0.size ≤ maxLen) (ha0_5 : a0_5.size ≤ maxLen) (ha0_6 : a0_6.size ≤ maxLen) : ∃ s : Int, s ≤ q ∧ (0 ≤ s → (a0_0.size ≤ 1048576 ∧ a0_5.size ≤ 1048576 ∧ a0_6.size ≤ 1048576)) ∧ Evt (fun k => laws_szLine.f a0_0 a0_1 a0_2 a0_3 a0_4 a0_5 a0_6 q) s := by
  have m0 : a0_0.size ≤ maxLen := ha0_0
  unfold maxLen at m0
  have e0 : wrap64 (q - (a0_0.size : Int)) = q - a0_0.size := w64 (by omega) (by omega)
  by_cases n0 : q - a0_0.size < 0
  · exact ⟨-1, by omega, fun h => by omega, 0, fun k hk => by simp only [laws_szLine.f, e0, Option.bind_some, if_pos n0]⟩
  have m1 : a0_5.size ≤ maxLen := ha0_5
  unfold maxLen at m1
  have e1 : wrap64 (q - a0_0.size - (a0_5.size : Int)) = q - a0_0.size - a0_5.size := w64 (by omega) (by omega)
  by_cases n1 : q - a0_0.size - a0_5.size < 0
  · exact ⟨-1, by omega, fun h => by omega, 0, fun k hk => by simp only [laws_szLine.f, e0, e1, Option.bind_some, if_neg n0, if_pos n1]⟩
  have m2 : a0_6.size ≤ maxLen := ha0_6
  unfold maxLen at m2
  have e2 : wrap64 (q - a0_0.size - a0_5.size - (a0_6.size : Int)) = q - a0_0.size - a0_5.size - a0_6.size := w64 (by omega) (by omega)
  by_cases n2 : q - a0_0.size - a0_5.size - a0_6.size < 0
  · exact ⟨-1, by omega, fun h => by omega, 0, fun k hk => by simp only [laws_szLine.f, e0, e1, e2, Option.bind_some, if_neg n0, if_neg n1, if_pos n2]⟩
  exact ⟨q - a0_0.size - a0_5.size - a0_6.size, by omega, fun h => ⟨(by omega), (by omega), (by omega)⟩, 0, fun k hk => by simp only [laws_szLine.f, e0, e1, e2, Option.bind_some, if_neg n0, if_neg n1, if_neg n2]⟩
theorem nrd_T167 (l : List (S167)) (i : Nat) (h : i < l.length) : rd_T167 l (i : Int) = l[i] := getD_lt _ h
theorem Elaws_szLineS (l : List (S167)) (q : Int) (hq : 0 ≤ q) (hq' : q ≤ 1048576) (hm : l.length ≤ maxLen) (hw : ∀ x ∈ l, (x.f0.size ≤ maxLen ∧ ((Lit.int .i64 x.f1.f0).wf = true ∧ (Lit.int .i64 x.f1.f1).wf = true ∧ (Lit.int .i64 x.f1.f2).wf = true ∧ (Lit.int .i64 x.f1.f3).wf = true) ∧ x.f2.size ≤ maxLen ∧ x.f3.size ≤ maxLen)) : ∃ s : Int, s ≤ q ∧ (0 ≤ s → l.length ≤ 1048576 ∧ ∀ y ∈ l, (y.f0.size ≤ 1048576 ∧ y.f2.size ≤ 1048576 ∧ y.f3.size ≤ 1048576)) ∧ Evt (fun k => laws_szLineS.f k l q) s := by
  unfold maxLen at hm
  have e : wrap64 (q - (l.length : Int)) = q - l.length := w64 (by omega) (by omega)
  by_cases hn : q - (l.length : Int) < 0
  · exact ⟨-1, by omega, fun h => by omega, .const fun k => by simp only [laws_szLineS.f, e, if_pos hn]⟩
  · have H := Evt.sz (F := fun k q i => laws_szLineS.l0 k l q i) (n := l.length) (P := fun i => ∀ h : i < l.length, (l[i].f0.size ≤ 1048576 ∧ l[i].f2.size ≤ 1048576 ∧ l[i].f3.size ≤ 1048576)) ?_ ?_ (q - l.length) (by omega) (by omega)
    · obtain ⟨s, hs, hP, hE⟩ := H
      refine ⟨s, by omega, fun h => ⟨by omega, fun y hy => ?_⟩, hE.congr fun k => ?_⟩
      · obtain ⟨i, hi, rfl⟩ := List.mem_iff_getElem.1 hy
        exact hP h i hi hi
      · simp only [laws_szLineS.f, e, if_neg hn]
    · intro k q
      simp only [laws_szLineS.l0]
      rw [if_neg (by omega)]
    · intro i hi q hq hq'
      obtain ⟨s, hs, hP, K, hK⟩ := Elaws_szLine l[i].f0 l[i].f1.f0 l[i].f1.f1 l[i].f1.f2 l[i].f1.f3 l[i].f2 l[i].f3 q hq hq' ((hw _ (List.getElem_mem hi)).1) ((hw _ (List.getElem_mem hi)).2.2.1) ((hw _ (List.getElem_mem hi)).2.2.2)
      dsimp only at hK
      refine ⟨s, hs, fun h _ => hP h, K, fun k hk => ?_⟩
      simp only [laws_szLineS.l0]
      rw [if_pos (by omega), if_pos (by omega), nrd_T167 l i hi, hK k hk, wsucc hi (by omega)]
      all_goals rfl
theorem Elaws_toIns (a0_0 : Int) (a0_1 : Int) (a0_2 : Int) (a0_3 : Int) : Evt (fun k => laws_toIns.f a0_0 a0_1 a0_2 a0_3) (a0_0, a0_1, a0_2, a0_3) := by
  exact .const fun k => rfl
theorem Elaws_toLine (a0_0 : ByteArray) (a0_1 : Int) (a0_2 : Int) (a0_3 : Int) (a0_4 : Int) (a0_5 : ByteArray) (a0_6 : ByteArray) (ha0_0 : a0_0.size ≤ 1048576) (ha0_5 : a0_5.size ≤ 1048576) (ha0_6 : a0_6.size ≤ 1048576) : Evt (fun k => laws_toLine.f a0_0 a0_1 a0_2 a0_3 a0_4 a0_5 a0_6) (a0_0, a0_1, a0_2, a0_3, a0_4, a0_5, a0_6) := by
  exact .const fun k => rfl
def conv165 (a : S165) : S81 := ⟨a.f0, a.f1, a.f2, a.f3⟩
def conv167 (a : S167) : S83 := ⟨a.f0, (conv165 a.f1), a.f2, a.f3⟩
theorem Elaws_toLineS (l : List (S167)) (hn : l.length ≤ 1048576) (hB : ∀ y ∈ l, (y.f0.size ≤ 1048576 ∧ y.f2.size ≤ 1048576 ∧ y.f3.size ≤ 1048576)) : Evt (fun k => laws_toLineS.f k l) (l.map conv167) := by
  have h := Evt.to (F := fun k y i => laws_toLineS.l0 k l y i) (x := l) (conv := conv167) ?_ ?_ (List.replicate l.length z83) (by simp)
  · refine h.congr fun k => ?_
    unfold laws_toLineS.f
    rw [if_pos (by omega), if_pos (by omega), Int.toNat_natCast]
  · intro k y
    simp only [laws_toLineS.l0]
    rw [if_neg (by omega)]
  · intro i hi
    obtain ⟨K, hK⟩ := Elaws_toLine l[i].f0 l[i].f1.f0 l[i].f1.f1 l[i].f1.f2 l[i].f1.f3 l[i].f2 l[i].f3 ((hB _ (List.getElem_mem hi)).1) ((hB _ (List.getElem_mem hi)).2.1) ((hB _ (List.getElem_mem hi)).2.2)
    dsimp only at hK
    refine ⟨K, fun k hk y hy => ?_⟩
    simp only [laws_toLineS.l0]
    rw [if_pos (by omega), if_pos (by omega), nrd_T167 l i hi, hK k hk]
    simp only [Option.bind_some]
    rw [if_pos (by omega), wsucc hi (by omega), Int.toNat_natCast]
    all_goals rfl
theorem Elaws_eqIns (a0_0 : Int) (a0_1 : Int) (a0_2 : Int) (a0_3 : Int) : Evt (fun k => laws_eqIns.f a0_0 a0_1 a0_2 a0_3 a0_0 a0_1 a0_2 a0_3) true := by
  refine ⟨0, fun k hk => ?_⟩
  simp only [laws_eqIns.f, Option.bind_some, if_true]
theorem Elaws_eqLine (a0_0 : ByteArray) (a0_1 : Int) (a0_2 : Int) (a0_3 : Int) (a0_4 : Int) (a0_5 : ByteArray) (a0_6 : ByteArray) : Evt (fun k => laws_eqLine.f a0_0 a0_1 a0_2 a0_3 a0_4 a0_5 a0_6 a0_0 a0_1 a0_2 a0_3 a0_4 a0_5 a0_6) true := by
  refine ⟨0, fun k hk => ?_⟩
  simp only [laws_eqLine.f, laws_eqIns.f, Option.bind_some, if_true]
theorem nrd_T83 (l : List (S83)) (i : Nat) (h : i < l.length) : rd_T83 l (i : Int) = l[i] := getD_lt _ h
theorem Elaws_eqLineS (l : List (S83)) (hn : l.length ≤ 4611686018427387904) : Evt (fun k => laws_eqLineS.f k l l) true := by
  have h := Evt.pass (F := fun k i => laws_eqLineS.l0 k l l i) (n := l.length) (r := true) ?_ ?_
  · refine h.congr fun k => ?_
    unfold laws_eqLineS.f
    rw [if_pos rfl]
  · refine .const fun k => ?_
    simp only [laws_eqLineS.l0]
    rw [if_neg (by omega)]
  · intro i hi
    obtain ⟨K, hK⟩ := Elaws_eqLine l[i].f0 l[i].f1.f0 l[i].f1.f1 l[i].f1.f2 l[i].f1.f3 l[i].f2 l[i].f3
    dsimp only at hK
    refine ⟨K, fun k hk => ?_⟩
    simp only [laws_eqLineS.l0]
    rw [if_pos (by omega), if_pos (by omega), if_pos (by omega), nrd_T83 l i hi, hK k hk]
    simp only [Option.bind_some, if_true]
    rw [wsucc hi (by omega)]
theorem nrd_T81 (l : List (S81)) (i : Nat) (h : i < l.length) : rd_T81 l (i : Int) = l[i] := getD_lt _ h
theorem Elaws_eqInsS (l : List (S81)) (hn : l.length ≤ 4611686018427387904) : Evt (fun k => laws_eqInsS.f k l l) true := by
  have h := Evt.pass (F := fun k i => laws_eqInsS.l0 k l l i) (n := l.length) (r := true) ?_ ?_
  · refine h.congr fun k => ?_
    unfold laws_eqInsS.f
    rw [if_pos rfl]
  · refine .const fun k => ?_
    simp only [laws_eqInsS.l0]
    rw [if_neg (by omega)]
  · intro i hi
    obtain ⟨K, hK⟩ := Elaws_eqIns l[i].f0 l[i].f1 l[i].f2 l[i].f3
    dsimp only at hK
    refine ⟨K, fun k hk => ?_⟩
    simp only [laws_eqInsS.l0]
    rw [if_pos (by omega), if_pos (by omega), if_pos (by omega), nrd_T81 l i hi, hK k hk]
    simp only [Option.bind_some, if_true]
    rw [wsucc hi (by omega)]
theorem inS (a b c : Int) : spec_l01In.f a b c = some (decide (b ≤ a ∧ a ≤ c)) := by
 unfold spec_l01In.f
 by_cases h : a ≥ b
 ·rw [if_pos h]
  exact congrArg some (by rw [Bool.eq_iff_iff]; simp; omega)
 ·rw [if_neg h]
  exact congrArg some (by rw [Bool.eq_iff_iff]; simp; omega)
theorem inI (a b c : Int) : impl_within.f a b c = some (decide (b ≤ a ∧ a ≤ c)) := inS a b c
theorem halfS (a : Int) : spec_HalfOk.f a = some (decide (0 ≤ a ∧ a ≤ 4294967295)) := by
 unfold spec_HalfOk.f
 rw [inS]
 rfl
theorem halfI (a : Int) : impl_HalfOk.f a = some (decide (0 ≤ a ∧ a ≤ 4294967295)) := halfS a
theorem askS (a : Int) : spec_l06Ask.f a = some (decide (3 ≤ a ∧ a ≤ 6)) := by
 unfold spec_l06Ask.f
 rw [inS]
 rfl
theorem askI (a b c d : Int) : impl_Ins_asks.f a b c d = some (decide (3 ≤ a ∧ a ≤ 6)) := askS a
def InsP (a b c d : Int) : Prop := (1 ≤ a ∧ a ≤ 8) ∧ (0 ≤ b ∧ b ≤ 4294967295) ∧ (0 ≤ c ∧ c ≤ 15) ∧ (0 ≤ d ∧ d ≤ 15) ∧ ((3 ≤ a ∧ a ≤ 6) ∨ (c = 0 ∧ d = 0)) ∧ (a = 1 → b < 8) ∧ (a = 7 → b < 400)
instance (a b c d : Int) : Decidable (InsP a b c d) := by unfold InsP; infer_instance
theorem okS (k : Nat) (hk : 2 ≤ k) (a b c d : Int) : spec_InsOk.f k a b c d = some (decide (InsP a b c d)) := by
 obtain ⟨k, rfl⟩ : ∃ m, k = m + 2 := ⟨k - 2, by omega⟩
 have e : ∀ x : Bool, (x = true ↔ InsP a b c d) → some x = some (decide (InsP a b c d)) := fun x h => congrArg some (by rw [Bool.eq_iff_iff, h]; simp)
 unfold spec_InsOk.f
 simp only [inS, halfS, askS, spec_InsOk.j0, spec_InsOk.j1, Option.bind_some, decide_eq_true_eq, Bool.not_eq_true', decide_eq_false_iff_not]
 repeat' split
 all_goals (refine e _ ?_; clear e; unfold InsP; (try simp only [Bool.false_eq_true, bne_iff_ne, ne_eq, decide_eq_true_eq, false_iff, true_iff, Classical.not_not] at *))
 all_goals (first | contradiction | omega)
theorem okI (k : Nat) (hk : 2 ≤ k) (a b c d : Int) : impl_InsOk.f k a b c d = some (decide (InsP a b c d)) := by
 obtain ⟨k, rfl⟩ : ∃ m, k = m + 2 := ⟨k - 2, by omega⟩
 have e : ∀ x : Bool, (x = true ↔ InsP a b c d) → some x = some (decide (InsP a b c d)) := fun x h => congrArg some (by rw [Bool.eq_iff_iff, h]; simp)
 unfold impl_InsOk.f
 simp only [inI, halfI, askI, impl_InsOk.j0, Option.bind_some, decide_eq_true_eq, bne_iff_ne]
 repeat' split
 all_goals (refine e _ ?_; clear e; unfold InsP; (try simp only [Bool.false_eq_true, bne_iff_ne, ne_eq, decide_eq_true_eq, false_iff, true_iff, Classical.not_not] at *))
 all_goals (first | contradiction | omega)
theorem rd_nat83 (l : List S83) (i : Nat) (h : i < l.length) : rd_T83 l (i : Int) = l[i] := getD_lt _ h
/-- The first place from an index on. -/
def Fst (Q : Nat → Prop) (n i : Nat) (v : Int) : Prop := (∃ j, i ≤ j ∧ j < n ∧ Q j ∧ v = (j : Int) ∧ ∀ m, i ≤ m → m < j → ¬ Q m) ∨ (v = -1 ∧ ∀ m, i ≤ m → m < n → ¬ Q m)
def PZ (x : S83) : Prop := x.f1.f0 = 0 ∧ x.f1.f1 = 0 ∧ x.f1.f2 = 0 ∧ x.f1.f3 = 0
instance (x : S83) : Decidable (PZ x) := by unfold PZ; infer_instance
def QS (L : List S83) (s : List UInt8) (j : Nat) : Prop := ∃ h : j < L.length, PZ L[j] ∧ L[j].f0.toList = s
def QI (L : List S83) (s : List UInt8) (j : Nat) : Prop := ∃ h : j < L.length, L[j].f1.f0 = 0 ∧ L[j].f0.toList = s
theorem Fst.here {Q : Nat → Prop} {n i : Nat} (h : i < n) (hq : Q i) : Fst Q n i (i : Int) := .inl ⟨i, Nat.le_refl _, h, hq, rfl, fun m h1 h2 => by omega⟩
theorem Fst.next {Q : Nat → Prop} {n i : Nat} {v : Int} (hq : ¬ Q i) (h : Fst Q n (i + 1) v) : Fst Q n i v := by
  rcases h with ⟨j, h1, h2, h3, h4, h5⟩ | ⟨h1, h2⟩
  · refine .inl ⟨j, by omega, h2, h3, h4, fun m h6 h7 => ?_⟩
    rcases Nat.lt_or_ge i m with h8 | h8
    · exact h5 m h8 h7
    · have : m = i := by omega
      subst this
      exact hq
  · refine .inr ⟨h1, fun m h6 h7 => ?_⟩
    rcases Nat.lt_or_ge i m with h8 | h8
    · exact h2 m h8 h7
    · have : m = i := by omega
      subst this
      exact hq
theorem atS_l0 (L : List S83) (s : ByteArray) (hn : L.length ≤ 4611686018427387904) : ∀ d i, i + d = L.length → ∃ v, (∀ k, d < k → spec_l11At.l0 k L s (i : Int) = some v) ∧ Fst (QS L s.toList) L.length i v
  | 0, i, hi => by
    refine ⟨-1, fun k hk => ?_, .inr ⟨rfl, fun m h1 h2 => by omega⟩⟩
    obtain ⟨k, rfl⟩ : ∃ m, k = m + 1 := ⟨k - 1, by omega⟩
    simp only [spec_l11At.l0]
    rw [if_neg (by omega)]
  | d + 1, i, hi => by
    have hlt : i < L.length := by omega
    by_cases hq : QS L s.toList i
    · refine ⟨i, fun k hk => ?_, .here hlt hq⟩
      obtain ⟨k, rfl⟩ : ∃ m, k = m + 1 := ⟨k - 1, by omega⟩
      obtain ⟨_, h1, h2⟩ := hq
      simp only [spec_l11At.l0, spec_l11Place.f]
      rw [if_pos (by omega), if_pos (by omega), rd_nat83 L i hlt]
      simp only [Option.bind_some]
      rw [if_pos (by obtain ⟨a, b, c, d⟩ := h1; simp [a, b, c, d]), if_pos h2]
    · obtain ⟨v, h1, h2⟩ := atS_l0 L s hn d (i + 1) (by omega)
      refine ⟨v, fun k hk => ?_, h2.next hq⟩
      obtain ⟨k, rfl⟩ : ∃ m, k = m + 1 := ⟨k - 1, by omega⟩
      simp only [spec_l11At.l0, spec_l11Place.f]
      rw [if_pos (by omega), if_pos (by omega), rd_nat83 L i hlt, wsucc hlt (by omega)]
      simp only [Option.bind_some]
      by_cases hp : PZ L[i]
      · rw [if_pos (by obtain ⟨a, b, c, d⟩ := hp; simp [a, b, c, d]), if_neg fun h => hq ⟨hlt, hp, h⟩]
        exact h1 k (by omega)
      · rw [if_neg (by unfold PZ at hp; simp; grind)]
        exact h1 k (by omega)
theorem atI_l0 (L : List S83) (s : ByteArray) (hn : L.length ≤ 4611686018427387904) : ∀ d i, i + d = L.length → ∃ v, (∀ k, d < k → impl_placeOf.l0 k L s (i : Int) = some v) ∧ Fst (QI L s.toList) L.length i v
  | 0, i, hi => by
    refine ⟨-1, fun k hk => ?_, .inr ⟨rfl, fun m h1 h2 => by omega⟩⟩
    obtain ⟨k, rfl⟩ : ∃ m, k = m + 1 := ⟨k - 1, by omega⟩
    simp only [impl_placeOf.l0]
    rw [if_neg (by omega)]
  | d + 1, i, hi => by
    have hlt : i < L.length := by omega
    by_cases hq : QI L s.toList i
    · refine ⟨i, fun k hk => ?_, .here hlt hq⟩
      obtain ⟨k, rfl⟩ : ∃ m, k = m + 1 := ⟨k - 1, by omega⟩
      obtain ⟨_, h1, h2⟩ := hq
      simp only [impl_placeOf.l0, impl_Line_isPlace.f]
      rw [if_pos (by omega), if_pos (by omega), rd_nat83 L i hlt]
      simp only [Option.bind_some]
      rw [if_pos (by simp [h1]), if_pos h2]
    · obtain ⟨v, h1, h2⟩ := atI_l0 L s hn d (i + 1) (by omega)
      refine ⟨v, fun k hk => ?_, h2.next hq⟩
      obtain ⟨k, rfl⟩ : ∃ m, k = m + 1 := ⟨k - 1, by omega⟩
      simp only [impl_placeOf.l0, impl_Line_isPlace.f]
      rw [if_pos (by omega), if_pos (by omega), rd_nat83 L i hlt, wsucc hlt (by omega)]
      simp only [Option.bind_some]
      by_cases hp : L[i].f1.f0 = 0
      · rw [if_pos (by simp [hp]), if_neg fun h => hq ⟨hlt, hp, h⟩]
        exact h1 k (by omega)
      · rw [if_neg (by simp [hp])]
        exact h1 k (by omega)
theorem atS (L : List S83) (s : ByteArray) (hn : L.length ≤ 1048576) : ∃ v, (∀ k, L.length < k → spec_l11At.f k L s = some v) ∧ Fst (QS L s.toList) L.length 0 v :=
  atS_l0 L s (by omega) L.length 0 (by omega)
theorem atI (L : List S83) (s : ByteArray) (hn : L.length ≤ 1048576) (a : Nat) (ha : a < L.length) : ∃ v, (∀ k, L.length < k → impl_placeOf.f k L s (a : Int) = some v) ∧ Fst (QI L s.toList) L.length (a + 1) v := by
  obtain ⟨v, h1, h2⟩ := atI_l0 L s (by omega) (L.length - (a + 1)) (a + 1) (by omega)
  refine ⟨v, fun k hk => ?_, h2⟩
  unfold impl_placeOf.f
  rw [wsucc ha (by omega)]
  exact h1 k (by omega)
theorem atI0 (L : List S83) (s : ByteArray) (hn : L.length ≤ 1048576) : ∃ v, (∀ k, L.length < k → impl_placeOf.f k L s (-1) = some v) ∧ Fst (QI L s.toList) L.length 0 v := by
  obtain ⟨v, h1, h2⟩ := atI_l0 L s (by omega) L.length 0 (by omega)
  refine ⟨v, fun k hk => ?_, h2⟩
  unfold impl_placeOf.f
  rw [show wrap64 (-1 + 1) = ((0 : Nat) : Int) from w64 (by omega) (by omega)]
  exact h1 k hk
def SL (x : S83) (i v0 v2 v3 : Int) : Prop :=
  (PZ x ∧ (1 ≤ (x.f0.size : Int) ∧ (x.f0.size : Int) ≤ 12) ∧ x.f2.toList = [] ∧ x.f3.toList = [] ∧ v0 = i) ∨
  (¬ PZ x ∧ x.f0.toList = [] ∧ x.f1.f2 = 0 ∧ x.f1.f3 = 0 ∧ (x.f1.f0 = 7 → x.f1.f1 = 0) ∧ InsP x.f1.f0 x.f1.f1 x.f1.f2 x.f1.f3 ∧
    ((x.f1.f0 = 7 ∧ x.f3.toList = [] ∧ v2 > i) ∨ ((3 ≤ x.f1.f0 ∧ x.f1.f0 ≤ 6) ∧ v2 > i ∧ v3 > i) ∨ (¬ x.f1.f0 = 7 ∧ ¬ (3 ≤ x.f1.f0 ∧ x.f1.f0 ≤ 6) ∧ x.f2.toList = [] ∧ x.f3.toList = [])))
instance (x : S83) (i v0 v2 v3 : Int) : Decidable (SL x i v0 v2 v3) := by unfold SL; infer_instance
def IL (x : S83) (i w0 w2 w3 : Int) : Prop :=
  (PZ x ∧ (1 ≤ (x.f0.size : Int) ∧ (x.f0.size : Int) ≤ 12) ∧ x.f2.toList = [] ∧ x.f3.toList = [] ∧ w0 = i) ∨
  (¬ x.f1.f0 = 0 ∧ x.f0.toList = [] ∧ x.f1.f2 = 0 ∧ x.f1.f3 = 0 ∧ (x.f1.f0 = 7 → x.f1.f1 = 0) ∧ InsP x.f1.f0 x.f1.f1 x.f1.f2 x.f1.f3 ∧
    ((x.f1.f0 = 7 ∧ x.f3.toList = [] ∧ w2 ≥ 0) ∨ ((3 ≤ x.f1.f0 ∧ x.f1.f0 ≤ 6) ∧ w2 ≥ 0 ∧ w3 ≥ 0) ∨ (¬ x.f1.f0 = 7 ∧ ¬ (3 ≤ x.f1.f0 ∧ x.f1.f0 ≤ 6) ∧ x.f2.toList = [] ∧ x.f3.toList = [])))
instance (x : S83) (i v0 v2 v3 : Int) : Decidable (IL x i v0 v2 v3) := by unfold IL; infer_instance
theorem eqb {b : Bool} {P : Prop} [Decidable P] (h : b = true ↔ P) : some b = some (decide P) := congrArg some (by rw [Bool.eq_iff_iff, h]; simp)
set_option maxHeartbeats 1000000 in
theorem lineS (L : List S83) (i : Nat) (hi : i < L.length) (k : Nat) (hk : 5 ≤ k) (v0 v2 v3 : Int) (h0 : ∀ m, k ≤ m + 1 → spec_l11At.f m L L[i].f0 = some v0) (h2 : ∀ m, k ≤ m + 1 → spec_l11At.f m L L[i].f2 = some v2) (h3 : ∀ m, k ≤ m + 1 → spec_l11At.f m L L[i].f3 = some v3) :
    spec_l11Line.f k L (i : Int) = some (decide (SL L[i] i v0 v2 v3)) := by
  obtain ⟨k, rfl⟩ : ∃ m, k = m + 1 := ⟨k - 1, by omega⟩
  simp only [spec_l11Line.f, spec_l11Place.f]
  rw [if_pos (by omega), if_pos (by omega), rd_nat83 L i hi]
  simp only [Option.bind_some, inS, okS _ (show 2 ≤ k + 1 by omega), h0 _ (Nat.le_succ _), spec_l11Line.j0, askS, h2 _ (Nat.le_refl _), h3 _ (Nat.le_refl _), decide_eq_true_eq]
  have eP : ((L[i].f1.f0 == 0 && (L[i].f1.f1 == 0 && (L[i].f1.f2 == 0 && (L[i].f1.f3 == 0)))) = true) = PZ L[i] := by
    unfold PZ
    simp
  simp only [eP]
  generalize L[i] = x
  by_cases hp : PZ x
  · rw [if_pos hp]
    repeat' split
    all_goals (refine eqb ?_; unfold SL; grind)
  · rw [if_neg hp]
    repeat' split
    all_goals (refine eqb ?_; unfold SL; grind)
set_option maxHeartbeats 1000000 in
theorem lineI (L : List S83) (i : Nat) (hi : i < L.length) (k : Nat) (hk : 5 ≤ k) (v0 v2 v3 : Int) (h0 : ∀ m, k ≤ m + 1 → impl_placeOf.f m L L[i].f0 (-1) = some v0) (h2 : ∀ m, k ≤ m + 1 → impl_placeOf.f m L L[i].f2 (i : Int) = some v2) (h3 : ∀ m, k ≤ m + 1 → impl_placeOf.f m L L[i].f3 (i : Int) = some v3) :
    impl_lineOk.f k L (i : Int) = some (decide (IL L[i] i v0 v2 v3)) := by
  obtain ⟨k, rfl⟩ : ∃ m, k = m + 1 := ⟨k - 1, by omega⟩
  simp only [impl_lineOk.f, impl_Line_isPlace.f]
  rw [if_pos (by omega), if_pos (by omega), rd_nat83 L i hi]
  simp only [Option.bind_some, inI, okI _ (show 2 ≤ k + 1 by omega), h0 _ (Nat.le_succ _), impl_lineOk.j0, askI, h2 _ (Nat.le_refl _), h3 _ (Nat.le_refl _), decide_eq_true_eq]
  have eP : ((L[i].f1.f0 == 0 && (L[i].f1.f1 == 0 && (L[i].f1.f2 == 0 && (L[i].f1.f3 == 0)))) = true) = PZ L[i] := by
    unfold PZ
    simp
  simp only [eP]
  generalize L[i] = x
  by_cases hp : x.f1.f0 = 0
  · rw [if_pos (by simp [hp])]
    repeat' split
    all_goals (refine eqb ?_; unfold IL; grind [PZ])
  · rw [if_neg (by simp [hp])]
    repeat' split
    all_goals (refine eqb ?_; unfold IL; grind [PZ])
theorem Fst.uniq {Q Q' : Nat → Prop} {n i : Nat} {v v' : Int} (h : Fst Q n i v) (h' : Fst Q' n i v') (e : ∀ m, m < n → (Q m ↔ Q' m)) : v = v' := by
  rcases h with ⟨j, h1, h2, h3, h4, h5⟩ | ⟨h1, h2⟩
  · rcases h' with ⟨j', g1, g2, g3, g4, g5⟩ | ⟨g1, g2⟩
    · have : j = j' := by
        rcases Nat.lt_trichotomy j j' with h | h | h
        · exact absurd ((e j h2).1 h3) (g5 j h1 h)
        · exact h
        · exact absurd ((e j' g2).2 g3) (h5 j' g1 h)
      omega
    · exact absurd ((e j h2).1 h3) (g2 j h1 h2)
  · rcases h' with ⟨j', g1, g2, g3, g4, g5⟩ | ⟨g1, g2⟩
    · exact absurd ((e j' g2).2 g3) (h2 j' g1 g2)
    · omega
theorem allLoop {F : Nat → Int → Option Bool} {n : Nat} {P : Nat → Prop} (h0 : ∀ k, F (k + 1) (n : Int) = some true)
    (h1 : ∀ i : Nat, i < n → ∃ b, (b = true ↔ P i) ∧ ∃ K, ∀ k, K ≤ k → F (k + 1) (i : Int) = if b = true then F k ((i + 1 : Nat) : Int) else some false) : ∃ b, Evt (fun k => F k 0) b ∧ (b = true ↔ ∀ i, i < n → P i) := by
  have h := down (T := fun i => ∃ b, Evt (fun k => F k (i : Int)) b ∧ (b = true ↔ ∀ j, i ≤ j → j < n → P j)) (n := n) ?_ ?_ n 0 (by omega)
  · obtain ⟨b, h2, h3⟩ := h
    exact ⟨b, h2, h3.trans ⟨fun h j hj => h j (Nat.zero_le _) hj, fun h j _ hj => h j hj⟩⟩
  · exact ⟨true, .succ (.const fun k => h0 k), by simp; intro j h2 h3; omega⟩
  · intro i hi ⟨b, ⟨K, hK⟩, hb⟩
    obtain ⟨b', hb', K', hK'⟩ := h1 i hi
    cases b' with
    | true =>
      refine ⟨b, .succ ⟨K + K', fun k hk => ?_⟩, hb.trans ⟨fun h j h2 h3 => ?_, fun h j h2 h3 => h j (by omega) h3⟩⟩
      · show F (k + 1) (i : Int) = _
        rw [hK' k (by omega), if_pos rfl]
        exact hK k (by omega)
      · rcases Nat.lt_or_ge i j with h4 | h4
        · exact h j h4 h3
        · have : i = j := by omega
          subst this
          exact hb'.1 rfl
    | false =>
      refine ⟨false, .succ ⟨K', fun k hk => ?_⟩, ⟨(fun h => by cases h), fun h => absurd (hb'.2 (h i (Nat.le_refl _) hi)) (by simp)⟩⟩
      show F (k + 1) (i : Int) = _
      rw [hK' k (by omega), if_neg (by simp)]
def SAll (L : List S83) : Prop := ∀ j (h : j < L.length), ∀ v0 v2 v3, Fst (QS L L[j].f0.toList) L.length 0 v0 → Fst (QS L L[j].f2.toList) L.length 0 v2 → Fst (QS L L[j].f3.toList) L.length 0 v3 → SL L[j] j v0 v2 v3
def IAll (L : List S83) : Prop := ∀ j (h : j < L.length), ∀ v0 v2 v3, Fst (QI L L[j].f0.toList) L.length 0 v0 → Fst (QI L L[j].f2.toList) L.length (j + 1) v2 → Fst (QI L L[j].f3.toList) L.length (j + 1) v3 → IL L[j] j v0 v2 v3
theorem sAll (L : List S83) (hn : L.length ≤ 1048576) : ∃ b, Evt (fun k => spec_LinesOk.l0 k L 0) b ∧ (b = true ↔ SAll L) := by
  obtain ⟨b, h1, h2⟩ := allLoop (F := fun k i => spec_LinesOk.l0 k L i) (n := L.length) (P := fun j => ∀ h : j < L.length, ∀ v0 v2 v3, Fst (QS L L[j].f0.toList) L.length 0 v0 → Fst (QS L L[j].f2.toList) L.length 0 v2 → Fst (QS L L[j].f3.toList) L.length 0 v3 → SL L[j] j v0 v2 v3)
    (fun k => by simp only [spec_LinesOk.l0]; rw [if_neg (by omega)]) (fun i hi => by
      obtain ⟨v0, a0, b0⟩ := atS L L[i].f0 hn
      obtain ⟨v2, a2, b2⟩ := atS L L[i].f2 hn
      obtain ⟨v3, a3, b3⟩ := atS L L[i].f3 hn
      refine ⟨decide (SL L[i] i v0 v2 v3), ?_, L.length + 10, fun k hk => ?_⟩
      · rw [decide_eq_true_eq]
        refine ⟨fun h _ u0 u2 u3 c0 c2 c3 => ?_, fun h => h hi v0 v2 v3 b0 b2 b3⟩
        rw [← b0.uniq c0 (fun _ _ => .rfl), ← b2.uniq c2 (fun _ _ => .rfl), ← b3.uniq c3 (fun _ _ => .rfl)]
        exact h
      · simp only [spec_LinesOk.l0]
        rw [if_pos (by omega), lineS L i hi k (by omega) v0 v2 v3 (fun m hm => a0 m (by omega)) (fun m hm => a2 m (by omega)) (fun m hm => a3 m (by omega)), wsucc hi (by omega)]
        rfl)
  exact ⟨b, h1, h2.trans ⟨fun h j hj => h j hj hj, fun h j hj _ => h j hj⟩⟩
theorem iAll (L : List S83) (hn : L.length ≤ 1048576) : ∃ b, Evt (fun k => impl_LinesOk.l0 k L (L.length : Int) 0) b ∧ (b = true ↔ IAll L) := by
  obtain ⟨b, h1, h2⟩ := allLoop (F := fun k i => impl_LinesOk.l0 k L (L.length : Int) i) (n := L.length) (P := fun j => ∀ h : j < L.length, ∀ v0 v2 v3, Fst (QI L L[j].f0.toList) L.length 0 v0 → Fst (QI L L[j].f2.toList) L.length (j + 1) v2 → Fst (QI L L[j].f3.toList) L.length (j + 1) v3 → IL L[j] j v0 v2 v3)
    (fun k => by simp only [impl_LinesOk.l0]; rw [if_neg (by omega)]) (fun i hi => by
      obtain ⟨v0, a0, b0⟩ := atI0 L L[i].f0 hn
      obtain ⟨v2, a2, b2⟩ := atI L L[i].f2 hn i hi
      obtain ⟨v3, a3, b3⟩ := atI L L[i].f3 hn i hi
      refine ⟨decide (IL L[i] i v0 v2 v3), ?_, L.length + 10, fun k hk => ?_⟩
      · rw [decide_eq_true_eq]
        refine ⟨fun h _ u0 u2 u3 c0 c2 c3 => ?_, fun h => h hi v0 v2 v3 b0 b2 b3⟩
        rw [← b0.uniq c0 (fun _ _ => .rfl), ← b2.uniq c2 (fun _ _ => .rfl), ← b3.uniq c3 (fun _ _ => .rfl)]
        exact h
      · simp only [impl_LinesOk.l0]
        rw [if_pos (by omega), lineI L i hi k (by omega) v0 v2 v3 (fun m hm => a0 m (by omega)) (fun m hm => a2 m (by omega)) (fun m hm => a3 m (by omega)), wsucc hi (by omega)]
        rfl)
  exact ⟨b, h1, h2.trans ⟨fun h j hj => h j hj hj, fun h j hj _ => h j hj⟩⟩
/-- Both ask the same of all lines: where all are right, each place is bare and bears a name of its own. -/
theorem qs_qi {L : List S83} (H : ∀ j (h : j < L.length), L[j].f1.f0 = 0 → PZ L[j]) (s : List UInt8) (m : Nat) : QS L s m ↔ QI L s m :=
  ⟨fun ⟨h, h1, h2⟩ => ⟨h, h1.1, h2⟩, fun ⟨h, h1, h2⟩ => ⟨h, H m h h1, h2⟩⟩
theorem fstS (L : List S83) (hn : L.length ≤ 1048576) (s : ByteArray) : ∃ v, Fst (QS L s.toList) L.length 0 v := by
  obtain ⟨v, _, h⟩ := atS L s hn
  exact ⟨v, h⟩
theorem fstI (L : List S83) (hn : L.length ≤ 1048576) (s : ByteArray) (i : Nat) (hi : i ≤ L.length) : ∃ v, Fst (QI L s.toList) L.length i v := by
  obtain ⟨v, _, h⟩ := atI_l0 L s (by omega) (L.length - i) i (by omega)
  exact ⟨v, h⟩
theorem all_iff (L : List S83) (hn : L.length ≤ 1048576) : SAll L ↔ IAll L := by
  constructor
  · intro hS
    have H : ∀ j (h : j < L.length), L[j].f1.f0 = 0 → PZ L[j] := fun j h e => by
      obtain ⟨v0, h0⟩ := fstS L hn L[j].f0
      obtain ⟨v2, h2⟩ := fstS L hn L[j].f2
      obtain ⟨v3, h3⟩ := fstS L hn L[j].f3
      rcases hS j h v0 v2 v3 h0 h2 h3 with h4 | h4
      · exact h4.1
      · have h5 := h4.2.2.2.2.2.1
        unfold InsP at h5
        omega
    have up : ∀ (s : ByteArray) (j : Nat) (v w : Int), Fst (QS L s.toList) L.length 0 v → Fst (QI L s.toList) L.length (j + 1) w → v > j → w ≥ 0 := fun s j v w h1 h2 h3 => by
      rcases h1 with ⟨m, _, m2, m3, m4, _⟩ | ⟨m1, _⟩
      · rcases h2 with ⟨u, _, _, _, u4, _⟩ | ⟨_, u2⟩
        · omega
        · exact absurd ((qs_qi H _ m).1 m3) (u2 m (by omega) m2)
      · omega
    intro j h w0 w2 w3 g0 g2 g3
    obtain ⟨v0, h0⟩ := fstS L hn L[j].f0
    obtain ⟨v2, h2⟩ := fstS L hn L[j].f2
    obtain ⟨v3, h3⟩ := fstS L hn L[j].f3
    have e0 := h0.uniq g0 (fun m _ => qs_qi H _ m)
    have u2 := up _ j v2 w2 h2 g2
    have u3 := up _ j v3 w3 h3 g3
    rcases hS j h v0 v2 v3 h0 h2 h3 with ⟨a, b, c, d, e⟩ | ⟨a, b, c, d, e, f, g⟩
    · exact .inl ⟨a, b, c, d, by omega⟩
    · refine .inr ⟨by unfold InsP at f; omega, b, c, d, e, f, ?_⟩
      rcases g with ⟨g1, g2, g3⟩ | ⟨g1, g2, g3⟩ | g
      · exact .inl ⟨g1, g2, u2 g3⟩
      · exact .inr (.inl ⟨g1, u2 g2, u3 g3⟩)
      · exact .inr (.inr g)
  · intro hI
    have hW : ∀ j (h : j < L.length), ∃ w0 w2 w3, Fst (QI L L[j].f0.toList) L.length 0 w0 ∧ Fst (QI L L[j].f2.toList) L.length (j + 1) w2 ∧ Fst (QI L L[j].f3.toList) L.length (j + 1) w3 ∧ IL L[j] j w0 w2 w3 := fun j h => by
      obtain ⟨v0, h0⟩ := fstI L hn L[j].f0 0 (by omega)
      obtain ⟨v2, h2⟩ := fstI L hn L[j].f2 (j + 1) h
      obtain ⟨v3, h3⟩ := fstI L hn L[j].f3 (j + 1) h
      exact ⟨v0, v2, v3, h0, h2, h3, hI j h v0 v2 v3 h0 h2 h3⟩
    have H : ∀ j (h : j < L.length), L[j].f1.f0 = 0 → PZ L[j] := fun j h e => by
      obtain ⟨w0, w2, w3, _, _, _, h4⟩ := hW j h
      rcases h4 with h4 | h4
      · exact h4.1
      · exact absurd e h4.1
    have dn : ∀ (s : ByteArray) (j : Nat) (v w : Int), Fst (QS L s.toList) L.length 0 v → Fst (QI L s.toList) L.length (j + 1) w → w ≥ 0 → v > j := fun s j v w h1 h2 h3 => by
      rcases h2 with ⟨m, m1, m2, m3, m4, _⟩ | ⟨m1, _⟩
      · obtain ⟨w0, w2, w3, g0, _, _, g4⟩ := hW m m2
        obtain ⟨_, m5, m6⟩ := m3
        have hz := H m m2 m5
        have e0 : w0 = m := by
          rcases g4 with g4 | g4
          · exact g4.2.2.2.2
          · exact absurd m5 g4.1
        rw [m6] at g0
        have := h1.uniq g0 (fun m _ => qs_qi H _ m)
        omega
      · omega
    intro j h v0 v2 v3 h0 h2 h3
    obtain ⟨w0, w2, w3, g0, g2, g3, hl⟩ := hW j h
    have e0 := h0.uniq g0 (fun m _ => qs_qi H _ m)
    have u2 := dn _ j v2 w2 h2 g2
    have u3 := dn _ j v3 w3 h3 g3
    rcases hl with ⟨a, b, c, d, e⟩ | ⟨a, b, c, d, e, f, g⟩
    · exact .inl ⟨a, b, c, d, by omega⟩
    · refine .inr ⟨fun h => a h.1, b, c, d, e, f, ?_⟩
      rcases g with ⟨g1, g2, g3⟩ | ⟨g1, g2, g3⟩ | g
      · exact .inl ⟨g1, g2, u2 g3⟩
      · exact .inr (.inl ⟨g1, u2 g2, u3 g3⟩)
      · exact .inr (.inr g)
/-- Both answer alike. -/
theorem linesOk (L : List S83) (hn : L.length ≤ 1048576) : ∃ b, Evt (fun k => spec_LinesOk.f k L) b ∧ Evt (fun k => impl_LinesOk.f k L) b ∧ (b = true → (1 ≤ L.length ∧ L.length ≤ 600) ∧ SAll L ∧ IAll L ∧ ∃ h : L.length - 1 < L.length, L[L.length - 1].f1.f0 = 8) := by
  by_cases h1 : 1 ≤ (L.length : Int) ∧ (L.length : Int) ≤ 600
  · have e : wrap64 ((L.length : Int) - 1) = ((L.length - 1 : Nat) : Int) := by unfold wrap64; omega
    have hlt : L.length - 1 < L.length := by omega
    by_cases h8 : (L[L.length - 1].f1.f0) = 8
    · obtain ⟨b, ⟨K, hb⟩, hbi⟩ := sAll L hn
      obtain ⟨b', ⟨K', hb'⟩, hbi'⟩ := iAll L hn
      have eb : b' = b := by rw [Bool.eq_iff_iff, hbi, hbi', all_iff L hn]
      subst eb
      refine ⟨b', .succ ⟨K + 1, fun k hk => ?_⟩, .succ ⟨K' + 1, fun k hk => ?_⟩, fun h => ⟨by omega, hbi.1 h, hbi'.1 h, hlt, h8⟩⟩
      · simp only [spec_LinesOk.f, inS, Option.bind_some, decide_eq_true_eq]
        rw [if_pos h1, e, if_pos (by omega), if_pos (by omega), rd_nat83 L _ hlt, h8]
        simp only [spec_LinesOk.j0]
        rw [if_neg (by simp)]
        exact hb k (by omega)
      · simp only [impl_LinesOk.f, inI, Option.bind_some, decide_eq_true_eq]
        rw [if_pos h1, e, if_pos (by omega), if_pos (by omega), rd_nat83 L _ hlt, h8]
        simp only [impl_LinesOk.j0]
        rw [if_neg (by simp)]
        exact hb' k (by omega)
    · refine ⟨false, .succ (.const fun k => ?_), .succ (.const fun k => ?_), fun h => by cases h⟩
      · simp only [spec_LinesOk.f, inS, Option.bind_some, decide_eq_true_eq]
        rw [if_pos h1, e, if_pos (by omega), if_pos (by omega), rd_nat83 L _ hlt]
        simp only [spec_LinesOk.j0]
        rw [if_pos (by simp [h8])]
      · simp only [impl_LinesOk.f, inI, Option.bind_some, decide_eq_true_eq]
        rw [if_pos h1, e, if_pos (by omega), if_pos (by omega), rd_nat83 L _ hlt]
        simp only [impl_LinesOk.j0]
        rw [if_pos (by simp [h8])]
  · refine ⟨false, .succ (.const fun k => ?_), .succ (.const fun k => ?_), fun h => by cases h⟩
    · simp only [spec_LinesOk.f, inS, Option.bind_some, decide_eq_true_eq]
      rw [if_neg h1]
      simp only [spec_LinesOk.j0, if_true]
    · simp only [impl_LinesOk.f, inI, Option.bind_some, decide_eq_true_eq]
      rw [if_neg h1]
      simp only [impl_LinesOk.j0, if_true]
/-- A mark as a text: it is told for each number. -/
theorem markText_l0 : ∀ (m : Nat) (q : Int) (s : ByteArray), q ≤ m → m + s.size ≤ 9223372036854775000 → Tot (fun k => laws_markText.l0 k q s) := by
  intro m
  induction m with
  | zero =>
    intro q s h1 h2
    refine .succ (.const (v := (⟨#[109]⟩ : ByteArray) ++ s) fun k => ?_)
    simp only [laws_markText.l0]
    rw [if_neg (by omega), if_pos (by omega)]
  | succ m ih =>
    intro q s h1 h2
    by_cases hq : q > 0
    · have ed : q.tdiv 10 = q / 10 := Int.tdiv_eq_ediv_of_nonneg (by omega)
      have h10 : q.tdiv 10 ≤ m := by omega
      have e10 : wrap64 (q.tdiv 10) = q.tdiv 10 := w64 (by omega) (by omega)
      have e1 : (strOfNums [(wrap64 (48 + (Int.tmod q 10))) % 256]).size = 1 := rfl
      obtain ⟨v, K, h⟩ := ih (q.tdiv 10) (strOfNums [(wrap64 (48 + (Int.tmod q 10))) % 256] ++ s) h10 (by rw [ByteArray.size_append, e1]; omega)
      refine ⟨v, .succ ⟨K, fun k hk => ?_⟩⟩
      simp only [laws_markText.l0]
      rw [if_pos hq]
      simp only [Option.bind_some]
      rw [if_pos (by rw [e1]; omega), e10]
      exact h k hk
    · refine .succ (.const (v := (⟨#[109]⟩ : ByteArray) ++ s) fun k => ?_)
      simp only [laws_markText.l0]
      rw [if_neg hq, if_pos (by omega)]
theorem markText (q : Int) (hq : q ≤ 4611686018427387904) : ∃ v, Evt (fun k => laws_markText.f k q) v := by
  by_cases h : q ≤ 0
  · exact ⟨_, .const fun k => by simp only [laws_markText.f]; rw [if_pos h]⟩
  · obtain ⟨v, K, hv⟩ := markText_l0 q.toNat q ⟨#[]⟩ (by omega) (by show _ + 0 ≤ _; omega)
    exact ⟨v, K, fun k hk => by simp only [laws_markText.f]; rw [if_neg h]; exact hv k hk⟩
/-- Lines marked from an index on hold the marks. -/
theorem markLine_l0 : ∀ (d i : Nat) (x : List S83) (q : Int), i + d = x.length → 0 ≤ q → q + 7 * d ≤ 2305843009213693952 → x.length ≤ 4611686018427387904 → ∃ y, Evt (fun k => laws_markLineS.l0 k x q (i : Int)) (q + 7 * d, y)
  | 0, i, x, q, hi, hq, hb, hl => by
    refine ⟨x, .succ (.const fun k => ?_)⟩
    simp only [laws_markLineS.l0]
    rw [if_neg (by omega)]
    simp
  | d + 1, i, x, q, hi, hq, hb, hl => by
    have hlt : i < x.length := by omega
    obtain ⟨t0, K0, m0⟩ := markText q (by omega)
    obtain ⟨t5, K5, m5⟩ := markText (q + 5) (by omega)
    obtain ⟨t6, K6, m6⟩ := markText (q + 6) (by omega)
    dsimp only at m0 m5 m6
    obtain ⟨y, K1, h1⟩ := markLine_l0 d (i + 1) (x.set i ⟨t0, ⟨q + 1, q + 2, q + 3, q + 4⟩, t5, t6⟩) (q + 7) (by rw [List.length_set]; omega) (by omega) (by omega) (by rw [List.length_set]; exact hl)
    dsimp only at h1
    have w1 : wrap64 (q + 1) = q + 1 := w64 (by omega) (by omega)
    have w2 : wrap64 (q + 2) = q + 2 := w64 (by omega) (by omega)
    have w3 : wrap64 (q + 3) = q + 3 := w64 (by omega) (by omega)
    have w4 : wrap64 (q + 4) = q + 4 := w64 (by omega) (by omega)
    have w5 : wrap64 (q + 5) = q + 5 := w64 (by omega) (by omega)
    have w6 : wrap64 (q + 6) = q + 6 := w64 (by omega) (by omega)
    have w7 : wrap64 (q + 7) = q + 7 := w64 (by omega) (by omega)
    refine ⟨y, .succ ⟨K0 + K5 + K6 + K1, fun k hk => ?_⟩⟩
    · have rs : ∀ v, rd_T83 (x.set i v) (i : Int) = v := fun v => by rw [nrd_T83 _ i (by rw [List.length_set]; exact hlt), List.getElem_set_self]
      simp only [laws_markLineS.l0]
      rw [if_pos (by omega), m0 k (by omega)]
      simp only [Option.bind_some]
      rw [if_pos (by omega)]
      simp only [Option.bind_some, Int.toNat_natCast, nrd_T83 _ i hlt, rs, List.set_set, w1, w2, w3, w4, w5, w6, w7, Int.add_assoc, Int.reduceAdd, m5 k (by omega), m6 k (by omega)]
      rw [wsucc hlt (by omega), h1 k (by omega)]
      refine congrArg some (Prod.ext ?_ rfl)
      show q + 7 + 7 * (d : Int) = q + 7 * ((d + 1 : Nat) : Int)
      omega
theorem markLine (x : List S83) (hn : x.length ≤ 140737488355328) : ∃ y q, Evt (fun k => laws_markLineS.f k x 1) (q, y)∧ 0 ≤ q := by
  obtain ⟨y, h1⟩ := markLine_l0 x.length 0 x 1 (by omega) (by omega) (by omega) (by omega)
  exact ⟨y, _, h1, by omega⟩
/-- Sizes before an index, summed up. -/
def pre (o : List Int) (i : Nat) : Int := (o.take i).sum
theorem pre_succ {o : List Int} {i : Nat} (h : i < o.length) : pre o (i + 1) = pre o i + o[i] := by
  unfold pre
  rw [List.take_succ_eq_append_getElem h, List.sum_append]
  simp
theorem pre_bound {o : List Int} (ho : ∀ j (h : j < o.length), 0 ≤ o[j] ∧ o[j] ≤ 3) : ∀ i, i ≤ o.length → 0 ≤ pre o i ∧ pre o i ≤ 3 * i
  | 0, _ => by simp [pre]
  | i + 1, h => by
    have := pre_bound ho i (by omega)
    have := ho i (by omega)
    rw [pre_succ (by omega)]
    omega
theorem nrdI (l : List Int) (i : Nat) (h : i < l.length) : rd l (i : Int) = l[i] := getD_lt _ h
def ones : List Int → Nat
  | [] => 0
  | x :: l => (if x = 1 then 1 else 0) + ones l
theorem ones_le : ∀ l : List Int, ones l ≤ l.length
  | [] => Nat.le_refl _
  | x :: l => by
    have := ones_le l
    simp only [ones, List.length_cons]
    split <;> omega
theorem ones_set : ∀ (l : List Int) (i : Nat) (h : i < l.length), l[i] = 1 → ones (l.set i 3) + 1 = ones l
  | x :: l, 0, h, e => by
    simp only [List.getElem_cons_zero] at e
    subst e
    simp [ones]
    omega
  | x :: l, i + 1, h, e => by
    simp only [List.getElem_cons_succ] at e
    have := ones_set l i (by simpa using h) e
    simp only [List.set_cons_succ, ones]
    omega
/-- Where each word begins. -/
theorem begins (o : List Int) (hn : o.length ≤ 600) (ho : ∀ j (h : j < o.length), 0 ≤ o[j] ∧ o[j] ≤ 3) : ∃ B : List Int, B.length = o.length ∧ (∀ i (h : i < B.length), B[i] = pre o i) ∧ Evt (fun k => spec_l11Begins.f k o) B := by
  have key := down (T := fun i => ∀ b : List Int, b.length = i → (∀ j (h : j < b.length), b[j] = pre o j) → ∃ B : List Int, B.length = o.length ∧ (∀ j (h : j < B.length), B[j] = pre o j) ∧ Evt (fun k => spec_l11Begins.l0 k o b (pre o i) (i : Int)) B) (n := o.length) ?_ ?_ o.length 0 (by omega) [] rfl (by simp)
  · obtain ⟨B, h1, h2, h3⟩ := key
    exact ⟨B, h1, h2, h3⟩
  · intro b hb hj
    refine ⟨b, hb, hj, .succ (.const fun k => ?_)⟩
    simp only [spec_l11Begins.l0]
    rw [if_neg (by omega)]
  · intro i hi ih b hb hj
    have b1 := pre_bound ho i (by omega)
    have b2 := ho i hi
    obtain ⟨B, h1, h2, K, h3⟩ := ih (b ++ [pre o i]) (by simp; omega) (fun j h => by
      rcases Nat.lt_or_ge j b.length with h4 | h4
      · rw [List.getElem_append_left h4]
        exact hj j h4
      · have : j = b.length := by simp at h; omega
        subst this
        rw [List.getElem_append_right (Nat.le_refl _)]
        simp
        rw [hb])
    refine ⟨B, h1, h2, .succ ⟨K, fun k hk => ?_⟩⟩
    simp only [spec_l11Begins.l0]
    rw [if_pos (by omega), if_pos (by omega), if_pos (by omega), nrdI o i hi, w64 (x := pre o i + o[i]) (by omega) (by omega), wsucc hi (by omega)]
    have := h3 k hk
    rw [pre_succ hi] at this
    exact this
/-- How much stands between. -/
theorem betw (o : List Int) (hn : o.length ≤ 600) (ho : ∀ j (h : j < o.length), 0 ≤ o[j] ∧ o[j] ≤ 3) (y : Nat) (hy : y ≤ o.length) : ∀ (d i : Nat) (t : Int), i + d = y → 0 ≤ t → t ≤ 3 * i → Evt (fun k => impl_between.l0 k o t (y : Int) (i : Int)) (t + (pre o y - pre o i)) := by
  intro d
  induction d with
  | zero =>
    intro i t h _ _
    have : i = y := by omega
    subst this
    refine .succ (.const fun k => ?_)
    simp only [impl_between.l0]
    rw [if_neg (by omega)]
    simp
  | succ d ih =>
    intro i t h h0 h3
    have hi : i < o.length := by omega
    have b2 := ho i hi
    obtain ⟨K, hK⟩ := ih (i + 1) (t + o[i]) (by omega) (by omega) (by omega)
    refine .succ ⟨K, fun k hk => ?_⟩
    simp only [impl_between.l0]
    rw [if_pos (by omega), if_pos (by omega), if_pos (by omega), nrdI o i hi, w64 (x := t + o[i]) (by omega) (by omega), wsucc hi (by omega)]
    have := hK k hk
    dsimp only at this
    rw [this, pre_succ hi]
    refine congrArg some ?_
    omega
/-- Where the ways of right lines lead: both sides find the same place, behind the line. -/
theorem wayTo {L : List S83} (hn : L.length ≤ 1048576) (hS : SAll L) (hI : IAll L) {i : Nat} (hi : i < L.length) (ha : 3 ≤ L[i].f1.f0 ∧ L[i].f1.f0 ≤ 6) (s : ByteArray) (hs : s = L[i].f2 ∨ s = L[i].f3) :
    ∃ y : Nat, i < y ∧ y < L.length ∧ s.toList ≠ [] ∧ (∀ k, L.length < k → spec_l11At.f k L s = some (y : Int)) ∧ (∀ k, L.length < k → impl_placeOf.f k L s (i : Int) = some (y : Int)) := by
  have H : ∀ j (h : j < L.length), L[j].f1.f0 = 0 → PZ L[j] := fun j h e => by
    obtain ⟨w0, h0⟩ := fstI L hn L[j].f0 0 (by omega)
    obtain ⟨w2, h2⟩ := fstI L hn L[j].f2 (j + 1) h
    obtain ⟨w3, h3⟩ := fstI L hn L[j].f3 (j + 1) h
    rcases hI j h w0 w2 w3 h0 h2 h3 with h4 | h4
    · exact h4.1
    · exact absurd e h4.1
  obtain ⟨v, hv, fv⟩ := atS L s hn
  obtain ⟨w, hw, fw⟩ := atI L s hn i hi
  have hgt : v > i := by
    obtain ⟨v0, f0⟩ := fstS L hn L[i].f0
    obtain ⟨v2, f2⟩ := fstS L hn L[i].f2
    obtain ⟨v3, f3⟩ := fstS L hn L[i].f3
    have hl := hS i hi v0 v2 v3 f0 f2 f3
    have hz : ¬ PZ L[i] := fun h => by unfold PZ at h; omega
    rcases hl with h | ⟨_, _, _, _, _, _, h | h | h⟩
    · exact absurd h.1 hz
    · omega
    · rcases hs with e | e
      · subst e
        rw [fv.uniq f2 (fun _ _ => .rfl)]
        exact h.2.1
      · subst e
        rw [fv.uniq f3 (fun _ _ => .rfl)]
        exact h.2.2
    · exact absurd ha h.2.1
  rcases fv with ⟨m, _, m2, m3, m4, m5⟩ | ⟨m1, _⟩
  · have hwm : w = (m : Int) := by
      rcases fw with ⟨u, u1, u2, u3, u4, u5⟩ | ⟨_, u2⟩
      · have q1 : ¬ m < u := fun h => u5 m (by omega) h ((qs_qi H _ m).1 m3)
        have q2 : ¬ u < m := fun h => m5 u (Nat.zero_le _) h ((qs_qi H _ u).2 u3)
        omega
      · exact absurd ((qs_qi H _ m).1 m3) (u2 m (by omega) m2)
    refine ⟨m, by omega, m2, ?_, fun k hk => (hv k hk).trans (by rw [m4]), fun k hk => (hw k hk).trans (by rw [hwm])⟩
    obtain ⟨_, p1, p2⟩ := m3
    obtain ⟨v0, f0⟩ := fstS L hn L[m].f0
    obtain ⟨v2, f2⟩ := fstS L hn L[m].f2
    obtain ⟨v3, f3⟩ := fstS L hn L[m].f3
    rcases hS m m2 v0 v2 v3 f0 f2 f3 with h | h
    · intro e
      rw [← p2] at e
      rw [ByteArray.toList_eq] at e
      have h5 : L[m].f0.data.size = 0 := by simpa using congrArg List.length e
      have h6 : L[m].f0.size = L[m].f0.data.size := rfl
      have := h.2.1
      omega
    · exact absurd p1 h.1
  · omega
/-- Sizes that may stand for right lines. -/
def OkS (L : List S83) (o : List Int) : Prop := o.length = L.length ∧ (∀ j (h : j < o.length), 0 ≤ o[j] ∧ o[j] ≤ 3) ∧ (∀ j (h : j < o.length) (h' : j < L.length), 3 ≤ L[j].f1.f0 ∧ L[j].f1.f0 ≤ 6 → o[j] = 1 ∨ o[j] = 3) ∧ (∀ j (h : j < o.length) (h' : j < L.length), ¬ (3 ≤ L[j].f1.f0 ∧ L[j].f1.f0 ≤ 6) → o[j] = if L[j].f1.f0 = 0 then 0 else 1)
theorem OkS.set {L : List S83} {o : List Int} (h : OkS L o) (i : Nat) (hi : i < L.length) (hask : 3 ≤ L[i].f1.f0 ∧ L[i].f1.f0 ≤ 6) : OkS L (o.set i 3) := by
  obtain ⟨h1, h2, h3, h4⟩ := h
  refine ⟨by rw [List.length_set]; exact h1, fun j hj => ?_, fun j hj hj' ha => ?_, fun j hj hj' ha => ?_⟩
  · rw [List.length_set] at hj
    rw [List.getElem_set]
    split
    · omega
    · exact h2 j hj
  · rw [List.length_set] at hj
    rw [List.getElem_set]
    split
    · exact .inr rfl
    · exact h3 j hj hj' ha
  · rw [List.length_set] at hj
    rw [List.getElem_set]
    split
    · rename_i e
      subst e
      exact absurd hask ha
    · exact h4 j hj hj' ha
/-- The ways, as the reference keeps them. -/
def OkW (L : List S83) (Y N : List Int) : Prop := Y.length = L.length ∧ N.length = L.length ∧ ∀ j (h : j < L.length) (h1 : j < Y.length) (h2 : j < N.length), (L[j].f2.toList ≠ [] → ∀ v, (∀ k, L.length < k → spec_l11At.f k L L[j].f2 = some v) → Y[j] = v) ∧ (L[j].f3.toList ≠ [] → ∀ v, (∀ k, L.length < k → spec_l11At.f k L L[j].f3 = some v) → N[j] = v)
theorem ways (L : List S83) (hn : L.length ≤ 600) : ∃ Y N, OkW L Y N ∧ Evt (fun k => spec_l11Ways.f k L) (Y, N) := by
  have key := down (T := fun i => ∀ y n : List Int, y.length = i → n.length = i → (∀ j (h : j < L.length) (h1 : j < y.length) (h2 : j < n.length), (L[j].f2.toList ≠ [] → ∀ v, (∀ k, L.length < k → spec_l11At.f k L L[j].f2 = some v) → y[j] = v) ∧ (L[j].f3.toList ≠ [] → ∀ v, (∀ k, L.length < k → spec_l11At.f k L L[j].f3 = some v) → n[j] = v)) → ∃ Y N, OkW L Y N ∧ Evt (fun k => spec_l11Ways.l0 k L y n (i : Int)) (Y, N)) (n := L.length) ?_ ?_ L.length 0 (by omega) [] [] rfl rfl (by simp)
  · exact key
  · intro y n hy hm hj
    exact ⟨y, n, ⟨hy, hm, hj⟩, .succ (.const fun k => by simp only [spec_l11Ways.l0]; rw [if_neg (by omega)])⟩
  · intro i hi ih y n hy hm hj
    obtain ⟨a, ha, _⟩ := atS L L[i].f2 (by omega)
    obtain ⟨b, hb, _⟩ := atS L L[i].f3 (by omega)
    have ext : ∀ u v : Int, (L[i].f2.toList ≠ [] → u = a) → (L[i].f3.toList ≠ [] → v = b) → ∃ Y N, OkW L Y N ∧ Evt (fun k => spec_l11Ways.l0 k L (y ++ [u]) (n ++ [v]) ((i + 1 : Nat) : Int)) (Y, N) := fun u v hu hv => by
      refine ih (y ++ [u]) (n ++ [v]) (by simp; omega) (by simp; omega) (fun j h h1 h2 => ?_)
      rcases Nat.lt_or_ge j i with h4 | h4
      · rw [List.getElem_append_left (by omega), List.getElem_append_left (by omega)]
        exact hj j h (by omega) (by omega)
      · have : j = i := by simp at h1; omega
        subst this
        have e1 : (y ++ [u])[j] = u := by rw [List.getElem_append_right (by omega)]; simp
        have e2 : (n ++ [v])[j] = v := by rw [List.getElem_append_right (by omega)]; simp
        rw [e1, e2]
        refine ⟨fun h5 w h6 => ?_, fun h5 w h6 => ?_⟩
        · rw [hu h5]
          exact Option.some.inj ((ha (L.length + 1) (by omega)).symm.trans (h6 (L.length + 1) (by omega)))
        · rw [hv h5]
          exact Option.some.inj ((hb (L.length + 1) (by omega)).symm.trans (h6 (L.length + 1) (by omega)))
    by_cases c2 : L[i].f2.toList = []
    · by_cases c3 : L[i].f3.toList = []
      · obtain ⟨Y, N, h1, K, h2⟩ := ext (-1) (-1) (fun h => absurd c2 h) (fun h => absurd c3 h)
        refine ⟨Y, N, h1, .succ ⟨K, fun k hk => ?_⟩⟩
        simp only [spec_l11Ways.l0]
        rw [if_pos (by omega), if_pos (by omega), nrd_T83 L i hi, if_pos c2, if_pos c3, if_pos (by omega), if_pos (by omega), wsucc hi (by omega)]
        exact h2 k hk
      · obtain ⟨Y, N, h1, K, h2⟩ := ext (-1) b (fun h => absurd c2 h) (fun _ => rfl)
        refine ⟨Y, N, h1, .succ ⟨K + L.length + 1, fun k hk => ?_⟩⟩
        simp only [spec_l11Ways.l0]
        rw [if_pos (by omega), if_pos (by omega), nrd_T83 L i hi, if_pos c2, if_neg c3, hb k (by omega)]
        simp only [Option.bind_some]
        rw [if_pos (by omega), if_pos (by omega), wsucc hi (by omega)]
        exact h2 k (by omega)
    · by_cases c3 : L[i].f3.toList = []
      · obtain ⟨Y, N, h1, K, h2⟩ := ext a (-1) (fun _ => rfl) (fun h => absurd c3 h)
        refine ⟨Y, N, h1, .succ ⟨K + L.length + 1, fun k hk => ?_⟩⟩
        simp only [spec_l11Ways.l0]
        rw [if_pos (by omega), if_pos (by omega), nrd_T83 L i hi, if_neg c2, ha k (by omega)]
        simp only [Option.bind_some]
        rw [if_pos c3, if_pos (by omega), if_pos (by omega), wsucc hi (by omega)]
        exact h2 k (by omega)
      · obtain ⟨Y, N, h1, K, h2⟩ := ext a b (fun _ => rfl) (fun _ => rfl)
        refine ⟨Y, N, h1, .succ ⟨K + L.length + 1, fun k hk => ?_⟩⟩
        simp only [spec_l11Ways.l0]
        rw [if_pos (by omega), if_pos (by omega), nrd_T83 L i hi, if_neg c2, ha k (by omega)]
        simp only [Option.bind_some]
        rw [if_neg c3, hb k (by omega)]
        simp only [Option.bind_some]
        rw [if_pos (by omega), if_pos (by omega), wsucc hi (by omega)]
        exact h2 k (by omega)
/-- What both sides ask of a way. -/
theorem far_eq (o B : List Int) (i y : Nat) (hB : B.length = o.length) (hb : ∀ j (h : j < B.length), B[j] = pre o j) (hn : o.length ≤ 600) (ho : ∀ j (h : j < o.length), 0 ≤ o[j] ∧ o[j] ≤ 3) (hi : i < o.length) (hy : i < y) (hy' : y < o.length) (h1 : o[i] = 1) :
    wrap64 (wrap64 (rd B (y : Int) - rd B (i : Int)) - 1) = pre o y - pre o (i + 1) := by
  have b1 := pre_bound ho y (by omega)
  have b2 := pre_bound ho i (by omega)
  rw [nrdI B y (by omega), nrdI B i (by omega), hb y (by omega), hb i (by omega), pre_succ hi, h1]
  rw [w64 (x := pre o y - pre o i) (by omega) (by omega), w64 (by omega) (by omega)]
  omega
theorem round (L : List S83) (hn : L.length ≤ 600) (hS : SAll L) (hI : IAll L) (o Y N B : List Int) (ho : OkS L o) (hW : OkW L Y N) (hB : B.length = o.length) (hb : ∀ j (h : j < B.length), B[j] = pre o j) (r : Int) :
    ∃ c f, OkS L c ∧ (f = true → ones c < ones o) ∧ (∀ R, Evt (fun k => if f = true then spec_Sizes.l1 k L c Y N (wrap64 (r + 1)) else some c) R → Evt (fun k => spec_Sizes.l2 k L o Y N r B false ((0 : Nat) : Int)) R) ∧ (∀ R, Evt (fun k => impl_Sizes.l1 k L c f) R → Evt (fun k => impl_Sizes.l2 k L o false o L (L.length : Int) ((0 : Nat) : Int)) R) := by
  have ho' := ho
  obtain ⟨ol, o3, oa, _⟩ := ho
  obtain ⟨wy, wn, wj⟩ := hW
  have key := down (T := fun i => ∀ (c : List Int) (f : Bool), OkS L c → (∀ j (h : j < c.length) (h' : j < o.length), i ≤ j → c[j] = o[j]) → ones c ≤ ones o → (f = true → ones c < ones o) →
    ∃ c' f', OkS L c' ∧ (f' = true → ones c' < ones o) ∧ (∀ R, Evt (fun k => if f' = true then spec_Sizes.l1 k L c' Y N (wrap64 (r + 1)) else some c') R → Evt (fun k => spec_Sizes.l2 k L c Y N r B f (i : Int)) R) ∧ (∀ R, Evt (fun k => impl_Sizes.l1 k L c' f') R → Evt (fun k => impl_Sizes.l2 k L o f c L (L.length : Int) (i : Int)) R)) (n := L.length) ?_ ?_ L.length 0 (by omega) o false ho' (fun _ _ _ _ => rfl) (Nat.le_refl _) (fun h => by cases h)
  · exact key
  · intro c f hc _ _ h2
    refine ⟨c, f, hc, h2, fun R hR => .succ ?_, fun R hR => .succ ?_⟩
    · obtain ⟨K, hK⟩ := hR
      refine ⟨K, fun k hk => ?_⟩
      simp only [spec_Sizes.l2]
      rw [if_neg (by omega)]
      exact hK k hk
    · obtain ⟨K, hK⟩ := hR
      refine ⟨K, fun k hk => ?_⟩
      simp only [impl_Sizes.l2]
      rw [if_neg (by omega)]
      exact hK k hk
  · intro i hi ih c f hc hj h1 h2
    have cl := hc.1
    have ws := wsucc hi (show L.length ≤ 9223372036854775807 by omega)
    have skip : (∀ k, spec_Sizes.l2 (k + 2) L c Y N r B f (i : Int) = spec_Sizes.l2 k L c Y N r B f ((i + 1 : Nat) : Int)) → (∀ k, impl_Sizes.l2 (k + 2) L o f c L (L.length : Int) (i : Int) = impl_Sizes.l2 k L o f c L (L.length : Int) ((i + 1 : Nat) : Int)) →
        ∃ c' f', OkS L c' ∧ (f' = true → ones c' < ones o) ∧ (∀ R, Evt (fun k => if f' = true then spec_Sizes.l1 k L c' Y N (wrap64 (r + 1)) else some c') R → Evt (fun k => spec_Sizes.l2 k L c Y N r B f (i : Int)) R) ∧ (∀ R, Evt (fun k => impl_Sizes.l1 k L c' f') R → Evt (fun k => impl_Sizes.l2 k L o f c L (L.length : Int) (i : Int)) R) := fun eS eI => by
      obtain ⟨c', f', a1, a2, a3, a4⟩ := ih c f hc (fun j h h' hij => hj j h h' (by omega)) h1 h2
      refine ⟨c', f', a1, a2, fun R hR => ?_, fun R hR => ?_⟩
      · obtain ⟨K, hK⟩ := a3 R hR
        refine ⟨K + 2, fun k hk => ?_⟩
        obtain ⟨k, rfl⟩ : ∃ m, k = m + 2 := ⟨k - 2, by omega⟩
        exact (eS k).trans (hK k (by omega))
      · obtain ⟨K, hK⟩ := a4 R hR
        refine ⟨K + 2, fun k hk => ?_⟩
        obtain ⟨k, rfl⟩ : ∃ m, k = m + 2 := ⟨k - 2, by omega⟩
        exact (eI k).trans (hK k (by omega))
    by_cases ha : 3 ≤ L[i].f1.f0 ∧ L[i].f1.f0 ≤ 6
    · have hio : i < o.length := by omega
      have hic : i < c.length := by omega
      have ec : c[i] = o[i] := hj i hic hio (Nat.le_refl _)
      by_cases e3 : o[i] = 3
      · refine skip (fun k => ?_) (fun k => ?_)
        · simp only [spec_Sizes.l2, spec_Sizes.j3]
          rw [if_pos (by omega), if_pos (by omega), nrd_T83 L i hi]
          simp only [askS, Option.bind_some, decide_eq_true_eq]
          rw [if_pos ha, if_pos (by omega), nrdI c i hic, ec, e3, if_pos (by simp), ws]
        · simp only [impl_Sizes.l2, impl_Sizes.j3]
          rw [if_pos (by omega), if_pos (by omega), if_pos (by omega), nrd_T83 L i hi]
          simp only [askI, Option.bind_some, decide_eq_true_eq]
          rw [if_pos ha, if_pos (by omega), nrdI o i hio, e3, if_pos (by simp), ws]
      · have e1 : o[i] = 1 := (oa i hio hi ha).resolve_right e3
        obtain ⟨y, y1, y2, y3, y4, y5⟩ := wayTo (by omega) hS hI hi ha L[i].f2 (.inl rfl)
        obtain ⟨z, z1, z2, z3, z4, z5⟩ := wayTo (by omega) hS hI hi ha L[i].f3 (.inr rfl)
        have hY : rd Y (i : Int) = (y : Int) := by rw [nrdI Y i (by omega)]; exact (wj i hi (by omega) (by omega)).1 y3 _ y4
        have hN : rd N (i : Int) = (z : Int) := by rw [nrdI N i (by omega)]; exact (wj i hi (by omega) (by omega)).2 z3 _ z4
        have ey := far_eq o B i y hB hb (by omega) o3 hio y1 (by omega) e1
        have ez := far_eq o B i z hB hb (by omega) o3 hio z1 (by omega) e1
        obtain ⟨K1, b1⟩ := betw o (by omega) o3 y (by omega) (y - (i + 1)) (i + 1) 0 (by omega) (by omega) (by omega)
        obtain ⟨K2, b2⟩ := betw o (by omega) o3 z (by omega) (z - (i + 1)) (i + 1) 0 (by omega) (by omega) (by omega)
        dsimp only at b1 b2
        have g1 : ∀ k, K1 + L.length < k → impl_between.f k L o (i : Int) L[i].f2 = some (pre o y - pre o (i + 1)) := fun k hk => by
          simp only [impl_between.f, y5 k (by omega), Option.bind_some, ws, b1 k (by omega)]
          exact congrArg some (by omega)
        have g2 : ∀ k, K2 + L.length < k → impl_between.f k L o (i : Int) L[i].f3 = some (pre o z - pre o (i + 1)) := fun k hk => by
          simp only [impl_between.f, z5 k (by omega), Option.bind_some, ws, b2 k (by omega)]
          exact congrArg some (by omega)
        generalize pre o y - pre o (i + 1) = gy at ey g1
        generalize pre o z - pre o (i + 1) = gz at ez g2
        have n3 : ¬ (rd c (i : Int) == 3) = true := by rw [nrdI c i hic, ec, e1]; simp
        have m3 : ¬ (rd o (i : Int) == 3) = true := by rw [nrdI o i hio, e1]; simp
        by_cases far : gy > 15 ∨ gz > 15
        · have hs := ones_set c i hic (ec.trans e1)
          obtain ⟨c', f', a1, a2, a3, a4⟩ := ih (c.set i 3) true (hc.set i hi ha) (fun j h h' hij => by
            rw [List.getElem_set_ne (by omega)]
            rw [List.length_set] at h
            exact hj j h h' (by omega)) (by omega) (fun _ => by omega)
          refine ⟨c', f', a1, a2, fun R hR => ?_, fun R hR => ?_⟩
          · obtain ⟨K, hK⟩ := a3 R hR
            refine ⟨K + 2, fun k hk => ?_⟩
            obtain ⟨k, rfl⟩ : ∃ m, k = m + 2 := ⟨k - 2, by omega⟩
            simp only [spec_Sizes.l2, spec_Sizes.j3]
            rw [if_pos (by omega), if_pos (by omega), nrd_T83 L i hi]
            simp only [askS, Option.bind_some, decide_eq_true_eq]
            rw [if_pos ha, if_pos (by omega), if_neg n3, if_pos (by omega), if_pos (by omega), hY, if_pos (by omega), if_pos (by omega), if_pos (by omega), ey]
            by_cases q : gy > 15
            · rw [if_pos q, if_pos (by omega), ws, Int.toNat_natCast]
              exact hK k (by omega)
            · rw [if_neg q, if_pos (by omega), hN, if_pos (by omega), if_pos (by omega), ez, if_pos (far.resolve_left q), if_pos (by omega), ws, Int.toNat_natCast]
              exact hK k (by omega)
          · obtain ⟨K, hK⟩ := a4 R hR
            refine ⟨K + K1 + K2 + L.length + 3, fun k hk => ?_⟩
            obtain ⟨k, rfl⟩ : ∃ m, k = m + 2 := ⟨k - 2, by omega⟩
            simp only [impl_Sizes.l2, impl_Sizes.j3]
            rw [if_pos (by omega), if_pos (by omega), if_pos (by omega), nrd_T83 L i hi]
            simp only [askI, Option.bind_some, decide_eq_true_eq]
            rw [if_pos ha, if_pos (by omega), if_neg m3, g1 k (by omega)]
            simp only [Option.bind_some]
            by_cases q : gy > 15
            · rw [if_pos q, if_pos (by omega), if_pos (by omega), ws, Int.toNat_natCast]
              exact hK k (by omega)
            · rw [if_neg q, g2 k (by omega)]
              simp only [Option.bind_some]
              rw [if_pos (far.resolve_left q), if_pos (by omega), if_pos (by omega), ws, Int.toNat_natCast]
              exact hK k (by omega)
        · have q1 : ¬ gy > 15 := fun h => far (.inl h)
          have q2 : ¬ gz > 15 := fun h => far (.inr h)
          obtain ⟨c', f', a1, a2, a3, a4⟩ := ih c f hc (fun j h h' hij => hj j h h' (by omega)) h1 h2
          refine ⟨c', f', a1, a2, fun R hR => ?_, fun R hR => ?_⟩
          · obtain ⟨K, hK⟩ := a3 R hR
            refine ⟨K + 2, fun k hk => ?_⟩
            obtain ⟨k, rfl⟩ : ∃ m, k = m + 2 := ⟨k - 2, by omega⟩
            simp only [spec_Sizes.l2, spec_Sizes.j3]
            rw [if_pos (by omega), if_pos (by omega), nrd_T83 L i hi]
            simp only [askS, Option.bind_some, decide_eq_true_eq]
            rw [if_pos ha, if_pos (by omega), if_neg n3, if_pos (by omega), if_pos (by omega), hY, if_pos (by omega), if_pos (by omega), if_pos (by omega), ey, if_neg q1, if_pos (by omega), hN, if_pos (by omega), if_pos (by omega), ez, if_neg q2, ws]
            exact hK k (by omega)
          · obtain ⟨K, hK⟩ := a4 R hR
            refine ⟨K + K1 + K2 + L.length + 3, fun k hk => ?_⟩
            obtain ⟨k, rfl⟩ : ∃ m, k = m + 2 := ⟨k - 2, by omega⟩
            simp only [impl_Sizes.l2, impl_Sizes.j3]
            rw [if_pos (by omega), if_pos (by omega), if_pos (by omega), nrd_T83 L i hi]
            simp only [askI, Option.bind_some, decide_eq_true_eq]
            rw [if_pos ha, if_pos (by omega), if_neg m3, g1 k (by omega)]
            simp only [Option.bind_some]
            rw [if_neg q1, g2 k (by omega)]
            simp only [Option.bind_some]
            rw [if_neg q2, ws]
            exact hK k (by omega)
    · refine skip (fun k => ?_) (fun k => ?_)
      · simp only [spec_Sizes.l2, spec_Sizes.j3]
        rw [if_pos (by omega), if_pos (by omega), nrd_T83 L i hi]
        simp only [askS, Option.bind_some, decide_eq_true_eq]
        rw [if_neg ha, if_pos trivial, ws]
      · simp only [impl_Sizes.l2, impl_Sizes.j3]
        rw [if_pos (by omega), if_pos (by omega), if_pos (by omega), nrd_T83 L i hi]
        simp only [askI, Option.bind_some, decide_eq_true_eq]
        rw [if_neg ha, if_pos trivial, ws]
theorem rounds (L : List S83) (hn : L.length ≤ 600) (hS : SAll L) (hI : IAll L) (Y N : List Int) (hW : OkW L Y N) : ∀ (m : Nat) (o : List Int) (r : Nat), ones o ≤ m → ones o + r ≤ L.length → OkS L o →
    ∃ O, OkS L O ∧ Evt (fun k => spec_Sizes.l1 k L o Y N (r : Int)) O ∧ Evt (fun k => impl_Sizes.l1 k L o true) O := by
  intro m
  induction m with
  | zero =>
    intro o r hm hr ho
    obtain ⟨B, hB, hb, K0, b0⟩ := begins o (by have := ho.1; omega) ho.2.1
    obtain ⟨c, f, hc, hf, h1, h2⟩ := round L hn hS hI o Y N B ho hW hB hb (r : Int)
    cases f with
    | true => have := hf rfl; omega
    | false =>
      obtain ⟨K1, g1⟩ := h1 c (.const fun _ => by rw [if_neg (by simp)])
      obtain ⟨K2, g2⟩ := h2 c (.succ (.const fun k => by simp only [impl_Sizes.l1]; rw [if_neg (by simp)]))
      dsimp only at b0 g1 g2
      refine ⟨c, hc, .succ ⟨K0 + K1, fun k hk => ?_⟩, .succ ⟨K2, fun k hk => ?_⟩⟩
      · simp only [spec_Sizes.l1]
        rw [if_pos (by omega), b0 k (by omega)]
        exact g1 k (by omega)
      · have e : ([] : List Int) ++ o = o := rfl
        simp only [impl_Sizes.l1, Option.bind_some, if_true]
        rw [if_pos (by have := ho.1; simp; omega)]
        exact g2 k hk
  | succ m ih =>
    intro o r hm hr ho
    obtain ⟨B, hB, hb, K0, b0⟩ := begins o (by have := ho.1; omega) ho.2.1
    obtain ⟨c, f, hc, hf, h1, h2⟩ := round L hn hS hI o Y N B ho hW hB hb (r : Int)
    dsimp only at b0
    have fin : ∀ R, Evt (fun k => if f = true then spec_Sizes.l1 k L c Y N (wrap64 ((r : Int) + 1)) else some c) R → Evt (fun k => impl_Sizes.l1 k L c f) R → Evt (fun k => spec_Sizes.l1 k L o Y N (r : Int)) R ∧ Evt (fun k => impl_Sizes.l1 k L o true) R := fun R r1 r2 => by
      obtain ⟨K1, g1⟩ := h1 R r1
      obtain ⟨K2, g2⟩ := h2 R r2
      dsimp only at g1 g2
      refine ⟨.succ ⟨K0 + K1, fun k hk => ?_⟩, .succ ⟨K2, fun k hk => ?_⟩⟩
      · simp only [spec_Sizes.l1]
        rw [if_pos (by omega), b0 k (by omega)]
        exact g1 k (by omega)
      · simp only [impl_Sizes.l1, Option.bind_some, if_true]
        rw [if_pos (by have := ho.1; simp; omega)]
        exact g2 k hk
    cases f with
    | true =>
      have hlt := hf rfl
      obtain ⟨O, hO, i1, i2⟩ := ih c (r + 1) (by omega) (by omega) hc
      have ew : wrap64 ((r : Int) + 1) = ((r + 1 : Nat) : Int) := by unfold wrap64; omega
      exact ⟨O, hO, fin O (i1.congr fun k => by rw [if_pos rfl, ew]) i2⟩
    | false =>
      exact ⟨c, hc, fin c (.const fun _ => by rw [if_neg (by simp)]) (.succ (.const fun k => by simp only [impl_Sizes.l1]; rw [if_neg (by simp)]))⟩
theorem sizes_l0 (L : List S83) (hn : L.length ≤ 600) (hS : SAll L) (hI : IAll L) : ∃ O, OkS L O ∧ Evt (fun k => spec_Sizes.l0 k L [] ((0 : Nat) : Int)) O ∧ Evt (fun k => impl_Sizes.l0 k L [] L (L.length : Int) ((0 : Nat) : Int)) O := by
  have H : ∀ j (h : j < L.length), L[j].f1.f0 = 0 → PZ L[j] := fun j h e => by
    obtain ⟨w0, h0⟩ := fstI L (by omega) L[j].f0 0 (by omega)
    obtain ⟨w2, h2⟩ := fstI L (by omega) L[j].f2 (j + 1) h
    obtain ⟨w3, h3⟩ := fstI L (by omega) L[j].f3 (j + 1) h
    rcases hI j h w0 w2 w3 h0 h2 h3 with h4 | h4
    · exact h4.1
    · exact absurd e h4.1
  refine down (T := fun i => ∀ o : List Int, o.length = i → (∀ j (h : j < o.length) (h' : j < L.length), (0 ≤ o[j] ∧ o[j] ≤ 3) ∧ (3 ≤ L[j].f1.f0 ∧ L[j].f1.f0 ≤ 6 → o[j] = 1 ∨ o[j] = 3) ∧ (¬ (3 ≤ L[j].f1.f0 ∧ L[j].f1.f0 ≤ 6) → o[j] = if L[j].f1.f0 = 0 then 0 else 1)) → ∃ O, OkS L O ∧ Evt (fun k => spec_Sizes.l0 k L o (i : Int)) O ∧ Evt (fun k => impl_Sizes.l0 k L o L (L.length : Int) (i : Int)) O) (n := L.length) ?_ ?_ L.length 0 (by omega) [] rfl (by simp)
  · intro o hl hj
    obtain ⟨Y, N, hW, K0, w0⟩ := ways L hn
    have ho : OkS L o := ⟨hl, fun j h => (hj j h (by omega)).1, fun j h h' => (hj j h h').2.1, fun j h h' => (hj j h h').2.2⟩
    obtain ⟨O, hO, ⟨K1, h1⟩, ⟨K2, h2⟩⟩ := rounds L hn hS hI Y N hW (ones o) o 0 (Nat.le_refl _) (by have := ones_le o; omega) ho
    dsimp only at w0 h1 h2
    refine ⟨O, hO, .succ ⟨K0 + K1, fun k hk => ?_⟩, .succ ⟨K2, fun k hk => ?_⟩⟩
    · simp only [spec_Sizes.l0]
      rw [if_neg (by omega), w0 k (by omega)]
      exact h1 k (by omega)
    · simp only [impl_Sizes.l0]
      rw [if_neg (by omega)]
      exact h2 k hk
  · intro i hi ih o hl hj
    have ws := wsucc hi (show L.length ≤ 9223372036854775807 by omega)
    have ext : ∀ v : Int, (0 ≤ v ∧ v ≤ 3) → (3 ≤ L[i].f1.f0 ∧ L[i].f1.f0 ≤ 6 → v = 1 ∨ v = 3) → (¬ (3 ≤ L[i].f1.f0 ∧ L[i].f1.f0 ≤ 6) → v = if L[i].f1.f0 = 0 then 0 else 1) → ∃ O, OkS L O ∧ Evt (fun k => spec_Sizes.l0 k L (o ++ [v]) ((i + 1 : Nat) : Int)) O ∧ Evt (fun k => impl_Sizes.l0 k L (o ++ [v]) L (L.length : Int) ((i + 1 : Nat) : Int)) O := fun v h1 h2 h3 => by
      refine ih (o ++ [v]) (by simp; omega) (fun j h h' => ?_)
      rcases Nat.lt_or_ge j i with h4 | h4
      · rw [List.getElem_append_left (by omega)]
        exact hj j (by omega) h'
      · have : j = i := by simp at h; omega
        subst this
        have e1 : (o ++ [v])[j] = v := by rw [List.getElem_append_right (by omega)]; simp
        rw [e1]
        exact ⟨h1, h2, h3⟩
    by_cases hp : L[i].f1.f0 = 0
    · obtain ⟨a, b, c, d⟩ := H i hi hp
      obtain ⟨O, hO, ⟨K1, h1⟩, ⟨K2, h2⟩⟩ := ext 0 (by omega) (fun h => by omega) (fun _ => by rw [if_pos hp])
      dsimp only at h1 h2
      refine ⟨O, hO, .succ ⟨K1, fun k hk => ?_⟩, .succ ⟨K2, fun k hk => ?_⟩⟩
      · simp only [spec_Sizes.l0, spec_l11Place.f]
        rw [if_pos (by omega), if_pos (by omega), nrd_T83 L i hi]
        simp only [Option.bind_some]
        rw [if_pos (by simp [a, b, c, d]), if_pos (by omega), ws]
        exact h1 k hk
      · simp only [impl_Sizes.l0, impl_Line_isPlace.f]
        rw [if_pos (by omega), if_pos (by omega), if_pos (by omega), nrd_T83 L i hi]
        simp only [Option.bind_some]
        rw [if_pos (by simp [hp]), if_pos (by omega), ws]
        exact h2 k hk
    · obtain ⟨O, hO, ⟨K1, h1⟩, ⟨K2, h2⟩⟩ := ext 1 (by omega) (fun _ => .inl rfl) (fun _ => by rw [if_neg hp])
      dsimp only at h1 h2
      refine ⟨O, hO, .succ ⟨K1, fun k hk => ?_⟩, .succ ⟨K2, fun k hk => ?_⟩⟩
      · simp only [spec_Sizes.l0, spec_l11Place.f]
        rw [if_pos (by omega), if_pos (by omega), nrd_T83 L i hi]
        simp only [Option.bind_some]
        rw [if_neg (by simp [hp]), if_pos (by omega), ws]
        exact h1 k hk
      · simp only [impl_Sizes.l0, impl_Line_isPlace.f]
        rw [if_pos (by omega), if_pos (by omega), if_pos (by omega), nrd_T83 L i hi]
        simp only [Option.bind_some]
        rw [if_neg (by simp [hp]), if_pos (by omega), ws]
        exact h2 k hk
theorem sizes (L : List S83) (hn : L.length ≤ 1048576) : ∃ O : List Int, Evt (fun k => spec_Sizes.f k L) O ∧ Evt (fun k => impl_Sizes.f k L) O ∧ O.length ≤ 600 ∧ (O ≠ [] → L.length ≤ 600 ∧ SAll L ∧ IAll L ∧ OkS L O ∧ ∃ h : L.length - 1 < L.length, L[L.length - 1].f1.f0 = 8) ∧ (O = [] → L.length = 0 ∨ O.length = 0) := by
  obtain ⟨b, ⟨K1, h1⟩, ⟨K2, h2⟩, hb⟩ := linesOk L hn
  dsimp only at h1 h2
  cases b with
  | false =>
    refine ⟨[], ⟨K1, fun k hk => ?_⟩, ⟨K2, fun k hk => ?_⟩, by simp, fun h => absurd rfl h, fun _ => .inr rfl⟩
    · simp only [spec_Sizes.f, h1 k hk, Option.bind_some, Bool.false_eq_true, if_false]
    · simp only [impl_Sizes.f, h2 k hk, Option.bind_some, Bool.false_eq_true, if_false]
  | true =>
    obtain ⟨hl, hS, hI, h8⟩ := hb rfl
    obtain ⟨O, hO, ⟨K3, h3⟩, ⟨K4, h4⟩⟩ := sizes_l0 L hl.2 hS hI
    dsimp only at h3 h4
    refine ⟨O, ⟨K1 + K3, fun k hk => ?_⟩, ⟨K2 + K4, fun k hk => ?_⟩, by have := hO.1; omega, fun _ => ⟨hl.2, hS, hI, hO, h8⟩, fun h => .inr (by rw [h]; rfl)⟩
    · simp only [spec_Sizes.f, h1 k (by omega), Option.bind_some, if_true]
      exact h3 k (by omega)
    · simp only [impl_Sizes.f, h2 k (by omega), Option.bind_some, if_true]
      exact h4 k (by omega)
theorem rdn81 (l : List S81) (i : Nat) (h : i < l.length) : rd_T81 l (i : Int) = l[i] := getD_lt _ h
theorem markInsS_l0 : ∀ (d i : Nat) (x : List S81) (q : Int), i + d = x.length → 0 ≤ q → q + 4 * d ≤ 4611686018427387904 → x.length ≤ 4611686018427387904 → ∃ y, (∀ k, d < k → laws_markInsS.l0 k x q (i : Int) = some (q + 4 * d, y)) ∧ y.length = x.length ∧ (∀ j, j < i → y[j]? = x[j]?) ∧ ∀ j, i ≤ j → j < x.length → y[j]? = some ⟨q + 4 * ((j : Int) - i), q + 4 * ((j : Int) - i) + 1, q + 4 * ((j : Int) - i) + 2, q + 4 * ((j : Int) - i) + 3⟩
  | 0, i, x, q, hi, hq, hb, hl => by
    refine ⟨x, fun k hk => ?_, rfl, fun _ _ => rfl, fun j h1 h2 => by omega⟩
    obtain ⟨k, rfl⟩ : ∃ m, k = m + 1 := ⟨k - 1, by omega⟩
    simp only [laws_markInsS.l0]
    rw [if_neg (by omega)]
    simp
  | d + 1, i, x, q, hi, hq, hb, hl => by
    have hlt : i < x.length := by omega
    obtain ⟨y, hy, hyl, hy1, hy2⟩ := markInsS_l0 d (i + 1) (x.set i ⟨q, q + 1, q + 2, q + 3⟩) (q + 4) (by rw [List.length_set]; omega) (by omega) (by omega) (by rw [List.length_set]; exact hl)
    rw [List.length_set] at hyl hy2
    refine ⟨y, fun k hk => ?_, hyl, fun j hj => ?_, fun j h1 h2 => ?_⟩
    · obtain ⟨k, rfl⟩ : ∃ m, k = m + 1 := ⟨k - 1, by omega⟩
      have w1 : wrap64 (q + 1) = q + 1 := w64 (by omega) (by omega)
      have w2 : wrap64 (q + 2) = q + 2 := w64 (by omega) (by omega)
      have w3 : wrap64 (q + 3) = q + 3 := w64 (by omega) (by omega)
      have w4 : wrap64 (q + 4) = q + 4 := w64 (by omega) (by omega)
      simp only [laws_markInsS.l0]
      rw [if_pos (by omega), if_pos (by omega)]
      have rs : ∀ v, rd_T81 (x.set i v) (i : Int) = v := fun v => by rw [rdn81 _ i (by rw [List.length_set]; exact hlt), List.getElem_set_self]
      simp only [Option.bind_some, Int.toNat_natCast, rdn81 _ i hlt, rs, List.set_set]
      simp only [w1, w2, w3, w4, Int.add_assoc, Int.reduceAdd]
      rw [wsucc hlt (by omega)]
      have h3 := hy k (by omega)
      rw [h3]
      refine congrArg some (Prod.ext ?_ rfl)
      show q + 4 + 4 * (d : Int) = q + 4 * ((d + 1 : Nat) : Int)
      omega
    · rw [hy1 j (by omega), List.getElem?_set_ne (by omega)]
    · rcases Nat.lt_or_ge i j with h3 | h3
      · rw [hy2 j (by omega) (by omega)]
        refine congrArg some ?_
        have e : q + 4 + 4 * ((j : Int) - ((i + 1 : Nat) : Int)) = q + 4 * ((j : Int) - i) := by omega
        rw [e]
      · have : i = j := by omega
        subst this
        rw [hy1 i (by omega), List.getElem?_set_self hlt]
        simp
theorem heldInsS_l0 : ∀ (d i : Nat) (x : List S81) (q : Int), i + d = x.length → 0 ≤ q → q + 4 * d ≤ 4611686018427387904 → x.length ≤ 4611686018427387904 → (∀ j, i ≤ j → j < x.length → x[j]? = some ⟨q + 4 * ((j : Int) - i), q + 4 * ((j : Int) - i) + 1, q + 4 * ((j : Int) - i) + 2, q + 4 * ((j : Int) - i) + 3⟩) → ∀ k, d < k → laws_heldInsS.l0 k x q (i : Int) = some (q + 4 * d)
  | 0, i, x, q, hi, hq, hb, hl, hx, k, hk => by
    obtain ⟨k, rfl⟩ : ∃ m, k = m + 1 := ⟨k - 1, by omega⟩
    simp only [laws_heldInsS.l0]
    rw [if_neg (by omega)]
    simp
  | d + 1, i, x, q, hi, hq, hb, hl, hx, k, hk => by
    have hlt : i < x.length := by omega
    obtain ⟨k, rfl⟩ : ∃ m, k = m + 1 := ⟨k - 1, by omega⟩
    have w1 : wrap64 (q + 1) = q + 1 := w64 (by omega) (by omega)
    have w2 : wrap64 (q + 2) = q + 2 := w64 (by omega) (by omega)
    have w3 : wrap64 (q + 3) = q + 3 := w64 (by omega) (by omega)
    have w4 : wrap64 (q + 4) = q + 4 := w64 (by omega) (by omega)
    have h0 := hx i (Nat.le_refl _) hlt
    rw [List.getElem?_eq_getElem hlt] at h0
    have h1 : x[i] = ⟨q, q + 1, q + 2, q + 3⟩ := by have := Option.some.inj h0; simpa using this
    simp only [laws_heldInsS.l0]
    rw [if_pos (by omega), if_pos (by omega), rdn81 _ i hlt, h1]
    simp only [w1, w2, w3, w4, Int.add_assoc, Int.reduceAdd, if_true]
    rw [wsucc hlt (by omega)]
    have h2 := heldInsS_l0 d (i + 1) x (q + 4) (by omega) (by omega) (by omega) hl (fun j h3 h4 => by
      rw [hx j (by omega) h4]
      have e : q + 4 + 4 * ((j : Int) - ((i + 1 : Nat) : Int)) = q + 4 * ((j : Int) - i) := by omega
      rw [e]) k (by omega)
    rw [h2]
    refine congrArg some ?_
    omega
theorem markInsS (x : List S81) (hn : x.length ≤ 140737488355328) : ∃ y q, (∀ k, x.length < k → laws_markInsS.f k x 1 = some (q, y)) ∧ (∀ k, x.length < k → laws_heldInsS.f k y 1 = some q) ∧ 0 ≤ q := by
  obtain ⟨y, hy, hyl, _, hy2⟩ := markInsS_l0 x.length 0 x 1 (by omega) (by omega) (by omega) (by omega)
  refine ⟨y, _, fun k hk => hy k hk, fun k hk => ?_, by omega⟩
  have h := heldInsS_l0 y.length 0 y 1 (by omega) (by omega) (by omega) (by omega) (fun j h1 h2 => hy2 j h1 (by omega)) k (by omega)
  rw [hyl] at h
  exact h

/-- A jump's way. -/
theorem wayJ {L : List S83} (hn : L.length ≤ 1048576) (hS : SAll L) (hI : IAll L) {i : Nat} (hi : i < L.length) (ha : L[i].f1.f0 = 7) :
    ∃ y : Nat, i < y ∧ y < L.length ∧ L[i].f2.toList ≠ [] ∧ (∀ k, L.length < k → spec_l11At.f k L L[i].f2 = some (y : Int)) ∧ (∀ k, L.length < k → impl_placeOf.f k L L[i].f2 (i : Int) = some (y : Int)) := by
  have H : ∀ j (h : j < L.length), L[j].f1.f0 = 0 → PZ L[j] := fun j h e => by
    obtain ⟨w0, h0⟩ := fstI L hn L[j].f0 0 (by omega)
    obtain ⟨w2, h2⟩ := fstI L hn L[j].f2 (j + 1) h
    obtain ⟨w3, h3⟩ := fstI L hn L[j].f3 (j + 1) h
    rcases hI j h w0 w2 w3 h0 h2 h3 with h4 | h4
    · exact h4.1
    · exact absurd e h4.1
  obtain ⟨v, hv, fv⟩ := atS L L[i].f2 hn
  obtain ⟨w, hw, fw⟩ := atI L L[i].f2 hn i hi
  have hgt : v > i := by
    obtain ⟨v0, f0⟩ := fstS L hn L[i].f0
    obtain ⟨v3, f3⟩ := fstS L hn L[i].f3
    have hl := hS i hi v0 v v3 f0 fv f3
    have hz : ¬ PZ L[i] := fun h => by unfold PZ at h; omega
    rcases hl with h | ⟨_, _, _, _, _, _, h | h | h⟩
    · exact absurd h.1 hz
    · exact h.2.2
    · omega
    · exact absurd ha h.1
  rcases fv with ⟨m, _, m2, m3, m4, m5⟩ | ⟨m1, _⟩
  · have hwm : w = (m : Int) := by
      rcases fw with ⟨u, u1, u2, u3, u4, u5⟩ | ⟨_, u2⟩
      · have q1 : ¬ m < u := fun h => u5 m (by omega) h ((qs_qi H _ m).1 m3)
        have q2 : ¬ u < m := fun h => m5 u (Nat.zero_le _) h ((qs_qi H _ u).2 u3)
        omega
      · exact absurd ((qs_qi H _ m).1 m3) (u2 m (by omega) m2)
    refine ⟨m, by omega, m2, ?_, fun k hk => (hv k hk).trans (by rw [m4]), fun k hk => (hw k hk).trans (by rw [hwm])⟩
    obtain ⟨_, p1, p2⟩ := m3
    obtain ⟨v0, f0⟩ := fstS L hn L[m].f0
    obtain ⟨v2, f2⟩ := fstS L hn L[m].f2
    obtain ⟨v3, f3⟩ := fstS L hn L[m].f3
    rcases hS m m2 v0 v2 v3 f0 f2 f3 with h | h
    · intro e
      rw [← p2] at e
      rw [ByteArray.toList_eq] at e
      have h5 : L[m].f0.data.size = 0 := by simpa using congrArg List.length e
      have h6 : L[m].f0.size = L[m].f0.data.size := rfl
      have := h.2.1
      omega
    · exact absurd p1 h.1
  · omega
theorem askZero {L : List S83} (hn : L.length ≤ 1048576) (hS : SAll L) {i : Nat} (hi : i < L.length) (ha : ¬ L[i].f1.f0 = 0) : L[i].f1.f2 = 0 ∧ L[i].f1.f3 = 0 := by
  obtain ⟨v0, f0⟩ := fstS L hn L[i].f0
  obtain ⟨v2, f2⟩ := fstS L hn L[i].f2
  obtain ⟨v3, f3⟩ := fstS L hn L[i].f3
  rcases hS i hi v0 v2 v3 f0 f2 f3 with h | h
  · exact absurd h.1.1 ha
  · exact ⟨h.2.2.1, h.2.2.2.1⟩
theorem far_gen (o B : List Int) (i y : Nat) (q : Int) (hB : B.length = o.length) (hb : ∀ j (h : j < B.length), B[j] = pre o j) (hn : o.length ≤ 600) (ho : ∀ j (h : j < o.length), 0 ≤ o[j] ∧ o[j] ≤ 3) (hi : i < o.length) (hy : i < y) (hy' : y < o.length) (hq : 0 ≤ q) (hq' : q ≤ 10) :
    wrap64 (wrap64 (rd B (y : Int) - rd B (i : Int)) - q) = pre o y - pre o (i + 1) + (o[i] - q) := by
  have b1 := pre_bound ho y (by omega)
  have b2 := pre_bound ho i (by omega)
  have b3 := ho i hi
  rw [nrdI B y (by omega), nrdI B i (by omega), hb y (by omega), hb i (by omega), pre_succ hi]
  rw [w64 (x := pre o y - pre o i) (by omega) (by omega), w64 (by omega) (by omega)]
  omega
theorem lay_l0 (L : List S83) (hn : L.length ≤ 600) (hS : SAll L) (hI : IAll L) (o Y N B : List Int) (ho : OkS L o) (hW : OkW L Y N) (hB : B.length = o.length) (hb : ∀ j (h : j < B.length), B[j] = pre o j) (h8 : ∃ h : L.length - 1 < L.length, L[L.length - 1].f1.f0 = 8) :
    ∃ R : List S81 × Bool, R.1.length ≤ 2000 ∧ Evt (fun k => spec_Layout.l0 k L [] o Y N B [] ((0 : Nat) : Int)) R ∧ Evt (fun k => impl_Layout.l0 k L o [] L (L.length : Int) ((0 : Nat) : Int)) R := by
  obtain ⟨ol, o3, oa, ok⟩ := ho
  obtain ⟨wy, wn, wj⟩ := hW
  refine down (T := fun i => ∀ c : List S81, c.length ≤ 3 * i → (i = L.length → 1 ≤ c.length) → ∃ R : List S81 × Bool, R.1.length ≤ 2000 ∧ Evt (fun k => spec_Layout.l0 k L [] o Y N B c (i : Int)) R ∧ Evt (fun k => impl_Layout.l0 k L o c L (L.length : Int) (i : Int)) R) (n := L.length) ?_ ?_ L.length 0 (by omega) [] (by simp) (fun h => by obtain ⟨h, _⟩ := h8; omega)
  · intro c hc h1
    have h1 := h1 rfl
    by_cases hm : (c.length : Int) > 400
    · refine ⟨([], false), by simp, .succ (.const fun k => ?_), .succ (.const fun k => ?_)⟩
      · simp only [spec_Layout.l0]
        rw [if_neg (by omega), if_pos hm]
      · simp only [impl_Layout.l0, inI, Option.bind_some, decide_eq_true_eq]
        rw [if_neg (by omega), if_neg (by omega)]
    · refine ⟨(c, true), by show c.length ≤ _; omega, .succ (.const fun k => ?_), .succ (.const fun k => ?_)⟩
      · simp only [spec_Layout.l0]
        rw [if_neg (by omega), if_neg hm]
      · simp only [impl_Layout.l0, inI, Option.bind_some, decide_eq_true_eq]
        rw [if_neg (by omega), if_pos (by omega)]
  · intro i hi ih c hc _
    have ws := wsucc hi (show L.length ≤ 9223372036854775807 by omega)
    have hio : i < o.length := by omega
    have o0 : ¬ (o.length : Int) = 0 := by omega
    by_cases hp : L[i].f1.f0 = 0
    · have e0 : o[i] = 0 := by rw [ok i hio hi (by omega), if_pos hp]
      obtain ⟨R, hR, ⟨K1, g1⟩, ⟨K2, g2⟩⟩ := ih c (by omega) (fun h => by
        obtain ⟨h, e⟩ := h8
        have e2 : L.length - 1 = i := by omega
        have e3 : L[i].f1.f0 = 8 := by simpa only [e2] using e
        omega)
      dsimp only at g1 g2
      refine ⟨R, hR, .succ ⟨K1, fun k hk => ?_⟩, .succ ⟨K2, fun k hk => ?_⟩⟩
      · simp only [spec_Layout.l0]
        rw [if_pos (by omega), if_pos (by omega), if_pos (by omega), nrdI o i hio, if_pos e0, ws]
        exact g1 k hk
      · simp only [impl_Layout.l0, impl_Line_isPlace.f]
        rw [if_pos (by omega), if_pos (by omega), if_pos (by omega), if_neg o0, nrd_T83 L i hi]
        simp only [Option.bind_some]
        rw [if_pos (by simp [hp]), ws]
        exact g2 k hk
    have hz := askZero (by omega) hS hi hp
    have hnp : ¬ (L[i].f1.f0 == 0) = true := by simpa using hp
    by_cases c7 : L[i].f1.f0 = 7
    · have e1 : o[i] = 1 := by rw [ok i hio hi (by omega), if_neg hp]
      obtain ⟨y, y1, y2, y3, y4, y5⟩ := wayJ (by omega) hS hI hi c7
      have hY : rd Y (i : Int) = (y : Int) := by rw [nrdI Y i (by omega)]; exact (wj i hi (by omega) (by omega)).1 y3 _ y4
      have ey := far_gen o B i y 1 hB hb (by omega) o3 hio y1 (by omega) (by omega) (by omega)
      rw [e1] at ey
      obtain ⟨K0, b1⟩ := betw o (by omega) o3 y (by omega) (y - (i + 1)) (i + 1) 0 (by omega) (by omega) (by omega)
      dsimp only at b1
      have gI : ∀ k, K0 + L.length < k → impl_between.f k L o (i : Int) L[i].f2 = some (pre o y - pre o (i + 1)) := fun k hk => by
        simp only [impl_between.f, y5 k (by omega), Option.bind_some, ws, b1 k (by omega)]
        exact congrArg some (by omega)
      generalize pre o y - pre o (i + 1) = gy at ey gI
      have ey' : wrap64 (wrap64 (rd B (y : Int) - rd B (i : Int)) - 1) = gy := by rw [ey]; omega
      obtain ⟨R, hR, ⟨K1, g1⟩, ⟨K2, g2⟩⟩ := ih (c ++ [⟨L[i].f1.f0, gy, L[i].f1.f2, L[i].f1.f3⟩]) (by simp; omega) (fun _ => by simp)
      dsimp only at g1 g2
      refine ⟨R, hR, .succ ⟨K1, fun k hk => ?_⟩, .succ ⟨K2 + K0 + L.length + 1, fun k hk => ?_⟩⟩
      · simp only [spec_Layout.l0]
        rw [if_pos (by omega), if_pos (by omega), if_pos (by omega), nrdI o i hio, if_neg (by omega), if_neg (by omega), nrd_T83 L i hi, if_pos c7, if_pos (by omega), hY, if_pos (by omega), if_pos (by omega), if_pos (by omega), if_pos (by omega), ey', ws]
        exact g1 k hk
      · simp only [impl_Layout.l0, impl_Line_isPlace.f]
        rw [if_pos (by omega), if_pos (by omega), if_pos (by omega), if_neg o0, nrd_T83 L i hi]
        simp only [Option.bind_some]
        rw [if_neg hnp, if_pos c7, gI k (by omega)]
        simp only [Option.bind_some]
        rw [if_pos (by omega), ws]
        exact g2 k (by omega)
    by_cases ha : 3 ≤ L[i].f1.f0 ∧ L[i].f1.f0 ≤ 6
    · obtain ⟨y, y1, y2, y3, y4, y5⟩ := wayTo (by omega) hS hI hi ha L[i].f2 (.inl rfl)
      obtain ⟨z, z1, z2, z3, z4, z5⟩ := wayTo (by omega) hS hI hi ha L[i].f3 (.inr rfl)
      have hY : rd Y (i : Int) = (y : Int) := by rw [nrdI Y i (by omega)]; exact (wj i hi (by omega) (by omega)).1 y3 _ y4
      have hN : rd N (i : Int) = (z : Int) := by rw [nrdI N i (by omega)]; exact (wj i hi (by omega) (by omega)).2 z3 _ z4
      have ey := fun q => far_gen o B i y q hB hb (by omega) o3 hio y1 (by omega)
      have ez := fun q => far_gen o B i z q hB hb (by omega) o3 hio z1 (by omega)
      obtain ⟨K0, b1⟩ := betw o (by omega) o3 y (by omega) (y - (i + 1)) (i + 1) 0 (by omega) (by omega) (by omega)
      obtain ⟨K9, b2⟩ := betw o (by omega) o3 z (by omega) (z - (i + 1)) (i + 1) 0 (by omega) (by omega) (by omega)
      have p1 := pre_bound o3 y (by omega)
      have p2 := pre_bound o3 (i + 1) (by omega)
      dsimp only at b1 b2
      have gI : ∀ k, K0 + L.length < k → impl_between.f k L o (i : Int) L[i].f2 = some (pre o y - pre o (i + 1)) := fun k hk => by
        simp only [impl_between.f, y5 k (by omega), Option.bind_some, ws, b1 k (by omega)]
        exact congrArg some (by omega)
      have gJ : ∀ k, K9 + L.length < k → impl_between.f k L o (i : Int) L[i].f3 = some (pre o z - pre o (i + 1)) := fun k hk => by
        simp only [impl_between.f, z5 k (by omega), Option.bind_some, ws, b2 k (by omega)]
        exact congrArg some (by omega)
      have hgy : wrap64 (pre o y - pre o (i + 1) + 1) = pre o y - pre o (i + 1) + 1 := w64 (by omega) (by omega)
      generalize pre o y - pre o (i + 1) = gy at ey gI hgy
      generalize pre o z - pre o (i + 1) = gz at ez gJ
      rcases oa i hio hi ha with e1 | e3
      · have ey' : wrap64 (wrap64 (rd B (y : Int) - rd B (i : Int)) - 1) = gy := by rw [ey 1 (by omega) (by omega), e1]; omega
        have ez' : wrap64 (wrap64 (rd B (z : Int) - rd B (i : Int)) - 1) = gz := by rw [ez 1 (by omega) (by omega), e1]; omega
        obtain ⟨R, hR, ⟨K1, g1⟩, ⟨K2, g2⟩⟩ := ih (c ++ [⟨L[i].f1.f0, L[i].f1.f1, gy, gz⟩]) (by simp; omega) (fun _ => by simp)
        dsimp only at g1 g2
        refine ⟨R, hR, .succ ⟨K1, fun k hk => ?_⟩, ⟨K2 + K0 + K9 + L.length + 3, fun k hk => ?_⟩⟩
        · simp only [spec_Layout.l0]
          rw [if_pos (by omega), if_pos (by omega), if_pos (by omega), nrdI o i hio, if_neg (by omega), if_neg (by omega), nrd_T83 L i hi, if_neg c7]
          simp only [askS, Option.bind_some, decide_eq_true_eq]
          rw [if_pos ha, if_pos (by omega), hY, if_pos (by omega), if_pos (by omega), if_pos (by omega), if_pos (by omega), hN, if_pos (by omega), if_pos (by omega), if_pos (by omega), ey', ez', ws]
          exact g1 k hk
        · obtain ⟨k, rfl⟩ : ∃ m, k = m + 2 := ⟨k - 2, by omega⟩
          simp only [impl_Layout.l0, impl_Line_isPlace.f, impl_Layout.j1]
          rw [if_pos (by omega), if_pos (by omega), if_pos (by omega), if_neg o0, nrd_T83 L i hi]
          simp only [Option.bind_some, askI, decide_eq_true_eq]
          rw [if_neg hnp, if_neg c7, if_pos ha, if_pos (by omega), nrdI o i hio, e1, if_neg (by simp), if_pos ha, gI k (by omega)]
          simp only [Option.bind_some]
          rw [gJ k (by omega)]
          simp only [Option.bind_some]
          rw [if_pos (by omega), ws]
          exact g2 k (by omega)
      · have ey' : wrap64 (wrap64 (rd B (y : Int) - rd B (i : Int)) - 2) = gy + 1 := by rw [ey 2 (by omega) (by omega), e3]; omega
        have ez' : wrap64 (wrap64 (rd B (z : Int) - rd B (i : Int)) - 3) = gz := by rw [ez 3 (by omega) (by omega), e3]; omega
        obtain ⟨R, hR, ⟨K1, g1⟩, ⟨K2, g2⟩⟩ := ih (c ++ [⟨L[i].f1.f0, L[i].f1.f1, 0, 1⟩, ⟨7, gy + 1, 0, 0⟩, ⟨7, gz, 0, 0⟩]) (by simp; omega) (fun _ => by simp)
        dsimp only at g1 g2
        refine ⟨R, hR, .succ ⟨K1, fun k hk => ?_⟩, ⟨K2 + K0 + K9 + L.length + 3, fun k hk => ?_⟩⟩
        · simp only [spec_Layout.l0]
          rw [if_pos (by omega), if_pos (by omega), if_pos (by omega), nrdI o i hio, if_neg (by omega), if_pos e3, if_pos (by omega), hY, if_pos (by omega), if_pos (by omega), if_pos (by omega), if_pos (by omega), hN, if_pos (by omega), if_pos (by omega), nrd_T83 L i hi, ey', ez', hz.1]
          simp only [Option.bind_some]
          rw [if_pos (by simp; omega), ws]
          exact g1 k hk
        · obtain ⟨k, rfl⟩ : ∃ m, k = m + 2 := ⟨k - 2, by omega⟩
          simp only [impl_Layout.l0, impl_Line_isPlace.f, impl_Layout.j1]
          rw [if_pos (by omega), if_pos (by omega), if_pos (by omega), if_neg o0, nrd_T83 L i hi]
          simp only [Option.bind_some, askI, decide_eq_true_eq]
          rw [if_neg hnp, if_neg c7, if_pos ha, if_pos (by omega), nrdI o i hio, e3, if_pos (by simp), gI k (by omega)]
          simp only [Option.bind_some]
          rw [gJ k (by omega)]
          simp only [Option.bind_some]
          rw [if_pos (by simp; omega), hgy, ws]
          exact g2 k (by omega)
    · have e1 : o[i] = 1 := by rw [ok i hio hi ha, if_neg hp]
      obtain ⟨R, hR, ⟨K1, g1⟩, ⟨K2, g2⟩⟩ := ih (c ++ [⟨L[i].f1.f0, L[i].f1.f1, L[i].f1.f2, L[i].f1.f3⟩]) (by simp; omega) (fun _ => by simp)
      dsimp only at g1 g2
      refine ⟨R, hR, .succ ⟨K1, fun k hk => ?_⟩, ⟨K2 + 2, fun k hk => ?_⟩⟩
      · simp only [spec_Layout.l0]
        rw [if_pos (by omega), if_pos (by omega), if_pos (by omega), nrdI o i hio, if_neg (by omega), if_neg (by omega), nrd_T83 L i hi, if_neg c7]
        simp only [askS, Option.bind_some, decide_eq_true_eq]
        rw [if_neg ha, if_pos (by omega), ws]
        exact g1 k hk
      · obtain ⟨k, rfl⟩ : ∃ m, k = m + 2 := ⟨k - 2, by omega⟩
        simp only [impl_Layout.l0, impl_Line_isPlace.f, impl_Layout.j1]
        rw [if_pos (by omega), if_pos (by omega), if_pos (by omega), if_neg o0, nrd_T83 L i hi]
        simp only [Option.bind_some, askI, decide_eq_true_eq]
        rw [if_neg hnp, if_neg c7, if_neg ha, if_neg (by simp), if_neg ha, if_pos (by omega), ws]
        exact g2 k (by omega)
theorem layout (L : List S83) (hn : L.length ≤ 1048576) : ∃ R : List S81 × Bool, R.1.length ≤ 2000 ∧ Evt (fun k => spec_Layout.f k L) R ∧ Evt (fun k => impl_Layout.f k L) R := by
  obtain ⟨O, ⟨K1, h1⟩, ⟨K2, h2⟩, hO, hne, _⟩ := sizes L hn
  dsimp only at h1 h2
  by_cases he : O = []
  · subst he
    refine ⟨([], false), by simp, ⟨K1, fun k hk => ?_⟩, ⟨K2 + 1, fun k hk => ?_⟩⟩
    · simp only [spec_Layout.f, h1 k hk, Option.bind_some, List.length_nil]
      rw [if_pos (by omega)]
    · obtain ⟨k, rfl⟩ : ∃ m, k = m + 1 := ⟨k - 1, by omega⟩
      simp only [impl_Layout.f, h2 (k + 1) (by omega), Option.bind_some, impl_Layout.l0]
      by_cases hl : (0 : Int) < (L.length : Int)
      · rw [if_pos hl, if_pos (by omega), if_pos hl, if_pos (by simp)]
      · rw [if_neg hl]
        simp only [inI, Option.bind_some, decide_eq_true_eq]
        rw [if_neg (by simp)]
  · obtain ⟨hl, hS, hI, ho, h8⟩ := hne he
    obtain ⟨Y, N, hW, K3, h3⟩ := ways L hl
    obtain ⟨B, hB, hb, K4, h4⟩ := begins O (by omega) ho.2.1
    obtain ⟨R, hR, ⟨K5, h5⟩, ⟨K6, h6⟩⟩ := lay_l0 L hl hS hI O Y N B ho hW hB hb h8
    dsimp only at h3 h4 h5 h6
    have hpos : ¬ (O.length : Int) = 0 := fun h => he (List.eq_nil_of_length_eq_zero (by omega))
    refine ⟨R, hR, ⟨K1 + K3 + K4 + K5, fun k hk => ?_⟩, ⟨K2 + K6, fun k hk => ?_⟩⟩
    · simp only [spec_Layout.f, h1 k (by omega), h3 k (by omega), h4 k (by omega), Option.bind_some, if_neg hpos]
      exact h5 k (by omega)
    · simp only [impl_Layout.f, h2 k (by omega), Option.bind_some]
      exact h6 k (by omega)
theorem main (l : List S167) (hl : ((∀ u ∈ l, (u.f0.size ≤ maxLen ∧ ((Lit.int .i64 u.f1.f0).wf = true ∧ (Lit.int .i64 u.f1.f1).wf = true ∧ (Lit.int .i64 u.f1.f2).wf = true ∧ (Lit.int .i64 u.f1.f3).wf = true) ∧ u.f2.size ≤ maxLen ∧ u.f3.size ≤ maxLen)) ∧ l.length ≤ maxLen)) : ∃ k, laws_FnExactLayout.f k l = some true := by
  obtain ⟨s, hs, hp, K1, h1⟩ := Elaws_szLineS l 1048576 (by omega) (by omega) hl.2 hl.1
  dsimp only at h1
  by_cases hn : s < 0
  · refine ⟨K1, ?_⟩
    simp only [laws_FnExactLayout.f, h1 K1 (Nat.le_refl _), Option.bind_some, if_pos hn]
  · obtain ⟨hp1, hp2⟩ := hp (by omega)
    obtain ⟨K2, h2⟩ := Elaws_toLineS l hp1 hp2
    have hc : (l.map conv167).length = l.length := List.length_map _
    obtain ⟨⟨R, b⟩, hO, ⟨K3, h3⟩, ⟨K4, h4⟩⟩ := layout (l.map conv167) (by omega)
    dsimp only at hO
    obtain ⟨K5, h5⟩ := Elaws_eqInsS R (by omega)
    obtain ⟨K6, h6⟩ := Elaws_eqLineS (l.map conv167) (by omega)
    obtain ⟨y1, q1, ⟨K7, h7⟩, hq1⟩ := markLine (l.map conv167) (by omega)
    obtain ⟨y2, q2, m2, m3, hq2⟩ := markInsS R (by omega)
    dsimp only at h2 h3 h4 h5 h6 h7
    have n1 : ¬ q1 < 0 := by omega
    have n2 : ¬ q2 < 0 := by omega
    obtain ⟨K, hK⟩ : ∃ K, K = K1 + K2 + K3 + K4 + K5 + K6 + K7 + R.length + 1 := ⟨_, rfl⟩
    refine ⟨K + 3, ?_⟩
    simp only [laws_FnExactLayout.f, h1 _ (show K1 ≤ K + 3 by omega), h2 _ (show K2 ≤ K + 3 by omega), h3 _ (show K3 ≤ K + 3 by omega), h4 _ (show K4 ≤ K + 3 by omega), h5 _ (show K5 ≤ K + 3 by omega), Option.bind_some, if_neg hn, if_true, bne_self_eq_false]
    simp only [laws_FnExactLayout.j0, Bool.false_eq_true, if_false, h2 _ (show K2 ≤ K + 2 by omega), h6 _ (show K6 ≤ K + 2 by omega), h7 _ (show K7 ≤ K + 2 by omega), h5 _ (show K5 ≤ K + 2 by omega), Option.bind_some, if_neg n1, if_true, bne_self_eq_false]
    simp only [laws_FnExactLayout.j1, Bool.false_eq_true, if_false, h2 _ (show K2 ≤ K + 1 by omega), h4 _ (show K4 ≤ K + 1 by omega), h5 _ (show K5 ≤ K + 1 by omega), m2 _ (show R.length < K + 1 by omega), m3 _ (show R.length < K + 1 by omega), Option.bind_some, if_neg n2, if_true, bne_self_eq_false]
    simp only [laws_FnExactLayout.j2, Bool.false_eq_true, if_false, m3 _ (show R.length < K by omega), Option.bind_some, if_neg n2, if_true]
end Go.Proofs.Ytfmilhpneelonaa.PFnExactLayout
