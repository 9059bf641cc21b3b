/- The pure law of FnLayouts: ways lead where their labels stand, however far: what lines do their words do, as the statement has it. No conditions. -/
import Derived.Test.YtlgndgjbfjefpaaPFnLayoutsy11
import Derived.Test.YtlgndgjbfjefpaaEV
set_option linter.unusedSimpArgs false
set_option linter.unusedVariables false
namespace Go.Proofs.Ytlgndgjbfjefpaa.PFnLayouts
open Go Go.RowKit Go.Proofs.YtlgndgjbfjefpaaW.PrintWords Go.Proofs.YtlgndgjbfjefpaaW.PrintLast Go.Proofs.YtlgndgjbfjefpaaW.PK
theorem rd_nat93 (l : List S93) (i : Nat) (h : i < l.length) : rd_T93 l (i : Int) = l[i] := getD_lt _ h
theorem inS (a b c : Int) : spec_l01In.f a b c = some (decide (b ≤ a ∧ a ≤ c)) := by
 unfold spec_l01In.f
 by_cases h : a ≥ b
 ·rw [if_pos h]
  exact congrArg some (by rw [Bool.eq_iff_iff]; simp; omega)
 ·rw [if_neg h]
  exact congrArg some (by rw [Bool.eq_iff_iff]; simp; omega)
theorem inI (a b c : Int) : impl_within.f a b c = some (decide (b ≤ a ∧ a ≤ c)) := inS a b c
theorem halfS (a : Int) : spec_HalfOk.f a = some (decide (0 ≤ a ∧ a ≤ 4294967295)) := by
 unfold spec_HalfOk.f
 rw [inS]
 rfl
theorem halfI (a : Int) : impl_HalfOk.f a = some (decide (0 ≤ a ∧ a ≤ 4294967295)) := halfS a
theorem askS (a : Int) : spec_l06Ask.f a = some (decide (3 ≤ a ∧ a ≤ 6)) := by
 unfold spec_l06Ask.f
 rw [inS]
 rfl
theorem askI (a b c d : Int) : impl_Ins_asks.f a b c d = some (decide (3 ≤ a ∧ a ≤ 6)) := askS a
def InsP (a b c d : Int) : Prop := (1 ≤ a ∧ a ≤ 8) ∧ (0 ≤ b ∧ b ≤ 4294967295) ∧ (0 ≤ c ∧ c ≤ 15) ∧ (0 ≤ d ∧ d ≤ 15) ∧ ((3 ≤ a ∧ a ≤ 6) ∨ (c = 0 ∧ d = 0)) ∧ (a = 1 → b < 8) ∧ (a = 7 → b < 400)
instance (a b c d : Int) : Decidable (InsP a b c d) := by unfold InsP; infer_instance
theorem okS (k : Nat) (hk : 2 ≤ k) (a b c d : Int) : spec_InsOk.f k a b c d = some (decide (InsP a b c d)) := by
 obtain ⟨k, rfl⟩ : ∃ m, k = m + 2 := ⟨k - 2, by omega⟩
 have e : ∀ x : Bool, (x = true ↔ InsP a b c d) → some x = some (decide (InsP a b c d)) := fun x h => congrArg some (by rw [Bool.eq_iff_iff, h]; simp)
 unfold spec_InsOk.f
 simp only [inS, halfS, askS, spec_InsOk.j0, spec_InsOk.j1, Option.bind_some, decide_eq_true_eq, Bool.not_eq_true', decide_eq_false_iff_not]
 repeat' split
 all_goals (refine e _ ?_; clear e; unfold InsP; (try simp only [Bool.false_eq_true, bne_iff_ne, ne_eq, decide_eq_true_eq, false_iff, true_iff, Classical.not_not] at *))
 all_goals (first | contradiction | omega)
theorem okI (k : Nat) (hk : 2 ≤ k) (a b c d : Int) : impl_InsOk.f k a b c d = some (decide (InsP a b c d)) := by
 obtain ⟨k, rfl⟩ : ∃ m, k = m + 2 := ⟨k - 2, by omega⟩
 have e : ∀ x : Bool, (x = true ↔ InsP a b c d) → some x = some (decide (InsP a b c d)) := fun x h => congrArg some (by rw [Bool.eq_iff_iff, h]; simp)
 unfold impl_InsOk.f
 simp only [inI, halfI, askI, impl_InsOk.j0, Option.bind_some, decide_eq_true_eq, bne_iff_ne]
 repeat' split
 all_goals (refine e _ ?_; clear e; unfold InsP; (try simp only [Bool.false_eq_true, bne_iff_ne, ne_eq, decide_eq_true_eq, false_iff, true_iff, Classical.not_not] at *))
 all_goals (first | contradiction | omega)
/-- Where a word leads at the farthest. -/
def farP (x : S93) (i : Int) : Int := if 3 ≤ x.f0 ∧ x.f0 ≤ 6 then i + 1 + mx x.f2 x.f3 else if x.f0 = 7 then i + 1 + x.f1 else i
/-- A right word at a place, that leads inside. -/
def AtP (l : List S93) (j : Nat) (h : j < l.length) : Prop := InsP l[j].f0 l[j].f1 l[j].f2 l[j].f3 ∧ farP l[j] j < l.length
/-- A right program. -/
def ProgP (l : List S93) : Prop := (1 ≤ l.length ∧ l.length ≤ 400) ∧ (∀ h : 0 < l.length, (l[l.length - 1]'(by omega)).f0 = 8) ∧ ∀ j (h : j < l.length), AtP l j h
/-- The same, as the reference asks it. -/
def AtS (l : List S93) (j : Nat) (h : j < l.length) : Prop := InsP l[j].f0 l[j].f1 l[j].f2 l[j].f3 ∧ (l[j].f0 = 8 ∨ (j : Int) + 1 + (if l[j].f0 = 7 then l[j].f1 else if l[j].f2 > l[j].f3 then l[j].f2 else l[j].f3) < l.length)
theorem l07 (a b c d : Int) : spec_l07Far.f a b c d = some (if a = 7 then b else if c > d then c else d) := by
 unfold spec_l07Far.f
 split
 ·rfl
 ·split <;> rfl
theorem chkS_l0 (l : List S93) (h0 : 0 < l.length) (hn : l.length ≤ 400) : ∀ (d i : Nat), i + d = l.length → ∃ b, (∀ k, d + 3 ≤ k → spec_CheckProgram.l0 k l (i : Int) = some b) ∧ (b = true ↔ (∀ j (h : j < l.length), i ≤ j → AtS l j h) ∧ (l[l.length - 1]'(by omega)).f0 = 8)
 | 0, i, hi => by
  have e1 : wrap64 ((l.length : Int) - 1) = ((l.length - 1 : Nat) : Int) := by rw [w64 (by omega) (by omega)]; omega
  have hr : rd_T93 l ((l.length - 1 : Nat) : Int) = l[l.length - 1]'(by omega) := rd_nat93 l _ (by omega)
  refine ⟨(l[l.length - 1]'(by omega)).f0 == 8, fun k hk => ?_, ?_⟩
  ·obtain ⟨k, rfl⟩ : ∃ m, k = m + 1 := ⟨k - 1, by omega⟩
   simp only [spec_CheckProgram.l0]
   rw [if_neg (by omega), e1, if_pos (by omega), if_pos (by omega), hr]
  ·simp only [beq_iff_eq]
   exact ⟨fun h => ⟨fun j h1 h2 => by omega, h⟩, fun h => h.2⟩
 | d + 1, i, hi => by
  have hlt : i < l.length := by omega
  obtain ⟨b, hb, hbi⟩ := chkS_l0 l h0 hn d (i + 1) (by omega)
  have step : ∀ k, spec_CheckProgram.l0 (k + 1) l (i : Int) = ((spec_InsOk.f k l[i].f0 l[i].f1 l[i].f2 l[i].f3).bind fun t => if t = true then (if l[i].f0 = 8 then spec_CheckProgram.l0 k l ((i + 1 : Nat) : Int) else ((spec_l07Far.f l[i].f0 l[i].f1 l[i].f2 l[i].f3).bind fun u => if wrap64 (((i + 1 : Nat) : Int) + u) ≥ (l.length : Int) then some false else spec_CheckProgram.l0 k l ((i + 1 : Nat) : Int))) else some false) := by
   intro k
   simp only [spec_CheckProgram.l0]
   rw [if_pos (by omega), if_pos (by omega), rd_nat93 l i hlt, wsucc hlt (by omega)]
  by_cases hA : AtS l i hlt
  ·refine ⟨b, fun k hk => ?_, ?_⟩
   ·obtain ⟨k, rfl⟩ : ∃ m, k = m + 1 := ⟨k - 1, by omega⟩
    obtain ⟨h1, h2⟩ := hA
    rw [step, okS k (by omega), l07]
    simp only [Option.bind_some, decide_eq_true_eq]
    rw [if_pos h1]
    split
    ·exact hb k (by omega)
    ·rename_i h8
     have h3 := h2.resolve_left h8
     unfold InsP at h1
     rw [if_neg (by rw [w64 (by split <;> (try split) <;> omega) (by split <;> (try split) <;> omega)]; omega)]
     exact hb k (by omega)
   ·rw [hbi]
    refine ⟨fun h => ⟨fun j hj hij => ?_, h.2⟩, fun h => ⟨fun j hj hij => h.1 j hj (by omega), h.2⟩⟩
    rcases Nat.lt_or_ge i j with h3 | h3
    ·exact h.1 j hj (by omega)
    ·have : i = j := by omega
     subst this
     exact hA
  ·refine ⟨false, fun k hk => ?_, ⟨(fun h => by cases h), fun h => absurd (h.1 i hlt (Nat.le_refl _)) hA⟩⟩
   obtain ⟨k, rfl⟩ : ∃ m, k = m + 1 := ⟨k - 1, by omega⟩
   rw [step, okS k (by omega), l07]
   simp only [Option.bind_some, decide_eq_true_eq]
   split
   ·rename_i h1
    have h8 : ¬ l[i].f0 = 8 := fun h => hA ⟨h1, .inl h⟩
    have h3 : ¬ (i : Int) + 1 + (if l[i].f0 = 7 then l[i].f1 else if l[i].f2 > l[i].f3 then l[i].f2 else l[i].f3) < l.length := fun h => hA ⟨h1, .inr h⟩
    unfold InsP at h1
    rw [if_neg h8, if_pos (by rw [w64 (by split <;> (try split) <;> omega) (by split <;> (try split) <;> omega)]; omega)]
   ·rfl
theorem chkS (l : List S93) : ∃ b, (∀ k, l.length + 4 ≤ k → spec_CheckProgram.f k l = some b) ∧ (b = true ↔ ProgP l) := by
 by_cases h1 : 1 ≤ l.length ∧ l.length ≤ 400
 ·obtain ⟨b, hb, hbi⟩ := chkS_l0 l (by omega) h1.2 l.length 0 (by omega)
  refine ⟨b, fun k hk => ?_, ?_⟩
  ·unfold spec_CheckProgram.f
   rw [inS]
   simp only [Option.bind_some, decide_eq_true_eq]
   rw [if_pos (by omega)]
   exact hb k (by omega)
  ·rw [hbi]
   have key : (l[l.length - 1]'(by omega)).f0 = 8 → ∀ j (h : j < l.length), (AtS l j h ↔ AtP l j h) := by
    intro h8 j hj
    unfold AtS AtP farP
    refine and_congr_right fun hI => ?_
    have hl : j + 1 < l.length ∨ l[j].f0 = 8 := by
     rcases Nat.lt_or_ge (j + 1) l.length with h | h
     ·exact .inl h
     ·have : j = l.length - 1 := by omega
      subst this
      exact .inr h8
    unfold InsP at hI
    unfold mx
    constructor
    · intro h
      split
      · rcases h with h | h
        · omega
        · rw [if_neg (by omega)] at h
          split <;> (split at h <;> omega)
      · split
        · rename_i h7
          rcases h with h | h
          · omega
          · rw [if_pos h7] at h
            omega
        · omega
    · intro h
      rcases hl with hl | hl
      · by_cases h9 : l[j].f0 = 8
        · exact .inl h9
        · right
          by_cases h7 : l[j].f0 = 7
          · rw [if_pos h7]
            rw [if_neg (by omega), if_pos h7] at h
            omega
          · rw [if_neg h7]
            by_cases ha : 3 ≤ l[j].f0 ∧ l[j].f0 ≤ 6
            · rw [if_pos ha] at h
              split <;> (split at h <;> omega)
            · split <;> omega
      · exact .inl hl
   refine ⟨fun h => ⟨h1, fun _ => h.2, fun j hj => (key h.2 j hj).1 (h.1 j hj (by omega))⟩, fun h => ⟨fun j hj _ => (key (h.2.1 (by omega)) j hj).2 (h.2.2 j hj), h.2.1 (by omega)⟩⟩
 ·refine ⟨false, fun k hk => ?_, ⟨(fun h => by cases h), fun h => absurd h.1 h1⟩⟩
  unfold spec_CheckProgram.f
  rw [inS]
  simp only [Option.bind_some, decide_eq_true_eq]
  rw [if_neg (by omega)]
theorem nrd_T95 (l : List S95) (i : Nat) (h : i < l.length) : rd_T95 l (i : Int) = l[i] := getD_lt _ h
theorem rd_nat95 (l : List S95) (i : Nat) (h : i < l.length) : rd_T95 l (i : Int) = l[i] := getD_lt _ h
/-- The first place from an index on. -/
def Fst (Q : Nat → Prop) (n i : Nat) (v : Int) : Prop := (∃ j, i ≤ j ∧ j < n ∧ Q j ∧ v = (j : Int) ∧ ∀ m, i ≤ m → m < j → ¬ Q m) ∨ (v = -1 ∧ ∀ m, i ≤ m → m < n → ¬ Q m)
def PZ (x : S95) : Prop := x.f1.f0 = 0 ∧ x.f1.f1 = 0 ∧ x.f1.f2 = 0 ∧ x.f1.f3 = 0
instance (x : S95) : Decidable (PZ x) := by unfold PZ; infer_instance
def QS (L : List S95) (s : List UInt8) (j : Nat) : Prop := ∃ h : j < L.length, PZ L[j] ∧ L[j].f0.toList = s
def QI (L : List S95) (s : List UInt8) (j : Nat) : Prop := ∃ h : j < L.length, L[j].f1.f0 = 0 ∧ L[j].f0.toList = s
theorem Fst.here {Q : Nat → Prop} {n i : Nat} (h : i < n) (hq : Q i) : Fst Q n i (i : Int) := .inl ⟨i, Nat.le_refl _, h, hq, rfl, fun m h1 h2 => by omega⟩
theorem Fst.next {Q : Nat → Prop} {n i : Nat} {v : Int} (hq : ¬ Q i) (h : Fst Q n (i + 1) v) : Fst Q n i v := by
  rcases h with ⟨j, h1, h2, h3, h4, h5⟩ | ⟨h1, h2⟩
  · refine .inl ⟨j, by omega, h2, h3, h4, fun m h6 h7 => ?_⟩
    rcases Nat.lt_or_ge i m with h8 | h8
    · exact h5 m h8 h7
    · have : m = i := by omega
      subst this
      exact hq
  · refine .inr ⟨h1, fun m h6 h7 => ?_⟩
    rcases Nat.lt_or_ge i m with h8 | h8
    · exact h2 m h8 h7
    · have : m = i := by omega
      subst this
      exact hq
theorem atI_l0 (L : List S95) (s : ByteArray) (hn : L.length ≤ 4611686018427387904) : ∀ d i, i + d = L.length → ∃ v, (∀ k, d < k → impl_placeOf.l0 k L s (i : Int) = some v) ∧ Fst (QI L s.toList) L.length i v
  | 0, i, hi => by
    refine ⟨-1, fun k hk => ?_, .inr ⟨rfl, fun m h1 h2 => by omega⟩⟩
    obtain ⟨k, rfl⟩ : ∃ m, k = m + 1 := ⟨k - 1, by omega⟩
    simp only [impl_placeOf.l0]
    rw [if_neg (by omega)]
  | d + 1, i, hi => by
    have hlt : i < L.length := by omega
    by_cases hq : QI L s.toList i
    · refine ⟨i, fun k hk => ?_, .here hlt hq⟩
      obtain ⟨k, rfl⟩ : ∃ m, k = m + 1 := ⟨k - 1, by omega⟩
      obtain ⟨_, h1, h2⟩ := hq
      simp only [impl_placeOf.l0, impl_Line_isPlace.f]
      rw [if_pos (by omega), if_pos (by omega), rd_nat95 L i hlt]
      simp only [Option.bind_some]
      rw [if_pos (by simp [h1]), if_pos h2]
    · obtain ⟨v, h1, h2⟩ := atI_l0 L s hn d (i + 1) (by omega)
      refine ⟨v, fun k hk => ?_, h2.next hq⟩
      obtain ⟨k, rfl⟩ : ∃ m, k = m + 1 := ⟨k - 1, by omega⟩
      simp only [impl_placeOf.l0, impl_Line_isPlace.f]
      rw [if_pos (by omega), if_pos (by omega), rd_nat95 L i hlt, wsucc hlt (by omega)]
      simp only [Option.bind_some]
      by_cases hp : L[i].f1.f0 = 0
      · rw [if_pos (by simp [hp]), if_neg fun h => hq ⟨hlt, hp, h⟩]
        exact h1 k (by omega)
      · rw [if_neg (by simp [hp])]
        exact h1 k (by omega)
theorem atI (L : List S95) (s : ByteArray) (hn : L.length ≤ 1048576) (a : Nat) (ha : a < L.length) : ∃ v, (∀ k, L.length < k → impl_placeOf.f k L s (a : Int) = some v) ∧ Fst (QI L s.toList) L.length (a + 1) v := by
  obtain ⟨v, h1, h2⟩ := atI_l0 L s (by omega) (L.length - (a + 1)) (a + 1) (by omega)
  refine ⟨v, fun k hk => ?_, h2⟩
  unfold impl_placeOf.f
  rw [wsucc ha (by omega)]
  exact h1 k (by omega)
theorem atI0 (L : List S95) (s : ByteArray) (hn : L.length ≤ 1048576) : ∃ v, (∀ k, L.length < k → impl_placeOf.f k L s (-1) = some v) ∧ Fst (QI L s.toList) L.length 0 v := by
  obtain ⟨v, h1, h2⟩ := atI_l0 L s (by omega) L.length 0 (by omega)
  refine ⟨v, fun k hk => ?_, h2⟩
  unfold impl_placeOf.f
  rw [show wrap64 (-1 + 1) = ((0 : Nat) : Int) from w64 (by omega) (by omega)]
  exact h1 k hk
def SL (x : S95) (i v0 v2 v3 : Int) : Prop :=
  (PZ x ∧ (1 ≤ (x.f0.size : Int) ∧ (x.f0.size : Int) ≤ 12) ∧ x.f2.toList = [] ∧ x.f3.toList = [] ∧ v0 = i) ∨
  (¬ PZ x ∧ x.f0.toList = [] ∧ x.f1.f2 = 0 ∧ x.f1.f3 = 0 ∧ (x.f1.f0 = 7 → x.f1.f1 = 0) ∧ InsP x.f1.f0 x.f1.f1 x.f1.f2 x.f1.f3 ∧
    ((x.f1.f0 = 7 ∧ x.f3.toList = [] ∧ v2 > i) ∨ ((3 ≤ x.f1.f0 ∧ x.f1.f0 ≤ 6) ∧ v2 > i ∧ v3 > i) ∨ (¬ x.f1.f0 = 7 ∧ ¬ (3 ≤ x.f1.f0 ∧ x.f1.f0 ≤ 6) ∧ x.f2.toList = [] ∧ x.f3.toList = [])))
instance (x : S95) (i v0 v2 v3 : Int) : Decidable (SL x i v0 v2 v3) := by unfold SL; infer_instance
def IL (x : S95) (i w0 w2 w3 : Int) : Prop :=
  (PZ x ∧ (1 ≤ (x.f0.size : Int) ∧ (x.f0.size : Int) ≤ 12) ∧ x.f2.toList = [] ∧ x.f3.toList = [] ∧ w0 = i) ∨
  (¬ x.f1.f0 = 0 ∧ x.f0.toList = [] ∧ x.f1.f2 = 0 ∧ x.f1.f3 = 0 ∧ (x.f1.f0 = 7 → x.f1.f1 = 0) ∧ InsP x.f1.f0 x.f1.f1 x.f1.f2 x.f1.f3 ∧
    ((x.f1.f0 = 7 ∧ x.f3.toList = [] ∧ w2 ≥ 0) ∨ ((3 ≤ x.f1.f0 ∧ x.f1.f0 ≤ 6) ∧ w2 ≥ 0 ∧ w3 ≥ 0) ∨ (¬ x.f1.f0 = 7 ∧ ¬ (3 ≤ x.f1.f0 ∧ x.f1.f0 ≤ 6) ∧ x.f2.toList = [] ∧ x.f3.toList = [])))
instance (x : S95) (i v0 v2 v3 : Int) : Decidable (IL x i v0 v2 v3) := by unfold IL; infer_instance
theorem eqb {b : Bool} {P : Prop} [Decidable P] (h : b = true ↔ P) : some b = some (decide P) := congrArg some (by rw [Bool.eq_iff_iff, h]; simp)
set_option maxHeartbeats 1000000 in
theorem lineI (L : List S95) (i : Nat) (hi : i < L.length) (k : Nat) (hk : 5 ≤ k) (v0 v2 v3 : Int) (h0 : ∀ m, k ≤ m + 1 → impl_placeOf.f m L L[i].f0 (-1) = some v0) (h2 : ∀ m, k ≤ m + 1 → impl_placeOf.f m L L[i].f2 (i : Int) = some v2) (h3 : ∀ m, k ≤ m + 1 → impl_placeOf.f m L L[i].f3 (i : Int) = some v3) :
    impl_lineOk.f k L (i : Int) = some (decide (IL L[i] i v0 v2 v3)) := by
  obtain ⟨k, rfl⟩ : ∃ m, k = m + 1 := ⟨k - 1, by omega⟩
  simp only [impl_lineOk.f, impl_Line_isPlace.f]
  rw [if_pos (by omega), if_pos (by omega), rd_nat95 L i hi]
  simp only [Option.bind_some, inI, okI _ (show 2 ≤ k + 1 by omega), h0 _ (Nat.le_succ _), impl_lineOk.j0, askI, h2 _ (Nat.le_refl _), h3 _ (Nat.le_refl _), decide_eq_true_eq]
  have eP : ((L[i].f1.f0 == 0 && (L[i].f1.f1 == 0 && (L[i].f1.f2 == 0 && (L[i].f1.f3 == 0)))) = true) = PZ L[i] := by
    unfold PZ
    simp
  simp only [eP]
  generalize L[i] = x
  by_cases hp : x.f1.f0 = 0
  · rw [if_pos (by simp [hp])]
    repeat' split
    all_goals (refine eqb ?_; unfold IL; grind [PZ])
  · rw [if_neg (by simp [hp])]
    repeat' split
    all_goals (refine eqb ?_; unfold IL; grind [PZ])
theorem Fst.uniq {Q Q' : Nat → Prop} {n i : Nat} {v v' : Int} (h : Fst Q n i v) (h' : Fst Q' n i v') (e : ∀ m, m < n → (Q m ↔ Q' m)) : v = v' := by
  rcases h with ⟨j, h1, h2, h3, h4, h5⟩ | ⟨h1, h2⟩
  · rcases h' with ⟨j', g1, g2, g3, g4, g5⟩ | ⟨g1, g2⟩
    · have : j = j' := by
        rcases Nat.lt_trichotomy j j' with h | h | h
        · exact absurd ((e j h2).1 h3) (g5 j h1 h)
        · exact h
        · exact absurd ((e j' g2).2 g3) (h5 j' g1 h)
      omega
    · exact absurd ((e j h2).1 h3) (g2 j h1 h2)
  · rcases h' with ⟨j', g1, g2, g3, g4, g5⟩ | ⟨g1, g2⟩
    · exact absurd ((e j' g2).2 g3) (h2 j' g1 g2)
    · omega
theorem allLoop {F : Nat → Int → Option Bool} {n : Nat} {P : Nat → Prop} (h0 : ∀ k, F (k + 1) (n : Int) = some true)
    (h1 : ∀ i : Nat, i < n → ∃ b, (b = true ↔ P i) ∧ ∃ K, ∀ k, K ≤ k → F (k + 1) (i : Int) = if b = true then F k ((i + 1 : Nat) : Int) else some false) : ∃ b, Evt (fun k => F k 0) b ∧ (b = true ↔ ∀ i, i < n → P i) := by
  have h := down (T := fun i => ∃ b, Evt (fun k => F k (i : Int)) b ∧ (b = true ↔ ∀ j, i ≤ j → j < n → P j)) (n := n) ?_ ?_ n 0 (by omega)
  · obtain ⟨b, h2, h3⟩ := h
    exact ⟨b, h2, h3.trans ⟨fun h j hj => h j (Nat.zero_le _) hj, fun h j _ hj => h j hj⟩⟩
  · exact ⟨true, .succ (.const fun k => h0 k), by simp; intro j h2 h3; omega⟩
  · intro i hi ⟨b, ⟨K, hK⟩, hb⟩
    obtain ⟨b', hb', K', hK'⟩ := h1 i hi
    cases b' with
    | true =>
      refine ⟨b, .succ ⟨K + K', fun k hk => ?_⟩, hb.trans ⟨fun h j h2 h3 => ?_, fun h j h2 h3 => h j (by omega) h3⟩⟩
      · show F (k + 1) (i : Int) = _
        rw [hK' k (by omega), if_pos rfl]
        exact hK k (by omega)
      · rcases Nat.lt_or_ge i j with h4 | h4
        · exact h j h4 h3
        · have : i = j := by omega
          subst this
          exact hb'.1 rfl
    | false =>
      refine ⟨false, .succ ⟨K', fun k hk => ?_⟩, ⟨(fun h => by cases h), fun h => absurd (hb'.2 (h i (Nat.le_refl _) hi)) (by simp)⟩⟩
      show F (k + 1) (i : Int) = _
      rw [hK' k (by omega), if_neg (by simp)]
def SAll (L : List S95) : Prop := ∀ j (h : j < L.length), ∀ v0 v2 v3, Fst (QS L L[j].f0.toList) L.length 0 v0 → Fst (QS L L[j].f2.toList) L.length 0 v2 → Fst (QS L L[j].f3.toList) L.length 0 v3 → SL L[j] j v0 v2 v3
def IAll (L : List S95) : Prop := ∀ j (h : j < L.length), ∀ v0 v2 v3, Fst (QI L L[j].f0.toList) L.length 0 v0 → Fst (QI L L[j].f2.toList) L.length (j + 1) v2 → Fst (QI L L[j].f3.toList) L.length (j + 1) v3 → IL L[j] j v0 v2 v3
theorem iAll (L : List S95) (hn : L.length ≤ 1048576) : ∃ b, Evt (fun k => impl_LinesOk.l0 k L (L.length : Int) 0) b ∧ (b = true ↔ IAll L) := by
  obtain ⟨b, h1, h2⟩ := allLoop (F := fun k i => impl_LinesOk.l0 k L (L.length : Int) i) (n := L.length) (P := fun j => ∀ h : j < L.length, ∀ v0 v2 v3, Fst (QI L L[j].f0.toList) L.length 0 v0 → Fst (QI L L[j].f2.toList) L.length (j + 1) v2 → Fst (QI L L[j].f3.toList) L.length (j + 1) v3 → IL L[j] j v0 v2 v3)
    (fun k => by simp only [impl_LinesOk.l0]; rw [if_neg (by omega)]) (fun i hi => by
      obtain ⟨v0, a0, b0⟩ := atI0 L L[i].f0 hn
      obtain ⟨v2, a2, b2⟩ := atI L L[i].f2 hn i hi
      obtain ⟨v3, a3, b3⟩ := atI L L[i].f3 hn i hi
      refine ⟨decide (IL L[i] i v0 v2 v3), ?_, L.length + 10, fun k hk => ?_⟩
      · rw [decide_eq_true_eq]
        refine ⟨fun h _ u0 u2 u3 c0 c2 c3 => ?_, fun h => h hi v0 v2 v3 b0 b2 b3⟩
        rw [← b0.uniq c0 (fun _ _ => .rfl), ← b2.uniq c2 (fun _ _ => .rfl), ← b3.uniq c3 (fun _ _ => .rfl)]
        exact h
      · simp only [impl_LinesOk.l0]
        rw [if_pos (by omega), lineI L i hi k (by omega) v0 v2 v3 (fun m hm => a0 m (by omega)) (fun m hm => a2 m (by omega)) (fun m hm => a3 m (by omega)), wsucc hi (by omega)]
        rfl)
  exact ⟨b, h1, h2.trans ⟨fun h j hj => h j hj hj, fun h j hj _ => h j hj⟩⟩
theorem Fst.ex (Q : Nat → Prop) (n : Nat) : ∀ d i, i + d = n → ∃ v, Fst Q n i v
  | 0, i, h => ⟨-1, .inr ⟨rfl, fun m h1 h2 => by omega⟩⟩
  | d + 1, i, h => by
    by_cases hq : Q i
    · exact ⟨i, .here (by omega) hq⟩
    · obtain ⟨v, hv⟩ := Fst.ex Q n d (i + 1) (by omega)
      exact ⟨v, hv.next hq⟩
theorem fstS (L : List S95) (hn : L.length ≤ 1048576) (s : ByteArray) : ∃ v, Fst (QS L s.toList) L.length 0 v := Fst.ex _ _ L.length 0 (by omega)
theorem fstI (L : List S95) (hn : L.length ≤ 1048576) (s : ByteArray) (i : Nat) (hi : i ≤ L.length) : ∃ v, Fst (QI L s.toList) L.length i v := Fst.ex _ _ (L.length - i) i (by omega)
theorem qs_qi {L : List S95} (H : ∀ j (h : j < L.length), L[j].f1.f0 = 0 → PZ L[j]) (s : List UInt8) (m : Nat) : QS L s m ↔ QI L s m :=
  ⟨fun ⟨h, h1, h2⟩ => ⟨h, h1.1, h2⟩, fun ⟨h, h1, h2⟩ => ⟨h, H m h h1, h2⟩⟩
theorem all_iff (L : List S95) (hn : L.length ≤ 1048576) : SAll L ↔ IAll L := by
  constructor
  · intro hS
    have H : ∀ j (h : j < L.length), L[j].f1.f0 = 0 → PZ L[j] := fun j h e => by
      obtain ⟨v0, h0⟩ := fstS L hn L[j].f0
      obtain ⟨v2, h2⟩ := fstS L hn L[j].f2
      obtain ⟨v3, h3⟩ := fstS L hn L[j].f3
      rcases hS j h v0 v2 v3 h0 h2 h3 with h4 | h4
      · exact h4.1
      · have h5 := h4.2.2.2.2.2.1
        unfold InsP at h5
        omega
    have up : ∀ (s : ByteArray) (j : Nat) (v w : Int), Fst (QS L s.toList) L.length 0 v → Fst (QI L s.toList) L.length (j + 1) w → v > j → w ≥ 0 := fun s j v w h1 h2 h3 => by
      rcases h1 with ⟨m, _, m2, m3, m4, _⟩ | ⟨m1, _⟩
      · rcases h2 with ⟨u, _, _, _, u4, _⟩ | ⟨_, u2⟩
        · omega
        · exact absurd ((qs_qi H _ m).1 m3) (u2 m (by omega) m2)
      · omega
    intro j h w0 w2 w3 g0 g2 g3
    obtain ⟨v0, h0⟩ := fstS L hn L[j].f0
    obtain ⟨v2, h2⟩ := fstS L hn L[j].f2
    obtain ⟨v3, h3⟩ := fstS L hn L[j].f3
    have e0 := h0.uniq g0 (fun m _ => qs_qi H _ m)
    have u2 := up _ j v2 w2 h2 g2
    have u3 := up _ j v3 w3 h3 g3
    rcases hS j h v0 v2 v3 h0 h2 h3 with ⟨a, b, c, d, e⟩ | ⟨a, b, c, d, e, f, g⟩
    · exact .inl ⟨a, b, c, d, by omega⟩
    · refine .inr ⟨by unfold InsP at f; omega, b, c, d, e, f, ?_⟩
      rcases g with ⟨g1, g2, g3⟩ | ⟨g1, g2, g3⟩ | g
      · exact .inl ⟨g1, g2, u2 g3⟩
      · exact .inr (.inl ⟨g1, u2 g2, u3 g3⟩)
      · exact .inr (.inr g)
  · intro hI
    have hW : ∀ j (h : j < L.length), ∃ w0 w2 w3, Fst (QI L L[j].f0.toList) L.length 0 w0 ∧ Fst (QI L L[j].f2.toList) L.length (j + 1) w2 ∧ Fst (QI L L[j].f3.toList) L.length (j + 1) w3 ∧ IL L[j] j w0 w2 w3 := fun j h => by
      obtain ⟨v0, h0⟩ := fstI L hn L[j].f0 0 (by omega)
      obtain ⟨v2, h2⟩ := fstI L hn L[j].f2 (j + 1) h
      obtain ⟨v3, h3⟩ := fstI L hn L[j].f3 (j + 1) h
      exact ⟨v0, v2, v3, h0, h2, h3, hI j h v0 v2 v3 h0 h2 h3⟩
    have H : ∀ j (h : j < L.length), L[j].f1.f0 = 0 → PZ L[j] := fun j h e => by
      obtain ⟨w0, w2, w3, _, _, _, h4⟩ := hW j h
      rcases h4 with h4 | h4
      · exact h4.1
      · exact absurd e h4.1
    have dn : ∀ (s : ByteArray) (j : Nat) (v w : Int), Fst (QS L s.toList) L.length 0 v → Fst (QI L s.toList) L.length (j + 1) w → w ≥ 0 → v > j := fun s j v w h1 h2 h3 => by
      rcases h2 with ⟨m, m1, m2, m3, m4, _⟩ | ⟨m1, _⟩
      · obtain ⟨w0, w2, w3, g0, _, _, g4⟩ := hW m m2
        obtain ⟨_, m5, m6⟩ := m3
        have hz := H m m2 m5
        have e0 : w0 = m := by
          rcases g4 with g4 | g4
          · exact g4.2.2.2.2
          · exact absurd m5 g4.1
        rw [m6] at g0
        have := h1.uniq g0 (fun m _ => qs_qi H _ m)
        omega
      · omega
    intro j h v0 v2 v3 h0 h2 h3
    obtain ⟨w0, w2, w3, g0, g2, g3, hl⟩ := hW j h
    have e0 := h0.uniq g0 (fun m _ => qs_qi H _ m)
    have u2 := dn _ j v2 w2 h2 g2
    have u3 := dn _ j v3 w3 h3 g3
    rcases hl with ⟨a, b, c, d, e⟩ | ⟨a, b, c, d, e, f, g⟩
    · exact .inl ⟨a, b, c, d, by omega⟩
    · refine .inr ⟨fun h => a h.1, b, c, d, e, f, ?_⟩
      rcases g with ⟨g1, g2, g3⟩ | ⟨g1, g2, g3⟩ | g
      · exact .inl ⟨g1, g2, u2 g3⟩
      · exact .inr (.inl ⟨g1, u2 g2, u3 g3⟩)
      · exact .inr (.inr g)
/-- Sizes before an index, summed up. -/
def pre (o : List Int) (i : Nat) : Int := (o.take i).sum
theorem pre_succ {o : List Int} {i : Nat} (h : i < o.length) : pre o (i + 1) = pre o i + o[i] := by
  unfold pre
  rw [List.take_succ_eq_append_getElem h, List.sum_append]
  simp
theorem pre_bound {o : List Int} (ho : ∀ j (h : j < o.length), 0 ≤ o[j] ∧ o[j] ≤ 3) : ∀ i, i ≤ o.length → 0 ≤ pre o i ∧ pre o i ≤ 3 * i
  | 0, _ => by simp [pre]
  | i + 1, h => by
    have := pre_bound ho i (by omega)
    have := ho i (by omega)
    rw [pre_succ (by omega)]
    omega
theorem nrdI (l : List Int) (i : Nat) (h : i < l.length) : rd l (i : Int) = l[i] := getD_lt _ h
def ones : List Int → Nat
  | [] => 0
  | x :: l => (if x = 1 then 1 else 0) + ones l
theorem ones_le : ∀ l : List Int, ones l ≤ l.length
  | [] => Nat.le_refl _
  | x :: l => by
    have := ones_le l
    simp only [ones, List.length_cons]
    split <;> omega
theorem ones_set : ∀ (l : List Int) (i : Nat) (h : i < l.length), l[i] = 1 → ones (l.set i 3) + 1 = ones l
  | x :: l, 0, h, e => by
    simp only [List.getElem_cons_zero] at e
    subst e
    simp [ones]
    omega
  | x :: l, i + 1, h, e => by
    simp only [List.getElem_cons_succ] at e
    have := ones_set l i (by simpa using h) e
    simp only [List.set_cons_succ, ones]
    omega
/-- How much stands between. -/
theorem betw (o : List Int) (hn : o.length ≤ 600) (ho : ∀ j (h : j < o.length), 0 ≤ o[j] ∧ o[j] ≤ 3) (y : Nat) (hy : y ≤ o.length) : ∀ (d i : Nat) (t : Int), i + d = y → 0 ≤ t → t ≤ 3 * i → Evt (fun k => impl_between.l0 k o t (y : Int) (i : Int)) (t + (pre o y - pre o i)) := by
  intro d
  induction d with
  | zero =>
    intro i t h _ _
    have : i = y := by omega
    subst this
    refine .succ (.const fun k => ?_)
    simp only [impl_between.l0]
    rw [if_neg (by omega)]
    simp
  | succ d ih =>
    intro i t h h0 h3
    have hi : i < o.length := by omega
    have b2 := ho i hi
    obtain ⟨K, hK⟩ := ih (i + 1) (t + o[i]) (by omega) (by omega) (by omega)
    refine .succ ⟨K, fun k hk => ?_⟩
    simp only [impl_between.l0]
    rw [if_pos (by omega), if_pos (by omega), if_pos (by omega), nrdI o i hi, w64 (x := t + o[i]) (by omega) (by omega), wsucc hi (by omega)]
    have := hK k hk
    dsimp only at this
    rw [this, pre_succ hi]
    refine congrArg some ?_
    omega
/-- Sizes that may stand for right lines. -/
def OkS (L : List S95) (o : List Int) : Prop := o.length = L.length ∧ (∀ j (h : j < o.length), 0 ≤ o[j] ∧ o[j] ≤ 3) ∧ (∀ j (h : j < o.length) (h' : j < L.length), 3 ≤ L[j].f1.f0 ∧ L[j].f1.f0 ≤ 6 → o[j] = 1 ∨ o[j] = 3) ∧ (∀ j (h : j < o.length) (h' : j < L.length), ¬ (3 ≤ L[j].f1.f0 ∧ L[j].f1.f0 ≤ 6) → o[j] = if L[j].f1.f0 = 0 then 0 else 1)
theorem OkS.set {L : List S95} {o : List Int} (h : OkS L o) (i : Nat) (hi : i < L.length) (hask : 3 ≤ L[i].f1.f0 ∧ L[i].f1.f0 ≤ 6) : OkS L (o.set i 3) := by
  obtain ⟨h1, h2, h3, h4⟩ := h
  refine ⟨by rw [List.length_set]; exact h1, fun j hj => ?_, fun j hj hj' ha => ?_, fun j hj hj' ha => ?_⟩
  · rw [List.length_set] at hj
    rw [List.getElem_set]
    split
    · omega
    · exact h2 j hj
  · rw [List.length_set] at hj
    rw [List.getElem_set]
    split
    · exact .inr rfl
    · exact h3 j hj hj' ha
  · rw [List.length_set] at hj
    rw [List.getElem_set]
    split
    · rename_i e
      subst e
      exact absurd hask ha
    · exact h4 j hj hj' ha
/-- The place that a way leads to. -/
def Way (L : List S95) (i : Nat) (s : ByteArray) (y : Nat) : Prop := i < y ∧ y < L.length ∧ QI L s.toList y ∧ Fst (QS L s.toList) L.length 0 (y : Int) ∧ Fst (QI L s.toList) L.length (i + 1) (y : Int) ∧ s.toList ≠ []
theorem Way.uniq {L : List S95} {i : Nat} {s : ByteArray} {y z : Nat} (h : Way L i s y) (h' : Way L i s z) : y = z := by
  have := h.2.2.2.1.uniq h'.2.2.2.1 (fun _ _ => .rfl)
  omega
/-- The ways that a line has. -/
def Has (x : S95) (s : ByteArray) : Prop := (x.f1.f0 = 7 ∧ s = x.f2) ∨ ((3 ≤ x.f1.f0 ∧ x.f1.f0 ≤ 6) ∧ (s = x.f2 ∨ s = x.f3))
theorem plz {L : List S95} (hn : L.length ≤ 1048576) (hI : IAll L) {j : Nat} (h : j < L.length) (e : L[j].f1.f0 = 0) : PZ L[j] := by
  obtain ⟨w0, h0⟩ := fstI L hn L[j].f0 0 (by omega)
  obtain ⟨w2, h2⟩ := fstI L hn L[j].f2 (j + 1) h
  obtain ⟨w3, h3⟩ := fstI L hn L[j].f3 (j + 1) h
  rcases hI j h w0 w2 w3 h0 h2 h3 with h4 | h4
  · exact h4.1
  · exact absurd e h4.1
theorem wayP {L : List S95} (hn : L.length ≤ 1048576) (hS : SAll L) (hI : IAll L) {i : Nat} (hi : i < L.length) (s : ByteArray) (hs : Has L[i] s) : ∃ y : Nat, Way L i s y := by
  have H : ∀ j (h : j < L.length), L[j].f1.f0 = 0 → PZ L[j] := fun j h e => plz hn hI h e
  obtain ⟨v, fv⟩ := fstS L hn s
  obtain ⟨w, fw⟩ := fstI L hn s (i + 1) hi
  have hgt : v > i := by
    obtain ⟨v0, f0⟩ := fstS L hn L[i].f0
    obtain ⟨v2, f2⟩ := fstS L hn L[i].f2
    obtain ⟨v3, f3⟩ := fstS L hn L[i].f3
    have hl := hS i hi v0 v2 v3 f0 f2 f3
    have hz : ¬ PZ L[i] := fun h => by unfold PZ at h; rcases hs with h1 | h1 <;> omega
    rcases hl with h | ⟨_, _, _, _, _, _, h⟩
    · exact absurd h.1 hz
    · rcases hs with ⟨h7, e⟩ | ⟨ha, e | e⟩
      · subst e
        rw [fv.uniq f2 (fun _ _ => .rfl)]
        rcases h with h | h | h
        · exact h.2.2
        · omega
        · exact absurd h7 h.1
      · subst e
        rw [fv.uniq f2 (fun _ _ => .rfl)]
        rcases h with h | h | h
        · omega
        · exact h.2.1
        · exact absurd ha h.2.1
      · subst e
        rw [fv.uniq f3 (fun _ _ => .rfl)]
        rcases h with h | h | h
        · omega
        · exact h.2.2
        · exact absurd ha h.2.1
  rcases fv with ⟨m, m1, m2, m3, m4, m5⟩ | ⟨m1, _⟩
  · have hwm : w = (m : Int) := by
      rcases fw with ⟨u, u1, u2, u3, u4, u5⟩ | ⟨_, u2⟩
      · have q1 : ¬ m < u := fun h => u5 m (by omega) h ((qs_qi H _ m).1 m3)
        have q2 : ¬ u < m := fun h => m5 u (Nat.zero_le _) h ((qs_qi H _ u).2 u3)
        omega
      · exact absurd ((qs_qi H _ m).1 m3) (u2 m (by omega) m2)
    refine ⟨m, by omega, m2, (qs_qi H _ m).1 m3, .inl ⟨m, m1, m2, m3, rfl, m5⟩, hwm ▸ fw, ?_⟩
    obtain ⟨_, p1, p2⟩ := m3
    obtain ⟨v0, f0⟩ := fstS L hn L[m].f0
    obtain ⟨v2, f2⟩ := fstS L hn L[m].f2
    obtain ⟨v3, f3⟩ := fstS L hn L[m].f3
    rcases hS m m2 v0 v2 v3 f0 f2 f3 with h | h
    · intro e
      rw [← p2] at e
      rw [ByteArray.toList_eq] at e
      have h5 : L[m].f0.data.size = 0 := by simpa using congrArg List.length e
      have h6 : L[m].f0.size = L[m].f0.data.size := rfl
      have := h.2.1
      omega
    · exact absurd p1 h.1
  · omega
/-- What a right line's word is. -/
theorem insR {L : List S95} (hn : L.length ≤ 1048576) (hI : IAll L) {i : Nat} (hi : i < L.length) (hp : ¬ L[i].f1.f0 = 0) : L[i].f1.f2 = 0 ∧ L[i].f1.f3 = 0 ∧ InsP L[i].f1.f0 L[i].f1.f1 L[i].f1.f2 L[i].f1.f3 := by
  obtain ⟨w0, h0⟩ := fstI L hn L[i].f0 0 (by omega)
  obtain ⟨w2, h2⟩ := fstI L hn L[i].f2 (i + 1) hi
  obtain ⟨w3, h3⟩ := fstI L hn L[i].f3 (i + 1) hi
  rcases hI i hi w0 w2 w3 h0 h2 h3 with h4 | h4
  · exact absurd h4.1.1 hp
  · exact ⟨h4.2.2.1, h4.2.2.2.1, h4.2.2.2.2.2.1⟩
/-- Every way of a line of one word passes over 15 words at most. -/
def Near (L : List S95) (o : List Int) (n : Nat) : Prop := ∀ i (h : i < L.length) (h' : i < o.length), i < n → (3 ≤ L[i].f1.f0 ∧ L[i].f1.f0 ≤ 6) → o[i] = 1 → ∀ s y, (s = L[i].f2 ∨ s = L[i].f3) → Way L i s y → pre o y - pre o (i + 1) ≤ 15
/-- The words of a line. -/
def Words (L : List S95) (o : List Int) (i : Nat) (h : i < L.length) (h' : i < o.length) (w : List S93) : Prop :=
  (L[i].f1.f0 = 0 ∧ w = []) ∨
  (L[i].f1.f0 = 7 ∧ ∃ y, Way L i L[i].f2 y ∧ w = [⟨7, pre o y - pre o (i + 1), 0, 0⟩]) ∨
  ((3 ≤ L[i].f1.f0 ∧ L[i].f1.f0 ≤ 6) ∧ ∃ y z, Way L i L[i].f2 y ∧ Way L i L[i].f3 z ∧ ((o[i] = 1 ∧ w = [⟨L[i].f1.f0, L[i].f1.f1, pre o y - pre o (i + 1), pre o z - pre o (i + 1)⟩]) ∨ (o[i] = 3 ∧ w = [⟨L[i].f1.f0, L[i].f1.f1, 0, 1⟩, ⟨7, pre o y - pre o (i + 1) + 1, 0, 0⟩, ⟨7, pre o z - pre o (i + 1), 0, 0⟩]))) ∨
  ((L[i].f1.f0 = 1 ∨ L[i].f1.f0 = 2 ∨ L[i].f1.f0 = 8) ∧ w = [⟨L[i].f1.f0, L[i].f1.f1, 0, 0⟩])
inductive Laid (L : List S95) (o : List Int) : Nat → List S93 → Prop
  | done : Laid L o L.length []
  | line (i : Nat) (h : i < L.length) (h' : i < o.length) (w r : List S93) : Words L o i h h' w → Laid L o (i + 1) r → Laid L o i (w ++ r)
theorem words_len {L : List S95} {o : List Int} (ho : OkS L o) {i : Nat} {h : i < L.length} {h' : i < o.length} {w : List S93} (hw : Words L o i h h' w) : (w.length : Int) = o[i] := by
  obtain ⟨_, _, oa, ok⟩ := ho
  rcases hw with ⟨a, rfl⟩ | ⟨a, y, _, rfl⟩ | ⟨a, y, z, _, _, ⟨b, rfl⟩ | ⟨b, rfl⟩⟩ | ⟨a, rfl⟩
  · rw [ok i h' h (by omega), if_pos a]; rfl
  · rw [ok i h' h (by omega), if_neg (by omega)]; rfl
  · rw [b]; rfl
  · rw [b]; rfl
  · rw [ok i h' h (by omega), if_neg (by omega)]; rfl
theorem laid_len {L : List S95} {o : List Int} (ho : OkS L o) {i : Nat} {r : List S93} (hl : Laid L o i r) : (r.length : Int) = pre o L.length - pre o i := by
  induction hl with
  | done => simp
  | line i h h' w r hw _ ih =>
    have := words_len ho hw
    rw [List.length_append, pre_succ h'] at *
    omega
theorem linesOkI (L : List S95) (hn : L.length ≤ 1048576) : ∃ b, Evt (fun k => impl_LinesOk.f k L) b ∧ (b = true ↔ (1 ≤ L.length ∧ L.length ≤ 600) ∧ IAll L ∧ ∃ h : L.length - 1 < L.length, L[L.length - 1].f1.f0 = 8) := by
  by_cases h1 : 1 ≤ (L.length : Int) ∧ (L.length : Int) ≤ 600
  · have e : wrap64 ((L.length : Int) - 1) = ((L.length - 1 : Nat) : Int) := by unfold wrap64; omega
    have hlt : L.length - 1 < L.length := by omega
    by_cases h8 : (L[L.length - 1].f1.f0) = 8
    · obtain ⟨b', ⟨K', hb'⟩, hbi'⟩ := iAll L hn
      refine ⟨b', .succ ⟨K' + 1, fun k hk => ?_⟩, hbi'.trans ⟨fun h => ⟨by omega, h, hlt, h8⟩, fun h => h.2.1⟩⟩
      simp only [impl_LinesOk.f, inI, Option.bind_some, decide_eq_true_eq]
      rw [if_pos h1, e, if_pos (by omega), if_pos (by omega), rd_nat95 L _ hlt, h8]
      simp only [impl_LinesOk.j0]
      rw [if_neg (by simp)]
      exact hb' k (by omega)
    · refine ⟨false, .succ (.const fun k => ?_), ⟨(fun h => by cases h), fun h => absurd h.2.2.2 h8⟩⟩
      simp only [impl_LinesOk.f, inI, Option.bind_some, decide_eq_true_eq]
      rw [if_pos h1, e, if_pos (by omega), if_pos (by omega), rd_nat95 L _ hlt]
      simp only [impl_LinesOk.j0]
      rw [if_pos (by simp [h8])]
  · refine ⟨false, .succ (.const fun k => ?_), ⟨(fun h => by cases h), fun h => by omega⟩⟩
    simp only [impl_LinesOk.f, inI, Option.bind_some, decide_eq_true_eq]
    rw [if_neg h1]
    simp only [impl_LinesOk.j0, if_true]
theorem placeW {L : List S95} (hn : L.length ≤ 1048576) {i y : Nat} (hi : i < L.length) {s : ByteArray} (h : Way L i s y) : ∀ k, L.length < k → impl_placeOf.f k L s (i : Int) = some (y : Int) := by
  obtain ⟨w, hw, fw⟩ := atI L s hn i hi
  rw [← fw.uniq h.2.2.2.2.1 (fun _ _ => .rfl)]
  exact hw
theorem betwW {L : List S95} (hn : L.length ≤ 600) {o : List Int} (ol : o.length = L.length) (o3 : ∀ j (h : j < o.length), 0 ≤ o[j] ∧ o[j] ≤ 3) {i y : Nat} (hi : i < L.length) {s : ByteArray} (h : Way L i s y) : Evt (fun k => impl_between.f k L o (i : Int) s) (pre o y - pre o (i + 1)) := by
  have h1 := h.1
  have h2 := h.2.1
  obtain ⟨K, hK⟩ := betw o (by omega) o3 y (by omega) (y - (i + 1)) (i + 1) 0 (by omega) (by omega) (by omega)
  refine ⟨K + L.length + 1, fun k hk => ?_⟩
  have g := hK k (by omega)
  simp only [impl_between.f, placeW (by omega) hi h k (by omega), Option.bind_some, wsucc hi (by omega)]
  dsimp only at g
  rw [g]
  exact congrArg some (by omega)
theorem roundI (L : List S95) (hn : L.length ≤ 600) (hS : SAll L) (hI : IAll L) (o : List Int) (ho : OkS L o) :
    ∃ c f, OkS L c ∧ (f = true → ones c < ones o) ∧ (f = false → c = o ∧ Near L o L.length) ∧ (∀ R, Evt (fun k => impl_Sizes.l1 k L c f) R → Evt (fun k => impl_Sizes.l2 k L o false o L (L.length : Int) ((0 : Nat) : Int)) R) := by
  have ho' := ho
  obtain ⟨ol, o3, oa, _⟩ := ho
  refine down (T := fun i => ∀ (c : List Int) (f : Bool), OkS L c → (∀ j (h : j < c.length) (h' : j < o.length), i ≤ j → c[j] = o[j]) → ones c ≤ ones o → (f = true → ones c < ones o) → (f = false → c = o ∧ Near L o i) →
    ∃ c' f', OkS L c' ∧ (f' = true → ones c' < ones o) ∧ (f' = false → c' = o ∧ Near L o L.length) ∧ (∀ R, Evt (fun k => impl_Sizes.l1 k L c' f') R → Evt (fun k => impl_Sizes.l2 k L o f c L (L.length : Int) (i : Int)) R)) (n := L.length) ?_ ?_ L.length 0 (by omega) o false ho' (fun _ _ _ _ => rfl) (Nat.le_refl _) (fun h => by cases h) (fun _ => ⟨rfl, fun i _ _ h => by omega⟩)
  · intro c f hc _ _ h2 h3
    refine ⟨c, f, hc, h2, h3, fun R hR => .succ ?_⟩
    obtain ⟨K, hK⟩ := hR
    refine ⟨K, fun k hk => ?_⟩
    simp only [impl_Sizes.l2]
    rw [if_neg (by omega)]
    exact hK k hk
  · intro i hi ih c f hc hj h1 h2 h3
    have ws := wsucc hi (show L.length ≤ 9223372036854775807 by omega)
    have hio : i < o.length := by omega
    have hic : i < c.length := by have := hc.1; omega
    have skip : (∀ k, impl_Sizes.l2 (k + 2) L o f c L (L.length : Int) (i : Int) = impl_Sizes.l2 (k + 1) L o f c L (L.length : Int) ((i + 1 : Nat) : Int) ∨ impl_Sizes.l2 (k + 2) L o f c L (L.length : Int) (i : Int) = impl_Sizes.l2 k L o f c L (L.length : Int) ((i + 1 : Nat) : Int)) → ((3 ≤ L[i].f1.f0 ∧ L[i].f1.f0 ≤ 6) → o[i] = 1 → ∀ s y, (s = L[i].f2 ∨ s = L[i].f3) → Way L i s y → pre o y - pre o (i + 1) ≤ 15) → ∃ c' f', OkS L c' ∧ (f' = true → ones c' < ones o) ∧ (f' = false → c' = o ∧ Near L o L.length) ∧ (∀ R, Evt (fun k => impl_Sizes.l1 k L c' f') R → Evt (fun k => impl_Sizes.l2 k L o f c L (L.length : Int) (i : Int)) R) := fun e hne => by
      obtain ⟨c', f', a1, a2, a3, a4⟩ := ih c f hc (fun j h h' hij => hj j h h' (by omega)) h1 h2 (fun h => ⟨(h3 h).1, fun j hj1 hj2 hlt => by
        rcases Nat.lt_or_ge j i with h4 | h4
        · exact (h3 h).2 j hj1 hj2 h4
        · have : j = i := by omega
          subst this
          exact hne⟩)
      refine ⟨c', f', a1, a2, a3, fun R hR => ?_⟩
      obtain ⟨K, hK⟩ := a4 R hR
      refine ⟨K + 2, fun k hk => ?_⟩
      obtain ⟨k, rfl⟩ : ∃ m, k = m + 2 := ⟨k - 2, by omega⟩
      rcases e k with e | e
      · exact e.trans (hK (k + 1) (by omega))
      · exact e.trans (hK k (by omega))
    by_cases ha : 3 ≤ L[i].f1.f0 ∧ L[i].f1.f0 ≤ 6
    · have ec : c[i] = o[i] := hj i hic hio (Nat.le_refl _)
      by_cases e3 : o[i] = 3
      · refine skip (fun k => .inr ?_) (fun _ h => by omega)
        simp only [impl_Sizes.l2, impl_Sizes.j3]
        rw [if_pos (by omega), if_pos (by omega), if_pos (by omega), nrd_T95 L i hi]
        simp only [askI, Option.bind_some, decide_eq_true_eq]
        rw [if_pos ha, if_pos (by omega), nrdI o i hio, e3, if_pos (by simp), ws]
      · have e1 : o[i] = 1 := (oa i hio hi ha).resolve_right e3
        obtain ⟨y, hy⟩ := wayP (by omega) hS hI hi L[i].f2 (.inr ⟨ha, .inl rfl⟩)
        obtain ⟨z, hz⟩ := wayP (by omega) hS hI hi L[i].f3 (.inr ⟨ha, .inr rfl⟩)
        obtain ⟨K1, g1⟩ := betwW hn ol o3 hi hy
        obtain ⟨K2, g2⟩ := betwW hn ol o3 hi hz
        dsimp only at g1 g2
        have m3 : ¬ (rd o (i : Int) == 3) = true := by rw [nrdI o i hio, e1]; simp
        by_cases far : pre o y - pre o (i + 1) > 15 ∨ pre o z - pre o (i + 1) > 15
        · have hs := ones_set c i hic (ec.trans e1)
          obtain ⟨c', f', a1, a2, a3, a4⟩ := ih (c.set i 3) true (hc.set i hi ha) (fun j h h' hij => by
            rw [List.getElem_set_ne (by omega)]
            rw [List.length_set] at h
            exact hj j h h' (by omega)) (by omega) (fun _ => by omega) (fun h => by cases h)
          refine ⟨c', f', a1, a2, a3, fun R hR => ?_⟩
          obtain ⟨K, hK⟩ := a4 R hR
          refine ⟨K + K1 + K2 + L.length + 3, fun k hk => ?_⟩
          obtain ⟨k, rfl⟩ : ∃ m, k = m + 2 := ⟨k - 2, by omega⟩
          simp only [impl_Sizes.l2, impl_Sizes.j3]
          rw [if_pos (by omega), if_pos (by omega), if_pos (by omega), nrd_T95 L i hi]
          simp only [askI, Option.bind_some, decide_eq_true_eq]
          rw [if_pos ha, if_pos (by omega), if_neg m3, g1 k (by omega)]
          simp only [Option.bind_some]
          by_cases q : pre o y - pre o (i + 1) > 15
          · rw [if_pos q, if_pos (by omega), if_pos (by omega), ws, Int.toNat_natCast]
            exact hK k (by omega)
          · rw [if_neg q, g2 k (by omega)]
            simp only [Option.bind_some]
            rw [if_pos (far.resolve_left q), if_pos (by omega), if_pos (by omega), ws, Int.toNat_natCast]
            exact hK k (by omega)
        · have q1 : ¬ pre o y - pre o (i + 1) > 15 := fun h => far (.inl h)
          have q2 : ¬ pre o z - pre o (i + 1) > 15 := fun h => far (.inr h)
          obtain ⟨c', f', a1, a2, a3, a4⟩ := ih c f hc (fun j h h' hij => hj j h h' (by omega)) h1 h2 (fun h => ⟨(h3 h).1, fun j hj1 hj2 hlt => by
            rcases Nat.lt_or_ge j i with h4 | h4
            · exact (h3 h).2 j hj1 hj2 h4
            · have : j = i := by omega
              subst this
              rintro _ _ s t (rfl | rfl) ht
              · rw [ht.uniq hy]; omega
              · rw [ht.uniq hz]; omega⟩)
          refine ⟨c', f', a1, a2, a3, fun R hR => ?_⟩
          obtain ⟨K, hK⟩ := a4 R hR
          refine ⟨K + K1 + K2 + L.length + 3, fun k hk => ?_⟩
          obtain ⟨k, rfl⟩ : ∃ m, k = m + 2 := ⟨k - 2, by omega⟩
          simp only [impl_Sizes.l2, impl_Sizes.j3]
          rw [if_pos (by omega), if_pos (by omega), if_pos (by omega), nrd_T95 L i hi]
          simp only [askI, Option.bind_some, decide_eq_true_eq]
          rw [if_pos ha, if_pos (by omega), if_neg m3, g1 k (by omega)]
          simp only [Option.bind_some]
          rw [if_neg q1, g2 k (by omega)]
          simp only [Option.bind_some]
          rw [if_neg q2, ws]
          exact hK k (by omega)
    · refine skip (fun k => .inr ?_) (fun h => absurd h ha)
      simp only [impl_Sizes.l2, impl_Sizes.j3]
      rw [if_pos (by omega), if_pos (by omega), if_pos (by omega), nrd_T95 L i hi]
      simp only [askI, Option.bind_some, decide_eq_true_eq]
      rw [if_neg ha, if_pos trivial, ws]
theorem roundsI (L : List S95) (hn : L.length ≤ 600) (hS : SAll L) (hI : IAll L) : ∀ (m : Nat) (o : List Int), ones o ≤ m → OkS L o →
    ∃ O, OkS L O ∧ Near L O L.length ∧ Evt (fun k => impl_Sizes.l1 k L o true) O := by
  have stop : ∀ c, OkS L c → Evt (fun k => impl_Sizes.l1 k L c false) c := fun c _ => .succ (.const fun k => by simp only [impl_Sizes.l1]; rw [if_neg (by simp)])
  have go : ∀ o R, OkS L o → Evt (fun k => impl_Sizes.l2 k L o false o L (L.length : Int) ((0 : Nat) : Int)) R → Evt (fun k => impl_Sizes.l1 k L o true) R := fun o R ho h => by
    obtain ⟨K, hK⟩ := h
    refine .succ ⟨K, fun k hk => ?_⟩
    simp only [impl_Sizes.l1, Option.bind_some, if_true]
    rw [if_pos (by have := ho.1; simp; omega)]
    exact hK k hk
  intro m
  induction m with
  | zero =>
    intro o hm ho
    obtain ⟨c, f, hc, hf, hg, h2⟩ := roundI L hn hS hI o ho
    cases f with
    | true => have := hf rfl; omega
    | false => exact ⟨c, hc, (hg rfl).1 ▸ (hg rfl).2, go o c ho (h2 c (stop c hc))⟩
  | succ m ih =>
    intro o hm ho
    obtain ⟨c, f, hc, hf, hg, h2⟩ := roundI L hn hS hI o ho
    cases f with
    | true =>
      have := hf rfl
      obtain ⟨O, hO, hN, h⟩ := ih c (by omega) hc
      exact ⟨O, hO, hN, go o O ho (h2 O h)⟩
    | false => exact ⟨c, hc, (hg rfl).1 ▸ (hg rfl).2, go o c ho (h2 c (stop c hc))⟩
theorem sizesI (L : List S95) (hn : 1 ≤ L.length ∧ L.length ≤ 600) (hS : SAll L) (hI : IAll L) (h8 : ∃ h : L.length - 1 < L.length, L[L.length - 1].f1.f0 = 8) : ∃ O, OkS L O ∧ Near L O L.length ∧ Evt (fun k => impl_Sizes.f k L) O := by
  obtain ⟨b, ⟨K1, h1⟩, hb⟩ := linesOkI L (by omega)
  have hbt : b = true := hb.2 ⟨hn, hI, h8⟩
  subst hbt
  have key : ∃ O, OkS L O ∧ Near L O L.length ∧ Evt (fun k => impl_Sizes.l0 k L [] L (L.length : Int) ((0 : Nat) : Int)) O := by
    refine down (T := fun i => ∀ o : List Int, o.length = i → (∀ j (h : j < o.length) (h' : j < L.length), (0 ≤ o[j] ∧ o[j] ≤ 3) ∧ (3 ≤ L[j].f1.f0 ∧ L[j].f1.f0 ≤ 6 → o[j] = 1 ∨ o[j] = 3) ∧ (¬ (3 ≤ L[j].f1.f0 ∧ L[j].f1.f0 ≤ 6) → o[j] = if L[j].f1.f0 = 0 then 0 else 1)) → ∃ O, OkS L O ∧ Near L O L.length ∧ Evt (fun k => impl_Sizes.l0 k L o L (L.length : Int) (i : Int)) O) (n := L.length) ?_ ?_ L.length 0 (by omega) [] rfl (by simp)
    · intro o hl hj
      have ho : OkS L o := ⟨hl, fun j h => (hj j h (by omega)).1, fun j h h' => (hj j h h').2.1, fun j h h' => (hj j h h').2.2⟩
      obtain ⟨O, hO, hN, ⟨K2, h2⟩⟩ := roundsI L hn.2 hS hI (ones o) o (Nat.le_refl _) ho
      dsimp only at h2
      refine ⟨O, hO, hN, .succ ⟨K2, fun k hk => ?_⟩⟩
      simp only [impl_Sizes.l0]
      rw [if_neg (by omega)]
      exact h2 k hk
    · intro i hi ih o hl hj
      have ws := wsucc hi (show L.length ≤ 9223372036854775807 by omega)
      have ext : ∀ v : Int, (0 ≤ v ∧ v ≤ 3) → (3 ≤ L[i].f1.f0 ∧ L[i].f1.f0 ≤ 6 → v = 1 ∨ v = 3) → (¬ (3 ≤ L[i].f1.f0 ∧ L[i].f1.f0 ≤ 6) → v = if L[i].f1.f0 = 0 then 0 else 1) → ∃ O, OkS L O ∧ Near L O L.length ∧ Evt (fun k => impl_Sizes.l0 k L (o ++ [v]) L (L.length : Int) ((i + 1 : Nat) : Int)) O := fun v h1 h2 h3 => by
        refine ih (o ++ [v]) (by simp; omega) (fun j h h' => ?_)
        rcases Nat.lt_or_ge j i with h4 | h4
        · rw [List.getElem_append_left (by omega)]
          exact hj j (by omega) h'
        · have : j = i := by simp at h; omega
          subst this
          have e1 : (o ++ [v])[j] = v := by rw [List.getElem_append_right (by omega)]; simp
          rw [e1]
          exact ⟨h1, h2, h3⟩
      by_cases hp : L[i].f1.f0 = 0
      · obtain ⟨O, hO, hN, ⟨K2, h2⟩⟩ := ext 0 (by omega) (fun h => by omega) (fun _ => by rw [if_pos hp])
        dsimp only at h2
        refine ⟨O, hO, hN, .succ ⟨K2, fun k hk => ?_⟩⟩
        simp only [impl_Sizes.l0, impl_Line_isPlace.f]
        rw [if_pos (by omega), if_pos (by omega), if_pos (by omega), nrd_T95 L i hi]
        simp only [Option.bind_some]
        rw [if_pos (by simp [hp]), if_pos (by omega), ws]
        exact h2 k hk
      · obtain ⟨O, hO, hN, ⟨K2, h2⟩⟩ := ext 1 (by omega) (fun _ => .inl rfl) (fun _ => by rw [if_neg hp])
        dsimp only at h2
        refine ⟨O, hO, hN, .succ ⟨K2, fun k hk => ?_⟩⟩
        simp only [impl_Sizes.l0, impl_Line_isPlace.f]
        rw [if_pos (by omega), if_pos (by omega), if_pos (by omega), nrd_T95 L i hi]
        simp only [Option.bind_some]
        rw [if_neg (by simp [hp]), if_pos (by omega), ws]
        exact h2 k hk
  obtain ⟨O, hO, hN, ⟨K2, h2⟩⟩ := key
  dsimp only at h1 h2
  refine ⟨O, hO, hN, ⟨K1 + K2, fun k hk => ?_⟩⟩
  simp only [impl_Sizes.f, h1 k (by omega), Option.bind_some, if_true]
  exact h2 k (by omega)
theorem layI_l0 (L : List S95) (hn : L.length ≤ 600) (hS : SAll L) (hI : IAll L) (o : List Int) (ho : OkS L o) :
    ∃ R, Laid L o 0 R ∧ ∀ c : List S93, c.length ≤ 3 * 0 → Evt (fun k => impl_Layout.l0 k L o c L (L.length : Int) ((0 : Nat) : Int)) (if 1 ≤ (c ++ R).length ∧ (c ++ R).length ≤ 400 then (c ++ R, true) else ([], false)) := by
  have ho' := ho
  obtain ⟨ol, o3, oa, ok⟩ := ho
  refine down (T := fun i => ∃ R, Laid L o i R ∧ ∀ c : List S93, c.length ≤ 3 * i → Evt (fun k => impl_Layout.l0 k L o c L (L.length : Int) (i : Int)) (if 1 ≤ (c ++ R).length ∧ (c ++ R).length ≤ 400 then (c ++ R, true) else ([], false))) (n := L.length) ?_ ?_ L.length 0 (by omega)
  · refine ⟨[], .done, fun c hc => .succ (.const fun k => ?_)⟩
    simp only [impl_Layout.l0, inI, Option.bind_some, decide_eq_true_eq, List.append_nil]
    rw [if_neg (by omega)]
    by_cases hm : 1 ≤ c.length ∧ c.length ≤ 400
    · rw [if_pos (by omega), if_pos hm]
    · rw [if_neg (by omega), if_neg hm]
  · intro i hi ⟨R, hL, hR⟩
    have ws := wsucc hi (show L.length ≤ 9223372036854775807 by omega)
    have hio : i < o.length := by omega
    have o0 : ¬ (o.length : Int) = 0 := by omega
    have fin : ∀ w, Words L o i hi hio w → w.length ≤ 3 → (∀ c : List S93, c.length ≤ 3 * i → ∃ K, ∀ k, K ≤ k → impl_Layout.l0 (k + 2) L o c L (L.length : Int) (i : Int) = impl_Layout.l0 (k + 1) L o (c ++ w) L (L.length : Int) ((i + 1 : Nat) : Int) ∨ impl_Layout.l0 (k + 2) L o c L (L.length : Int) (i : Int) = impl_Layout.l0 k L o (c ++ w) L (L.length : Int) ((i + 1 : Nat) : Int)) → ∃ R, Laid L o i R ∧ ∀ c : List S93, c.length ≤ 3 * i → Evt (fun k => impl_Layout.l0 k L o c L (L.length : Int) (i : Int)) (if 1 ≤ (c ++ R).length ∧ (c ++ R).length ≤ 400 then (c ++ R, true) else ([], false)) := fun w hw h3 hs => by
      refine ⟨w ++ R, .line i hi hio w R hw hL, fun c hc => ?_⟩
      obtain ⟨K1, h1⟩ := hs c hc
      obtain ⟨K2, h2⟩ := hR (c ++ w) (by rw [List.length_append]; omega)
      rw [List.append_assoc] at h2
      refine ⟨K1 + K2 + 2, fun k hk => ?_⟩
      obtain ⟨k, rfl⟩ : ∃ m, k = m + 2 := ⟨k - 2, by omega⟩
      rcases h1 k (by omega) with e | e
      · exact e.trans (h2 (k + 1) (by omega))
      · exact e.trans (h2 k (by omega))
    by_cases hp : L[i].f1.f0 = 0
    · refine fin [] (.inl ⟨hp, rfl⟩) (by simp) (fun c hc => ⟨0, fun k _ => .inl ?_⟩)
      rw [List.append_nil]
      simp only [impl_Layout.l0, impl_Line_isPlace.f]
      rw [if_pos (by omega), if_pos (by omega), if_pos (by omega), if_neg o0, nrd_T95 L i hi]
      simp only [Option.bind_some]
      rw [if_pos (by simp [hp]), ws]
    obtain ⟨z2, z3, hIns⟩ := insR (by omega) hI hi hp
    have hnp : ¬ (L[i].f1.f0 == 0) = true := by simpa using hp
    by_cases c7 : L[i].f1.f0 = 7
    · obtain ⟨y, hy⟩ := wayP (by omega) hS hI hi L[i].f2 (.inl ⟨c7, rfl⟩)
      obtain ⟨K1, g1⟩ := betwW hn ol o3 hi hy
      dsimp only at g1
      refine fin [⟨7, pre o y - pre o (i + 1), 0, 0⟩] (.inr (.inl ⟨c7, y, hy, rfl⟩)) (by simp) (fun c hc => ⟨K1, fun k hk => .inl ?_⟩)
      simp only [impl_Layout.l0, impl_Line_isPlace.f]
      rw [if_pos (by omega), if_pos (by omega), if_pos (by omega), if_neg o0, nrd_T95 L i hi]
      simp only [Option.bind_some]
      rw [if_neg hnp, if_pos c7, g1 (k + 1) (by omega)]
      simp only [Option.bind_some]
      rw [if_pos (by omega), ws, z2, z3, c7]
    by_cases ha : 3 ≤ L[i].f1.f0 ∧ L[i].f1.f0 ≤ 6
    · obtain ⟨y, hy⟩ := wayP (by omega) hS hI hi L[i].f2 (.inr ⟨ha, .inl rfl⟩)
      obtain ⟨z, hz⟩ := wayP (by omega) hS hI hi L[i].f3 (.inr ⟨ha, .inr rfl⟩)
      obtain ⟨K1, g1⟩ := betwW hn ol o3 hi hy
      obtain ⟨K2, g2⟩ := betwW hn ol o3 hi hz
      have p1 := pre_bound o3 y (by have := hy.2.1; omega)
      have p2 := pre_bound o3 (i + 1) (by omega)
      have hyl := hy.2.1
      dsimp only at g1 g2
      have hgy : wrap64 (pre o y - pre o (i + 1) + 1) = pre o y - pre o (i + 1) + 1 := w64 (by omega) (by omega)
      rcases oa i hio hi ha with e1 | e3
      · refine fin _ (.inr (.inr (.inl ⟨ha, y, z, hy, hz, .inl ⟨e1, rfl⟩⟩))) (by simp) (fun c hc => ⟨K1 + K2, fun k hk => .inr ?_⟩)
        simp only [impl_Layout.l0, impl_Line_isPlace.f, impl_Layout.j1]
        rw [if_pos (by omega), if_pos (by omega), if_pos (by omega), if_neg o0, nrd_T95 L i hi]
        simp only [Option.bind_some, askI, decide_eq_true_eq]
        rw [if_neg hnp, if_neg c7, if_pos ha, if_pos (by omega), nrdI o i hio, e1, if_neg (by simp), if_pos ha, g1 k (by omega)]
        simp only [Option.bind_some]
        rw [g2 k (by omega)]
        simp only [Option.bind_some]
        rw [if_pos (by omega), ws]
      · refine fin _ (.inr (.inr (.inl ⟨ha, y, z, hy, hz, .inr ⟨e3, rfl⟩⟩))) (by simp) (fun c hc => ⟨K1 + K2, fun k hk => .inr ?_⟩)
        simp only [impl_Layout.l0, impl_Line_isPlace.f, impl_Layout.j1]
        rw [if_pos (by omega), if_pos (by omega), if_pos (by omega), if_neg o0, nrd_T95 L i hi]
        simp only [Option.bind_some, askI, decide_eq_true_eq]
        rw [if_neg hnp, if_neg c7, if_pos ha, if_pos (by omega), nrdI o i hio, e3, if_pos (by simp), g1 k (by omega)]
        simp only [Option.bind_some]
        rw [g2 k (by omega)]
        simp only [Option.bind_some]
        rw [if_pos (by simp; omega), hgy, ws]
    · have hk : L[i].f1.f0 = 1 ∨ L[i].f1.f0 = 2 ∨ L[i].f1.f0 = 8 := by have := hIns.1; omega
      refine fin _ (.inr (.inr (.inr ⟨hk, rfl⟩))) (by simp) (fun c hc => ⟨0, fun k _ => .inr ?_⟩)
      simp only [impl_Layout.l0, impl_Line_isPlace.f, impl_Layout.j1]
      rw [if_pos (by omega), if_pos (by omega), if_pos (by omega), if_neg o0, nrd_T95 L i hi]
      simp only [Option.bind_some, askI, decide_eq_true_eq]
      rw [if_neg hnp, if_neg c7, if_neg ha, if_neg (by simp), if_neg ha, if_pos (by omega), ws, z2, z3]
theorem layI (L : List S95) (hn : 1 ≤ L.length ∧ L.length ≤ 600) (hS : SAll L) (hI : IAll L) (h8 : ∃ h : L.length - 1 < L.length, L[L.length - 1].f1.f0 = 8) :
    ∃ O R, OkS L O ∧ Near L O L.length ∧ Evt (fun k => impl_Sizes.f k L) O ∧ Laid L O 0 R ∧ Evt (fun k => impl_Layout.f k L) (if 1 ≤ R.length ∧ R.length ≤ 400 then (R, true) else ([], false)) := by
  obtain ⟨O, hO, hN, ⟨K1, h1⟩⟩ := sizesI L hn hS hI h8
  obtain ⟨R, hL, hR⟩ := layI_l0 L hn.2 hS hI O hO
  obtain ⟨K2, h2⟩ := hR [] (by simp)
  dsimp only at h1 h2
  refine ⟨O, R, hO, hN, ⟨K1, h1⟩, hL, ⟨K1 + K2, fun k hk => ?_⟩⟩
  simp only [impl_Layout.f, h1 k (by omega), Option.bind_some]
  exact h2 k (by omega)
theorem nrd_T48 (l : List S48) (i : Nat) (h : i < l.length) : rd_T48 l (i : Int) = l[i] := getD_lt _ h
theorem wideS (a b : Int) : spec_WideOk.f a b = some (decide ((0 ≤ a ∧ a ≤ 4294967295) ∧ (0 ≤ b ∧ b ≤ 4294967295))) := by
  unfold spec_WideOk.f
  simp only [halfS, Option.bind_some, decide_eq_true_eq]
  split
  · rename_i h
    exact congrArg some (by rw [Bool.eq_iff_iff]; simp; omega)
  · rename_i h
    exact congrArg some (by rw [Bool.eq_iff_iff]; simp; omega)
/-- A right call is told right. -/
theorem callT (a b : Int) (l : List S48) (ha : 0 ≤ a ∧ a ≤ 4294967295) (hb : 0 ≤ b ∧ b ≤ 4294967295) (hl : l.length = 3) (hw : ∀ y ∈ l, (0 ≤ y.f0 ∧ y.f0 ≤ 4294967295) ∧ (0 ≤ y.f1 ∧ y.f1 ≤ 4294967295)) : ∀ k, 4 ≤ k → spec_CallOk.f k a b l = some true := by
  have key : ∀ (d i : Nat), i + d = 3 → ∀ k, d < k → spec_CallOk.l0 k (i : Int) a b l = some true := by
    intro d
    induction d with
    | zero =>
      intro i hi k hk
      obtain ⟨k, rfl⟩ : ∃ m, k = m + 1 := ⟨k - 1, by omega⟩
      simp only [spec_CallOk.l0]
      rw [if_neg (by omega)]
      simp only [halfS, Option.bind_some]
      rw [decide_eq_true ha, if_pos rfl, decide_eq_true hb, if_pos rfl, hl]
      rfl
    | succ d ih =>
      intro i hi k hk
      obtain ⟨k, rfl⟩ : ∃ m, k = m + 1 := ⟨k - 1, by omega⟩
      have hlt : i < l.length := by omega
      have h : (0 ≤ l[i].f0 ∧ l[i].f0 ≤ 4294967295) ∧ (0 ≤ l[i].f1 ∧ l[i].f1 ≤ 4294967295) := hw l[i] (List.getElem_mem hlt)
      have q := ih (i + 1) (by omega) k (by omega)
      simp only [spec_CallOk.l0]
      rw [if_pos (by omega), if_pos (by omega), nrd_T48 l i hlt, wsucc hlt (by omega), wideS]
      simp only [Option.bind_some, decide_eq_true_eq]
      rw [if_pos h]
      exact q
  intro k hk
  exact key 3 0 (by omega) k (by omega)
/-- A field of a right call. -/
theorem fieldT (a b : Int) (w : List S48) (hc : ∀ k, 4 ≤ k → spec_CallOk.f k a b w = some true) (hl : w.length = 3) (x : Int) : ∃ p : Int × Bool, Evt (fun k => spec_FieldAt.f k a b w x) p := by
  by_cases hx : 0 ≤ x ∧ x ≤ 7
  · have dS : ∀ k, 4 ≤ k → spec_FieldAt.f k a b w x = spec_FieldAt.j0 k x false a b w := fun k hk => by simp only [spec_FieldAt.f, hc k hk, Option.bind_some, inS, if_true, decide_eq_true hx, Bool.not_true]
    by_cases h0 : x = 0
    · refine ⟨(b, true), ⟨5, fun k hk => (dS k (by omega)).trans ?_⟩⟩
      obtain ⟨k, rfl⟩ : ∃ m, k = m + 1 := ⟨k - 1, by omega⟩
      simp only [spec_FieldAt.j0, Bool.false_eq_true, if_false, if_pos h0]
    by_cases h1 : x = 1
    · refine ⟨(a, true), ⟨5, fun k hk => (dS k (by omega)).trans ?_⟩⟩
      obtain ⟨k, rfl⟩ : ∃ m, k = m + 1 := ⟨k - 1, by omega⟩
      simp only [spec_FieldAt.j0, Bool.false_eq_true, if_false, if_neg h0, if_pos h1]
    have e1 : wrap64 (x - 2) = x - 2 := w64 (by omega) (by omega)
    have e2 : (x - 2).tdiv 2 = (x - 2) / 2 := Int.tdiv_eq_ediv_of_nonneg (by omega)
    have e4 : wrap64 ((x - 2) / 2) = x / 2 - 1 := by rw [w64 (by omega) (by omega)]; omega
    refine ⟨(if x.tmod 2 = 0 then (rd_T48 w (x / 2 - 1)).f1 else (rd_T48 w (x / 2 - 1)).f0, true), ⟨5, fun k hk => (dS k (by omega)).trans ?_⟩⟩
    obtain ⟨k, rfl⟩ : ∃ m, k = m + 1 := ⟨k - 1, by omega⟩
    simp only [spec_FieldAt.j0, Bool.false_eq_true, if_false, if_neg h0, if_neg h1, e1, e2, e4]
    rw [if_pos (by omega), if_pos (by omega)]
    split <;> rfl
  · refine ⟨(0, false), ⟨5, fun k hk => ?_⟩⟩
    obtain ⟨k, rfl⟩ : ∃ m, k = m + 1 := ⟨k - 1, by omega⟩
    simp only [spec_FieldAt.f, hc (k + 1) (by omega), Option.bind_some, inS, if_true, decide_eq_false hx, Bool.not_false, spec_FieldAt.j0]
theorem asksV (a b c d r : Int) : ∃ t, spec_l07Asks.f a b c d r = some t := by
  unfold spec_l07Asks.f
  repeat' split
  all_goals exact ⟨_, rfl⟩
/-- What lines come to, from a line on. -/
inductive Ends (L : List S95) (a b : Int) (w : List S48) : Nat → Int → Int → Prop
  | place (i : Nat) (g v : Int) (h : i < L.length) : L[i].f1.f0 = 0 → Ends L a b w (i + 1) g v → Ends L a b w i g v
  | load (i : Nat) (g v : Int) (h : i < L.length) (p : Int × Bool) : L[i].f1.f0 = 1 → Evt (fun k => spec_FieldAt.f k a b w L[i].f1.f1) p → Ends L a b w (i + 1) p.1 v → Ends L a b w i g v
  | and (i : Nat) (g v : Int) (h : i < L.length) : L[i].f1.f0 = 2 → Ends L a b w (i + 1) (Go.bits .and .i64 g L[i].f1.f1) v → Ends L a b w i g v
  | ret (i : Nat) (g : Int) (h : i < L.length) : L[i].f1.f0 = 8 → Ends L a b w i g L[i].f1.f1
  | jump (i : Nat) (g v : Int) (h : i < L.length) (y : Nat) : L[i].f1.f0 = 7 → Way L i L[i].f2 y → Ends L a b w y g v → Ends L a b w i g v
  | ask (i : Nat) (g v : Int) (h : i < L.length) (t : Bool) (y : Nat) : (3 ≤ L[i].f1.f0 ∧ L[i].f1.f0 ≤ 6) → spec_l07Asks.f L[i].f1.f0 L[i].f1.f1 0 0 g = some t → Way L i (if t = true then L[i].f2 else L[i].f3) y → Ends L a b w y g v → Ends L a b w i g v
/-- Right lines come to something. -/
theorem ends {L : List S95} (hn : L.length ≤ 600) (hS : SAll L) (hI : IAll L) (h8 : ∃ h : L.length - 1 < L.length, L[L.length - 1].f1.f0 = 8) (a b : Int) (w : List S48) (hf : ∀ x, ∃ p : Int × Bool, Evt (fun k => spec_FieldAt.f k a b w x) p) : ∀ (d i : Nat) (g : Int), i < L.length → L.length - i ≤ d → ∃ v, Ends L a b w i g v := by
  intro d
  induction d with
  | zero => intro i g hi hd; omega
  | succ d ih =>
    intro i g hi hd
    by_cases c8 : L[i].f1.f0 = 8
    · exact ⟨_, .ret i g hi c8⟩
    have hlt : i + 1 < L.length := by
      obtain ⟨h, e⟩ := h8
      rcases Nat.lt_or_ge (i + 1) L.length with h1 | h1
      · exact h1
      · have e2 : L.length - 1 = i := by omega
        exact absurd (by simpa only [e2] using e) c8
    by_cases c0 : L[i].f1.f0 = 0
    · obtain ⟨v, hv⟩ := ih (i + 1) g hlt (by omega)
      exact ⟨v, .place i g v hi c0 hv⟩
    have hk := (insR (by omega) hI hi c0).2.2.1
    by_cases c1 : L[i].f1.f0 = 1
    · obtain ⟨p, hp⟩ := hf L[i].f1.f1
      obtain ⟨v, hv⟩ := ih (i + 1) p.1 hlt (by omega)
      exact ⟨v, .load i g v hi p c1 hp hv⟩
    by_cases c2 : L[i].f1.f0 = 2
    · obtain ⟨v, hv⟩ := ih (i + 1) (Go.bits .and .i64 g L[i].f1.f1) hlt (by omega)
      exact ⟨v, .and i g v hi c2 hv⟩
    by_cases c7 : L[i].f1.f0 = 7
    · obtain ⟨y, hy⟩ := wayP (by omega) hS hI hi L[i].f2 (.inl ⟨c7, rfl⟩)
      obtain ⟨v, hv⟩ := ih y g hy.2.1 (by have := hy.1; omega)
      exact ⟨v, .jump i g v hi y c7 hy hv⟩
    have ha : 3 ≤ L[i].f1.f0 ∧ L[i].f1.f0 ≤ 6 := by omega
    obtain ⟨t, ht⟩ := asksV L[i].f1.f0 L[i].f1.f1 0 0 g
    obtain ⟨y, hy⟩ := wayP (by omega) hS hI hi (if t = true then L[i].f2 else L[i].f3) (.inr ⟨ha, by cases t <;> simp⟩)
    obtain ⟨v, hv⟩ := ih y g hy.2.1 (by have := hy.1; omega)
    exact ⟨v, .ask i g v hi t y ha ht hy hv⟩
theorem laid_split {L : List S95} {o : List Int} (ho : OkS L o) {R : List S93} (hR : Laid L o 0 R) : ∀ i, i ≤ L.length → ∃ c r, R = c ++ r ∧ (c.length : Int) = pre o i ∧ Laid L o i r
  | 0, _ => ⟨[], R, rfl, by simp [pre], hR⟩
  | i + 1, h => by
    obtain ⟨c, r, e, hc, hl⟩ := laid_split ho hR i (by omega)
    cases hl with
    | done => omega
    | line _ h1 h2 w r hw hr => exact ⟨c ++ w, r, by rw [e, List.append_assoc], by rw [List.length_append, pre_succ h2, Int.natCast_add, hc, words_len ho hw], hr⟩
theorem laid_at {L : List S95} {o : List Int} (ho : OkS L o) {R : List S93} (hR : Laid L o 0 R) {i : Nat} (h : i < L.length) : ∃ (h' : i < o.length) (c w r : List S93), R = c ++ (w ++ r) ∧ (c.length : Int) = pre o i ∧ Words L o i h h' w := by
  obtain ⟨c, r, e, hc, hl⟩ := laid_split ho hR i (by omega)
  cases hl with
  | done => omega
  | line _ h1 h2 w r hw hr => exact ⟨h2, c, w, r, e, hc, hw⟩
theorem rd_mid (c w r : List S93) (m : Nat) (h : m < w.length) (p : Int) (hp : p = ((c.length + m : Nat) : Int)) : rd_T93 (c ++ (w ++ r)) p = w[m] := by
  subst hp
  rw [rd_nat93 _ _ (by simp only [List.length_append]; omega), List.getElem_append_right (by omega)]
  simp only [Nat.add_sub_cancel_left]
  rw [List.getElem_append_left h]
/-- A right word that leads inside, wherever it stands in what is laid. -/
theorem laid_prog {L : List S95} (hn : L.length ≤ 600) (hS : SAll L) (hI : IAll L) (h8 : ∃ h : L.length - 1 < L.length, L[L.length - 1].f1.f0 = 8) {o : List Int} (ho : OkS L o) (hN : Near L o L.length) {R : List S93} (hR : Laid L o 0 R) (h400 : 1 ≤ R.length ∧ R.length ≤ 400) : ProgP R := by
  have hlen := laid_len ho hR
  have e0 : pre o 0 = 0 := by simp [pre]
  have mono : ∀ d i, i + d ≤ L.length → pre o i ≤ pre o (i + d) := by
    intro d
    induction d with
    | zero => intro i _; exact Int.le_refl _
    | succ d ih =>
      intro i hi
      have h1 := ih i (by omega)
      have h2 := ho.2.1 (i + d) (by have := ho.1; omega)
      have h3 : pre o (i + (d + 1)) = pre o (i + d) + o[i + d]'(by have := ho.1; omega) := pre_succ (i := i + d) (by have := ho.1; omega)
      omega
  have mono' : ∀ i y, i ≤ y → y ≤ L.length → pre o i ≤ pre o y := fun i y h1 h2 => by
    have := mono (y - i) i (by omega)
    rwa [show i + (y - i) = y by omega] at this
  -- a way leads to a place before the last line, which is of one word
  have last : pre o L.length = pre o (L.length - 1) + 1 := by
    obtain ⟨h, e⟩ := h8
    have h1 := ho.2.2.2 (L.length - 1) (by have := ho.1; omega) h (by omega)
    rw [if_neg (by omega)] at h1
    have h2 : pre o (L.length - 1 + 1) = pre o (L.length - 1) + o[L.length - 1]'(by have := ho.1; omega) := pre_succ (by have := ho.1; omega)
    rw [show L.length - 1 + 1 = L.length by omega] at h2
    omega
  have inw : ∀ i s y, Way L i s y → pre o (i + 1) ≤ pre o y ∧ pre o y < pre o L.length := fun i s y hy => by
    refine ⟨mono' (i + 1) y hy.1 (by have := hy.2.1; omega), ?_⟩
    have : pre o y ≤ pre o (L.length - 1) := mono' y (L.length - 1) (by
      obtain ⟨_, hq, _⟩ := hy.2.2.1
      obtain ⟨h, e⟩ := h8
      have hne : y ≠ L.length - 1 := fun e1 => by subst e1; omega
      have := hy.2.1
      omega) (by omega)
    omega
  -- each word of each line
  have each : ∀ i r, Laid L o i r → ∀ c, R = c ++ r → (c.length : Int) = pre o i → ∀ m (hm : m < r.length), InsP r[m].f0 r[m].f1 r[m].f2 r[m].f3 ∧ farP r[m] ((c.length + m : Nat) : Int) < R.length := by
    intro i r hl
    induction hl with
    | done => intro c _ _ m hm; exact absurd hm (by simp)
    | line i h h' w r hw hr ih =>
      intro c e hc m hm
      rcases Nat.lt_or_ge m w.length with hlt | hge
      · rw [List.getElem_append_left hlt]
        have hw' := hw
        have hp := ho.2.1 i h'
        have ps := pre_succ h'
        rcases hw with ⟨q, rfl⟩ | ⟨q, y, hy, rfl⟩ | ⟨q, y, z, hy, hz, ⟨q1, rfl⟩ | ⟨q3, rfl⟩⟩ | ⟨q, rfl⟩
        · exact absurd hlt (by simp)
        · have hm0 : m = 0 := by simp at hlt; omega
          subst hm0
          obtain ⟨i1, i2⟩ := inw i _ y hy
          have o1 : o[i] = 1 := by rw [ho.2.2.2 i h' h (by omega), if_neg (by omega)]
          have b0 := (pre_bound ho.2.1 (i + 1) (by omega)).1
          simp only [List.getElem_cons_zero]
          refine ⟨?_, ?_⟩
          · unfold InsP; omega
          · unfold farP; simp only [show ¬ ((3:Int) ≤ 7 ∧ (7:Int) ≤ 6) by omega, if_false, if_true]; omega
        · have hm0 : m = 0 := by simp at hlt; omega
          subst hm0
          obtain ⟨i1, i2⟩ := inw i _ y hy
          obtain ⟨j1, j2⟩ := inw i _ z hz
          have n1 := hN i h h' h q q1 _ y (.inl rfl) hy
          have n2 := hN i h h' h q q1 _ z (.inr rfl) hz
          have hb := (insR (by omega) hI h (by omega)).2.2.2.1
          have b0 := (pre_bound ho.2.1 (i + 1) (by omega)).1
          simp only [List.getElem_cons_zero]
          refine ⟨?_, ?_⟩
          · unfold InsP; omega
          · unfold farP; simp only [if_pos q]; unfold mx; split <;> omega
        · obtain ⟨i1, i2⟩ := inw i _ y hy
          obtain ⟨j1, j2⟩ := inw i _ z hz
          have hb := (insR (by omega) hI h (by omega)).2.2.2.1
          have b0 := (pre_bound ho.2.1 (i + 1) (by omega)).1
          have hm3 : m = 0 ∨ m = 1 ∨ m = 2 := by simp at hlt; omega
          rcases hm3 with rfl | rfl | rfl
          · simp only [List.getElem_cons_zero]
            refine ⟨?_, ?_⟩
            · unfold InsP; omega
            · unfold farP; simp only [if_pos q]; unfold mx; split <;> omega
          · simp only [List.getElem_cons_zero, List.getElem_cons_succ]
            refine ⟨?_, ?_⟩
            · unfold InsP; omega
            · unfold farP; simp only [show ¬ ((3:Int) ≤ 7 ∧ (7:Int) ≤ 6) by omega, if_false, if_true]; omega
          · simp only [List.getElem_cons_zero, List.getElem_cons_succ]
            refine ⟨?_, ?_⟩
            · unfold InsP; omega
            · unfold farP; simp only [show ¬ ((3:Int) ≤ 7 ∧ (7:Int) ≤ 6) by omega, if_false, if_true]; omega
        · have hm0 : m = 0 := by simp at hlt; omega
          subst hm0
          obtain ⟨z2, z3, hIn⟩ := insR (by omega) hI h (by omega)
          rw [z2, z3] at hIn
          simp only [List.getElem_cons_zero]
          refine ⟨hIn, ?_⟩
          have o1 : o[i] = 1 := by rw [ho.2.2.2 i h' h (by omega), if_neg (by omega)]
          have := mono' (i + 1) L.length h (Nat.le_refl _)
          unfold farP; simp only [show ¬ (3 ≤ L[i].f1.f0 ∧ L[i].f1.f0 ≤ 6) by omega, show ¬ L[i].f1.f0 = 7 by omega, if_false]; omega
      · rw [List.getElem_append_right hge]
        have h2 := ih (c ++ w) (by rw [e, List.append_assoc]) (by rw [List.length_append, Int.natCast_add, hc, words_len ho hw, pre_succ h']) (m - w.length) (by rw [List.length_append] at hm; omega)
        have e3 : (c ++ w).length + (m - w.length) = c.length + m := by rw [List.length_append]; omega
        rw [e3] at h2
        exact h2
  refine ⟨h400, fun h0 => ?_, fun j hj => ?_⟩
  · obtain ⟨h, e⟩ := h8
    obtain ⟨h', c, w, r, eR, hc, hw⟩ := laid_at ho hR h
    have hwl := words_len ho hw
    have o1 : o[L.length - 1] = 1 := by rw [ho.2.2.2 (L.length - 1) h' h (by omega), if_neg (by omega)]
    rcases hw with ⟨q, _⟩ | ⟨q, _⟩ | ⟨q, _⟩ | ⟨q, ew⟩
    · omega
    · omega
    · omega
    · have hcl : c.length = R.length - 1 := by omega
      have := rd_mid c w r 0 (by rw [ew]; simp) ((R.length - 1 : Nat) : Int) (by omega)
      rw [← eR, rd_nat93 R (R.length - 1) (by omega)] at this
      rw [this]
      simp only [ew, List.getElem_cons_zero]
      exact e
  · have h2 := each 0 R hR [] rfl (by simp [pre]) j hj
    refine ⟨h2.1, ?_⟩
    have h3 := h2.2
    simp only [List.length_nil, Nat.zero_add] at h3
    exact h3
/-- What is laid runs as its lines do. -/
theorem run_laid {L : List S95} (hn : L.length ≤ 600) {o : List Int} (ho : OkS L o) {R : List S93} (hR : Laid L o 0 R) (h400 : R.length ≤ 400) (a b : Int) (w : List S48) : ∀ {i : Nat} {g v : Int}, Ends L a b w i g v → ∀ s, ∃ s', Evt (fun k => spec_Run.l0 k R g s (pre o i) a b w) (v, s') := by
  have hlen := laid_len ho hR
  rw [show pre o 0 = 0 by simp [pre]] at hlen
  have bnd : ∀ j, j ≤ L.length → 0 ≤ pre o j ∧ pre o j ≤ 1800 := fun j hj => by have := pre_bound ho.2.1 j (by have := ho.1; omega); omega
  intro i g v hE
  induction hE with
  | place i g v h c0 hE ih =>
    intro s
    have h' : i < o.length := by have := ho.1; omega
    have e : pre o (i + 1) = pre o i := by rw [pre_succ h', ho.2.2.2 i h' h (by omega), if_pos c0]; omega
    rw [← e]
    exact ih s
  | load i g v h p c1 hp hE ih =>
    intro s
    obtain ⟨h', c, ws, r, eR, hc, hw⟩ := laid_at ho hR h
    obtain ⟨s', K, hK⟩ := ih (wrap64 (s + 1))
    obtain ⟨K2, h2⟩ := hp
    have o1 : o[i] = 1 := by rw [ho.2.2.2 i h' h (by omega), if_neg (by omega)]
    have hw1 : ws = [⟨L[i].f1.f0, L[i].f1.f1, 0, 0⟩] := by
      rcases hw with ⟨q, _⟩ | ⟨q, _⟩ | ⟨q, _⟩ | ⟨q, e⟩
      · omega
      · omega
      · omega
      · exact e
    have e1 := rd_mid c ws r 0 (by rw [hw1]; simp) (pre o i) (by omega)
    have b1 := bnd i (by omega)
    have b2 : pre o i < (R.length : Int) := by rw [eR, hw1]; simp only [List.length_append, List.length_cons, List.length_nil]; omega
    have ps := pre_succ h'
    refine ⟨s', .succ ⟨K + K2, fun k hk => ?_⟩⟩
    have g2 := h2 k (by omega)
    have g1 := hK k (by omega)
    dsimp only at g1 g2
    simp only [spec_Run.l0]
    rw [if_pos b2, if_pos b1.1, eR, e1, ← eR]
    simp only [hw1, List.getElem_cons_zero]
    rw [if_pos c1, g2, w64 (x := pre o i + 1) (by omega) (by omega), show pre o i + 1 = pre o (i + 1) by omega]
    exact g1
  | and i g v h c2 hE ih =>
    intro s
    obtain ⟨h', c, ws, r, eR, hc, hw⟩ := laid_at ho hR h
    obtain ⟨s', K, hK⟩ := ih (wrap64 (s + 1))
    have o1 : o[i] = 1 := by rw [ho.2.2.2 i h' h (by omega), if_neg (by omega)]
    have hw1 : ws = [⟨L[i].f1.f0, L[i].f1.f1, 0, 0⟩] := by
      rcases hw with ⟨q, _⟩ | ⟨q, _⟩ | ⟨q, _⟩ | ⟨q, e⟩
      · omega
      · omega
      · omega
      · exact e
    have e1 := rd_mid c ws r 0 (by rw [hw1]; simp) (pre o i) (by omega)
    have b1 := bnd i (by omega)
    have b2 : pre o i < (R.length : Int) := by rw [eR, hw1]; simp only [List.length_append, List.length_cons, List.length_nil]; omega
    have ps := pre_succ h'
    refine ⟨s', .succ ⟨K, fun k hk => ?_⟩⟩
    have g1 := hK k (by omega)
    dsimp only at g1
    simp only [spec_Run.l0]
    rw [if_pos b2, if_pos b1.1, eR, e1, ← eR]
    simp only [hw1, List.getElem_cons_zero]
    rw [if_neg (by omega), if_pos c2, w64 (x := pre o i + 1) (by omega) (by omega), show pre o i + 1 = pre o (i + 1) by omega]
    exact g1
  | ret i g h c8 =>
    intro s
    obtain ⟨h', c, ws, r, eR, hc, hw⟩ := laid_at ho hR h
    have hw1 : ws = [⟨L[i].f1.f0, L[i].f1.f1, 0, 0⟩] := by
      rcases hw with ⟨q, _⟩ | ⟨q, _⟩ | ⟨q, _⟩ | ⟨q, e⟩
      · omega
      · omega
      · omega
      · exact e
    have e1 := rd_mid c ws r 0 (by rw [hw1]; simp) (pre o i) (by omega)
    have b1 := bnd i (by omega)
    have b2 : pre o i < (R.length : Int) := by rw [eR, hw1]; simp only [List.length_append, List.length_cons, List.length_nil]; omega
    refine ⟨wrap64 (s + 1), .succ (.const fun k => ?_)⟩
    simp only [spec_Run.l0]
    rw [if_pos b2, if_pos b1.1, eR, e1, ← eR]
    simp only [hw1, List.getElem_cons_zero]
    rw [if_neg (by omega), if_neg (by omega), if_neg (by omega), if_pos c8]
  | jump i g v h y c7 hy hE ih =>
    intro s
    obtain ⟨h', c, ws, r, eR, hc, hw⟩ := laid_at ho hR h
    obtain ⟨s', K, hK⟩ := ih (wrap64 (s + 1))
    have o1 : o[i] = 1 := by rw [ho.2.2.2 i h' h (by omega), if_neg (by omega)]
    have hw1 : ws = [⟨7, pre o y - pre o (i + 1), 0, 0⟩] := by
      rcases hw with ⟨q, _⟩ | ⟨q, z, hz, e⟩ | ⟨q, _⟩ | ⟨q, e⟩
      · omega
      · rw [e, hz.uniq hy]
      · omega
      · omega
    have e1 := rd_mid c ws r 0 (by rw [hw1]; simp) (pre o i) (by omega)
    have b1 := bnd i (by omega)
    have b3 := bnd y (by have := hy.2.1; omega)
    have b2 : pre o i < (R.length : Int) := by rw [eR, hw1]; simp only [List.length_append, List.length_cons, List.length_nil]; omega
    have ps := pre_succ h'
    refine ⟨s', .succ ⟨K, fun k hk => ?_⟩⟩
    have g1 := hK k (by omega)
    dsimp only at g1
    simp only [spec_Run.l0]
    rw [if_pos b2, if_pos b1.1, eR, e1, ← eR]
    simp only [hw1, List.getElem_cons_zero]
    rw [if_neg (by omega), if_neg (by omega), if_pos trivial, w64 (x := pre o i + (pre o y - pre o (i + 1))) (by omega) (by omega), w64 (x := pre o i + (pre o y - pre o (i + 1)) + 1) (by omega) (by omega), show pre o i + (pre o y - pre o (i + 1)) + 1 = pre o y by omega]
    exact g1
  | ask i g v h t y ha ht hy hE ih =>
    intro s
    obtain ⟨h', c, ws, r, eR, hc, hw⟩ := laid_at ho hR h
    have b1 := bnd i (by omega)
    have b3 := bnd y (by have := hy.2.1; omega)
    have ps := pre_succ h'
    have ht' : ∀ c d, spec_l07Asks.f L[i].f1.f0 L[i].f1.f1 c d g = some t := fun _ _ => ht
    rcases hw with ⟨q, _⟩ | ⟨q, _⟩ | ⟨q, y1, z1, hy1, hz1, ⟨q1, hw1⟩ | ⟨q3, hw1⟩⟩ | ⟨q, _⟩
    · omega
    · omega
    · obtain ⟨s', K, hK⟩ := ih (wrap64 (s + 1))
      have e1 := rd_mid c ws r 0 (by rw [hw1]; simp) (pre o i) (by omega)
      have b2 : pre o i < (R.length : Int) := by rw [eR, hw1]; simp only [List.length_append, List.length_cons, List.length_nil]; omega
      refine ⟨s', .succ ⟨K, fun k hk => ?_⟩⟩
      have g1 := hK k (by omega)
      dsimp only at g1
      simp only [spec_Run.l0]
      rw [if_pos b2, if_pos b1.1, eR, e1, ← eR]
      simp only [hw1, List.getElem_cons_zero]
      rw [if_neg (by omega), if_neg (by omega), if_neg (by omega), if_neg (by omega), ht']
      simp only [Option.bind_some]
      cases t with
      | true =>
        have hyy : y1 = y := hy1.uniq hy
        subst hyy
        rw [if_pos rfl, w64 (x := pre o i + (pre o y1 - pre o (i + 1))) (by omega) (by omega), w64 (x := pre o i + (pre o y1 - pre o (i + 1)) + 1) (by omega) (by omega), show pre o i + (pre o y1 - pre o (i + 1)) + 1 = pre o y1 by omega]
        exact g1
      | false =>
        have hyy : z1 = y := hz1.uniq hy
        subst hyy
        rw [if_neg (by simp), w64 (x := pre o i + (pre o z1 - pre o (i + 1))) (by omega) (by omega), w64 (x := pre o i + (pre o z1 - pre o (i + 1)) + 1) (by omega) (by omega), show pre o i + (pre o z1 - pre o (i + 1)) + 1 = pre o z1 by omega]
        exact g1
    · obtain ⟨s', K, hK⟩ := ih (wrap64 (wrap64 (s + 1) + 1))
      have e1 := rd_mid c ws r 0 (by rw [hw1]; simp) (pre o i) (by omega)
      have e2 := rd_mid c ws r 1 (by rw [hw1]; simp) (pre o i + 1) (by omega)
      have e3 := rd_mid c ws r 2 (by rw [hw1]; simp) (pre o i + 2) (by omega)
      have b2 : pre o i + 2 < (R.length : Int) := by rw [eR, hw1]; simp only [List.length_append, List.length_cons, List.length_nil]; omega
      refine ⟨s', .succ (.succ ⟨K, fun k hk => ?_⟩)⟩
      have g1 := hK k (by omega)
      dsimp only at g1
      simp only [spec_Run.l0]
      rw [if_pos (by omega), if_pos b1.1, eR, e1, ← eR]
      simp only [hw1, List.getElem_cons_zero]
      rw [if_neg (by omega), if_neg (by omega), if_neg (by omega), if_neg (by omega), ht']
      simp only [Option.bind_some]
      cases t with
      | true =>
        have hyy : y1 = y := hy1.uniq hy
        subst hyy
        rw [if_pos rfl, w64 (x := pre o i + 0) (by omega) (by omega), w64 (x := pre o i + 0 + 1) (by omega) (by omega), show pre o i + 0 + 1 = pre o i + 1 by omega]
        rw [if_pos (by omega), if_pos (by omega), eR, e2, ← eR]
        simp only [hw1, List.getElem_cons_zero, List.getElem_cons_succ]
        rw [if_neg (by omega), if_neg (by omega), if_pos trivial, w64 (x := pre o i + 1 + (pre o y1 - pre o (i + 1) + 1)) (by omega) (by omega), w64 (x := pre o i + 1 + (pre o y1 - pre o (i + 1) + 1) + 1) (by omega) (by omega), show pre o i + 1 + (pre o y1 - pre o (i + 1) + 1) + 1 = pre o y1 by omega]
        exact g1
      | false =>
        have hyy : z1 = y := hz1.uniq hy
        subst hyy
        rw [if_neg (by simp), w64 (x := pre o i + 1) (by omega) (by omega), w64 (x := pre o i + 1 + 1) (by omega) (by omega), show pre o i + 1 + 1 = pre o i + 2 by omega]
        rw [if_pos (by omega), if_pos (by omega), eR, e3, ← eR]
        simp only [hw1, List.getElem_cons_zero, List.getElem_cons_succ]
        rw [if_neg (by omega), if_neg (by omega), if_pos trivial, w64 (x := pre o i + 2 + (pre o z1 - pre o (i + 1))) (by omega) (by omega), w64 (x := pre o i + 2 + (pre o z1 - pre o (i + 1)) + 1) (by omega) (by omega), show pre o i + 2 + (pre o z1 - pre o (i + 1)) + 1 = pre o z1 by omega]
        exact g1
    · omega
/-- The law's own asking. -/
theorem lw_j3 (k : Nat) (L : List S95) (R : List S93) (g r i s : Int) (e : ByteArray) (a b : Int) (w : List S48) (f0 : ByteArray) (op K c d : Int) (f2 f3 : ByteArray) (t : Bool) (ha : 3 ≤ op ∧ op ≤ 6) (ht : spec_l07Asks.f op K 0 0 g = some t) :
    laws_FnLayouts.j3 (k + 1) L R g r i s e true a b w f0 op K c d f2 f3 = laws_FnLayouts.j4 k L R g r i s (if t = true then f2 else f3) a b w := by
  simp only [laws_FnLayouts.j3, if_true]
  have h : op = 3 ∨ op = 4 ∨ op = 5 ∨ op = 6 := by omega
  unfold spec_l07Asks.f at ht
  rcases h with rfl | rfl | rfl | rfl
  · rw [if_pos rfl] at ht
    have ht := Option.some.inj ht
    subst ht
    by_cases c1 : g = K
    · simp [c1]
    · simp [c1]
  · rw [if_neg (by decide), if_pos rfl] at ht
    have ht := Option.some.inj ht
    subst ht
    by_cases c1 : g > K
    · simp [c1]
    · simp [c1]
  · rw [if_neg (by decide), if_neg (by decide), if_pos rfl] at ht
    have ht := Option.some.inj ht
    subst ht
    by_cases c1 : g ≥ K
    · simp [c1]
    · simp [c1]
  · rw [if_neg (by decide), if_neg (by decide), if_neg (by decide)] at ht
    have ht := Option.some.inj ht
    subst ht
    by_cases c1 : Go.bits .and .i64 g K = 0
    · simp [c1]
    · simp [c1]
/-- The law's own search of a place. -/
theorem lw_scan {L : List S95} (hn : L.length ≤ 600) (hI : IAll L) (R : List S93) (g r : Int) (s : Nat) (a b : Int) (w : List S48) {i y : Nat} {x : ByteArray} (hy : Way L i x y) (v : Bool) (hv : Evt (fun k => laws_FnLayouts.l0 k L R g r (y : Int) ((s + 1 : Nat) : Int) a b w) v) (hs : s ≤ 1000) :
    ∀ d j, j + d = y → i < j → Evt (fun k => laws_FnLayouts.l1 k L R g r (j : Int) (s : Int) x a b w) v := by
  have hx := hy.2.2.2.2.2
  have hyl := hy.2.1
  have es : wrap64 ((s : Int) + 1) = ((s + 1 : Nat) : Int) := by rw [w64 (by omega) (by omega)]; omega
  intro d
  induction d with
  | zero =>
    intro j hj _
    have : j = y := by omega
    subst this
    obtain ⟨K, hK⟩ := hv
    refine .succ ⟨K, fun k hk => ?_⟩
    obtain ⟨_, _, he⟩ := hy.2.2.1
    simp only [laws_FnLayouts.l1]
    rw [if_neg hx, if_pos (by omega), if_pos (by omega), nrd_T95 L j hyl, if_pos he, es]
    exact hK k hk
  | succ d ih =>
    intro j hj hij
    obtain ⟨K, hK⟩ := ih (j + 1) (by omega) (by omega)
    refine .succ ⟨K, fun k hk => ?_⟩
    have hjl : j < L.length := by omega
    have hne : ¬ L[j].f0.toList = x.toList := fun e => by
      by_cases hp : L[j].f1.f0 = 0
      · rcases hy.2.2.2.2.1 with ⟨m, m1, m2, m3, m4, m5⟩ | ⟨m1, _⟩
        · exact m5 j (by omega) (by omega) ⟨hjl, hp, e⟩
        · omega
      · obtain ⟨w0, h0⟩ := fstI L (by omega) L[j].f0 0 (by omega)
        obtain ⟨w2, h2⟩ := fstI L (by omega) L[j].f2 (j + 1) hjl
        obtain ⟨w3, h3⟩ := fstI L (by omega) L[j].f3 (j + 1) hjl
        rcases hI j hjl w0 w2 w3 h0 h2 h3 with h4 | h4
        · exact hp h4.1.1
        · exact hx (e ▸ h4.2.1)
    simp only [laws_FnLayouts.l1]
    rw [if_neg hx, if_pos (by omega), if_pos (by omega), nrd_T95 L j hjl, if_neg hne, wsucc (show j < 600 by omega) (by omega)]
    exact hK k hk
/-- The law's own run of the lines comes to what they come to. -/
theorem lw_run {L : List S95} (hn : L.length ≤ 600) (hI : IAll L) (R : List S93) (a b : Int) (w : List S48) {i : Nat} {g v : Int} (hE : Ends L a b w i g v) : ∀ (r : Bool) (s : Nat), s ≤ i → 0 ≤ v →
    Evt (fun k => (spec_Run.f k R a b w).bind fun bt => (impl_Sizes.f k L).bind fun t => laws_FnLayouts.l2 k L R v bt.1 t 0 0) r → Evt (fun k => laws_FnLayouts.l0 k L R g (-1) (i : Int) (s : Int) a b w) r := by
  have in0 : ∀ (x : Int) (k : Nat) (g : Int) (i s : Nat), i < L.length → s ≤ i → laws_FnLayouts.l0 (k + 1) L R g (-1) (i : Int) (s : Int) a b w = laws_FnLayouts.j2 k L R g (-1) (i : Int) (s : Int) true a b w := fun x k g i s hi hs => by
    simp only [laws_FnLayouts.l0]
    rw [if_pos (by omega)]
    rfl
  have on : ∀ (k : Nat) (g r : Int) (i s : Nat), i < L.length → s ≤ i → laws_FnLayouts.j4 (k + 2) L R g r (i : Int) (s : Int) (⟨#[]⟩ : ByteArray) a b w = laws_FnLayouts.l0 k L R g r ((i + 1 : Nat) : Int) ((s + 1 : Nat) : Int) a b w := fun k g r i s hi hs => by
    simp only [laws_FnLayouts.j4, laws_FnLayouts.l1]
    rw [if_pos (show (⟨#[]⟩ : ByteArray).toList = [] by rw [ByteArray.toList_eq]), wsucc (show i < 600 by omega) (by omega), wsucc (show s < 600 by omega) (by omega)]
  induction hE with
  | place i g v h c0 hE ih =>
    intro r s hs hv hr
    obtain ⟨K, hK⟩ := ih r (s + 1) (by omega) hv hr
    refine ⟨K + 5, fun k hk => ?_⟩
    obtain ⟨k, rfl⟩ : ∃ m, k = m + 5 := ⟨k - 5, by omega⟩
    have g1 := hK k (by omega)
    dsimp only at g1
    show laws_FnLayouts.l0 (k + 4 + 1) L R g (-1) (i : Int) (s : Int) a b w = _
    rw [in0 0 (k + 4) g i s h hs]
    simp only [laws_FnLayouts.j2, if_true]
    rw [if_pos (by omega), if_pos (by omega), nrd_T95 L i h]
    rw [if_neg (by omega), if_neg (by omega), if_neg (by omega), if_neg (by omega), if_neg (by omega), if_neg (by omega), if_neg (by omega), c0]
    simp only [laws_FnLayouts.j3]
    rw [if_neg (by decide)]
    exact (on k g (-1) i s h hs).trans g1
  | load i g v h p c1 hp hE ih =>
    intro r s hs hv hr
    obtain ⟨K, hK⟩ := ih r (s + 1) (by omega) hv hr
    obtain ⟨K2, h2⟩ := hp
    refine ⟨K + K2 + 4, fun k hk => ?_⟩
    obtain ⟨k, rfl⟩ : ∃ m, k = m + 4 := ⟨k - 4, by omega⟩
    have g1 := hK k (by omega)
    have g2 := h2 (k + 2) (by omega)
    dsimp only at g1 g2
    show laws_FnLayouts.l0 (k + 3 + 1) L R g (-1) (i : Int) (s : Int) a b w = _
    rw [in0 0 (k + 3) g i s h hs]
    simp only [laws_FnLayouts.j2, if_true]
    rw [if_pos (by omega), if_pos (by omega), nrd_T95 L i h, if_pos c1, g2]
    exact (on k p.1 (-1) i s h hs).trans g1
  | and i g v h c2 hE ih =>
    intro r s hs hv hr
    obtain ⟨K, hK⟩ := ih r (s + 1) (by omega) hv hr
    refine ⟨K + 4, fun k hk => ?_⟩
    obtain ⟨k, rfl⟩ : ∃ m, k = m + 4 := ⟨k - 4, by omega⟩
    have g1 := hK k (by omega)
    dsimp only at g1
    show laws_FnLayouts.l0 (k + 3 + 1) L R g (-1) (i : Int) (s : Int) a b w = _
    rw [in0 0 (k + 3) g i s h hs]
    simp only [laws_FnLayouts.j2, if_true]
    rw [if_pos (by omega), if_pos (by omega), nrd_T95 L i h, if_neg (by omega), if_pos c2]
    exact (on k _ (-1) i s h hs).trans g1
  | ret i g h c8 =>
    intro r s hs hv hr
    obtain ⟨K, hK⟩ := hr
    refine ⟨K + 6, fun k hk => ?_⟩
    obtain ⟨k, rfl⟩ : ∃ m, k = m + 6 := ⟨k - 6, by omega⟩
    have g1 := hK k (by omega)
    dsimp only at g1
    show laws_FnLayouts.l0 (k + 5 + 1) L R g (-1) (i : Int) (s : Int) a b w = _
    rw [in0 0 (k + 5) g i s h hs]
    simp only [laws_FnLayouts.j2, if_true]
    rw [if_pos (by omega), if_pos (by omega), nrd_T95 L i h, if_neg (by omega), if_neg (by omega), if_pos c8]
    refine (on (k + 2) g _ i s h hs).trans ?_
    have fin : ∀ u : Bool, u = false → laws_FnLayouts.j2 (k + 1) L R g L[i].f1.f1 ((i + 1 : Nat) : Int) ((s + 1 : Nat) : Int) u a b w = some r := fun u hu => by
      subst hu
      simp only [laws_FnLayouts.j2, Bool.false_eq_true, if_false]
      exact g1
    simp only [laws_FnLayouts.l0]
    have hd : decide (L[i].f1.f1 < 0) = false := decide_eq_false (by omega)
    split
    · exact fin _ hd
    · exact fin _ rfl
  | jump i g v h y c7 hy hE ih =>
    intro r s hs hv hr
    have h1 := hy.1
    obtain ⟨K, hK⟩ := lw_scan hn hI R g (-1) s a b w hy r (ih r (s + 1) (by omega) hv hr) (by omega) (y - (i + 1)) (i + 1) (by omega) (by omega)
    refine ⟨K + 3, fun k hk => ?_⟩
    obtain ⟨k, rfl⟩ : ∃ m, k = m + 3 := ⟨k - 3, by omega⟩
    have g1 := hK k (by omega)
    dsimp only at g1
    show laws_FnLayouts.l0 (k + 2 + 1) L R g (-1) (i : Int) (s : Int) a b w = _
    rw [in0 0 (k + 2) g i s h hs]
    simp only [laws_FnLayouts.j2, if_true]
    rw [if_pos (by omega), if_pos (by omega), nrd_T95 L i h, if_neg (by omega), if_neg (by omega), if_neg (by omega), if_pos c7]
    simp only [laws_FnLayouts.j4]
    rw [wsucc (show i < 600 by omega) (by omega)]
    exact g1
  | ask i g v h t y ha ht hy hE ih =>
    intro r s hs hv hr
    have h1 := hy.1
    obtain ⟨K, hK⟩ := lw_scan hn hI R g (-1) s a b w hy r (ih r (s + 1) (by omega) hv hr) (by omega) (y - (i + 1)) (i + 1) (by omega) (by omega)
    refine ⟨K + 4, fun k hk => ?_⟩
    obtain ⟨k, rfl⟩ : ∃ m, k = m + 4 := ⟨k - 4, by omega⟩
    have g1 := hK k (by omega)
    dsimp only at g1
    show laws_FnLayouts.l0 (k + 3 + 1) L R g (-1) (i : Int) (s : Int) a b w = _
    rw [in0 0 (k + 3) g i s h hs]
    simp only [laws_FnLayouts.j2, if_true]
    rw [if_pos (by omega), if_pos (by omega), nrd_T95 L i h, if_neg (by omega), if_neg (by omega), if_neg (by omega), if_neg (by omega)]
    have key : ∀ u : Bool, u = true → laws_FnLayouts.j3 (k + 2) L R g (-1) (i : Int) (s : Int) (⟨#[]⟩ : ByteArray) u a b w L[i].f0 L[i].f1.f0 L[i].f1.f1 L[i].f1.f2 L[i].f1.f3 L[i].f2 L[i].f3 = some r := fun u hu => by
      subst hu
      rw [lw_j3 (k + 1) L R g (-1) i s _ a b w _ _ _ _ _ _ _ t ha ht]
      simp only [laws_FnLayouts.j4]
      rw [wsucc (show i < 600 by omega) (by omega)]
      exact g1
    have h4 : L[i].f1.f0 = 3 ∨ L[i].f1.f0 = 4 ∨ L[i].f1.f0 = 5 ∨ L[i].f1.f0 = 6 := by omega
    rcases h4 with c | c | c | c
    · rw [if_pos c]; exact key _ (by rw [c]; rfl)
    · rw [if_neg (by omega), if_pos c]; exact key _ (by rw [c]; rfl)
    · rw [if_neg (by omega), if_neg (by omega), if_pos c]; exact key _ (by rw [c]; rfl)
    · rw [if_neg (by omega), if_neg (by omega), if_neg (by omega)]; exact key _ (by rw [c]; rfl)
/-- The sizes summed up. -/
theorem lw_sum (L : List S95) (R : List S93) (v : Int) (O : List Int) (hn : O.length ≤ 600) (ho : ∀ j (h : j < O.length), 0 ≤ O[j] ∧ O[j] ≤ 3) (hR : pre O O.length = (R.length : Int)) (b : Bool) (hb : Evt (fun k => impl_LinesOk.f k L) b) : ∀ d i, i + d = O.length → Evt (fun k => laws_FnLayouts.l2 k L R v v O (pre O i) (i : Int)) b := by
  intro d
  induction d with
  | zero =>
    intro i hi
    obtain ⟨K, hK⟩ := hb
    have : i = O.length := by omega
    subst this
    refine .succ ⟨K, fun k hk => ?_⟩
    simp only [laws_FnLayouts.l2]
    rw [if_neg (by omega), if_pos trivial, if_pos hR]
    rw [show impl_LinesOk.f k L = some b from hK k hk]
    rfl
  | succ d ih =>
    intro i hi
    obtain ⟨K, hK⟩ := ih (i + 1) (by omega)
    have h1 := pre_bound ho i (by omega)
    have h2 := ho i (by omega)
    have ps := pre_succ (o := O) (i := i) (by omega)
    refine .succ ⟨K, fun k hk => ?_⟩
    have g1 := hK k hk
    dsimp only at g1
    simp only [laws_FnLayouts.l2]
    rw [if_pos (by omega), if_pos (by omega), nrdI O i (by omega), w64 (x := pre O i + O[i]) (by omega) (by omega), wsucc (show i < 600 by omega) (by omega), ← ps]
    exact g1
/-- A place of a name stands there. -/
def To (post : List S95) (s : ByteArray) : Prop := ∃ z ∈ post, z.f1.f0 = 0 ∧ z.f0.toList = s.toList
/-- A line that is right between others. -/
def Gd (pr : List S95) (x : S95) (post : List S95) : Prop :=
  (PZ x ∧ (1 ≤ (x.f0.size : Int) ∧ (x.f0.size : Int) ≤ 12) ∧ x.f2.toList = [] ∧ x.f3.toList = [] ∧ ∀ z ∈ pr, z.f1.f0 = 0 → z.f0.toList ≠ x.f0.toList) ∨
  (¬ x.f1.f0 = 0 ∧ x.f0.toList = [] ∧ x.f1.f2 = 0 ∧ x.f1.f3 = 0 ∧ (x.f1.f0 = 7 → x.f1.f1 = 0) ∧ InsP x.f1.f0 x.f1.f1 x.f1.f2 x.f1.f3 ∧
    ((x.f1.f0 = 7 ∧ x.f3.toList = [] ∧ To post x.f2) ∨ ((3 ≤ x.f1.f0 ∧ x.f1.f0 ≤ 6) ∧ To post x.f2 ∧ To post x.f3) ∨ (¬ x.f1.f0 = 7 ∧ ¬ (3 ≤ x.f1.f0 ∧ x.f1.f0 ≤ 6) ∧ x.f2.toList = [] ∧ x.f3.toList = [])))
def Ok (pr : List S95) : List S95 → List S95 → Prop
  | [], _ => True
  | x :: l, post => Gd pr x (l ++ post) ∧ Ok (pr ++ [x]) l post
theorem To.mono {p q : List S95} {s : ByteArray} (h : To p s) (hs : ∀ z ∈ p, z ∈ q) : To q s := by
  obtain ⟨z, h1, h2⟩ := h
  exact ⟨z, hs z h1, h2⟩
theorem Gd.mono {pr p q : List S95} {x : S95} (h : Gd pr x p) (hs : ∀ z ∈ p, z ∈ q) : Gd pr x q := by
  rcases h with h | ⟨a, b, c, d, e, f, g⟩
  · exact .inl h
  · refine .inr ⟨a, b, c, d, e, f, ?_⟩
    rcases g with ⟨g1, g2, g3⟩ | ⟨g1, g2, g3⟩ | g
    · exact .inl ⟨g1, g2, g3.mono hs⟩
    · exact .inr (.inl ⟨g1, g2.mono hs, g3.mono hs⟩)
    · exact .inr (.inr g)
theorem Ok.mono {q : List S95} : ∀ {l pr p : List S95}, Ok pr l p → (∀ z ∈ p, z ∈ q) → Ok pr l q
  | [], _, _, _, _ => trivial
  | x :: l, pr, p, h, hs => ⟨h.1.mono (fun z hz => by
      rcases List.mem_append.1 hz with h1 | h1
      · exact List.mem_append_left _ h1
      · exact List.mem_append_right _ (hs z h1)), Ok.mono h.2 hs⟩
theorem Ok.app {post : List S95} : ∀ {l pr m : List S95}, Ok pr l (m ++ post) → Ok (pr ++ l) m post → Ok pr (l ++ m) post
  | [], pr, m, _, h => by simpa using h
  | x :: l, pr, m, h, g => ⟨by show Gd pr x ((l ++ m) ++ post); rw [List.append_assoc]; exact h.1, Ok.app h.2 (by rw [List.append_assoc]; exact g)⟩
theorem Ok.get {post : List S95} : ∀ {l pr : List S95}, Ok pr l post → ∀ j (h : j < l.length), Gd (pr ++ l.take j) l[j] (l.drop (j + 1) ++ post)
  | [], _, _, _, h => absurd h (by simp)
  | x :: l, pr, hk, 0, h => by simpa using hk.1
  | x :: l, pr, hk, j + 1, h => by
    have := Ok.get hk.2 j (by simpa using h)
    simpa using this
theorem iAll_of {L : List S95} (h : Ok [] L []) : IAll L := by
  intro j hj w0 w2 w3 h0 h2 h3
  have hg := h.get j hj
  simp only [List.nil_append, List.append_nil] at hg
  have found : ∀ (s : ByteArray) (w : Int), To (L.drop (j + 1)) s → Fst (QI L s.toList) L.length (j + 1) w → w ≥ 0 := fun s w ht hw => by
    obtain ⟨z, hz, z0, z1⟩ := ht
    obtain ⟨m, hm, e⟩ := List.mem_iff_getElem.1 hz
    rw [List.getElem_drop] at e
    rw [List.length_drop] at hm
    rcases hw with ⟨u, _, _, _, u4, _⟩ | ⟨_, u2⟩
    · omega
    · exact absurd ⟨by omega, by rw [e]; exact z0, by rw [e]; exact z1⟩ (u2 (j + 1 + m) (by omega) (by omega))
  rcases hg with ⟨a, b, c, d, e⟩ | ⟨a, b, c, d, e, f, g⟩
  · refine .inl ⟨a, b, c, d, ?_⟩
    rcases h0 with ⟨u, u1, u2, ⟨_, u3, u4⟩, u5, u6⟩ | ⟨_, u2⟩
    · have n1 : ¬ j < u := fun hlt => u6 j (by omega) hlt ⟨hj, a.1, rfl⟩
      have n2 : ¬ u < j := fun hlt => e L[u] (by
        have : (L.take j)[u]'(by rw [List.length_take]; omega) = L[u] := List.getElem_take
        exact this ▸ List.getElem_mem _) u3 u4
      omega
    · exact absurd ⟨hj, a.1, rfl⟩ (u2 j (by omega) hj)
  · refine .inr ⟨a, b, c, d, e, f, ?_⟩
    rcases g with ⟨g1, g2, g3⟩ | ⟨g1, g2, g3⟩ | g
    · exact .inl ⟨g1, g2, found _ _ g3 h2⟩
    · exact .inr (.inl ⟨g1, found _ _ g2 h2, found _ _ g3 h3⟩)
    · exact .inr (.inr g)
def tN (i : Nat) : ByteArray := strOfNums [(48 + (i : Int)) % 256]
def aN (i : Nat) : ByteArray := (⟨#[97]⟩ : ByteArray) ++ tN i
def bN (i : Nat) : ByteArray := (⟨#[98]⟩ : ByteArray) ++ tN i
theorem nm_ne : ∀ i, i < 4 → ∀ j, j < 4 → ((aN i).toList = (aN j).toList → i = j) ∧ ((bN i).toList = (bN j).toList → i = j) ∧ (aN i).toList ≠ (bN j).toList := by
  simp only [ByteArray.toList_eq]
  decide
theorem nm_size (i : Nat) : (aN i).size = 2 ∧ (bN i).size = 2 := by
  have h : (tN i).size = 1 := rfl
  unfold aN bN
  simp only [ByteArray.size_append, h]
  exact ⟨rfl, rfl⟩
theorem emp : (⟨#[]⟩ : ByteArray).toList = [] := by rw [ByteArray.toList_eq]
/-- What stands behind i groups. -/
def Inv (i : Nat) (P : List S95) : Prop := Ok [] P [] ∧ ∀ z ∈ P, z.f1.f0 = 0 → ∃ q, q < i ∧ (z.f0 = aN q ∨ z.f0 = bN q)
/-- What stands between an ask and its places. -/
def Xs (i : Nat) (x : S95) : Prop := (∃ v : Int, (0 ≤ v ∧ v ≤ 4294967295) ∧ x = ⟨⟨#[]⟩, ⟨2, v, 0, 0⟩, ⟨#[]⟩, ⟨#[]⟩⟩) ∨ x = ⟨⟨#[]⟩, ⟨7, 0, 0, 0⟩, bN i, ⟨#[]⟩⟩
theorem xs_ok (i : Nat) {post : List S95} (hp : To post (bN i)) : ∀ {X pr : List S95}, (∀ x ∈ X, Xs i x) → Ok pr X post
  | [], _, _ => trivial
  | x :: X, pr, h => by
    refine ⟨?_, xs_ok i hp (fun y hy => h y (List.mem_cons_of_mem _ hy))⟩
    rcases h x List.mem_cons_self with ⟨v, hv, e⟩ | e
    · subst e
      refine .inr ⟨by simp, emp, rfl, rfl, fun h => by simp at h, ?_, .inr (.inr ⟨by simp, by simp, emp, emp⟩)⟩
      unfold InsP; dsimp only; omega
    · subst e
      refine .inr ⟨by simp, emp, rfl, rfl, fun _ => rfl, ?_, .inl ⟨rfl, emp, hp.mono (fun z hz => List.mem_append_right _ hz)⟩⟩
      unfold InsP; dsimp only; omega
theorem grp {i : Nat} (hi : i < 4) {P X : List S95} (hP : Inv i P) (q v u k : Int) (hq : 0 ≤ q ∧ q < 4) (hv : 0 ≤ v ∧ v ≤ 4294967295) (hu : 0 ≤ u ∧ u < 8) (hk : 0 ≤ k ∧ k ≤ 4294967295) (hX : ∀ x ∈ X, Xs i x) :
    Inv (i + 1) (P ++ ((⟨⟨#[]⟩, ⟨3 + q, v, 0, 0⟩, aN i, bN i⟩ : S95) :: (X ++ [⟨aN i, ⟨0, 0, 0, 0⟩, ⟨#[]⟩, ⟨#[]⟩⟩, ⟨⟨#[]⟩, ⟨1, u, 0, 0⟩, ⟨#[]⟩, ⟨#[]⟩⟩, ⟨bN i, ⟨0, 0, 0, 0⟩, ⟨#[]⟩, ⟨#[]⟩⟩, ⟨⟨#[]⟩, ⟨2, k, 0, 0⟩, ⟨#[]⟩, ⟨#[]⟩⟩]))) := by
  obtain ⟨hk1, hk2⟩ := hP
  have sz := nm_size i
  have tb : ∀ p : List S95, To (p ++ [⟨aN i, ⟨0, 0, 0, 0⟩, ⟨#[]⟩, ⟨#[]⟩⟩, ⟨⟨#[]⟩, ⟨1, u, 0, 0⟩, ⟨#[]⟩, ⟨#[]⟩⟩, ⟨bN i, ⟨0, 0, 0, 0⟩, ⟨#[]⟩, ⟨#[]⟩⟩, ⟨⟨#[]⟩, ⟨2, k, 0, 0⟩, ⟨#[]⟩, ⟨#[]⟩⟩]) (bN i) := fun p => ⟨⟨bN i, ⟨0, 0, 0, 0⟩, ⟨#[]⟩, ⟨#[]⟩⟩, by simp, rfl, rfl⟩
  have ta : ∀ p : List S95, To (p ++ [⟨aN i, ⟨0, 0, 0, 0⟩, ⟨#[]⟩, ⟨#[]⟩⟩, ⟨⟨#[]⟩, ⟨1, u, 0, 0⟩, ⟨#[]⟩, ⟨#[]⟩⟩, ⟨bN i, ⟨0, 0, 0, 0⟩, ⟨#[]⟩, ⟨#[]⟩⟩, ⟨⟨#[]⟩, ⟨2, k, 0, 0⟩, ⟨#[]⟩, ⟨#[]⟩⟩]) (aN i) := fun p => ⟨⟨aN i, ⟨0, 0, 0, 0⟩, ⟨#[]⟩, ⟨#[]⟩⟩, by simp, rfl, rfl⟩
  have xz : ∀ x ∈ X, ¬ x.f1.f0 = 0 := fun x hx => by
    rcases hX x hx with ⟨v, _, e⟩ | e <;> (subst e; simp)
  refine ⟨Ok.app (hk1.mono (fun z hz => absurd hz (by simp))) ⟨?_, ?_⟩, ?_⟩
  · refine .inr ⟨by dsimp only; omega, emp, rfl, rfl, fun h => by dsimp only at h; omega, ?_, .inr (.inl ⟨by dsimp only; omega, by rw [List.append_nil]; exact ta X, by rw [List.append_nil]; exact tb X⟩)⟩
    unfold InsP; dsimp only; omega
  · refine Ok.app (xs_ok i (by rw [List.append_nil]; exact tb []) hX) ⟨?_, ?_, ?_, ?_, trivial⟩
    · refine .inl ⟨⟨rfl, rfl, rfl, rfl⟩, by dsimp only; omega, emp, emp, fun z hz h0 => ?_⟩
      rcases List.mem_append.1 hz with hz | hz
      · rcases List.mem_append.1 hz with hz | hz
        · obtain ⟨m, hm, e | e⟩ := hk2 z (by simpa using hz) h0
          · rw [e]; exact fun h => by have := (nm_ne m (by omega) i hi).1 h; omega
          · rw [e]; exact fun h => (nm_ne i hi m (by omega)).2.2 h.symm
        · simp only [List.mem_singleton] at hz
          subst hz
          dsimp only at h0
          omega
      · exact absurd h0 (xz z hz)
    · refine .inr ⟨by simp, emp, rfl, rfl, fun h => by simp at h, ?_, .inr (.inr ⟨by simp, by simp, emp, emp⟩)⟩
      unfold InsP; dsimp only; omega
    · refine .inl ⟨⟨rfl, rfl, rfl, rfl⟩, by dsimp only; omega, emp, emp, fun z hz h0 => ?_⟩
      simp only [List.nil_append, List.append_assoc, List.mem_append, List.mem_singleton] at hz
      rcases hz with hz | hz | hz | hz | hz
      · obtain ⟨m, hm, e | e⟩ := hk2 z hz h0
        · rw [e]; exact (nm_ne m (by omega) i hi).2.2
        · rw [e]; exact fun h => by have := (nm_ne m (by omega) i hi).2.1 h; omega
      · subst hz; dsimp only at h0; omega
      · exact absurd h0 (xz z hz)
      · subst hz; exact (nm_ne i hi i hi).2.2
      · subst hz; dsimp only at h0; omega
    · refine .inr ⟨by simp, emp, rfl, rfl, fun h => by simp at h, ?_, .inr (.inr ⟨by simp, by simp, emp, emp⟩)⟩
      unfold InsP; dsimp only; omega
  · intro z hz h0
    simp only [List.mem_append, List.mem_cons, List.not_mem_nil, or_false] at hz
    rcases hz with hz | hz | hz | hz | hz | hz | hz
    · obtain ⟨m, hm, e⟩ := hk2 z hz h0
      exact ⟨m, by omega, e⟩
    · subst hz; dsimp only at h0; omega
    · exact absurd h0 (xz z hz)
    · subst hz; exact ⟨i, by omega, .inl rfl⟩
    · subst hz; dsimp only at h0; omega
    · subst hz; exact ⟨i, by omega, .inr rfl⟩
    · subst hz; dsimp only at h0; omega
theorem resR (a b : Int) (ha : 0 ≤ a ∧ a < 6) (hb : 0 ≤ b ∧ b < 4) : ∃ v, spec_ResultOf.f a b = some v ∧ 0 ≤ v ∧ v ≤ 4294967295 := by
  simp only [spec_ResultOf.f, inS, Option.bind_some, decide_eq_true_eq]
  rw [if_pos (by omega), if_pos (by omega), w64 (x := 65536 * a) (by omega) (by omega), w64 (by omega) (by omega)]
  exact ⟨_, rfl, by omega, by omega⟩
theorem and255 (x : Int) : 0 ≤ Go.bits .and .i64 x 255 ∧ Go.bits .and .i64 x 255 ≤ 255 := by
  have h : ((BitVec.ofInt IntKind.i64.bits x) &&& (BitVec.ofInt IntKind.i64.bits 255)).toNat ≤ 255 := by
    rw [BitVec.toNat_and]
    exact Nat.le_trans Nat.and_le_right (by decide)
  have e : Go.bits .and .i64 x 255 = IntKind.i64.wrap ((((BitVec.ofInt IntKind.i64.bits x) &&& (BitVec.ofInt IntKind.i64.bits 255)).toNat : Nat) : Int) := rfl
  rw [e, IntKind.wrap_i64]
  omega
theorem byte {s : List Int} (hs : s.length ≤ 1048576) (p e : Int) (hp : 0 ≤ p) : ∃ b p' e', spec_l01Byte.f s p e = some (b, p', e') ∧ (0 ≤ b ∧ b ≤ 255) ∧ 0 ≤ p' := by
  unfold spec_l01Byte.f
  by_cases h : p < (s.length : Int)
  · rw [if_pos h, if_pos hp]
    exact ⟨_, _, _, rfl, and255 _, by rw [w64 (by omega) (by omega)]; omega⟩
  · rw [if_neg h]
    exact ⟨_, _, _, rfl, and255 _, hp⟩
theorem below {s : List Int} (hs : s.length ≤ 1048576) (p e : Int) (hp : 0 ≤ p) (n : Int) (h1 : 1 ≤ n) (h2 : n ≤ 256) : ∃ r p' e', spec_l01Below.f s p e n = some (r, p', e') ∧ (0 ≤ r ∧ r < n) ∧ 0 ≤ p' := by
  obtain ⟨b, p', e', hb, hr, hp'⟩ := byte hs p e hp
  unfold spec_l01Below.f
  rw [if_neg (by omega), if_pos h2, hb]
  simp only [Option.bind_some]
  rw [if_neg (by omega)]
  refine ⟨_, _, _, rfl, ?_, hp'⟩
  rw [Int.tmod_eq_emod_of_nonneg hr.1]
  exact ⟨Int.emod_nonneg _ (by omega), Int.emod_lt_of_pos _ (by omega)⟩
theorem once {s : List Int} (hs : s.length ≤ 1048576) (p e : Int) (hp : 0 ≤ p) (n : Int) (h1 : 1 ≤ n) (h2 : n ≤ 256) : ∃ r p' e', spec_l01Once.f s p e n = some (r, p', e') ∧ 0 ≤ p' := by
  obtain ⟨r, p', e', h, _, hp'⟩ := below hs p e hp n h1 h2
  exact ⟨_, p', e', by unfold spec_l01Once.f; rw [h]; rfl, hp'⟩
theorem pick {s : List Int} (hs : s.length ≤ 1048576) (p e : Int) (hp : 0 ≤ p) (l : List Int) (h1 : 1 ≤ (l.length : Int)) (h2 : (l.length : Int) ≤ 256) : ∃ v p' e', spec_l01PickInt.f s p e l = some (v, p', e') ∧ v ∈ l ∧ 0 ≤ p' := by
  obtain ⟨r, p', e', h, hr, hp'⟩ := below hs p e hp _ h1 h2
  refine ⟨rd l r, p', e', by unfold spec_l01PickInt.f; rw [h]; simp only [Option.bind_some]; rw [if_pos hr.1, if_pos hr.2], ?_, hp'⟩
  obtain ⟨i, rfl⟩ := Int.eq_ofNat_of_zero_le hr.1
  have hi : i < l.length := by omega
  have e : rd l (i : Int) = l[i] := getD_lt _ hi
  rw [e]
  exact List.getElem_mem hi
theorem half {s : List Int} (hs : s.length ≤ 1048576) (p e : Int) (hp : 0 ≤ p) : ∃ v p' e', spec_l04Half.f s p e = some (v, p', e') ∧ (0 ≤ v ∧ v ≤ 4294967295) ∧ 0 ≤ p' := by
  obtain ⟨r, p1, e1, h, hr, hp1⟩ := below hs p e hp 12 (by omega) (by omega)
  obtain ⟨v, p2, e2, g, hv, hp2⟩ := pick hs p1 e1 hp1 [0, 1, 2, 3, 5, 7, 255, 4294967295, 2147483648, r] (by simp) (by simp)
  refine ⟨v, p2, e2, by unfold spec_l04Half.f; rw [h]; simp only [Option.bind_some]; rw [g]; rfl, ?_, hp2⟩
  simp only [List.mem_cons, List.not_mem_nil, or_false] at hv
  omega
theorem wide {s : List Int} (hs : s.length ≤ 1048576) (p e : Int) (hp : 0 ≤ p) : ∃ a b p' e', spec_l04Wide.f s p e = some (a, b, p', e') ∧ ((0 ≤ a ∧ a ≤ 4294967295) ∧ (0 ≤ b ∧ b ≤ 4294967295)) ∧ 0 ≤ p' := by
  obtain ⟨r, p1, e1, h, hr, hp1⟩ := half hs p e hp
  obtain ⟨b, p2, e2, g, hp2⟩ := once hs p1 e1 hp1 3 (by omega) (by omega)
  unfold spec_l04Wide.f
  rw [h]
  simp only [Option.bind_some]
  rw [g]
  simp only [Option.bind_some]
  cases b with
  | true =>
    obtain ⟨q, p3, e3, f, hq, hp3⟩ := half hs p2 e2 hp2
    rw [if_pos rfl, f]
    exact ⟨_, _, _, _, rfl, ⟨hq, hr⟩, hp3⟩
  | false =>
    rw [if_neg (by simp)]
    exact ⟨_, _, _, _, rfl, ⟨by omega, hr⟩, hp2⟩
theorem newC (l : List Int) (hl : l.length ≤ 1048576) : ∃ e, Evt (fun k => spec_l01New.f k l) (l, 0, e) := by
  have key : ∀ (d i : Nat) (e : Int), i + d = l.length → ∃ e', Evt (fun k => spec_l01New.l0 k l e (i : Int)) (l, 0, e') := by
    intro d
    induction d with
    | zero =>
      intro i e h
      exact ⟨e, .succ (.const fun k => by simp only [spec_l01New.l0]; rw [if_neg (by omega)])⟩
    | succ d ih =>
      intro i e h
      by_cases h4 : (i : Int) < 4000
      · obtain ⟨e', K, hK⟩ := ih (i + 1) (Go.bits .and .i64 (wrap64 ((wrap64 ((wrap64 (e * 131)) + (wrap64 (rd l (i : Int))))) + 7)) 1073741823) (by omega)
        refine ⟨e', .succ ⟨K, fun k hk => ?_⟩⟩
        simp only [spec_l01New.l0]
        rw [if_pos (by omega), if_pos h4, if_pos (by omega), wsucc (show i < l.length by omega) (by omega)]
        exact hK k hk
      · exact ⟨e, .succ (.const fun k => by simp only [spec_l01New.l0]; rw [if_pos (by omega), if_neg h4])⟩
  exact key l.length 0 _ (by omega)
def WideR (y : S48) : Prop := (0 ≤ y.f0 ∧ y.f0 ≤ 4294967295) ∧ (0 ≤ y.f1 ∧ y.f1 ≤ 4294967295)
theorem callR_l0 {s : List Int} (hs : s.length ≤ 1048576) (a b : Int) : ∀ (d i : Nat) (p e : Int) (w : List S48), i + d = 3 → 0 ≤ p → w.length = i → (∀ y ∈ w, WideR y) → ∃ W p' e', Evt (fun k => spec_l04Call.l0 k (i : Int) s p e a b w) (a, b, W, p', e') ∧ W.length = 3 ∧ (∀ y ∈ W, WideR y) ∧ 0 ≤ p' := by
  intro d
  induction d with
  | zero =>
    intro i p e w hi hp hw hc
    refine ⟨w, p, e, .succ (.const fun k => ?_), by omega, hc, hp⟩
    simp only [spec_l04Call.l0]
    rw [if_neg (by omega)]
  | succ d ih =>
    intro i p e w hi hp hw hc
    obtain ⟨x, y, p1, e1, h1, hx, hp1⟩ := wide hs p e hp
    obtain ⟨W, p', e', ⟨K, h⟩, hW⟩ := ih (i + 1) p1 e1 (w ++ [⟨x, y⟩]) (by omega) hp1 (by simp; omega) (fun z hz => by
      rcases List.mem_append.1 hz with hz | hz
      · exact hc z hz
      · rw [List.mem_singleton] at hz
        subst hz
        exact hx)
    refine ⟨W, p', e', .succ ⟨K, fun k hk => ?_⟩, hW⟩
    have q := h k hk
    simp only [spec_l04Call.l0, h1, Option.bind_some]
    rw [if_pos (by omega), if_pos (by omega), wsucc (show i < 3 by omega) (by omega)]
    exact q
theorem callR {s : List Int} (hs : s.length ≤ 1048576) (p e : Int) (hp : 0 ≤ p) : ∃ a b W p' e', Evt (fun k => spec_l04Call.f k s p e) (a, b, W, p', e') ∧ ((0 ≤ a ∧ a ≤ 4294967295) ∧ (0 ≤ b ∧ b ≤ 4294967295) ∧ W.length = 3 ∧ ∀ y ∈ W, WideR y) ∧ 0 ≤ p' := by
  obtain ⟨a, p1, e1, h1, ha, hp1⟩ := pick hs p e hp [62, 62, 62, 62, 3] (by simp) (by simp)
  obtain ⟨b, p2, e2, h2, hb, hp2⟩ := pick hs p1 e1 hp1 [0, 1, 2, 3, 4, 6, 9, 11, 4294967295, 77] (by simp) (by simp)
  simp only [List.mem_cons, List.not_mem_nil, or_false] at ha hb
  obtain ⟨W, p', e', ⟨K, h⟩, hW3, hW, hp'⟩ := callR_l0 hs a b 3 0 p2 e2 [] (by omega) hp2 rfl (fun y hy => by simp at hy)
  refine ⟨a, b, W, p', e', ⟨K, fun k hk => ?_⟩, ⟨by omega, by omega, hW3, hW⟩, hp'⟩
  have q := h k hk
  simp only [spec_l04Call.f, h1, h2, Option.bind_some]
  exact q
theorem figS (i : Nat) (hi : i < 10) : Evt (fun k => spec_Decimal.f k (i : Int)) (strOfNums [(48 + (i : Int)) % 256]) := by
  by_cases h : (i : Int) = 0
  · refine .const fun k => ?_
    simp only [spec_Decimal.f]
    rw [if_pos h, h]
    rfl
  · have ed : Int.tdiv (i : Int) 10 = 0 := by rw [Int.tdiv_eq_ediv_of_nonneg (by omega)]; omega
    have em : Int.tmod (i : Int) 10 = i := by rw [Int.tmod_eq_emod_of_nonneg (by omega)]; omega
    have e48 : Aside0 (wrap64 (48 + (i : Int)) = 48 + i) := ⟨w64 (by omega) (by omega)⟩
    have e0 : Aside0 (wrap64 0 = 0) := ⟨w64 (by omega) (by omega)⟩
    have hs : (strOfNums [(48 + (i : Int)) % 256] ++ (⟨#[]⟩ : ByteArray)) = strOfNums [(48 + (i : Int)) % 256] := by rw [show (⟨#[]⟩ : ByteArray) = ByteArray.empty from rfl, ByteArray.append_empty]
    have hz : (strOfNums [(48 + (i : Int)) % 256]).size = 1 := rfl
    have hd : decide ((i : Int) < 0) = false := decide_eq_false (by omega)
    refine .succ (.succ (.succ (.const fun k => ?_)))
    simp only [spec_Decimal.f]
    rw [if_neg h, hd]
    simp only [spec_Decimal.l0, ed, em, spec_l01Figure.f, e48.out, e0.out, if_true]
    rw [if_neg h, if_neg (by omega), if_pos (by omega)]
    simp only [Option.bind_some]
    rw [if_pos (by rw [hz]; show 1 + 0 ≤ _; omega), if_neg (by simp), hs]
def Rt (R : List S95) : Prop := 1 ≤ R.length ∧ R.length ≤ 122 ∧ Ok [] R [] ∧ ∃ h : R.length - 1 < R.length, R[R.length - 1].f1.f0 = 8
theorem lines_l0R {s : List Int} (hs : s.length ≤ 1048576) (n : Nat) (hn : n ≤ 4) : ∀ (d i : Nat) (p e : Int) (L : List S95), i + d = n → 0 ≤ p → L.length ≤ 1 + 30 * i → Inv i L → ∃ R p' e', Evt (fun k => spec_l11Lines.l0 k L (n : Int) (i : Int) s p e) (R, p', e') ∧ Rt R ∧ 0 ≤ p' := by
  intro d
  induction d with
  | zero =>
    intro i p e L hi hp hL hI
    obtain ⟨x, p1, e1, h1, hx, hp1⟩ := below hs p e hp 6 (by omega) (by omega)
    obtain ⟨y, p2, e2, h2, hy, hp2⟩ := below hs p1 e1 hp1 4 (by omega) (by omega)
    obtain ⟨v, hv, hv2⟩ := resR x y (by omega) (by omega)
    refine ⟨L ++ [⟨⟨#[]⟩, ⟨8, v, 0, 0⟩, ⟨#[]⟩, ⟨#[]⟩⟩], p2, e2, .succ (.const fun k => ?_), ⟨?_, ?_, ?_, ?_⟩, hp2⟩
    · simp only [spec_l11Lines.l0, h1, h2, hv, spec_l11Word.f, Option.bind_some]
      rw [if_neg (by omega), if_pos (by omega)]
    · simp
    · simp; omega
    · refine Ok.app (hI.1.mono (fun z hz => absurd hz (by simp))) ⟨?_, trivial⟩
      refine .inr ⟨by simp, emp, rfl, rfl, fun h => by simp at h, ?_, .inr (.inr ⟨by simp, by simp, emp, emp⟩)⟩
      unfold InsP; dsimp only; omega
    · refine ⟨by simp, ?_⟩
      simp
  | succ d ih =>
    intro i p e L hi hp hL hI
    obtain ⟨Kd, hd⟩ := figS i (by omega)
    dsimp only at hd
    have hd : ∀ k, Kd ≤ k → spec_Decimal.f k (i : Int) = some (tN i) := hd
    have htz : (tN i).size = 1 := rfl
    have j2 : ∀ (p e q v : Int) (X : List S95), 0 ≤ p → (0 ≤ q ∧ q < 4) → (0 ≤ v ∧ v ≤ 4294967295) → X.length ≤ 25 → (∀ x ∈ X, Xs i x) → ∃ R p' e', Evt (fun k => spec_l11Lines.j2 k (L ++ ((⟨⟨#[]⟩, ⟨3 + q, v, 0, 0⟩, aN i, bN i⟩ : S95) :: X)) (n : Int) (i : Int) (aN i) (bN i) s p e) (R, p', e') ∧ Rt R ∧ 0 ≤ p' := fun p e q w X hp hq hw hX hXs => by
      obtain ⟨u, p1, e1, h1, hu, hp1⟩ := below hs p e hp 8 (by omega) (by omega)
      obtain ⟨v, p2, e2, h2, hv, hp2⟩ := half hs p1 e1 hp1
      have hI2 := grp (by omega) hI q w u v hq hw hu hv hXs
      obtain ⟨R, p', e', ⟨K, hK⟩, hR⟩ := ih (i + 1) p2 e2 _ (by omega) hp2 (by simp only [List.length_append, List.length_cons, List.length_nil]; omega) hI2
      refine ⟨R, p', e', .succ ⟨K, fun k hk => ?_⟩, hR⟩
      have g := hK k hk
      dsimp only at g
      simp only [spec_l11Lines.j2, h1, h2, spec_l11Word.f, Option.bind_some]
      rw [if_pos (by simp only [List.length_append, List.length_cons, List.length_nil]; omega), if_pos (by simp only [List.length_append, List.length_cons, List.length_nil]; omega), wsucc (show i < n by omega) (by omega)]
      simp only [List.append_assoc, List.cons_append, List.nil_append] at g ⊢
      exact g
    have l1 : ∀ (m j : Nat) (p e q v : Int) (X : List S95), j + m = 20 → 0 ≤ p → (0 ≤ q ∧ q < 4) → (0 ≤ v ∧ v ≤ 4294967295) → X.length ≤ j → (∀ x ∈ X, Xs i x) → ∃ R p' e', Evt (fun k => spec_l11Lines.l1 k (L ++ ((⟨⟨#[]⟩, ⟨3 + q, v, 0, 0⟩, aN i, bN i⟩ : S95) :: X)) (n : Int) (i : Int) (aN i) (bN i) (j : Int) s p e) (R, p', e') ∧ Rt R ∧ 0 ≤ p' := by
      have stop : ∀ (j : Nat) (p e q v : Int) (X : List S95) (c p1 e1 : Int), spec_l01PickInt.f s p e [0, 1, 3, 14, 15, 16, 20] = some (c, p1, e1) → 0 ≤ p1 → ¬ (j : Int) < c → j ≤ 20 → (0 ≤ q ∧ q < 4) → (0 ≤ v ∧ v ≤ 4294967295) → X.length ≤ j → (∀ x ∈ X, Xs i x) → ∃ R p' e', Evt (fun k => spec_l11Lines.l1 k (L ++ ((⟨⟨#[]⟩, ⟨3 + q, v, 0, 0⟩, aN i, bN i⟩ : S95) :: X)) (n : Int) (i : Int) (aN i) (bN i) (j : Int) s p e) (R, p', e') ∧ Rt R ∧ 0 ≤ p' := fun j p e q v X c p1 e1 h1 hp1 hc hj hq hv hX hXs => by
        obtain ⟨o, p2, e2, h2, hp2⟩ := once hs p1 e1 hp1 2 (by omega) (by omega)
        cases o with
        | true =>
          obtain ⟨R, p', e', ⟨K, hK⟩, hR⟩ := j2 p2 e2 q v (X ++ [⟨⟨#[]⟩, ⟨7, 0, 0, 0⟩, bN i, ⟨#[]⟩⟩]) hp2 hq hv (by simp; omega) (fun x hx => by
            rcases List.mem_append.1 hx with hx | hx
            · exact hXs x hx
            · exact .inr (by simpa using hx))
          refine ⟨R, p', e', .succ ⟨K, fun k hk => ?_⟩, hR⟩
          have g := hK k hk
          dsimp only at g
          simp only [spec_l11Lines.l1, h1, h2, spec_l11Asks.f, Option.bind_some]
          rw [if_neg hc, if_pos trivial, if_pos (by simp only [List.length_append, List.length_cons]; omega)]
          simp only [List.append_assoc, List.cons_append, List.nil_append] at g ⊢
          exact g
        | false =>
          obtain ⟨R, p', e', ⟨K, hK⟩, hR⟩ := j2 p2 e2 q v X hp2 hq hv (by omega) hXs
          refine ⟨R, p', e', .succ ⟨K, fun k hk => ?_⟩, hR⟩
          have g := hK k hk
          simp only [spec_l11Lines.l1, h1, h2, Option.bind_some]
          rw [if_neg hc, if_neg (by simp)]
          exact g
      intro m
      induction m with
      | zero =>
        intro j p e q v X hj hp hq hv hX hXs
        obtain ⟨c, p1, e1, h1, hc, hp1⟩ := pick hs p e hp [0, 1, 3, 14, 15, 16, 20] (by simp) (by simp)
        simp only [List.mem_cons, List.not_mem_nil, or_false] at hc
        exact stop j p e q v X c p1 e1 h1 hp1 (by omega) (by omega) hq hv hX hXs
      | succ m ihm =>
        intro j p e q w X hj hp hq hw hX hXs
        obtain ⟨c, p1, e1, h1, hc, hp1⟩ := pick hs p e hp [0, 1, 3, 14, 15, 16, 20] (by simp) (by simp)
        by_cases hlt : (j : Int) < c
        · obtain ⟨v, p2, e2, h2, hv, hp2⟩ := half hs p1 e1 hp1
          obtain ⟨R, p', e', ⟨K, hK⟩, hR⟩ := ihm (j + 1) p2 e2 q w (X ++ [⟨⟨#[]⟩, ⟨2, v, 0, 0⟩, ⟨#[]⟩, ⟨#[]⟩⟩]) (by omega) hp2 hq hw (by simp; omega) (fun x hx => by
            rcases List.mem_append.1 hx with hx | hx
            · exact hXs x hx
            · exact .inl ⟨v, hv, by simpa using hx⟩)
          refine ⟨R, p', e', .succ ⟨K, fun k hk => ?_⟩, hR⟩
          have g := hK k hk
          dsimp only at g
          simp only [spec_l11Lines.l1, h1, h2, spec_l11Word.f, Option.bind_some]
          rw [if_pos hlt, if_pos (by simp only [List.length_append, List.length_cons]; omega), wsucc (show j < 21 by omega) (by omega)]
          simp only [List.append_assoc, List.cons_append, List.nil_append] at g ⊢
          exact g
        · exact stop j p e q w X c p1 e1 h1 hp1 hlt (by omega) hq hw hX hXs
    obtain ⟨q, p1, e1, h1, hq, hp1⟩ := below hs p e hp 4 (by omega) (by omega)
    obtain ⟨v, p2, e2, h2, hv, hp2⟩ := half hs p1 e1 hp1
    have e3 : Aside0 (wrap64 (3 + q) = 3 + q) := ⟨w64 (by omega) (by omega)⟩
    obtain ⟨R, p', e', ⟨K, hK⟩, hR⟩ := l1 20 0 p2 e2 q v [] (by omega) hp2 hq hv (by simp) (by simp)
    refine ⟨R, p', e', .succ ⟨K + Kd, fun k hk => ?_⟩, hR⟩
    have g := hK k (by omega)
    have gd := hd k (by omega)
    simp only [spec_l11Lines.l0, gd, h1, h2, spec_l11Asks.f, Option.bind_some, e3.out]
    rw [if_pos (by omega), if_pos (by show _ + _ ≤ _; rw [htz]; decide), if_pos (by show _ + _ ≤ _; rw [htz]; decide), if_pos (by omega)]
    exact g
theorem drawLinesR {s : List Int} (hs : s.length ≤ 1048576) (p e : Int) (hp : 0 ≤ p) : ∃ R p' e', Evt (fun k => spec_l11Lines.f k s p e) (R, p', e') ∧ Rt R ∧ 0 ≤ p' := by
  obtain ⟨q, p1, e1, h1, hq, hp1⟩ := below hs p e hp 4 (by omega) (by omega)
  obtain ⟨n, hn⟩ := Int.eq_ofNat_of_zero_le hq.1
  subst hn
  obtain ⟨R, p', e', ⟨K, hK⟩, hR⟩ := lines_l0R hs (n + 1) (by omega) (n + 1) 0 p1 e1 [⟨⟨#[]⟩, ⟨1, 0, 0, 0⟩, ⟨#[]⟩, ⟨#[]⟩⟩] (by omega) hp1 (by simp) ⟨⟨by
    refine .inr ⟨by simp, emp, rfl, rfl, fun h => by simp at h, ?_, .inr (.inr ⟨by simp, by simp, emp, emp⟩)⟩
    unfold InsP; dsimp only; omega, trivial⟩, fun z hz h0 => by
    simp only [List.mem_singleton] at hz
    subst hz
    simp at h0⟩
  have e1' : Aside0 (wrap64 (1 + (n : Int)) = ((n + 1 : Nat) : Int)) := ⟨by rw [w64 (by omega) (by omega)]; omega⟩
  refine ⟨R, p', e', ⟨K, fun k hk => ?_⟩, hR⟩
  have g := hK k hk
  simp only [spec_l11Lines.f, h1, spec_l11Word.f, Option.bind_some, e1'.out]
  exact g
theorem main (l : List Int) (hl : l.length ≤ maxLen) : ∃ k, laws_FnLayouts.f k l = some true := by
  by_cases hb : (l.length : Int) > 1048576
  · exact ⟨0, by simp only [laws_FnLayouts.f, laws_big.f, Option.bind_some, decide_eq_true hb, if_true]⟩
  have hs : l.length ≤ 1048576 := by omega
  obtain ⟨e0, K0, h0⟩ := newC l hs
  obtain ⟨L, p1, e1, ⟨K1, h1⟩, ⟨l1, l2, hO, h8⟩, hp1⟩ := drawLinesR hs 0 e0 (Int.le_refl _)
  obtain ⟨a, b, w, p2, e2, ⟨K2, h2⟩, ⟨ha, hbb, hw3, hw⟩, hp2⟩ := callR hs 0 e0 (Int.le_refl _)
  have hI := iAll_of hO
  have hS := (all_iff L (by omega)).2 hI
  obtain ⟨O, R, hOk, hN, ⟨K3, h3⟩, hLd, ⟨K4, h4⟩⟩ := layI L ⟨l1, by omega⟩ hS hI h8
  have hlen := laid_len hOk hLd
  have z0 : pre O 0 = 0 := by simp [pre]
  have bd := pre_bound hOk.2.1 L.length (by have := hOk.1; omega)
  have pos : 1 ≤ pre O L.length := by
    obtain ⟨h, e⟩ := h8
    have h' : L.length - 1 < O.length := by have := hOk.1; omega
    have q1 := hOk.2.2.2 (L.length - 1) h' h (by omega)
    rw [if_neg (by omega)] at q1
    have q2 : pre O (L.length - 1 + 1) = pre O (L.length - 1) + O[L.length - 1] := pre_succ h'
    rw [show L.length - 1 + 1 = L.length by omega] at q2
    have q3 := (pre_bound hOk.2.1 (L.length - 1) (by omega)).1
    omega
  have h400 : 1 ≤ R.length ∧ R.length ≤ 400 := by omega
  rw [if_pos h400] at h4
  have hP := laid_prog (by omega) hS hI h8 hOk hN hLd h400
  obtain ⟨c, hc, hci⟩ := chkS R
  have hct : c = true := hci.2 hP
  subst hct
  have hcall := callT a b w ha hbb hw3 hw
  have hf := fieldT a b w hcall hw3
  obtain ⟨v, hE⟩ := ends (by omega) hS hI h8 a b w hf L.length 0 0 (by omega) (by omega)
  have hv : 0 ≤ v := by
    have : ∀ {i : Nat} {g v : Int}, Ends L a b w i g v → 0 ≤ v := fun h => by
      induction h with
      | place _ _ _ _ _ _ ih => exact ih
      | load _ _ _ _ _ _ _ _ ih => exact ih
      | and _ _ _ _ _ _ ih => exact ih
      | ret i g h c8 => exact (insR (by omega) hI h (by omega)).2.2.2.1.1
      | jump _ _ _ _ _ _ _ _ ih => exact ih
      | ask _ _ _ _ _ _ _ _ _ _ ih => exact ih
    exact this hE
  obtain ⟨s', K5, h5⟩ := run_laid (by omega) hOk hLd h400.2 a b w hE 0
  rw [z0] at h5
  obtain ⟨bt, ⟨K6, h6⟩, hbt⟩ := linesOkI L (by omega)
  have hbt' : bt = true := hbt.2 ⟨⟨l1, by omega⟩, hI, h8⟩
  subst hbt'
  have hol := hOk.1
  obtain ⟨K7, h7⟩ := lw_sum L R v O (by omega) hOk.2.1 (by rw [hol]; omega) true ⟨K6, h6⟩ O.length 0 (by omega)
  obtain ⟨K8, h8'⟩ := lw_run (by omega) hI R a b w hE true 0 (Nat.le_refl _) hv ⟨K3 + K5 + K7 + R.length + 10, fun k hk => by
    have g3 := h3 k (by omega)
    have g7 := h7 k (by omega)
    dsimp only at g3 g7
    have gR : spec_Run.f k R a b w = some (v, s') := by
      simp only [spec_Run.f, hc k (by omega), hcall k (by omega), Option.bind_some, if_true, Bool.not_true]
      obtain ⟨k, rfl⟩ : ∃ m, k = m + 1 := ⟨k - 1, by omega⟩
      simp only [spec_Run.j0, Bool.false_eq_true, if_false]
      exact h5 k (by omega)
    simp only [gR, g3, Option.bind_some]
    rw [z0] at g7
    exact g7⟩
  dsimp only at h0 h1 h2 h4 h8'
  refine ⟨K0 + K1 + K2 + K4 + K8 + R.length + 10, ?_⟩
  obtain ⟨k, hk⟩ : ∃ k, k = K0 + K1 + K2 + K4 + K8 + R.length + 9 := ⟨_, rfl⟩
  rw [show K0 + K1 + K2 + K4 + K8 + R.length + 10 = k + 1 by omega]
  simp only [laws_FnLayouts.f, laws_big.f, Option.bind_some, decide_eq_false hb, Bool.false_eq_true, if_false, spec_DrawLines.f, spec_DrawCall.f, h0 (k + 1) (by omega), h1 (k + 1) (by omega), h2 (k + 1) (by omega), h4 (k + 1) (by omega), if_true, hc (k + 1) (by omega), Bool.not_true]
  simp only [laws_FnLayouts.j0, Bool.false_eq_true, if_false]
  exact h8' k (by omega)
end Go.Proofs.Ytlgndgjbfjefpaa.PFnLayouts
