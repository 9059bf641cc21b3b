/- What the functions on words of a machine come to, as plain statements: right words, right programs, and the lists of words that a law copies, compares, marks and looks over. -/
import Derived.Test.YtiinjipfhmgheaaPFnExactThreadedy5
import Derived.Test.YtiinjipfhmgheaaPK
namespace Go.Proofs.Ytiinjipfhmgheaa.PFnExactThreaded
set_option linter.unusedSimpArgs false
set_option linter.unusedVariables false
open Go Go.RowKit Go.Proofs.YtiinjipfhmgheaaW.PrintWords Go.Proofs.YtiinjipfhmgheaaW.PrintLast Go.Proofs.YtiinjipfhmgheaaW.PK
theorem rd_nat118 (l : List S118) (i : Nat) (h : i < l.length) : rd_T118 l (i : Int) = l[i] := getD_lt _ h
theorem inS (a b c : Int) : spec_l01In.f a b c = some (decide (b ≤ a ∧ a ≤ c)) := by
 unfold spec_l01In.f
 by_cases h : a ≥ b
 ·rw [if_pos h]
  exact congrArg some (by rw [Bool.eq_iff_iff]; simp; omega)
 ·rw [if_neg h]
  exact congrArg some (by rw [Bool.eq_iff_iff]; simp; omega)
theorem inI (a b c : Int) : impl_within.f a b c = some (decide (b ≤ a ∧ a ≤ c)) := inS a b c
theorem halfS (a : Int) : spec_HalfOk.f a = some (decide (0 ≤ a ∧ a ≤ 4294967295)) := by
 unfold spec_HalfOk.f
 rw [inS]
 rfl
theorem halfI (a : Int) : impl_HalfOk.f a = some (decide (0 ≤ a ∧ a ≤ 4294967295)) := halfS a
theorem askS (a : Int) : spec_l06Ask.f a = some (decide (3 ≤ a ∧ a ≤ 6)) := by
 unfold spec_l06Ask.f
 rw [inS]
 rfl
theorem askI (a b c d : Int) : impl_Ins_asks.f a b c d = some (decide (3 ≤ a ∧ a ≤ 6)) := askS a
def InsP (a b c d : Int) : Prop := (1 ≤ a ∧ a ≤ 8) ∧ (0 ≤ b ∧ b ≤ 4294967295) ∧ (0 ≤ c ∧ c ≤ 15) ∧ (0 ≤ d ∧ d ≤ 15) ∧ ((3 ≤ a ∧ a ≤ 6) ∨ (c = 0 ∧ d = 0)) ∧ (a = 1 → b < 8) ∧ (a = 7 → b < 400)
instance (a b c d : Int) : Decidable (InsP a b c d) := by unfold InsP; infer_instance
theorem okS (k : Nat) (hk : 2 ≤ k) (a b c d : Int) : spec_InsOk.f k a b c d = some (decide (InsP a b c d)) := by
 obtain ⟨k, rfl⟩ : ∃ m, k = m + 2 := ⟨k - 2, by omega⟩
 have e : ∀ x : Bool, (x = true ↔ InsP a b c d) → some x = some (decide (InsP a b c d)) := fun x h => congrArg some (by rw [Bool.eq_iff_iff, h]; simp)
 unfold spec_InsOk.f
 simp only [inS, halfS, askS, spec_InsOk.j0, spec_InsOk.j1, Option.bind_some, decide_eq_true_eq, Bool.not_eq_true', decide_eq_false_iff_not]
 repeat' split
 all_goals (refine e _ ?_; clear e; unfold InsP; (try simp only [Bool.false_eq_true, bne_iff_ne, ne_eq, decide_eq_true_eq, false_iff, true_iff, Classical.not_not] at *))
 all_goals (first | contradiction | omega)
theorem okI (k : Nat) (hk : 2 ≤ k) (a b c d : Int) : impl_InsOk.f k a b c d = some (decide (InsP a b c d)) := by
 obtain ⟨k, rfl⟩ : ∃ m, k = m + 2 := ⟨k - 2, by omega⟩
 have e : ∀ x : Bool, (x = true ↔ InsP a b c d) → some x = some (decide (InsP a b c d)) := fun x h => congrArg some (by rw [Bool.eq_iff_iff, h]; simp)
 unfold impl_InsOk.f
 simp only [inI, halfI, askI, impl_InsOk.j0, Option.bind_some, decide_eq_true_eq, bne_iff_ne]
 repeat' split
 all_goals (refine e _ ?_; clear e; unfold InsP; (try simp only [Bool.false_eq_true, bne_iff_ne, ne_eq, decide_eq_true_eq, false_iff, true_iff, Classical.not_not] at *))
 all_goals (first | contradiction | omega)
/-- Where a word leads at the farthest. -/
def farP (x : S118) (i : Int) : Int := if 3 ≤ x.f0 ∧ x.f0 ≤ 6 then i + 1 + mx x.f2 x.f3 else if x.f0 = 7 then i + 1 + x.f1 else i
theorem farI (a b c d i : Int) (h : InsP a b c d) (h0 : 0 ≤ i) (h1 : i ≤ 1000) : impl_farthest.f a b c d i = some (farP ⟨a, b, c, d⟩ i) := by
 unfold InsP at h
 unfold impl_farthest.f farP
 simp only [askI, Option.bind_some, decide_eq_true_eq]
 split
 ·have e1 : wrap64 (i + 1) = i + 1 := w64 (by omega) (by omega)
  have e2 : wrap64 (i + 1 + mx c d) = i + 1 + mx c d := w64 (by unfold mx; split <;> omega) (by unfold mx; split <;> omega)
  rw [e1, e2]
 ·split
  ·have e1 : wrap64 (i + 1) = i + 1 := w64 (by omega) (by omega)
   have e2 : wrap64 (i + 1 + b) = i + 1 + b := w64 (by omega) (by omega)
   rw [e1, e2]
  ·rfl
/-- A right word at a place, that leads inside. -/
def AtP (l : List S118) (j : Nat) (h : j < l.length) : Prop := InsP l[j].f0 l[j].f1 l[j].f2 l[j].f3 ∧ farP l[j] j < l.length
/-- A right program. -/
def ProgP (l : List S118) : Prop := (1 ≤ l.length ∧ l.length ≤ 400) ∧ (∀ h : 0 < l.length, (l[l.length - 1]'(by omega)).f0 = 8) ∧ ∀ j (h : j < l.length), AtP l j h
theorem chkI_l0 (l : List S118) (hn : l.length ≤ 400) : ∀ (d i : Nat), i + d = l.length → ∃ b, (∀ k, d + 3 ≤ k → impl_CheckProgram.l0 k (l.length : Int) l (l.length : Int) (i : Int) = some b) ∧ (b = true ↔ ∀ j (h : j < l.length), i ≤ j → AtP l j h)
 | 0, i, hi => by
  refine ⟨true, fun k hk => ?_, by simp; intro j h1 h2; omega⟩
  obtain ⟨k, rfl⟩ : ∃ m, k = m + 1 := ⟨k - 1, by omega⟩
  simp only [impl_CheckProgram.l0]
  rw [if_neg (by omega)]
 | d + 1, i, hi => by
  have hlt : i < l.length := by omega
  obtain ⟨b, hb, hbi⟩ := chkI_l0 l hn d (i + 1) (by omega)
  by_cases hA : AtP l i hlt
  ·refine ⟨b, fun k hk => ?_, ?_⟩
   ·obtain ⟨k, rfl⟩ : ∃ m, k = m + 1 := ⟨k - 1, by omega⟩
    simp only [impl_CheckProgram.l0]
    rw [if_pos (by omega), if_pos (by omega), if_pos (by omega), rd_nat118 l i hlt, okI k (by omega)]
    obtain ⟨h1, h2⟩ := hA
    simp only [Option.bind_some, decide_eq_true_eq]
    rw [if_pos h1, farI _ _ _ _ _ h1 (by omega) (by omega)]
    simp only [Option.bind_some]
    have h3 : ¬ (farP ⟨l[i].f0, l[i].f1, l[i].f2, l[i].f3⟩ (i : Int) ≥ (l.length : Int)) := by have h2' : farP ⟨l[i].f0, l[i].f1, l[i].f2, l[i].f3⟩ (i : Int) < (l.length : Int) := h2; omega
    rw [if_neg h3, wsucc hlt (by omega)]
    exact hb k (by omega)
   ·rw [hbi]
    refine ⟨fun h j hj hij => ?_, fun h j hj hij => h j hj (by omega)⟩
    rcases Nat.lt_or_ge i j with h3 | h3
    ·exact h j hj (by omega)
    ·have : i = j := by omega
     subst this
     exact hA
  ·refine ⟨false, fun k hk => ?_, ?_⟩
   ·obtain ⟨k, rfl⟩ : ∃ m, k = m + 1 := ⟨k - 1, by omega⟩
    simp only [impl_CheckProgram.l0]
    rw [if_pos (by omega), if_pos (by omega), if_pos (by omega), rd_nat118 l i hlt, okI k (by omega)]
    simp only [Option.bind_some, decide_eq_true_eq]
    split
    ·rename_i h1
     rw [farI _ _ _ _ _ h1 (by omega) (by omega)]
     simp only [Option.bind_some]
     have h3 : farP ⟨l[i].f0, l[i].f1, l[i].f2, l[i].f3⟩ (i : Int) ≥ (l.length : Int) := by
      have h4 : ¬ farP l[i] (i : Int) < (l.length : Int) := fun h5 => hA ⟨h1, h5⟩
      have h6 : ¬ farP ⟨l[i].f0, l[i].f1, l[i].f2, l[i].f3⟩ (i : Int) < (l.length : Int) := h4
      omega
     rw [if_pos h3]
    ·rfl
   ·refine ⟨(fun h => by cases h), fun h => absurd (h i hlt (Nat.le_refl _)) hA⟩
theorem chkI (l : List S118) : ∃ b, (∀ k, l.length + 4 ≤ k → impl_CheckProgram.f k l = some b) ∧ (b = true ↔ ProgP l) := by
 by_cases h1 : 1 ≤ l.length ∧ l.length ≤ 400
 ·have e1 : wrap64 ((l.length : Int) - 1) = ((l.length - 1 : Nat) : Int) := by rw [w64 (by omega) (by omega)]; omega
  have hr : rd_T118 l ((l.length - 1 : Nat) : Int) = l[l.length - 1]'(by omega) := rd_nat118 l _ (by omega)
  by_cases h2 : (l[l.length - 1]'(by omega)).f0 = 8
  ·obtain ⟨b, hb, hbi⟩ := chkI_l0 l h1.2 l.length 0 (by omega)
   refine ⟨b, fun k hk => ?_, ?_⟩
   ·obtain ⟨k, rfl⟩ : ∃ m, k = m + 1 := ⟨k - 1, by omega⟩
    unfold impl_CheckProgram.f
    rw [inI]
    simp only [Option.bind_some, decide_eq_true_eq, e1]
    rw [if_pos (by omega), if_pos (by omega), if_pos (by omega), hr, h2]
    simp only [impl_CheckProgram.j0]
    exact hb k (by omega)
   ·rw [hbi]
    exact ⟨fun h => ⟨h1, fun _ => h2, fun j hj => h j hj (by omega)⟩, fun h j hj _ => h.2.2 j hj⟩
  ·refine ⟨false, fun k hk => ?_, ⟨(fun h => by cases h), fun h => absurd (h.2.1 (by omega)) h2⟩⟩
   obtain ⟨k, rfl⟩ : ∃ m, k = m + 1 := ⟨k - 1, by omega⟩
   unfold impl_CheckProgram.f
   rw [inI]
   simp only [Option.bind_some, decide_eq_true_eq, e1]
   rw [if_pos (by omega), if_pos (by omega), if_pos (by omega), hr]
   have h3 : ((l[l.length - 1]'(by omega)).f0 != 8) = true := by simpa using h2
   rw [h3]
   rfl
 ·refine ⟨false, fun k hk => ?_, ⟨(fun h => by cases h), fun h => absurd h.1 h1⟩⟩
  obtain ⟨k, rfl⟩ : ∃ m, k = m + 1 := ⟨k - 1, by omega⟩
  unfold impl_CheckProgram.f
  rw [inI]
  simp only [Option.bind_some, decide_eq_true_eq]
  rw [if_neg (by omega)]
  rfl
/-- The same, as the reference asks it. -/
def AtS (l : List S118) (j : Nat) (h : j < l.length) : Prop := InsP l[j].f0 l[j].f1 l[j].f2 l[j].f3 ∧ (l[j].f0 = 8 ∨ (j : Int) + 1 + (if l[j].f0 = 7 then l[j].f1 else if l[j].f2 > l[j].f3 then l[j].f2 else l[j].f3) < l.length)
theorem l07 (a b c d : Int) : spec_l07Far.f a b c d = some (if a = 7 then b else if c > d then c else d) := by
 unfold spec_l07Far.f
 split
 ·rfl
 ·split <;> rfl
theorem chkS_l0 (l : List S118) (h0 : 0 < l.length) (hn : l.length ≤ 400) : ∀ (d i : Nat), i + d = l.length → ∃ b, (∀ k, d + 3 ≤ k → spec_CheckProgram.l0 k l (i : Int) = some b) ∧ (b = true ↔ (∀ j (h : j < l.length), i ≤ j → AtS l j h) ∧ (l[l.length - 1]'(by omega)).f0 = 8)
 | 0, i, hi => by
  have e1 : wrap64 ((l.length : Int) - 1) = ((l.length - 1 : Nat) : Int) := by rw [w64 (by omega) (by omega)]; omega
  have hr : rd_T118 l ((l.length - 1 : Nat) : Int) = l[l.length - 1]'(by omega) := rd_nat118 l _ (by omega)
  refine ⟨(l[l.length - 1]'(by omega)).f0 == 8, fun k hk => ?_, ?_⟩
  ·obtain ⟨k, rfl⟩ : ∃ m, k = m + 1 := ⟨k - 1, by omega⟩
   simp only [spec_CheckProgram.l0]
   rw [if_neg (by omega), e1, if_pos (by omega), if_pos (by omega), hr]
  ·simp only [beq_iff_eq]
   exact ⟨fun h => ⟨fun j h1 h2 => by omega, h⟩, fun h => h.2⟩
 | d + 1, i, hi => by
  have hlt : i < l.length := by omega
  obtain ⟨b, hb, hbi⟩ := chkS_l0 l h0 hn d (i + 1) (by omega)
  have step : ∀ k, spec_CheckProgram.l0 (k + 1) l (i : Int) = ((spec_InsOk.f k l[i].f0 l[i].f1 l[i].f2 l[i].f3).bind fun t => if t = true then (if l[i].f0 = 8 then spec_CheckProgram.l0 k l ((i + 1 : Nat) : Int) else ((spec_l07Far.f l[i].f0 l[i].f1 l[i].f2 l[i].f3).bind fun u => if wrap64 (((i + 1 : Nat) : Int) + u) ≥ (l.length : Int) then some false else spec_CheckProgram.l0 k l ((i + 1 : Nat) : Int))) else some false) := by
   intro k
   simp only [spec_CheckProgram.l0]
   rw [if_pos (by omega), if_pos (by omega), rd_nat118 l i hlt, wsucc hlt (by omega)]
  by_cases hA : AtS l i hlt
  ·refine ⟨b, fun k hk => ?_, ?_⟩
   ·obtain ⟨k, rfl⟩ : ∃ m, k = m + 1 := ⟨k - 1, by omega⟩
    obtain ⟨h1, h2⟩ := hA
    rw [step, okS k (by omega), l07]
    simp only [Option.bind_some, decide_eq_true_eq]
    rw [if_pos h1]
    split
    ·exact hb k (by omega)
    ·rename_i h8
     have h3 := h2.resolve_left h8
     unfold InsP at h1
     rw [if_neg (by rw [w64 (by split <;> (try split) <;> omega) (by split <;> (try split) <;> omega)]; omega)]
     exact hb k (by omega)
   ·rw [hbi]
    refine ⟨fun h => ⟨fun j hj hij => ?_, h.2⟩, fun h => ⟨fun j hj hij => h.1 j hj (by omega), h.2⟩⟩
    rcases Nat.lt_or_ge i j with h3 | h3
    ·exact h.1 j hj (by omega)
    ·have : i = j := by omega
     subst this
     exact hA
  ·refine ⟨false, fun k hk => ?_, ⟨(fun h => by cases h), fun h => absurd (h.1 i hlt (Nat.le_refl _)) hA⟩⟩
   obtain ⟨k, rfl⟩ : ∃ m, k = m + 1 := ⟨k - 1, by omega⟩
   rw [step, okS k (by omega), l07]
   simp only [Option.bind_some, decide_eq_true_eq]
   split
   ·rename_i h1
    have h8 : ¬ l[i].f0 = 8 := fun h => hA ⟨h1, .inl h⟩
    have h3 : ¬ (i : Int) + 1 + (if l[i].f0 = 7 then l[i].f1 else if l[i].f2 > l[i].f3 then l[i].f2 else l[i].f3) < l.length := fun h => hA ⟨h1, .inr h⟩
    unfold InsP at h1
    rw [if_neg h8, if_pos (by rw [w64 (by split <;> (try split) <;> omega) (by split <;> (try split) <;> omega)]; omega)]
   ·rfl
theorem chkS (l : List S118) : ∃ b, (∀ k, l.length + 4 ≤ k → spec_CheckProgram.f k l = some b) ∧ (b = true ↔ ProgP l) := by
 by_cases h1 : 1 ≤ l.length ∧ l.length ≤ 400
 ·obtain ⟨b, hb, hbi⟩ := chkS_l0 l (by omega) h1.2 l.length 0 (by omega)
  refine ⟨b, fun k hk => ?_, ?_⟩
  ·unfold spec_CheckProgram.f
   rw [inS]
   simp only [Option.bind_some, decide_eq_true_eq]
   rw [if_pos (by omega)]
   exact hb k (by omega)
  ·rw [hbi]
   have key : (l[l.length - 1]'(by omega)).f0 = 8 → ∀ j (h : j < l.length), (AtS l j h ↔ AtP l j h) := by
    intro h8 j hj
    unfold AtS AtP farP
    refine and_congr_right fun hI => ?_
    have hl : j + 1 < l.length ∨ l[j].f0 = 8 := by
     rcases Nat.lt_or_ge (j + 1) l.length with h | h
     ·exact .inl h
     ·have : j = l.length - 1 := by omega
      subst this
      exact .inr h8
    unfold InsP at hI
    unfold mx
    constructor
    · intro h
      split
      · rcases h with h | h
        · omega
        · rw [if_neg (by omega)] at h
          split <;> (split at h <;> omega)
      · split
        · rename_i h7
          rcases h with h | h
          · omega
          · rw [if_pos h7] at h
            omega
        · omega
    · intro h
      rcases hl with hl | hl
      · by_cases h9 : l[j].f0 = 8
        · exact .inl h9
        · right
          by_cases h7 : l[j].f0 = 7
          · rw [if_pos h7]
            rw [if_neg (by omega), if_pos h7] at h
            omega
          · rw [if_neg h7]
            by_cases ha : 3 ≤ l[j].f0 ∧ l[j].f0 ≤ 6
            · rw [if_pos ha] at h
              split <;> (split at h <;> omega)
            · split <;> omega
      · exact .inl hl
   refine ⟨fun h => ⟨h1, fun _ => h.2, fun j hj => (key h.2 j hj).1 (h.1 j hj (by omega))⟩, fun h => ⟨fun j hj _ => (key (h.2.1 (by omega)) j hj).2 (h.2.2 j hj), h.2.1 (by omega)⟩⟩
 ·refine ⟨false, fun k hk => ?_, ⟨(fun h => by cases h), fun h => absurd h.1 h1⟩⟩
  unfold spec_CheckProgram.f
  rw [inS]
  simp only [Option.bind_some, decide_eq_true_eq]
  rw [if_neg (by omega)]
/-- Both come to the same. -/
theorem chk (l : List S118) : ∃ b, (∀ k, l.length + 4 ≤ k → spec_CheckProgram.f k l = some b) ∧ (∀ k, l.length + 4 ≤ k → impl_CheckProgram.f k l = some b) ∧ (b = true ↔ ProgP l) := by
 obtain ⟨b, hb, hbi⟩ := chkS l
 obtain ⟨c, hc, hci⟩ := chkI l
 have : c = b := by rw [Bool.eq_iff_iff, hbi, hci]
 subst this
 exact ⟨c, hb, hc, hbi⟩
end Go.Proofs.Ytiinjipfhmgheaa.PFnExactThreaded
