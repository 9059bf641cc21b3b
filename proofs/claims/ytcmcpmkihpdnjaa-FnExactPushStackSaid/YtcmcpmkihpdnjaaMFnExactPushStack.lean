/- The pure law of FnExactPushStack: what the functions of the program and of the reference come to is the same, for all arguments that the law is asked of. No conditions. -/
import Derived.Test.YtcmcpmkihpdnjaaPFnExactPushStacky6
import Derived.Test.YtcmcpmkihpdnjaaEV
set_option linter.unusedSimpArgs false
set_option linter.unusedVariables false
namespace Go.Proofs.Ytcmcpmkihpdnjaa.PFnExactPushStack
open Go Go.RowKit Go.Proofs.YtcmcpmkihpdnjaaW.PrintWords Go.Proofs.YtcmcpmkihpdnjaaW.PrintLast Go.Proofs.YtcmcpmkihpdnjaaW.PK
theorem rd_nat75 (l : List S75) (i : Nat) (h : i < l.length) : rd_T75 l (i : Int) = l[i] := getD_lt _ h
theorem inS (a b c : Int) : spec_l01In.f a b c = some (decide (b ≤ a ∧ a ≤ c)) := by
 unfold spec_l01In.f
 by_cases h : a ≥ b
 ·rw [if_pos h]
  exact congrArg some (by rw [Bool.eq_iff_iff]; simp; omega)
 ·rw [if_neg h]
  exact congrArg some (by rw [Bool.eq_iff_iff]; simp; omega)
theorem inI (a b c : Int) : impl_within.f a b c = some (decide (b ≤ a ∧ a ≤ c)) := inS a b c
theorem halfS (a : Int) : spec_HalfOk.f a = some (decide (0 ≤ a ∧ a ≤ 4294967295)) := by
 unfold spec_HalfOk.f
 rw [inS]
 rfl
theorem halfI (a : Int) : impl_HalfOk.f a = some (decide (0 ≤ a ∧ a ≤ 4294967295)) := halfS a
theorem askS (a : Int) : spec_l06Ask.f a = some (decide (3 ≤ a ∧ a ≤ 6)) := by
 unfold spec_l06Ask.f
 rw [inS]
 rfl
theorem askI (a b c d : Int) : impl_Ins_asks.f a b c d = some (decide (3 ≤ a ∧ a ≤ 6)) := askS a
def InsP (a b c d : Int) : Prop := (1 ≤ a ∧ a ≤ 8) ∧ (0 ≤ b ∧ b ≤ 4294967295) ∧ (0 ≤ c ∧ c ≤ 15) ∧ (0 ≤ d ∧ d ≤ 15) ∧ ((3 ≤ a ∧ a ≤ 6) ∨ (c = 0 ∧ d = 0)) ∧ (a = 1 → b < 8) ∧ (a = 7 → b < 400)
instance (a b c d : Int) : Decidable (InsP a b c d) := by unfold InsP; infer_instance
theorem okS (k : Nat) (hk : 2 ≤ k) (a b c d : Int) : spec_InsOk.f k a b c d = some (decide (InsP a b c d)) := by
 obtain ⟨k, rfl⟩ : ∃ m, k = m + 2 := ⟨k - 2, by omega⟩
 have e : ∀ x : Bool, (x = true ↔ InsP a b c d) → some x = some (decide (InsP a b c d)) := fun x h => congrArg some (by rw [Bool.eq_iff_iff, h]; simp)
 unfold spec_InsOk.f
 simp only [inS, halfS, askS, spec_InsOk.j0, spec_InsOk.j1, Option.bind_some, decide_eq_true_eq, Bool.not_eq_true', decide_eq_false_iff_not]
 repeat' split
 all_goals (refine e _ ?_; clear e; unfold InsP; (try simp only [Bool.false_eq_true, bne_iff_ne, ne_eq, decide_eq_true_eq, false_iff, true_iff, Classical.not_not] at *))
 all_goals (first | contradiction | omega)
theorem okI (k : Nat) (hk : 2 ≤ k) (a b c d : Int) : impl_InsOk.f k a b c d = some (decide (InsP a b c d)) := by
 obtain ⟨k, rfl⟩ : ∃ m, k = m + 2 := ⟨k - 2, by omega⟩
 have e : ∀ x : Bool, (x = true ↔ InsP a b c d) → some x = some (decide (InsP a b c d)) := fun x h => congrArg some (by rw [Bool.eq_iff_iff, h]; simp)
 unfold impl_InsOk.f
 simp only [inI, halfI, askI, impl_InsOk.j0, Option.bind_some, decide_eq_true_eq, bne_iff_ne]
 repeat' split
 all_goals (refine e _ ?_; clear e; unfold InsP; (try simp only [Bool.false_eq_true, bne_iff_ne, ne_eq, decide_eq_true_eq, false_iff, true_iff, Classical.not_not] at *))
 all_goals (first | contradiction | omega)
/-- Where a word leads at the farthest. -/
def farP (x : S75) (i : Int) : Int := if 3 ≤ x.f0 ∧ x.f0 ≤ 6 then i + 1 + mx x.f2 x.f3 else if x.f0 = 7 then i + 1 + x.f1 else i
theorem farI (a b c d i : Int) (h : InsP a b c d) (h0 : 0 ≤ i) (h1 : i ≤ 1000) : impl_farthest.f a b c d i = some (farP ⟨a, b, c, d⟩ i) := by
 unfold InsP at h
 unfold impl_farthest.f farP
 simp only [askI, Option.bind_some, decide_eq_true_eq]
 split
 ·have e1 : wrap64 (i + 1) = i + 1 := w64 (by omega) (by omega)
  have e2 : wrap64 (i + 1 + mx c d) = i + 1 + mx c d := w64 (by unfold mx; split <;> omega) (by unfold mx; split <;> omega)
  rw [e1, e2]
 ·split
  ·have e1 : wrap64 (i + 1) = i + 1 := w64 (by omega) (by omega)
   have e2 : wrap64 (i + 1 + b) = i + 1 + b := w64 (by omega) (by omega)
   rw [e1, e2]
  ·rfl
/-- A right word at a place, that leads inside. -/
def AtP (l : List S75) (j : Nat) (h : j < l.length) : Prop := InsP l[j].f0 l[j].f1 l[j].f2 l[j].f3 ∧ farP l[j] j < l.length
/-- A right program. -/
def ProgP (l : List S75) : Prop := (1 ≤ l.length ∧ l.length ≤ 400) ∧ (∀ h : 0 < l.length, (l[l.length - 1]'(by omega)).f0 = 8) ∧ ∀ j (h : j < l.length), AtP l j h
theorem chkI_l0 (l : List S75) (hn : l.length ≤ 400) : ∀ (d i : Nat), i + d = l.length → ∃ b, (∀ k, d + 3 ≤ k → impl_CheckProgram.l0 k (l.length : Int) l (l.length : Int) (i : Int) = some b) ∧ (b = true ↔ ∀ j (h : j < l.length), i ≤ j → AtP l j h)
 | 0, i, hi => by
  refine ⟨true, fun k hk => ?_, by simp; intro j h1 h2; omega⟩
  obtain ⟨k, rfl⟩ : ∃ m, k = m + 1 := ⟨k - 1, by omega⟩
  simp only [impl_CheckProgram.l0]
  rw [if_neg (by omega)]
 | d + 1, i, hi => by
  have hlt : i < l.length := by omega
  obtain ⟨b, hb, hbi⟩ := chkI_l0 l hn d (i + 1) (by omega)
  by_cases hA : AtP l i hlt
  ·refine ⟨b, fun k hk => ?_, ?_⟩
   ·obtain ⟨k, rfl⟩ : ∃ m, k = m + 1 := ⟨k - 1, by omega⟩
    simp only [impl_CheckProgram.l0]
    rw [if_pos (by omega), if_pos (by omega), if_pos (by omega), rd_nat75 l i hlt, okI k (by omega)]
    obtain ⟨h1, h2⟩ := hA
    simp only [Option.bind_some, decide_eq_true_eq]
    rw [if_pos h1, farI _ _ _ _ _ h1 (by omega) (by omega)]
    simp only [Option.bind_some]
    have h3 : ¬ (farP ⟨l[i].f0, l[i].f1, l[i].f2, l[i].f3⟩ (i : Int) ≥ (l.length : Int)) := by have h2' : farP ⟨l[i].f0, l[i].f1, l[i].f2, l[i].f3⟩ (i : Int) < (l.length : Int) := h2; omega
    rw [if_neg h3, wsucc hlt (by omega)]
    exact hb k (by omega)
   ·rw [hbi]
    refine ⟨fun h j hj hij => ?_, fun h j hj hij => h j hj (by omega)⟩
    rcases Nat.lt_or_ge i j with h3 | h3
    ·exact h j hj (by omega)
    ·have : i = j := by omega
     subst this
     exact hA
  ·refine ⟨false, fun k hk => ?_, ?_⟩
   ·obtain ⟨k, rfl⟩ : ∃ m, k = m + 1 := ⟨k - 1, by omega⟩
    simp only [impl_CheckProgram.l0]
    rw [if_pos (by omega), if_pos (by omega), if_pos (by omega), rd_nat75 l i hlt, okI k (by omega)]
    simp only [Option.bind_some, decide_eq_true_eq]
    split
    ·rename_i h1
     rw [farI _ _ _ _ _ h1 (by omega) (by omega)]
     simp only [Option.bind_some]
     have h3 : farP ⟨l[i].f0, l[i].f1, l[i].f2, l[i].f3⟩ (i : Int) ≥ (l.length : Int) := by
      have h4 : ¬ farP l[i] (i : Int) < (l.length : Int) := fun h5 => hA ⟨h1, h5⟩
      have h6 : ¬ farP ⟨l[i].f0, l[i].f1, l[i].f2, l[i].f3⟩ (i : Int) < (l.length : Int) := h4
      omega
     rw [if_pos h3]
    ·rfl
   ·refine ⟨(fun h => by cases h), fun h => absurd (h i hlt (Nat.le_refl _)) hA⟩
theorem chkI (l : List S75) : ∃ b, (∀ k, l.length + 4 ≤ k → impl_CheckProgram.f k l = some b) ∧ (b = true ↔ ProgP l) := by
 by_cases h1 : 1 ≤ l.length ∧ l.length ≤ 400
 ·have e1 : wrap64 ((l.length : Int) - 1) = ((l.length - 1 : Nat) : Int) := by rw [w64 (by omega) (by omega)]; omega
  have hr : rd_T75 l ((l.length - 1 : Nat) : Int) = l[l.length - 1]'(by omega) := rd_nat75 l _ (by omega)
  by_cases h2 : (l[l.length - 1]'(by omega)).f0 = 8
  ·obtain ⟨b, hb, hbi⟩ := chkI_l0 l h1.2 l.length 0 (by omega)
   refine ⟨b, fun k hk => ?_, ?_⟩
   ·obtain ⟨k, rfl⟩ : ∃ m, k = m + 1 := ⟨k - 1, by omega⟩
    unfold impl_CheckProgram.f
    rw [inI]
    simp only [Option.bind_some, decide_eq_true_eq, e1]
    rw [if_pos (by omega), if_pos (by omega), if_pos (by omega), hr, h2]
    simp only [impl_CheckProgram.j0]
    exact hb k (by omega)
   ·rw [hbi]
    exact ⟨fun h => ⟨h1, fun _ => h2, fun j hj => h j hj (by omega)⟩, fun h j hj _ => h.2.2 j hj⟩
  ·refine ⟨false, fun k hk => ?_, ⟨(fun h => by cases h), fun h => absurd (h.2.1 (by omega)) h2⟩⟩
   obtain ⟨k, rfl⟩ : ∃ m, k = m + 1 := ⟨k - 1, by omega⟩
   unfold impl_CheckProgram.f
   rw [inI]
   simp only [Option.bind_some, decide_eq_true_eq, e1]
   rw [if_pos (by omega), if_pos (by omega), if_pos (by omega), hr]
   have h3 : ((l[l.length - 1]'(by omega)).f0 != 8) = true := by simpa using h2
   rw [h3]
   rfl
 ·refine ⟨false, fun k hk => ?_, ⟨(fun h => by cases h), fun h => absurd h.1 h1⟩⟩
  obtain ⟨k, rfl⟩ : ∃ m, k = m + 1 := ⟨k - 1, by omega⟩
  unfold impl_CheckProgram.f
  rw [inI]
  simp only [Option.bind_some, decide_eq_true_eq]
  rw [if_neg (by omega)]
  rfl
/-- The same, as the reference asks it. -/
def AtS (l : List S75) (j : Nat) (h : j < l.length) : Prop := InsP l[j].f0 l[j].f1 l[j].f2 l[j].f3 ∧ (l[j].f0 = 8 ∨ (j : Int) + 1 + (if l[j].f0 = 7 then l[j].f1 else if l[j].f2 > l[j].f3 then l[j].f2 else l[j].f3) < l.length)
theorem l07 (a b c d : Int) : spec_l07Far.f a b c d = some (if a = 7 then b else if c > d then c else d) := by
 unfold spec_l07Far.f
 split
 ·rfl
 ·split <;> rfl
theorem chkS_l0 (l : List S75) (h0 : 0 < l.length) (hn : l.length ≤ 400) : ∀ (d i : Nat), i + d = l.length → ∃ b, (∀ k, d + 3 ≤ k → spec_CheckProgram.l0 k l (i : Int) = some b) ∧ (b = true ↔ (∀ j (h : j < l.length), i ≤ j → AtS l j h) ∧ (l[l.length - 1]'(by omega)).f0 = 8)
 | 0, i, hi => by
  have e1 : wrap64 ((l.length : Int) - 1) = ((l.length - 1 : Nat) : Int) := by rw [w64 (by omega) (by omega)]; omega
  have hr : rd_T75 l ((l.length - 1 : Nat) : Int) = l[l.length - 1]'(by omega) := rd_nat75 l _ (by omega)
  refine ⟨(l[l.length - 1]'(by omega)).f0 == 8, fun k hk => ?_, ?_⟩
  ·obtain ⟨k, rfl⟩ : ∃ m, k = m + 1 := ⟨k - 1, by omega⟩
   simp only [spec_CheckProgram.l0]
   rw [if_neg (by omega), e1, if_pos (by omega), if_pos (by omega), hr]
  ·simp only [beq_iff_eq]
   exact ⟨fun h => ⟨fun j h1 h2 => by omega, h⟩, fun h => h.2⟩
 | d + 1, i, hi => by
  have hlt : i < l.length := by omega
  obtain ⟨b, hb, hbi⟩ := chkS_l0 l h0 hn d (i + 1) (by omega)
  have step : ∀ k, spec_CheckProgram.l0 (k + 1) l (i : Int) = ((spec_InsOk.f k l[i].f0 l[i].f1 l[i].f2 l[i].f3).bind fun t => if t = true then (if l[i].f0 = 8 then spec_CheckProgram.l0 k l ((i + 1 : Nat) : Int) else ((spec_l07Far.f l[i].f0 l[i].f1 l[i].f2 l[i].f3).bind fun u => if wrap64 (((i + 1 : Nat) : Int) + u) ≥ (l.length : Int) then some false else spec_CheckProgram.l0 k l ((i + 1 : Nat) : Int))) else some false) := by
   intro k
   simp only [spec_CheckProgram.l0]
   rw [if_pos (by omega), if_pos (by omega), rd_nat75 l i hlt, wsucc hlt (by omega)]
  by_cases hA : AtS l i hlt
  ·refine ⟨b, fun k hk => ?_, ?_⟩
   ·obtain ⟨k, rfl⟩ : ∃ m, k = m + 1 := ⟨k - 1, by omega⟩
    obtain ⟨h1, h2⟩ := hA
    rw [step, okS k (by omega), l07]
    simp only [Option.bind_some, decide_eq_true_eq]
    rw [if_pos h1]
    split
    ·exact hb k (by omega)
    ·rename_i h8
     have h3 := h2.resolve_left h8
     unfold InsP at h1
     rw [if_neg (by rw [w64 (by split <;> (try split) <;> omega) (by split <;> (try split) <;> omega)]; omega)]
     exact hb k (by omega)
   ·rw [hbi]
    refine ⟨fun h => ⟨fun j hj hij => ?_, h.2⟩, fun h => ⟨fun j hj hij => h.1 j hj (by omega), h.2⟩⟩
    rcases Nat.lt_or_ge i j with h3 | h3
    ·exact h.1 j hj (by omega)
    ·have : i = j := by omega
     subst this
     exact hA
  ·refine ⟨false, fun k hk => ?_, ⟨(fun h => by cases h), fun h => absurd (h.1 i hlt (Nat.le_refl _)) hA⟩⟩
   obtain ⟨k, rfl⟩ : ∃ m, k = m + 1 := ⟨k - 1, by omega⟩
   rw [step, okS k (by omega), l07]
   simp only [Option.bind_some, decide_eq_true_eq]
   split
   ·rename_i h1
    have h8 : ¬ l[i].f0 = 8 := fun h => hA ⟨h1, .inl h⟩
    have h3 : ¬ (i : Int) + 1 + (if l[i].f0 = 7 then l[i].f1 else if l[i].f2 > l[i].f3 then l[i].f2 else l[i].f3) < l.length := fun h => hA ⟨h1, .inr h⟩
    unfold InsP at h1
    rw [if_neg h8, if_pos (by rw [w64 (by split <;> (try split) <;> omega) (by split <;> (try split) <;> omega)]; omega)]
   ·rfl
theorem chkS (l : List S75) : ∃ b, (∀ k, l.length + 4 ≤ k → spec_CheckProgram.f k l = some b) ∧ (b = true ↔ ProgP l) := by
 by_cases h1 : 1 ≤ l.length ∧ l.length ≤ 400
 ·obtain ⟨b, hb, hbi⟩ := chkS_l0 l (by omega) h1.2 l.length 0 (by omega)
  refine ⟨b, fun k hk => ?_, ?_⟩
  ·unfold spec_CheckProgram.f
   rw [inS]
   simp only [Option.bind_some, decide_eq_true_eq]
   rw [if_pos (by omega)]
   exact hb k (by omega)
  ·rw [hbi]
   have key : (l[l.length - 1]'(by omega)).f0 = 8 → ∀ j (h : j < l.length), (AtS l j h ↔ AtP l j h) := by
    intro h8 j hj
    unfold AtS AtP farP
    refine and_congr_right fun hI => ?_
    have hl : j + 1 < l.length ∨ l[j].f0 = 8 := by
     rcases Nat.lt_or_ge (j + 1) l.length with h | h
     ·exact .inl h
     ·have : j = l.length - 1 := by omega
      subst this
      exact .inr h8
    unfold InsP at hI
    unfold mx
    constructor
    · intro h
      split
      · rcases h with h | h
        · omega
        · rw [if_neg (by omega)] at h
          split <;> (split at h <;> omega)
      · split
        · rename_i h7
          rcases h with h | h
          · omega
          · rw [if_pos h7] at h
            omega
        · omega
    · intro h
      rcases hl with hl | hl
      · by_cases h9 : l[j].f0 = 8
        · exact .inl h9
        · right
          by_cases h7 : l[j].f0 = 7
          · rw [if_pos h7]
            rw [if_neg (by omega), if_pos h7] at h
            omega
          · rw [if_neg h7]
            by_cases ha : 3 ≤ l[j].f0 ∧ l[j].f0 ≤ 6
            · rw [if_pos ha] at h
              split <;> (split at h <;> omega)
            · split <;> omega
      · exact .inl hl
   refine ⟨fun h => ⟨h1, fun _ => h.2, fun j hj => (key h.2 j hj).1 (h.1 j hj (by omega))⟩, fun h => ⟨fun j hj _ => (key (h.2.1 (by omega)) j hj).2 (h.2.2 j hj), h.2.1 (by omega)⟩⟩
 ·refine ⟨false, fun k hk => ?_, ⟨(fun h => by cases h), fun h => absurd h.1 h1⟩⟩
  unfold spec_CheckProgram.f
  rw [inS]
  simp only [Option.bind_some, decide_eq_true_eq]
  rw [if_neg (by omega)]
/-- Both come to the same. -/
theorem chk (l : List S75) : ∃ b, (∀ k, l.length + 4 ≤ k → spec_CheckProgram.f k l = some b) ∧ (∀ k, l.length + 4 ≤ k → impl_CheckProgram.f k l = some b) ∧ (b = true ↔ ProgP l) := by
 obtain ⟨b, hb, hbi⟩ := chkS l
 obtain ⟨c, hc, hci⟩ := chkI l
 have : c = b := by rw [Bool.eq_iff_iff, hbi, hci]
 subst this
 exact ⟨c, hb, hc, hbi⟩
theorem Elaws_szInsS (l : List (S77)) (q : Int) (hq : 0 ≤ q) (hq' : q ≤ 1048576) (hm : l.length ≤ maxLen) : ∃ s : Int, s ≤ q ∧ (0 ≤ s → l.length ≤ 1048576) ∧ Evt (fun k => laws_szInsS.f l q) s := by
  unfold maxLen at hm
  have e : wrap64 (q - (l.length : Int)) = q - l.length := w64 (by omega) (by omega)
  by_cases hn : q - (l.length : Int) < 0
  · exact ⟨-1, by omega, fun h => by omega, .const fun k => by simp only [laws_szInsS.f, e, if_pos hn]⟩
  · exact ⟨q - l.length, by omega, fun h => by omega, .const fun k => by simp only [laws_szInsS.f, e, if_neg hn]⟩
theorem nrd_L2 (l : List (List (S77))) (i : Nat) (h : i < l.length) : rd_L2 l (i : Int) = l[i] := getD_lt _ h
theorem Elaws_szInsSS (l : List (List (S77))) (q : Int) (hq : 0 ≤ q) (hq' : q ≤ 1048576) (hm : l.length ≤ maxLen) (hw : ∀ x ∈ l, ((∀ u1 ∈ x, ((Lit.int .i64 u1.f0).wf = true ∧ (Lit.int .i64 u1.f1).wf = true ∧ (Lit.int .i64 u1.f2).wf = true ∧ (Lit.int .i64 u1.f3).wf = true)) ∧ x.length ≤ maxLen)) : ∃ s : Int, s ≤ q ∧ (0 ≤ s → l.length ≤ 1048576 ∧ ∀ y ∈ l, y.length ≤ 1048576) ∧ Evt (fun k => laws_szInsSS.f k l q) s := by
  unfold maxLen at hm
  have e : wrap64 (q - (l.length : Int)) = q - l.length := w64 (by omega) (by omega)
  by_cases hn : q - (l.length : Int) < 0
  · exact ⟨-1, by omega, fun h => by omega, .const fun k => by simp only [laws_szInsSS.f, e, if_pos hn]⟩
  · have H := Evt.sz (F := fun k q i => laws_szInsSS.l0 k l q i) (n := l.length) (P := fun i => ∀ h : i < l.length, l[i].length ≤ 1048576) ?_ ?_ (q - l.length) (by omega) (by omega)
    · obtain ⟨s, hs, hP, hE⟩ := H
      refine ⟨s, by omega, fun h => ⟨by omega, fun y hy => ?_⟩, hE.congr fun k => ?_⟩
      · obtain ⟨i, hi, rfl⟩ := List.mem_iff_getElem.1 hy
        exact hP h i hi hi
      · simp only [laws_szInsSS.f, e, if_neg hn]
    · intro k q
      simp only [laws_szInsSS.l0]
      rw [if_neg (by omega)]
    · intro i hi q hq hq'
      obtain ⟨s, hs, hP, K, hK⟩ := Elaws_szInsS l[i] q hq hq' (hw _ (List.getElem_mem hi)).2
      dsimp only at hK
      refine ⟨s, hs, fun h _ => hP h, K, fun k hk => ?_⟩
      simp only [laws_szInsSS.l0]
      rw [if_pos (by omega), if_pos (by omega), nrd_L2 l i hi, hK k hk, wsucc hi (by omega)]
      all_goals rfl
theorem Elaws_toIns (a0_0 : Int) (a0_1 : Int) (a0_2 : Int) (a0_3 : Int) : Evt (fun k => laws_toIns.f a0_0 a0_1 a0_2 a0_3) (a0_0, a0_1, a0_2, a0_3) := by
  exact .const fun k => rfl
def conv77 (a : S77) : S75 := ⟨a.f0, a.f1, a.f2, a.f3⟩
theorem nrd_T77 (l : List (S77)) (i : Nat) (h : i < l.length) : rd_T77 l (i : Int) = l[i] := getD_lt _ h
theorem Elaws_toInsS (l : List (S77)) (hn : l.length ≤ 1048576) : Evt (fun k => laws_toInsS.f k l) (l.map conv77) := by
  have h := Evt.to (F := fun k y i => laws_toInsS.l0 k l y i) (x := l) (conv := conv77) ?_ ?_ (List.replicate l.length z75) (by simp)
  · refine h.congr fun k => ?_
    unfold laws_toInsS.f
    rw [if_pos (by omega), if_pos (by omega), Int.toNat_natCast]
  · intro k y
    simp only [laws_toInsS.l0]
    rw [if_neg (by omega)]
  · intro i hi
    obtain ⟨K, hK⟩ := Elaws_toIns l[i].f0 l[i].f1 l[i].f2 l[i].f3
    dsimp only at hK
    refine ⟨K, fun k hk y hy => ?_⟩
    simp only [laws_toInsS.l0]
    rw [if_pos (by omega), if_pos (by omega), nrd_T77 l i hi, hK k hk]
    simp only [Option.bind_some]
    rw [if_pos (by omega), wsucc hi (by omega), Int.toNat_natCast]
    all_goals rfl
theorem Elaws_toInsSS (l : List (List (S77))) (hn : l.length ≤ 1048576) (hB : ∀ y ∈ l, y.length ≤ 1048576) : Evt (fun k => laws_toInsSS.f k l) (l.map (fun y => y.map conv77)) := by
  have h := Evt.to (F := fun k y i => laws_toInsSS.l0 k l y i) (x := l) (conv := (fun y => y.map conv77)) ?_ ?_ (List.replicate l.length []) (by simp)
  · refine h.congr fun k => ?_
    unfold laws_toInsSS.f
    rw [if_pos (by omega), if_pos (by omega), Int.toNat_natCast]
  · intro k y
    simp only [laws_toInsSS.l0]
    rw [if_neg (by omega)]
  · intro i hi
    obtain ⟨K, hK⟩ := Elaws_toInsS l[i] ((hB _ (List.getElem_mem hi)))
    dsimp only at hK
    refine ⟨K, fun k hk y hy => ?_⟩
    simp only [laws_toInsSS.l0]
    rw [if_pos (by omega), if_pos (by omega), nrd_L2 l i hi, hK k hk]
    simp only [Option.bind_some]
    rw [if_pos (by omega), wsucc hi (by omega), Int.toNat_natCast]
    all_goals rfl
theorem Elaws_eqIns (a0_0 : Int) (a0_1 : Int) (a0_2 : Int) (a0_3 : Int) : Evt (fun k => laws_eqIns.f a0_0 a0_1 a0_2 a0_3 a0_0 a0_1 a0_2 a0_3) true := by
  refine ⟨0, fun k hk => ?_⟩
  simp only [laws_eqIns.f, Option.bind_some, if_true]
theorem nrd_T75 (l : List (S75)) (i : Nat) (h : i < l.length) : rd_T75 l (i : Int) = l[i] := getD_lt _ h
theorem Elaws_eqInsS (l : List (S75)) (hn : l.length ≤ 4611686018427387904) : Evt (fun k => laws_eqInsS.f k l l) true := by
  have h := Evt.pass (F := fun k i => laws_eqInsS.l0 k l l i) (n := l.length) (r := true) ?_ ?_
  · refine h.congr fun k => ?_
    unfold laws_eqInsS.f
    rw [if_pos rfl]
  · refine .const fun k => ?_
    simp only [laws_eqInsS.l0]
    rw [if_neg (by omega)]
  · intro i hi
    obtain ⟨K, hK⟩ := Elaws_eqIns l[i].f0 l[i].f1 l[i].f2 l[i].f3
    dsimp only at hK
    refine ⟨K, fun k hk => ?_⟩
    simp only [laws_eqInsS.l0]
    rw [if_pos (by omega), if_pos (by omega), if_pos (by omega), nrd_T75 l i hi, hK k hk]
    simp only [Option.bind_some, if_true]
    rw [wsucc hi (by omega)]
theorem nrd_L4 (l : List (List (S75))) (i : Nat) (h : i < l.length) : rd_L4 l (i : Int) = l[i] := getD_lt _ h
theorem Elaws_eqInsSS (l : List (List (S75))) (hn : l.length ≤ 4611686018427387904) (hB : ∀ y ∈ l, y.length ≤ 4611686018427387904) : Evt (fun k => laws_eqInsSS.f k l l) true := by
  have h := Evt.pass (F := fun k i => laws_eqInsSS.l0 k l l i) (n := l.length) (r := true) ?_ ?_
  · refine h.congr fun k => ?_
    unfold laws_eqInsSS.f
    rw [if_pos rfl]
  · refine .const fun k => ?_
    simp only [laws_eqInsSS.l0]
    rw [if_neg (by omega)]
  · intro i hi
    obtain ⟨K, hK⟩ := Elaws_eqInsS l[i] ((hB _ (List.getElem_mem hi)))
    dsimp only at hK
    refine ⟨K, fun k hk => ?_⟩
    simp only [laws_eqInsSS.l0]
    rw [if_pos (by omega), if_pos (by omega), if_pos (by omega), nrd_L4 l i hi, hK k hk]
    simp only [Option.bind_some, if_true]
    rw [wsucc hi (by omega)]
theorem rdn75 (l : List S75) (i : Nat) (h : i < l.length) : rd_T75 l (i : Int) = l[i] := getD_lt _ h
theorem markInsS_l0 : ∀ (d i : Nat) (x : List S75) (q : Int), i + d = x.length → 0 ≤ q → q + 4 * d ≤ 4611686018427387904 → x.length ≤ 4611686018427387904 → ∃ y, (∀ k, d < k → laws_markInsS.l0 k x q (i : Int) = some (q + 4 * d, y)) ∧ y.length = x.length ∧ (∀ j, j < i → y[j]? = x[j]?) ∧ ∀ j, i ≤ j → j < x.length → y[j]? = some ⟨q + 4 * ((j : Int) - i), q + 4 * ((j : Int) - i) + 1, q + 4 * ((j : Int) - i) + 2, q + 4 * ((j : Int) - i) + 3⟩
  | 0, i, x, q, hi, hq, hb, hl => by
    refine ⟨x, fun k hk => ?_, rfl, fun _ _ => rfl, fun j h1 h2 => by omega⟩
    obtain ⟨k, rfl⟩ : ∃ m, k = m + 1 := ⟨k - 1, by omega⟩
    simp only [laws_markInsS.l0]
    rw [if_neg (by omega)]
    simp
  | d + 1, i, x, q, hi, hq, hb, hl => by
    have hlt : i < x.length := by omega
    obtain ⟨y, hy, hyl, hy1, hy2⟩ := markInsS_l0 d (i + 1) (x.set i ⟨q, q + 1, q + 2, q + 3⟩) (q + 4) (by rw [List.length_set]; omega) (by omega) (by omega) (by rw [List.length_set]; exact hl)
    rw [List.length_set] at hyl hy2
    refine ⟨y, fun k hk => ?_, hyl, fun j hj => ?_, fun j h1 h2 => ?_⟩
    · obtain ⟨k, rfl⟩ : ∃ m, k = m + 1 := ⟨k - 1, by omega⟩
      have w1 : wrap64 (q + 1) = q + 1 := w64 (by omega) (by omega)
      have w2 : wrap64 (q + 2) = q + 2 := w64 (by omega) (by omega)
      have w3 : wrap64 (q + 3) = q + 3 := w64 (by omega) (by omega)
      have w4 : wrap64 (q + 4) = q + 4 := w64 (by omega) (by omega)
      simp only [laws_markInsS.l0]
      rw [if_pos (by omega), if_pos (by omega)]
      have rs : ∀ v, rd_T75 (x.set i v) (i : Int) = v := fun v => by rw [rdn75 _ i (by rw [List.length_set]; exact hlt), List.getElem_set_self]
      simp only [Option.bind_some, Int.toNat_natCast, rdn75 _ i hlt, rs, List.set_set]
      simp only [w1, w2, w3, w4, Int.add_assoc, Int.reduceAdd]
      rw [wsucc hlt (by omega)]
      have h3 := hy k (by omega)
      rw [h3]
      refine congrArg some (Prod.ext ?_ rfl)
      show q + 4 + 4 * (d : Int) = q + 4 * ((d + 1 : Nat) : Int)
      omega
    · rw [hy1 j (by omega), List.getElem?_set_ne (by omega)]
    · rcases Nat.lt_or_ge i j with h3 | h3
      · rw [hy2 j (by omega) (by omega)]
        refine congrArg some ?_
        have e : q + 4 + 4 * ((j : Int) - ((i + 1 : Nat) : Int)) = q + 4 * ((j : Int) - i) := by omega
        rw [e]
      · have : i = j := by omega
        subst this
        rw [hy1 i (by omega), List.getElem?_set_self hlt]
        simp
theorem heldInsS_l0 : ∀ (d i : Nat) (x : List S75) (q : Int), i + d = x.length → 0 ≤ q → q + 4 * d ≤ 4611686018427387904 → x.length ≤ 4611686018427387904 → (∀ j, i ≤ j → j < x.length → x[j]? = some ⟨q + 4 * ((j : Int) - i), q + 4 * ((j : Int) - i) + 1, q + 4 * ((j : Int) - i) + 2, q + 4 * ((j : Int) - i) + 3⟩) → ∀ k, d < k → laws_heldInsS.l0 k x q (i : Int) = some (q + 4 * d)
  | 0, i, x, q, hi, hq, hb, hl, hx, k, hk => by
    obtain ⟨k, rfl⟩ : ∃ m, k = m + 1 := ⟨k - 1, by omega⟩
    simp only [laws_heldInsS.l0]
    rw [if_neg (by omega)]
    simp
  | d + 1, i, x, q, hi, hq, hb, hl, hx, k, hk => by
    have hlt : i < x.length := by omega
    obtain ⟨k, rfl⟩ : ∃ m, k = m + 1 := ⟨k - 1, by omega⟩
    have w1 : wrap64 (q + 1) = q + 1 := w64 (by omega) (by omega)
    have w2 : wrap64 (q + 2) = q + 2 := w64 (by omega) (by omega)
    have w3 : wrap64 (q + 3) = q + 3 := w64 (by omega) (by omega)
    have w4 : wrap64 (q + 4) = q + 4 := w64 (by omega) (by omega)
    have h0 := hx i (Nat.le_refl _) hlt
    rw [List.getElem?_eq_getElem hlt] at h0
    have h1 : x[i] = ⟨q, q + 1, q + 2, q + 3⟩ := by have := Option.some.inj h0; simpa using this
    simp only [laws_heldInsS.l0]
    rw [if_pos (by omega), if_pos (by omega), rdn75 _ i hlt, h1]
    simp only [w1, w2, w3, w4, Int.add_assoc, Int.reduceAdd, if_true]
    rw [wsucc hlt (by omega)]
    have h2 := heldInsS_l0 d (i + 1) x (q + 4) (by omega) (by omega) (by omega) hl (fun j h3 h4 => by
      rw [hx j (by omega) h4]
      have e : q + 4 + 4 * ((j : Int) - ((i + 1 : Nat) : Int)) = q + 4 * ((j : Int) - i) := by omega
      rw [e]) k (by omega)
    rw [h2]
    refine congrArg some ?_
    omega
theorem markInsS (x : List S75) (hn : x.length ≤ 140737488355328) : ∃ y q, (∀ k, x.length < k → laws_markInsS.f k x 1 = some (q, y)) ∧ (∀ k, x.length < k → laws_heldInsS.f k y 1 = some q) ∧ 0 ≤ q := by
  obtain ⟨y, hy, hyl, _, hy2⟩ := markInsS_l0 x.length 0 x 1 (by omega) (by omega) (by omega) (by omega)
  refine ⟨y, _, fun k hk => hy k hk, fun k hk => ?_, by omega⟩
  have h := heldInsS_l0 y.length 0 y 1 (by omega) (by omega) (by omega) (by omega) (fun j h1 h2 => hy2 j h1 (by omega)) k (by omega)
  rw [hyl] at h
  exact h
theorem stk_step {l : List (List S75)} (hn : l.length ≤ 4611686018427387904) (i : Nat) (hi : i < l.length)
    (ih : ∃ r, Evt (fun k => spec_StackOk.l0 k l ((i + 1 : Nat) : Int)) r ∧ Evt (fun k => impl_StackOk.l0 k l l (l.length : Int) ((i + 1 : Nat) : Int)) r) :
    ∃ r, Evt (fun k => spec_StackOk.l0 k l (i : Int)) r ∧ Evt (fun k => impl_StackOk.l0 k l l (l.length : Int) (i : Int)) r := by
  obtain ⟨r, ⟨K1, h1⟩, ⟨K2, h2⟩⟩ := ih
  dsimp only at h1 h2
  obtain ⟨b, hS, hI, _⟩ := chk l[i]
  refine ⟨if b = true then r else false, Evt.succ ⟨K1 + l[i].length + 4, fun k hk => ?_⟩, Evt.succ ⟨K2 + l[i].length + 4, fun k hk => ?_⟩⟩
  · simp only [spec_StackOk.l0]
    rw [if_pos (by omega), if_pos (by omega), nrd_L4 l i hi, hS k (by omega), wsucc hi (by omega)]
    simp only [Option.bind_some]
    rw [h1 k (by omega)]
    split <;> rfl
  · simp only [impl_StackOk.l0]
    rw [if_pos (by omega), if_pos (by omega), if_pos (by omega), nrd_L4 l i hi, hI k (by omega), wsucc hi (by omega)]
    simp only [Option.bind_some]
    rw [h2 k (by omega)]
    split <;> rfl
theorem stk (l : List (List S75)) (hn : l.length ≤ 4611686018427387904) : ∃ r, Evt (fun k => spec_StackOk.f k l) r ∧ Evt (fun k => impl_StackOk.f k l) r :=
  down (T := fun i => ∃ r, Evt (fun k => spec_StackOk.l0 k l (i : Int)) r ∧ Evt (fun k => impl_StackOk.l0 k l l (l.length : Int) (i : Int)) r) (n := l.length)
    ⟨decide ((l.length : Int) ≤ 3), .succ (.const fun k => by simp only [spec_StackOk.l0]; rw [if_neg (by omega)]), .succ (.const fun k => by simp only [impl_StackOk.l0]; rw [if_neg (by omega)])⟩
    (fun i hi ih => stk_step hn i hi ih) l.length 0 (by omega)
/-- Marks of rows of rows, and what is held against them. -/
theorem markSS_l0 : ∀ (d i : Nat) (x : List (List S75)) (q : Int), i + d = x.length → 0 ≤ q → (∀ y ∈ x, y.length ≤ 1048576) → q + 4194304 * d ≤ 4000000000000000000 → x.length ≤ 4611686018427387904 → ∃ z r, Evt (fun k => laws_markInsSS.l0 k x q (i : Int)) (r, z) ∧ (0 ≤ r ∧ r ≤ q + 4194304 * d) ∧ Evt (fun k => laws_heldInsSS.l0 k z q (i : Int)) r ∧ z.length = x.length ∧ ∀ j, j < i → z[j]? = x[j]? := by
  intro d
  induction d with
  | zero =>
    intro i x q hi hq hb hB hl
    refine ⟨x, q, .succ (.const fun k => ?_), ⟨hq, by omega⟩, .succ (.const fun k => ?_), rfl, fun _ _ => rfl⟩
    · simp only [laws_markInsSS.l0]
      rw [if_neg (by omega)]
    · simp only [laws_heldInsSS.l0]
      rw [if_neg (by omega)]
  | succ d ih =>
    intro i x q hi hq hb hB hl
    have hlt : i < x.length := by omega
    have hbi := hb x[i] (List.getElem_mem hlt)
    obtain ⟨y, hy, hyl, _, hy2⟩ := markInsS_l0 x[i].length 0 x[i] q (by omega) hq (by omega) (by omega)
    have hh := heldInsS_l0 y.length 0 y q (by omega) hq (by omega) (by omega) (fun j h1 h2 => hy2 j h1 (by omega))
    rw [hyl] at hh
    obtain ⟨z, r, ⟨K1, h1⟩, hr, ⟨K2, h2⟩, hzl, hz⟩ := ih (i + 1) (x.set i y) (q + 4 * (x[i].length : Int)) (by rw [List.length_set]; omega) (by omega) (fun v hv => by
      rcases List.mem_or_eq_of_mem_set hv with hv | hv
      · exact hb v hv
      · rw [hv, hyl]; exact hbi) (by omega) (by rw [List.length_set]; exact hl)
    rw [List.length_set] at hzl
    have hzi : z[i]'(by omega) = y := by
      have h := hz i (by omega)
      rw [List.getElem?_set_self hlt, List.getElem?_eq_getElem (by omega)] at h
      exact Option.some.inj h
    dsimp only at h1 h2
    refine ⟨z, r, .succ ⟨K1 + x[i].length + 1, fun k hk => ?_⟩, ⟨hr.1, by omega⟩, .succ ⟨K2 + x[i].length + 1, fun k hk => ?_⟩, hzl, fun j hj => ?_⟩
    · simp only [laws_markInsSS.l0]
      rw [if_pos (by omega), if_pos (by omega), nrd_L4 x i hlt, show laws_markInsS.f k x[i] q = _ from hy k (by omega), wsucc hlt (by omega)]
      simp only [Option.bind_some, Int.toNat_natCast]
      exact h1 k (by omega)
    · simp only [laws_heldInsSS.l0]
      rw [if_pos (by omega), if_pos (by omega), nrd_L4 z i (by omega), hzi, show laws_heldInsS.f k y q = _ from hh k (by omega), wsucc hlt (by omega)]
      simp only [Option.bind_some]
      rw [if_neg (by omega)]
      exact h2 k (by omega)
    · rw [hz j (by omega), List.getElem?_set_ne (by omega)]
theorem markSS (x : List (List S75)) (hn : x.length ≤ 1048577) (hb : ∀ y ∈ x, y.length ≤ 1048576) : ∃ z r, Evt (fun k => laws_markInsSS.f k x 1) (r, z) ∧ 0 ≤ r ∧ r ≤ 4000000000000000000 ∧ Evt (fun k => laws_heldInsSS.f k z 1) r := by
  obtain ⟨z, r, h1, hr, h2, _, _⟩ := markSS_l0 x.length 0 x 1 (by omega) (by omega) hb (by omega) (by omega)
  exact ⟨z, r, h1, hr.1, by omega, h2⟩
/-- A copy is the same. -/
theorem copyS (x : List (List S75)) (hn : x.length ≤ 1048577) (hb : ∀ y ∈ x, y.length ≤ 1048576) : Evt (fun k => spec_l15Copy.f k x) x ∧ Evt (fun k => impl_copyStack.f k x) x := by
  have key := down (T := fun i => Evt (fun k => spec_l15Copy.l0 k x (x.take i) (i : Int)) x ∧ Evt (fun k => impl_copyStack.l0 k (x.take i) x (x.length : Int) (i : Int)) x) (n := x.length) ?_ ?_ x.length 0 (by omega)
  · exact key
  · refine ⟨.succ (.const fun k => ?_), .succ (.const fun k => ?_)⟩
    · simp only [spec_l15Copy.l0]
      rw [if_neg (by omega), List.take_length]
    · simp only [impl_copyStack.l0]
      rw [if_neg (by omega), List.take_length]
  · rintro i hi ⟨⟨K1, h1⟩, ⟨K2, h2⟩⟩
    dsimp only at h1 h2
    have hbi := hb x[i] (List.getElem_mem hi)
    rw [List.take_succ_eq_append_getElem hi] at h1 h2
    have hz : (x.take i).length ≤ x.length := by rw [List.length_take]; omega
    refine ⟨.succ ⟨K1, fun k hk => ?_⟩, .succ ⟨K2, fun k hk => ?_⟩⟩
    · simp only [spec_l15Copy.l0, Option.bind_some, nrd_L4 x i hi, List.nil_append, List.length_nil, Nat.zero_add]
      rw [if_pos (by omega), if_pos (by omega), if_pos (by omega), if_pos (by omega), wsucc hi (by omega)]
      exact h1 k hk
    · simp only [impl_copyStack.l0, Option.bind_some, nrd_L4 x i hi, List.nil_append, List.length_nil, Nat.zero_add]
      rw [if_pos (by omega), if_pos (by omega), if_pos (by omega), if_pos (by omega), if_pos (by omega), wsucc hi (by omega)]
      exact h2 k hk
theorem pushS (x : List (List S75)) (y : List S75) (hn : x.length ≤ 1048576) (hb : ∀ y ∈ x, y.length ≤ 1048576) (hy : y.length ≤ 1048576) : ∃ G r, Evt (fun k => spec_PushStack.f k x y) (G, r) ∧ Evt (fun k => impl_PushStack.f k x y) (G, r) ∧ G.length ≤ 1048577 ∧ ∀ u ∈ G, u.length ≤ 1048576 := by
  obtain ⟨⟨K1, h1⟩, ⟨K2, h2⟩⟩ := copyS x (by omega) hb
  obtain ⟨b, ⟨K3, h3⟩, ⟨K4, h4⟩⟩ := stk (x ++ [y]) (by simp; omega)
  dsimp only at h1 h2 h3 h4
  refine ⟨if b = true then x ++ [y] else x, b, ⟨K1 + K3, fun k hk => ?_⟩, ⟨K2 + K4, fun k hk => ?_⟩, by cases b <;> simp <;> omega, fun u hu => ?_⟩
  · simp only [spec_PushStack.f, h1 k (by omega), Option.bind_some, List.nil_append, List.length_nil, Nat.zero_add]
    rw [if_pos (by omega), if_pos (by omega), h3 k (by omega)]
    simp only [Option.bind_some]
    cases b <;> rfl
  · simp only [impl_PushStack.f, h2 k (by omega), Option.bind_some, List.nil_append, List.length_nil, Nat.zero_add]
    rw [if_pos (by omega), if_pos (by omega), h4 k (by omega)]
    simp only [Option.bind_some]
    cases b <;> rfl
  · split at hu
    · rcases List.mem_append.1 hu with h | h
      · exact hb u h
      · rw [List.mem_singleton.1 h]; exact hy
    · exact hb u hu
theorem main (l0 : List (List S77)) (l1 : List S77) (hm : l0.length ≤ maxLen) (hw : ∀ x ∈ l0, ((∀ u ∈ x, ((Lit.int .i64 u.f0).wf = true ∧ (Lit.int .i64 u.f1).wf = true ∧ (Lit.int .i64 u.f2).wf = true ∧ (Lit.int .i64 u.f3).wf = true)) ∧ x.length ≤ maxLen)) (hm1 : l1.length ≤ maxLen) : ∃ k, laws_FnExactPushStack.f k l0 l1 = some true := by
  obtain ⟨s, hs, hB, K1, h1⟩ := Elaws_szInsSS l0 1048576 (by omega) (by omega) hm hw
  dsimp only at h1
  by_cases hn : s < 0
  · exact ⟨K1, by simp only [laws_FnExactPushStack.f, h1 K1 (Nat.le_refl _), Option.bind_some, if_pos hn]⟩
  obtain ⟨s2, hs2, hB2, K2, h2⟩ := Elaws_szInsS l1 s (by omega) (by omega) hm1
  dsimp only at h2
  by_cases hn2 : s2 < 0
  · exact ⟨K1 + K2, by simp only [laws_FnExactPushStack.f, h1 (K1 + K2) (by omega), Option.bind_some, if_neg hn, h2 (K1 + K2) (by omega), if_pos hn2]⟩
  obtain ⟨hl, hB⟩ := hB (by omega)
  have hl1 := hB2 (by omega)
  obtain ⟨K3, h3⟩ := Elaws_toInsSS l0 hl hB
  obtain ⟨K4, h4⟩ := Elaws_toInsS l1 hl1
  have hX : (l0.map (fun y => y.map conv77)).length ≤ 1048576 := by rw [List.length_map]; exact hl
  have hXb : ∀ y ∈ l0.map (fun y => y.map conv77), y.length ≤ 1048576 := by
    simp only [List.mem_map]
    rintro y ⟨z, hz, rfl⟩
    rw [List.length_map]
    exact hB z hz
  have hY : (l1.map conv77).length ≤ 1048576 := by rw [List.length_map]; exact hl1
  generalize l0.map (fun y => y.map conv77) = X at h3 hX hXb
  generalize l1.map conv77 = Y at h4 hY
  obtain ⟨G, r, ⟨K5, h5⟩, ⟨K6, h6⟩, hG, hGb⟩ := pushS X Y hX hXb hY
  obtain ⟨K7, h7⟩ := Elaws_eqInsSS G (by omega) (fun y hy => by have := hGb y hy; omega)
  obtain ⟨K8, h8⟩ := Elaws_eqInsSS X (by omega) (fun y hy => by have := hXb y hy; omega)
  obtain ⟨K9, h9⟩ := Elaws_eqInsS Y (by omega)
  obtain ⟨z, q, ⟨K10, h10⟩, hq, hq2, _⟩ := markSS X (by omega) hXb
  obtain ⟨z2, hz2, _⟩ := markInsS_l0 Y.length 0 Y q (by omega) hq (by omega) (by omega)
  obtain ⟨z3, q3, ⟨K11, h11⟩, hq3, _, ⟨K12, h12⟩⟩ := markSS G hG hGb
  dsimp only at h3 h4 h5 h6 h7 h8 h9 h10 h11 h12
  obtain ⟨K, hK⟩ : ∃ K, K = K1 + K2 + K3 + K4 + K5 + K6 + K7 + K8 + K9 + K10 + K11 + K12 + Y.length + 1 := ⟨_, rfl⟩
  have hz3 : ∀ k, K ≤ k → laws_markInsS.f k Y q = some (q + 4 * (Y.length : Int), z2) := fun k hk => hz2 k (by omega)
  refine ⟨K + 3, ?_⟩
  simp only [laws_FnExactPushStack.f, h1 (K + 3) (by omega), h2 (K + 3) (by omega), h3 (K + 3) (by omega), h4 (K + 3) (by omega), h5 (K + 3) (by omega), h6 (K + 3) (by omega), h7 (K + 3) (by omega), Option.bind_some, if_neg hn, if_neg hn2, if_true, bne_self_eq_false]
  simp only [laws_FnExactPushStack.j0, h3 (K + 2) (by omega), h4 (K + 2) (by omega), h8 (K + 2) (by omega), h9 (K + 2) (by omega), h10 (K + 2) (by omega), hz3 (K + 2) (by omega), h7 (K + 2) (by omega), Option.bind_some, if_true, bne_self_eq_false, Bool.false_eq_true, if_false]
  rw [if_neg (by omega)]
  simp only [laws_FnExactPushStack.j1, h3 (K + 1) (by omega), h4 (K + 1) (by omega), h6 (K + 1) (by omega), h7 (K + 1) (by omega), h11 (K + 1) (by omega), h12 (K + 1) (by omega), Option.bind_some, if_true, bne_self_eq_false, Bool.false_eq_true, if_false]
  rw [if_neg (by omega)]
  simp only [laws_FnExactPushStack.j2, h12 K (by omega), Option.bind_some, if_true, Bool.false_eq_true, if_false]
  rw [if_neg (by omega)]
end Go.Proofs.Ytcmcpmkihpdnjaa.PFnExactPushStack
