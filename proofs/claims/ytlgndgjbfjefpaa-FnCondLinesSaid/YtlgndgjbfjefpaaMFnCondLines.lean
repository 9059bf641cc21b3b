/- The pure law of FnCondLines: the lines of a condition go to yes just when it holds, and the lines of a rule come to their end just when its conditions hold, as the statement has it. No conditions. -/
import Derived.Test.YtlgndgjbfjefpaaPFnCondLinesy18
import Derived.Test.YtlgndgjbfjefpaaVEV
set_option linter.unusedSimpArgs false
set_option linter.unusedVariables false
namespace Go.Proofs.Ytlgndgjbfjefpaa.PFnCondLines
open Go Go.RowKit Go.Proofs.YtlgndgjbfjefpaaW.PrintWords Go.Proofs.YtlgndgjbfjefpaaW.PrintLast Go.Proofs.YtlgndgjbfjefpaaW.PK
theorem rd_nat93 (l : List S93) (i : Nat) (h : i < l.length) : rd_T93 l (i : Int) = l[i] := getD_lt _ h
theorem inS (a b c : Int) : spec_l01In.f a b c = some (decide (b ≤ a ∧ a ≤ c)) := by
 unfold spec_l01In.f
 by_cases h : a ≥ b
 ·rw [if_pos h]
  exact congrArg some (by rw [Bool.eq_iff_iff]; simp; omega)
 ·rw [if_neg h]
  exact congrArg some (by rw [Bool.eq_iff_iff]; simp; omega)
theorem halfS (a : Int) : spec_HalfOk.f a = some (decide (0 ≤ a ∧ a ≤ 4294967295)) := by
 unfold spec_HalfOk.f
 rw [inS]
 rfl
theorem askS (a : Int) : spec_l06Ask.f a = some (decide (3 ≤ a ∧ a ≤ 6)) := by
 unfold spec_l06Ask.f
 rw [inS]
 rfl
def InsP (a b c d : Int) : Prop := (1 ≤ a ∧ a ≤ 8) ∧ (0 ≤ b ∧ b ≤ 4294967295) ∧ (0 ≤ c ∧ c ≤ 15) ∧ (0 ≤ d ∧ d ≤ 15) ∧ ((3 ≤ a ∧ a ≤ 6) ∨ (c = 0 ∧ d = 0)) ∧ (a = 1 → b < 8) ∧ (a = 7 → b < 400)
instance (a b c d : Int) : Decidable (InsP a b c d) := by unfold InsP; infer_instance
theorem okS (k : Nat) (hk : 2 ≤ k) (a b c d : Int) : spec_InsOk.f k a b c d = some (decide (InsP a b c d)) := by
 obtain ⟨k, rfl⟩ : ∃ m, k = m + 2 := ⟨k - 2, by omega⟩
 have e : ∀ x : Bool, (x = true ↔ InsP a b c d) → some x = some (decide (InsP a b c d)) := fun x h => congrArg some (by rw [Bool.eq_iff_iff, h]; simp)
 unfold spec_InsOk.f
 simp only [inS, halfS, askS, spec_InsOk.j0, spec_InsOk.j1, Option.bind_some, decide_eq_true_eq, Bool.not_eq_true', decide_eq_false_iff_not]
 repeat' split
 all_goals (refine e _ ?_; clear e; unfold InsP; (try simp only [Bool.false_eq_true, bne_iff_ne, ne_eq, decide_eq_true_eq, false_iff, true_iff, Classical.not_not] at *))
 all_goals (first | contradiction | omega)
/-- Where a word leads at the farthest. -/
def farP (x : S93) (i : Int) : Int := if 3 ≤ x.f0 ∧ x.f0 ≤ 6 then i + 1 + mx x.f2 x.f3 else if x.f0 = 7 then i + 1 + x.f1 else i
/-- A right word at a place, that leads inside. -/
def AtP (l : List S93) (j : Nat) (h : j < l.length) : Prop := InsP l[j].f0 l[j].f1 l[j].f2 l[j].f3 ∧ farP l[j] j < l.length
/-- A right program. -/
def ProgP (l : List S93) : Prop := (1 ≤ l.length ∧ l.length ≤ 400) ∧ (∀ h : 0 < l.length, (l[l.length - 1]'(by omega)).f0 = 8) ∧ ∀ j (h : j < l.length), AtP l j h
/-- The same, as the reference asks it. -/
def AtS (l : List S93) (j : Nat) (h : j < l.length) : Prop := InsP l[j].f0 l[j].f1 l[j].f2 l[j].f3 ∧ (l[j].f0 = 8 ∨ (j : Int) + 1 + (if l[j].f0 = 7 then l[j].f1 else if l[j].f2 > l[j].f3 then l[j].f2 else l[j].f3) < l.length)
theorem l07 (a b c d : Int) : spec_l07Far.f a b c d = some (if a = 7 then b else if c > d then c else d) := by
 unfold spec_l07Far.f
 split
 ·rfl
 ·split <;> rfl
theorem chkS_l0 (l : List S93) (h0 : 0 < l.length) (hn : l.length ≤ 400) : ∀ (d i : Nat), i + d = l.length → ∃ b, (∀ k, d + 3 ≤ k → spec_CheckProgram.l0 k l (i : Int) = some b) ∧ (b = true ↔ (∀ j (h : j < l.length), i ≤ j → AtS l j h) ∧ (l[l.length - 1]'(by omega)).f0 = 8)
 | 0, i, hi => by
  have e1 : wrap64 ((l.length : Int) - 1) = ((l.length - 1 : Nat) : Int) := by rw [w64 (by omega) (by omega)]; omega
  have hr : rd_T93 l ((l.length - 1 : Nat) : Int) = l[l.length - 1]'(by omega) := rd_nat93 l _ (by omega)
  refine ⟨(l[l.length - 1]'(by omega)).f0 == 8, fun k hk => ?_, ?_⟩
  ·obtain ⟨k, rfl⟩ : ∃ m, k = m + 1 := ⟨k - 1, by omega⟩
   simp only [spec_CheckProgram.l0]
   rw [if_neg (by omega), e1, if_pos (by omega), if_pos (by omega), hr]
  ·simp only [beq_iff_eq]
   exact ⟨fun h => ⟨fun j h1 h2 => by omega, h⟩, fun h => h.2⟩
 | d + 1, i, hi => by
  have hlt : i < l.length := by omega
  obtain ⟨b, hb, hbi⟩ := chkS_l0 l h0 hn d (i + 1) (by omega)
  have step : ∀ k, spec_CheckProgram.l0 (k + 1) l (i : Int) = ((spec_InsOk.f k l[i].f0 l[i].f1 l[i].f2 l[i].f3).bind fun t => if t = true then (if l[i].f0 = 8 then spec_CheckProgram.l0 k l ((i + 1 : Nat) : Int) else ((spec_l07Far.f l[i].f0 l[i].f1 l[i].f2 l[i].f3).bind fun u => if wrap64 (((i + 1 : Nat) : Int) + u) ≥ (l.length : Int) then some false else spec_CheckProgram.l0 k l ((i + 1 : Nat) : Int))) else some false) := by
   intro k
   simp only [spec_CheckProgram.l0]
   rw [if_pos (by omega), if_pos (by omega), rd_nat93 l i hlt, wsucc hlt (by omega)]
  by_cases hA : AtS l i hlt
  ·refine ⟨b, fun k hk => ?_, ?_⟩
   ·obtain ⟨k, rfl⟩ : ∃ m, k = m + 1 := ⟨k - 1, by omega⟩
    obtain ⟨h1, h2⟩ := hA
    rw [step, okS k (by omega), l07]
    simp only [Option.bind_some, decide_eq_true_eq]
    rw [if_pos h1]
    split
    ·exact hb k (by omega)
    ·rename_i h8
     have h3 := h2.resolve_left h8
     unfold InsP at h1
     rw [if_neg (by rw [w64 (by split <;> (try split) <;> omega) (by split <;> (try split) <;> omega)]; omega)]
     exact hb k (by omega)
   ·rw [hbi]
    refine ⟨fun h => ⟨fun j hj hij => ?_, h.2⟩, fun h => ⟨fun j hj hij => h.1 j hj (by omega), h.2⟩⟩
    rcases Nat.lt_or_ge i j with h3 | h3
    ·exact h.1 j hj (by omega)
    ·have : i = j := by omega
     subst this
     exact hA
  ·refine ⟨false, fun k hk => ?_, ⟨(fun h => by cases h), fun h => absurd (h.1 i hlt (Nat.le_refl _)) hA⟩⟩
   obtain ⟨k, rfl⟩ : ∃ m, k = m + 1 := ⟨k - 1, by omega⟩
   rw [step, okS k (by omega), l07]
   simp only [Option.bind_some, decide_eq_true_eq]
   split
   ·rename_i h1
    have h8 : ¬ l[i].f0 = 8 := fun h => hA ⟨h1, .inl h⟩
    have h3 : ¬ (i : Int) + 1 + (if l[i].f0 = 7 then l[i].f1 else if l[i].f2 > l[i].f3 then l[i].f2 else l[i].f3) < l.length := fun h => hA ⟨h1, .inr h⟩
    unfold InsP at h1
    rw [if_neg h8, if_pos (by rw [w64 (by split <;> (try split) <;> omega) (by split <;> (try split) <;> omega)]; omega)]
   ·rfl
theorem chkS (l : List S93) : ∃ b, (∀ k, l.length + 4 ≤ k → spec_CheckProgram.f k l = some b) ∧ (b = true ↔ ProgP l) := by
 by_cases h1 : 1 ≤ l.length ∧ l.length ≤ 400
 ·obtain ⟨b, hb, hbi⟩ := chkS_l0 l (by omega) h1.2 l.length 0 (by omega)
  refine ⟨b, fun k hk => ?_, ?_⟩
  ·unfold spec_CheckProgram.f
   rw [inS]
   simp only [Option.bind_some, decide_eq_true_eq]
   rw [if_pos (by omega)]
   exact hb k (by omega)
  ·rw [hbi]
   have key : (l[l.length - 1]'(by omega)).f0 = 8 → ∀ j (h : j < l.length), (AtS l j h ↔ AtP l j h) := by
    intro h8 j hj
    unfold AtS AtP farP
    refine and_congr_right fun hI => ?_
    have hl : j + 1 < l.length ∨ l[j].f0 = 8 := by
     rcases Nat.lt_or_ge (j + 1) l.length with h | h
     ·exact .inl h
     ·have : j = l.length - 1 := by omega
      subst this
      exact .inr h8
    unfold InsP at hI
    unfold mx
    constructor
    · intro h
      split
      · rcases h with h | h
        · omega
        · rw [if_neg (by omega)] at h
          split <;> (split at h <;> omega)
      · split
        · rename_i h7
          rcases h with h | h
          · omega
          · rw [if_pos h7] at h
            omega
        · omega
    · intro h
      rcases hl with hl | hl
      · by_cases h9 : l[j].f0 = 8
        · exact .inl h9
        · right
          by_cases h7 : l[j].f0 = 7
          · rw [if_pos h7]
            rw [if_neg (by omega), if_pos h7] at h
            omega
          · rw [if_neg h7]
            by_cases ha : 3 ≤ l[j].f0 ∧ l[j].f0 ≤ 6
            · rw [if_pos ha] at h
              split <;> (split at h <;> omega)
            · split <;> omega
      · exact .inl hl
   refine ⟨fun h => ⟨h1, fun _ => h.2, fun j hj => (key h.2 j hj).1 (h.1 j hj (by omega))⟩, fun h => ⟨fun j hj _ => (key (h.2.1 (by omega)) j hj).2 (h.2.2 j hj), h.2.1 (by omega)⟩⟩
 ·refine ⟨false, fun k hk => ?_, ⟨(fun h => by cases h), fun h => absurd h.1 h1⟩⟩
  unfold spec_CheckProgram.f
  rw [inS]
  simp only [Option.bind_some, decide_eq_true_eq]
  rw [if_neg (by omega)]
theorem nrd_T95 (l : List S95) (i : Nat) (h : i < l.length) : rd_T95 l (i : Int) = l[i] := getD_lt _ h
theorem rd_nat95 (l : List S95) (i : Nat) (h : i < l.length) : rd_T95 l (i : Int) = l[i] := getD_lt _ h
/-- The first place from an index on. -/
def Fst (Q : Nat → Prop) (n i : Nat) (v : Int) : Prop := (∃ j, i ≤ j ∧ j < n ∧ Q j ∧ v = (j : Int) ∧ ∀ m, i ≤ m → m < j → ¬ Q m) ∨ (v = -1 ∧ ∀ m, i ≤ m → m < n → ¬ Q m)
def PZ (x : S95) : Prop := x.f1.f0 = 0 ∧ x.f1.f1 = 0 ∧ x.f1.f2 = 0 ∧ x.f1.f3 = 0
instance (x : S95) : Decidable (PZ x) := by unfold PZ; infer_instance
def QS (L : List S95) (s : List UInt8) (j : Nat) : Prop := ∃ h : j < L.length, PZ L[j] ∧ L[j].f0.toList = s
def QI (L : List S95) (s : List UInt8) (j : Nat) : Prop := ∃ h : j < L.length, L[j].f1.f0 = 0 ∧ L[j].f0.toList = s
theorem Fst.here {Q : Nat → Prop} {n i : Nat} (h : i < n) (hq : Q i) : Fst Q n i (i : Int) := .inl ⟨i, Nat.le_refl _, h, hq, rfl, fun m h1 h2 => by omega⟩
theorem Fst.next {Q : Nat → Prop} {n i : Nat} {v : Int} (hq : ¬ Q i) (h : Fst Q n (i + 1) v) : Fst Q n i v := by
  rcases h with ⟨j, h1, h2, h3, h4, h5⟩ | ⟨h1, h2⟩
  · refine .inl ⟨j, by omega, h2, h3, h4, fun m h6 h7 => ?_⟩
    rcases Nat.lt_or_ge i m with h8 | h8
    · exact h5 m h8 h7
    · have : m = i := by omega
      subst this
      exact hq
  · refine .inr ⟨h1, fun m h6 h7 => ?_⟩
    rcases Nat.lt_or_ge i m with h8 | h8
    · exact h2 m h8 h7
    · have : m = i := by omega
      subst this
      exact hq
theorem atS_l0 (L : List S95) (s : ByteArray) (hn : L.length ≤ 4611686018427387904) : ∀ d i, i + d = L.length → ∃ v, (∀ k, d < k → spec_l11At.l0 k L s (i : Int) = some v) ∧ Fst (QS L s.toList) L.length i v
  | 0, i, hi => by
    refine ⟨-1, fun k hk => ?_, .inr ⟨rfl, fun m h1 h2 => by omega⟩⟩
    obtain ⟨k, rfl⟩ : ∃ m, k = m + 1 := ⟨k - 1, by omega⟩
    simp only [spec_l11At.l0]
    rw [if_neg (by omega)]
  | d + 1, i, hi => by
    have hlt : i < L.length := by omega
    by_cases hq : QS L s.toList i
    · refine ⟨i, fun k hk => ?_, .here hlt hq⟩
      obtain ⟨k, rfl⟩ : ∃ m, k = m + 1 := ⟨k - 1, by omega⟩
      obtain ⟨_, h1, h2⟩ := hq
      simp only [spec_l11At.l0, spec_l11Place.f]
      rw [if_pos (by omega), if_pos (by omega), rd_nat95 L i hlt]
      simp only [Option.bind_some]
      rw [if_pos (by obtain ⟨a, b, c, d⟩ := h1; simp [a, b, c, d]), if_pos h2]
    · obtain ⟨v, h1, h2⟩ := atS_l0 L s hn d (i + 1) (by omega)
      refine ⟨v, fun k hk => ?_, h2.next hq⟩
      obtain ⟨k, rfl⟩ : ∃ m, k = m + 1 := ⟨k - 1, by omega⟩
      simp only [spec_l11At.l0, spec_l11Place.f]
      rw [if_pos (by omega), if_pos (by omega), rd_nat95 L i hlt, wsucc hlt (by omega)]
      simp only [Option.bind_some]
      by_cases hp : PZ L[i]
      · rw [if_pos (by obtain ⟨a, b, c, d⟩ := hp; simp [a, b, c, d]), if_neg fun h => hq ⟨hlt, hp, h⟩]
        exact h1 k (by omega)
      · rw [if_neg (by unfold PZ at hp; simp; grind)]
        exact h1 k (by omega)
theorem atS (L : List S95) (s : ByteArray) (hn : L.length ≤ 1048576) : ∃ v, (∀ k, L.length < k → spec_l11At.f k L s = some v) ∧ Fst (QS L s.toList) L.length 0 v :=
  atS_l0 L s (by omega) L.length 0 (by omega)
def SL (x : S95) (i v0 v2 v3 : Int) : Prop :=
  (PZ x ∧ (1 ≤ (x.f0.size : Int) ∧ (x.f0.size : Int) ≤ 12) ∧ x.f2.toList = [] ∧ x.f3.toList = [] ∧ v0 = i) ∨
  (¬ PZ x ∧ x.f0.toList = [] ∧ x.f1.f2 = 0 ∧ x.f1.f3 = 0 ∧ (x.f1.f0 = 7 → x.f1.f1 = 0) ∧ InsP x.f1.f0 x.f1.f1 x.f1.f2 x.f1.f3 ∧
    ((x.f1.f0 = 7 ∧ x.f3.toList = [] ∧ v2 > i) ∨ ((3 ≤ x.f1.f0 ∧ x.f1.f0 ≤ 6) ∧ v2 > i ∧ v3 > i) ∨ (¬ x.f1.f0 = 7 ∧ ¬ (3 ≤ x.f1.f0 ∧ x.f1.f0 ≤ 6) ∧ x.f2.toList = [] ∧ x.f3.toList = [])))
instance (x : S95) (i v0 v2 v3 : Int) : Decidable (SL x i v0 v2 v3) := by unfold SL; infer_instance
def IL (x : S95) (i w0 w2 w3 : Int) : Prop :=
  (PZ x ∧ (1 ≤ (x.f0.size : Int) ∧ (x.f0.size : Int) ≤ 12) ∧ x.f2.toList = [] ∧ x.f3.toList = [] ∧ w0 = i) ∨
  (¬ x.f1.f0 = 0 ∧ x.f0.toList = [] ∧ x.f1.f2 = 0 ∧ x.f1.f3 = 0 ∧ (x.f1.f0 = 7 → x.f1.f1 = 0) ∧ InsP x.f1.f0 x.f1.f1 x.f1.f2 x.f1.f3 ∧
    ((x.f1.f0 = 7 ∧ x.f3.toList = [] ∧ w2 ≥ 0) ∨ ((3 ≤ x.f1.f0 ∧ x.f1.f0 ≤ 6) ∧ w2 ≥ 0 ∧ w3 ≥ 0) ∨ (¬ x.f1.f0 = 7 ∧ ¬ (3 ≤ x.f1.f0 ∧ x.f1.f0 ≤ 6) ∧ x.f2.toList = [] ∧ x.f3.toList = [])))
instance (x : S95) (i v0 v2 v3 : Int) : Decidable (IL x i v0 v2 v3) := by unfold IL; infer_instance
theorem eqb {b : Bool} {P : Prop} [Decidable P] (h : b = true ↔ P) : some b = some (decide P) := congrArg some (by rw [Bool.eq_iff_iff, h]; simp)
set_option maxHeartbeats 1000000 in
theorem lineS (L : List S95) (i : Nat) (hi : i < L.length) (k : Nat) (hk : 5 ≤ k) (v0 v2 v3 : Int) (h0 : ∀ m, k ≤ m + 1 → spec_l11At.f m L L[i].f0 = some v0) (h2 : ∀ m, k ≤ m + 1 → spec_l11At.f m L L[i].f2 = some v2) (h3 : ∀ m, k ≤ m + 1 → spec_l11At.f m L L[i].f3 = some v3) :
    spec_l11Line.f k L (i : Int) = some (decide (SL L[i] i v0 v2 v3)) := by
  obtain ⟨k, rfl⟩ : ∃ m, k = m + 1 := ⟨k - 1, by omega⟩
  simp only [spec_l11Line.f, spec_l11Place.f]
  rw [if_pos (by omega), if_pos (by omega), rd_nat95 L i hi]
  simp only [Option.bind_some, inS, okS _ (show 2 ≤ k + 1 by omega), h0 _ (Nat.le_succ _), spec_l11Line.j0, askS, h2 _ (Nat.le_refl _), h3 _ (Nat.le_refl _), decide_eq_true_eq]
  have eP : ((L[i].f1.f0 == 0 && (L[i].f1.f1 == 0 && (L[i].f1.f2 == 0 && (L[i].f1.f3 == 0)))) = true) = PZ L[i] := by
    unfold PZ
    simp
  simp only [eP]
  generalize L[i] = x
  by_cases hp : PZ x
  · rw [if_pos hp]
    repeat' split
    all_goals (refine eqb ?_; unfold SL; grind)
  · rw [if_neg hp]
    repeat' split
    all_goals (refine eqb ?_; unfold SL; grind)
theorem Fst.uniq {Q Q' : Nat → Prop} {n i : Nat} {v v' : Int} (h : Fst Q n i v) (h' : Fst Q' n i v') (e : ∀ m, m < n → (Q m ↔ Q' m)) : v = v' := by
  rcases h with ⟨j, h1, h2, h3, h4, h5⟩ | ⟨h1, h2⟩
  · rcases h' with ⟨j', g1, g2, g3, g4, g5⟩ | ⟨g1, g2⟩
    · have : j = j' := by
        rcases Nat.lt_trichotomy j j' with h | h | h
        · exact absurd ((e j h2).1 h3) (g5 j h1 h)
        · exact h
        · exact absurd ((e j' g2).2 g3) (h5 j' g1 h)
      omega
    · exact absurd ((e j h2).1 h3) (g2 j h1 h2)
  · rcases h' with ⟨j', g1, g2, g3, g4, g5⟩ | ⟨g1, g2⟩
    · exact absurd ((e j' g2).2 g3) (h2 j' g1 g2)
    · omega
theorem allLoop {F : Nat → Int → Option Bool} {n : Nat} {P : Nat → Prop} (h0 : ∀ k, F (k + 1) (n : Int) = some true)
    (h1 : ∀ i : Nat, i < n → ∃ b, (b = true ↔ P i) ∧ ∃ K, ∀ k, K ≤ k → F (k + 1) (i : Int) = if b = true then F k ((i + 1 : Nat) : Int) else some false) : ∃ b, Evt (fun k => F k 0) b ∧ (b = true ↔ ∀ i, i < n → P i) := by
  have h := down (T := fun i => ∃ b, Evt (fun k => F k (i : Int)) b ∧ (b = true ↔ ∀ j, i ≤ j → j < n → P j)) (n := n) ?_ ?_ n 0 (by omega)
  · obtain ⟨b, h2, h3⟩ := h
    exact ⟨b, h2, h3.trans ⟨fun h j hj => h j (Nat.zero_le _) hj, fun h j _ hj => h j hj⟩⟩
  · exact ⟨true, .succ (.const fun k => h0 k), by simp; intro j h2 h3; omega⟩
  · intro i hi ⟨b, ⟨K, hK⟩, hb⟩
    obtain ⟨b', hb', K', hK'⟩ := h1 i hi
    cases b' with
    | true =>
      refine ⟨b, .succ ⟨K + K', fun k hk => ?_⟩, hb.trans ⟨fun h j h2 h3 => ?_, fun h j h2 h3 => h j (by omega) h3⟩⟩
      · show F (k + 1) (i : Int) = _
        rw [hK' k (by omega), if_pos rfl]
        exact hK k (by omega)
      · rcases Nat.lt_or_ge i j with h4 | h4
        · exact h j h4 h3
        · have : i = j := by omega
          subst this
          exact hb'.1 rfl
    | false =>
      refine ⟨false, .succ ⟨K', fun k hk => ?_⟩, ⟨(fun h => by cases h), fun h => absurd (hb'.2 (h i (Nat.le_refl _) hi)) (by simp)⟩⟩
      show F (k + 1) (i : Int) = _
      rw [hK' k (by omega), if_neg (by simp)]
def SAll (L : List S95) : Prop := ∀ j (h : j < L.length), ∀ v0 v2 v3, Fst (QS L L[j].f0.toList) L.length 0 v0 → Fst (QS L L[j].f2.toList) L.length 0 v2 → Fst (QS L L[j].f3.toList) L.length 0 v3 → SL L[j] j v0 v2 v3
def IAll (L : List S95) : Prop := ∀ j (h : j < L.length), ∀ v0 v2 v3, Fst (QI L L[j].f0.toList) L.length 0 v0 → Fst (QI L L[j].f2.toList) L.length (j + 1) v2 → Fst (QI L L[j].f3.toList) L.length (j + 1) v3 → IL L[j] j v0 v2 v3
theorem sAll (L : List S95) (hn : L.length ≤ 1048576) : ∃ b, Evt (fun k => spec_LinesOk.l0 k L 0) b ∧ (b = true ↔ SAll L) := by
  obtain ⟨b, h1, h2⟩ := allLoop (F := fun k i => spec_LinesOk.l0 k L i) (n := L.length) (P := fun j => ∀ h : j < L.length, ∀ v0 v2 v3, Fst (QS L L[j].f0.toList) L.length 0 v0 → Fst (QS L L[j].f2.toList) L.length 0 v2 → Fst (QS L L[j].f3.toList) L.length 0 v3 → SL L[j] j v0 v2 v3)
    (fun k => by simp only [spec_LinesOk.l0]; rw [if_neg (by omega)]) (fun i hi => by
      obtain ⟨v0, a0, b0⟩ := atS L L[i].f0 hn
      obtain ⟨v2, a2, b2⟩ := atS L L[i].f2 hn
      obtain ⟨v3, a3, b3⟩ := atS L L[i].f3 hn
      refine ⟨decide (SL L[i] i v0 v2 v3), ?_, L.length + 10, fun k hk => ?_⟩
      · rw [decide_eq_true_eq]
        refine ⟨fun h _ u0 u2 u3 c0 c2 c3 => ?_, fun h => h hi v0 v2 v3 b0 b2 b3⟩
        rw [← b0.uniq c0 (fun _ _ => .rfl), ← b2.uniq c2 (fun _ _ => .rfl), ← b3.uniq c3 (fun _ _ => .rfl)]
        exact h
      · simp only [spec_LinesOk.l0]
        rw [if_pos (by omega), lineS L i hi k (by omega) v0 v2 v3 (fun m hm => a0 m (by omega)) (fun m hm => a2 m (by omega)) (fun m hm => a3 m (by omega)), wsucc hi (by omega)]
        rfl)
  exact ⟨b, h1, h2.trans ⟨fun h j hj => h j hj hj, fun h j hj _ => h j hj⟩⟩
theorem Fst.ex (Q : Nat → Prop) (n : Nat) : ∀ d i, i + d = n → ∃ v, Fst Q n i v
  | 0, i, h => ⟨-1, .inr ⟨rfl, fun m h1 h2 => by omega⟩⟩
  | d + 1, i, h => by
    by_cases hq : Q i
    · exact ⟨i, .here (by omega) hq⟩
    · obtain ⟨v, hv⟩ := Fst.ex Q n d (i + 1) (by omega)
      exact ⟨v, hv.next hq⟩
theorem fstS (L : List S95) (hn : L.length ≤ 1048576) (s : ByteArray) : ∃ v, Fst (QS L s.toList) L.length 0 v := Fst.ex _ _ L.length 0 (by omega)
theorem fstI (L : List S95) (hn : L.length ≤ 1048576) (s : ByteArray) (i : Nat) (hi : i ≤ L.length) : ∃ v, Fst (QI L s.toList) L.length i v := Fst.ex _ _ (L.length - i) i (by omega)
theorem qs_qi {L : List S95} (H : ∀ j (h : j < L.length), L[j].f1.f0 = 0 → PZ L[j]) (s : List UInt8) (m : Nat) : QS L s m ↔ QI L s m :=
  ⟨fun ⟨h, h1, h2⟩ => ⟨h, h1.1, h2⟩, fun ⟨h, h1, h2⟩ => ⟨h, H m h h1, h2⟩⟩
theorem all_iff (L : List S95) (hn : L.length ≤ 1048576) : SAll L ↔ IAll L := by
  constructor
  · intro hS
    have H : ∀ j (h : j < L.length), L[j].f1.f0 = 0 → PZ L[j] := fun j h e => by
      obtain ⟨v0, h0⟩ := fstS L hn L[j].f0
      obtain ⟨v2, h2⟩ := fstS L hn L[j].f2
      obtain ⟨v3, h3⟩ := fstS L hn L[j].f3
      rcases hS j h v0 v2 v3 h0 h2 h3 with h4 | h4
      · exact h4.1
      · have h5 := h4.2.2.2.2.2.1
        unfold InsP at h5
        omega
    have up : ∀ (s : ByteArray) (j : Nat) (v w : Int), Fst (QS L s.toList) L.length 0 v → Fst (QI L s.toList) L.length (j + 1) w → v > j → w ≥ 0 := fun s j v w h1 h2 h3 => by
      rcases h1 with ⟨m, _, m2, m3, m4, _⟩ | ⟨m1, _⟩
      · rcases h2 with ⟨u, _, _, _, u4, _⟩ | ⟨_, u2⟩
        · omega
        · exact absurd ((qs_qi H _ m).1 m3) (u2 m (by omega) m2)
      · omega
    intro j h w0 w2 w3 g0 g2 g3
    obtain ⟨v0, h0⟩ := fstS L hn L[j].f0
    obtain ⟨v2, h2⟩ := fstS L hn L[j].f2
    obtain ⟨v3, h3⟩ := fstS L hn L[j].f3
    have e0 := h0.uniq g0 (fun m _ => qs_qi H _ m)
    have u2 := up _ j v2 w2 h2 g2
    have u3 := up _ j v3 w3 h3 g3
    rcases hS j h v0 v2 v3 h0 h2 h3 with ⟨a, b, c, d, e⟩ | ⟨a, b, c, d, e, f, g⟩
    · exact .inl ⟨a, b, c, d, by omega⟩
    · refine .inr ⟨by unfold InsP at f; omega, b, c, d, e, f, ?_⟩
      rcases g with ⟨g1, g2, g3⟩ | ⟨g1, g2, g3⟩ | g
      · exact .inl ⟨g1, g2, u2 g3⟩
      · exact .inr (.inl ⟨g1, u2 g2, u3 g3⟩)
      · exact .inr (.inr g)
  · intro hI
    have hW : ∀ j (h : j < L.length), ∃ w0 w2 w3, Fst (QI L L[j].f0.toList) L.length 0 w0 ∧ Fst (QI L L[j].f2.toList) L.length (j + 1) w2 ∧ Fst (QI L L[j].f3.toList) L.length (j + 1) w3 ∧ IL L[j] j w0 w2 w3 := fun j h => by
      obtain ⟨v0, h0⟩ := fstI L hn L[j].f0 0 (by omega)
      obtain ⟨v2, h2⟩ := fstI L hn L[j].f2 (j + 1) h
      obtain ⟨v3, h3⟩ := fstI L hn L[j].f3 (j + 1) h
      exact ⟨v0, v2, v3, h0, h2, h3, hI j h v0 v2 v3 h0 h2 h3⟩
    have H : ∀ j (h : j < L.length), L[j].f1.f0 = 0 → PZ L[j] := fun j h e => by
      obtain ⟨w0, w2, w3, _, _, _, h4⟩ := hW j h
      rcases h4 with h4 | h4
      · exact h4.1
      · exact absurd e h4.1
    have dn : ∀ (s : ByteArray) (j : Nat) (v w : Int), Fst (QS L s.toList) L.length 0 v → Fst (QI L s.toList) L.length (j + 1) w → w ≥ 0 → v > j := fun s j v w h1 h2 h3 => by
      rcases h2 with ⟨m, m1, m2, m3, m4, _⟩ | ⟨m1, _⟩
      · obtain ⟨w0, w2, w3, g0, _, _, g4⟩ := hW m m2
        obtain ⟨_, m5, m6⟩ := m3
        have hz := H m m2 m5
        have e0 : w0 = m := by
          rcases g4 with g4 | g4
          · exact g4.2.2.2.2
          · exact absurd m5 g4.1
        rw [m6] at g0
        have := h1.uniq g0 (fun m _ => qs_qi H _ m)
        omega
      · omega
    intro j h v0 v2 v3 h0 h2 h3
    obtain ⟨w0, w2, w3, g0, g2, g3, hl⟩ := hW j h
    have e0 := h0.uniq g0 (fun m _ => qs_qi H _ m)
    have u2 := dn _ j v2 w2 h2 g2
    have u3 := dn _ j v3 w3 h3 g3
    rcases hl with ⟨a, b, c, d, e⟩ | ⟨a, b, c, d, e, f, g⟩
    · exact .inl ⟨a, b, c, d, by omega⟩
    · refine .inr ⟨fun h => a h.1, b, c, d, e, f, ?_⟩
      rcases g with ⟨g1, g2, g3⟩ | ⟨g1, g2, g3⟩ | g
      · exact .inl ⟨g1, g2, u2 g3⟩
      · exact .inr (.inl ⟨g1, u2 g2, u3 g3⟩)
      · exact .inr (.inr g)
/-- Sizes before an index, summed up. -/
def pre (o : List Int) (i : Nat) : Int := (o.take i).sum
theorem pre_succ {o : List Int} {i : Nat} (h : i < o.length) : pre o (i + 1) = pre o i + o[i] := by
  unfold pre
  rw [List.take_succ_eq_append_getElem h, List.sum_append]
  simp
theorem pre_bound {o : List Int} (ho : ∀ j (h : j < o.length), 0 ≤ o[j] ∧ o[j] ≤ 3) : ∀ i, i ≤ o.length → 0 ≤ pre o i ∧ pre o i ≤ 3 * i
  | 0, _ => by simp [pre]
  | i + 1, h => by
    have := pre_bound ho i (by omega)
    have := ho i (by omega)
    rw [pre_succ (by omega)]
    omega
theorem nrdI (l : List Int) (i : Nat) (h : i < l.length) : rd l (i : Int) = l[i] := getD_lt _ h
def ones : List Int → Nat
  | [] => 0
  | x :: l => (if x = 1 then 1 else 0) + ones l
theorem ones_le : ∀ l : List Int, ones l ≤ l.length
  | [] => Nat.le_refl _
  | x :: l => by
    have := ones_le l
    simp only [ones, List.length_cons]
    split <;> omega
theorem ones_set : ∀ (l : List Int) (i : Nat) (h : i < l.length), l[i] = 1 → ones (l.set i 3) + 1 = ones l
  | x :: l, 0, h, e => by
    simp only [List.getElem_cons_zero] at e
    subst e
    simp [ones]
    omega
  | x :: l, i + 1, h, e => by
    simp only [List.getElem_cons_succ] at e
    have := ones_set l i (by simpa using h) e
    simp only [List.set_cons_succ, ones]
    omega
/-- Where each word begins. -/
theorem begins (o : List Int) (hn : o.length ≤ 600) (ho : ∀ j (h : j < o.length), 0 ≤ o[j] ∧ o[j] ≤ 3) : ∃ B : List Int, B.length = o.length ∧ (∀ i (h : i < B.length), B[i] = pre o i) ∧ Evt (fun k => spec_l11Begins.f k o) B := by
  have key := down (T := fun i => ∀ b : List Int, b.length = i → (∀ j (h : j < b.length), b[j] = pre o j) → ∃ B : List Int, B.length = o.length ∧ (∀ j (h : j < B.length), B[j] = pre o j) ∧ Evt (fun k => spec_l11Begins.l0 k o b (pre o i) (i : Int)) B) (n := o.length) ?_ ?_ o.length 0 (by omega) [] rfl (by simp)
  · obtain ⟨B, h1, h2, h3⟩ := key
    exact ⟨B, h1, h2, h3⟩
  · intro b hb hj
    refine ⟨b, hb, hj, .succ (.const fun k => ?_)⟩
    simp only [spec_l11Begins.l0]
    rw [if_neg (by omega)]
  · intro i hi ih b hb hj
    have b1 := pre_bound ho i (by omega)
    have b2 := ho i hi
    obtain ⟨B, h1, h2, K, h3⟩ := ih (b ++ [pre o i]) (by simp; omega) (fun j h => by
      rcases Nat.lt_or_ge j b.length with h4 | h4
      · rw [List.getElem_append_left h4]
        exact hj j h4
      · have : j = b.length := by simp at h; omega
        subst this
        rw [List.getElem_append_right (Nat.le_refl _)]
        simp
        rw [hb])
    refine ⟨B, h1, h2, .succ ⟨K, fun k hk => ?_⟩⟩
    simp only [spec_l11Begins.l0]
    rw [if_pos (by omega), if_pos (by omega), if_pos (by omega), nrdI o i hi, w64 (x := pre o i + o[i]) (by omega) (by omega), wsucc hi (by omega)]
    have := h3 k hk
    rw [pre_succ hi] at this
    exact this
/-- Sizes that may stand for right lines. -/
def OkS (L : List S95) (o : List Int) : Prop := o.length = L.length ∧ (∀ j (h : j < o.length), 0 ≤ o[j] ∧ o[j] ≤ 3) ∧ (∀ j (h : j < o.length) (h' : j < L.length), 3 ≤ L[j].f1.f0 ∧ L[j].f1.f0 ≤ 6 → o[j] = 1 ∨ o[j] = 3) ∧ (∀ j (h : j < o.length) (h' : j < L.length), ¬ (3 ≤ L[j].f1.f0 ∧ L[j].f1.f0 ≤ 6) → o[j] = if L[j].f1.f0 = 0 then 0 else 1)
theorem OkS.set {L : List S95} {o : List Int} (h : OkS L o) (i : Nat) (hi : i < L.length) (hask : 3 ≤ L[i].f1.f0 ∧ L[i].f1.f0 ≤ 6) : OkS L (o.set i 3) := by
  obtain ⟨h1, h2, h3, h4⟩ := h
  refine ⟨by rw [List.length_set]; exact h1, fun j hj => ?_, fun j hj hj' ha => ?_, fun j hj hj' ha => ?_⟩
  · rw [List.length_set] at hj
    rw [List.getElem_set]
    split
    · omega
    · exact h2 j hj
  · rw [List.length_set] at hj
    rw [List.getElem_set]
    split
    · exact .inr rfl
    · exact h3 j hj hj' ha
  · rw [List.length_set] at hj
    rw [List.getElem_set]
    split
    · rename_i e
      subst e
      exact absurd hask ha
    · exact h4 j hj hj' ha
/-- The ways, as the reference keeps them. -/
def OkW (L : List S95) (Y N : List Int) : Prop := Y.length = L.length ∧ N.length = L.length ∧ ∀ j (h : j < L.length) (h1 : j < Y.length) (h2 : j < N.length), (L[j].f2.toList ≠ [] → ∀ v, (∀ k, L.length < k → spec_l11At.f k L L[j].f2 = some v) → Y[j] = v) ∧ (L[j].f3.toList ≠ [] → ∀ v, (∀ k, L.length < k → spec_l11At.f k L L[j].f3 = some v) → N[j] = v)
theorem ways (L : List S95) (hn : L.length ≤ 600) : ∃ Y N, OkW L Y N ∧ Evt (fun k => spec_l11Ways.f k L) (Y, N) := by
  have key := down (T := fun i => ∀ y n : List Int, y.length = i → n.length = i → (∀ j (h : j < L.length) (h1 : j < y.length) (h2 : j < n.length), (L[j].f2.toList ≠ [] → ∀ v, (∀ k, L.length < k → spec_l11At.f k L L[j].f2 = some v) → y[j] = v) ∧ (L[j].f3.toList ≠ [] → ∀ v, (∀ k, L.length < k → spec_l11At.f k L L[j].f3 = some v) → n[j] = v)) → ∃ Y N, OkW L Y N ∧ Evt (fun k => spec_l11Ways.l0 k L y n (i : Int)) (Y, N)) (n := L.length) ?_ ?_ L.length 0 (by omega) [] [] rfl rfl (by simp)
  · exact key
  · intro y n hy hm hj
    exact ⟨y, n, ⟨hy, hm, hj⟩, .succ (.const fun k => by simp only [spec_l11Ways.l0]; rw [if_neg (by omega)])⟩
  · intro i hi ih y n hy hm hj
    obtain ⟨a, ha, _⟩ := atS L L[i].f2 (by omega)
    obtain ⟨b, hb, _⟩ := atS L L[i].f3 (by omega)
    have ext : ∀ u v : Int, (L[i].f2.toList ≠ [] → u = a) → (L[i].f3.toList ≠ [] → v = b) → ∃ Y N, OkW L Y N ∧ Evt (fun k => spec_l11Ways.l0 k L (y ++ [u]) (n ++ [v]) ((i + 1 : Nat) : Int)) (Y, N) := fun u v hu hv => by
      refine ih (y ++ [u]) (n ++ [v]) (by simp; omega) (by simp; omega) (fun j h h1 h2 => ?_)
      rcases Nat.lt_or_ge j i with h4 | h4
      · rw [List.getElem_append_left (by omega), List.getElem_append_left (by omega)]
        exact hj j h (by omega) (by omega)
      · have : j = i := by simp at h1; omega
        subst this
        have e1 : (y ++ [u])[j] = u := by rw [List.getElem_append_right (by omega)]; simp
        have e2 : (n ++ [v])[j] = v := by rw [List.getElem_append_right (by omega)]; simp
        rw [e1, e2]
        refine ⟨fun h5 w h6 => ?_, fun h5 w h6 => ?_⟩
        · rw [hu h5]
          exact Option.some.inj ((ha (L.length + 1) (by omega)).symm.trans (h6 (L.length + 1) (by omega)))
        · rw [hv h5]
          exact Option.some.inj ((hb (L.length + 1) (by omega)).symm.trans (h6 (L.length + 1) (by omega)))
    by_cases c2 : L[i].f2.toList = []
    · by_cases c3 : L[i].f3.toList = []
      · obtain ⟨Y, N, h1, K, h2⟩ := ext (-1) (-1) (fun h => absurd c2 h) (fun h => absurd c3 h)
        refine ⟨Y, N, h1, .succ ⟨K, fun k hk => ?_⟩⟩
        simp only [spec_l11Ways.l0]
        rw [if_pos (by omega), if_pos (by omega), nrd_T95 L i hi, if_pos c2, if_pos c3, if_pos (by omega), if_pos (by omega), wsucc hi (by omega)]
        exact h2 k hk
      · obtain ⟨Y, N, h1, K, h2⟩ := ext (-1) b (fun h => absurd c2 h) (fun _ => rfl)
        refine ⟨Y, N, h1, .succ ⟨K + L.length + 1, fun k hk => ?_⟩⟩
        simp only [spec_l11Ways.l0]
        rw [if_pos (by omega), if_pos (by omega), nrd_T95 L i hi, if_pos c2, if_neg c3, hb k (by omega)]
        simp only [Option.bind_some]
        rw [if_pos (by omega), if_pos (by omega), wsucc hi (by omega)]
        exact h2 k (by omega)
    · by_cases c3 : L[i].f3.toList = []
      · obtain ⟨Y, N, h1, K, h2⟩ := ext a (-1) (fun _ => rfl) (fun h => absurd c3 h)
        refine ⟨Y, N, h1, .succ ⟨K + L.length + 1, fun k hk => ?_⟩⟩
        simp only [spec_l11Ways.l0]
        rw [if_pos (by omega), if_pos (by omega), nrd_T95 L i hi, if_neg c2, ha k (by omega)]
        simp only [Option.bind_some]
        rw [if_pos c3, if_pos (by omega), if_pos (by omega), wsucc hi (by omega)]
        exact h2 k (by omega)
      · obtain ⟨Y, N, h1, K, h2⟩ := ext a b (fun _ => rfl) (fun _ => rfl)
        refine ⟨Y, N, h1, .succ ⟨K + L.length + 1, fun k hk => ?_⟩⟩
        simp only [spec_l11Ways.l0]
        rw [if_pos (by omega), if_pos (by omega), nrd_T95 L i hi, if_neg c2, ha k (by omega)]
        simp only [Option.bind_some]
        rw [if_neg c3, hb k (by omega)]
        simp only [Option.bind_some]
        rw [if_pos (by omega), if_pos (by omega), wsucc hi (by omega)]
        exact h2 k (by omega)
/-- The place that a way leads to. -/
def Way (L : List S95) (i : Nat) (s : ByteArray) (y : Nat) : Prop := i < y ∧ y < L.length ∧ QI L s.toList y ∧ Fst (QS L s.toList) L.length 0 (y : Int) ∧ Fst (QI L s.toList) L.length (i + 1) (y : Int) ∧ s.toList ≠ []
theorem Way.uniq {L : List S95} {i : Nat} {s : ByteArray} {y z : Nat} (h : Way L i s y) (h' : Way L i s z) : y = z := by
  have := h.2.2.2.1.uniq h'.2.2.2.1 (fun _ _ => .rfl)
  omega
/-- The ways that a line has. -/
def Has (x : S95) (s : ByteArray) : Prop := (x.f1.f0 = 7 ∧ s = x.f2) ∨ ((3 ≤ x.f1.f0 ∧ x.f1.f0 ≤ 6) ∧ (s = x.f2 ∨ s = x.f3))
theorem plz {L : List S95} (hn : L.length ≤ 1048576) (hI : IAll L) {j : Nat} (h : j < L.length) (e : L[j].f1.f0 = 0) : PZ L[j] := by
  obtain ⟨w0, h0⟩ := fstI L hn L[j].f0 0 (by omega)
  obtain ⟨w2, h2⟩ := fstI L hn L[j].f2 (j + 1) h
  obtain ⟨w3, h3⟩ := fstI L hn L[j].f3 (j + 1) h
  rcases hI j h w0 w2 w3 h0 h2 h3 with h4 | h4
  · exact h4.1
  · exact absurd e h4.1
theorem wayP {L : List S95} (hn : L.length ≤ 1048576) (hS : SAll L) (hI : IAll L) {i : Nat} (hi : i < L.length) (s : ByteArray) (hs : Has L[i] s) : ∃ y : Nat, Way L i s y := by
  have H : ∀ j (h : j < L.length), L[j].f1.f0 = 0 → PZ L[j] := fun j h e => plz hn hI h e
  obtain ⟨v, fv⟩ := fstS L hn s
  obtain ⟨w, fw⟩ := fstI L hn s (i + 1) hi
  have hgt : v > i := by
    obtain ⟨v0, f0⟩ := fstS L hn L[i].f0
    obtain ⟨v2, f2⟩ := fstS L hn L[i].f2
    obtain ⟨v3, f3⟩ := fstS L hn L[i].f3
    have hl := hS i hi v0 v2 v3 f0 f2 f3
    have hz : ¬ PZ L[i] := fun h => by unfold PZ at h; rcases hs with h1 | h1 <;> omega
    rcases hl with h | ⟨_, _, _, _, _, _, h⟩
    · exact absurd h.1 hz
    · rcases hs with ⟨h7, e⟩ | ⟨ha, e | e⟩
      · subst e
        rw [fv.uniq f2 (fun _ _ => .rfl)]
        rcases h with h | h | h
        · exact h.2.2
        · omega
        · exact absurd h7 h.1
      · subst e
        rw [fv.uniq f2 (fun _ _ => .rfl)]
        rcases h with h | h | h
        · omega
        · exact h.2.1
        · exact absurd ha h.2.1
      · subst e
        rw [fv.uniq f3 (fun _ _ => .rfl)]
        rcases h with h | h | h
        · omega
        · exact h.2.2
        · exact absurd ha h.2.1
  rcases fv with ⟨m, m1, m2, m3, m4, m5⟩ | ⟨m1, _⟩
  · have hwm : w = (m : Int) := by
      rcases fw with ⟨u, u1, u2, u3, u4, u5⟩ | ⟨_, u2⟩
      · have q1 : ¬ m < u := fun h => u5 m (by omega) h ((qs_qi H _ m).1 m3)
        have q2 : ¬ u < m := fun h => m5 u (Nat.zero_le _) h ((qs_qi H _ u).2 u3)
        omega
      · exact absurd ((qs_qi H _ m).1 m3) (u2 m (by omega) m2)
    refine ⟨m, by omega, m2, (qs_qi H _ m).1 m3, .inl ⟨m, m1, m2, m3, rfl, m5⟩, hwm ▸ fw, ?_⟩
    obtain ⟨_, p1, p2⟩ := m3
    obtain ⟨v0, f0⟩ := fstS L hn L[m].f0
    obtain ⟨v2, f2⟩ := fstS L hn L[m].f2
    obtain ⟨v3, f3⟩ := fstS L hn L[m].f3
    rcases hS m m2 v0 v2 v3 f0 f2 f3 with h | h
    · intro e
      rw [← p2] at e
      rw [ByteArray.toList_eq] at e
      have h5 : L[m].f0.data.size = 0 := by simpa using congrArg List.length e
      have h6 : L[m].f0.size = L[m].f0.data.size := rfl
      have := h.2.1
      omega
    · exact absurd p1 h.1
  · omega
/-- What a right line's word is. -/
theorem insR {L : List S95} (hn : L.length ≤ 1048576) (hI : IAll L) {i : Nat} (hi : i < L.length) (hp : ¬ L[i].f1.f0 = 0) : L[i].f1.f2 = 0 ∧ L[i].f1.f3 = 0 ∧ InsP L[i].f1.f0 L[i].f1.f1 L[i].f1.f2 L[i].f1.f3 := by
  obtain ⟨w0, h0⟩ := fstI L hn L[i].f0 0 (by omega)
  obtain ⟨w2, h2⟩ := fstI L hn L[i].f2 (i + 1) hi
  obtain ⟨w3, h3⟩ := fstI L hn L[i].f3 (i + 1) hi
  rcases hI i hi w0 w2 w3 h0 h2 h3 with h4 | h4
  · exact absurd h4.1.1 hp
  · exact ⟨h4.2.2.1, h4.2.2.2.1, h4.2.2.2.2.2.1⟩
/-- Every way of a line of one word passes over 15 words at most. -/
def Near (L : List S95) (o : List Int) (n : Nat) : Prop := ∀ i (h : i < L.length) (h' : i < o.length), i < n → (3 ≤ L[i].f1.f0 ∧ L[i].f1.f0 ≤ 6) → o[i] = 1 → ∀ s y, (s = L[i].f2 ∨ s = L[i].f3) → Way L i s y → pre o y - pre o (i + 1) ≤ 15
/-- The words of a line. -/
def Words (L : List S95) (o : List Int) (i : Nat) (h : i < L.length) (h' : i < o.length) (w : List S93) : Prop :=
  (L[i].f1.f0 = 0 ∧ w = []) ∨
  (L[i].f1.f0 = 7 ∧ ∃ y, Way L i L[i].f2 y ∧ w = [⟨7, pre o y - pre o (i + 1), 0, 0⟩]) ∨
  ((3 ≤ L[i].f1.f0 ∧ L[i].f1.f0 ≤ 6) ∧ ∃ y z, Way L i L[i].f2 y ∧ Way L i L[i].f3 z ∧ ((o[i] = 1 ∧ w = [⟨L[i].f1.f0, L[i].f1.f1, pre o y - pre o (i + 1), pre o z - pre o (i + 1)⟩]) ∨ (o[i] = 3 ∧ w = [⟨L[i].f1.f0, L[i].f1.f1, 0, 1⟩, ⟨7, pre o y - pre o (i + 1) + 1, 0, 0⟩, ⟨7, pre o z - pre o (i + 1), 0, 0⟩]))) ∨
  ((L[i].f1.f0 = 1 ∨ L[i].f1.f0 = 2 ∨ L[i].f1.f0 = 8) ∧ w = [⟨L[i].f1.f0, L[i].f1.f1, 0, 0⟩])
inductive Laid (L : List S95) (o : List Int) : Nat → List S93 → Prop
  | done : Laid L o L.length []
  | line (i : Nat) (h : i < L.length) (h' : i < o.length) (w r : List S93) : Words L o i h h' w → Laid L o (i + 1) r → Laid L o i (w ++ r)
theorem words_len {L : List S95} {o : List Int} (ho : OkS L o) {i : Nat} {h : i < L.length} {h' : i < o.length} {w : List S93} (hw : Words L o i h h' w) : (w.length : Int) = o[i] := by
  obtain ⟨_, _, oa, ok⟩ := ho
  rcases hw with ⟨a, rfl⟩ | ⟨a, y, _, rfl⟩ | ⟨a, y, z, _, _, ⟨b, rfl⟩ | ⟨b, rfl⟩⟩ | ⟨a, rfl⟩
  · rw [ok i h' h (by omega), if_pos a]; rfl
  · rw [ok i h' h (by omega), if_neg (by omega)]; rfl
  · rw [b]; rfl
  · rw [b]; rfl
  · rw [ok i h' h (by omega), if_neg (by omega)]; rfl
theorem laid_len {L : List S95} {o : List Int} (ho : OkS L o) {i : Nat} {r : List S93} (hl : Laid L o i r) : (r.length : Int) = pre o L.length - pre o i := by
  induction hl with
  | done => simp
  | line i h h' w r hw _ ih =>
    have := words_len ho hw
    rw [List.length_append, pre_succ h'] at *
    omega
theorem linesOkS (L : List S95) (hn : L.length ≤ 1048576) : ∃ b, Evt (fun k => spec_LinesOk.f k L) b ∧ (b = true ↔ (1 ≤ L.length ∧ L.length ≤ 600) ∧ SAll L ∧ ∃ h : L.length - 1 < L.length, L[L.length - 1].f1.f0 = 8) := by
  by_cases h1 : 1 ≤ (L.length : Int) ∧ (L.length : Int) ≤ 600
  · have e : wrap64 ((L.length : Int) - 1) = ((L.length - 1 : Nat) : Int) := by unfold wrap64; omega
    have hlt : L.length - 1 < L.length := by omega
    by_cases h8 : (L[L.length - 1].f1.f0) = 8
    · obtain ⟨b', ⟨K', hb'⟩, hbi'⟩ := sAll L hn
      refine ⟨b', .succ ⟨K' + 1, fun k hk => ?_⟩, hbi'.trans ⟨fun h => ⟨by omega, h, hlt, h8⟩, fun h => h.2.1⟩⟩
      simp only [spec_LinesOk.f, inS, Option.bind_some, decide_eq_true_eq]
      rw [if_pos h1, e, if_pos (by omega), if_pos (by omega), rd_nat95 L _ hlt, h8]
      simp only [spec_LinesOk.j0]
      rw [if_neg (by simp)]
      exact hb' k (by omega)
    · refine ⟨false, .succ (.const fun k => ?_), ⟨(fun h => by cases h), fun h => absurd h.2.2.2 h8⟩⟩
      simp only [spec_LinesOk.f, inS, Option.bind_some, decide_eq_true_eq]
      rw [if_pos h1, e, if_pos (by omega), if_pos (by omega), rd_nat95 L _ hlt]
      simp only [spec_LinesOk.j0]
      rw [if_pos (by simp [h8])]
  · refine ⟨false, .succ (.const fun k => ?_), ⟨(fun h => by cases h), fun h => by omega⟩⟩
    simp only [spec_LinesOk.f, inS, Option.bind_some, decide_eq_true_eq]
    rw [if_neg h1]
    simp only [spec_LinesOk.j0, if_true]
theorem atW {L : List S95} (hn : L.length ≤ 1048576) {i y : Nat} {s : ByteArray} (h : Way L i s y) : ∀ k, L.length < k → spec_l11At.f k L s = some (y : Int) := by
  obtain ⟨v, hv, fv⟩ := atS L s hn
  rw [← fv.uniq h.2.2.2.1 (fun _ _ => .rfl)]
  exact hv
theorem yesW {L : List S95} (hn : L.length ≤ 1048576) {Y N : List Int} (hW : OkW L Y N) {i y : Nat} (hi : i < L.length) (h : Way L i L[i].f2 y) : rd Y (i : Int) = (y : Int) := by
  obtain ⟨wy, wn, wj⟩ := hW
  rw [nrdI Y i (by omega)]
  exact (wj i hi (by omega) (by omega)).1 h.2.2.2.2.2 _ (atW hn h)
theorem noW {L : List S95} (hn : L.length ≤ 1048576) {Y N : List Int} (hW : OkW L Y N) {i y : Nat} (hi : i < L.length) (h : Way L i L[i].f3 y) : rd N (i : Int) = (y : Int) := by
  obtain ⟨wy, wn, wj⟩ := hW
  rw [nrdI N i (by omega)]
  exact (wj i hi (by omega) (by omega)).2 h.2.2.2.2.2 _ (atW hn h)
theorem far_gen (o B : List Int) (i y : Nat) (q : Int) (hB : B.length = o.length) (hb : ∀ j (h : j < B.length), B[j] = pre o j) (hn : o.length ≤ 600) (ho : ∀ j (h : j < o.length), 0 ≤ o[j] ∧ o[j] ≤ 3) (hi : i < o.length) (hy : i < y) (hy' : y < o.length) (hq : 0 ≤ q) (hq' : q ≤ 10) :
    wrap64 (wrap64 (rd B (y : Int) - rd B (i : Int)) - q) = pre o y - pre o (i + 1) + (o[i] - q) := by
  have b1 := pre_bound ho y (by omega)
  have b2 := pre_bound ho i (by omega)
  have b3 := ho i hi
  rw [nrdI B y (by omega), nrdI B i (by omega), hb y (by omega), hb i (by omega), pre_succ hi]
  rw [w64 (x := pre o y - pre o i) (by omega) (by omega), w64 (by omega) (by omega)]
  omega
theorem roundS (L : List S95) (hn : L.length ≤ 600) (hS : SAll L) (hI : IAll L) (o Y N B : List Int) (ho : OkS L o) (hW : OkW L Y N) (hB : B.length = o.length) (hb : ∀ j (h : j < B.length), B[j] = pre o j) (r : Int) :
    ∃ c f, OkS L c ∧ (f = true → ones c < ones o) ∧ (f = false → c = o ∧ Near L o L.length) ∧ (∀ R, Evt (fun k => if f = true then spec_Sizes.l1 k L c Y N (wrap64 (r + 1)) else some c) R → Evt (fun k => spec_Sizes.l2 k L o Y N r B false ((0 : Nat) : Int)) R) := by
  have ho' := ho
  obtain ⟨ol, o3, oa, _⟩ := ho
  refine down (T := fun i => ∀ (c : List Int) (f : Bool), OkS L c → (∀ j (h : j < c.length) (h' : j < o.length), i ≤ j → c[j] = o[j]) → ones c ≤ ones o → (f = true → ones c < ones o) → (f = false → c = o ∧ Near L o i) →
    ∃ c' f', OkS L c' ∧ (f' = true → ones c' < ones o) ∧ (f' = false → c' = o ∧ Near L o L.length) ∧ (∀ R, Evt (fun k => if f' = true then spec_Sizes.l1 k L c' Y N (wrap64 (r + 1)) else some c') R → Evt (fun k => spec_Sizes.l2 k L c Y N r B f (i : Int)) R)) (n := L.length) ?_ ?_ L.length 0 (by omega) o false ho' (fun _ _ _ _ => rfl) (Nat.le_refl _) (fun h => by cases h) (fun _ => ⟨rfl, fun i _ _ h => by omega⟩)
  · intro c f hc _ _ h2 h3
    refine ⟨c, f, hc, h2, h3, fun R hR => .succ ?_⟩
    obtain ⟨K, hK⟩ := hR
    refine ⟨K, fun k hk => ?_⟩
    simp only [spec_Sizes.l2]
    rw [if_neg (by omega)]
    exact hK k hk
  · intro i hi ih c f hc hj h1 h2 h3
    have ws := wsucc hi (show L.length ≤ 9223372036854775807 by omega)
    have hio : i < o.length := by omega
    have hic : i < c.length := by have := hc.1; omega
    have cl := hc.1
    have skip : (∀ k, spec_Sizes.l2 (k + 2) L c Y N r B f (i : Int) = spec_Sizes.l2 k L c Y N r B f ((i + 1 : Nat) : Int)) → ((3 ≤ L[i].f1.f0 ∧ L[i].f1.f0 ≤ 6) → o[i] = 1 → ∀ s y, (s = L[i].f2 ∨ s = L[i].f3) → Way L i s y → pre o y - pre o (i + 1) ≤ 15) → ∃ c' f', OkS L c' ∧ (f' = true → ones c' < ones o) ∧ (f' = false → c' = o ∧ Near L o L.length) ∧ (∀ R, Evt (fun k => if f' = true then spec_Sizes.l1 k L c' Y N (wrap64 (r + 1)) else some c') R → Evt (fun k => spec_Sizes.l2 k L c Y N r B f (i : Int)) R) := fun e hne => by
      obtain ⟨c', f', a1, a2, a3, a4⟩ := ih c f hc (fun j h h' hij => hj j h h' (by omega)) h1 h2 (fun h => ⟨(h3 h).1, fun j hj1 hj2 hlt => by
        rcases Nat.lt_or_ge j i with h4 | h4
        · exact (h3 h).2 j hj1 hj2 h4
        · have : j = i := by omega
          subst this
          exact hne⟩)
      refine ⟨c', f', a1, a2, a3, fun R hR => ?_⟩
      obtain ⟨K, hK⟩ := a4 R hR
      refine ⟨K + 2, fun k hk => ?_⟩
      obtain ⟨k, rfl⟩ : ∃ m, k = m + 2 := ⟨k - 2, by omega⟩
      exact (e k).trans (hK k (by omega))
    by_cases ha : 3 ≤ L[i].f1.f0 ∧ L[i].f1.f0 ≤ 6
    · have ec : c[i] = o[i] := hj i hic hio (Nat.le_refl _)
      by_cases e3 : o[i] = 3
      · refine skip (fun k => ?_) (fun _ h => by omega)
        simp only [spec_Sizes.l2, spec_Sizes.j3]
        rw [if_pos (by omega), if_pos (by omega), nrd_T95 L i hi]
        simp only [askS, Option.bind_some, decide_eq_true_eq]
        rw [if_pos ha, if_pos (by omega), nrdI c i hic, ec, e3, if_pos (by simp), ws]
      · have e1 : o[i] = 1 := (oa i hio hi ha).resolve_right e3
        obtain ⟨y, hy⟩ := wayP (by omega) hS hI hi L[i].f2 (.inr ⟨ha, .inl rfl⟩)
        obtain ⟨z, hz⟩ := wayP (by omega) hS hI hi L[i].f3 (.inr ⟨ha, .inr rfl⟩)
        have hY := yesW (by omega) hW hi hy
        have hN := noW (by omega) hW hi hz
        have y1 := hy.1
        have y2 := hy.2.1
        have z1 := hz.1
        have z2 := hz.2.1
        have wl := hW.1
        have wl2 := hW.2.1
        have ey : wrap64 (wrap64 (rd B (y : Int) - rd B (i : Int)) - 1) = pre o y - pre o (i + 1) := by rw [far_gen o B i y 1 hB hb (by omega) o3 hio y1 (by omega) (by omega) (by omega), e1]; omega
        have ez : wrap64 (wrap64 (rd B (z : Int) - rd B (i : Int)) - 1) = pre o z - pre o (i + 1) := by rw [far_gen o B i z 1 hB hb (by omega) o3 hio z1 (by omega) (by omega) (by omega), e1]; omega
        have n3 : ¬ (rd c (i : Int) == 3) = true := by rw [nrdI c i hic, ec, e1]; simp
        by_cases far : pre o y - pre o (i + 1) > 15 ∨ pre o z - pre o (i + 1) > 15
        · have hs := ones_set c i hic (ec.trans e1)
          obtain ⟨c', f', a1, a2, a3, a4⟩ := ih (c.set i 3) true (hc.set i hi ha) (fun j h h' hij => by
            rw [List.getElem_set_ne (by omega)]
            rw [List.length_set] at h
            exact hj j h h' (by omega)) (by omega) (fun _ => by omega) (fun h => by cases h)
          refine ⟨c', f', a1, a2, a3, fun R hR => ?_⟩
          obtain ⟨K, hK⟩ := a4 R hR
          refine ⟨K + 2, fun k hk => ?_⟩
          obtain ⟨k, rfl⟩ : ∃ m, k = m + 2 := ⟨k - 2, by omega⟩
          simp only [spec_Sizes.l2, spec_Sizes.j3]
          rw [if_pos (by omega), if_pos (by omega), nrd_T95 L i hi]
          simp only [askS, Option.bind_some, decide_eq_true_eq]
          rw [if_pos ha, if_pos (by omega), if_neg n3, if_pos (by omega), if_pos (by omega), hY, if_pos (by omega), if_pos (by omega), if_pos (by omega), ey]
          by_cases q : pre o y - pre o (i + 1) > 15
          · rw [if_pos q, if_pos (by omega), ws, Int.toNat_natCast]
            exact hK k (by omega)
          · rw [if_neg q, if_pos (by omega), hN, if_pos (by omega), if_pos (by omega), ez, if_pos (far.resolve_left q), if_pos (by omega), ws, Int.toNat_natCast]
            exact hK k (by omega)
        · have q1 : ¬ pre o y - pre o (i + 1) > 15 := fun h => far (.inl h)
          have q2 : ¬ pre o z - pre o (i + 1) > 15 := fun h => far (.inr h)
          refine skip (fun k => ?_) (fun _ _ s t hs ht => ?_)
          · simp only [spec_Sizes.l2, spec_Sizes.j3]
            rw [if_pos (by omega), if_pos (by omega), nrd_T95 L i hi]
            simp only [askS, Option.bind_some, decide_eq_true_eq]
            rw [if_pos ha, if_pos (by omega), if_neg n3, if_pos (by omega), if_pos (by omega), hY, if_pos (by omega), if_pos (by omega), if_pos (by omega), ey, if_neg q1, if_pos (by omega), hN, if_pos (by omega), if_pos (by omega), ez, if_neg q2, ws]
          · rcases hs with rfl | rfl
            · rw [ht.uniq hy]; omega
            · rw [ht.uniq hz]; omega
    · refine skip (fun k => ?_) (fun h => absurd h ha)
      simp only [spec_Sizes.l2, spec_Sizes.j3]
      rw [if_pos (by omega), if_pos (by omega), nrd_T95 L i hi]
      simp only [askS, Option.bind_some, decide_eq_true_eq]
      rw [if_neg ha, if_pos trivial, ws]
theorem roundsS (L : List S95) (hn : L.length ≤ 600) (hS : SAll L) (hI : IAll L) (Y N : List Int) (hW : OkW L Y N) : ∀ (m : Nat) (o : List Int) (r : Nat), ones o ≤ m → ones o + r ≤ L.length → OkS L o →
    ∃ O, OkS L O ∧ Near L O L.length ∧ Evt (fun k => spec_Sizes.l1 k L o Y N (r : Int)) O := by
  intro m
  induction m with
  | zero =>
    intro o r hm hr ho
    obtain ⟨B, hB, hb, K0, b0⟩ := begins o (by have := ho.1; omega) ho.2.1
    obtain ⟨c, f, hc, hf, hg, h1⟩ := roundS L hn hS hI o Y N B ho hW hB hb (r : Int)
    cases f with
    | true => have := hf rfl; omega
    | false =>
      obtain ⟨K1, g1⟩ := h1 c (.const fun _ => by rw [if_neg (by simp)])
      dsimp only at b0 g1
      refine ⟨c, hc, (hg rfl).1 ▸ (hg rfl).2, .succ ⟨K0 + K1, fun k hk => ?_⟩⟩
      simp only [spec_Sizes.l1]
      rw [if_pos (by omega), b0 k (by omega)]
      exact g1 k (by omega)
  | succ m ih =>
    intro o r hm hr ho
    obtain ⟨B, hB, hb, K0, b0⟩ := begins o (by have := ho.1; omega) ho.2.1
    obtain ⟨c, f, hc, hf, hg, h1⟩ := roundS L hn hS hI o Y N B ho hW hB hb (r : Int)
    dsimp only at b0
    have fin : ∀ R, Evt (fun k => if f = true then spec_Sizes.l1 k L c Y N (wrap64 ((r : Int) + 1)) else some c) R → Evt (fun k => spec_Sizes.l1 k L o Y N (r : Int)) R := fun R r1 => by
      obtain ⟨K1, g1⟩ := h1 R r1
      dsimp only at g1
      refine .succ ⟨K0 + K1, fun k hk => ?_⟩
      simp only [spec_Sizes.l1]
      rw [if_pos (by omega), b0 k (by omega)]
      exact g1 k (by omega)
    cases f with
    | true =>
      have hlt := hf rfl
      obtain ⟨O, hO, hN, i1⟩ := ih c (r + 1) (by omega) (by omega) hc
      have ew : wrap64 ((r : Int) + 1) = ((r + 1 : Nat) : Int) := by unfold wrap64; omega
      exact ⟨O, hO, hN, fin O (i1.congr fun k => by rw [if_pos rfl, ew])⟩
    | false =>
      exact ⟨c, hc, (hg rfl).1 ▸ (hg rfl).2, fin c (.const fun _ => by rw [if_neg (by simp)])⟩
theorem sizesS (L : List S95) (hn : 1 ≤ L.length ∧ L.length ≤ 600) (hS : SAll L) (hI : IAll L) (h8 : ∃ h : L.length - 1 < L.length, L[L.length - 1].f1.f0 = 8) : ∃ O, OkS L O ∧ Near L O L.length ∧ Evt (fun k => spec_Sizes.f k L) O := by
  obtain ⟨b, ⟨K1, h1⟩, hb⟩ := linesOkS L (by omega)
  have hbt : b = true := hb.2 ⟨hn, hS, h8⟩
  subst hbt
  have key : ∃ O, OkS L O ∧ Near L O L.length ∧ Evt (fun k => spec_Sizes.l0 k L [] ((0 : Nat) : Int)) O := by
    refine down (T := fun i => ∀ o : List Int, o.length = i → (∀ j (h : j < o.length) (h' : j < L.length), (0 ≤ o[j] ∧ o[j] ≤ 3) ∧ (3 ≤ L[j].f1.f0 ∧ L[j].f1.f0 ≤ 6 → o[j] = 1 ∨ o[j] = 3) ∧ (¬ (3 ≤ L[j].f1.f0 ∧ L[j].f1.f0 ≤ 6) → o[j] = if L[j].f1.f0 = 0 then 0 else 1)) → ∃ O, OkS L O ∧ Near L O L.length ∧ Evt (fun k => spec_Sizes.l0 k L o (i : Int)) O) (n := L.length) ?_ ?_ L.length 0 (by omega) [] rfl (by simp)
    · intro o hl hj
      obtain ⟨Y, N, hW, K0, w0⟩ := ways L hn.2
      have ho : OkS L o := ⟨hl, fun j h => (hj j h (by omega)).1, fun j h h' => (hj j h h').2.1, fun j h h' => (hj j h h').2.2⟩
      obtain ⟨O, hO, hN, ⟨K2, h2⟩⟩ := roundsS L hn.2 hS hI Y N hW (ones o) o 0 (Nat.le_refl _) (by have := ones_le o; omega) ho
      dsimp only at w0 h2
      refine ⟨O, hO, hN, .succ ⟨K0 + K2, fun k hk => ?_⟩⟩
      simp only [spec_Sizes.l0]
      rw [if_neg (by omega), w0 k (by omega)]
      exact h2 k (by omega)
    · intro i hi ih o hl hj
      have ws := wsucc hi (show L.length ≤ 9223372036854775807 by omega)
      have ext : ∀ v : Int, (0 ≤ v ∧ v ≤ 3) → (3 ≤ L[i].f1.f0 ∧ L[i].f1.f0 ≤ 6 → v = 1 ∨ v = 3) → (¬ (3 ≤ L[i].f1.f0 ∧ L[i].f1.f0 ≤ 6) → v = if L[i].f1.f0 = 0 then 0 else 1) → ∃ O, OkS L O ∧ Near L O L.length ∧ Evt (fun k => spec_Sizes.l0 k L (o ++ [v]) ((i + 1 : Nat) : Int)) O := fun v h1 h2 h3 => by
        refine ih (o ++ [v]) (by simp; omega) (fun j h h' => ?_)
        rcases Nat.lt_or_ge j i with h4 | h4
        · rw [List.getElem_append_left (by omega)]
          exact hj j (by omega) h'
        · have : j = i := by simp at h; omega
          subst this
          have e1 : (o ++ [v])[j] = v := by rw [List.getElem_append_right (by omega)]; simp
          rw [e1]
          exact ⟨h1, h2, h3⟩
      by_cases hp : L[i].f1.f0 = 0
      · obtain ⟨a, b, c, d⟩ := plz (by omega) hI hi hp
        obtain ⟨O, hO, hN, ⟨K2, h2⟩⟩ := ext 0 (by omega) (fun h => by omega) (fun _ => by rw [if_pos hp])
        dsimp only at h2
        refine ⟨O, hO, hN, .succ ⟨K2, fun k hk => ?_⟩⟩
        simp only [spec_Sizes.l0, spec_l11Place.f]
        rw [if_pos (by omega), if_pos (by omega), nrd_T95 L i hi]
        simp only [Option.bind_some]
        rw [if_pos (by simp [a, b, c, d]), if_pos (by omega), ws]
        exact h2 k hk
      · obtain ⟨O, hO, hN, ⟨K2, h2⟩⟩ := ext 1 (by omega) (fun _ => .inl rfl) (fun _ => by rw [if_neg hp])
        dsimp only at h2
        refine ⟨O, hO, hN, .succ ⟨K2, fun k hk => ?_⟩⟩
        simp only [spec_Sizes.l0, spec_l11Place.f]
        rw [if_pos (by omega), if_pos (by omega), nrd_T95 L i hi]
        simp only [Option.bind_some]
        rw [if_neg (by simp [hp]), if_pos (by omega), ws]
        exact h2 k hk
  obtain ⟨O, hO, hN, ⟨K2, h2⟩⟩ := key
  dsimp only at h1 h2
  refine ⟨O, hO, hN, ⟨K1 + K2, fun k hk => ?_⟩⟩
  simp only [spec_Sizes.f, h1 k (by omega), Option.bind_some, if_true]
  exact h2 k (by omega)
theorem layS_l0 (L : List S95) (hn : L.length ≤ 600) (hS : SAll L) (hI : IAll L) (o Y N B : List Int) (ho : OkS L o) (hW : OkW L Y N) (hB : B.length = o.length) (hb : ∀ j (h : j < B.length), B[j] = pre o j) (h1L : 1 ≤ L.length) (h8 : ∃ h : L.length - 1 < L.length, L[L.length - 1].f1.f0 = 8) :
    ∃ R, Laid L o 0 R ∧ ∀ c : List S93, c.length ≤ 3 * 0 → Evt (fun k => spec_Layout.l0 k L [] o Y N B c ((0 : Nat) : Int)) (if (c ++ R).length ≤ 400 then (c ++ R, true) else ([], false)) := by
  have ho' := ho
  obtain ⟨ol, o3, oa, ok⟩ := ho
  have wl := hW.1
  have wl2 := hW.2.1
  refine down (T := fun i => ∃ R, Laid L o i R ∧ ∀ c : List S93, c.length ≤ 3 * i → Evt (fun k => spec_Layout.l0 k L [] o Y N B c (i : Int)) (if (c ++ R).length ≤ 400 then (c ++ R, true) else ([], false))) (n := L.length) ?_ ?_ L.length 0 (by omega)
  · refine ⟨[], .done, fun c hc => .succ (.const fun k => ?_)⟩
    simp only [spec_Layout.l0, List.append_nil]
    rw [if_neg (by omega)]
    by_cases hm : c.length ≤ 400
    · rw [if_neg (by omega), if_pos hm]
    · rw [if_pos (by omega), if_neg hm]
  · intro i hi ⟨R, hL, hR⟩
    have ws := wsucc hi (show L.length ≤ 9223372036854775807 by omega)
    have hio : i < o.length := by omega
    have fin : ∀ w, Words L o i hi hio w → w.length ≤ 3 → (∀ c : List S93, c.length ≤ 3 * i → ∀ k, spec_Layout.l0 (k + 1) L [] o Y N B c (i : Int) = spec_Layout.l0 k L [] o Y N B (c ++ w) ((i + 1 : Nat) : Int)) → ∃ R, Laid L o i R ∧ ∀ c : List S93, c.length ≤ 3 * i → Evt (fun k => spec_Layout.l0 k L [] o Y N B c (i : Int)) (if (c ++ R).length ≤ 400 then (c ++ R, true) else ([], false)) := fun w hw h3 hs => by
      refine ⟨w ++ R, .line i hi hio w R hw hL, fun c hc => ?_⟩
      obtain ⟨K2, h2⟩ := hR (c ++ w) (by rw [List.length_append]; omega)
      rw [List.append_assoc] at h2
      exact .succ ⟨K2, fun k hk => (hs c hc k).trans (h2 k hk)⟩
    by_cases hp : L[i].f1.f0 = 0
    · have e0 : o[i] = 0 := by rw [ok i hio hi (by omega), if_pos hp]
      refine fin [] (.inl ⟨hp, rfl⟩) (by simp) (fun c hc k => ?_)
      rw [List.append_nil]
      simp only [spec_Layout.l0]
      rw [if_pos (by omega), if_pos (by omega), if_pos (by omega), nrdI o i hio, if_pos e0, ws]
    obtain ⟨z2, z3, hIns⟩ := insR (by omega) hI hi hp
    by_cases c7 : L[i].f1.f0 = 7
    · have e1 : o[i] = 1 := by rw [ok i hio hi (by omega), if_neg hp]
      obtain ⟨y, hy⟩ := wayP (by omega) hS hI hi L[i].f2 (.inl ⟨c7, rfl⟩)
      have y1 := hy.1
      have y2 := hy.2.1
      have hY := yesW (by omega) hW hi hy
      have ey : wrap64 (wrap64 (rd B (y : Int) - rd B (i : Int)) - 1) = pre o y - pre o (i + 1) := by rw [far_gen o B i y 1 hB hb (by omega) o3 hio y1 (by omega) (by omega) (by omega), e1]; omega
      refine fin [⟨7, pre o y - pre o (i + 1), 0, 0⟩] (.inr (.inl ⟨c7, y, hy, rfl⟩)) (by simp) (fun c hc k => ?_)
      simp only [spec_Layout.l0]
      rw [if_pos (by omega), if_pos (by omega), if_pos (by omega), nrdI o i hio, if_neg (by omega), if_neg (by omega), nrd_T95 L i hi, if_pos c7, if_pos (by omega), hY, if_pos (by omega), if_pos (by omega), if_pos (by omega), if_pos (by omega), ey, ws, z2, z3, c7]
    by_cases ha : 3 ≤ L[i].f1.f0 ∧ L[i].f1.f0 ≤ 6
    · obtain ⟨y, hy⟩ := wayP (by omega) hS hI hi L[i].f2 (.inr ⟨ha, .inl rfl⟩)
      obtain ⟨z, hz⟩ := wayP (by omega) hS hI hi L[i].f3 (.inr ⟨ha, .inr rfl⟩)
      have y1 := hy.1
      have y2 := hy.2.1
      have z1 := hz.1
      have z2' := hz.2.1
      have hY := yesW (by omega) hW hi hy
      have hN := noW (by omega) hW hi hz
      have ey := fun q => far_gen o B i y q hB hb (by omega) o3 hio y1 (by omega)
      have ez := fun q => far_gen o B i z q hB hb (by omega) o3 hio z1 (by omega)
      rcases oa i hio hi ha with e1 | e3
      · have ey' : wrap64 (wrap64 (rd B (y : Int) - rd B (i : Int)) - 1) = pre o y - pre o (i + 1) := by rw [ey 1 (by omega) (by omega), e1]; omega
        have ez' : wrap64 (wrap64 (rd B (z : Int) - rd B (i : Int)) - 1) = pre o z - pre o (i + 1) := by rw [ez 1 (by omega) (by omega), e1]; omega
        refine fin _ (.inr (.inr (.inl ⟨ha, y, z, hy, hz, .inl ⟨e1, rfl⟩⟩))) (by simp) (fun c hc k => ?_)
        simp only [spec_Layout.l0]
        rw [if_pos (by omega), if_pos (by omega), if_pos (by omega), nrdI o i hio, if_neg (by omega), if_neg (by omega), nrd_T95 L i hi, if_neg c7]
        simp only [askS, Option.bind_some, decide_eq_true_eq]
        rw [if_pos ha, if_pos (by omega), hY, if_pos (by omega), if_pos (by omega), if_pos (by omega), if_pos (by omega), hN, if_pos (by omega), if_pos (by omega), if_pos (by omega), ey', ez', ws]
      · have ey' : wrap64 (wrap64 (rd B (y : Int) - rd B (i : Int)) - 2) = pre o y - pre o (i + 1) + 1 := by rw [ey 2 (by omega) (by omega), e3]; omega
        have ez' : wrap64 (wrap64 (rd B (z : Int) - rd B (i : Int)) - 3) = pre o z - pre o (i + 1) := by rw [ez 3 (by omega) (by omega), e3]; omega
        refine fin _ (.inr (.inr (.inl ⟨ha, y, z, hy, hz, .inr ⟨e3, rfl⟩⟩))) (by simp) (fun c hc k => ?_)
        simp only [spec_Layout.l0]
        rw [if_pos (by omega), if_pos (by omega), if_pos (by omega), nrdI o i hio, if_neg (by omega), if_pos e3, if_pos (by omega), hY, if_pos (by omega), if_pos (by omega), if_pos (by omega), if_pos (by omega), hN, if_pos (by omega), if_pos (by omega), nrd_T95 L i hi, ey', ez', z2]
        simp only [Option.bind_some]
        rw [if_pos (by simp; omega), ws]
    · have hk : L[i].f1.f0 = 1 ∨ L[i].f1.f0 = 2 ∨ L[i].f1.f0 = 8 := by have := hIns.1; omega
      have e1 : o[i] = 1 := by rw [ok i hio hi ha, if_neg hp]
      refine fin _ (.inr (.inr (.inr ⟨hk, rfl⟩))) (by simp) (fun c hc k => ?_)
      simp only [spec_Layout.l0]
      rw [if_pos (by omega), if_pos (by omega), if_pos (by omega), nrdI o i hio, if_neg (by omega), if_neg (by omega), nrd_T95 L i hi, if_neg c7]
      simp only [askS, Option.bind_some, decide_eq_true_eq]
      rw [if_neg ha, if_pos (by omega), ws, z2, z3]
theorem layS (L : List S95) (hn : 1 ≤ L.length ∧ L.length ≤ 600) (hS : SAll L) (hI : IAll L) (h8 : ∃ h : L.length - 1 < L.length, L[L.length - 1].f1.f0 = 8) :
    ∃ O R, OkS L O ∧ Near L O L.length ∧ Laid L O 0 R ∧ Evt (fun k => spec_Layout.f k L) (if R.length ≤ 400 then (R, true) else ([], false)) := by
  obtain ⟨O, hO, hN, ⟨K1, h1⟩⟩ := sizesS L hn hS hI h8
  obtain ⟨Y, N, hW, K3, h3⟩ := ways L hn.2
  obtain ⟨B, hB, hb, K4, h4⟩ := begins O (by have := hO.1; omega) hO.2.1
  obtain ⟨R, hL, hR⟩ := layS_l0 L hn.2 hS hI O Y N B hO hW hB hb hn.1 h8
  obtain ⟨K2, h2⟩ := hR [] (by simp)
  dsimp only at h1 h2 h3 h4
  have hpos : ¬ (O.length : Int) = 0 := by have := hO.1; omega
  refine ⟨O, R, hO, hN, hL, ⟨K1 + K2 + K3 + K4, fun k hk => ?_⟩⟩
  simp only [spec_Layout.f, h1 k (by omega), h3 k (by omega), h4 k (by omega), Option.bind_some, if_neg hpos]
  exact h2 k (by omega)
theorem nrd_T48 (l : List S48) (i : Nat) (h : i < l.length) : rd_T48 l (i : Int) = l[i] := getD_lt _ h
theorem wideS (a b : Int) : spec_WideOk.f a b = some (decide ((0 ≤ a ∧ a ≤ 4294967295) ∧ (0 ≤ b ∧ b ≤ 4294967295))) := by
  unfold spec_WideOk.f
  simp only [halfS, Option.bind_some, decide_eq_true_eq]
  split
  · rename_i h
    exact congrArg some (by rw [Bool.eq_iff_iff]; simp; omega)
  · rename_i h
    exact congrArg some (by rw [Bool.eq_iff_iff]; simp; omega)
/-- A right call is told right. -/
theorem callT (a b : Int) (l : List S48) (ha : 0 ≤ a ∧ a ≤ 4294967295) (hb : 0 ≤ b ∧ b ≤ 4294967295) (hl : l.length = 3) (hw : ∀ y ∈ l, (0 ≤ y.f0 ∧ y.f0 ≤ 4294967295) ∧ (0 ≤ y.f1 ∧ y.f1 ≤ 4294967295)) : ∀ k, 4 ≤ k → spec_CallOk.f k a b l = some true := by
  have key : ∀ (d i : Nat), i + d = 3 → ∀ k, d < k → spec_CallOk.l0 k (i : Int) a b l = some true := by
    intro d
    induction d with
    | zero =>
      intro i hi k hk
      obtain ⟨k, rfl⟩ : ∃ m, k = m + 1 := ⟨k - 1, by omega⟩
      simp only [spec_CallOk.l0]
      rw [if_neg (by omega)]
      simp only [halfS, Option.bind_some]
      rw [decide_eq_true ha, if_pos rfl, decide_eq_true hb, if_pos rfl, hl]
      rfl
    | succ d ih =>
      intro i hi k hk
      obtain ⟨k, rfl⟩ : ∃ m, k = m + 1 := ⟨k - 1, by omega⟩
      have hlt : i < l.length := by omega
      have h : (0 ≤ l[i].f0 ∧ l[i].f0 ≤ 4294967295) ∧ (0 ≤ l[i].f1 ∧ l[i].f1 ≤ 4294967295) := hw l[i] (List.getElem_mem hlt)
      have q := ih (i + 1) (by omega) k (by omega)
      simp only [spec_CallOk.l0]
      rw [if_pos (by omega), if_pos (by omega), nrd_T48 l i hlt, wsucc hlt (by omega), wideS]
      simp only [Option.bind_some, decide_eq_true_eq]
      rw [if_pos h]
      exact q
  intro k hk
  exact key 3 0 (by omega) k (by omega)
/-- A field of a right call. -/
theorem fieldT (a b : Int) (w : List S48) (hc : ∀ k, 4 ≤ k → spec_CallOk.f k a b w = some true) (hl : w.length = 3) (x : Int) : ∃ p : Int × Bool, Evt (fun k => spec_FieldAt.f k a b w x) p := by
  by_cases hx : 0 ≤ x ∧ x ≤ 7
  · have dS : ∀ k, 4 ≤ k → spec_FieldAt.f k a b w x = spec_FieldAt.j0 k x false a b w := fun k hk => by simp only [spec_FieldAt.f, hc k hk, Option.bind_some, inS, if_true, decide_eq_true hx, Bool.not_true]
    by_cases h0 : x = 0
    · refine ⟨(b, true), ⟨5, fun k hk => (dS k (by omega)).trans ?_⟩⟩
      obtain ⟨k, rfl⟩ : ∃ m, k = m + 1 := ⟨k - 1, by omega⟩
      simp only [spec_FieldAt.j0, Bool.false_eq_true, if_false, if_pos h0]
    by_cases h1 : x = 1
    · refine ⟨(a, true), ⟨5, fun k hk => (dS k (by omega)).trans ?_⟩⟩
      obtain ⟨k, rfl⟩ : ∃ m, k = m + 1 := ⟨k - 1, by omega⟩
      simp only [spec_FieldAt.j0, Bool.false_eq_true, if_false, if_neg h0, if_pos h1]
    have e1 : wrap64 (x - 2) = x - 2 := w64 (by omega) (by omega)
    have e2 : (x - 2).tdiv 2 = (x - 2) / 2 := Int.tdiv_eq_ediv_of_nonneg (by omega)
    have e4 : wrap64 ((x - 2) / 2) = x / 2 - 1 := by rw [w64 (by omega) (by omega)]; omega
    refine ⟨(if x.tmod 2 = 0 then (rd_T48 w (x / 2 - 1)).f1 else (rd_T48 w (x / 2 - 1)).f0, true), ⟨5, fun k hk => (dS k (by omega)).trans ?_⟩⟩
    obtain ⟨k, rfl⟩ : ∃ m, k = m + 1 := ⟨k - 1, by omega⟩
    simp only [spec_FieldAt.j0, Bool.false_eq_true, if_false, if_neg h0, if_neg h1, e1, e2, e4]
    rw [if_pos (by omega), if_pos (by omega)]
    split <;> rfl
  · refine ⟨(0, false), ⟨5, fun k hk => ?_⟩⟩
    obtain ⟨k, rfl⟩ : ∃ m, k = m + 1 := ⟨k - 1, by omega⟩
    simp only [spec_FieldAt.f, hc (k + 1) (by omega), Option.bind_some, inS, if_true, decide_eq_false hx, Bool.not_false, spec_FieldAt.j0]
theorem asksV (a b c d r : Int) : ∃ t, spec_l07Asks.f a b c d r = some t := by
  unfold spec_l07Asks.f
  repeat' split
  all_goals exact ⟨_, rfl⟩
/-- What lines come to, from a line on. -/
inductive Ends (L : List S95) (a b : Int) (w : List S48) : Nat → Int → Int → Prop
  | place (i : Nat) (g v : Int) (h : i < L.length) : L[i].f1.f0 = 0 → Ends L a b w (i + 1) g v → Ends L a b w i g v
  | load (i : Nat) (g v : Int) (h : i < L.length) (p : Int × Bool) : L[i].f1.f0 = 1 → Evt (fun k => spec_FieldAt.f k a b w L[i].f1.f1) p → Ends L a b w (i + 1) p.1 v → Ends L a b w i g v
  | and (i : Nat) (g v : Int) (h : i < L.length) : L[i].f1.f0 = 2 → Ends L a b w (i + 1) (Go.bits .and .i64 g L[i].f1.f1) v → Ends L a b w i g v
  | ret (i : Nat) (g : Int) (h : i < L.length) : L[i].f1.f0 = 8 → Ends L a b w i g L[i].f1.f1
  | jump (i : Nat) (g v : Int) (h : i < L.length) (y : Nat) : L[i].f1.f0 = 7 → Way L i L[i].f2 y → Ends L a b w y g v → Ends L a b w i g v
  | ask (i : Nat) (g v : Int) (h : i < L.length) (t : Bool) (y : Nat) : (3 ≤ L[i].f1.f0 ∧ L[i].f1.f0 ≤ 6) → spec_l07Asks.f L[i].f1.f0 L[i].f1.f1 0 0 g = some t → Way L i (if t = true then L[i].f2 else L[i].f3) y → Ends L a b w y g v → Ends L a b w i g v
/-- Right lines come to something. -/
theorem ends {L : List S95} (hn : L.length ≤ 600) (hS : SAll L) (hI : IAll L) (h8 : ∃ h : L.length - 1 < L.length, L[L.length - 1].f1.f0 = 8) (a b : Int) (w : List S48) (hf : ∀ x, ∃ p : Int × Bool, Evt (fun k => spec_FieldAt.f k a b w x) p) : ∀ (d i : Nat) (g : Int), i < L.length → L.length - i ≤ d → ∃ v, Ends L a b w i g v := by
  intro d
  induction d with
  | zero => intro i g hi hd; omega
  | succ d ih =>
    intro i g hi hd
    by_cases c8 : L[i].f1.f0 = 8
    · exact ⟨_, .ret i g hi c8⟩
    have hlt : i + 1 < L.length := by
      obtain ⟨h, e⟩ := h8
      rcases Nat.lt_or_ge (i + 1) L.length with h1 | h1
      · exact h1
      · have e2 : L.length - 1 = i := by omega
        exact absurd (by simpa only [e2] using e) c8
    by_cases c0 : L[i].f1.f0 = 0
    · obtain ⟨v, hv⟩ := ih (i + 1) g hlt (by omega)
      exact ⟨v, .place i g v hi c0 hv⟩
    have hk := (insR (by omega) hI hi c0).2.2.1
    by_cases c1 : L[i].f1.f0 = 1
    · obtain ⟨p, hp⟩ := hf L[i].f1.f1
      obtain ⟨v, hv⟩ := ih (i + 1) p.1 hlt (by omega)
      exact ⟨v, .load i g v hi p c1 hp hv⟩
    by_cases c2 : L[i].f1.f0 = 2
    · obtain ⟨v, hv⟩ := ih (i + 1) (Go.bits .and .i64 g L[i].f1.f1) hlt (by omega)
      exact ⟨v, .and i g v hi c2 hv⟩
    by_cases c7 : L[i].f1.f0 = 7
    · obtain ⟨y, hy⟩ := wayP (by omega) hS hI hi L[i].f2 (.inl ⟨c7, rfl⟩)
      obtain ⟨v, hv⟩ := ih y g hy.2.1 (by have := hy.1; omega)
      exact ⟨v, .jump i g v hi y c7 hy hv⟩
    have ha : 3 ≤ L[i].f1.f0 ∧ L[i].f1.f0 ≤ 6 := by omega
    obtain ⟨t, ht⟩ := asksV L[i].f1.f0 L[i].f1.f1 0 0 g
    obtain ⟨y, hy⟩ := wayP (by omega) hS hI hi (if t = true then L[i].f2 else L[i].f3) (.inr ⟨ha, by cases t <;> simp⟩)
    obtain ⟨v, hv⟩ := ih y g hy.2.1 (by have := hy.1; omega)
    exact ⟨v, .ask i g v hi t y ha ht hy hv⟩
theorem laid_split {L : List S95} {o : List Int} (ho : OkS L o) {R : List S93} (hR : Laid L o 0 R) : ∀ i, i ≤ L.length → ∃ c r, R = c ++ r ∧ (c.length : Int) = pre o i ∧ Laid L o i r
  | 0, _ => ⟨[], R, rfl, by simp [pre], hR⟩
  | i + 1, h => by
    obtain ⟨c, r, e, hc, hl⟩ := laid_split ho hR i (by omega)
    cases hl with
    | done => omega
    | line _ h1 h2 w r hw hr => exact ⟨c ++ w, r, by rw [e, List.append_assoc], by rw [List.length_append, pre_succ h2, Int.natCast_add, hc, words_len ho hw], hr⟩
theorem laid_at {L : List S95} {o : List Int} (ho : OkS L o) {R : List S93} (hR : Laid L o 0 R) {i : Nat} (h : i < L.length) : ∃ (h' : i < o.length) (c w r : List S93), R = c ++ (w ++ r) ∧ (c.length : Int) = pre o i ∧ Words L o i h h' w := by
  obtain ⟨c, r, e, hc, hl⟩ := laid_split ho hR i (by omega)
  cases hl with
  | done => omega
  | line _ h1 h2 w r hw hr => exact ⟨h2, c, w, r, e, hc, hw⟩
theorem rd_mid (c w r : List S93) (m : Nat) (h : m < w.length) (p : Int) (hp : p = ((c.length + m : Nat) : Int)) : rd_T93 (c ++ (w ++ r)) p = w[m] := by
  subst hp
  rw [rd_nat93 _ _ (by simp only [List.length_append]; omega), List.getElem_append_right (by omega)]
  simp only [Nat.add_sub_cancel_left]
  rw [List.getElem_append_left h]
/-- A right word that leads inside, wherever it stands in what is laid. -/
theorem laid_prog {L : List S95} (hn : L.length ≤ 600) (hS : SAll L) (hI : IAll L) (h8 : ∃ h : L.length - 1 < L.length, L[L.length - 1].f1.f0 = 8) {o : List Int} (ho : OkS L o) (hN : Near L o L.length) {R : List S93} (hR : Laid L o 0 R) (h400 : 1 ≤ R.length ∧ R.length ≤ 400) : ProgP R := by
  have hlen := laid_len ho hR
  have e0 : pre o 0 = 0 := by simp [pre]
  have mono : ∀ d i, i + d ≤ L.length → pre o i ≤ pre o (i + d) := by
    intro d
    induction d with
    | zero => intro i _; exact Int.le_refl _
    | succ d ih =>
      intro i hi
      have h1 := ih i (by omega)
      have h2 := ho.2.1 (i + d) (by have := ho.1; omega)
      have h3 : pre o (i + (d + 1)) = pre o (i + d) + o[i + d]'(by have := ho.1; omega) := pre_succ (i := i + d) (by have := ho.1; omega)
      omega
  have mono' : ∀ i y, i ≤ y → y ≤ L.length → pre o i ≤ pre o y := fun i y h1 h2 => by
    have := mono (y - i) i (by omega)
    rwa [show i + (y - i) = y by omega] at this
  -- a way leads to a place before the last line, which is of one word
  have last : pre o L.length = pre o (L.length - 1) + 1 := by
    obtain ⟨h, e⟩ := h8
    have h1 := ho.2.2.2 (L.length - 1) (by have := ho.1; omega) h (by omega)
    rw [if_neg (by omega)] at h1
    have h2 : pre o (L.length - 1 + 1) = pre o (L.length - 1) + o[L.length - 1]'(by have := ho.1; omega) := pre_succ (by have := ho.1; omega)
    rw [show L.length - 1 + 1 = L.length by omega] at h2
    omega
  have inw : ∀ i s y, Way L i s y → pre o (i + 1) ≤ pre o y ∧ pre o y < pre o L.length := fun i s y hy => by
    refine ⟨mono' (i + 1) y hy.1 (by have := hy.2.1; omega), ?_⟩
    have : pre o y ≤ pre o (L.length - 1) := mono' y (L.length - 1) (by
      obtain ⟨_, hq, _⟩ := hy.2.2.1
      obtain ⟨h, e⟩ := h8
      have hne : y ≠ L.length - 1 := fun e1 => by subst e1; omega
      have := hy.2.1
      omega) (by omega)
    omega
  -- each word of each line
  have each : ∀ i r, Laid L o i r → ∀ c, R = c ++ r → (c.length : Int) = pre o i → ∀ m (hm : m < r.length), InsP r[m].f0 r[m].f1 r[m].f2 r[m].f3 ∧ farP r[m] ((c.length + m : Nat) : Int) < R.length := by
    intro i r hl
    induction hl with
    | done => intro c _ _ m hm; exact absurd hm (by simp)
    | line i h h' w r hw hr ih =>
      intro c e hc m hm
      rcases Nat.lt_or_ge m w.length with hlt | hge
      · rw [List.getElem_append_left hlt]
        have hw' := hw
        have hp := ho.2.1 i h'
        have ps := pre_succ h'
        rcases hw with ⟨q, rfl⟩ | ⟨q, y, hy, rfl⟩ | ⟨q, y, z, hy, hz, ⟨q1, rfl⟩ | ⟨q3, rfl⟩⟩ | ⟨q, rfl⟩
        · exact absurd hlt (by simp)
        · have hm0 : m = 0 := by simp at hlt; omega
          subst hm0
          obtain ⟨i1, i2⟩ := inw i _ y hy
          have o1 : o[i] = 1 := by rw [ho.2.2.2 i h' h (by omega), if_neg (by omega)]
          have b0 := (pre_bound ho.2.1 (i + 1) (by omega)).1
          simp only [List.getElem_cons_zero]
          refine ⟨?_, ?_⟩
          · unfold InsP; omega
          · unfold farP; simp only [show ¬ ((3:Int) ≤ 7 ∧ (7:Int) ≤ 6) by omega, if_false, if_true]; omega
        · have hm0 : m = 0 := by simp at hlt; omega
          subst hm0
          obtain ⟨i1, i2⟩ := inw i _ y hy
          obtain ⟨j1, j2⟩ := inw i _ z hz
          have n1 := hN i h h' h q q1 _ y (.inl rfl) hy
          have n2 := hN i h h' h q q1 _ z (.inr rfl) hz
          have hb := (insR (by omega) hI h (by omega)).2.2.2.1
          have b0 := (pre_bound ho.2.1 (i + 1) (by omega)).1
          simp only [List.getElem_cons_zero]
          refine ⟨?_, ?_⟩
          · unfold InsP; omega
          · unfold farP; simp only [if_pos q]; unfold mx; split <;> omega
        · obtain ⟨i1, i2⟩ := inw i _ y hy
          obtain ⟨j1, j2⟩ := inw i _ z hz
          have hb := (insR (by omega) hI h (by omega)).2.2.2.1
          have b0 := (pre_bound ho.2.1 (i + 1) (by omega)).1
          have hm3 : m = 0 ∨ m = 1 ∨ m = 2 := by simp at hlt; omega
          rcases hm3 with rfl | rfl | rfl
          · simp only [List.getElem_cons_zero]
            refine ⟨?_, ?_⟩
            · unfold InsP; omega
            · unfold farP; simp only [if_pos q]; unfold mx; split <;> omega
          · simp only [List.getElem_cons_zero, List.getElem_cons_succ]
            refine ⟨?_, ?_⟩
            · unfold InsP; omega
            · unfold farP; simp only [show ¬ ((3:Int) ≤ 7 ∧ (7:Int) ≤ 6) by omega, if_false, if_true]; omega
          · simp only [List.getElem_cons_zero, List.getElem_cons_succ]
            refine ⟨?_, ?_⟩
            · unfold InsP; omega
            · unfold farP; simp only [show ¬ ((3:Int) ≤ 7 ∧ (7:Int) ≤ 6) by omega, if_false, if_true]; omega
        · have hm0 : m = 0 := by simp at hlt; omega
          subst hm0
          obtain ⟨z2, z3, hIn⟩ := insR (by omega) hI h (by omega)
          rw [z2, z3] at hIn
          simp only [List.getElem_cons_zero]
          refine ⟨hIn, ?_⟩
          have o1 : o[i] = 1 := by rw [ho.2.2.2 i h' h (by omega), if_neg (by omega)]
          have := mono' (i + 1) L.length h (Nat.le_refl _)
          unfold farP; simp only [show ¬ (3 ≤ L[i].f1.f0 ∧ L[i].f1.f0 ≤ 6) by omega, show ¬ L[i].f1.f0 = 7 by omega, if_false]; omega
      · rw [List.getElem_append_right hge]
        have h2 := ih (c ++ w) (by rw [e, List.append_assoc]) (by rw [List.length_append, Int.natCast_add, hc, words_len ho hw, pre_succ h']) (m - w.length) (by rw [List.length_append] at hm; omega)
        have e3 : (c ++ w).length + (m - w.length) = c.length + m := by rw [List.length_append]; omega
        rw [e3] at h2
        exact h2
  refine ⟨h400, fun h0 => ?_, fun j hj => ?_⟩
  · obtain ⟨h, e⟩ := h8
    obtain ⟨h', c, w, r, eR, hc, hw⟩ := laid_at ho hR h
    have hwl := words_len ho hw
    have o1 : o[L.length - 1] = 1 := by rw [ho.2.2.2 (L.length - 1) h' h (by omega), if_neg (by omega)]
    rcases hw with ⟨q, _⟩ | ⟨q, _⟩ | ⟨q, _⟩ | ⟨q, ew⟩
    · omega
    · omega
    · omega
    · have hcl : c.length = R.length - 1 := by omega
      have := rd_mid c w r 0 (by rw [ew]; simp) ((R.length - 1 : Nat) : Int) (by omega)
      rw [← eR, rd_nat93 R (R.length - 1) (by omega)] at this
      rw [this]
      simp only [ew, List.getElem_cons_zero]
      exact e
  · have h2 := each 0 R hR [] rfl (by simp [pre]) j hj
    refine ⟨h2.1, ?_⟩
    have h3 := h2.2
    simp only [List.length_nil, Nat.zero_add] at h3
    exact h3
/-- What is laid runs as its lines do. -/
theorem run_laid {L : List S95} (hn : L.length ≤ 600) {o : List Int} (ho : OkS L o) {R : List S93} (hR : Laid L o 0 R) (h400 : R.length ≤ 400) (a b : Int) (w : List S48) : ∀ {i : Nat} {g v : Int}, Ends L a b w i g v → ∀ s, ∃ s', Evt (fun k => spec_Run.l0 k R g s (pre o i) a b w) (v, s') := by
  have hlen := laid_len ho hR
  rw [show pre o 0 = 0 by simp [pre]] at hlen
  have bnd : ∀ j, j ≤ L.length → 0 ≤ pre o j ∧ pre o j ≤ 1800 := fun j hj => by have := pre_bound ho.2.1 j (by have := ho.1; omega); omega
  intro i g v hE
  induction hE with
  | place i g v h c0 hE ih =>
    intro s
    have h' : i < o.length := by have := ho.1; omega
    have e : pre o (i + 1) = pre o i := by rw [pre_succ h', ho.2.2.2 i h' h (by omega), if_pos c0]; omega
    rw [← e]
    exact ih s
  | load i g v h p c1 hp hE ih =>
    intro s
    obtain ⟨h', c, ws, r, eR, hc, hw⟩ := laid_at ho hR h
    obtain ⟨s', K, hK⟩ := ih (wrap64 (s + 1))
    obtain ⟨K2, h2⟩ := hp
    have o1 : o[i] = 1 := by rw [ho.2.2.2 i h' h (by omega), if_neg (by omega)]
    have hw1 : ws = [⟨L[i].f1.f0, L[i].f1.f1, 0, 0⟩] := by
      rcases hw with ⟨q, _⟩ | ⟨q, _⟩ | ⟨q, _⟩ | ⟨q, e⟩
      · omega
      · omega
      · omega
      · exact e
    have e1 := rd_mid c ws r 0 (by rw [hw1]; simp) (pre o i) (by omega)
    have b1 := bnd i (by omega)
    have b2 : pre o i < (R.length : Int) := by rw [eR, hw1]; simp only [List.length_append, List.length_cons, List.length_nil]; omega
    have ps := pre_succ h'
    refine ⟨s', .succ ⟨K + K2, fun k hk => ?_⟩⟩
    have g2 := h2 k (by omega)
    have g1 := hK k (by omega)
    dsimp only at g1 g2
    simp only [spec_Run.l0]
    rw [if_pos b2, if_pos b1.1, eR, e1, ← eR]
    simp only [hw1, List.getElem_cons_zero]
    rw [if_pos c1, g2, w64 (x := pre o i + 1) (by omega) (by omega), show pre o i + 1 = pre o (i + 1) by omega]
    exact g1
  | and i g v h c2 hE ih =>
    intro s
    obtain ⟨h', c, ws, r, eR, hc, hw⟩ := laid_at ho hR h
    obtain ⟨s', K, hK⟩ := ih (wrap64 (s + 1))
    have o1 : o[i] = 1 := by rw [ho.2.2.2 i h' h (by omega), if_neg (by omega)]
    have hw1 : ws = [⟨L[i].f1.f0, L[i].f1.f1, 0, 0⟩] := by
      rcases hw with ⟨q, _⟩ | ⟨q, _⟩ | ⟨q, _⟩ | ⟨q, e⟩
      · omega
      · omega
      · omega
      · exact e
    have e1 := rd_mid c ws r 0 (by rw [hw1]; simp) (pre o i) (by omega)
    have b1 := bnd i (by omega)
    have b2 : pre o i < (R.length : Int) := by rw [eR, hw1]; simp only [List.length_append, List.length_cons, List.length_nil]; omega
    have ps := pre_succ h'
    refine ⟨s', .succ ⟨K, fun k hk => ?_⟩⟩
    have g1 := hK k (by omega)
    dsimp only at g1
    simp only [spec_Run.l0]
    rw [if_pos b2, if_pos b1.1, eR, e1, ← eR]
    simp only [hw1, List.getElem_cons_zero]
    rw [if_neg (by omega), if_pos c2, w64 (x := pre o i + 1) (by omega) (by omega), show pre o i + 1 = pre o (i + 1) by omega]
    exact g1
  | ret i g h c8 =>
    intro s
    obtain ⟨h', c, ws, r, eR, hc, hw⟩ := laid_at ho hR h
    have hw1 : ws = [⟨L[i].f1.f0, L[i].f1.f1, 0, 0⟩] := by
      rcases hw with ⟨q, _⟩ | ⟨q, _⟩ | ⟨q, _⟩ | ⟨q, e⟩
      · omega
      · omega
      · omega
      · exact e
    have e1 := rd_mid c ws r 0 (by rw [hw1]; simp) (pre o i) (by omega)
    have b1 := bnd i (by omega)
    have b2 : pre o i < (R.length : Int) := by rw [eR, hw1]; simp only [List.length_append, List.length_cons, List.length_nil]; omega
    refine ⟨wrap64 (s + 1), .succ (.const fun k => ?_)⟩
    simp only [spec_Run.l0]
    rw [if_pos b2, if_pos b1.1, eR, e1, ← eR]
    simp only [hw1, List.getElem_cons_zero]
    rw [if_neg (by omega), if_neg (by omega), if_neg (by omega), if_pos c8]
  | jump i g v h y c7 hy hE ih =>
    intro s
    obtain ⟨h', c, ws, r, eR, hc, hw⟩ := laid_at ho hR h
    obtain ⟨s', K, hK⟩ := ih (wrap64 (s + 1))
    have o1 : o[i] = 1 := by rw [ho.2.2.2 i h' h (by omega), if_neg (by omega)]
    have hw1 : ws = [⟨7, pre o y - pre o (i + 1), 0, 0⟩] := by
      rcases hw with ⟨q, _⟩ | ⟨q, z, hz, e⟩ | ⟨q, _⟩ | ⟨q, e⟩
      · omega
      · rw [e, hz.uniq hy]
      · omega
      · omega
    have e1 := rd_mid c ws r 0 (by rw [hw1]; simp) (pre o i) (by omega)
    have b1 := bnd i (by omega)
    have b3 := bnd y (by have := hy.2.1; omega)
    have b2 : pre o i < (R.length : Int) := by rw [eR, hw1]; simp only [List.length_append, List.length_cons, List.length_nil]; omega
    have ps := pre_succ h'
    refine ⟨s', .succ ⟨K, fun k hk => ?_⟩⟩
    have g1 := hK k (by omega)
    dsimp only at g1
    simp only [spec_Run.l0]
    rw [if_pos b2, if_pos b1.1, eR, e1, ← eR]
    simp only [hw1, List.getElem_cons_zero]
    rw [if_neg (by omega), if_neg (by omega), if_pos trivial, w64 (x := pre o i + (pre o y - pre o (i + 1))) (by omega) (by omega), w64 (x := pre o i + (pre o y - pre o (i + 1)) + 1) (by omega) (by omega), show pre o i + (pre o y - pre o (i + 1)) + 1 = pre o y by omega]
    exact g1
  | ask i g v h t y ha ht hy hE ih =>
    intro s
    obtain ⟨h', c, ws, r, eR, hc, hw⟩ := laid_at ho hR h
    have b1 := bnd i (by omega)
    have b3 := bnd y (by have := hy.2.1; omega)
    have ps := pre_succ h'
    have ht' : ∀ c d, spec_l07Asks.f L[i].f1.f0 L[i].f1.f1 c d g = some t := fun _ _ => ht
    rcases hw with ⟨q, _⟩ | ⟨q, _⟩ | ⟨q, y1, z1, hy1, hz1, ⟨q1, hw1⟩ | ⟨q3, hw1⟩⟩ | ⟨q, _⟩
    · omega
    · omega
    · obtain ⟨s', K, hK⟩ := ih (wrap64 (s + 1))
      have e1 := rd_mid c ws r 0 (by rw [hw1]; simp) (pre o i) (by omega)
      have b2 : pre o i < (R.length : Int) := by rw [eR, hw1]; simp only [List.length_append, List.length_cons, List.length_nil]; omega
      refine ⟨s', .succ ⟨K, fun k hk => ?_⟩⟩
      have g1 := hK k (by omega)
      dsimp only at g1
      simp only [spec_Run.l0]
      rw [if_pos b2, if_pos b1.1, eR, e1, ← eR]
      simp only [hw1, List.getElem_cons_zero]
      rw [if_neg (by omega), if_neg (by omega), if_neg (by omega), if_neg (by omega), ht']
      simp only [Option.bind_some]
      cases t with
      | true =>
        have hyy : y1 = y := hy1.uniq hy
        subst hyy
        rw [if_pos rfl, w64 (x := pre o i + (pre o y1 - pre o (i + 1))) (by omega) (by omega), w64 (x := pre o i + (pre o y1 - pre o (i + 1)) + 1) (by omega) (by omega), show pre o i + (pre o y1 - pre o (i + 1)) + 1 = pre o y1 by omega]
        exact g1
      | false =>
        have hyy : z1 = y := hz1.uniq hy
        subst hyy
        rw [if_neg (by simp), w64 (x := pre o i + (pre o z1 - pre o (i + 1))) (by omega) (by omega), w64 (x := pre o i + (pre o z1 - pre o (i + 1)) + 1) (by omega) (by omega), show pre o i + (pre o z1 - pre o (i + 1)) + 1 = pre o z1 by omega]
        exact g1
    · obtain ⟨s', K, hK⟩ := ih (wrap64 (wrap64 (s + 1) + 1))
      have e1 := rd_mid c ws r 0 (by rw [hw1]; simp) (pre o i) (by omega)
      have e2 := rd_mid c ws r 1 (by rw [hw1]; simp) (pre o i + 1) (by omega)
      have e3 := rd_mid c ws r 2 (by rw [hw1]; simp) (pre o i + 2) (by omega)
      have b2 : pre o i + 2 < (R.length : Int) := by rw [eR, hw1]; simp only [List.length_append, List.length_cons, List.length_nil]; omega
      refine ⟨s', .succ (.succ ⟨K, fun k hk => ?_⟩)⟩
      have g1 := hK k (by omega)
      dsimp only at g1
      simp only [spec_Run.l0]
      rw [if_pos (by omega), if_pos b1.1, eR, e1, ← eR]
      simp only [hw1, List.getElem_cons_zero]
      rw [if_neg (by omega), if_neg (by omega), if_neg (by omega), if_neg (by omega), ht']
      simp only [Option.bind_some]
      cases t with
      | true =>
        have hyy : y1 = y := hy1.uniq hy
        subst hyy
        rw [if_pos rfl, w64 (x := pre o i + 0) (by omega) (by omega), w64 (x := pre o i + 0 + 1) (by omega) (by omega), show pre o i + 0 + 1 = pre o i + 1 by omega]
        rw [if_pos (by omega), if_pos (by omega), eR, e2, ← eR]
        simp only [hw1, List.getElem_cons_zero, List.getElem_cons_succ]
        rw [if_neg (by omega), if_neg (by omega), if_pos trivial, w64 (x := pre o i + 1 + (pre o y1 - pre o (i + 1) + 1)) (by omega) (by omega), w64 (x := pre o i + 1 + (pre o y1 - pre o (i + 1) + 1) + 1) (by omega) (by omega), show pre o i + 1 + (pre o y1 - pre o (i + 1) + 1) + 1 = pre o y1 by omega]
        exact g1
      | false =>
        have hyy : z1 = y := hz1.uniq hy
        subst hyy
        rw [if_neg (by simp), w64 (x := pre o i + 1) (by omega) (by omega), w64 (x := pre o i + 1 + 1) (by omega) (by omega), show pre o i + 1 + 1 = pre o i + 2 by omega]
        rw [if_pos (by omega), if_pos (by omega), eR, e3, ← eR]
        simp only [hw1, List.getElem_cons_zero, List.getElem_cons_succ]
        rw [if_neg (by omega), if_neg (by omega), if_pos trivial, w64 (x := pre o i + 2 + (pre o z1 - pre o (i + 1))) (by omega) (by omega), w64 (x := pre o i + 2 + (pre o z1 - pre o (i + 1)) + 1) (by omega) (by omega), show pre o i + 2 + (pre o z1 - pre o (i + 1)) + 1 = pre o z1 by omega]
        exact g1
    · omega
/-- A place of a name stands there. -/
def To (post : List S95) (s : ByteArray) : Prop := ∃ z ∈ post, z.f1.f0 = 0 ∧ z.f0.toList = s.toList
/-- A line that is right between others. -/
def Gd (pr : List S95) (x : S95) (post : List S95) : Prop :=
  (PZ x ∧ (1 ≤ (x.f0.size : Int) ∧ (x.f0.size : Int) ≤ 12) ∧ x.f2.toList = [] ∧ x.f3.toList = [] ∧ ∀ z ∈ pr, z.f1.f0 = 0 → z.f0.toList ≠ x.f0.toList) ∨
  (¬ x.f1.f0 = 0 ∧ x.f0.toList = [] ∧ x.f1.f2 = 0 ∧ x.f1.f3 = 0 ∧ (x.f1.f0 = 7 → x.f1.f1 = 0) ∧ InsP x.f1.f0 x.f1.f1 x.f1.f2 x.f1.f3 ∧
    ((x.f1.f0 = 7 ∧ x.f3.toList = [] ∧ To post x.f2) ∨ ((3 ≤ x.f1.f0 ∧ x.f1.f0 ≤ 6) ∧ To post x.f2 ∧ To post x.f3) ∨ (¬ x.f1.f0 = 7 ∧ ¬ (3 ≤ x.f1.f0 ∧ x.f1.f0 ≤ 6) ∧ x.f2.toList = [] ∧ x.f3.toList = [])))
def Ok (pr : List S95) : List S95 → List S95 → Prop
  | [], _ => True
  | x :: l, post => Gd pr x (l ++ post) ∧ Ok (pr ++ [x]) l post
theorem To.mono {p q : List S95} {s : ByteArray} (h : To p s) (hs : ∀ z ∈ p, z ∈ q) : To q s := by
  obtain ⟨z, h1, h2⟩ := h
  exact ⟨z, hs z h1, h2⟩
theorem Gd.mono {pr p q : List S95} {x : S95} (h : Gd pr x p) (hs : ∀ z ∈ p, z ∈ q) : Gd pr x q := by
  rcases h with h | ⟨a, b, c, d, e, f, g⟩
  · exact .inl h
  · refine .inr ⟨a, b, c, d, e, f, ?_⟩
    rcases g with ⟨g1, g2, g3⟩ | ⟨g1, g2, g3⟩ | g
    · exact .inl ⟨g1, g2, g3.mono hs⟩
    · exact .inr (.inl ⟨g1, g2.mono hs, g3.mono hs⟩)
    · exact .inr (.inr g)
theorem Ok.mono {q : List S95} : ∀ {l pr p : List S95}, Ok pr l p → (∀ z ∈ p, z ∈ q) → Ok pr l q
  | [], _, _, _, _ => trivial
  | x :: l, pr, p, h, hs => ⟨h.1.mono (fun z hz => by
      rcases List.mem_append.1 hz with h1 | h1
      · exact List.mem_append_left _ h1
      · exact List.mem_append_right _ (hs z h1)), Ok.mono h.2 hs⟩
theorem Ok.app {post : List S95} : ∀ {l pr m : List S95}, Ok pr l (m ++ post) → Ok (pr ++ l) m post → Ok pr (l ++ m) post
  | [], pr, m, _, h => by simpa using h
  | x :: l, pr, m, h, g => ⟨by show Gd pr x ((l ++ m) ++ post); rw [List.append_assoc]; exact h.1, Ok.app h.2 (by rw [List.append_assoc]; exact g)⟩
theorem Ok.get {post : List S95} : ∀ {l pr : List S95}, Ok pr l post → ∀ j (h : j < l.length), Gd (pr ++ l.take j) l[j] (l.drop (j + 1) ++ post)
  | [], _, _, _, h => absurd h (by simp)
  | x :: l, pr, hk, 0, h => by simpa using hk.1
  | x :: l, pr, hk, j + 1, h => by
    have := Ok.get hk.2 j (by simpa using h)
    simpa using this
theorem iAll_of {L : List S95} (h : Ok [] L []) : IAll L := by
  intro j hj w0 w2 w3 h0 h2 h3
  have hg := h.get j hj
  simp only [List.nil_append, List.append_nil] at hg
  have found : ∀ (s : ByteArray) (w : Int), To (L.drop (j + 1)) s → Fst (QI L s.toList) L.length (j + 1) w → w ≥ 0 := fun s w ht hw => by
    obtain ⟨z, hz, z0, z1⟩ := ht
    obtain ⟨m, hm, e⟩ := List.mem_iff_getElem.1 hz
    rw [List.getElem_drop] at e
    rw [List.length_drop] at hm
    rcases hw with ⟨u, _, _, _, u4, _⟩ | ⟨_, u2⟩
    · omega
    · exact absurd ⟨by omega, by rw [e]; exact z0, by rw [e]; exact z1⟩ (u2 (j + 1 + m) (by omega) (by omega))
  rcases hg with ⟨a, b, c, d, e⟩ | ⟨a, b, c, d, e, f, g⟩
  · refine .inl ⟨a, b, c, d, ?_⟩
    rcases h0 with ⟨u, u1, u2, ⟨_, u3, u4⟩, u5, u6⟩ | ⟨_, u2⟩
    · have n1 : ¬ j < u := fun hlt => u6 j (by omega) hlt ⟨hj, a.1, rfl⟩
      have n2 : ¬ u < j := fun hlt => e L[u] (by
        have : (L.take j)[u]'(by rw [List.length_take]; omega) = L[u] := List.getElem_take
        exact this ▸ List.getElem_mem _) u3 u4
      omega
    · exact absurd ⟨hj, a.1, rfl⟩ (u2 j (by omega) hj)
  · refine .inr ⟨a, b, c, d, e, f, ?_⟩
    rcases g with ⟨g1, g2, g3⟩ | ⟨g1, g2, g3⟩ | g
    · exact .inl ⟨g1, g2, found _ _ g3 h2⟩
    · exact .inr (.inl ⟨g1, found _ _ g2 h2, found _ _ g3 h3⟩)
    · exact .inr (.inr g)
def tN (i : Nat) : ByteArray := strOfNums [(48 + (i : Int)) % 256]
theorem emp : (⟨#[]⟩ : ByteArray).toList = [] := by rw [ByteArray.toList_eq]
theorem condS (a b c d e f : Int) : spec_CondOk.f a b c d e f = some (decide ((0 ≤ a ∧ a ≤ 2) ∧ ((0 ≤ b ∧ b ≤ 4294967295) ∧ (0 ≤ c ∧ c ≤ 4294967295)) ∧ ((0 ≤ e ∧ e ≤ 4294967295) ∧ (0 ≤ f ∧ f ≤ 4294967295)) ∧ 1 ≤ d ∧ d ≤ 6)) := by
  unfold spec_CondOk.f
  simp only [inS, wideS, Option.bind_some, decide_eq_true_eq]
  repeat' split
  all_goals (refine congrArg some ?_; rw [Bool.eq_iff_iff]; simp only [Bool.false_eq_true, decide_eq_true_eq, false_iff])
  all_goals omega
theorem wideI (a b : Int) : impl_WideOk.f a b = some (decide ((0 ≤ a ∧ a ≤ 4294967295) ∧ (0 ≤ b ∧ b ≤ 4294967295))) := wideS a b
theorem condI (a b c d e f : Int) : impl_CondOk.f a b c d e f = some (decide ((0 ≤ a ∧ a ≤ 2) ∧ ((0 ≤ b ∧ b ≤ 4294967295) ∧ (0 ≤ c ∧ c ≤ 4294967295)) ∧ ((0 ≤ e ∧ e ≤ 4294967295) ∧ (0 ≤ f ∧ f ≤ 4294967295)) ∧ 1 ≤ d ∧ d ≤ 6)) := condS a b c d e f
def lw (a b : Int) : S95 := ⟨⟨#[]⟩, ⟨a, b, 0, 0⟩, ⟨#[]⟩, ⟨#[]⟩⟩
def la (a b : Int) (s t : ByteArray) : S95 := ⟨⟨#[]⟩, ⟨a, b, 0, 0⟩, s, t⟩
def lp (s : ByteArray) : S95 := ⟨s, ⟨0, 0, 0, 0⟩, ⟨#[]⟩, ⟨#[]⟩⟩
def cSame (a b c e f : Int) (s1 s2 s3 : ByteArray) : List S95 := [lw 1 (wrap64 (3 + wrap64 (2 * a))), lw 2 b, la 3 e (s1 ++ ⟨#[97]⟩) s3, lp (s1 ++ ⟨#[97]⟩), lw 1 (wrap64 (2 + wrap64 (2 * a))), lw 2 c, la 3 f s2 s3]
def cAbove (a b c e f o : Int) (s1 s2 s3 : ByteArray) : List S95 := [lw 1 (wrap64 (3 + wrap64 (2 * a))), lw 2 b, la 4 e s2 (s1 ++ ⟨#[97]⟩), lp (s1 ++ ⟨#[97]⟩), la 3 e (s1 ++ ⟨#[98]⟩) s3, lp (s1 ++ ⟨#[98]⟩), lw 1 (wrap64 (2 + wrap64 (2 * a))), lw 2 c, la o f s2 s3]
/-- The lines of a condition: the same on both sides, and few. -/
def cLines (a b c d e f : Int) (s1 s2 s3 : ByteArray) : List S95 :=
  if (0 ≤ a ∧ a ≤ 2) ∧ ((0 ≤ b ∧ b ≤ 4294967295) ∧ (0 ≤ c ∧ c ≤ 4294967295)) ∧ ((0 ≤ e ∧ e ≤ 4294967295) ∧ (0 ≤ f ∧ f ≤ 4294967295)) ∧ 1 ≤ d ∧ d ≤ 6 then
    (if d = 1 then cSame a b c e f s1 s2 s3 else if d = 2 then cSame a b c e f s1 s3 s2 else if d = 5 then cAbove a b c e f 4 s1 s2 s3 else if d = 6 then cAbove a b c e f 5 s1 s2 s3 else if d = 4 then cAbove a b c e f 4 s1 s3 s2 else cAbove a b c e f 5 s1 s3 s2)
  else []
theorem cLines_len (a b c d e f : Int) (s1 s2 s3 : ByteArray) : (cLines a b c d e f s1 s2 s3).length ≤ 9 := by
  unfold cLines
  repeat' split
  all_goals simp [cSame, cAbove]
theorem aboveI (k : Nat) (a b c d e f o : Int) (s1 s2 s3 : ByteArray) : impl_CondLines.j0 (k + 1) s2 s3 (s1 ++ ⟨#[97]⟩) (s1 ++ ⟨#[98]⟩) [lw 1 (wrap64 (3 + wrap64 (2 * a))), lw 2 b] [lw 1 (wrap64 (2 + wrap64 (2 * a))), lw 2 c] o a b c d e f = some (cAbove a b c e f o s1 s2 s3) := by
  simp only [impl_CondLines.j0, impl_ask.f, impl_place.f, Option.bind_some]
  rfl
theorem linesI (k : Nat) (a b c d e f : Int) (s1 s2 s3 : ByteArray) (h : s1.size ≤ 9000000000000000000) : impl_CondLines.f (k + 1) a b c d e f s1 s2 s3 = some (cLines a b c d e f s1 s2 s3) := by
  unfold impl_CondLines.f cLines
  rw [condI]
  simp only [Option.bind_some, decide_eq_true_eq]
  by_cases hc : (0 ≤ a ∧ a ≤ 2) ∧ ((0 ≤ b ∧ b ≤ 4294967295) ∧ (0 ≤ c ∧ c ≤ 4294967295)) ∧ ((0 ≤ e ∧ e ≤ 4294967295) ∧ (0 ≤ f ∧ f ≤ 4294967295)) ∧ 1 ≤ d ∧ d ≤ 6
  · rw [if_pos hc, if_pos hc, if_pos (by omega)]
    simp only [impl_word.f, impl_ask.f, impl_place.f, Option.bind_some]
    have j := fun o s2 s3 => aboveI k a b c d e f o s1 s2 s3
    unfold lw at j
    by_cases h1 : d = 1
    · subst h1
      rfl
    by_cases h2 : d = 2
    · subst h2
      rfl
    by_cases h3 : d = 3
    · subst h3
      exact j 5 s3 s2
    by_cases h4 : d = 4
    · subst h4
      exact j 4 s3 s2
    by_cases h5 : d = 5
    · subst h5
      exact j 4 s2 s3
    have h6 : d = 6 := by omega
    subst h6
    exact j 5 s2 s3
  · rw [if_neg hc, if_neg hc]
/-- Right lines: what is asked of them, in one. -/
structure RL (L : List S95) : Prop where
  n : L.length ≤ 600
  s : SAll L
  i : IAll L
/-- A place stands once. -/
theorem RL.one {L : List S95} (h : RL L) {y : Nat} (hy : y < L.length) (hp : L[y].f1.f0 = 0) : Fst (QI L L[y].f0.toList) L.length 0 (y : Int) ∧ L[y].f0.toList ≠ [] := by
  have hn := h.n
  obtain ⟨w0, h0⟩ := fstI L (by omega) L[y].f0 0 (by omega)
  obtain ⟨w2, h2⟩ := fstI L (by omega) L[y].f2 (y + 1) hy
  obtain ⟨w3, h3⟩ := fstI L (by omega) L[y].f3 (y + 1) hy
  rcases h.i y hy w0 w2 w3 h0 h2 h3 with h4 | h4
  · refine ⟨by rw [← h4.2.2.2.2]; exact h0, fun e => ?_⟩
    have h5 := h4.2.1.1
    rw [ByteArray.toList_eq] at e
    have h6 : L[y].f0.size = 0 := by
      show L[y].f0.data.toList.length = 0
      rw [e]
      rfl
    omega
  · exact absurd hp h4.1
theorem RL.way {L : List S95} (h : RL L) {i y : Nat} {s : ByteArray} (hi : i < y) (hy : y < L.length) (hp : L[y].f1.f0 = 0) (hl : L[y].f0.toList = s.toList) : Way L i s y := by
  have hn := h.n
  have H : ∀ j (h : j < L.length), L[j].f1.f0 = 0 → PZ L[j] := fun j h' e => plz (by omega) h.i h' e
  obtain ⟨h1, hne⟩ := h.one hy hp
  rw [hl] at h1 hne
  have hno : ∀ m, m < y → ¬ QI L s.toList m := by
    rcases h1 with ⟨j, _, _, _, e, hn⟩ | ⟨e, _⟩
    · exact fun m hm => hn m (by omega) (by omega)
    · omega
  exact ⟨hi, hy, ⟨hy, hp, hl⟩, .inl ⟨y, Nat.zero_le _, hy, (qs_qi H _ y).2 ⟨hy, hp, hl⟩, rfl, fun m _ hm q => hno m hm ((qs_qi H _ m).1 q)⟩, .inl ⟨y, hi, hy, ⟨hy, hp, hl⟩, rfl, fun m _ hm => hno m hm⟩, hne⟩
/-- These lines stand there. -/
def Fr (L : List S95) (i : Nat) (F : List S95) : Prop := ∃ r, L.drop i = F ++ r
theorem Fr.get {L F : List S95} {i : Nat} (h : Fr L i F) (m : Nat) (hm : m < F.length) : ∃ h' : i + m < L.length, L[i + m] = F[m] := by
  obtain ⟨r, e⟩ := h
  have h1 : L[i + m]? = some F[m] := by rw [← List.getElem?_drop, e, List.getElem?_append_left hm, List.getElem?_eq_getElem hm]
  obtain ⟨h2, h3⟩ := List.getElem?_eq_some_iff.1 h1
  exact ⟨h2, h3⟩
theorem Fr.left {L F G : List S95} {i : Nat} (h : Fr L i (F ++ G)) : Fr L i F := by
  obtain ⟨r, e⟩ := h
  exact ⟨G ++ r, by rw [e, List.append_assoc]⟩
theorem Fr.right {L F G : List S95} {i : Nat} (h : Fr L i (F ++ G)) : Fr L (i + F.length) G := by
  obtain ⟨r, e⟩ := h
  exact ⟨r, by rw [← List.drop_drop, e, List.append_assoc, List.drop_left]⟩
theorem Fr.tail {L F : List S95} {x : S95} {i : Nat} (h : Fr L i (x :: F)) : Fr L (i + 1) F := Fr.right (F := [x]) h
section
variable {L : List S95} {a b : Int} {w : List S48} {i : Nat} {g v : Int}
theorem e_load (k : Int) (h : i < L.length) (e : L[i] = lw 1 k) (p : Int × Bool) (hp : Evt (fun n => spec_FieldAt.f n a b w k) p) (hE : Ends L a b w (i + 1) p.1 v) : Ends L a b w i g v := .load i g v h p (by rw [e]; rfl) (by rw [e]; exact hp) hE
theorem e_and (k : Int) (h : i < L.length) (e : L[i] = lw 2 k) (hE : Ends L a b w (i + 1) (Go.bits .and .i64 g k) v) : Ends L a b w i g v := .and i g v h (by rw [e]; rfl) (by rw [e]; exact hE)
theorem e_ret (k : Int) (h : i < L.length) (e : L[i] = lw 8 k) : Ends L a b w i g k := by
  have := Ends.ret (L := L) (a := a) (b := b) (w := w) i g h (by rw [e]; rfl)
  rw [e] at this
  exact this
theorem e_place (s : ByteArray) (h : i < L.length) (e : L[i] = lp s) (hE : Ends L a b w (i + 1) g v) : Ends L a b w i g v := .place i g v h (by rw [e]; rfl) hE
theorem e_ask (hR : RL L) (o k : Int) (s t : ByteArray) (h : i < L.length) (e : L[i] = la o k s t) (ho : 3 ≤ o ∧ o ≤ 6) (q : Bool) (hq : spec_l07Asks.f o k 0 0 g = some q) (y : Nat) (hi : i < y) (hy : y < L.length) (hp : L[y] = lp (if q = true then s else t)) (hE : Ends L a b w y g v) : Ends L a b w i g v := by
  refine .ask i g v h q y (by rw [e]; exact ho) (by rw [e]; exact hq) ?_ hE
  rw [e]
  exact hR.way hi hy (by rw [hp]; rfl) (by rw [hp]; rfl)
end
/-- A right call. -/
def CallR (a b : Int) (w : List S48) : Prop := (0 ≤ a ∧ a ≤ 4294967295) ∧ (0 ≤ b ∧ b ≤ 4294967295) ∧ w.length = 3 ∧ ∀ y ∈ w, (0 ≤ y.f0 ∧ y.f0 ≤ 4294967295) ∧ (0 ≤ y.f1 ∧ y.f1 ≤ 4294967295)
theorem field_hl {a b : Int} {w : List S48} (hc : CallR a b w) {A : Int} (hA : 0 ≤ A ∧ A ≤ 2) : Evt (fun k => spec_FieldAt.f k a b w (wrap64 (3 + wrap64 (2 * A)))) ((rd_T48 w A).f0, true) ∧ Evt (fun k => spec_FieldAt.f k a b w (wrap64 (2 + wrap64 (2 * A)))) ((rd_T48 w A).f1, true) := by
  obtain ⟨h1, h2, h3, h4⟩ := hc
  have hcl := callT a b w h1 h2 h3 h4
  have dS : ∀ x, 0 ≤ x ∧ x ≤ 7 → ∀ k, 4 ≤ k → spec_FieldAt.f k a b w x = spec_FieldAt.j0 k x false a b w := fun x hx k hk => by simp only [spec_FieldAt.f, hcl k hk, Option.bind_some, inS, if_true, decide_eq_true hx, Bool.not_true]
  have e0 : wrap64 (2 * A) = 2 * A := w64 (by omega) (by omega)
  have e1 : wrap64 (3 + 2 * A) = 3 + 2 * A := w64 (by omega) (by omega)
  have e2 : wrap64 (2 + 2 * A) = 2 + 2 * A := w64 (by omega) (by omega)
  rw [e0, e1, e2]
  have f1 : wrap64 (3 + 2 * A - 2) = 3 + 2 * A - 2 := w64 (by omega) (by omega)
  have f2 : wrap64 (2 + 2 * A - 2) = 2 + 2 * A - 2 := w64 (by omega) (by omega)
  have g1 : wrap64 (Int.tdiv (3 + 2 * A - 2) 2) = A := by rw [Int.tdiv_eq_ediv_of_nonneg (by omega), w64 (by omega) (by omega)]; omega
  have g2 : wrap64 (Int.tdiv (2 + 2 * A - 2) 2) = A := by rw [Int.tdiv_eq_ediv_of_nonneg (by omega), w64 (by omega) (by omega)]; omega
  have m1 : Int.tmod (3 + 2 * A) 2 = 1 := by rw [Int.tmod_eq_emod_of_nonneg (by omega)]; omega
  have m2 : Int.tmod (2 + 2 * A) 2 = 0 := by rw [Int.tmod_eq_emod_of_nonneg (by omega)]; omega
  constructor
  · refine ⟨5, fun k hk => (dS _ (by omega) k (by omega)).trans ?_⟩
    obtain ⟨k, rfl⟩ : ∃ m, k = m + 1 := ⟨k - 1, by omega⟩
    simp only [spec_FieldAt.j0, Bool.false_eq_true, if_false, f1, g1, m1]
    rw [if_neg (by omega), if_neg (by omega), if_pos (by omega), if_pos (by omega), if_neg (by decide)]
  · refine ⟨5, fun k hk => (dS _ (by omega) k (by omega)).trans ?_⟩
    obtain ⟨k, rfl⟩ : ∃ m, k = m + 1 := ⟨k - 1, by omega⟩
    simp only [spec_FieldAt.j0, Bool.false_eq_true, if_false, f2, g2, m2]
    rw [if_neg (by omega), if_neg (by omega), if_pos (by omega), if_pos (by omega), if_pos trivial]
/-- Where a place is. -/
def At (L : List S95) (i p : Nat) (s : ByteArray) : Prop := i < p ∧ ∃ h : p < L.length, L[p] = lp s
theorem At.le {L : List S95} {i j p : Nat} {s : ByteArray} (h : At L j p s) (hi : i ≤ j) : At L i p s := ⟨by have := h.1; omega, h.2⟩
theorem same_run {L : List S95} (hR : RL L) {a b : Int} {w : List S48} (hc : CallR a b w) {A B C E F : Int} (hA : 0 ≤ A ∧ A ≤ 2) {s y n : ByteArray} {i : Nat} (hF : Fr L i (cSame A B C E F s y n)) {p q : Nat} (hp : At L (i + 6) p y) (hq : At L (i + 6) q n) {v : Int} {t : Bool}
    (ht : t = decide (Go.bits .and .i64 (rd_T48 w A).f0 B = E ∧ Go.bits .and .i64 (rd_T48 w A).f1 C = F)) (hT : ∀ g, Ends L a b w (if t = true then p else q) g v) (g : Int) : Ends L a b w i g v := by
  obtain ⟨k0, x0⟩ := hF.get 0 (by simp [cSame])
  obtain ⟨k1, x1⟩ := hF.get 1 (by simp [cSame])
  obtain ⟨k2, x2⟩ := hF.get 2 (by simp [cSame])
  obtain ⟨k3, x3⟩ := hF.get 3 (by simp [cSame])
  obtain ⟨k4, x4⟩ := hF.get 4 (by simp [cSame])
  obtain ⟨k5, x5⟩ := hF.get 5 (by simp [cSame])
  obtain ⟨k6, x6⟩ := hF.get 6 (by simp [cSame])
  obtain ⟨f1, f2⟩ := field_hl hc hA
  obtain ⟨p1, p2, p3⟩ := hp
  obtain ⟨q1, q2, q3⟩ := hq
  refine e_load _ k0 x0 _ f1 (e_and _ k1 x1 ?_)
  dsimp only
  generalize hX : Go.bits .and .i64 (rd_T48 w A).f0 B = X at ht ⊢
  by_cases hx : X = E
  · refine e_ask hR 3 E (s ++ (⟨#[97]⟩ : ByteArray)) n k2 x2 (by omega) true (by simp [spec_l07Asks.f, hx]) (i + 3) (by omega) k3 (by rw [if_pos rfl]; exact x3) ?_
    refine e_place _ k3 x3 (e_load _ k4 x4 _ f2 (e_and _ k5 x5 ?_))
    dsimp only
    generalize hY : Go.bits .and .i64 (rd_T48 w A).f1 C = Y at ht ⊢
    by_cases hy : Y = F
    · have ht' : t = true := by rw [ht]; exact decide_eq_true ⟨hx, hy⟩
      have h := hT Y
      rw [if_pos ht'] at h
      exact e_ask hR 3 F y n k6 x6 (by omega) true (by simp [spec_l07Asks.f, hy]) p (by omega) p2 (by rw [if_pos rfl]; exact p3) h
    · have ht' : t = false := by rw [ht]; exact decide_eq_false (fun h => hy h.2)
      have h := hT Y
      rw [if_neg (by rw [ht']; decide)] at h
      exact e_ask hR 3 F y n k6 x6 (by omega) false (by simp [spec_l07Asks.f, hy]) q (by omega) q2 (by rw [if_neg (by decide)]; exact q3) h
  · have ht' : t = false := by rw [ht]; exact decide_eq_false (fun h => hx h.1)
    have h := hT X
    rw [if_neg (by rw [ht']; decide)] at h
    exact e_ask hR 3 E (s ++ (⟨#[97]⟩ : ByteArray)) n k2 x2 (by omega) false (by simp [spec_l07Asks.f, hx]) q (by omega) q2 (by rw [if_neg (by decide)]; exact q3) h
theorem above_run {L : List S95} (hR : RL L) {a b : Int} {w : List S48} (hc : CallR a b w) {A B C E F o : Int} (hA : 0 ≤ A ∧ A ≤ 2) (ho : o = 4 ∨ o = 5) {s y n : ByteArray} {i : Nat} (hF : Fr L i (cAbove A B C E F o s y n)) {p q : Nat} (hp : At L (i + 8) p y) (hq : At L (i + 8) q n) {v : Int} {t : Bool}
    (ht : t = decide (Go.bits .and .i64 (rd_T48 w A).f0 B > E ∨ (Go.bits .and .i64 (rd_T48 w A).f0 B = E ∧ (Go.bits .and .i64 (rd_T48 w A).f1 C > F ∨ (o = 5 ∧ Go.bits .and .i64 (rd_T48 w A).f1 C = F))))) (hT : ∀ g, Ends L a b w (if t = true then p else q) g v) (g : Int) : Ends L a b w i g v := by
  obtain ⟨k0, x0⟩ := hF.get 0 (by simp [cAbove])
  obtain ⟨k1, x1⟩ := hF.get 1 (by simp [cAbove])
  obtain ⟨k2, x2⟩ := hF.get 2 (by simp [cAbove])
  obtain ⟨k3, x3⟩ := hF.get 3 (by simp [cAbove])
  obtain ⟨k4, x4⟩ := hF.get 4 (by simp [cAbove])
  obtain ⟨k5, x5⟩ := hF.get 5 (by simp [cAbove])
  obtain ⟨k6, x6⟩ := hF.get 6 (by simp [cAbove])
  obtain ⟨k7, x7⟩ := hF.get 7 (by simp [cAbove])
  obtain ⟨k8, x8⟩ := hF.get 8 (by simp [cAbove])
  obtain ⟨f1, f2⟩ := field_hl hc hA
  obtain ⟨p1, p2, p3⟩ := hp
  obtain ⟨q1, q2, q3⟩ := hq
  refine e_load _ k0 x0 _ f1 (e_and _ k1 x1 ?_)
  dsimp only
  generalize hX : Go.bits .and .i64 (rd_T48 w A).f0 B = X at ht ⊢
  by_cases hx : X > E
  · have ht' : t = true := by rw [ht]; exact decide_eq_true (.inl hx)
    have h := hT X
    rw [if_pos ht'] at h
    exact e_ask hR 4 E y (s ++ (⟨#[97]⟩ : ByteArray)) k2 x2 (by omega) true (by simp [spec_l07Asks.f]; omega) p (by omega) p2 (by rw [if_pos rfl]; exact p3) h
  · refine e_ask hR 4 E y (s ++ (⟨#[97]⟩ : ByteArray)) k2 x2 (by omega) false (by simp [spec_l07Asks.f]; omega) (i + 3) (by omega) k3 (by rw [if_neg (by decide)]; exact x3) ?_
    refine e_place _ k3 x3 ?_
    by_cases he : X = E
    · refine e_ask hR 3 E (s ++ (⟨#[98]⟩ : ByteArray)) n k4 x4 (by omega) true (by simp [spec_l07Asks.f, he]) (i + 5) (by omega) k5 (by rw [if_pos rfl]; exact x5) ?_
      refine e_place _ k5 x5 (e_load _ k6 x6 _ f2 (e_and _ k7 x7 ?_))
      dsimp only
      generalize hY : Go.bits .and .i64 (rd_T48 w A).f1 C = Y at ht ⊢
      have hh := hT Y
      by_cases hy : Y > F ∨ (o = 5 ∧ Y = F)
      · have ht' : t = true := by rw [ht]; exact decide_eq_true (.inr ⟨he, hy⟩)
        rw [if_pos ht'] at hh
        refine e_ask hR o F y n k8 x8 (by omega) true ?_ p (by omega) p2 (by rw [if_pos rfl]; exact p3) hh
        rcases ho with rfl | rfl <;> (simp [spec_l07Asks.f]; omega)
      · have ht' : t = false := by rw [ht]; exact decide_eq_false (fun h => by rcases h with h | h; exact hx h; exact hy h.2)
        rw [if_neg (by rw [ht']; decide)] at hh
        refine e_ask hR o F y n k8 x8 (by omega) false ?_ q (by omega) q2 (by rw [if_neg (by decide)]; exact q3) hh
        rcases ho with rfl | rfl <;> (simp [spec_l07Asks.f]; omega)
    · have ht' : t = false := by rw [ht]; exact decide_eq_false (fun h => by rcases h with h | h; exact hx h; exact he h.1)
      have h := hT X
      rw [if_neg (by rw [ht']; decide)] at h
      exact e_ask hR 3 E (s ++ (⟨#[98]⟩ : ByteArray)) n k4 x4 (by omega) false (by simp [spec_l07Asks.f, he]) q (by omega) q2 (by rw [if_neg (by decide)]; exact q3) h
/-- How a pair stands to another. -/
def cmpV (x y e f : Int) : Int := if x < e then -1 else if x > e then 1 else if y < f then -1 else if y > f then 1 else 0
def holdV (d t : Int) : Bool := if d = 1 then t == 0 else if d = 2 then t != 0 else if d = 3 then decide (t < 0) else if d = 4 then decide (t ≤ 0) else if d = 5 then decide (t > 0) else decide (t ≥ 0)
/-- Does a condition hold of a call. -/
def cH (c : S50) (w : List S48) : Bool := holdV c.f2 (cmpV (Go.bits .and .i64 (rd_T48 w c.f0).f0 c.f1.f0) (Go.bits .and .i64 (rd_T48 w c.f0).f1 c.f1.f1) c.f3.f0 c.f3.f1)
/-- A right condition. -/
def CR (y : S50) : Prop := (0 ≤ y.f0 ∧ y.f0 ≤ 2) ∧ ((0 ≤ y.f1.f0 ∧ y.f1.f0 ≤ 4294967295) ∧ (0 ≤ y.f1.f1 ∧ y.f1.f1 ≤ 4294967295)) ∧ ((0 ≤ y.f3.f0 ∧ y.f3.f0 ≤ 4294967295) ∧ (0 ≤ y.f3.f1 ∧ y.f3.f1 ≤ 4294967295)) ∧ 1 ≤ y.f2 ∧ y.f2 ≤ 6
theorem cmpV_eq (x y e f : Int) : spec_WideCmp.f x y e f = some (cmpV x y e f) := by
  unfold spec_WideCmp.f spec_l04Cmp.f cmpV
  repeat' split
  all_goals simp_all
  all_goals (repeat' split)
  all_goals first | rfl | omega | simp_all
theorem cH_eq {c : S50} (h : CR c) {a b : Int} {w : List S48} (hc : CallR a b w) : Evt (fun k => spec_CondHolds.f k c.f0 c.f1.f0 c.f1.f1 c.f2 c.f3.f0 c.f3.f1 a b w) (cH c w) := by
  obtain ⟨h1, h2, h3, h4⟩ := hc
  have hcl := callT a b w h1 h2 h3 h4
  have hlt : c.f0.toNat < w.length := by have := h.1; omega
  have e0 : rd_T48 w c.f0 = w[c.f0.toNat] := by
    have := nrd_T48 w c.f0.toNat hlt
    rwa [show ((c.f0.toNat : Nat) : Int) = c.f0 by have := h.1; omega] at this
  have hw := h4 w[c.f0.toNat] (List.getElem_mem hlt)
  refine ⟨6, fun k hk => ?_⟩
  obtain ⟨k, rfl⟩ : ∃ m, k = m + 1 := ⟨k - 1, by omega⟩
  have hcd : spec_CondOk.f c.f0 c.f1.f0 c.f1.f1 c.f2 c.f3.f0 c.f3.f1 = some true := by
    obtain ⟨r1, r2, r3, r4⟩ := h
    simp only [spec_CondOk.f, inS, wideS, Option.bind_some, decide_eq_true_eq, if_pos r1, if_pos r2, if_pos r3]
    rw [decide_eq_true r4]
  have hand : spec_WideAnd.f (rd_T48 w c.f0).f0 (rd_T48 w c.f0).f1 c.f1.f0 c.f1.f1 = some (Go.bits .and .i64 (rd_T48 w c.f0).f0 c.f1.f0, Go.bits .and .i64 (rd_T48 w c.f0).f1 c.f1.f1) := by
    simp only [spec_WideAnd.f, wideS, Option.bind_some, decide_eq_true_eq, e0, if_pos hw, if_pos h.2.1]
  simp only [spec_CondHolds.f, hcd, hcl (k + 1) (by omega), Option.bind_some, if_true, Bool.not_true, spec_CondHolds.j0, Bool.false_eq_true, if_false]
  rw [if_pos h.1.1, if_pos (by have := h.1; omega), hand]
  simp only [Option.bind_some, cmpV_eq]
  unfold cH holdV
  repeat' split
  all_goals rfl
/-- The lines of a condition go to yes just when it holds. -/
theorem cond_run {L : List S95} (hR : RL L) {a b : Int} {w : List S48} (hc : CallR a b w) {c : S50} (h : CR c) {s y n : ByteArray} {i : Nat} (hF : Fr L i (cLines c.f0 c.f1.f0 c.f1.f1 c.f2 c.f3.f0 c.f3.f1 s y n)) {p q : Nat} (hp : At L (i + (cLines c.f0 c.f1.f0 c.f1.f1 c.f2 c.f3.f0 c.f3.f1 s y n).length - 1) p y) (hq : At L (i + (cLines c.f0 c.f1.f0 c.f1.f1 c.f2 c.f3.f0 c.f3.f1 s y n).length - 1) q n) {v : Int}
    (hT : ∀ g, Ends L a b w (if cH c w = true then p else q) g v) (g : Int) : Ends L a b w i g v := by
  have hin : (0 ≤ c.f0 ∧ c.f0 ≤ 2) ∧ ((0 ≤ c.f1.f0 ∧ c.f1.f0 ≤ 4294967295) ∧ (0 ≤ c.f1.f1 ∧ c.f1.f1 ≤ 4294967295)) ∧ ((0 ≤ c.f3.f0 ∧ c.f3.f0 ≤ 4294967295) ∧ (0 ≤ c.f3.f1 ∧ c.f3.f1 ≤ 4294967295)) ∧ 1 ≤ c.f2 ∧ c.f2 ≤ 6 := h
  unfold cLines at hF hp hq
  rw [if_pos hin] at hF hp hq
  have hd := h.2.2.2
  have hd' : c.f2 = 1 ∨ c.f2 = 2 ∨ c.f2 = 3 ∨ c.f2 = 4 ∨ c.f2 = 5 ∨ c.f2 = 6 := by omega
  have swap : ∀ u : Bool, (!cH c w) = u → ∀ g, Ends L a b w (if u = true then q else p) g v := fun u hu g => by
    have := hT g
    rw [← hu]
    cases hh : cH c w
    · rw [hh] at this
      simpa using this
    · rw [hh] at this
      simpa using this
  rcases hd' with hd | hd | hd | hd | hd | hd
  · rw [hd] at hF hp hq
    refine same_run hR hc h.1 hF hp hq rfl ?_ g
    rw [show decide (Go.bits .and .i64 (rd_T48 w c.f0).f0 c.f1.f0 = c.f3.f0 ∧ Go.bits .and .i64 (rd_T48 w c.f0).f1 c.f1.f1 = c.f3.f1) = cH c w from ?_]
    · exact hT
    · unfold cH holdV cmpV
      rw [hd, if_pos rfl, Bool.eq_iff_iff]
      simp only [decide_eq_true_eq, beq_iff_eq]
      repeat' split
      all_goals omega
  · rw [hd] at hF hp hq
    refine same_run hR hc h.1 hF hq hp rfl (swap _ ?_) g
    unfold cH holdV cmpV
    rw [hd, if_neg (by decide), if_pos rfl, Bool.eq_iff_iff]
    simp only [decide_eq_true_eq, bne_iff_ne, Bool.not_eq_true', bne_eq_false_iff_eq]
    repeat' split
    all_goals omega
  · rw [hd] at hF hp hq
    refine above_run hR hc h.1 (.inr rfl) hF hq hp rfl (swap _ ?_) g
    unfold cH holdV cmpV
    rw [hd, if_neg (by decide), if_neg (by decide), if_pos rfl, Bool.eq_iff_iff]
    simp only [decide_eq_true_eq, Bool.not_eq_true', decide_eq_false_iff_not, true_and]
    repeat' split
    all_goals omega
  · rw [hd] at hF hp hq
    refine above_run hR hc h.1 (.inl rfl) hF hq hp rfl (swap _ ?_) g
    unfold cH holdV cmpV
    rw [hd, if_neg (by decide), if_neg (by decide), if_neg (by decide), if_pos rfl, Bool.eq_iff_iff]
    simp only [decide_eq_true_eq, Bool.not_eq_true', decide_eq_false_iff_not]
    repeat' split
    all_goals omega
  · rw [hd] at hF hp hq
    refine above_run hR hc h.1 (.inl rfl) hF hp hq rfl ?_ g
    rw [show decide (Go.bits .and .i64 (rd_T48 w c.f0).f0 c.f1.f0 > c.f3.f0 ∨ (Go.bits .and .i64 (rd_T48 w c.f0).f0 c.f1.f0 = c.f3.f0 ∧ (Go.bits .and .i64 (rd_T48 w c.f0).f1 c.f1.f1 > c.f3.f1 ∨ ((4 : Int) = 5 ∧ Go.bits .and .i64 (rd_T48 w c.f0).f1 c.f1.f1 = c.f3.f1)))) = cH c w from ?_]
    · exact hT
    · unfold cH holdV cmpV
      rw [hd, if_neg (by decide), if_neg (by decide), if_neg (by decide), if_neg (by decide), if_pos rfl, Bool.eq_iff_iff]
      simp only [decide_eq_true_eq]
      repeat' split
      all_goals omega
  · rw [hd] at hF hp hq
    refine above_run hR hc h.1 (.inr rfl) hF hp hq rfl ?_ g
    rw [show decide (Go.bits .and .i64 (rd_T48 w c.f0).f0 c.f1.f0 > c.f3.f0 ∨ (Go.bits .and .i64 (rd_T48 w c.f0).f0 c.f1.f0 = c.f3.f0 ∧ (Go.bits .and .i64 (rd_T48 w c.f0).f1 c.f1.f1 > c.f3.f1 ∨ ((5 : Int) = 5 ∧ Go.bits .and .i64 (rd_T48 w c.f0).f1 c.f1.f1 = c.f3.f1)))) = cH c w from ?_]
    · exact hT
    · unfold cH holdV cmpV
      rw [hd, if_neg (by decide), if_neg (by decide), if_neg (by decide), if_neg (by decide), if_neg (by decide), Bool.eq_iff_iff]
      simp only [decide_eq_true_eq, true_and]
      repeat' split
      all_goals omega
theorem resI (a b : Int) : impl_ResultOf.f a b = spec_ResultOf.f a b := rfl
theorem nrd_T50 (l : List (S50)) (i : Nat) (h : i < l.length) : rd_T50 l (i : Int) = l[i] := getD_lt _ h
theorem fig (d : Int) (h0 : 0 ≤ d) (h1 : d < 10) : (⟨#[48, 49, 50, 51, 52, 53, 54, 55, 56, 57, 97, 98, 99, 100, 101, 102]⟩ : ByteArray).extract d.toNat (d + 1).toNat = strOfNums [(48 + d) % 256] := by
  have : d = 0 ∨ d = 1 ∨ d = 2 ∨ d = 3 ∨ d = 4 ∨ d = 5 ∨ d = 6 ∨ d = 7 ∨ d = 8 ∨ d = 9 := by omega
  rcases this with h | h | h | h | h | h | h | h | h | h <;> subst h <;> rfl
theorem figI (i : Nat) (hi : i < 10) : Evt (fun k => impl_Decimal.f k (i : Int)) (tN i) := by
  by_cases h : (i : Int) = 0
  · refine .const fun k => ?_
    simp only [impl_Decimal.f]
    rw [if_pos h, show i = 0 by omega]
    rfl
  · refine ⟨2, fun k hk => ?_⟩
    obtain ⟨k, rfl⟩ : ∃ m, k = m + 2 := ⟨k - 2, by omega⟩
    have em : Int.tmod (i : Int) 10 = i := by rw [Int.tmod_eq_emod_of_nonneg (by omega)]; omega
    have ed : wrap64 (Int.tdiv (i : Int) 10) = 0 := by rw [Int.tdiv_eq_ediv_of_nonneg (by omega), w64 (by omega) (by omega)]; omega
    have ex : mx (i : Int) (wrap64 (-(i : Int))) = i := by rw [w64 (by omega) (by omega)]; unfold mx; split <;> omega
    have e1 : wrap64 ((i : Int) + 1) = i + 1 := w64 (by omega) (by omega)
    have hf := fig (i : Int) (by omega) (by omega)
    have hs : (strOfNums [(48 + (i : Int)) % 256] ++ (⟨#[]⟩ : ByteArray)) = strOfNums [(48 + (i : Int)) % 256] := by rw [show (⟨#[]⟩ : ByteArray) = ByteArray.empty from rfl, ByteArray.append_empty]
    have hz : (strOfNums [(48 + (i : Int)) % 256]).size = 1 := rfl
    have hz0 : (⟨#[]⟩ : ByteArray).size = 0 := rfl
    simp only [impl_Decimal.f, impl_Decimal.l0, em, ex, e1, hf, hs, ed, if_neg h]
    rw [if_pos (by omega), if_pos (by omega), if_pos (by omega), if_pos (by omega), if_pos trivial, if_neg (by omega)]
    rfl
theorem cLines_pos {c : S50} (h : CR c) (s y n : ByteArray) : 7 ≤ (cLines c.f0 c.f1.f0 c.f1.f1 c.f2 c.f3.f0 c.f3.f1 s y n).length := by
  have hin : (0 ≤ c.f0 ∧ c.f0 ≤ 2) ∧ ((0 ≤ c.f1.f0 ∧ c.f1.f0 ≤ 4294967295) ∧ (0 ≤ c.f1.f1 ∧ c.f1.f1 ≤ 4294967295)) ∧ ((0 ≤ c.f3.f0 ∧ c.f3.f0 ≤ 4294967295) ∧ (0 ≤ c.f3.f1 ∧ c.f3.f1 ≤ 4294967295)) ∧ 1 ≤ c.f2 ∧ c.f2 ≤ 6 := h
  unfold cLines
  rw [if_pos hin]
  repeat' split
  all_goals simp [cSame, cAbove]
/-- The lines of conditions, from a number on. -/
def rlF (s n : ByteArray) : List S50 → Nat → List S95
  | [], _ => []
  | c :: l, j => cLines c.f0 c.f1.f0 c.f1.f1 c.f2 c.f3.f0 c.f3.f1 (s ++ tN j) ((s ++ (⟨#[110]⟩ : ByteArray)) ++ tN j) n ++ (lp ((s ++ (⟨#[110]⟩ : ByteArray)) ++ tN j) :: rlF s n l (j + 1))
theorem rlF_len (s n : ByteArray) : ∀ (l : List S50) (j : Nat), (rlF s n l j).length ≤ 10 * l.length
  | [], _ => by simp [rlF]
  | c :: l, j => by
    have h1 := cLines_len c.f0 c.f1.f0 c.f1.f1 c.f2 c.f3.f0 c.f3.f1 (s ++ tN j) ((s ++ (⟨#[110]⟩ : ByteArray)) ++ tN j) n
    have h2 := rlF_len s n l (j + 1)
    simp only [rlF, List.length_append, List.length_cons]
    omega
theorem At.snoc {L F : List S95} {i : Nat} {x : ByteArray} {G : List S95} (h : Fr L i (F ++ (lp x :: G))) (hF : 1 ≤ F.length) : At L (i + F.length - 1) (i + F.length) x := by
  obtain ⟨h1, h2⟩ := h.right.get 0 (by simp)
  exact ⟨by omega, h1, h2⟩
/-- The lines of a rule come to its end just when its conditions hold. -/
theorem rule_run {L : List S95} (hR : RL L) {a b : Int} {w : List S48} (hc : CallR a b w) {s n : ByteArray} {v0 vq : Int} : ∀ (l : List S50) (j i : Nat), (∀ c ∈ l, CR c) → Fr L i (rlF s n l j ++ [lw 8 v0]) → ∀ q, At L (i + (rlF s n l j).length) q n → (∀ g, Ends L a b w q g vq) → ∀ g, Ends L a b w i g (if l.all (fun c => cH c w) = true then v0 else vq)
  | [], j, i, _, hF, q, hq, hT, g => by
    obtain ⟨h1, h2⟩ := hF.get 0 (by simp [rlF])
    exact e_ret v0 h1 h2
  | c :: l, j, i, hl, hF, q, hq, hT, g => by
    have hc1 := hl c List.mem_cons_self
    have hpos := cLines_pos hc1 (s ++ tN j) ((s ++ (⟨#[110]⟩ : ByteArray)) ++ tN j) n
    simp only [rlF, List.append_assoc, List.cons_append] at hF
    simp only [rlF, List.length_append, List.length_cons] at hq
    have ha := At.snoc hF (by omega)
    have hF1 := hF.left
    have hF2 := hF.right.tail
    refine cond_run hR hc hc1 hF1 ha (hq.le (by omega)) (fun g => ?_) g
    cases hh : cH c w with
    | true =>
      rw [if_pos rfl]
      have := rule_run hR hc l (j + 1) _ (fun x hx => hl x (List.mem_cons_of_mem _ hx)) hF2 q (hq.le (by omega)) hT g
      rw [show (c :: l).all (fun c => cH c w) = l.all (fun c => cH c w) by simp [hh]]
      obtain ⟨h1, h2⟩ := ha.2
      exact e_place _ h1 h2 this
    | false =>
      rw [if_neg (by decide), show (c :: l).all (fun c => cH c w) = false by simp [hh], if_neg (by decide)]
      exact hT g
theorem rl_eq (x : List Int) (l : List S50) (a b : Int) (s n : ByteArray) (hn : l.length ≤ 9) (hs : s.size ≤ 1000000000000000000) {v0 : Int} (hv : spec_ResultOf.f a b = some v0) : Evt (fun k => impl_RuleLines.f k x l a b s n) (rlF s n l 0 ++ [lw 8 v0]) := by
  have key := down (T := fun i => ∀ o : List S95, o.length ≤ 10 * i → Evt (fun k => impl_RuleLines.l0 k s n o l (l.length : Int) (i : Int) x l a b) (o ++ (rlF s n (l.drop i) i ++ [lw 8 v0]))) (n := l.length) ?_ ?_ l.length 0 (by omega) [] (by simp)
  · exact key
  · intro o ho
    refine .succ (.const fun k => ?_)
    simp only [impl_RuleLines.l0, impl_word.f, resI, hv, Option.bind_some]
    rw [if_neg (by omega), if_pos (by omega), List.drop_length]
    rfl
  · intro i hi ih o ho
    obtain ⟨K1, d1⟩ := figI i (by omega)
    have hL := cLines_len l[i].f0 l[i].f1.f0 l[i].f1.f1 l[i].f2 l[i].f3.f0 l[i].f3.f1 (s ++ tN i) ((s ++ (⟨#[110]⟩ : ByteArray)) ++ tN i) n
    have t1 : (tN i).size = 1 := rfl
    have hz : (s ++ tN i).size ≤ 9000000000000000000 := by rw [ByteArray.size_append]; omega
    have hI := fun k => linesI k l[i].f0 l[i].f1.f0 l[i].f1.f1 l[i].f2 l[i].f3.f0 l[i].f3.f1 (s ++ tN i) ((s ++ (⟨#[110]⟩ : ByteArray)) ++ tN i) n hz
    have z1 : (s ++ (⟨#[110]⟩ : ByteArray)).size = s.size + 1 := ByteArray.size_append
    rw [List.drop_eq_getElem_cons hi]
    simp only [rlF, List.append_assoc, List.cons_append]
    generalize cLines l[i].f0 l[i].f1.f0 l[i].f1.f1 l[i].f2 l[i].f3.f0 l[i].f3.f1 (s ++ tN i) ((s ++ (⟨#[110]⟩ : ByteArray)) ++ tN i) n = C at hL hI
    obtain ⟨K2, h2⟩ := ih (o ++ C ++ [lp ((s ++ (⟨#[110]⟩ : ByteArray)) ++ tN i)]) (by simp; omega)
    dsimp only at d1 h2
    refine .succ ⟨K1 + K2 + 1, fun k hk => ?_⟩
    simp only [impl_RuleLines.l0]
    obtain ⟨k, rfl⟩ : ∃ m, k = m + 1 := ⟨k - 1, by omega⟩
    rw [if_pos (by omega), if_pos (by omega), if_pos (by omega), if_pos (by omega), d1 (k + 1) (by omega)]
    simp only [Option.bind_some]
    rw [if_pos (by rw [z1]; omega), if_pos (by omega), nrd_T50 l i hi, hI]
    simp only [Option.bind_some, impl_place.f]
    rw [if_pos (by omega)]
    rw [if_pos (by rw [List.length_append]; omega), wsucc hi (by omega)]
    refine (h2 (k + 1) (by omega)).trans ?_
    simp
/-! Right lines. -/
theorem tl_app (s t : ByteArray) : (s ++ t).toList = s.toList ++ t.toList := by
  simp only [ByteArray.toList_eq, ByteArray.data_append, Array.toList_append]
theorem tN_tl : ∀ i, i < 10 → (tN i).toList = [UInt8.ofNat (48 + i)] := by
  simp only [ByteArray.toList_eq]
  decide
theorem dig_ne : ∀ i, i < 10 → UInt8.ofNat (48 + i) ≠ 110 := by decide
theorem dig_inj : ∀ i, i < 10 → ∀ j, j < 10 → UInt8.ofNat (48 + i) = UInt8.ofNat (48 + j) → i = j := by decide
theorem tl1 (x : UInt8) : (⟨#[x]⟩ : ByteArray).toList = [x] := by rw [ByteArray.toList_eq]
theorem gd_lw {pr post : List S95} {o k : Int} (ho : o = 1 ∨ o = 2 ∨ o = 8) (hk : 0 ≤ k ∧ k ≤ 4294967295) (h1 : o = 1 → k ≤ 7) : Gd pr (lw o k) post := by
  refine .inr ⟨by show ¬ o = 0; omega, emp, rfl, rfl, fun h => absurd (show o = 7 from h) (by omega), ?_, .inr (.inr ⟨by show ¬ o = 7; omega, by show ¬ (3 ≤ o ∧ o ≤ 6); omega, emp, emp⟩)⟩
  show InsP o k 0 0
  unfold InsP
  omega
theorem gd_la {pr post : List S95} {o k : Int} {s t : ByteArray} (ho : 3 ≤ o ∧ o ≤ 6) (hk : 0 ≤ k ∧ k ≤ 4294967295) (h1 : To post s) (h2 : To post t) : Gd pr (la o k s t) post := by
  refine .inr ⟨by show ¬ o = 0; omega, emp, rfl, rfl, fun h => absurd (show o = 7 from h) (by omega), ?_, .inr (.inl ⟨ho, h1, h2⟩)⟩
  show InsP o k 0 0
  unfold InsP
  omega
theorem gd_lp {pr post : List S95} {s : ByteArray} (hs : 1 ≤ s.size ∧ s.size ≤ 12) (hn : ∀ z ∈ pr, z.f1.f0 = 0 → z.f0.toList ≠ s.toList) : Gd pr (lp s) post :=
  .inl ⟨⟨rfl, rfl, rfl, rfl⟩, by show 1 ≤ (s.size : Int) ∧ (s.size : Int) ≤ 12; omega, emp, emp, hn⟩
theorem To.here {post : List S95} {s : ByteArray} (h : lp s ∈ post) : To post s := ⟨lp s, h, rfl, rfl⟩
/-- No place's name begins so. -/
def Fre (pr : List S95) (s : ByteArray) : Prop := ∀ z ∈ pr, z.f1.f0 = 0 → ¬ (s.toList <+: z.f0.toList)
theorem Fre.ne {pr : List S95} {s t : ByteArray} (h : Fre pr s) : ∀ z ∈ pr, z.f1.f0 = 0 → z.f0.toList ≠ (s ++ t).toList := fun z hz h0 e => h z hz h0 (by rw [e, tl_app]; exact List.prefix_append _ _)
theorem not0 {pr : List S95} {x : S95} {Q : S95 → Prop} (h : ∀ z ∈ pr, z.f1.f0 = 0 → Q z) (hx : ¬ x.f1.f0 = 0) : ∀ z ∈ pr ++ [x], z.f1.f0 = 0 → Q z := fun z hz h0 => by
  rcases List.mem_append.1 hz with hz | hz
  · exact h z hz h0
  · rw [List.mem_singleton] at hz
    subst hz
    exact absurd h0 hx
theorem addp {pr : List S95} {x : S95} {Q : S95 → Prop} (h : ∀ z ∈ pr, z.f1.f0 = 0 → Q z) (hx : Q x) : ∀ z ∈ pr ++ [x], z.f1.f0 = 0 → Q z := fun z hz h0 => by
  rcases List.mem_append.1 hz with hz | hz
  · exact h z hz h0
  · rw [List.mem_singleton] at hz
    subst hz
    exact hx
theorem w2a {a : Int} (h : 0 ≤ a ∧ a ≤ 2) : (0 ≤ wrap64 (3 + wrap64 (2 * a)) ∧ wrap64 (3 + wrap64 (2 * a)) ≤ 7) ∧ (0 ≤ wrap64 (2 + wrap64 (2 * a)) ∧ wrap64 (2 + wrap64 (2 * a)) ≤ 7) := by
  unfold wrap64
  omega
theorem same_ok {pr post : List S95} {A B C E F : Int} {s y n : ByteArray} (hA : 0 ≤ A ∧ A ≤ 2) (hB : 0 ≤ B ∧ B ≤ 4294967295) (hC : 0 ≤ C ∧ C ≤ 4294967295) (hE : 0 ≤ E ∧ E ≤ 4294967295) (hF : 0 ≤ F ∧ F ≤ 4294967295) (hs : s.size + 1 ≤ 12) (hf : Fre pr s) (hy : To post y) (hn : To post n) : Ok pr (cSame A B C E F s y n) post := by
  obtain ⟨w1, w2⟩ := w2a hA
  have z1 : (s ++ (⟨#[97]⟩ : ByteArray)).size = s.size + 1 := ByteArray.size_append
  have nh : ∀ p, ∀ z ∈ post, z ∈ p ++ post := fun p z hz => List.mem_append_right _ hz
  refine ⟨gd_lw (.inl rfl) (by omega) (by omega), gd_lw (.inr (.inl rfl)) hB (by omega), gd_la (by omega) hE (.here (by simp)) (hn.mono (nh _)), gd_lp (by omega) ?_, gd_lw (.inl rfl) (by omega) (by omega), gd_lw (.inr (.inl rfl)) hC (by omega), gd_la (by omega) hF hy hn, trivial⟩
  exact not0 (not0 (not0 hf.ne (by show ¬ (1 : Int) = 0; decide)) (by show ¬ (2 : Int) = 0; decide)) (by show ¬ (3 : Int) = 0; decide)
theorem above_ok {pr post : List S95} {A B C E F o : Int} {s y n : ByteArray} (ho : 3 ≤ o ∧ o ≤ 6) (hA : 0 ≤ A ∧ A ≤ 2) (hB : 0 ≤ B ∧ B ≤ 4294967295) (hC : 0 ≤ C ∧ C ≤ 4294967295) (hE : 0 ≤ E ∧ E ≤ 4294967295) (hF : 0 ≤ F ∧ F ≤ 4294967295) (hs : s.size + 1 ≤ 12) (hf : Fre pr s) (hy : To post y) (hn : To post n) : Ok pr (cAbove A B C E F o s y n) post := by
  obtain ⟨w1, w2⟩ := w2a hA
  have z1 : (s ++ (⟨#[97]⟩ : ByteArray)).size = s.size + 1 := ByteArray.size_append
  have z2 : (s ++ (⟨#[98]⟩ : ByteArray)).size = s.size + 1 := ByteArray.size_append
  have nh : ∀ p, ∀ z ∈ post, z ∈ p ++ post := fun p z hz => List.mem_append_right _ hz
  refine ⟨gd_lw (.inl rfl) (by omega) (by omega), gd_lw (.inr (.inl rfl)) hB (by omega), gd_la (by omega) hE (hy.mono (nh _)) (.here (by simp)), gd_lp (by omega) ?_, gd_la (by omega) hE (.here (by simp)) (hn.mono (nh _)), gd_lp (by omega) ?_, gd_lw (.inl rfl) (by omega) (by omega), gd_lw (.inr (.inl rfl)) hC (by omega), gd_la ho hF hy hn, trivial⟩
  · exact not0 (not0 (not0 hf.ne (by show ¬ (1 : Int) = 0; decide)) (by show ¬ (2 : Int) = 0; decide)) (by show ¬ (4 : Int) = 0; decide)
  · refine not0 (addp (not0 (not0 (not0 hf.ne (by show ¬ (1 : Int) = 0; decide)) (by show ¬ (2 : Int) = 0; decide)) (by show ¬ (4 : Int) = 0; decide)) ?_) (by show ¬ (3 : Int) = 0; decide)
    show (s ++ (⟨#[97]⟩ : ByteArray)).toList ≠ (s ++ (⟨#[98]⟩ : ByteArray)).toList
    rw [tl_app, tl_app, tl1, tl1]
    intro e
    have := List.append_cancel_left e
    simp at this
theorem cond_ok {pr post : List S95} {c : S50} (h : CR c) {s y n : ByteArray} (hs : s.size + 1 ≤ 12) (hf : Fre pr s) (hy : To post y) (hn : To post n) : Ok pr (cLines c.f0 c.f1.f0 c.f1.f1 c.f2 c.f3.f0 c.f3.f1 s y n) post := by
  have hin : (0 ≤ c.f0 ∧ c.f0 ≤ 2) ∧ ((0 ≤ c.f1.f0 ∧ c.f1.f0 ≤ 4294967295) ∧ (0 ≤ c.f1.f1 ∧ c.f1.f1 ≤ 4294967295)) ∧ ((0 ≤ c.f3.f0 ∧ c.f3.f0 ≤ 4294967295) ∧ (0 ≤ c.f3.f1 ∧ c.f3.f1 ≤ 4294967295)) ∧ 1 ≤ c.f2 ∧ c.f2 ≤ 6 := h
  obtain ⟨h1, ⟨h2, h3⟩, ⟨h4, h5⟩, h6⟩ := hin
  unfold cLines
  rw [if_pos ⟨h1, ⟨h2, h3⟩, ⟨h4, h5⟩, h6⟩]
  repeat' split
  · exact same_ok h1 h2 h3 h4 h5 hs hf hy hn
  · exact same_ok h1 h2 h3 h4 h5 hs hf hn hy
  · exact above_ok (by omega) h1 h2 h3 h4 h5 hs hf hy hn
  · exact above_ok (by omega) h1 h2 h3 h4 h5 hs hf hy hn
  · exact above_ok (by omega) h1 h2 h3 h4 h5 hs hf hn hy
  · exact above_ok (by omega) h1 h2 h3 h4 h5 hs hf hn hy
theorem cond_lab {c : S50} {s y n : ByteArray} : ∀ z ∈ cLines c.f0 c.f1.f0 c.f1.f1 c.f2 c.f3.f0 c.f3.f1 s y n, z.f1.f0 = 0 → z.f0 = s ++ (⟨#[97]⟩ : ByteArray) ∨ z.f0 = s ++ (⟨#[98]⟩ : ByteArray) := by
  have hS : ∀ (A B C E F : Int) (y n : ByteArray), ∀ z ∈ (cSame A B C E F s y n : List S95), z.f1.f0 = 0 → z.f0 = s ++ (⟨#[97]⟩ : ByteArray) ∨ z.f0 = s ++ (⟨#[98]⟩ : ByteArray) := by
    intro A B C E F y n z hz h0
    simp only [cSame, List.mem_cons, List.not_mem_nil, or_false] at hz
    rcases hz with rfl | rfl | rfl | rfl | rfl | rfl | rfl
    all_goals first | exact .inl rfl | exact absurd h0 (by simp [lw, la])
  have hA : ∀ (A B C E F o : Int) (y n : ByteArray), 3 ≤ o → ∀ z ∈ (cAbove A B C E F o s y n : List S95), z.f1.f0 = 0 → z.f0 = s ++ (⟨#[97]⟩ : ByteArray) ∨ z.f0 = s ++ (⟨#[98]⟩ : ByteArray) := by
    intro A B C E F o y n ho z hz h0
    simp only [cAbove, List.mem_cons, List.not_mem_nil, or_false] at hz
    rcases hz with rfl | rfl | rfl | rfl | rfl | rfl | rfl | rfl | rfl
    all_goals first | exact .inl rfl | exact .inr rfl | exact absurd (show o = 0 from h0) (by omega) | exact absurd h0 (by simp [lw, la])
  unfold cLines
  repeat' split
  · exact hS _ _ _ _ _ _ _
  · exact hS _ _ _ _ _ _ _
  · exact hA _ _ _ _ _ _ _ _ (by omega)
  · exact hA _ _ _ _ _ _ _ _ (by omega)
  · exact hA _ _ _ _ _ _ _ _ (by omega)
  · exact hA _ _ _ _ _ _ _ _ (by omega)
  · intro z hz
    simp at hz
/-- No place's name is one of those to come. -/
def FreJ (pr : List S95) (s : ByteArray) (j : Nat) : Prop := ∀ z ∈ pr, z.f1.f0 = 0 → ∀ m, j ≤ m → m < 10 → ¬ ((s ++ tN m).toList <+: z.f0.toList) ∧ z.f0.toList ≠ ((s ++ (⟨#[110]⟩ : ByteArray)) ++ tN m).toList
theorem Fre.j {pr : List S95} {s : ByteArray} (h : Fre pr s) (j : Nat) : FreJ pr s j := fun z hz h0 m _ _ => ⟨fun hp => h z hz h0 (by rw [tl_app] at hp; exact (List.prefix_append _ _).trans hp), fun e => h z hz h0 (by rw [e, tl_app, tl_app, List.append_assoc]; exact List.prefix_append _ _)⟩
theorem rule_ok {s n : ByteArray} (hs : s.size + 2 ≤ 12) {post : List S95} (hn : To post n) : ∀ (l : List S50) (j : Nat) (pr : List S95), (∀ c ∈ l, CR c) → j + l.length ≤ 10 → FreJ pr s j → Ok pr (rlF s n l j) post
  | [], _, _, _, _, _ => trivial
  | c :: l, j, pr, hl, hj, hf => by
    have hj1 : j < 10 := by simp at hj; omega
    have t1 : (tN j).size = 1 := rfl
    have z1 : (s ++ tN j).size = s.size + 1 := by rw [ByteArray.size_append, t1]
    have z2 : ((s ++ (⟨#[110]⟩ : ByteArray)) ++ tN j).size = s.size + 2 := by rw [ByteArray.size_append, ByteArray.size_append, t1]; rfl
    have lab := cond_lab (c := c) (s := s ++ tN j) (y := (s ++ (⟨#[110]⟩ : ByteArray)) ++ tN j) (n := n)
    have hlab : ∀ z ∈ cLines c.f0 c.f1.f0 c.f1.f1 c.f2 c.f3.f0 c.f3.f1 (s ++ tN j) ((s ++ (⟨#[110]⟩ : ByteArray)) ++ tN j) n, z.f1.f0 = 0 → ∃ u, z.f0.toList = s.toList ++ [UInt8.ofNat (48 + j), u] := fun z hz h0 => by
      rcases lab z hz h0 with e | e
      · exact ⟨97, by rw [e, tl_app, tl_app, tl1, tN_tl j hj1, List.append_assoc]; rfl⟩
      · exact ⟨98, by rw [e, tl_app, tl_app, tl1, tN_tl j hj1, List.append_assoc]; rfl⟩
    simp only [rlF]
    refine Ok.app (cond_ok (hl c List.mem_cons_self) (by omega) (fun z hz h0 => (hf z hz h0 j (Nat.le_refl _) hj1).1) (.here (by simp)) (hn.mono fun z hz => List.mem_append_right _ hz)) ⟨gd_lp (by omega) fun z hz h0 => ?_, rule_ok hs hn l (j + 1) _ (fun x hx => hl x (List.mem_cons_of_mem _ hx)) (by simp at hj; omega) fun z hz h0 m hm hm10 => ?_⟩
    · rcases List.mem_append.1 hz with hz | hz
      · exact (hf z hz h0 j (Nat.le_refl _) hj1).2
      · obtain ⟨u, e⟩ := hlab z hz h0
        rw [e, tl_app, tl_app, tl1, List.append_assoc]
        intro e2
        have e3 := List.append_cancel_left e2
        simp only [List.cons_append, List.nil_append, List.cons.injEq] at e3
        exact dig_ne j hj1 e3.1
    · rcases List.mem_append.1 hz with hz | hz
      · rcases List.mem_append.1 hz with hz | hz
        · exact hf z hz h0 m (by omega) hm10
        · obtain ⟨u, e⟩ := hlab z hz h0
          rw [e, tl_app, tl_app, tl_app, tl1, tN_tl m hm10, List.append_assoc]
          refine ⟨fun hp => ?_, fun e2 => ?_⟩
          · rw [List.prefix_append_right_inj] at hp
            obtain ⟨r, hr⟩ := hp
            simp only [List.cons_append, List.nil_append, List.cons.injEq] at hr
            have := dig_inj m hm10 j hj1 hr.1
            omega
          · have e3 := List.append_cancel_left e2
            simp only [List.cons_append, List.nil_append, List.cons.injEq] at e3
            exact dig_ne j hj1 e3.1
      · rw [List.mem_singleton] at hz
        subst hz
        show ¬ ((s ++ tN m).toList <+: ((s ++ (⟨#[110]⟩ : ByteArray)) ++ tN j).toList) ∧ ((s ++ (⟨#[110]⟩ : ByteArray)) ++ tN j).toList ≠ ((s ++ (⟨#[110]⟩ : ByteArray)) ++ tN m).toList
        simp only [tl_app, tl1, tN_tl m hm10, tN_tl j hj1, List.append_assoc]
        refine ⟨fun hp => ?_, fun e2 => ?_⟩
        · rw [List.prefix_append_right_inj] at hp
          obtain ⟨r, hr⟩ := hp
          simp only [List.cons_append, List.nil_append, List.cons.injEq] at hr
          exact dig_ne m hm10 hr.1
        · have e3 := List.append_cancel_left e2
          simp only [List.cons_append, List.nil_append, List.cons.injEq] at e3
          have := dig_inj j hj1 m hm10 e3.2.1
          omega
/-- All names of a rule's places begin with its own. -/
theorem rule_lab {s n : ByteArray} : ∀ (l : List S50) (j : Nat), ∀ z ∈ rlF s n l j, z.f1.f0 = 0 → s.toList <+: z.f0.toList
  | [], _, z, hz, _ => by simp [rlF] at hz
  | c :: l, j, z, hz, h0 => by
    simp only [rlF, List.mem_append, List.mem_cons] at hz
    rcases hz with hz | hz | hz
    · rcases cond_lab z hz h0 with e | e
      · rw [e, tl_app, tl_app, List.append_assoc]; exact List.prefix_append _ _
      · rw [e, tl_app, tl_app, List.append_assoc]; exact List.prefix_append _ _
    · subst hz
      show s.toList <+: ((s ++ (⟨#[110]⟩ : ByteArray)) ++ tN j).toList
      rw [tl_app, tl_app, List.append_assoc]; exact List.prefix_append _ _
    · exact rule_lab l (j + 1) z hz h0
theorem and255 (x : Int) : 0 ≤ Go.bits .and .i64 x 255 ∧ Go.bits .and .i64 x 255 ≤ 255 := by
  have h : ((BitVec.ofInt IntKind.i64.bits x) &&& (BitVec.ofInt IntKind.i64.bits 255)).toNat ≤ 255 := by
    rw [BitVec.toNat_and]
    exact Nat.le_trans Nat.and_le_right (by decide)
  have e : Go.bits .and .i64 x 255 = IntKind.i64.wrap ((((BitVec.ofInt IntKind.i64.bits x) &&& (BitVec.ofInt IntKind.i64.bits 255)).toNat : Nat) : Int) := rfl
  rw [e, IntKind.wrap_i64]
  omega
theorem byte {s : List Int} (hs : s.length ≤ 1048576) (p e : Int) (hp : 0 ≤ p) : ∃ b p' e', spec_l01Byte.f s p e = some (b, p', e') ∧ (0 ≤ b ∧ b ≤ 255) ∧ 0 ≤ p' := by
  unfold spec_l01Byte.f
  by_cases h : p < (s.length : Int)
  · rw [if_pos h, if_pos hp]
    exact ⟨_, _, _, rfl, and255 _, by rw [w64 (by omega) (by omega)]; omega⟩
  · rw [if_neg h]
    exact ⟨_, _, _, rfl, and255 _, hp⟩
theorem below {s : List Int} (hs : s.length ≤ 1048576) (p e : Int) (hp : 0 ≤ p) (n : Int) (h1 : 1 ≤ n) (h2 : n ≤ 256) : ∃ r p' e', spec_l01Below.f s p e n = some (r, p', e') ∧ (0 ≤ r ∧ r < n) ∧ 0 ≤ p' := by
  obtain ⟨b, p', e', hb, hr, hp'⟩ := byte hs p e hp
  unfold spec_l01Below.f
  rw [if_neg (by omega), if_pos h2, hb]
  simp only [Option.bind_some]
  rw [if_neg (by omega)]
  refine ⟨_, _, _, rfl, ?_, hp'⟩
  rw [Int.tmod_eq_emod_of_nonneg hr.1]
  exact ⟨Int.emod_nonneg _ (by omega), Int.emod_lt_of_pos _ (by omega)⟩
theorem once {s : List Int} (hs : s.length ≤ 1048576) (p e : Int) (hp : 0 ≤ p) (n : Int) (h1 : 1 ≤ n) (h2 : n ≤ 256) : ∃ r p' e', spec_l01Once.f s p e n = some (r, p', e') ∧ 0 ≤ p' := by
  obtain ⟨r, p', e', h, _, hp'⟩ := below hs p e hp n h1 h2
  exact ⟨_, p', e', by unfold spec_l01Once.f; rw [h]; rfl, hp'⟩
theorem pick {s : List Int} (hs : s.length ≤ 1048576) (p e : Int) (hp : 0 ≤ p) (l : List Int) (h1 : 1 ≤ (l.length : Int)) (h2 : (l.length : Int) ≤ 256) : ∃ v p' e', spec_l01PickInt.f s p e l = some (v, p', e') ∧ v ∈ l ∧ 0 ≤ p' := by
  obtain ⟨r, p', e', h, hr, hp'⟩ := below hs p e hp _ h1 h2
  refine ⟨rd l r, p', e', by unfold spec_l01PickInt.f; rw [h]; simp only [Option.bind_some]; rw [if_pos hr.1, if_pos hr.2], ?_, hp'⟩
  obtain ⟨i, rfl⟩ := Int.eq_ofNat_of_zero_le hr.1
  have hi : i < l.length := by omega
  have e : rd l (i : Int) = l[i] := getD_lt _ hi
  rw [e]
  exact List.getElem_mem hi
theorem half {s : List Int} (hs : s.length ≤ 1048576) (p e : Int) (hp : 0 ≤ p) : ∃ v p' e', spec_l04Half.f s p e = some (v, p', e') ∧ (0 ≤ v ∧ v ≤ 4294967295) ∧ 0 ≤ p' := by
  obtain ⟨r, p1, e1, h, hr, hp1⟩ := below hs p e hp 12 (by omega) (by omega)
  obtain ⟨v, p2, e2, g, hv, hp2⟩ := pick hs p1 e1 hp1 [0, 1, 2, 3, 5, 7, 255, 4294967295, 2147483648, r] (by simp) (by simp)
  refine ⟨v, p2, e2, by unfold spec_l04Half.f; rw [h]; simp only [Option.bind_some]; rw [g]; rfl, ?_, hp2⟩
  simp only [List.mem_cons, List.not_mem_nil, or_false] at hv
  omega
theorem wide {s : List Int} (hs : s.length ≤ 1048576) (p e : Int) (hp : 0 ≤ p) : ∃ a b p' e', spec_l04Wide.f s p e = some (a, b, p', e') ∧ ((0 ≤ a ∧ a ≤ 4294967295) ∧ (0 ≤ b ∧ b ≤ 4294967295)) ∧ 0 ≤ p' := by
  obtain ⟨r, p1, e1, h, hr, hp1⟩ := half hs p e hp
  obtain ⟨b, p2, e2, g, hp2⟩ := once hs p1 e1 hp1 3 (by omega) (by omega)
  unfold spec_l04Wide.f
  rw [h]
  simp only [Option.bind_some]
  rw [g]
  simp only [Option.bind_some]
  cases b with
  | true =>
    obtain ⟨q, p3, e3, f, hq, hp3⟩ := half hs p2 e2 hp2
    rw [if_pos rfl, f]
    exact ⟨_, _, _, _, rfl, ⟨hq, hr⟩, hp3⟩
  | false =>
    rw [if_neg (by simp)]
    exact ⟨_, _, _, _, rfl, ⟨by omega, hr⟩, hp2⟩
theorem drawCond {s : List Int} (hs : s.length ≤ 1048576) (p e : Int) (hp : 0 ≤ p) : ∃ a b c d f g p' e', spec_l09Cond.f s p e = some (a, b, c, d, f, g, p', e') ∧ ((0 ≤ a ∧ a ≤ 2) ∧ ((0 ≤ b ∧ b ≤ 4294967295) ∧ (0 ≤ c ∧ c ≤ 4294967295)) ∧ ((0 ≤ f ∧ f ≤ 4294967295) ∧ (0 ≤ g ∧ g ≤ 4294967295)) ∧ 1 ≤ d ∧ d ≤ 6) ∧ 0 ≤ p' := by
  obtain ⟨a, p1, e1, h1, ha, hp1⟩ := below hs p e hp 3 (by omega) (by omega)
  obtain ⟨d, p2, e2, h2, hd, hp2⟩ := below hs p1 e1 hp1 6 (by omega) (by omega)
  obtain ⟨f, g, p3, e3, h3, hf, hp3⟩ := wide hs p2 e2 hp2
  obtain ⟨o, p4, e4, h4, hp4⟩ := once hs p3 e3 hp3 3 (by omega) (by omega)
  have ed : wrap64 (1 + d) = 1 + d := w64 (by omega) (by omega)
  unfold spec_l09Cond.f
  rw [h1]
  simp only [Option.bind_some]
  rw [h2]
  simp only [Option.bind_some]
  rw [h3]
  simp only [Option.bind_some]
  rw [h4]
  simp only [Option.bind_some, ed]
  cases o with
  | true =>
    obtain ⟨b, c, p5, e5, h5, hb, hp5⟩ := wide hs p4 e4 hp4
    rw [if_pos rfl, h5]
    exact ⟨_, _, _, _, _, _, _, _, rfl, ⟨by omega, hb, hf, by omega⟩, hp5⟩
  | false =>
    rw [if_neg (by simp)]
    exact ⟨_, _, _, _, _, _, _, _, rfl, ⟨by omega, ⟨by omega, by omega⟩, hf, by omega⟩, hp4⟩
theorem newC (l : List Int) (hl : l.length ≤ 1048576) : ∃ e, Evt (fun k => spec_l01New.f k l) (l, 0, e) := by
  have key : ∀ (d i : Nat) (e : Int), i + d = l.length → ∃ e', Evt (fun k => spec_l01New.l0 k l e (i : Int)) (l, 0, e') := by
    intro d
    induction d with
    | zero =>
      intro i e h
      exact ⟨e, .succ (.const fun k => by simp only [spec_l01New.l0]; rw [if_neg (by omega)])⟩
    | succ d ih =>
      intro i e h
      by_cases h4 : (i : Int) < 4000
      · obtain ⟨e', K, hK⟩ := ih (i + 1) (Go.bits .and .i64 (wrap64 ((wrap64 ((wrap64 (e * 131)) + (wrap64 (rd l (i : Int))))) + 7)) 1073741823) (by omega)
        refine ⟨e', .succ ⟨K, fun k hk => ?_⟩⟩
        simp only [spec_l01New.l0]
        rw [if_pos (by omega), if_pos h4, if_pos (by omega), wsucc (show i < l.length by omega) (by omega)]
        exact hK k hk
      · exact ⟨e, .succ (.const fun k => by simp only [spec_l01New.l0]; rw [if_pos (by omega), if_neg h4])⟩
  exact key l.length 0 _ (by omega)
/-- A right condition. -/
def CondR (y : S50) : Prop := (0 ≤ y.f0 ∧ y.f0 ≤ 2) ∧ ((0 ≤ y.f1.f0 ∧ y.f1.f0 ≤ 4294967295) ∧ (0 ≤ y.f1.f1 ∧ y.f1.f1 ≤ 4294967295)) ∧ ((0 ≤ y.f3.f0 ∧ y.f3.f0 ≤ 4294967295) ∧ (0 ≤ y.f3.f1 ∧ y.f3.f1 ≤ 4294967295)) ∧ 1 ≤ y.f2 ∧ y.f2 ≤ 6
/-- Numbers that go up, each a half. -/
def NumsR (x : List Int) : Prop := (∀ i (h : i < x.length), 0 ≤ x[i] ∧ x[i] ≤ 4294967295) ∧ ∀ i (h : i + 1 < x.length), x[i] < x[i + 1]
/-- A right rule. -/
def RuleR (x : List Int) (l : List S50) (a b : Int) : Prop := NumsR x ∧ (∀ y ∈ l, CondR y) ∧ x.length ≤ 4 ∧ l.length ≤ 3 ∧ (0 ≤ a ∧ a ≤ 5) ∧ (0 ≤ b ∧ b ≤ 65535)
theorem nums_up {x : List Int} {t v : Int} (h : NumsR x) (ht : ∀ i (hi : i < x.length), x[i] < t) (hv : t ≤ v) (h0 : 0 ≤ v) (h1 : v ≤ 4294967295) : NumsR (x ++ [v]) := by
  refine ⟨fun i hi => ?_, fun i hi => ?_⟩
  · rw [List.getElem_append]
    split
    · exact h.1 i _
    · simp only [List.getElem_singleton]
      exact ⟨h0, h1⟩
  · rw [List.getElem_append, List.getElem_append]
    rw [List.length_append, List.length_singleton] at hi
    have h2 : i < x.length := by omega
    rw [dif_pos h2]
    split
    · rename_i h3
      exact h.2 i h3
    · simp only [List.getElem_singleton]
      have := ht i h2
      omega
theorem madeR_l1 {s : List Int} (hs : s.length ≤ 1048576) (nums : List Int) (a b : Int) : ∀ (d i : Nat) (p e : Int) (l : List S50), i + d = 3 → 0 ≤ p → l.length = i → i ≤ 2 → (∀ y ∈ l, CondR y) → ∃ R p' e', Evt (fun k => spec_l09Made.l1 k (i : Int) s p e nums l a b) (nums, R, a, b, p', e') ∧ R.length ≤ 2 ∧ (∀ y ∈ R, CondR y) ∧ 0 ≤ p' := by
  intro d
  induction d with
  | zero =>
    intro i p e l hi hp hl hi2
    omega
  | succ d ih =>
    intro i p e l hi hp hl hi2 hc
    obtain ⟨r, p1, e1, h1, hr, hp1⟩ := below hs p e hp 3 (by omega) (by omega)
    by_cases hlt : (i : Int) < r
    · obtain ⟨a1, b1, c1, d1, f1, g1, p2, e2, h2, hw, hp2⟩ := drawCond hs p1 e1 hp1
      obtain ⟨R, p', e', ⟨K, h⟩, hR, hcR, hp'⟩ := ih (i + 1) p2 e2 (l ++ [⟨a1, ⟨b1, c1⟩, d1, ⟨f1, g1⟩⟩]) (by omega) hp2 (by simp; omega) (by omega) (fun y hy => by
        rcases List.mem_append.1 hy with hy | hy
        · exact hc y hy
        · rw [List.mem_singleton] at hy
          subst hy
          exact hw)
      refine ⟨R, p', e', .succ ⟨K, fun k hk => ?_⟩, hR, hcR, hp'⟩
      have q := h k hk
      simp only [spec_l09Made.l1, h1, Option.bind_some]
      rw [if_pos hlt]
      simp only [h2, Option.bind_some]
      rw [if_pos (by omega), wsucc (show i < 3 by omega) (by omega)]
      exact q
    · refine ⟨l, p1, e1, .succ (.const fun k => ?_), by omega, hc, hp1⟩
      simp only [spec_l09Made.l1, h1, Option.bind_some]
      rw [if_neg hlt]
theorem madeR_l0 {s : List Int} (hs : s.length ≤ 1048576) (n : Int) (hn : n ≤ 2) (a b : Int) : ∀ (d i : Nat) (t p e : Int) (nums : List Int), i + d = 3 → 0 ≤ p → nums.length = i → NumsR nums → (∀ j (hj : j < nums.length), nums[j] < t) → 0 ≤ t → t ≤ 3 * i → ∃ N R p' e', Evt (fun k => spec_l09Made.l0 k n t (i : Int) s p e nums a b) (N, R, a, b, p', e') ∧ NumsR N ∧ N.length ≤ 3 ∧ R.length ≤ 2 ∧ (∀ y ∈ R, CondR y) ∧ 0 ≤ p' := by
  have fin : ∀ (t p e : Int) (i : Nat) (nums : List Int), ¬ (i : Int) < n → 0 ≤ p → nums.length ≤ 3 → NumsR nums → ∃ N R p' e', Evt (fun k => spec_l09Made.l0 k n t (i : Int) s p e nums a b) (N, R, a, b, p', e') ∧ NumsR N ∧ N.length ≤ 3 ∧ R.length ≤ 2 ∧ (∀ y ∈ R, CondR y) ∧ 0 ≤ p' := fun t p e i nums hi hp hm hN => by
    obtain ⟨R, p', e', ⟨K, h⟩, hR, hc, hp'⟩ := madeR_l1 hs nums a b 3 0 p e [] (by omega) hp rfl (by omega) (fun y hy => by simp at hy)
    refine ⟨nums, R, p', e', .succ ⟨K, fun k hk => ?_⟩, hN, hm, hR, hc, hp'⟩
    have q := h k hk
    simp only [spec_l09Made.l0]
    rw [if_neg hi]
    exact q
  intro d
  induction d with
  | zero =>
    intro i t p e nums hi hp hm hN ht h0 h3
    exact fin t p e i nums (by omega) hp (by omega) hN
  | succ d ih =>
    intro i t p e nums hi hp hm hN ht h0 h3
    by_cases hc : (i : Int) < n
    · obtain ⟨r, p1, e1, h1, hr, hp1⟩ := below hs p e hp 3 (by omega) (by omega)
      have et : Aside0 (wrap64 ((wrap64 (t + 1)) + r) = t + 1 + r) := ⟨by rw [w64 (x := t + 1) (by omega) (by omega), w64 (by omega) (by omega)]⟩
      have ev : Aside0 (wrap64 (t + 1 + r - 1) = t + r) := ⟨by rw [w64 (by omega) (by omega)]; omega⟩
      obtain ⟨N, R, p', e', ⟨K, h⟩, hN'⟩ := ih (i + 1) (t + 1 + r) p1 e1 (nums ++ [t + r]) (by omega) hp1 (by simp; omega) (nums_up hN ht (by omega) (by omega) (by omega)) (fun j hj => by
        rw [List.getElem_append]
        split
        · have := ht j ‹_›
          omega
        · simp only [List.getElem_singleton]
          omega) (by omega) (by omega)
      refine ⟨N, R, p', e', .succ ⟨K, fun k hk => ?_⟩, hN'⟩
      have q := h k hk
      simp only [spec_l09Made.l0]
      rw [if_pos hc]
      simp only [h1, Option.bind_some]
      rw [if_pos (by omega), et.out, ev.out, wsucc (show i < 3 by omega) (by omega)]
      exact q
    · exact fin t p e i nums hc hp (by omega) hN
theorem madeR_j0 {s : List Int} (hs : s.length ≤ 1048576) (p e a b : Int) (hp : 0 ≤ p) : ∃ N R p' e', Evt (fun k => spec_l09Made.j0 k s p e a b) (N, R, a, b, p', e') ∧ NumsR N ∧ N.length ≤ 3 ∧ R.length ≤ 2 ∧ (∀ y ∈ R, CondR y) ∧ 0 ≤ p' := by
  obtain ⟨r, p1, e1, h1, hr, hp1⟩ := below hs p e hp 4 (by omega) (by omega)
  have er : wrap64 (r - 1) = r - 1 := w64 (by omega) (by omega)
  obtain ⟨N, R, p', e', ⟨K, h⟩, hN⟩ := madeR_l0 hs (r - 1) (by omega) a b 3 0 0 p1 e1 [] (by omega) hp1 rfl ⟨fun i hi => absurd hi (by simp), fun i hi => absurd hi (by simp)⟩ (fun j hj => absurd hj (by simp)) (by omega) (by omega)
  refine ⟨N, R, p', e', .succ ⟨K, fun k hk => ?_⟩, hN⟩
  have q := h k hk
  simp only [spec_l09Made.j0, h1, Option.bind_some, er]
  exact q
/-- A drawn rule is right. -/
theorem madeR {s : List Int} (hs : s.length ≤ 1048576) (p e : Int) (hp : 0 ≤ p) : ∃ N R a b p' e', Evt (fun k => spec_l09Made.f k s p e) (N, R, a, b, p', e') ∧ RuleR N R a b ∧ N.length ≤ 3 ∧ R.length ≤ 2 ∧ 0 ≤ p' := by
  obtain ⟨a, p1, e1, h1, ha, hp1⟩ := pick hs p e hp [0, 1, 2, 3, 4, 4, 5] (by simp) (by simp)
  simp only [List.mem_cons, List.not_mem_nil, or_false] at ha
  by_cases h2 : a = 2
  · obtain ⟨b, p2, e2, g1, hb, hp2⟩ := pick hs p1 e1 hp1 [1, 13, 65535] (by simp) (by simp)
    simp only [List.mem_cons, List.not_mem_nil, or_false] at hb
    obtain ⟨N, R, p', e', ⟨K, h⟩, hN, hN3, hR, hc, hp'⟩ := madeR_j0 hs p2 e2 a b hp2
    refine ⟨N, R, a, b, p', e', ⟨K, fun k hk => ?_⟩, ⟨hN, hc, by omega, by omega, by omega, by omega⟩, hN3, hR, hp'⟩
    have q := h k hk
    simp only [spec_l09Made.f, h1, Option.bind_some]
    rw [if_pos h2]
    simp only [g1, Option.bind_some]
    exact q
  · obtain ⟨N, R, p', e', ⟨K, h⟩, hN, hN3, hR, hc, hp'⟩ := madeR_j0 hs p1 e1 a 0 hp1
    refine ⟨N, R, a, 0, p', e', ⟨K, fun k hk => ?_⟩, ⟨hN, hc, by omega, by omega, by omega, by omega⟩, hN3, hR, hp'⟩
    have q := h k hk
    simp only [spec_l09Made.f, h1, Option.bind_some]
    rw [if_neg h2]
    exact q
/-- A drawn call is right. -/
def WideR (y : S48) : Prop := (0 ≤ y.f0 ∧ y.f0 ≤ 4294967295) ∧ (0 ≤ y.f1 ∧ y.f1 ≤ 4294967295)
theorem callR_l0 {s : List Int} (hs : s.length ≤ 1048576) (a b : Int) : ∀ (d i : Nat) (p e : Int) (w : List S48), i + d = 3 → 0 ≤ p → w.length = i → (∀ y ∈ w, WideR y) → ∃ W p' e', Evt (fun k => spec_l04Call.l0 k (i : Int) s p e a b w) (a, b, W, p', e') ∧ W.length = 3 ∧ (∀ y ∈ W, WideR y) ∧ 0 ≤ p' := by
  intro d
  induction d with
  | zero =>
    intro i p e w hi hp hw hc
    refine ⟨w, p, e, .succ (.const fun k => ?_), by omega, hc, hp⟩
    simp only [spec_l04Call.l0]
    rw [if_neg (by omega)]
  | succ d ih =>
    intro i p e w hi hp hw hc
    obtain ⟨x, y, p1, e1, h1, hx, hp1⟩ := wide hs p e hp
    obtain ⟨W, p', e', ⟨K, h⟩, hW⟩ := ih (i + 1) p1 e1 (w ++ [⟨x, y⟩]) (by omega) hp1 (by simp; omega) (fun z hz => by
      rcases List.mem_append.1 hz with hz | hz
      · exact hc z hz
      · rw [List.mem_singleton] at hz
        subst hz
        exact hx)
    refine ⟨W, p', e', .succ ⟨K, fun k hk => ?_⟩, hW⟩
    have q := h k hk
    simp only [spec_l04Call.l0, h1, Option.bind_some]
    rw [if_pos (by omega), if_pos (by omega), wsucc (show i < 3 by omega) (by omega)]
    exact q
theorem callR {s : List Int} (hs : s.length ≤ 1048576) (p e : Int) (hp : 0 ≤ p) : ∃ a b W p' e', Evt (fun k => spec_l04Call.f k s p e) (a, b, W, p', e') ∧ ((0 ≤ a ∧ a ≤ 4294967295) ∧ (0 ≤ b ∧ b ≤ 4294967295) ∧ W.length = 3 ∧ ∀ y ∈ W, WideR y) ∧ 0 ≤ p' := by
  obtain ⟨a, p1, e1, h1, ha, hp1⟩ := pick hs p e hp [62, 62, 62, 62, 3] (by simp) (by simp)
  obtain ⟨b, p2, e2, h2, hb, hp2⟩ := pick hs p1 e1 hp1 [0, 1, 2, 3, 4, 6, 9, 11, 4294967295, 77] (by simp) (by simp)
  simp only [List.mem_cons, List.not_mem_nil, or_false] at ha hb
  obtain ⟨W, p', e', ⟨K, h⟩, hW3, hW, hp'⟩ := callR_l0 hs a b 3 0 p2 e2 [] (by omega) hp2 rfl (fun y hy => by simp at hy)
  refine ⟨a, b, W, p', e', ⟨K, fun k hk => ?_⟩, ⟨by omega, by omega, hW3, hW⟩, hp'⟩
  have q := h k hk
  simp only [spec_l04Call.f, h1, h2, Option.bind_some]
  exact q
theorem and_r (a b : Int) (hb : 0 ≤ b ∧ b ≤ 4294967295) : 0 ≤ Go.bits .and .i64 a b ∧ Go.bits .and .i64 a b ≤ 4294967295 := by
  have h : ((BitVec.ofInt IntKind.i64.bits a) &&& (BitVec.ofInt IntKind.i64.bits b)).toNat ≤ 4294967295 := by
    rw [BitVec.toNat_and]
    refine Nat.le_trans Nat.and_le_right ?_
    obtain ⟨n, rfl⟩ := Int.eq_ofNat_of_zero_le hb.1
    rw [BitVec.ofInt_natCast, BitVec.toNat_ofNat]
    exact Nat.le_trans (Nat.mod_le _ _) (by omega)
  have e : Go.bits .and .i64 a b = IntKind.i64.wrap ((((BitVec.ofInt IntKind.i64.bits a) &&& (BitVec.ofInt IntKind.i64.bits b)).toNat : Nat) : Int) := rfl
  rw [e, IntKind.wrap_i64]
  omega
theorem wandR (a b c d : Int) (hc : 0 ≤ c ∧ c ≤ 4294967295) (hd : 0 ≤ d ∧ d ≤ 4294967295) : ∃ p : Int × Int, spec_WideAnd.f a b c d = some p ∧ True ∧ ((0 ≤ p.1 ∧ p.1 ≤ 4294967295) ∧ (0 ≤ p.2 ∧ p.2 ≤ 4294967295)) := by
  unfold spec_WideAnd.f
  simp only [wideS, Option.bind_some]
  split
  · split
    · exact ⟨_, rfl, trivial, and_r a c hc, and_r b d hd⟩
    · exact ⟨_, rfl, trivial, by simp⟩
  · exact ⟨_, rfl, trivial, by simp⟩
/-- What a right condition tells of a right call. -/
theorem drawCondC (l : List Int) (hl : l.length ≤ 1048576) : ∃ a0 a1 a2 a3 a4 a5 b0 b1 w, Evt (fun k => spec_DrawCond.f k l) (a0, a1, a2, a3, a4, a5, b0, b1, w) ∧ ((0 ≤ a0 ∧ a0 ≤ 2) ∧ ((0 ≤ a1 ∧ a1 ≤ 4294967295) ∧ (0 ≤ a2 ∧ a2 ≤ 4294967295)) ∧ ((0 ≤ a4 ∧ a4 ≤ 4294967295) ∧ (0 ≤ a5 ∧ a5 ≤ 4294967295)) ∧ 1 ≤ a3 ∧ a3 ≤ 6) ∧ (0 ≤ b0 ∧ b0 ≤ 4294967295) ∧ (0 ≤ b1 ∧ b1 ≤ 4294967295) ∧ w.length = 3 ∧ ∀ y ∈ w, WideR y := by
  obtain ⟨e0, K0, h0⟩ := newC l hl
  obtain ⟨a0, a1, a2, a3, a4, a5, p1, e1, h1, hc, hp1⟩ := drawCond hl 0 e0 (by omega)
  obtain ⟨b0, b1, w, p2, e2, ⟨K2, h2⟩, ⟨hb0, hb1, hw, hww⟩, hp2⟩ := callR hl p1 e1 hp1
  obtain ⟨o, p3, e3, h3, _⟩ := once hl p2 e2 hp2 3 (by omega) (by omega)
  dsimp only at h0 h2
  cases o with
  | true =>
    obtain ⟨p, gp, _, gr⟩ := wandR (rd_T48 w a0).f0 (rd_T48 w a0).f1 a1 a2 hc.2.1.1 hc.2.1.2
    refine ⟨a0, a1, a2, a3, p.1, p.2, b0, b1, w, ⟨K0 + K2, fun k hk => ?_⟩, ⟨hc.1, hc.2.1, gr, hc.2.2.2⟩, hb0, hb1, hw, hww⟩
    simp only [spec_DrawCond.f, h0 k (by omega), h1, h2 k (by omega), h3, Option.bind_some, if_true]
    rw [if_pos (by omega), if_pos (by omega), gp]
    rfl
  | false =>
    refine ⟨a0, a1, a2, a3, a4, a5, b0, b1, w, ⟨K0 + K2, fun k hk => ?_⟩, hc, hb0, hb1, hw, hww⟩
    simp only [spec_DrawCond.f, h0 k (by omega), h1, h2 k (by omega), h3, Option.bind_some, Bool.false_eq_true, if_false]
theorem iRL {L : List S95} (hn : L.length ≤ 600) (h : Ok [] L []) : RL L := ⟨hn, (all_iff L (by omega)).2 (iAll_of h), iAll_of h⟩
/-- What few right lines come to is what their words do. -/
theorem prog_run {L : List S95} (hR : RL L) (hn : 3 * L.length ≤ 400) (h8 : ∃ h : L.length - 1 < L.length, L[L.length - 1].f1.f0 = 8) {a b : Int} {w : List S48} (hc : CallR a b w) {v : Int} (hE : Ends L a b w 0 0 v) :
    ∃ R s', Evt (fun k => spec_Layout.f k L) (R, true) ∧ Evt (fun k => spec_Run.f k R a b w) (v, s') := by
  have h1 : 1 ≤ L.length := by obtain ⟨h, _⟩ := h8; omega
  obtain ⟨O, R, hOk, hN, hLd, ⟨K4, h4⟩⟩ := layS L ⟨h1, hR.n⟩ hR.s hR.i h8
  have hlen := laid_len hOk hLd
  have z0 : pre O 0 = 0 := by simp [pre]
  have bd := pre_bound hOk.2.1 L.length (by have := hOk.1; omega)
  have pos : 1 ≤ pre O L.length := by
    obtain ⟨h, e⟩ := h8
    have h' : L.length - 1 < O.length := by have := hOk.1; omega
    have q1 := hOk.2.2.2 (L.length - 1) h' h (by omega)
    rw [if_neg (by omega)] at q1
    have q2 : pre O (L.length - 1 + 1) = pre O (L.length - 1) + O[L.length - 1] := pre_succ h'
    rw [show L.length - 1 + 1 = L.length by omega] at q2
    have q3 := (pre_bound hOk.2.1 (L.length - 1) (by omega)).1
    omega
  have h400 : 1 ≤ R.length ∧ R.length ≤ 400 := by omega
  rw [if_pos h400.2] at h4
  have hP := laid_prog hR.n hR.s hR.i h8 hOk hN hLd h400
  obtain ⟨c, hcs, hci⟩ := chkS R
  have hct : c = true := hci.2 hP
  subst hct
  obtain ⟨ha, hbb, hw3, hw⟩ := hc
  have hcall := callT a b w ha hbb hw3 hw
  obtain ⟨s', K5, h5⟩ := run_laid hR.n hOk hLd h400.2 a b w hE 0
  rw [z0] at h5
  refine ⟨R, s', ⟨K4, h4⟩, K5 + R.length + 10, fun k hk => ?_⟩
  simp only [spec_Run.f, hcs k (by omega), hcall k (by omega), Option.bind_some, if_true, Bool.not_true]
  obtain ⟨k, rfl⟩ : ∃ m, k = m + 1 := ⟨k - 1, by omega⟩
  simp only [spec_Run.j0, Bool.false_eq_true, if_false]
  exact h5 k (by omega)
theorem ruleH_eq (l : List S50) (hl : ∀ c ∈ l, CR c) (hn : l.length ≤ 1000) (x y : Int) {a b : Int} {w : List S48} (hc : CallR a b w) : Evt (fun k => spec_RuleHolds.f k [] l x y a b w) (l.all (fun c => cH c w)) := by
  have key := down (T := fun i => Evt (fun k => spec_RuleHolds.l0 k (i : Int) [] l x y a b w) ((l.drop i).all (fun c => cH c w))) (n := l.length) ?_ ?_ l.length 0 (by omega)
  · obtain ⟨K, h⟩ := key
    refine ⟨K + 1, fun k hk => ?_⟩
    obtain ⟨k, rfl⟩ : ∃ m, k = m + 1 := ⟨k - 1, by omega⟩
    simp only [spec_RuleHolds.f]
    rw [if_neg (by simp)]
    simp only [spec_RuleHolds.j0, Bool.false_eq_true, if_false]
    exact h k (by omega)
  · refine .succ (.const fun k => ?_)
    simp only [spec_RuleHolds.l0]
    rw [if_neg (by omega), List.drop_length]
    rfl
  · intro i hi ⟨K, h⟩
    obtain ⟨K1, h1⟩ := cH_eq (hl l[i] (List.getElem_mem hi)) hc
    dsimp only at h h1
    refine .succ ⟨K + K1, fun k hk => ?_⟩
    simp only [spec_RuleHolds.l0]
    rw [if_pos (by omega), if_pos (by omega), nrd_T50 l i hi, h1 k (by omega), List.drop_eq_getElem_cons hi, List.all_cons]
    simp only [Option.bind_some]
    cases cH l[i] w with
    | true => rw [if_pos rfl, wsucc hi (by omega)]; exact h k (by omega)
    | false => rw [if_neg (by decide)]; rfl
/-- The lines of a condition with an end each way. -/
theorem law1 {c : S50} (h : CR c) {a b : Int} {w : List S48} (hc : CallR a b w) : ∃ R s', Evt (fun k => spec_Layout.f k (cLines c.f0 c.f1.f0 c.f1.f1 c.f2 c.f3.f0 c.f3.f1 (⟨#[120]⟩ : ByteArray) (⟨#[121, 101, 115]⟩ : ByteArray) (⟨#[110, 111]⟩ : ByteArray) ++ [lp (⟨#[121, 101, 115]⟩ : ByteArray), lw 8 1, lp (⟨#[110, 111]⟩ : ByteArray), lw 8 2])) (R, true) ∧ Evt (fun k => spec_Run.f k R a b w) (if cH c w = true then 1 else 2, s') := by
  have hl := cLines_len c.f0 c.f1.f0 c.f1.f1 c.f2 c.f3.f0 c.f3.f1 (⟨#[120]⟩ : ByteArray) (⟨#[121, 101, 115]⟩ : ByteArray) (⟨#[110, 111]⟩ : ByteArray)
  have hl7 := cLines_pos h (⟨#[120]⟩ : ByteArray) (⟨#[121, 101, 115]⟩ : ByteArray) (⟨#[110, 111]⟩ : ByteArray)
  have lab := cond_lab (c := c) (s := (⟨#[120]⟩ : ByteArray)) (y := (⟨#[121, 101, 115]⟩ : ByteArray)) (n := (⟨#[110, 111]⟩ : ByteArray))
  have hO : Ok [] (cLines c.f0 c.f1.f0 c.f1.f1 c.f2 c.f3.f0 c.f3.f1 (⟨#[120]⟩ : ByteArray) (⟨#[121, 101, 115]⟩ : ByteArray) (⟨#[110, 111]⟩ : ByteArray) ++ [lp (⟨#[121, 101, 115]⟩ : ByteArray), lw 8 1, lp (⟨#[110, 111]⟩ : ByteArray), lw 8 2]) [] := by
    have ne : ∀ z ∈ cLines c.f0 c.f1.f0 c.f1.f1 c.f2 c.f3.f0 c.f3.f1 (⟨#[120]⟩ : ByteArray) (⟨#[121, 101, 115]⟩ : ByteArray) (⟨#[110, 111]⟩ : ByteArray), z.f1.f0 = 0 → z.f0.toList ≠ (⟨#[121, 101, 115]⟩ : ByteArray).toList ∧ z.f0.toList ≠ (⟨#[110, 111]⟩ : ByteArray).toList := fun z hz h0 => by
      rcases lab z hz h0 with e | e <;> (rw [e]; simp only [ByteArray.toList_eq]; decide)
    refine Ok.app (cond_ok h (by decide) (fun z hz => absurd hz (by simp)) (.here (by simp)) (.here (by simp))) ⟨gd_lp (by decide) fun z hz h0 => (ne z (by simpa using hz) h0).1, gd_lw (.inr (.inr rfl)) (by decide) (by decide), gd_lp (by decide) ?_, gd_lw (.inr (.inr rfl)) (by decide) (by decide), trivial⟩
    refine not0 (addp (Q := fun z => z.f0.toList ≠ (⟨#[110, 111]⟩ : ByteArray).toList) (fun z hz h0 => (ne z (by simpa using hz) h0).2) ?_) (by show ¬ (8 : Int) = 0; decide)
    show (⟨#[121, 101, 115]⟩ : ByteArray).toList ≠ (⟨#[110, 111]⟩ : ByteArray).toList
    simp only [ByteArray.toList_eq]
    decide
  generalize hC : cLines c.f0 c.f1.f0 c.f1.f1 c.f2 c.f3.f0 c.f3.f1 (⟨#[120]⟩ : ByteArray) (⟨#[121, 101, 115]⟩ : ByteArray) (⟨#[110, 111]⟩ : ByteArray) = C at hl hl7 hO ⊢
  have hR := iRL (by simp only [List.length_append, List.length_cons, List.length_nil]; omega) hO
  have hF : Fr (C ++ [lp (⟨#[121, 101, 115]⟩ : ByteArray), lw 8 1, lp (⟨#[110, 111]⟩ : ByteArray), lw 8 2]) 0 (C ++ [lp (⟨#[121, 101, 115]⟩ : ByteArray), lw 8 1, lp (⟨#[110, 111]⟩ : ByteArray), lw 8 2]) := ⟨[], by simp⟩
  have ha := At.snoc hF (by omega)
  obtain ⟨p1, q1⟩ := hF.right.get 1 (by simp)
  obtain ⟨p2, q2⟩ := hF.right.get 2 (by simp)
  obtain ⟨p3, q3⟩ := hF.right.get 3 (by simp)
  refine prog_run hR (by simp only [List.length_append, List.length_cons, List.length_nil]; omega) ⟨by simp only [List.length_append, List.length_cons, List.length_nil]; omega, ?_⟩ hc (v := if cH c w = true then 1 else 2) ?_
  · have e : (C ++ [lp (⟨#[121, 101, 115]⟩ : ByteArray), lw 8 1, lp (⟨#[110, 111]⟩ : ByteArray), lw 8 2]).length - 1 = 0 + C.length + 3 := by simp only [List.length_append, List.length_cons, List.length_nil]; omega
    simp only [e, q3]
    rfl
  · refine cond_run hR hc h (by rw [hC]; exact hF.left) (p := 0 + C.length) (q := 0 + C.length + 2) (by rw [hC]; exact ha) (by rw [hC]; exact ⟨by omega, p2, q2⟩) (fun g => ?_) 0
    cases cH c w with
    | true =>
      rw [if_pos rfl, if_pos rfl]
      exact e_place _ ha.2.1 ha.2.2 (e_ret 1 p1 q1)
    | false =>
      rw [if_neg (by decide), if_neg (by decide)]
      exact e_place _ p2 q2 (e_ret 2 p3 q3)
theorem law2 {l : List S50} (h : ∀ c ∈ l, CR c) (hn : l.length ≤ 9) (v0 : Int) (hv : 0 ≤ v0 ∧ v0 ≤ 4294967295) {a b : Int} {w : List S48} (hc : CallR a b w) : ∃ R s', Evt (fun k => spec_Layout.f k ((rlF (⟨#[114]⟩ : ByteArray) (⟨#[110, 111]⟩ : ByteArray) l 0 ++ [lw 8 v0]) ++ [lp (⟨#[110, 111]⟩ : ByteArray), lw 8 400000])) (R, true) ∧ Evt (fun k => spec_Run.f k R a b w) (if l.all (fun c => cH c w) = true then v0 else 400000, s') := by
  have hl := rlF_len (⟨#[114]⟩ : ByteArray) (⟨#[110, 111]⟩ : ByteArray) l 0
  have lab := rule_lab (s := (⟨#[114]⟩ : ByteArray)) (n := (⟨#[110, 111]⟩ : ByteArray)) l 0
  have hO : Ok [] ((rlF (⟨#[114]⟩ : ByteArray) (⟨#[110, 111]⟩ : ByteArray) l 0 ++ [lw 8 v0]) ++ [lp (⟨#[110, 111]⟩ : ByteArray), lw 8 400000]) [] := by
    rw [List.append_assoc]
    refine Ok.app (rule_ok (by decide) (.here (by simp)) l 0 [] h (by omega) (fun z hz => absurd hz (by simp))) ⟨gd_lw (.inr (.inr rfl)) hv (fun h => absurd h (by decide)), gd_lp (by decide) ?_, gd_lw (.inr (.inr rfl)) (by decide) (by decide), trivial⟩
    refine not0 (fun z hz h0 e => ?_) (by show ¬ (8 : Int) = 0; decide)
    have := lab z (by simpa using hz) h0
    rw [e] at this
    simp only [ByteArray.toList_eq] at this
    exact absurd this (by decide)
  generalize hC : rlF (⟨#[114]⟩ : ByteArray) (⟨#[110, 111]⟩ : ByteArray) l 0 = C at hl hO ⊢
  have hR := iRL (by simp only [List.length_append, List.length_cons, List.length_nil]; omega) hO
  have hF : Fr ((C ++ [lw 8 v0]) ++ [lp (⟨#[110, 111]⟩ : ByteArray), lw 8 400000]) 0 ((C ++ [lw 8 v0]) ++ [lp (⟨#[110, 111]⟩ : ByteArray), lw 8 400000]) := ⟨[], by simp⟩
  obtain ⟨p1, q1⟩ := hF.right.get 0 (by simp)
  obtain ⟨p2, q2⟩ := hF.right.get 1 (by simp)
  refine prog_run hR (by simp only [List.length_append, List.length_cons, List.length_nil]; omega) ⟨by simp only [List.length_append, List.length_cons, List.length_nil]; omega, ?_⟩ hc (v := if l.all (fun c => cH c w) = true then v0 else 400000) ?_
  · have e : ((C ++ [lw 8 v0]) ++ [lp (⟨#[110, 111]⟩ : ByteArray), lw 8 400000]).length - 1 = 0 + (C ++ [lw 8 v0]).length + 1 := by simp only [List.length_append, List.length_cons, List.length_nil]; omega
    simp only [e, q2]
    rfl
  · exact rule_run hR hc l 0 0 h (by rw [hC]; exact hF.left) (0 + (C ++ [lw 8 v0]).length) (by rw [hC]; exact ⟨by simp, p1, q1⟩) (fun g => e_place _ p1 q1 (e_ret 400000 p2 q2)) 0
theorem main (l : List Int) : ∃ k, laws_FnCondLines.f k l = some true := by
  by_cases hb : (l.length : Int) > 1048576
  · exact ⟨0, by simp only [laws_FnCondLines.f, laws_big.f, Option.bind_some, decide_eq_true hb, if_true]⟩
  have hs : l.length ≤ 1048576 := by omega
  obtain ⟨a0, a1, a2, a3, a4, a5, b0, b1, w, ⟨K1, h1⟩, hc, hb0, hb1, hw3, hw⟩ := drawCondC l hs
  obtain ⟨e0, K0, h0⟩ := newC l hs
  obtain ⟨N, R, x, y, p2, e2, ⟨K2, h2⟩, hRule, _, hR2, hp2⟩ := madeR hs 0 e0 (Int.le_refl _)
  obtain ⟨c0, c1, w2, p3, e3, ⟨K3, h3⟩, ⟨hc0, hc1, hw23, hw2⟩, hp3⟩ := callR hs p2 e2 hp2
  dsimp only at h0 h1 h2 h3
  have dr : ∀ k, K0 + K2 + K3 ≤ k → spec_DrawRule.f k l = some (N, R, x, y, c0, c1, w2) := fun k hk => by
    simp only [spec_DrawRule.f, h0 k (by omega), Option.bind_some, h2 k (by omega), h3 k (by omega)]
  obtain ⟨v0, hv0⟩ : ∃ v0, v0 = 65536 * x + y := ⟨_, rfl⟩
  have hact := hRule.2.2.2.2
  have hres : spec_ResultOf.f x y = some v0 := by
    simp only [spec_ResultOf.f, inS, Option.bind_some, decide_eq_true_eq]
    rw [if_pos (by omega), if_pos (by omega), w64 (x := 65536 * x) (by omega) (by omega), w64 (by omega) (by omega), hv0]
  have call1 : CallR b0 b1 w := ⟨hb0, hb1, hw3, hw⟩
  have call2 : CallR c0 c1 w2 := ⟨hc0, hc1, hw23, hw2⟩
  have cr : CR (⟨a0, ⟨a1, a2⟩, a3, ⟨a4, a5⟩⟩ : S50) := hc
  obtain ⟨P1, s1, ⟨K4, h4⟩, ⟨K5, h5⟩⟩ := law1 cr call1
  obtain ⟨P2, s2, ⟨K6, h6⟩, ⟨K7, h7⟩⟩ := law2 (l := R) hRule.2.1 (by omega) v0 (by omega) call2
  obtain ⟨K8, h8⟩ := cH_eq cr call1
  obtain ⟨K9, h9⟩ := ruleH_eq R hRule.2.1 (by omega) x y call2
  obtain ⟨K10, h10⟩ := rl_eq [] R x y (⟨#[114]⟩ : ByteArray) (⟨#[110, 111]⟩ : ByteArray) (by omega) (by decide) hres
  have h11 := fun k => linesI k a0 a1 a2 a3 a4 a5 (⟨#[120]⟩ : ByteArray) (⟨#[121, 101, 115]⟩ : ByteArray) (⟨#[110, 111]⟩ : ByteArray) (by decide)
  have hl := cLines_len a0 a1 a2 a3 a4 a5 (⟨#[120]⟩ : ByteArray) (⟨#[121, 101, 115]⟩ : ByteArray) (⟨#[110, 111]⟩ : ByteArray)
  have hl2 := rlF_len (⟨#[114]⟩ : ByteArray) (⟨#[110, 111]⟩ : ByteArray) R 0
  dsimp only at h4 h5 h6 h7 h8 h9 h10 h11
  unfold lp lw at h4
  unfold lp at h6
  generalize cLines a0 a1 a2 a3 a4 a5 (⟨#[120]⟩ : ByteArray) (⟨#[121, 101, 115]⟩ : ByteArray) (⟨#[110, 111]⟩ : ByteArray) = C at h4 h11 hl
  generalize rlF (⟨#[114]⟩ : ByteArray) (⟨#[110, 111]⟩ : ByteArray) R 0 = D at h6 h10 hl2
  obtain ⟨k, hk⟩ : ∃ k, k = K0 + K1 + K2 + K3 + K4 + K5 + K6 + K7 + K8 + K9 + K10 := ⟨_, rfl⟩
  refine ⟨k + 1, ?_⟩
  have h6' := h6 (k + 1) (by omega)
  unfold lw at h6'
  have h10' := h10 (k + 1) (by omega)
  unfold lw at h10'
  simp only [laws_FnCondLines.f, laws_big.f, Option.bind_some, decide_eq_false hb, Bool.false_eq_true, if_false, h1 (k + 1) (by omega), h11 k]
  rw [if_pos (by simp only [List.length_cons, List.length_nil]; omega)]
  simp only [h4 (k + 1) (by omega), h5 (k + 1) (by omega), dr (k + 1) (by omega), Option.bind_some, h10']
  rw [if_pos (by simp only [List.length_append, List.length_cons, List.length_nil]; omega)]
  simp only [h6', h7 (k + 1) (by omega), h9 (k + 1) (by omega), hres, h8 (k + 1) (by omega), Option.bind_some, if_true]
  have e1 : ((R.all fun c => cH c w2) != ((if (R.all fun c => cH c w2) = true then v0 else 400000) == v0)) = false := by
    cases R.all fun c => cH c w2 with
    | true => simp
    | false =>
      have : ¬ (400000 : Int) = v0 := by omega
      simp [this]
  rw [e1]
  cases cH (⟨a0, ⟨a1, a2⟩, a3, ⟨a4, a5⟩⟩ : S50) w with
  | true => rfl
  | false => rfl
end Go.Proofs.Ytlgndgjbfjefpaa.PFnCondLines
