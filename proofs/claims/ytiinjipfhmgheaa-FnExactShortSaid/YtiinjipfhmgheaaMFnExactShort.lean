/- The pure law of FnExactShort: what the functions of the program and of the reference come to is the same, for all arguments that the law is asked of. No conditions. -/
import Derived.Test.YtiinjipfhmgheaaPFnExactShorty9
import Derived.Test.YtiinjipfhmgheaaEV
set_option linter.unusedSimpArgs false
set_option linter.unusedVariables false
namespace Go.Proofs.Ytiinjipfhmgheaa.PFnExactShort
open Go Go.RowKit Go.Proofs.YtiinjipfhmgheaaW.PrintWords Go.Proofs.YtiinjipfhmgheaaW.PrintLast Go.Proofs.YtiinjipfhmgheaaW.PK
def conv120 (a : S120) : S118 := ⟨a.f0, a.f1, a.f2, a.f3⟩
theorem rdn120 (l : List S120) (i : Nat) (h : i < l.length) : rd_T120 l (i : Int) = l[i] := getD_lt _ h
theorem rdn118 (l : List S118) (i : Nat) (h : i < l.length) : rd_T118 l (i : Int) = l[i] := getD_lt _ h
theorem toInsS_l0 (x : List S120) (hn : x.length ≤ 4611686018427387904) : ∀ (d i : Nat) (y : List S118), i + d = x.length → y.length = x.length → (∀ j, j < i → y[j]? = (x.map conv120)[j]?) → ∀ k, d < k → laws_toInsS.l0 k x y (i : Int) = some (x.map conv120)
  | 0, i, y, hi, hy, hj, k, hk => by
    obtain ⟨k, rfl⟩ : ∃ m, k = m + 1 := ⟨k - 1, by omega⟩
    simp only [laws_toInsS.l0]
    rw [if_neg (by omega)]
    refine congrArg some (List.ext_getElem? fun j => ?_)
    rcases Nat.lt_or_ge j i with h | h
    · exact hj j h
    · rw [List.getElem?_eq_none (by omega), List.getElem?_eq_none (by rw [List.length_map]; omega)]
  | d + 1, i, y, hi, hy, hj, k, hk => by
    obtain ⟨k, rfl⟩ : ∃ m, k = m + 1 := ⟨k - 1, by omega⟩
    have hlt : i < x.length := by omega
    simp only [laws_toInsS.l0]
    rw [if_pos (by omega), if_pos (by omega), rdn120 x i hlt]
    simp only [laws_toIns.f, Option.bind_some]
    rw [if_pos (by omega), wsucc hlt (by omega), Int.toNat_natCast]
    refine toInsS_l0 x hn d (i + 1) _ (by omega) (by rw [List.length_set]; exact hy) (fun j h => ?_) k (by omega)
    rcases Nat.lt_or_ge j i with h1 | h1
    · rw [List.getElem?_set_ne (by omega)]
      exact hj j h1
    · have : j = i := by omega
      subst this
      rw [List.getElem?_set_self (by omega), List.getElem?_map, List.getElem?_eq_getElem hlt]
      rfl
theorem toInsS (x : List S120) (hn : x.length ≤ 1048576) (k : Nat) (hk : x.length < k) : laws_toInsS.f k x = some (x.map conv120) := by
  unfold laws_toInsS.f
  rw [if_pos (by omega), if_pos (by omega), Int.toNat_natCast]
  exact toInsS_l0 x (by omega) x.length 0 _ (by omega) (by simp) (fun j h => by omega) k hk
theorem eqInsS_l0 (x : List S118) (hn : x.length ≤ 4611686018427387904) : ∀ (d i : Nat), i + d = x.length → ∀ k, d < k → laws_eqInsS.l0 k x x (i : Int) = some true
  | 0, i, hi, k, hk => by
    obtain ⟨k, rfl⟩ : ∃ m, k = m + 1 := ⟨k - 1, by omega⟩
    simp only [laws_eqInsS.l0]
    rw [if_neg (by omega)]
  | d + 1, i, hi, k, hk => by
    obtain ⟨k, rfl⟩ : ∃ m, k = m + 1 := ⟨k - 1, by omega⟩
    have hlt : i < x.length := by omega
    simp only [laws_eqInsS.l0]
    rw [if_pos (by omega), if_pos (by omega), if_pos (by omega), rdn118 x i hlt]
    simp only [laws_eqIns.f, if_true, Option.bind_some]
    rw [wsucc hlt (by omega)]
    exact eqInsS_l0 x hn d (i + 1) (by omega) k (by omega)
theorem eqInsS (x : List S118) (hn : x.length ≤ 4611686018427387904) (k : Nat) (hk : x.length < k) : laws_eqInsS.f k x x = some true := by
  unfold laws_eqInsS.f
  rw [if_pos rfl]
  exact eqInsS_l0 x hn x.length 0 (by omega) k hk
theorem markInsS_l0 : ∀ (d i : Nat) (x : List S118) (q : Int), i + d = x.length → 0 ≤ q → q + 4 * d ≤ 4611686018427387904 → x.length ≤ 4611686018427387904 → ∃ y, (∀ k, d < k → laws_markInsS.l0 k x q (i : Int) = some (q + 4 * d, y)) ∧ y.length = x.length ∧ (∀ j, j < i → y[j]? = x[j]?) ∧ ∀ j, i ≤ j → j < x.length → y[j]? = some ⟨q + 4 * ((j : Int) - i), q + 4 * ((j : Int) - i) + 1, q + 4 * ((j : Int) - i) + 2, q + 4 * ((j : Int) - i) + 3⟩
  | 0, i, x, q, hi, hq, hb, hl => by
    refine ⟨x, fun k hk => ?_, rfl, fun _ _ => rfl, fun j h1 h2 => by omega⟩
    obtain ⟨k, rfl⟩ : ∃ m, k = m + 1 := ⟨k - 1, by omega⟩
    simp only [laws_markInsS.l0]
    rw [if_neg (by omega)]
    simp
  | d + 1, i, x, q, hi, hq, hb, hl => by
    have hlt : i < x.length := by omega
    obtain ⟨y, hy, hyl, hy1, hy2⟩ := markInsS_l0 d (i + 1) (x.set i ⟨q, q + 1, q + 2, q + 3⟩) (q + 4) (by rw [List.length_set]; omega) (by omega) (by omega) (by rw [List.length_set]; exact hl)
    rw [List.length_set] at hyl hy2
    refine ⟨y, fun k hk => ?_, hyl, fun j hj => ?_, fun j h1 h2 => ?_⟩
    · obtain ⟨k, rfl⟩ : ∃ m, k = m + 1 := ⟨k - 1, by omega⟩
      have w1 : wrap64 (q + 1) = q + 1 := w64 (by omega) (by omega)
      have w2 : wrap64 (q + 2) = q + 2 := w64 (by omega) (by omega)
      have w3 : wrap64 (q + 3) = q + 3 := w64 (by omega) (by omega)
      have w4 : wrap64 (q + 4) = q + 4 := w64 (by omega) (by omega)
      simp only [laws_markInsS.l0]
      rw [if_pos (by omega), if_pos (by omega)]
      have rs : ∀ v, rd_T118 (x.set i v) (i : Int) = v := fun v => by rw [rdn118 _ i (by rw [List.length_set]; exact hlt), List.getElem_set_self]
      simp only [Option.bind_some, Int.toNat_natCast, rdn118 _ i hlt, rs, List.set_set]
      simp only [w1, w2, w3, w4, Int.add_assoc, Int.reduceAdd]
      rw [wsucc hlt (by omega)]
      have h3 := hy k (by omega)
      rw [h3]
      refine congrArg some (Prod.ext ?_ rfl)
      show q + 4 + 4 * (d : Int) = q + 4 * ((d + 1 : Nat) : Int)
      omega
    · rw [hy1 j (by omega), List.getElem?_set_ne (by omega)]
    · rcases Nat.lt_or_ge i j with h3 | h3
      · rw [hy2 j (by omega) (by omega)]
        refine congrArg some ?_
        have e : q + 4 + 4 * ((j : Int) - ((i + 1 : Nat) : Int)) = q + 4 * ((j : Int) - i) := by omega
        rw [e]
      · have : i = j := by omega
        subst this
        rw [hy1 i (by omega), List.getElem?_set_self hlt]
        simp
theorem heldInsS_l0 : ∀ (d i : Nat) (x : List S118) (q : Int), i + d = x.length → 0 ≤ q → q + 4 * d ≤ 4611686018427387904 → x.length ≤ 4611686018427387904 → (∀ j, i ≤ j → j < x.length → x[j]? = some ⟨q + 4 * ((j : Int) - i), q + 4 * ((j : Int) - i) + 1, q + 4 * ((j : Int) - i) + 2, q + 4 * ((j : Int) - i) + 3⟩) → ∀ k, d < k → laws_heldInsS.l0 k x q (i : Int) = some (q + 4 * d)
  | 0, i, x, q, hi, hq, hb, hl, hx, k, hk => by
    obtain ⟨k, rfl⟩ : ∃ m, k = m + 1 := ⟨k - 1, by omega⟩
    simp only [laws_heldInsS.l0]
    rw [if_neg (by omega)]
    simp
  | d + 1, i, x, q, hi, hq, hb, hl, hx, k, hk => by
    have hlt : i < x.length := by omega
    obtain ⟨k, rfl⟩ : ∃ m, k = m + 1 := ⟨k - 1, by omega⟩
    have w1 : wrap64 (q + 1) = q + 1 := w64 (by omega) (by omega)
    have w2 : wrap64 (q + 2) = q + 2 := w64 (by omega) (by omega)
    have w3 : wrap64 (q + 3) = q + 3 := w64 (by omega) (by omega)
    have w4 : wrap64 (q + 4) = q + 4 := w64 (by omega) (by omega)
    have h0 := hx i (Nat.le_refl _) hlt
    rw [List.getElem?_eq_getElem hlt] at h0
    have h1 : x[i] = ⟨q, q + 1, q + 2, q + 3⟩ := by have := Option.some.inj h0; simpa using this
    simp only [laws_heldInsS.l0]
    rw [if_pos (by omega), if_pos (by omega), rdn118 _ i hlt, h1]
    simp only [w1, w2, w3, w4, Int.add_assoc, Int.reduceAdd, if_true]
    rw [wsucc hlt (by omega)]
    have h2 := heldInsS_l0 d (i + 1) x (q + 4) (by omega) (by omega) (by omega) hl (fun j h3 h4 => by
      rw [hx j (by omega) h4]
      have e : q + 4 + 4 * ((j : Int) - ((i + 1 : Nat) : Int)) = q + 4 * ((j : Int) - i) := by omega
      rw [e]) k (by omega)
    rw [h2]
    refine congrArg some ?_
    omega
theorem markInsS (x : List S118) (hn : x.length ≤ 140737488355328) : ∃ y q, (∀ k, x.length < k → laws_markInsS.f k x 1 = some (q, y)) ∧ (∀ k, x.length < k → laws_heldInsS.f k y 1 = some q) ∧ 0 ≤ q := by
  obtain ⟨y, hy, hyl, _, hy2⟩ := markInsS_l0 x.length 0 x 1 (by omega) (by omega) (by omega) (by omega)
  refine ⟨y, _, fun k hk => hy k hk, fun k hk => ?_, by omega⟩
  have h := heldInsS_l0 y.length 0 y 1 (by omega) (by omega) (by omega) (by omega) (fun j h1 h2 => hy2 j h1 (by omega)) k (by omega)
  rw [hyl] at h
  exact h

theorem rd_nat118 (l : List S118) (i : Nat) (h : i < l.length) : rd_T118 l (i : Int) = l[i] := getD_lt _ h
theorem inS (a b c : Int) : spec_l01In.f a b c = some (decide (b ≤ a ∧ a ≤ c)) := by
 unfold spec_l01In.f
 by_cases h : a ≥ b
 ·rw [if_pos h]
  exact congrArg some (by rw [Bool.eq_iff_iff]; simp; omega)
 ·rw [if_neg h]
  exact congrArg some (by rw [Bool.eq_iff_iff]; simp; omega)
theorem inI (a b c : Int) : impl_within.f a b c = some (decide (b ≤ a ∧ a ≤ c)) := inS a b c
theorem halfS (a : Int) : spec_HalfOk.f a = some (decide (0 ≤ a ∧ a ≤ 4294967295)) := by
 unfold spec_HalfOk.f
 rw [inS]
 rfl
theorem halfI (a : Int) : impl_HalfOk.f a = some (decide (0 ≤ a ∧ a ≤ 4294967295)) := halfS a
theorem askS (a : Int) : spec_l06Ask.f a = some (decide (3 ≤ a ∧ a ≤ 6)) := by
 unfold spec_l06Ask.f
 rw [inS]
 rfl
theorem askI (a b c d : Int) : impl_Ins_asks.f a b c d = some (decide (3 ≤ a ∧ a ≤ 6)) := askS a
def InsP (a b c d : Int) : Prop := (1 ≤ a ∧ a ≤ 8) ∧ (0 ≤ b ∧ b ≤ 4294967295) ∧ (0 ≤ c ∧ c ≤ 15) ∧ (0 ≤ d ∧ d ≤ 15) ∧ ((3 ≤ a ∧ a ≤ 6) ∨ (c = 0 ∧ d = 0)) ∧ (a = 1 → b < 8) ∧ (a = 7 → b < 400)
instance (a b c d : Int) : Decidable (InsP a b c d) := by unfold InsP; infer_instance
theorem okS (k : Nat) (hk : 2 ≤ k) (a b c d : Int) : spec_InsOk.f k a b c d = some (decide (InsP a b c d)) := by
 obtain ⟨k, rfl⟩ : ∃ m, k = m + 2 := ⟨k - 2, by omega⟩
 have e : ∀ x : Bool, (x = true ↔ InsP a b c d) → some x = some (decide (InsP a b c d)) := fun x h => congrArg some (by rw [Bool.eq_iff_iff, h]; simp)
 unfold spec_InsOk.f
 simp only [inS, halfS, askS, spec_InsOk.j0, spec_InsOk.j1, Option.bind_some, decide_eq_true_eq, Bool.not_eq_true', decide_eq_false_iff_not]
 repeat' split
 all_goals (refine e _ ?_; clear e; unfold InsP; (try simp only [Bool.false_eq_true, bne_iff_ne, ne_eq, decide_eq_true_eq, false_iff, true_iff, Classical.not_not] at *))
 all_goals (first | contradiction | omega)
theorem okI (k : Nat) (hk : 2 ≤ k) (a b c d : Int) : impl_InsOk.f k a b c d = some (decide (InsP a b c d)) := by
 obtain ⟨k, rfl⟩ : ∃ m, k = m + 2 := ⟨k - 2, by omega⟩
 have e : ∀ x : Bool, (x = true ↔ InsP a b c d) → some x = some (decide (InsP a b c d)) := fun x h => congrArg some (by rw [Bool.eq_iff_iff, h]; simp)
 unfold impl_InsOk.f
 simp only [inI, halfI, askI, impl_InsOk.j0, Option.bind_some, decide_eq_true_eq, bne_iff_ne]
 repeat' split
 all_goals (refine e _ ?_; clear e; unfold InsP; (try simp only [Bool.false_eq_true, bne_iff_ne, ne_eq, decide_eq_true_eq, false_iff, true_iff, Classical.not_not] at *))
 all_goals (first | contradiction | omega)
/-- Where a word leads at the farthest. -/
def farP (x : S118) (i : Int) : Int := if 3 ≤ x.f0 ∧ x.f0 ≤ 6 then i + 1 + mx x.f2 x.f3 else if x.f0 = 7 then i + 1 + x.f1 else i
theorem farI (a b c d i : Int) (h : InsP a b c d) (h0 : 0 ≤ i) (h1 : i ≤ 1000) : impl_farthest.f a b c d i = some (farP ⟨a, b, c, d⟩ i) := by
 unfold InsP at h
 unfold impl_farthest.f farP
 simp only [askI, Option.bind_some, decide_eq_true_eq]
 split
 ·have e1 : wrap64 (i + 1) = i + 1 := w64 (by omega) (by omega)
  have e2 : wrap64 (i + 1 + mx c d) = i + 1 + mx c d := w64 (by unfold mx; split <;> omega) (by unfold mx; split <;> omega)
  rw [e1, e2]
 ·split
  ·have e1 : wrap64 (i + 1) = i + 1 := w64 (by omega) (by omega)
   have e2 : wrap64 (i + 1 + b) = i + 1 + b := w64 (by omega) (by omega)
   rw [e1, e2]
  ·rfl
/-- A right word at a place, that leads inside. -/
def AtP (l : List S118) (j : Nat) (h : j < l.length) : Prop := InsP l[j].f0 l[j].f1 l[j].f2 l[j].f3 ∧ farP l[j] j < l.length
/-- A right program. -/
def ProgP (l : List S118) : Prop := (1 ≤ l.length ∧ l.length ≤ 400) ∧ (∀ h : 0 < l.length, (l[l.length - 1]'(by omega)).f0 = 8) ∧ ∀ j (h : j < l.length), AtP l j h
theorem chkI_l0 (l : List S118) (hn : l.length ≤ 400) : ∀ (d i : Nat), i + d = l.length → ∃ b, (∀ k, d + 3 ≤ k → impl_CheckProgram.l0 k (l.length : Int) l (l.length : Int) (i : Int) = some b) ∧ (b = true ↔ ∀ j (h : j < l.length), i ≤ j → AtP l j h)
 | 0, i, hi => by
  refine ⟨true, fun k hk => ?_, by simp; intro j h1 h2; omega⟩
  obtain ⟨k, rfl⟩ : ∃ m, k = m + 1 := ⟨k - 1, by omega⟩
  simp only [impl_CheckProgram.l0]
  rw [if_neg (by omega)]
 | d + 1, i, hi => by
  have hlt : i < l.length := by omega
  obtain ⟨b, hb, hbi⟩ := chkI_l0 l hn d (i + 1) (by omega)
  by_cases hA : AtP l i hlt
  ·refine ⟨b, fun k hk => ?_, ?_⟩
   ·obtain ⟨k, rfl⟩ : ∃ m, k = m + 1 := ⟨k - 1, by omega⟩
    simp only [impl_CheckProgram.l0]
    rw [if_pos (by omega), if_pos (by omega), if_pos (by omega), rd_nat118 l i hlt, okI k (by omega)]
    obtain ⟨h1, h2⟩ := hA
    simp only [Option.bind_some, decide_eq_true_eq]
    rw [if_pos h1, farI _ _ _ _ _ h1 (by omega) (by omega)]
    simp only [Option.bind_some]
    have h3 : ¬ (farP ⟨l[i].f0, l[i].f1, l[i].f2, l[i].f3⟩ (i : Int) ≥ (l.length : Int)) := by have h2' : farP ⟨l[i].f0, l[i].f1, l[i].f2, l[i].f3⟩ (i : Int) < (l.length : Int) := h2; omega
    rw [if_neg h3, wsucc hlt (by omega)]
    exact hb k (by omega)
   ·rw [hbi]
    refine ⟨fun h j hj hij => ?_, fun h j hj hij => h j hj (by omega)⟩
    rcases Nat.lt_or_ge i j with h3 | h3
    ·exact h j hj (by omega)
    ·have : i = j := by omega
     subst this
     exact hA
  ·refine ⟨false, fun k hk => ?_, ?_⟩
   ·obtain ⟨k, rfl⟩ : ∃ m, k = m + 1 := ⟨k - 1, by omega⟩
    simp only [impl_CheckProgram.l0]
    rw [if_pos (by omega), if_pos (by omega), if_pos (by omega), rd_nat118 l i hlt, okI k (by omega)]
    simp only [Option.bind_some, decide_eq_true_eq]
    split
    ·rename_i h1
     rw [farI _ _ _ _ _ h1 (by omega) (by omega)]
     simp only [Option.bind_some]
     have h3 : farP ⟨l[i].f0, l[i].f1, l[i].f2, l[i].f3⟩ (i : Int) ≥ (l.length : Int) := by
      have h4 : ¬ farP l[i] (i : Int) < (l.length : Int) := fun h5 => hA ⟨h1, h5⟩
      have h6 : ¬ farP ⟨l[i].f0, l[i].f1, l[i].f2, l[i].f3⟩ (i : Int) < (l.length : Int) := h4
      omega
     rw [if_pos h3]
    ·rfl
   ·refine ⟨(fun h => by cases h), fun h => absurd (h i hlt (Nat.le_refl _)) hA⟩
theorem chkI (l : List S118) : ∃ b, (∀ k, l.length + 4 ≤ k → impl_CheckProgram.f k l = some b) ∧ (b = true ↔ ProgP l) := by
 by_cases h1 : 1 ≤ l.length ∧ l.length ≤ 400
 ·have e1 : wrap64 ((l.length : Int) - 1) = ((l.length - 1 : Nat) : Int) := by rw [w64 (by omega) (by omega)]; omega
  have hr : rd_T118 l ((l.length - 1 : Nat) : Int) = l[l.length - 1]'(by omega) := rd_nat118 l _ (by omega)
  by_cases h2 : (l[l.length - 1]'(by omega)).f0 = 8
  ·obtain ⟨b, hb, hbi⟩ := chkI_l0 l h1.2 l.length 0 (by omega)
   refine ⟨b, fun k hk => ?_, ?_⟩
   ·obtain ⟨k, rfl⟩ : ∃ m, k = m + 1 := ⟨k - 1, by omega⟩
    unfold impl_CheckProgram.f
    rw [inI]
    simp only [Option.bind_some, decide_eq_true_eq, e1]
    rw [if_pos (by omega), if_pos (by omega), if_pos (by omega), hr, h2]
    simp only [impl_CheckProgram.j0]
    exact hb k (by omega)
   ·rw [hbi]
    exact ⟨fun h => ⟨h1, fun _ => h2, fun j hj => h j hj (by omega)⟩, fun h j hj _ => h.2.2 j hj⟩
  ·refine ⟨false, fun k hk => ?_, ⟨(fun h => by cases h), fun h => absurd (h.2.1 (by omega)) h2⟩⟩
   obtain ⟨k, rfl⟩ : ∃ m, k = m + 1 := ⟨k - 1, by omega⟩
   unfold impl_CheckProgram.f
   rw [inI]
   simp only [Option.bind_some, decide_eq_true_eq, e1]
   rw [if_pos (by omega), if_pos (by omega), if_pos (by omega), hr]
   have h3 : ((l[l.length - 1]'(by omega)).f0 != 8) = true := by simpa using h2
   rw [h3]
   rfl
 ·refine ⟨false, fun k hk => ?_, ⟨(fun h => by cases h), fun h => absurd h.1 h1⟩⟩
  obtain ⟨k, rfl⟩ : ∃ m, k = m + 1 := ⟨k - 1, by omega⟩
  unfold impl_CheckProgram.f
  rw [inI]
  simp only [Option.bind_some, decide_eq_true_eq]
  rw [if_neg (by omega)]
  rfl
/-- The same, as the reference asks it. -/
def AtS (l : List S118) (j : Nat) (h : j < l.length) : Prop := InsP l[j].f0 l[j].f1 l[j].f2 l[j].f3 ∧ (l[j].f0 = 8 ∨ (j : Int) + 1 + (if l[j].f0 = 7 then l[j].f1 else if l[j].f2 > l[j].f3 then l[j].f2 else l[j].f3) < l.length)
theorem l07 (a b c d : Int) : spec_l07Far.f a b c d = some (if a = 7 then b else if c > d then c else d) := by
 unfold spec_l07Far.f
 split
 ·rfl
 ·split <;> rfl
theorem chkS_l0 (l : List S118) (h0 : 0 < l.length) (hn : l.length ≤ 400) : ∀ (d i : Nat), i + d = l.length → ∃ b, (∀ k, d + 3 ≤ k → spec_CheckProgram.l0 k l (i : Int) = some b) ∧ (b = true ↔ (∀ j (h : j < l.length), i ≤ j → AtS l j h) ∧ (l[l.length - 1]'(by omega)).f0 = 8)
 | 0, i, hi => by
  have e1 : wrap64 ((l.length : Int) - 1) = ((l.length - 1 : Nat) : Int) := by rw [w64 (by omega) (by omega)]; omega
  have hr : rd_T118 l ((l.length - 1 : Nat) : Int) = l[l.length - 1]'(by omega) := rd_nat118 l _ (by omega)
  refine ⟨(l[l.length - 1]'(by omega)).f0 == 8, fun k hk => ?_, ?_⟩
  ·obtain ⟨k, rfl⟩ : ∃ m, k = m + 1 := ⟨k - 1, by omega⟩
   simp only [spec_CheckProgram.l0]
   rw [if_neg (by omega), e1, if_pos (by omega), if_pos (by omega), hr]
  ·simp only [beq_iff_eq]
   exact ⟨fun h => ⟨fun j h1 h2 => by omega, h⟩, fun h => h.2⟩
 | d + 1, i, hi => by
  have hlt : i < l.length := by omega
  obtain ⟨b, hb, hbi⟩ := chkS_l0 l h0 hn d (i + 1) (by omega)
  have step : ∀ k, spec_CheckProgram.l0 (k + 1) l (i : Int) = ((spec_InsOk.f k l[i].f0 l[i].f1 l[i].f2 l[i].f3).bind fun t => if t = true then (if l[i].f0 = 8 then spec_CheckProgram.l0 k l ((i + 1 : Nat) : Int) else ((spec_l07Far.f l[i].f0 l[i].f1 l[i].f2 l[i].f3).bind fun u => if wrap64 (((i + 1 : Nat) : Int) + u) ≥ (l.length : Int) then some false else spec_CheckProgram.l0 k l ((i + 1 : Nat) : Int))) else some false) := by
   intro k
   simp only [spec_CheckProgram.l0]
   rw [if_pos (by omega), if_pos (by omega), rd_nat118 l i hlt, wsucc hlt (by omega)]
  by_cases hA : AtS l i hlt
  ·refine ⟨b, fun k hk => ?_, ?_⟩
   ·obtain ⟨k, rfl⟩ : ∃ m, k = m + 1 := ⟨k - 1, by omega⟩
    obtain ⟨h1, h2⟩ := hA
    rw [step, okS k (by omega), l07]
    simp only [Option.bind_some, decide_eq_true_eq]
    rw [if_pos h1]
    split
    ·exact hb k (by omega)
    ·rename_i h8
     have h3 := h2.resolve_left h8
     unfold InsP at h1
     rw [if_neg (by rw [w64 (by split <;> (try split) <;> omega) (by split <;> (try split) <;> omega)]; omega)]
     exact hb k (by omega)
   ·rw [hbi]
    refine ⟨fun h => ⟨fun j hj hij => ?_, h.2⟩, fun h => ⟨fun j hj hij => h.1 j hj (by omega), h.2⟩⟩
    rcases Nat.lt_or_ge i j with h3 | h3
    ·exact h.1 j hj (by omega)
    ·have : i = j := by omega
     subst this
     exact hA
  ·refine ⟨false, fun k hk => ?_, ⟨(fun h => by cases h), fun h => absurd (h.1 i hlt (Nat.le_refl _)) hA⟩⟩
   obtain ⟨k, rfl⟩ : ∃ m, k = m + 1 := ⟨k - 1, by omega⟩
   rw [step, okS k (by omega), l07]
   simp only [Option.bind_some, decide_eq_true_eq]
   split
   ·rename_i h1
    have h8 : ¬ l[i].f0 = 8 := fun h => hA ⟨h1, .inl h⟩
    have h3 : ¬ (i : Int) + 1 + (if l[i].f0 = 7 then l[i].f1 else if l[i].f2 > l[i].f3 then l[i].f2 else l[i].f3) < l.length := fun h => hA ⟨h1, .inr h⟩
    unfold InsP at h1
    rw [if_neg h8, if_pos (by rw [w64 (by split <;> (try split) <;> omega) (by split <;> (try split) <;> omega)]; omega)]
   ·rfl
theorem chkS (l : List S118) : ∃ b, (∀ k, l.length + 4 ≤ k → spec_CheckProgram.f k l = some b) ∧ (b = true ↔ ProgP l) := by
 by_cases h1 : 1 ≤ l.length ∧ l.length ≤ 400
 ·obtain ⟨b, hb, hbi⟩ := chkS_l0 l (by omega) h1.2 l.length 0 (by omega)
  refine ⟨b, fun k hk => ?_, ?_⟩
  ·unfold spec_CheckProgram.f
   rw [inS]
   simp only [Option.bind_some, decide_eq_true_eq]
   rw [if_pos (by omega)]
   exact hb k (by omega)
  ·rw [hbi]
   have key : (l[l.length - 1]'(by omega)).f0 = 8 → ∀ j (h : j < l.length), (AtS l j h ↔ AtP l j h) := by
    intro h8 j hj
    unfold AtS AtP farP
    refine and_congr_right fun hI => ?_
    have hl : j + 1 < l.length ∨ l[j].f0 = 8 := by
     rcases Nat.lt_or_ge (j + 1) l.length with h | h
     ·exact .inl h
     ·have : j = l.length - 1 := by omega
      subst this
      exact .inr h8
    unfold InsP at hI
    unfold mx
    constructor
    · intro h
      split
      · rcases h with h | h
        · omega
        · rw [if_neg (by omega)] at h
          split <;> (split at h <;> omega)
      · split
        · rename_i h7
          rcases h with h | h
          · omega
          · rw [if_pos h7] at h
            omega
        · omega
    · intro h
      rcases hl with hl | hl
      · by_cases h9 : l[j].f0 = 8
        · exact .inl h9
        · right
          by_cases h7 : l[j].f0 = 7
          · rw [if_pos h7]
            rw [if_neg (by omega), if_pos h7] at h
            omega
          · rw [if_neg h7]
            by_cases ha : 3 ≤ l[j].f0 ∧ l[j].f0 ≤ 6
            · rw [if_pos ha] at h
              split <;> (split at h <;> omega)
            · split <;> omega
      · exact .inl hl
   refine ⟨fun h => ⟨h1, fun _ => h.2, fun j hj => (key h.2 j hj).1 (h.1 j hj (by omega))⟩, fun h => ⟨fun j hj _ => (key (h.2.1 (by omega)) j hj).2 (h.2.2 j hj), h.2.1 (by omega)⟩⟩
 ·refine ⟨false, fun k hk => ?_, ⟨(fun h => by cases h), fun h => absurd h.1 h1⟩⟩
  unfold spec_CheckProgram.f
  rw [inS]
  simp only [Option.bind_some, decide_eq_true_eq]
  rw [if_neg (by omega)]
/-- Both come to the same. -/
theorem chk (l : List S118) : ∃ b, (∀ k, l.length + 4 ≤ k → spec_CheckProgram.f k l = some b) ∧ (∀ k, l.length + 4 ≤ k → impl_CheckProgram.f k l = some b) ∧ (b = true ↔ ProgP l) := by
 obtain ⟨b, hb, hbi⟩ := chkS l
 obtain ⟨c, hc, hci⟩ := chkI l
 have : c = b := by rw [Bool.eq_iff_iff, hbi, hci]
 subst this
 exact ⟨c, hb, hc, hbi⟩
theorem szS (l : List S120) : laws_szInsS.f l 1048576 = (some (if (1048576 : Int) - l.length < 0 then (-1 : Int) else (1048576 : Int) - l.length) : Option Int) ∨ 9223372036854775807 < l.length := by
  rcases Nat.lt_or_ge 9223372036854775807 l.length with h | h
  · exact .inr h
  left
  have e1 : wrap64 (1048576 - (l.length : Int)) = 1048576 - (l.length : Int) := w64 (by omega) (by omega)
  unfold laws_szInsS.f
  rw [e1]
  split <;> rfl
theorem thrEq : ∀ (k : Nat) (x : List S118) (i : Int), impl_Threaded.l0 k x i = spec_Threaded.l0 k x i
  | 0, _, _ => rfl
  | k + 1, x, i => by
    simp only [impl_Threaded.l0, spec_Threaded.l0, thrEq k]
theorem thr_l0 (l : List S118) (hn : l.length ≤ 400) (hl : ∀ j (h : j < l.length), AtP l j h) : ∀ (d : Nat) (x : List S118), x.length = l.length → d ≤ l.length → (∀ j, j < d → x[j]? = l[j]?) → ∃ z, z.length = l.length ∧ ∀ k, d < k → spec_Threaded.l0 k x ((d : Int) - 1) = some z
  | 0, x, hx, hd, hj => by
    refine ⟨x, hx, fun k hk => ?_⟩
    obtain ⟨k, rfl⟩ : ∃ m, k = m + 1 := ⟨k - 1, by omega⟩
    simp only [spec_Threaded.l0]
    rw [if_neg (by omega)]
  | d + 1, x, hx, hd, hj => by
    have hlt : d < x.length := by omega
    have hxd : x[d] = l[d]'(by omega) := by
      have := hj d (by omega)
      rw [List.getElem?_eq_getElem hlt, List.getElem?_eq_getElem (by omega)] at this
      exact Option.some.inj this
    have e0 : ((d + 1 : Nat) : Int) - 1 = (d : Int) := by omega
    have e1 : wrap64 ((d : Int) - 1) = (d : Int) - 1 := w64 (by omega) (by omega)
    have e2 : wrap64 ((d : Int) + 1) = (d : Int) + 1 := w64 (by omega) (by omega)
    have hA := hl d (by omega)
    obtain ⟨hA1, hA2⟩ := hA
    unfold InsP at hA1
    have stay := thr_l0 l hn hl d x hx (by omega) (fun j h => hj j (by omega))
    by_cases h7 : (l[d]'(by omega)).f0 = 7
    · unfold farP at hA2
      rw [if_neg (by omega), if_pos h7] at hA2
      have e3 : wrap64 ((d : Int) + 1 + (l[d]'(by omega)).f1) = (d : Int) + 1 + (l[d]'(by omega)).f1 := w64 (by omega) (by omega)
      by_cases h8 : (rd_T118 x ((d : Int) + 1 + (l[d]'(by omega)).f1)).f0 = 8
      · obtain ⟨z, hz, hzk⟩ := thr_l0 l hn hl d (x.set d (rd_T118 x ((d : Int) + 1 + (l[d]'(by omega)).f1))) (by rw [List.length_set]; exact hx) (by omega) (fun j h => by rw [List.getElem?_set_ne (by omega)]; exact hj j (by omega))
        refine ⟨z, hz, fun k hk => ?_⟩
        obtain ⟨k, rfl⟩ : ∃ m, k = m + 1 := ⟨k - 1, by omega⟩
        rw [e0]
        simp only [spec_Threaded.l0]
        rw [if_pos (by omega), if_pos (by omega), if_pos (by omega), rd_nat118 x d hlt, hxd, if_pos h7, e2, e3, if_pos (by omega), if_pos (by omega), if_pos h8, e1, Int.toNat_natCast]
        exact hzk k (by omega)
      · obtain ⟨z, hz, hzk⟩ := stay
        refine ⟨z, hz, fun k hk => ?_⟩
        obtain ⟨k, rfl⟩ : ∃ m, k = m + 1 := ⟨k - 1, by omega⟩
        rw [e0]
        simp only [spec_Threaded.l0]
        rw [if_pos (by omega), if_pos (by omega), if_pos (by omega), rd_nat118 x d hlt, hxd, if_pos h7, e2, e3, if_pos (by omega), if_pos (by omega), if_neg h8, e1]
        exact hzk k (by omega)
    · obtain ⟨z, hz, hzk⟩ := stay
      refine ⟨z, hz, fun k hk => ?_⟩
      obtain ⟨k, rfl⟩ : ∃ m, k = m + 1 := ⟨k - 1, by omega⟩
      rw [e0]
      simp only [spec_Threaded.l0]
      rw [if_pos (by omega), if_pos (by omega), if_pos (by omega), rd_nat118 x d hlt, hxd, if_neg h7, e1]
      exact hzk k (by omega)
theorem thr (l : List S118) (hn : l.length ≤ 1048576) : ∃ z, z.length = l.length ∧ (∀ k, l.length + 4 ≤ k → spec_Threaded.f k l = some z) ∧ (∀ k, l.length + 4 ≤ k → impl_Threaded.f k l = some z) := by
  obtain ⟨b, hS, hI, hb⟩ := chk l
  by_cases hP : ProgP l
  · have hP' := hb.2 hP
    subst hP'
    obtain ⟨z, hz, hk⟩ := thr_l0 l hP.1.2 hP.2.2 l.length l rfl (Nat.le_refl _) (fun _ _ => rfl)
    have e : wrap64 ((l.length : Int) - 1) = (l.length : Int) - 1 := w64 (by omega) (by omega)
    refine ⟨z, hz, fun k h => ?_, fun k h => ?_⟩
    · unfold spec_Threaded.f
      simp only [Option.bind_some, List.nil_append, List.length_nil, hS k h, if_true, e]
      rw [if_pos (by omega)]
      exact hk k (by omega)
    · unfold impl_Threaded.f
      simp only [Option.bind_some, List.nil_append, List.length_nil, hI k h, if_true, e, thrEq]
      rw [if_pos (by omega)]
      exact hk k (by omega)
  · have hb' : b = false := by cases b; rfl; exact absurd (hb.1 rfl) hP
    subst hb'
    refine ⟨l, rfl, fun k h => ?_, fun k h => ?_⟩
    · unfold spec_Threaded.f
      simp only [Option.bind_some, List.nil_append, List.length_nil, hS k h, Bool.false_eq_true, if_false]
      rw [if_pos (by omega)]
    · unfold impl_Threaded.f
      simp only [Option.bind_some, List.nil_append, List.length_nil, hI k h, Bool.false_eq_true, if_false]
      rw [if_pos (by omega)]
theorem InsP.nn {a b c d : Int} (h : InsP a b c d) : (0 ≤ b ∧ b ≤ 4294967295) ∧ (0 ≤ c ∧ c ≤ 4294967295) ∧ 0 ≤ d ∧ d ≤ 4294967295 := by
  unfold InsP at h
  exact ⟨h.2.1, ⟨h.2.2.1.1, Int.le_trans h.2.2.1.2 (by decide)⟩, h.2.2.2.1.1, Int.le_trans h.2.2.2.1.2 (by decide)⟩
theorem InsP.zero {a b c d : Int} (h : InsP a b c d) (hn : ¬ (3 ≤ a ∧ a ≤ 6)) : c = 0 ∧ d = 0 := by
  unfold InsP at h
  exact h.2.2.2.2.1.resolve_left hn
theorem wadd (i : Nat) (b : Int) (hi : i ≤ 400) (h0 : 0 ≤ b) (h1 : b ≤ 4294967295) : wrap64 (((i + 1 : Nat) : Int) + b) = (i : Int) + 1 + b := by unfold wrap64; omega
theorem mxle (c d : Int) : c ≤ mx c d ∧ d ≤ mx c d := by unfold mx; split <;> omega
theorem far_ask {x : S118} {i n : Int} (h : farP x i < n) (ha : 3 ≤ x.f0 ∧ x.f0 ≤ 6) : i + 1 + x.f2 < n ∧ i + 1 + x.f3 < n := by
  unfold farP at h
  rw [if_pos ha] at h
  have := mxle x.f2 x.f3
  omega
theorem far_jump {x : S118} {i n : Int} (h : farP x i < n) (ha : x.f0 = 7) : i + 1 + x.f1 < n := by
  unfold farP at h
  rw [if_neg (by omega), if_pos ha] at h
  exact h
/-- Where one may go from a word. -/
def wys (a b c d i : Int) : List Int := if a = 8 then [] else if a = 7 then [i + 1 + b] else if 3 ≤ a ∧ a ≤ 6 then (if c = d then [i + 1 + c] else [i + 1 + mn c d, i + 1 + mx c d]) else [i + 1]
theorem ways (k : Nat) (a b c d : Int) (i : Nat) (h : InsP a b c d) (hi : i ≤ 400) : impl_ways.f (k + 1) a b c d (i : Int) = some (wys a b c d i) := by
  unfold InsP at h
  have e1 : wrap64 ((i : Int) + 1) = i + 1 := w64 (by omega) (by omega)
  have ec : wrap64 ((i : Int) + 1 + c) = i + 1 + c := w64 (by omega) (by omega)
  unfold impl_ways.f wys
  rw [e1]
  by_cases h8 : a = 8
  · rw [if_pos h8, if_pos h8]
  rw [if_neg h8, if_neg h8]
  by_cases h7 : a = 7
  · have eb : wrap64 ((i : Int) + 1 + b) = i + 1 + b := w64 (by omega) (by omega)
    rw [if_pos h7, if_pos h7, eb]
  rw [if_neg h7, if_neg h7]
  have em : wrap64 ((i : Int) + 1 + mx c d) = i + 1 + mx c d := w64 (by unfold mx; split <;> omega) (by unfold mx; split <;> omega)
  have en : wrap64 ((i : Int) + 1 + mn c d) = i + 1 + mn c d := w64 (by unfold mn; split <;> omega) (by unfold mn; split <;> omega)
  simp only [askI, Option.bind_some, decide_eq_true_eq, impl_ways.j0, e1, em, en, ec]
  by_cases ha : 3 ≤ a ∧ a ≤ 6
  · rw [if_pos ha, if_pos ha, if_pos ha]
    by_cases hc : c = d
    · rw [if_pos hc, if_neg (by simp [hc])]
    · rw [if_neg hc, if_pos (by simpa using hc)]
  · rw [if_neg ha, if_neg ha, if_neg ha, if_neg (by simp)]
theorem wl_0 (k : Nat) (x : List Bool) (l : List S118) (n : Int) (i : Nat) (hi : i ≤ 400) : impl_Reached.l1 (k + 1) x l n (i : Int) [] (([] : List Int).length : Int) 0 = impl_Reached.l0 k x l n ((i + 1 : Nat) : Int) := by
  simp only [impl_Reached.l1]
  rw [if_neg (by simp), wsucc (Nat.lt_succ_self i) (by omega)]
theorem wl_1 (k : Nat) (x : List Bool) (l : List S118) (n : Int) (i : Nat) (hi : i ≤ 400) (v : Int) (h1 : 0 ≤ v) (h2 : v < x.length) : impl_Reached.l1 (k + 2) x l n (i : Int) [v] ([v].length : Int) 0 = impl_Reached.l0 k (x.set v.toNat true) l n ((i + 1 : Nat) : Int) := by
  have r0 : rd [v] 0 = v := rfl
  have w0 : wrap64 (0 + 1) = 1 := w64 (by omega) (by omega)
  simp only [impl_Reached.l1, r0, w0]
  rw [if_pos (by simp), if_pos (by omega), if_pos (by simp), if_pos h1, if_pos h2, if_neg (by simp), wsucc (Nat.lt_succ_self i) (by omega)]
theorem wl_2 (k : Nat) (x : List Bool) (l : List S118) (n : Int) (i : Nat) (hi : i ≤ 400) (v u : Int) (h1 : 0 ≤ v) (h2 : v < x.length) (g1 : 0 ≤ u) (g2 : u < x.length) : impl_Reached.l1 (k + 3) x l n (i : Int) [v, u] ([v, u].length : Int) 0 = impl_Reached.l0 k ((x.set v.toNat true).set u.toNat true) l n ((i + 1 : Nat) : Int) := by
  have r0 : rd [v, u] 0 = v := rfl
  have r1 : rd [v, u] 1 = u := rfl
  have w0 : wrap64 (0 + 1) = 1 := w64 (by omega) (by omega)
  have w1 : wrap64 (1 + 1) = 2 := w64 (by omega) (by omega)
  simp only [impl_Reached.l1, r0, w0, r1, w1, List.length_set]
  rw [if_pos (by simp), if_pos (by omega), if_pos (by simp), if_pos h1, if_pos h2, if_pos (by simp), if_pos (by omega), if_pos (by simp), if_pos g1, if_pos g2, if_neg (by simp), wsucc (Nat.lt_succ_self i) (by omega)]
theorem reach_l0 (l : List S118) (hp : ProgP l) : ∀ x : List Bool, x.length = l.length → ∃ R : List Bool, R.length = l.length ∧ Evt (fun k => spec_Reached.l0 k l x ((0 : Nat) : Int)) R ∧ Evt (fun k => impl_Reached.l0 k x l (l.length : Int) ((0 : Nat) : Int)) R := by
  obtain ⟨⟨n1, n4⟩, h8, hA⟩ := hp
  refine down (T := fun i => ∀ x : List Bool, x.length = l.length → ∃ R : List Bool, R.length = l.length ∧ Evt (fun k => spec_Reached.l0 k l x (i : Int)) R ∧ Evt (fun k => impl_Reached.l0 k x l (l.length : Int) (i : Int)) R) (n := l.length) ?_ ?_ l.length 0 (by omega)
  · intro x hx
    refine ⟨x, hx, .succ (.const fun k => ?_), .succ (.const fun k => ?_)⟩
    · simp only [spec_Reached.l0]
      rw [if_neg (by omega)]
    · simp only [impl_Reached.l0]
      rw [if_neg (by omega)]
  · intro i hi ih x hx
    obtain ⟨hI, hf⟩ := hA i hi
    have h8' : i + 1 = l.length → l[i].f0 = 8 := fun e => by
      have := h8 (by omega)
      have e2 : l.length - 1 = i := by omega
      simpa only [e2] using this
    have hIu := hI.nn
    have ws := wsucc hi (show l.length ≤ 9223372036854775807 by omega)
    by_cases hb : rdOf false x (i : Int) = true
    · have hw := fun k => ways k l[i].f0 l[i].f1 l[i].f2 l[i].f3 i hI (by omega)
      unfold wys at hw
      by_cases c8 : l[i].f0 = 8
      · obtain ⟨R, hR, ⟨K1, h1⟩, ⟨K2, h2⟩⟩ := ih x hx
        dsimp only at h1 h2
        rw [if_pos c8] at hw
        refine ⟨R, hR, ⟨K1 + 2, fun k hk => ?_⟩, ⟨K2 + 5, fun k hk => ?_⟩⟩
        · obtain ⟨k, rfl⟩ : ∃ m, k = m + 2 := ⟨k - 2, by omega⟩
          simp only [spec_Reached.l0, spec_Reached.j1]
          rw [if_pos (by omega), if_pos (by omega), if_pos (by omega), if_pos hb, rd_nat118 l i hi, if_pos (by simp [c8]), ws]
          exact h1 k (by omega)
        · obtain ⟨k, rfl⟩ : ∃ m, k = m + 1 := ⟨k - 1, by omega⟩
          simp only [impl_Reached.l0]
          obtain ⟨k, rfl⟩ : ∃ m, k = m + 2 := ⟨k - 2, by omega⟩
          rw [if_pos (by omega), if_pos (by omega), if_pos (by omega), if_pos (by omega), if_pos hb, rd_nat118 l i hi, hw]
          rw [Option.bind_some, wl_0 (k + 1) x l _ i (by omega)]
          exact h2 (k + 1) (by omega)
      by_cases c7 : l[i].f0 = 7
      · have hj := far_jump hf c7
        obtain ⟨R, hR, ⟨K1, h1⟩, ⟨K2, h2⟩⟩ := ih (x.set ((i : Int) + 1 + l[i].f1).toNat true) (by rw [List.length_set]; exact hx)
        dsimp only at h1 h2
        rw [if_neg c8, if_pos c7] at hw
        have e1 : wrap64 (((i + 1 : Nat) : Int) + l[i].f1) = (i : Int) + 1 + l[i].f1 := wadd i _ (by omega) hIu.1.1 hIu.1.2
        refine ⟨R, hR, ⟨K1 + 2, fun k hk => ?_⟩, ⟨K2 + 5, fun k hk => ?_⟩⟩
        · obtain ⟨k, rfl⟩ : ∃ m, k = m + 2 := ⟨k - 2, by omega⟩
          simp only [spec_Reached.l0, spec_Reached.j1]
          rw [if_pos (by omega), if_pos (by omega), if_pos (by omega), if_pos hb, rd_nat118 l i hi, if_neg (by simp [c7]), if_pos c7, ws, e1, if_pos (by omega), if_pos (by omega)]
          exact h1 k (by omega)
        · obtain ⟨k, rfl⟩ : ∃ m, k = m + 1 := ⟨k - 1, by omega⟩
          simp only [impl_Reached.l0]
          obtain ⟨k, rfl⟩ : ∃ m, k = m + 2 := ⟨k - 2, by omega⟩
          rw [if_pos (by omega), if_pos (by omega), if_pos (by omega), if_pos (by omega), if_pos hb, rd_nat118 l i hi, hw]
          simp only [Option.bind_some]
          rw [wl_1 k x l _ i (by omega) _ (by omega) (by omega)]
          exact h2 k (by omega)
      have hcd : (i : Int) + 1 + l[i].f2 < l.length ∧ (i : Int) + 1 + l[i].f3 < l.length := by
        by_cases ha : 3 ≤ l[i].f0 ∧ l[i].f0 ≤ 6
        · exact far_ask hf ha
        · have : ¬ i + 1 = l.length := fun e => c8 (h8' e)
          have hz := hI.zero ha
          omega
      obtain ⟨R, hR, ⟨K1, h1⟩, ⟨K2, h2⟩⟩ := ih ((x.set ((i : Int) + 1 + l[i].f2).toNat true).set ((i : Int) + 1 + l[i].f3).toNat true) (by rw [List.length_set, List.length_set]; exact hx)
      dsimp only at h1 h2
      rw [if_neg c8, if_neg c7] at hw
      have e2 : wrap64 (((i + 1 : Nat) : Int) + l[i].f2) = (i : Int) + 1 + l[i].f2 := wadd i _ (by omega) hIu.2.1.1 hIu.2.1.2
      have e3 : wrap64 (((i + 1 : Nat) : Int) + l[i].f3) = (i : Int) + 1 + l[i].f3 := wadd i _ (by omega) hIu.2.2.1 hIu.2.2.2
      refine ⟨R, hR, ⟨K1 + 2, fun k hk => ?_⟩, ⟨K2 + 5, fun k hk => ?_⟩⟩
      · obtain ⟨k, rfl⟩ : ∃ m, k = m + 2 := ⟨k - 2, by omega⟩
        simp only [spec_Reached.l0, spec_Reached.j1]
        rw [if_pos (by omega), if_pos (by omega), if_pos (by omega), if_pos hb, rd_nat118 l i hi, if_neg (by simpa using c8), if_neg c7, ws, e2, e3, if_pos (by omega), if_pos (by omega), if_pos (by omega), if_pos (by omega)]
        exact h1 k (by omega)
      · obtain ⟨k, rfl⟩ : ∃ m, k = m + 1 := ⟨k - 1, by omega⟩
        simp only [impl_Reached.l0]
        obtain ⟨k, rfl⟩ : ∃ m, k = m + 4 := ⟨k - 4, by omega⟩
        rw [if_pos (by omega), if_pos (by omega), if_pos (by omega), if_pos (by omega), if_pos hb, rd_nat118 l i hi, hw]
        by_cases ha : 3 ≤ l[i].f0 ∧ l[i].f0 ≤ 6
        · rw [if_pos ha]
          by_cases hc : l[i].f2 = l[i].f3
          · rw [if_pos hc]
            simp only [Option.bind_some]
            rw [← hc, List.set_set] at h2
            rw [wl_1 (k + 2) x l _ i (by omega) _ (by omega) (by omega)]
            exact h2 (k + 2) (by omega)
          · rw [if_neg hc]
            simp only [Option.bind_some]
            by_cases hlt : l[i].f2 < l[i].f3
            · have em : mn l[i].f2 l[i].f3 = l[i].f2 := by unfold mn; split <;> omega
              have ex : mx l[i].f2 l[i].f3 = l[i].f3 := by unfold mx; split <;> omega
              rw [em, ex]
              rw [wl_2 (k + 1) x l _ i (by omega) _ _ (by omega) (by omega) (by omega) (by omega)]
              exact h2 (k + 1) (by omega)
            · have em : mn l[i].f2 l[i].f3 = l[i].f3 := by unfold mn; split <;> omega
              have ex : mx l[i].f2 l[i].f3 = l[i].f2 := by unfold mx; split <;> omega
              rw [em, ex]
              rw [List.set_comm _ _ (show ((i : Int) + 1 + l[i].f2).toNat ≠ ((i : Int) + 1 + l[i].f3).toNat by omega)] at h2
              rw [wl_2 (k + 1) x l _ i (by omega) _ _ (by omega) (by omega) (by omega) (by omega)]
              exact h2 (k + 1) (by omega)
        · rw [if_neg ha]
          simp only [Option.bind_some]
          have c0 : l[i].f2 = 0 := (hI.zero ha).1
          have d0 : l[i].f3 = 0 := (hI.zero ha).2
          rw [c0, d0, List.set_set, Int.add_zero] at h2
          rw [wl_1 (k + 2) x l _ i (by omega) _ (by omega) (by omega)]
          exact h2 (k + 2) (by omega)
    · obtain ⟨R, hR, ⟨K1, h1⟩, ⟨K2, h2⟩⟩ := ih x hx
      dsimp only at h1 h2
      refine ⟨R, hR, ⟨K1 + 2, fun k hk => ?_⟩, ⟨K2 + 1, fun k hk => ?_⟩⟩
      · obtain ⟨k, rfl⟩ : ∃ m, k = m + 2 := ⟨k - 2, by omega⟩
        simp only [spec_Reached.l0, spec_Reached.j1]
        rw [if_pos (by omega), if_pos (by omega), if_pos (by omega), if_neg hb, if_pos trivial, ws]
        exact h1 k (by omega)
      · obtain ⟨k, rfl⟩ : ∃ m, k = m + 1 := ⟨k - 1, by omega⟩
        simp only [impl_Reached.l0]
        rw [if_pos (by omega), if_pos (by omega), if_pos (by omega), if_pos (by omega), if_neg hb, ws]
        exact h2 k (by omega)
theorem reach (l : List S118) (hp : ProgP l) : ∃ R : List Bool, R.length = l.length ∧ Evt (fun k => spec_Reached.f k l) R ∧ Evt (fun k => impl_Reached.f k l) R := by
  obtain ⟨b, hS, hI, hb⟩ := chk l
  have hbt := hb.2 hp
  subst hbt
  have n1 := hp.1
  obtain ⟨R, hR, ⟨K1, h1⟩, ⟨K2, h2⟩⟩ := reach_l0 l hp ((List.replicate l.length false).set 0 true) (by rw [List.length_set, List.length_replicate])
  dsimp only at h1 h2
  refine ⟨R, hR, ⟨K1 + l.length + 4, fun k hk => ?_⟩, ⟨K2 + l.length + 4, fun k hk => ?_⟩⟩
  · simp only [spec_Reached.f, hS k (by omega), Option.bind_some, if_true, Int.toNat_natCast, List.length_replicate]
    rw [if_pos (by omega), if_pos (by omega), if_pos (by omega)]
    exact h1 k (by omega)
  · simp only [impl_Reached.f, hI k (by omega), Option.bind_some, if_true, Int.toNat_natCast, List.length_replicate]
    rw [if_pos (by omega), if_pos (by omega), if_pos (by omega)]
    exact h2 k (by omega)
theorem nrdI (l : List Int) (i : Nat) (h : i < l.length) : rd l (i : Int) = l[i] := getD_lt _ h
theorem trim_l1 (l : List S118) (hp : ProgP l) (R : List Bool) (P : List Int) (hR : R.length = l.length) (hP : P.length = l.length) : ∃ O : List S118, O.length ≤ l.length ∧ Evt (fun k => spec_Trimmed.l1 k l R P [] ((0 : Nat) : Int)) O ∧ Evt (fun k => impl_Trimmed.l1 k R P [] l (l.length : Int) ((0 : Nat) : Int)) O := by
  obtain ⟨⟨n1, n4⟩, h8, hA⟩ := hp
  refine down (T := fun i => ∀ o : List S118, o.length ≤ i → ∃ O : List S118, O.length ≤ l.length ∧ Evt (fun k => spec_Trimmed.l1 k l R P o (i : Int)) O ∧ Evt (fun k => impl_Trimmed.l1 k R P o l (l.length : Int) (i : Int)) O) (n := l.length) ?_ ?_ l.length 0 (by omega) [] (by simp)
  · intro o ho
    refine ⟨o, ho, .succ (.const fun k => ?_), .succ (.const fun k => ?_)⟩
    · simp only [spec_Trimmed.l1]
      rw [if_neg (by omega)]
    · simp only [impl_Trimmed.l1]
      rw [if_neg (by omega)]
  · intro i hi ih o ho
    obtain ⟨hI, hf⟩ := hA i hi
    have hIu := hI.nn
    have ws := wsucc hi (show l.length ≤ 9223372036854775807 by omega)
    by_cases hb : rdOf false R (i : Int) = true
    · by_cases c7 : l[i].f0 = 7
      · have hj := far_jump hf c7
        have e1 : wrap64 (((i + 1 : Nat) : Int) + l[i].f1) = (i : Int) + 1 + l[i].f1 := wadd i _ (by omega) hIu.1.1 hIu.1.2
        have na : ¬ (3 ≤ l[i].f0 ∧ l[i].f0 ≤ 6) := by omega
        obtain ⟨O, hO, ⟨K1, h1⟩, ⟨K2, h2⟩⟩ := ih (o ++ [⟨l[i].f0, wrap64 (wrap64 (rd P ((i : Int) + 1 + l[i].f1) - rd P (i : Int)) - 1), l[i].f2, l[i].f3⟩]) (by simp; omega)
        dsimp only at h1 h2
        refine ⟨O, hO, .succ ⟨K1, fun k hk => ?_⟩, .succ ⟨K2, fun k hk => ?_⟩⟩
        · simp only [spec_Trimmed.l1]
          rw [if_pos (by omega), if_pos (by omega), if_pos (by omega), if_pos hb, rd_nat118 l i hi, if_pos c7, ws, e1, if_pos (by omega), if_pos (by omega), if_pos (by omega)]
          simp only [askS, Option.bind_some, decide_eq_true_eq]
          rw [if_neg na, if_pos (by omega)]
          exact h1 k hk
        · simp only [impl_Trimmed.l1]
          rw [if_pos (by omega), if_pos (by omega), if_pos (by omega), if_pos (by omega), if_pos hb, rd_nat118 l i hi, ws, e1]
          simp only [askI, Option.bind_some, decide_eq_true_eq]
          rw [if_neg na, if_pos c7, if_pos (by omega), if_pos (by omega), if_pos (by omega), if_pos (by omega)]
          exact h2 k hk
      by_cases ha : 3 ≤ l[i].f0 ∧ l[i].f0 ≤ 6
      · have hj := far_ask hf ha
        have e2 : wrap64 (((i + 1 : Nat) : Int) + l[i].f2) = (i : Int) + 1 + l[i].f2 := wadd i _ (by omega) hIu.2.1.1 hIu.2.1.2
        have e3 : wrap64 (((i + 1 : Nat) : Int) + l[i].f3) = (i : Int) + 1 + l[i].f3 := wadd i _ (by omega) hIu.2.2.1 hIu.2.2.2
        obtain ⟨O, hO, ⟨K1, h1⟩, ⟨K2, h2⟩⟩ := ih (o ++ [⟨l[i].f0, l[i].f1, wrap64 (wrap64 (rd P ((i : Int) + 1 + l[i].f2) - rd P (i : Int)) - 1), wrap64 (wrap64 (rd P ((i : Int) + 1 + l[i].f3) - rd P (i : Int)) - 1)⟩]) (by simp; omega)
        dsimp only at h1 h2
        refine ⟨O, hO, .succ ⟨K1, fun k hk => ?_⟩, .succ ⟨K2, fun k hk => ?_⟩⟩
        · simp only [spec_Trimmed.l1]
          rw [if_pos (by omega), if_pos (by omega), if_pos (by omega), if_pos hb, rd_nat118 l i hi, if_neg c7, ws]
          simp only [askS, Option.bind_some, decide_eq_true_eq]
          rw [if_pos ha, e2, e3, if_pos (by omega), if_pos (by omega), if_pos (by omega), if_pos (by omega), if_pos (by omega), if_pos (by omega)]
          exact h1 k hk
        · simp only [impl_Trimmed.l1]
          rw [if_pos (by omega), if_pos (by omega), if_pos (by omega), if_pos (by omega), if_pos hb, rd_nat118 l i hi, ws]
          simp only [askI, Option.bind_some, decide_eq_true_eq]
          rw [if_pos ha, e2, e3, if_pos (by omega), if_pos (by omega), if_pos (by omega), if_pos (by omega), if_pos (by omega), if_pos (by omega)]
          exact h2 k hk
      · obtain ⟨O, hO, ⟨K1, h1⟩, ⟨K2, h2⟩⟩ := ih (o ++ [⟨l[i].f0, l[i].f1, l[i].f2, l[i].f3⟩]) (by simp; omega)
        dsimp only at h1 h2
        refine ⟨O, hO, .succ ⟨K1, fun k hk => ?_⟩, .succ ⟨K2, fun k hk => ?_⟩⟩
        · simp only [spec_Trimmed.l1]
          rw [if_pos (by omega), if_pos (by omega), if_pos (by omega), if_pos hb, rd_nat118 l i hi, if_neg c7, ws]
          simp only [askS, Option.bind_some, decide_eq_true_eq]
          rw [if_neg ha, if_pos (by omega)]
          exact h1 k hk
        · simp only [impl_Trimmed.l1]
          rw [if_pos (by omega), if_pos (by omega), if_pos (by omega), if_pos (by omega), if_pos hb, rd_nat118 l i hi, ws]
          simp only [askI, Option.bind_some, decide_eq_true_eq]
          rw [if_neg ha, if_neg c7, if_pos (by omega)]
          exact h2 k hk
    · obtain ⟨O, hO, ⟨K1, h1⟩, ⟨K2, h2⟩⟩ := ih o (by omega)
      dsimp only at h1 h2
      refine ⟨O, hO, .succ ⟨K1, fun k hk => ?_⟩, .succ ⟨K2, fun k hk => ?_⟩⟩
      · simp only [spec_Trimmed.l1]
        rw [if_pos (by omega), if_pos (by omega), if_pos (by omega), if_neg hb, ws]
        exact h1 k hk
      · simp only [impl_Trimmed.l1]
        rw [if_pos (by omega), if_pos (by omega), if_pos (by omega), if_pos (by omega), if_neg hb, ws]
        exact h2 k hk
theorem trim_l0 (l : List S118) (hp : ProgP l) (R : List Bool) (hR : R.length = l.length) : ∃ O : List S118, O.length ≤ l.length ∧ Evt (fun k => spec_Trimmed.l0 k l R [] 0 ((0 : Nat) : Int)) O ∧ Evt (fun k => impl_Trimmed.l0 k l R (List.replicate l.length 0) 0 (l.length : Int) ((0 : Nat) : Int)) O := by
  have n4 := hp.1.2
  refine down (T := fun i => ∀ (n : Int) (at_ pl : List Int), at_.length = i → pl.length = l.length → pl.take i = at_ → ∃ O : List S118, O.length ≤ l.length ∧ Evt (fun k => spec_Trimmed.l0 k l R at_ n (i : Int)) O ∧ Evt (fun k => impl_Trimmed.l0 k l R pl n (l.length : Int) (i : Int)) O) (n := l.length) ?_ ?_ l.length 0 (by omega) 0 [] _ rfl (by simp) (by simp)
  · intro n at_ pl ha hl he
    have e : pl = at_ := by rw [← he, List.take_of_length_le (by omega)]
    subst e
    obtain ⟨O, hO, ⟨K1, h1⟩, ⟨K2, h2⟩⟩ := trim_l1 l hp R pl hR hl
    dsimp only at h1 h2
    refine ⟨O, hO, .succ ⟨K1, fun k hk => ?_⟩, .succ ⟨K2, fun k hk => ?_⟩⟩
    · simp only [spec_Trimmed.l0]
      rw [if_neg (by omega)]
      exact h1 k hk
    · simp only [impl_Trimmed.l0]
      rw [if_neg (by omega)]
      exact h2 k hk
  · intro i hi ih n at_ pl ha hl he
    have ws := wsucc hi (show l.length ≤ 9223372036854775807 by omega)
    have e : (pl.set i n).take (i + 1) = at_ ++ [n] := by
      rw [List.take_succ_eq_append_getElem (by rw [List.length_set]; omega), take_set, he, List.getElem_set_self]
    by_cases hb : rdOf false R (i : Int) = true
    · obtain ⟨O, hO, ⟨K1, h1⟩, ⟨K2, h2⟩⟩ := ih (wrap64 (n + 1)) (at_ ++ [n]) (pl.set i n) (by simp; omega) (by rw [List.length_set]; exact hl) e
      dsimp only at h1 h2
      refine ⟨O, hO, .succ ⟨K1, fun k hk => ?_⟩, .succ ⟨K2, fun k hk => ?_⟩⟩
      · simp only [spec_Trimmed.l0]
        rw [if_pos (by omega), if_pos (by omega)]
        simp only [Option.bind_some]
        rw [if_pos (by omega), if_pos (by omega), if_pos hb, ws]
        exact h1 k hk
      · simp only [impl_Trimmed.l0]
        rw [if_pos (by omega), if_pos (by omega), if_pos (by omega)]
        simp only [Option.bind_some, Int.toNat_natCast]
        rw [if_pos (by omega), if_pos hb, ws]
        exact h2 k hk
    · obtain ⟨O, hO, ⟨K1, h1⟩, ⟨K2, h2⟩⟩ := ih n (at_ ++ [n]) (pl.set i n) (by simp; omega) (by rw [List.length_set]; exact hl) e
      dsimp only at h1 h2
      refine ⟨O, hO, .succ ⟨K1, fun k hk => ?_⟩, .succ ⟨K2, fun k hk => ?_⟩⟩
      · simp only [spec_Trimmed.l0]
        rw [if_pos (by omega), if_pos (by omega)]
        simp only [Option.bind_some]
        rw [if_pos (by omega), if_pos (by omega), if_neg hb, ws]
        exact h1 k hk
      · simp only [impl_Trimmed.l0]
        rw [if_pos (by omega), if_pos (by omega), if_pos (by omega)]
        simp only [Option.bind_some, Int.toNat_natCast]
        rw [if_pos (by omega), if_neg hb, ws]
        exact h2 k hk
theorem trim (l : List S118) (hn : l.length ≤ 1048576) : ∃ O : List S118, O.length ≤ l.length ∧ Evt (fun k => spec_Trimmed.f k l) O ∧ Evt (fun k => impl_Trimmed.f k l) O := by
  obtain ⟨b, hS, hI, hb⟩ := chk l
  cases b with
  | false =>
    have eC : (if ([] : List S118).length + l.length < 4398046511104 then some (([] : List S118) ++ l) else none) = some l := by rw [if_pos (by simp; omega)]; rfl
    refine ⟨l, Nat.le_refl _, ⟨l.length + 4, fun k hk => ?_⟩, ⟨l.length + 4, fun k hk => ?_⟩⟩
    · simp only [spec_Trimmed.f, hS k hk, Option.bind_some, Bool.false_eq_true, if_false, eC]
    · simp only [impl_Trimmed.f, hI k hk, Option.bind_some, Bool.false_eq_true, if_false, eC]
  | true =>
    have hp := hb.1 rfl
    obtain ⟨R, hR, ⟨K1, h1⟩, ⟨K2, h2⟩⟩ := reach l hp
    obtain ⟨O, hO, ⟨K3, h3⟩, ⟨K4, h4⟩⟩ := trim_l0 l hp R hR
    dsimp only at h1 h2 h3 h4
    refine ⟨O, hO, ⟨K1 + K3 + l.length + 4, fun k hk => ?_⟩, ⟨K2 + K4 + l.length + 4, fun k hk => ?_⟩⟩
    · simp only [spec_Trimmed.f, hS k (by omega), h1 k (by omega), Option.bind_some, if_true]
      exact h3 k (by omega)
    · simp only [impl_Trimmed.f, hI k (by omega), h2 k (by omega), Option.bind_some, if_true, Int.toNat_natCast]
      rw [if_pos (by omega), if_pos (by omega)]
      exact h4 k (by omega)
theorem short (l : List S118) (hn : l.length ≤ 1048576) : ∃ O : List S118, O.length ≤ l.length ∧ Evt (fun k => spec_Short.f k l) O ∧ Evt (fun k => impl_Short.f k l) O := by
  obtain ⟨z, hz, zS, zI⟩ := thr l hn
  obtain ⟨O, hO, ⟨K1, h1⟩, ⟨K2, h2⟩⟩ := trim z (by omega)
  dsimp only at h1 h2
  refine ⟨O, by omega, ⟨K1 + l.length + 4, fun k hk => ?_⟩, ⟨K2 + l.length + 4, fun k hk => ?_⟩⟩
  · simp only [spec_Short.f, zS k (by omega), h1 k (by omega), Option.bind_some]
  · simp only [impl_Short.f, zI k (by omega), h2 k (by omega), Option.bind_some]
theorem main (l0 : List S120) (hm : l0.length ≤ 9223372036854775807) : ∃ k, laws_FnExactShort.f k l0 = some true := by
  have hs := (szS l0).resolve_right (by omega)
  by_cases hn : (1048576 : Int) - l0.length < 0
  · refine ⟨0, ?_⟩
    unfold laws_FnExactShort.f
    rw [hs, if_pos hn]
    rfl
  · rw [if_neg hn] at hs
    have hl : (l0.map conv120).length = l0.length := List.length_map _
    obtain ⟨z, hz, ⟨K1, zS⟩, ⟨K2, zI⟩⟩ := short (l0.map conv120) (by omega)
    dsimp only at zS zI
    obtain ⟨y, q, hy, hh, hq⟩ := markInsS z (by omega)
    obtain ⟨y', q', hy', hh', hq'⟩ := markInsS (l0.map conv120) (by omega)
    have n0 : ¬ (1048576 : Int) - l0.length < 0 := hn
    have n1 : ¬ q < 0 := by omega
    have n2 : ¬ q' < 0 := by omega
    refine ⟨K1 + K2 + l0.length + 10, ?_⟩
    have g1 : K1 ≤ K1 + K2 + l0.length + 10 := by omega
    have g2 : K2 ≤ K1 + K2 + l0.length + 10 := by omega
    have g3 : K2 ≤ K1 + K2 + l0.length + 9 := by omega
    simp only [laws_FnExactShort.f, hs, Option.bind_some, if_neg n0, toInsS l0 (by omega) (K1 + K2 + l0.length + 10) (by omega), zS _ g1, zI _ g2, eqInsS z (by omega) (K1 + K2 + l0.length + 10) (by omega), eqInsS (l0.map conv120) (by omega) (K1 + K2 + l0.length + 10) (by omega), if_true, hy' (K1 + K2 + l0.length + 10) (by omega), if_neg n2]
    simp only [laws_FnExactShort.j0, Bool.not_true, Bool.false_eq_true, if_false]
    simp only [toInsS l0 (by omega) (K1 + K2 + l0.length + 9) (by omega), hy (K1 + K2 + l0.length + 9) (by omega), hh (K1 + K2 + l0.length + 9) (by omega), Option.bind_some, zI _ g3, eqInsS z (by omega) (K1 + K2 + l0.length + 9) (by omega), if_true, if_neg n1]
end Go.Proofs.Ytiinjipfhmgheaa.PFnExactShort
