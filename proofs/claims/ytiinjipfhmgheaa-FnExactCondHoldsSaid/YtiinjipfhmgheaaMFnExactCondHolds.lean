import Derived.Test.YtiinjipfhmgheaaPFnExactCondHoldsy6
import Derived.Test.YtiinjipfhmgheaaPK
namespace Go.Proofs.Ytiinjipfhmgheaa.PFnExactCondHolds
set_option linter.unusedSimpArgs false
set_option linter.unusedVariables false
open Go Go.RowKit Go.Proofs.YtiinjipfhmgheaaW.PrintWords Go.Proofs.YtiinjipfhmgheaaW.PrintLast Go.Proofs.YtiinjipfhmgheaaW.PK
def conv30 (a : S30) : S38 := ⟨a.f0, a.f1⟩
theorem rdn30 (l : List S30) (i : Nat) (h : i < l.length) : rd_T30 l (i : Int) = l[i] := getD_lt _ h
theorem rdn38 (l : List S38) (i : Nat) (h : i < l.length) : rd_T38 l (i : Int) = l[i] := getD_lt _ h
theorem toWideS_l0 (x : List S30) (hn : x.length ≤ 4611686018427387904) : ∀ (d i : Nat) (y : List S38), i + d = x.length → y.length = x.length → (∀ j, j < i → y[j]? = (x.map conv30)[j]?) → ∀ k, d < k → laws_toWideS.l0 k x y (i : Int) = some (x.map conv30)
  | 0, i, y, hi, hy, hj, k, hk => by
    obtain ⟨k, rfl⟩ : ∃ m, k = m + 1 := ⟨k - 1, by omega⟩
    simp only [laws_toWideS.l0]
    rw [if_neg (by omega)]
    refine congrArg some (List.ext_getElem? fun j => ?_)
    rcases Nat.lt_or_ge j i with h | h
    · exact hj j h
    · rw [List.getElem?_eq_none (by omega), List.getElem?_eq_none (by rw [List.length_map]; omega)]
  | d + 1, i, y, hi, hy, hj, k, hk => by
    obtain ⟨k, rfl⟩ : ∃ m, k = m + 1 := ⟨k - 1, by omega⟩
    have hlt : i < x.length := by omega
    simp only [laws_toWideS.l0]
    rw [if_pos (by omega), if_pos (by omega), rdn30 x i hlt]
    simp only [laws_toWide.f, Option.bind_some]
    rw [if_pos (by omega), wsucc hlt (by omega), Int.toNat_natCast]
    refine toWideS_l0 x hn d (i + 1) _ (by omega) (by rw [List.length_set]; exact hy) (fun j h => ?_) k (by omega)
    rcases Nat.lt_or_ge j i with h1 | h1
    · rw [List.getElem?_set_ne (by omega)]
      exact hj j h1
    · have : j = i := by omega
      subst this
      rw [List.getElem?_set_self (by omega), List.getElem?_map, List.getElem?_eq_getElem hlt]
      rfl
theorem toWideS (x : List S30) (hn : x.length ≤ 1048576) (k : Nat) (hk : x.length < k) : laws_toWideS.f k x = some (x.map conv30) := by
  unfold laws_toWideS.f
  rw [if_pos (by omega), if_pos (by omega), Int.toNat_natCast]
  exact toWideS_l0 x (by omega) x.length 0 _ (by omega) (by simp) (fun j h => by omega) k hk
theorem eqWideS_l0 (x : List S38) (hn : x.length ≤ 4611686018427387904) : ∀ (d i : Nat), i + d = x.length → ∀ k, d < k → laws_eqWideS.l0 k x x (i : Int) = some true
  | 0, i, hi, k, hk => by
    obtain ⟨k, rfl⟩ : ∃ m, k = m + 1 := ⟨k - 1, by omega⟩
    simp only [laws_eqWideS.l0]
    rw [if_neg (by omega)]
  | d + 1, i, hi, k, hk => by
    obtain ⟨k, rfl⟩ : ∃ m, k = m + 1 := ⟨k - 1, by omega⟩
    have hlt : i < x.length := by omega
    simp only [laws_eqWideS.l0]
    rw [if_pos (by omega), if_pos (by omega), if_pos (by omega), rdn38 x i hlt]
    simp only [laws_eqWide.f, if_true, Option.bind_some]
    rw [wsucc hlt (by omega)]
    exact eqWideS_l0 x hn d (i + 1) (by omega) k (by omega)
theorem eqWideS (x : List S38) (hn : x.length ≤ 4611686018427387904) (k : Nat) (hk : x.length < k) : laws_eqWideS.f k x x = some true := by
  unfold laws_eqWideS.f
  rw [if_pos rfl]
  exact eqWideS_l0 x hn x.length 0 (by omega) k hk

theorem rd_nat38 (l : List S38) (i : Nat) (h : i < l.length) : rd_T38 l (i : Int) = l[i] := getD_lt _ h
theorem inS (a b c : Int) : spec_l01In.f a b c = some (decide (b ≤ a ∧ a ≤ c)) := by
  unfold spec_l01In.f
  by_cases h : a ≥ b
  · rw [if_pos h]
    exact congrArg some (by rw [Bool.eq_iff_iff]; simp; omega)
  · rw [if_neg h]
    exact congrArg some (by rw [Bool.eq_iff_iff]; simp; omega)
theorem inI (a b c : Int) : impl_within.f a b c = some (decide (b ≤ a ∧ a ≤ c)) := inS a b c
theorem halfS (a : Int) : spec_HalfOk.f a = some (decide (0 ≤ a ∧ a ≤ 4294967295)) := by
  unfold spec_HalfOk.f
  rw [inS]
  rfl
theorem halfI (a : Int) : impl_HalfOk.f a = some (decide (0 ≤ a ∧ a ≤ 4294967295)) := halfS a
theorem wideS (a b : Int) : spec_WideOk.f a b = some (decide ((0 ≤ a ∧ a ≤ 4294967295) ∧ (0 ≤ b ∧ b ≤ 4294967295))) := by
  unfold spec_WideOk.f
  simp only [halfS, Option.bind_some, decide_eq_true_eq]
  split
  · rename_i h
    exact congrArg some (by rw [Bool.eq_iff_iff]; simp [h])
  · rename_i h
    exact congrArg some (by rw [Bool.eq_iff_iff]; simp [h])
theorem wideI (a b : Int) : impl_WideOk.f a b = some (decide ((0 ≤ a ∧ a ≤ 4294967295) ∧ (0 ≤ b ∧ b ≤ 4294967295))) := wideS a b
theorem condS (a b c d e f : Int) : spec_CondOk.f a b c d e f = some (decide ((0 ≤ a ∧ a ≤ 2) ∧ ((0 ≤ b ∧ b ≤ 4294967295) ∧ (0 ≤ c ∧ c ≤ 4294967295)) ∧ ((0 ≤ e ∧ e ≤ 4294967295) ∧ (0 ≤ f ∧ f ≤ 4294967295)) ∧ 1 ≤ d ∧ d ≤ 6)) := by
  unfold spec_CondOk.f
  simp only [inS, wideS, Option.bind_some, decide_eq_true_eq]
  repeat' split
  all_goals (refine congrArg some ?_; rw [Bool.eq_iff_iff]; simp only [Bool.false_eq_true, decide_eq_true_eq, false_iff])
  all_goals omega
theorem condI (a b c d e f : Int) : impl_CondOk.f a b c d e f = some (decide ((0 ≤ a ∧ a ≤ 2) ∧ ((0 ≤ b ∧ b ≤ 4294967295) ∧ (0 ≤ c ∧ c ≤ 4294967295)) ∧ ((0 ≤ e ∧ e ≤ 4294967295) ∧ (0 ≤ f ∧ f ≤ 4294967295)) ∧ 1 ≤ d ∧ d ≤ 6)) := condS a b c d e f
/-- A right call: halves, and three words. -/
theorem call_l0 (a b : Int) (l : List S38) (hn : l.length ≤ 4611686018427387904) : ∀ (d i : Nat), i + d = l.length → ∃ r, (∀ k, d < k → spec_CallOk.l0 k (i : Int) a b l = some r) ∧ (∀ k, d < k → impl_CallOk.l0 k l (l.length : Int) (i : Int) a b l = some r) ∧ (r = true → l.length = 3)
  | 0, i, hi => by
    refine ⟨decide ((0 ≤ a ∧ a ≤ 4294967295) ∧ (0 ≤ b ∧ b ≤ 4294967295) ∧ l.length = 3), fun k hk => ?_, fun k hk => ?_, fun h => (by simp at h; omega)⟩
    · obtain ⟨k, rfl⟩ : ∃ m, k = m + 1 := ⟨k - 1, by omega⟩
      simp only [spec_CallOk.l0]
      rw [if_neg (by omega)]
      simp only [halfS, Option.bind_some, decide_eq_true_eq]
      repeat' split
      all_goals (refine congrArg some ?_; rw [Bool.eq_iff_iff]; simp only [Bool.false_eq_true, decide_eq_true_eq, false_iff, beq_iff_eq])
      all_goals omega
    · obtain ⟨k, rfl⟩ : ∃ m, k = m + 1 := ⟨k - 1, by omega⟩
      simp only [impl_CallOk.l0]
      rw [if_neg (by omega)]
      simp only [halfI, Option.bind_some, decide_eq_true_eq]
      repeat' split
      all_goals (refine congrArg some ?_; rw [Bool.eq_iff_iff]; simp only [Bool.false_eq_true, decide_eq_true_eq, false_iff, beq_iff_eq])
      all_goals omega
  | d + 1, i, hi => by
    have hlt : i < l.length := by omega
    obtain ⟨r, hS, hI, hr⟩ := call_l0 a b l hn d (i + 1) (by omega)
    by_cases hw : (0 ≤ l[i].f0 ∧ l[i].f0 ≤ 4294967295) ∧ (0 ≤ l[i].f1 ∧ l[i].f1 ≤ 4294967295)
    · refine ⟨r, fun k hk => ?_, fun k hk => ?_, hr⟩
      · obtain ⟨k, rfl⟩ : ∃ m, k = m + 1 := ⟨k - 1, by omega⟩
        simp only [spec_CallOk.l0]
        rw [if_pos (by omega), if_pos (by omega), rd_nat38 l i hlt, wsucc hlt (by omega), wideS]
        simp only [Option.bind_some, decide_eq_true_eq]
        rw [if_pos hw]
        exact hS k (by omega)
      · obtain ⟨k, rfl⟩ : ∃ m, k = m + 1 := ⟨k - 1, by omega⟩
        simp only [impl_CallOk.l0]
        rw [if_pos (by omega), if_pos (by omega), if_pos (by omega), rd_nat38 l i hlt, wsucc hlt (by omega), wideI]
        simp only [Option.bind_some, decide_eq_true_eq]
        rw [if_pos hw]
        exact hI k (by omega)
    · refine ⟨false, fun k hk => ?_, fun k hk => ?_, fun h => by cases h⟩
      · obtain ⟨k, rfl⟩ : ∃ m, k = m + 1 := ⟨k - 1, by omega⟩
        simp only [spec_CallOk.l0]
        rw [if_pos (by omega), if_pos (by omega), rd_nat38 l i hlt, wideS]
        simp only [Option.bind_some, decide_eq_true_eq]
        rw [if_neg hw]
      · obtain ⟨k, rfl⟩ : ∃ m, k = m + 1 := ⟨k - 1, by omega⟩
        simp only [impl_CallOk.l0]
        rw [if_pos (by omega), if_pos (by omega), if_pos (by omega), rd_nat38 l i hlt, wideI]
        simp only [Option.bind_some, decide_eq_true_eq]
        rw [if_neg hw]
theorem call (a b : Int) (l : List S38) (hn : l.length ≤ 4611686018427387904) : ∃ r, (∀ k, l.length < k → spec_CallOk.f k a b l = some r) ∧ (∀ k, l.length < k → impl_CallOk.f k a b l = some r) ∧ (r = true → l.length = 3) := call_l0 a b l hn l.length 0 (by omega)
theorem wcmp (a b c d : Int) : ∃ t, spec_WideCmp.f a b c d = some t ∧ impl_WideCmp.f a b c d = some t := by
  unfold spec_WideCmp.f impl_WideCmp.f spec_l04Cmp.f impl_compare.f
  by_cases h1 : a < c
  · exact ⟨-1, by simp [h1], by rw [if_neg (by omega)]; simp [h1]⟩
  · by_cases h2 : a > c
    · exact ⟨1, by simp [h1, h2], by rw [if_neg (by omega)]; simp [h1, h2]⟩
    · have h3 : a = c := by omega
      subst h3
      by_cases h4 : b < d
      · exact ⟨-1, by simp [h4], by simp [h4]⟩
      · by_cases h5 : b > d
        · exact ⟨1, by simp [h4, h5], by simp [h4, h5]⟩
        · exact ⟨0, by simp [h4, h5], by simp [h4, h5]⟩
theorem wand (a b c d : Int) : ∃ p, spec_WideAnd.f a b c d = some p ∧ impl_WideAnd.f a b c d = some p := by
  have e : impl_WideAnd.f a b c d = spec_WideAnd.f a b c d := rfl
  rw [e]
  unfold spec_WideAnd.f
  simp only [wideS, Option.bind_some]
  split
  · split
    · exact ⟨_, rfl, rfl⟩
    · exact ⟨_, rfl, rfl⟩
  · exact ⟨_, rfl, rfl⟩
theorem holds (a0 a1 a2 a3 a4 a5 b0 b1 : Int) (l : List S38) (hn : l.length ≤ 4611686018427387904) : ∃ r, (∀ k, l.length + 1 < k → spec_CondHolds.f k a0 a1 a2 a3 a4 a5 b0 b1 l = some r) ∧ (∀ k, l.length + 1 < k → impl_CondHolds.f k a0 a1 a2 a3 a4 a5 b0 b1 l = some r) := by
  obtain ⟨q, qS, qI, hq⟩ := call b0 b1 l hn
  unfold spec_CondHolds.f impl_CondHolds.f
  simp only [condS, condI, Option.bind_some, decide_eq_true_eq]
  split
  · rename_i hc
    cases q with
    | false =>
      refine ⟨false, fun k hk => ?_, fun k hk => ?_⟩
      · rw [qS k (by omega)]
        obtain ⟨k, rfl⟩ : ∃ m, k = m + 1 := ⟨k - 1, by omega⟩
        simp [spec_CondHolds.j0]
      · rw [qI k (by omega)]
        obtain ⟨k, rfl⟩ : ∃ m, k = m + 1 := ⟨k - 1, by omega⟩
        simp [impl_CondHolds.j0]
    | true =>
      have h3 := hq rfl
      obtain ⟨p, pS, pI⟩ := wand (rd_T38 l a0).f0 (rd_T38 l a0).f1 a1 a2
      obtain ⟨t, tS, tI⟩ := wcmp p.1 p.2 a4 a5
      have key : ∃ r, (if a3 = 1 then (some (t == 0)) else (if a3 = 2 then (some (t != 0)) else (if a3 = 3 then (some (decide (t < 0))) else (if a3 = 4 then (some (decide (t ≤ 0))) else (if a3 = 5 then (some (decide (t > 0))) else (some (decide (t ≥ 0)))))))) = some r := by
        repeat' split
        all_goals exact ⟨_, rfl⟩
      obtain ⟨r, hr⟩ := key
      refine ⟨r, fun k hk => ?_, fun k hk => ?_⟩
      · rw [qS k (by omega)]
        obtain ⟨k, rfl⟩ : ∃ m, k = m + 1 := ⟨k - 1, by omega⟩
        simp only [Option.bind_some, spec_CondHolds.j0, Bool.not_true, Bool.false_eq_true, if_false]
        rw [if_pos (by omega), if_pos (by omega), pS]
        simp only [Option.bind_some]
        rw [tS]
        exact hr
      · rw [qI k (by omega)]
        obtain ⟨k, rfl⟩ : ∃ m, k = m + 1 := ⟨k - 1, by omega⟩
        simp only [Option.bind_some, impl_CondHolds.j0, Bool.not_true, Bool.false_eq_true, if_false]
        rw [if_pos (by omega), if_pos (by omega), pI]
        simp only [Option.bind_some]
        rw [tI]
        exact hr
  · refine ⟨false, fun k hk => ?_, fun k hk => ?_⟩
    · obtain ⟨k, rfl⟩ : ∃ m, k = m + 1 := ⟨k - 1, by omega⟩
      simp [spec_CondHolds.j0]
    · obtain ⟨k, rfl⟩ : ∃ m, k = m + 1 := ⟨k - 1, by omega⟩
      simp [impl_CondHolds.j0]
theorem main (a0 a1 a2 a3 a4 a5 b0 b1 : Int) (l0 : List S30) (hm : l0.length ≤ 9223372036854775807) : ∃ k, laws_FnExactCondHolds.f k a0 a1 a2 a3 a4 a5 b0 b1 l0 = some true := by
  refine ⟨l0.length + 10, ?_⟩
  have e1 : wrap64 (1048576 - (l0.length : Int)) = 1048576 - (l0.length : Int) := w64 (by omega) (by omega)
  unfold laws_FnExactCondHolds.f laws_szCall.f laws_szWideS.f
  rw [e1]
  by_cases hn : (1048576 : Int) - l0.length < 0
  · rw [if_pos hn]
    rfl
  · rw [if_neg hn]
    simp only [Option.bind_some]
    rw [if_neg hn]
    simp only [Option.bind_some]
    rw [if_neg hn]
    have hl : (l0.map conv30).length = l0.length := List.length_map _
    unfold laws_toCall.f laws_toCond.f laws_toWide.f
    obtain ⟨r, rS, rI⟩ := holds a0 a1 a2 a3 a4 a5 b0 b1 (l0.map conv30) (by omega)
    simp only [toWideS l0 (by omega) (l0.length + 10) (by omega), Option.bind_some, rS (l0.length + 10) (by omega), rI (l0.length + 10) (by omega)]
    unfold laws_eqCall.f
    simp [eqWideS (l0.map conv30) (by omega) (l0.length + 10) (by omega)]
end Go.Proofs.Ytiinjipfhmgheaa.PFnExactCondHolds
