/- The pure law of FnDecides: the first rule that holds decides, and where none does the policy. No conditions. -/
import Derived.Test.YtlgndgjbfjefpaaPFnDecidesy14
import Derived.Test.YtlgndgjbfjefpaaEV
set_option linter.unusedSimpArgs false
set_option linter.unusedVariables false
namespace Go.Proofs.Ytlgndgjbfjefpaa.PFnDecides
open Go Go.RowKit Go.Proofs.YtlgndgjbfjefpaaW.PrintWords Go.Proofs.YtlgndgjbfjefpaaW.PrintLast Go.Proofs.YtlgndgjbfjefpaaW.PK
theorem rd_nat48 (l : List S48) (i : Nat) (h : i < l.length) : rd_T48 l (i : Int) = l[i] := getD_lt _ h
theorem inS (a b c : Int) : spec_l01In.f a b c = some (decide (b ≤ a ∧ a ≤ c)) := by
  unfold spec_l01In.f
  by_cases h : a ≥ b
  · rw [if_pos h]
    exact congrArg some (by rw [Bool.eq_iff_iff]; simp; omega)
  · rw [if_neg h]
    exact congrArg some (by rw [Bool.eq_iff_iff]; simp; omega)
theorem inI (a b c : Int) : impl_within.f a b c = some (decide (b ≤ a ∧ a ≤ c)) := inS a b c
theorem halfS (a : Int) : spec_HalfOk.f a = some (decide (0 ≤ a ∧ a ≤ 4294967295)) := by
  unfold spec_HalfOk.f
  rw [inS]
  rfl
theorem halfI (a : Int) : impl_HalfOk.f a = some (decide (0 ≤ a ∧ a ≤ 4294967295)) := halfS a
theorem wideS (a b : Int) : spec_WideOk.f a b = some (decide ((0 ≤ a ∧ a ≤ 4294967295) ∧ (0 ≤ b ∧ b ≤ 4294967295))) := by
  unfold spec_WideOk.f
  simp only [halfS, Option.bind_some, decide_eq_true_eq]
  split
  · rename_i h
    exact congrArg some (by rw [Bool.eq_iff_iff]; simp [h])
  · rename_i h
    exact congrArg some (by rw [Bool.eq_iff_iff]; simp [h])
theorem wideI (a b : Int) : impl_WideOk.f a b = some (decide ((0 ≤ a ∧ a ≤ 4294967295) ∧ (0 ≤ b ∧ b ≤ 4294967295))) := wideS a b
theorem condS (a b c d e f : Int) : spec_CondOk.f a b c d e f = some (decide ((0 ≤ a ∧ a ≤ 2) ∧ ((0 ≤ b ∧ b ≤ 4294967295) ∧ (0 ≤ c ∧ c ≤ 4294967295)) ∧ ((0 ≤ e ∧ e ≤ 4294967295) ∧ (0 ≤ f ∧ f ≤ 4294967295)) ∧ 1 ≤ d ∧ d ≤ 6)) := by
  unfold spec_CondOk.f
  simp only [inS, wideS, Option.bind_some, decide_eq_true_eq]
  repeat' split
  all_goals (refine congrArg some ?_; rw [Bool.eq_iff_iff]; simp only [Bool.false_eq_true, decide_eq_true_eq, false_iff])
  all_goals omega
theorem condI (a b c d e f : Int) : impl_CondOk.f a b c d e f = some (decide ((0 ≤ a ∧ a ≤ 2) ∧ ((0 ≤ b ∧ b ≤ 4294967295) ∧ (0 ≤ c ∧ c ≤ 4294967295)) ∧ ((0 ≤ e ∧ e ≤ 4294967295) ∧ (0 ≤ f ∧ f ≤ 4294967295)) ∧ 1 ≤ d ∧ d ≤ 6)) := condS a b c d e f
/-- A right call: halves, and three words. -/
theorem call_l0 (a b : Int) (l : List S48) (hn : l.length ≤ 4611686018427387904) : ∀ (d i : Nat), i + d = l.length → ∃ r, (∀ k, d < k → spec_CallOk.l0 k (i : Int) a b l = some r) ∧ (∀ k, d < k → impl_CallOk.l0 k l (l.length : Int) (i : Int) a b l = some r) ∧ (r = true → l.length = 3)
  | 0, i, hi => by
    refine ⟨decide ((0 ≤ a ∧ a ≤ 4294967295) ∧ (0 ≤ b ∧ b ≤ 4294967295) ∧ l.length = 3), fun k hk => ?_, fun k hk => ?_, fun h => (by simp at h; omega)⟩
    · obtain ⟨k, rfl⟩ : ∃ m, k = m + 1 := ⟨k - 1, by omega⟩
      simp only [spec_CallOk.l0]
      rw [if_neg (by omega)]
      simp only [halfS, Option.bind_some, decide_eq_true_eq]
      repeat' split
      all_goals (refine congrArg some ?_; rw [Bool.eq_iff_iff]; simp only [Bool.false_eq_true, decide_eq_true_eq, false_iff, beq_iff_eq])
      all_goals omega
    · obtain ⟨k, rfl⟩ : ∃ m, k = m + 1 := ⟨k - 1, by omega⟩
      simp only [impl_CallOk.l0]
      rw [if_neg (by omega)]
      simp only [halfI, Option.bind_some, decide_eq_true_eq]
      repeat' split
      all_goals (refine congrArg some ?_; rw [Bool.eq_iff_iff]; simp only [Bool.false_eq_true, decide_eq_true_eq, false_iff, beq_iff_eq])
      all_goals omega
  | d + 1, i, hi => by
    have hlt : i < l.length := by omega
    obtain ⟨r, hS, hI, hr⟩ := call_l0 a b l hn d (i + 1) (by omega)
    by_cases hw : (0 ≤ l[i].f0 ∧ l[i].f0 ≤ 4294967295) ∧ (0 ≤ l[i].f1 ∧ l[i].f1 ≤ 4294967295)
    · refine ⟨r, fun k hk => ?_, fun k hk => ?_, hr⟩
      · obtain ⟨k, rfl⟩ : ∃ m, k = m + 1 := ⟨k - 1, by omega⟩
        simp only [spec_CallOk.l0]
        rw [if_pos (by omega), if_pos (by omega), rd_nat48 l i hlt, wsucc hlt (by omega), wideS]
        simp only [Option.bind_some, decide_eq_true_eq]
        rw [if_pos hw]
        exact hS k (by omega)
      · obtain ⟨k, rfl⟩ : ∃ m, k = m + 1 := ⟨k - 1, by omega⟩
        simp only [impl_CallOk.l0]
        rw [if_pos (by omega), if_pos (by omega), if_pos (by omega), rd_nat48 l i hlt, wsucc hlt (by omega), wideI]
        simp only [Option.bind_some, decide_eq_true_eq]
        rw [if_pos hw]
        exact hI k (by omega)
    · refine ⟨false, fun k hk => ?_, fun k hk => ?_, fun h => by cases h⟩
      · obtain ⟨k, rfl⟩ : ∃ m, k = m + 1 := ⟨k - 1, by omega⟩
        simp only [spec_CallOk.l0]
        rw [if_pos (by omega), if_pos (by omega), rd_nat48 l i hlt, wideS]
        simp only [Option.bind_some, decide_eq_true_eq]
        rw [if_neg hw]
      · obtain ⟨k, rfl⟩ : ∃ m, k = m + 1 := ⟨k - 1, by omega⟩
        simp only [impl_CallOk.l0]
        rw [if_pos (by omega), if_pos (by omega), if_pos (by omega), rd_nat48 l i hlt, wideI]
        simp only [Option.bind_some, decide_eq_true_eq]
        rw [if_neg hw]
theorem call (a b : Int) (l : List S48) (hn : l.length ≤ 4611686018427387904) : ∃ r, (∀ k, l.length < k → spec_CallOk.f k a b l = some r) ∧ (∀ k, l.length < k → impl_CallOk.f k a b l = some r) ∧ (r = true → l.length = 3) := call_l0 a b l hn l.length 0 (by omega)
theorem wcmp (a b c d : Int) : ∃ t, spec_WideCmp.f a b c d = some t ∧ impl_WideCmp.f a b c d = some t := by
  unfold spec_WideCmp.f impl_WideCmp.f spec_l04Cmp.f impl_compare.f
  by_cases h1 : a < c
  · exact ⟨-1, by simp [h1], by rw [if_neg (by omega)]; simp [h1]⟩
  · by_cases h2 : a > c
    · exact ⟨1, by simp [h1, h2], by rw [if_neg (by omega)]; simp [h1, h2]⟩
    · have h3 : a = c := by omega
      subst h3
      by_cases h4 : b < d
      · exact ⟨-1, by simp [h4], by simp [h4]⟩
      · by_cases h5 : b > d
        · exact ⟨1, by simp [h4, h5], by simp [h4, h5]⟩
        · exact ⟨0, by simp [h4, h5], by simp [h4, h5]⟩
theorem wand (a b c d : Int) : ∃ p, spec_WideAnd.f a b c d = some p ∧ impl_WideAnd.f a b c d = some p := by
  have e : impl_WideAnd.f a b c d = spec_WideAnd.f a b c d := rfl
  rw [e]
  unfold spec_WideAnd.f
  simp only [wideS, Option.bind_some]
  split
  · split
    · exact ⟨_, rfl, rfl⟩
    · exact ⟨_, rfl, rfl⟩
  · exact ⟨_, rfl, rfl⟩
theorem holds (a0 a1 a2 a3 a4 a5 b0 b1 : Int) (l : List S48) (hn : l.length ≤ 4611686018427387904) : ∃ r, (∀ k, l.length + 1 < k → spec_CondHolds.f k a0 a1 a2 a3 a4 a5 b0 b1 l = some r) ∧ (∀ k, l.length + 1 < k → impl_CondHolds.f k a0 a1 a2 a3 a4 a5 b0 b1 l = some r) := by
  obtain ⟨q, qS, qI, hq⟩ := call b0 b1 l hn
  unfold spec_CondHolds.f impl_CondHolds.f
  simp only [condS, condI, Option.bind_some, decide_eq_true_eq]
  split
  · rename_i hc
    cases q with
    | false =>
      refine ⟨false, fun k hk => ?_, fun k hk => ?_⟩
      · rw [qS k (by omega)]
        obtain ⟨k, rfl⟩ : ∃ m, k = m + 1 := ⟨k - 1, by omega⟩
        simp [spec_CondHolds.j0]
      · rw [qI k (by omega)]
        obtain ⟨k, rfl⟩ : ∃ m, k = m + 1 := ⟨k - 1, by omega⟩
        simp [impl_CondHolds.j0]
    | true =>
      have h3 := hq rfl
      obtain ⟨p, pS, pI⟩ := wand (rd_T48 l a0).f0 (rd_T48 l a0).f1 a1 a2
      obtain ⟨t, tS, tI⟩ := wcmp p.1 p.2 a4 a5
      have key : ∃ r, (if a3 = 1 then (some (t == 0)) else (if a3 = 2 then (some (t != 0)) else (if a3 = 3 then (some (decide (t < 0))) else (if a3 = 4 then (some (decide (t ≤ 0))) else (if a3 = 5 then (some (decide (t > 0))) else (some (decide (t ≥ 0)))))))) = some r := by
        repeat' split
        all_goals exact ⟨_, rfl⟩
      obtain ⟨r, hr⟩ := key
      refine ⟨r, fun k hk => ?_, fun k hk => ?_⟩
      · rw [qS k (by omega)]
        obtain ⟨k, rfl⟩ : ∃ m, k = m + 1 := ⟨k - 1, by omega⟩
        simp only [Option.bind_some, spec_CondHolds.j0, Bool.not_true, Bool.false_eq_true, if_false]
        rw [if_pos (by omega), if_pos (by omega), pS]
        simp only [Option.bind_some]
        rw [tS]
        exact hr
      · rw [qI k (by omega)]
        obtain ⟨k, rfl⟩ : ∃ m, k = m + 1 := ⟨k - 1, by omega⟩
        simp only [Option.bind_some, impl_CondHolds.j0, Bool.not_true, Bool.false_eq_true, if_false]
        rw [if_pos (by omega), if_pos (by omega), pI]
        simp only [Option.bind_some]
        rw [tI]
        exact hr
  · refine ⟨false, fun k hk => ?_, fun k hk => ?_⟩
    · obtain ⟨k, rfl⟩ : ∃ m, k = m + 1 := ⟨k - 1, by omega⟩
      simp [spec_CondHolds.j0]
    · obtain ⟨k, rfl⟩ : ∃ m, k = m + 1 := ⟨k - 1, by omega⟩
      simp [impl_CondHolds.j0]
theorem nrd_T50 (l : List (S50)) (i : Nat) (h : i < l.length) : rd_T50 l (i : Int) = l[i] := getD_lt _ h
theorem nrd_T61 (l : List (S61)) (i : Nat) (h : i < l.length) : rd_T61 l (i : Int) = l[i] := getD_lt _ h
theorem nrd (l : List Int) (i : Nat) (h : i < l.length) : rd l (i : Int) = l[i] := getD_lt _ h
theorem nums_in (x : List Int) (a : Int) (hn : x.length ≤ 4611686018427387904) : ∃ q : Int, Evt (fun k => spec_l09In.f k x a) (decide (q ≥ 0)) ∧ Evt (fun k => slices_Index_int_int.f k x a) q := by
  refine down (T := fun i => ∃ q : Int, Evt (fun k => spec_l09In.l0 k x a (i : Int)) (decide (q ≥ 0)) ∧ Evt (fun k => slices_Index_int_int.l0 k x a (x.length : Int) (i : Int)) q) (n := x.length) ?_ ?_ x.length 0 (by omega)
  · exact ⟨-1, .succ (.const fun k => by simp only [spec_l09In.l0]; rw [if_neg (by omega)]; rfl), .succ (.const fun k => by simp only [slices_Index_int_int.l0]; rw [if_neg (by omega)])⟩
  · intro i hi ih
    by_cases h : x[i] = a
    · refine ⟨(i : Int), .succ (.const fun k => ?_), .succ (.const fun k => ?_)⟩
      · simp only [spec_l09In.l0]
        rw [if_pos (by omega), if_pos (by omega), nrd x i hi, if_pos h]
        simp
      · simp only [slices_Index_int_int.l0]
        rw [if_pos (by omega), if_pos (by omega), if_pos (by omega), nrd x i hi, if_pos h.symm]
    · obtain ⟨q, ⟨K1, h1⟩, ⟨K2, h2⟩⟩ := ih
      dsimp only at h1 h2
      refine ⟨q, .succ ⟨K1, fun k hk => ?_⟩, .succ ⟨K2, fun k hk => ?_⟩⟩
      · simp only [spec_l09In.l0]
        rw [if_pos (by omega), if_pos (by omega), nrd x i hi, if_neg h, wsucc hi (by omega)]
        exact h1 k hk
      · simp only [slices_Index_int_int.l0]
        rw [if_pos (by omega), if_pos (by omega), if_pos (by omega), nrd x i hi, if_neg (fun e => h e.symm), wsucc hi (by omega)]
        exact h2 k hk
theorem rul_l0 (x : List Int) (l : List S50) (a b c d : Int) (w : List S48) (hw : w.length ≤ 4611686018427387904) (hn : l.length ≤ 4611686018427387904) (e : Bool)
    (he : Evt (fun k => if (x.length : Int) = 0 then some true else (slices_Contains_int_int.f k x d).bind fun t => some t) e) :
    ∃ r, Evt (fun k => spec_RuleHolds.l0 k 0 x l a b c d w) r ∧ Evt (fun k => impl_RuleHolds.l0 k l (l.length : Int) 0 x l a b c d w) (r && e) := by
  refine down (T := fun i => ∃ r, Evt (fun k => spec_RuleHolds.l0 k (i : Int) x l a b c d w) r ∧ Evt (fun k => impl_RuleHolds.l0 k l (l.length : Int) (i : Int) x l a b c d w) (r && e)) (n := l.length) ?_ ?_ l.length 0 (by omega)
  · obtain ⟨K, hK⟩ := he
    refine ⟨true, .succ (.const fun k => by simp only [spec_RuleHolds.l0]; rw [if_neg (by omega)]), .succ ⟨K, fun k hk => ?_⟩⟩
    simp only [impl_RuleHolds.l0]
    rw [if_neg (by omega)]
    exact hK k hk
  · intro i hi ih
    obtain ⟨r, ⟨K1, h1⟩, ⟨K2, h2⟩⟩ := ih
    dsimp only at h1 h2
    obtain ⟨q, qS, qI⟩ := holds l[i].f0 l[i].f1.f0 l[i].f1.f1 l[i].f2 l[i].f3.f0 l[i].f3.f1 c d w hw
    refine ⟨if q = true then r else false, .succ ⟨K1 + w.length + 2, fun k hk => ?_⟩, .succ ⟨K2 + w.length + 2, fun k hk => ?_⟩⟩
    · simp only [spec_RuleHolds.l0]
      rw [if_pos (by omega), if_pos (by omega), nrd_T50 l i hi, qS k (by omega), wsucc hi (by omega)]
      simp only [Option.bind_some]
      rw [h1 k (by omega)]
      split <;> rfl
    · simp only [impl_RuleHolds.l0]
      rw [if_pos (by omega), if_pos (by omega), if_pos (by omega), nrd_T50 l i hi, qI k (by omega), wsucc hi (by omega)]
      simp only [Option.bind_some]
      rw [h2 k (by omega)]
      split <;> rfl
theorem rul (x : List Int) (l : List S50) (a b c d : Int) (w : List S48) (hx : x.length ≤ 4611686018427387904) (hw : w.length ≤ 4611686018427387904) (hn : l.length ≤ 4611686018427387904) :
    ∃ r, Evt (fun k => spec_RuleHolds.f k x l a b c d w) r ∧ Evt (fun k => impl_RuleHolds.f k x l a b c d w) r := by
  obtain ⟨q, ⟨K1, h1⟩, ⟨K2, h2⟩⟩ := nums_in x d hx
  dsimp only at h1 h2
  by_cases h0 : (x.length : Int) = 0
  · obtain ⟨r, ⟨K3, h3⟩, ⟨K4, h4⟩⟩ := rul_l0 x l a b c d w hw hn true ⟨0, fun k _ => by simp only [if_pos h0]⟩
    dsimp only at h3 h4
    refine ⟨r, ⟨K3 + 1, fun k hk => ?_⟩, ⟨K4, fun k hk => ?_⟩⟩
    · obtain ⟨k, rfl⟩ : ∃ m, k = m + 1 := ⟨k - 1, by omega⟩
      simp only [spec_RuleHolds.f]
      rw [if_neg (by omega)]
      simp only [spec_RuleHolds.j0, Bool.false_eq_true, if_false]
      exact h3 k (by omega)
    · simp only [impl_RuleHolds.f]
      rw [h4 k (by omega), Bool.and_true]
  · obtain ⟨r, ⟨K3, h3⟩, ⟨K4, h4⟩⟩ := rul_l0 x l a b c d w hw hn (decide (q ≥ 0)) ⟨K2, fun k hk => by simp only [if_neg h0, slices_Contains_int_int.f, h2 k hk, Option.bind_some]⟩
    dsimp only at h3 h4
    refine ⟨r && decide (q ≥ 0), ⟨K1 + K3 + 1, fun k hk => ?_⟩, ⟨K4, fun k hk => ?_⟩⟩
    · simp only [spec_RuleHolds.f]
      rw [if_pos (by omega), h1 k (by omega)]
      obtain ⟨k, rfl⟩ : ∃ m, k = m + 1 := ⟨k - 1, by omega⟩
      simp only [spec_RuleHolds.j0, Option.bind_some]
      rw [h3 k (by omega)]
      cases decide (q ≥ 0) <;> simp
    · exact h4 k (by omega)
theorem actS (a b : Int) : Tot (fun _ => spec_l09Act.f a b) := by
  refine ⟨decide ((0 ≤ a ∧ a ≤ 5) ∧ (0 ≤ b ∧ b ≤ 65535)), .const fun k => ?_⟩
  unfold spec_l09Act.f
  simp only [inS, Option.bind_some, decide_eq_true_eq]
  split
  · rename_i h
    exact congrArg some (by rw [Bool.eq_iff_iff]; simp [h])
  · rename_i h
    exact congrArg some (by rw [Bool.eq_iff_iff]; simp [h])
/-- A rule's second loop, and its end. -/
theorem rule_l1 (x : List Int) (l : List S50) (a b : Int) (hn : l.length ≤ 4611686018427387904) : ∃ r, Evt (fun k => spec_l09Rule.l1 k 0 x l a b) r ∧ Evt (fun k => impl_ruleOk.l1 k l (l.length : Int) 0 x l a b) r := by
  refine down (T := fun i => ∃ r, Evt (fun k => spec_l09Rule.l1 k (i : Int) x l a b) r ∧ Evt (fun k => impl_ruleOk.l1 k l (l.length : Int) (i : Int) x l a b) r) (n := l.length) ?_ ?_ l.length 0 (by omega)
  · obtain ⟨v, K, hv⟩ := actS a b
    dsimp only at hv
    have hv0 := hv K (Nat.le_refl _)
    have hv1 : impl_actionOk.f a b = some v := hv0
    refine ⟨if (x.length : Int) ≤ 4 then (if (l.length : Int) ≤ 3 then v else false) else false, .succ (.const fun k => ?_), .succ (.const fun k => ?_)⟩
    · simp only [spec_l09Rule.l1]
      rw [if_neg (by omega), hv0]
      simp only [Option.bind_some]
      repeat' split
      all_goals rfl
    · simp only [impl_ruleOk.l1]
      rw [if_neg (by omega), hv1]
      simp only [Option.bind_some]
      repeat' split
      all_goals rfl
  · intro i hi ih
    obtain ⟨r, ⟨K1, h1⟩, ⟨K2, h2⟩⟩ := ih
    dsimp only at h1 h2
    obtain ⟨q, e, e'⟩ : ∃ q, spec_CondOk.f l[i].f0 l[i].f1.f0 l[i].f1.f1 l[i].f2 l[i].f3.f0 l[i].f3.f1 = some q ∧ impl_CondOk.f l[i].f0 l[i].f1.f0 l[i].f1.f1 l[i].f2 l[i].f3.f0 l[i].f3.f1 = some q := ⟨_, condS _ _ _ _ _ _, condI _ _ _ _ _ _⟩
    refine ⟨if q = true then r else false, .succ ⟨K1, fun k hk => ?_⟩, .succ ⟨K2, fun k hk => ?_⟩⟩
    · simp only [spec_l09Rule.l1]
      rw [if_pos (by omega), if_pos (by omega), nrd_T50 l i hi, e, wsucc hi (by omega)]
      simp only [Option.bind_some]
      rw [h1 k (by omega)]
      split <;> rfl
    · simp only [impl_ruleOk.l1]
      rw [if_pos (by omega), if_pos (by omega), if_pos (by omega), nrd_T50 l i hi, e', wsucc hi (by omega)]
      simp only [Option.bind_some]
      rw [h2 k (by omega)]
      split <;> rfl
theorem rule (x : List Int) (l : List S50) (a b : Int) (hx : x.length ≤ 4611686018427387904) (hn : l.length ≤ 4611686018427387904) : ∃ r, Evt (fun k => spec_l09Rule.f k x l a b) r ∧ Evt (fun k => impl_ruleOk.f k x l a b) r := by
  refine down (T := fun i => ∃ r, Evt (fun k => spec_l09Rule.l0 k (i : Int) x l a b) r ∧ Evt (fun k => impl_ruleOk.l0 k x (x.length : Int) (i : Int) x l a b) r) (n := x.length) ?_ ?_ x.length 0 (by omega)
  · obtain ⟨r, ⟨K1, h1⟩, ⟨K2, h2⟩⟩ := rule_l1 x l a b hn
    dsimp only at h1 h2
    refine ⟨r, .succ ⟨K1, fun k hk => ?_⟩, .succ ⟨K2, fun k hk => ?_⟩⟩
    · simp only [spec_l09Rule.l0]
      rw [if_neg (by omega)]
      exact h1 k hk
    · simp only [impl_ruleOk.l0]
      rw [if_neg (by omega)]
      exact h2 k hk
  · intro i hi ih
    obtain ⟨r, ⟨K1, h1⟩, ⟨K2, h2⟩⟩ := ih
    dsimp only at h1 h2
    obtain ⟨q, e, e'⟩ : ∃ q, spec_HalfOk.f x[i] = some q ∧ impl_HalfOk.f x[i] = some q := ⟨_, halfS _, halfI _⟩
    have ew : 0 < i → wrap64 ((i : Int) - 1) = ((i - 1 : Nat) : Int) := fun h => by rw [w64 (by omega) (by omega)]; omega
    refine ⟨if q = true then (if 0 < i ∧ rd x (wrap64 ((i : Int) - 1)) ≥ x[i] then false else r) else false, .succ ⟨K1, fun k hk => ?_⟩, .succ ⟨K2, fun k hk => ?_⟩⟩
    · simp only [spec_l09Rule.l0]
      rw [if_pos (by omega), if_pos (by omega), nrd x i hi, e, wsucc hi (by omega)]
      simp only [Option.bind_some]
      by_cases h0 : 0 < i
      · have h9 := ew h0
        rw [h9, if_pos (show (i : Int) > 0 by omega), if_pos (show (0 : Int) ≤ ((i - 1 : Nat) : Int) by omega), if_pos (show ((i - 1 : Nat) : Int) < (x.length : Int) by omega), h1 k (by omega)]
        simp only [h0, true_and]
        repeat' split
        all_goals rfl
      · rw [if_neg (show ¬ (i : Int) > 0 by omega), h1 k (by omega)]
        simp only [h0, false_and, if_false]
        split <;> rfl
    · simp only [impl_ruleOk.l0]
      rw [if_pos (by omega), if_pos (by omega), if_pos (by omega), nrd x i hi, e', wsucc hi (by omega)]
      simp only [Option.bind_some]
      by_cases h0 : 0 < i
      · have h9 := ew h0
        rw [h9, if_pos (show (i : Int) > 0 by omega), if_pos (show (0 : Int) ≤ ((i - 1 : Nat) : Int) by omega), if_pos (show ((i - 1 : Nat) : Int) < (x.length : Int) by omega), h2 k (by omega)]
        simp only [h0, true_and]
        repeat' split
        all_goals rfl
      · rw [if_neg (show ¬ (i : Int) > 0 by omega), h2 k (by omega)]
        simp only [h0, false_and, if_false]
        split <;> rfl
theorem pol (a b c : Int) (l : List S61) (hn : l.length ≤ 4611686018427387904) (hl : ∀ y ∈ l, y.f0.length ≤ 4611686018427387904 ∧ y.f1.length ≤ 4611686018427387904) : ∃ r, Evt (fun k => spec_PolicyOk.f k a b c l) r ∧ Evt (fun k => impl_PolicyOk.f k a b c l) r := by
  refine down (T := fun i => ∃ r, Evt (fun k => spec_PolicyOk.l0 k (i : Int) a b c l) r ∧ Evt (fun k => impl_PolicyOk.l0 k l (l.length : Int) (i : Int) a b c l) r) (n := l.length) ?_ ?_ l.length 0 (by omega)
  · obtain ⟨v, K, hv⟩ := actS b c
    dsimp only at hv
    have hv0 := hv K (Nat.le_refl _)
    have hv1 : impl_actionOk.f b c = some v := hv0
    refine ⟨if decide (0 ≤ a ∧ a ≤ 4294967295) = true then (if v = true then decide ((l.length : Int) ≤ 10) else false) else false, .succ (.const fun k => ?_), .succ (.const fun k => ?_)⟩
    · simp only [spec_PolicyOk.l0]
      rw [if_neg (by omega), halfS, hv0]
      simp only [Option.bind_some]
      repeat' split
      all_goals rfl
    · simp only [impl_PolicyOk.l0]
      rw [if_neg (by omega), halfI, hv1]
      simp only [Option.bind_some]
      repeat' split
      all_goals rfl
  · intro i hi ih
    obtain ⟨r, ⟨K1, h1⟩, ⟨K2, h2⟩⟩ := ih
    have hb := hl _ (List.getElem_mem hi)
    obtain ⟨q, ⟨K3, h3⟩, ⟨K4, h4⟩⟩ := rule l[i].f0 l[i].f1 l[i].f2 l[i].f3 hb.1 hb.2
    dsimp only at h1 h2 h3 h4
    refine ⟨if q = true then r else false, .succ ⟨K1 + K3, fun k hk => ?_⟩, .succ ⟨K2 + K4, fun k hk => ?_⟩⟩
    · simp only [spec_PolicyOk.l0]
      rw [if_pos (by omega), if_pos (by omega), nrd_T61 l i hi, h3 k (by omega), wsucc hi (by omega)]
      simp only [Option.bind_some]
      rw [h1 k (by omega)]
      split <;> rfl
    · simp only [impl_PolicyOk.l0]
      rw [if_pos (by omega), if_pos (by omega), if_pos (by omega), nrd_T61 l i hi, h4 k (by omega), wsucc hi (by omega)]
      simp only [Option.bind_some]
      rw [h2 k (by omega)]
      split <;> rfl
theorem resI (a b : Int) : impl_ResultOf.f a b = spec_ResultOf.f a b := rfl
theorem res (a b : Int) : ∃ v, spec_ResultOf.f a b = some v := by
  simp only [spec_ResultOf.f, inS, Option.bind_some, decide_eq_true_eq]
  repeat' split
  all_goals exact ⟨_, rfl⟩
theorem res0 : impl_ResultOf.f 0 0 = some 0 := by
  have e : wrap64 (wrap64 (65536 * 0) + 0) = 0 := by rw [w64 (x := 65536 * 0) (by omega) (by omega), w64 (by omega) (by omega)]; rfl
  simp only [impl_ResultOf.f, inI, Option.bind_some, decide_eq_true_eq]
  rw [if_pos (by omega), if_pos (by omega), e]
theorem dec_l0 (a b c : Int) (l : List S61) (d e : Int) (w : List S48) (hn : l.length ≤ 4611686018427387904) (hl : ∀ y ∈ l, y.f0.length ≤ 4611686018427387904 ∧ y.f1.length ≤ 4611686018427387904) (hw : w.length ≤ 4611686018427387904) :
    ∃ r, Evt (fun k => spec_Decide.l0 k ((0 : Nat) : Int) a b c l d e w) r ∧ Evt (fun k => impl_Decide.l0 k l (l.length : Int) ((0 : Nat) : Int) a b c l d e w) r := by
  refine down (T := fun i => ∃ r, Evt (fun k => spec_Decide.l0 k (i : Int) a b c l d e w) r ∧ Evt (fun k => impl_Decide.l0 k l (l.length : Int) (i : Int) a b c l d e w) r) (n := l.length) ?_ ?_ l.length 0 (by omega)
  · obtain ⟨v, hv⟩ := res b c
    refine ⟨v, .succ (.const fun k => ?_), .succ (.const fun k => ?_)⟩
    · simp only [spec_Decide.l0]
      rw [if_neg (by omega), hv]
      rfl
    · simp only [impl_Decide.l0]
      rw [if_neg (by omega), resI, hv]
      rfl
  · intro i hi ⟨r, ⟨K1, h1⟩, ⟨K2, h2⟩⟩
    dsimp only at h1 h2
    obtain ⟨t, ⟨K3, h3⟩, ⟨K4, h4⟩⟩ := rul l[i].f0 l[i].f1 l[i].f2 l[i].f3 d e w (hl _ (List.getElem_mem hi)).1 hw (hl _ (List.getElem_mem hi)).2
    dsimp only at h3 h4
    obtain ⟨v, hv⟩ := res l[i].f2 l[i].f3
    cases t with
    | true =>
      refine ⟨v, .succ ⟨K3, fun k hk => ?_⟩, .succ ⟨K4, fun k hk => ?_⟩⟩
      · simp only [spec_Decide.l0]
        rw [if_pos (by omega), if_pos (by omega), nrd_T61 l i hi, h3 k hk]
        simp only [Option.bind_some, if_true, hv]
      · simp only [impl_Decide.l0]
        rw [if_pos (by omega), if_pos (by omega), if_pos (by omega), nrd_T61 l i hi, h4 k hk]
        simp only [Option.bind_some, if_true, resI, hv]
    | false =>
      refine ⟨r, .succ ⟨K1 + K3, fun k hk => ?_⟩, .succ ⟨K2 + K4, fun k hk => ?_⟩⟩
      · simp only [spec_Decide.l0]
        rw [if_pos (by omega), if_pos (by omega), nrd_T61 l i hi, h3 k (by omega), wsucc hi (by omega)]
        simp only [Option.bind_some, Bool.false_eq_true, if_false]
        exact h1 k (by omega)
      · simp only [impl_Decide.l0]
        rw [if_pos (by omega), if_pos (by omega), if_pos (by omega), nrd_T61 l i hi, h4 k (by omega), wsucc hi (by omega)]
        simp only [Option.bind_some, Bool.false_eq_true, if_false]
        exact h2 k (by omega)
theorem dec (a b c : Int) (l : List S61) (d e : Int) (w : List S48) (hn : l.length ≤ 4611686018427387904) (hl : ∀ y ∈ l, y.f0.length ≤ 4611686018427387904 ∧ y.f1.length ≤ 4611686018427387904) (hw : w.length ≤ 4611686018427387904) :
    ∃ r, Evt (fun k => spec_Decide.f k a b c l d e w) r ∧ Evt (fun k => impl_Decide.f k a b c l d e w) r := by
  obtain ⟨p, ⟨K1, h1⟩, ⟨K2, h2⟩⟩ := pol a b c l hn hl
  obtain ⟨q, g1, g2, _⟩ := call d e w hw
  obtain ⟨r, ⟨K3, h3⟩, ⟨K4, h4⟩⟩ := dec_l0 a b c l d e w hn hl hw
  dsimp only at h1 h2 h3 h4
  have eb : (a != d) = (d != a) := by rw [Bool.eq_iff_iff]; simp; omega
  have hS : ∀ k, K1 + w.length + 1 ≤ k → spec_Decide.f k a b c l d e w = spec_Decide.j0 k (!(p && q) || (d != a)) a b c l d e w := fun k hk => by
    simp only [spec_Decide.f, h1 k (by omega), g1 k (by omega), Option.bind_some]
    cases p <;> cases q <;> simp
  have hI : ∀ k, K2 + w.length + 1 ≤ k → impl_Decide.f k a b c l d e w = impl_Decide.j0 k (!(p && q) || (d != a)) a b c l d e w := fun k hk => by
    simp only [impl_Decide.f, h2 k (by omega), g2 k (by omega), Option.bind_some, eb]
    cases p <;> cases q <;> simp
  cases hb : (!(p && q) || (d != a)) with
  | true =>
    refine ⟨0, ⟨K1 + w.length + 2, fun k hk => ?_⟩, ⟨K2 + w.length + 2, fun k hk => ?_⟩⟩
    · refine (hS k (by omega)).trans ?_
      rw [hb]
      obtain ⟨k, rfl⟩ : ∃ m, k = m + 1 := ⟨k - 1, by omega⟩
      simp only [spec_Decide.j0, if_true]
    · refine (hI k (by omega)).trans ?_
      rw [hb]
      obtain ⟨k, rfl⟩ : ∃ m, k = m + 1 := ⟨k - 1, by omega⟩
      simp only [impl_Decide.j0, if_true, res0, Option.bind_some]
  | false =>
    refine ⟨r, ⟨K1 + K3 + w.length + 2, fun k hk => ?_⟩, ⟨K2 + K4 + w.length + 2, fun k hk => ?_⟩⟩
    · refine (hS k (by omega)).trans ?_
      rw [hb]
      obtain ⟨k, rfl⟩ : ∃ m, k = m + 1 := ⟨k - 1, by omega⟩
      simp only [spec_Decide.j0, Bool.false_eq_true, if_false]
      exact h3 k (by omega)
    · refine (hI k (by omega)).trans ?_
      rw [hb]
      obtain ⟨k, rfl⟩ : ∃ m, k = m + 1 := ⟨k - 1, by omega⟩
      simp only [impl_Decide.j0, Bool.false_eq_true, if_false]
      exact h4 k (by omega)
theorem and255 (x : Int) : 0 ≤ Go.bits .and .i64 x 255 ∧ Go.bits .and .i64 x 255 ≤ 255 := by
  have h : ((BitVec.ofInt IntKind.i64.bits x) &&& (BitVec.ofInt IntKind.i64.bits 255)).toNat ≤ 255 := by
    rw [BitVec.toNat_and]
    exact Nat.le_trans Nat.and_le_right (by decide)
  have e : Go.bits .and .i64 x 255 = IntKind.i64.wrap ((((BitVec.ofInt IntKind.i64.bits x) &&& (BitVec.ofInt IntKind.i64.bits 255)).toNat : Nat) : Int) := rfl
  rw [e, IntKind.wrap_i64]
  omega
theorem byte {s : List Int} (hs : s.length ≤ 1048576) (p e : Int) (hp : 0 ≤ p) : ∃ b p' e', spec_l01Byte.f s p e = some (b, p', e') ∧ (0 ≤ b ∧ b ≤ 255) ∧ 0 ≤ p' := by
  unfold spec_l01Byte.f
  by_cases h : p < (s.length : Int)
  · rw [if_pos h, if_pos hp]
    exact ⟨_, _, _, rfl, and255 _, by rw [w64 (by omega) (by omega)]; omega⟩
  · rw [if_neg h]
    exact ⟨_, _, _, rfl, and255 _, hp⟩
theorem below {s : List Int} (hs : s.length ≤ 1048576) (p e : Int) (hp : 0 ≤ p) (n : Int) (h1 : 1 ≤ n) (h2 : n ≤ 256) : ∃ r p' e', spec_l01Below.f s p e n = some (r, p', e') ∧ (0 ≤ r ∧ r < n) ∧ 0 ≤ p' := by
  obtain ⟨b, p', e', hb, hr, hp'⟩ := byte hs p e hp
  unfold spec_l01Below.f
  rw [if_neg (by omega), if_pos h2, hb]
  simp only [Option.bind_some]
  rw [if_neg (by omega)]
  refine ⟨_, _, _, rfl, ?_, hp'⟩
  rw [Int.tmod_eq_emod_of_nonneg hr.1]
  exact ⟨Int.emod_nonneg _ (by omega), Int.emod_lt_of_pos _ (by omega)⟩
theorem once {s : List Int} (hs : s.length ≤ 1048576) (p e : Int) (hp : 0 ≤ p) (n : Int) (h1 : 1 ≤ n) (h2 : n ≤ 256) : ∃ r p' e', spec_l01Once.f s p e n = some (r, p', e') ∧ 0 ≤ p' := by
  obtain ⟨r, p', e', h, _, hp'⟩ := below hs p e hp n h1 h2
  exact ⟨_, p', e', by unfold spec_l01Once.f; rw [h]; rfl, hp'⟩
theorem pick {s : List Int} (hs : s.length ≤ 1048576) (p e : Int) (hp : 0 ≤ p) (l : List Int) (h1 : 1 ≤ (l.length : Int)) (h2 : (l.length : Int) ≤ 256) : ∃ v p' e', spec_l01PickInt.f s p e l = some (v, p', e') ∧ v ∈ l ∧ 0 ≤ p' := by
  obtain ⟨r, p', e', h, hr, hp'⟩ := below hs p e hp _ h1 h2
  refine ⟨rd l r, p', e', by unfold spec_l01PickInt.f; rw [h]; simp only [Option.bind_some]; rw [if_pos hr.1, if_pos hr.2], ?_, hp'⟩
  obtain ⟨i, rfl⟩ := Int.eq_ofNat_of_zero_le hr.1
  have hi : i < l.length := by omega
  have e : rd l (i : Int) = l[i] := getD_lt _ hi
  rw [e]
  exact List.getElem_mem hi
theorem half {s : List Int} (hs : s.length ≤ 1048576) (p e : Int) (hp : 0 ≤ p) : ∃ v p' e', spec_l04Half.f s p e = some (v, p', e') ∧ (0 ≤ v ∧ v ≤ 4294967295) ∧ 0 ≤ p' := by
  obtain ⟨r, p1, e1, h, hr, hp1⟩ := below hs p e hp 12 (by omega) (by omega)
  obtain ⟨v, p2, e2, g, hv, hp2⟩ := pick hs p1 e1 hp1 [0, 1, 2, 3, 5, 7, 255, 4294967295, 2147483648, r] (by simp) (by simp)
  refine ⟨v, p2, e2, by unfold spec_l04Half.f; rw [h]; simp only [Option.bind_some]; rw [g]; rfl, ?_, hp2⟩
  simp only [List.mem_cons, List.not_mem_nil, or_false] at hv
  omega
theorem wide {s : List Int} (hs : s.length ≤ 1048576) (p e : Int) (hp : 0 ≤ p) : ∃ a b p' e', spec_l04Wide.f s p e = some (a, b, p', e') ∧ ((0 ≤ a ∧ a ≤ 4294967295) ∧ (0 ≤ b ∧ b ≤ 4294967295)) ∧ 0 ≤ p' := by
  obtain ⟨r, p1, e1, h, hr, hp1⟩ := half hs p e hp
  obtain ⟨b, p2, e2, g, hp2⟩ := once hs p1 e1 hp1 3 (by omega) (by omega)
  unfold spec_l04Wide.f
  rw [h]
  simp only [Option.bind_some]
  rw [g]
  simp only [Option.bind_some]
  cases b with
  | true =>
    obtain ⟨q, p3, e3, f, hq, hp3⟩ := half hs p2 e2 hp2
    rw [if_pos rfl, f]
    exact ⟨_, _, _, _, rfl, ⟨hq, hr⟩, hp3⟩
  | false =>
    rw [if_neg (by simp)]
    exact ⟨_, _, _, _, rfl, ⟨by omega, hr⟩, hp2⟩
theorem drawCond {s : List Int} (hs : s.length ≤ 1048576) (p e : Int) (hp : 0 ≤ p) : ∃ a b c d f g p' e', spec_l09Cond.f s p e = some (a, b, c, d, f, g, p', e') ∧ ((0 ≤ a ∧ a ≤ 2) ∧ ((0 ≤ b ∧ b ≤ 4294967295) ∧ (0 ≤ c ∧ c ≤ 4294967295)) ∧ ((0 ≤ f ∧ f ≤ 4294967295) ∧ (0 ≤ g ∧ g ≤ 4294967295)) ∧ 1 ≤ d ∧ d ≤ 6) ∧ 0 ≤ p' := by
  obtain ⟨a, p1, e1, h1, ha, hp1⟩ := below hs p e hp 3 (by omega) (by omega)
  obtain ⟨d, p2, e2, h2, hd, hp2⟩ := below hs p1 e1 hp1 6 (by omega) (by omega)
  obtain ⟨f, g, p3, e3, h3, hf, hp3⟩ := wide hs p2 e2 hp2
  obtain ⟨o, p4, e4, h4, hp4⟩ := once hs p3 e3 hp3 3 (by omega) (by omega)
  have ed : wrap64 (1 + d) = 1 + d := w64 (by omega) (by omega)
  unfold spec_l09Cond.f
  rw [h1]
  simp only [Option.bind_some]
  rw [h2]
  simp only [Option.bind_some]
  rw [h3]
  simp only [Option.bind_some]
  rw [h4]
  simp only [Option.bind_some, ed]
  cases o with
  | true =>
    obtain ⟨b, c, p5, e5, h5, hb, hp5⟩ := wide hs p4 e4 hp4
    rw [if_pos rfl, h5]
    exact ⟨_, _, _, _, _, _, _, _, rfl, ⟨by omega, hb, hf, by omega⟩, hp5⟩
  | false =>
    rw [if_neg (by simp)]
    exact ⟨_, _, _, _, _, _, _, _, rfl, ⟨by omega, ⟨by omega, by omega⟩, hf, by omega⟩, hp4⟩
theorem newC (l : List Int) (hl : l.length ≤ 1048576) : ∃ e, Evt (fun k => spec_l01New.f k l) (l, 0, e) := by
  have key : ∀ (d i : Nat) (e : Int), i + d = l.length → ∃ e', Evt (fun k => spec_l01New.l0 k l e (i : Int)) (l, 0, e') := by
    intro d
    induction d with
    | zero =>
      intro i e h
      exact ⟨e, .succ (.const fun k => by simp only [spec_l01New.l0]; rw [if_neg (by omega)])⟩
    | succ d ih =>
      intro i e h
      by_cases h4 : (i : Int) < 4000
      · obtain ⟨e', K, hK⟩ := ih (i + 1) (Go.bits .and .i64 (wrap64 ((wrap64 ((wrap64 (e * 131)) + (wrap64 (rd l (i : Int))))) + 7)) 1073741823) (by omega)
        refine ⟨e', .succ ⟨K, fun k hk => ?_⟩⟩
        simp only [spec_l01New.l0]
        rw [if_pos (by omega), if_pos h4, if_pos (by omega), wsucc (show i < l.length by omega) (by omega)]
        exact hK k hk
      · exact ⟨e, .succ (.const fun k => by simp only [spec_l01New.l0]; rw [if_pos (by omega), if_neg h4])⟩
  exact key l.length 0 _ (by omega)
/-- A right condition. -/
def CondR (y : S50) : Prop := (0 ≤ y.f0 ∧ y.f0 ≤ 2) ∧ ((0 ≤ y.f1.f0 ∧ y.f1.f0 ≤ 4294967295) ∧ (0 ≤ y.f1.f1 ∧ y.f1.f1 ≤ 4294967295)) ∧ ((0 ≤ y.f3.f0 ∧ y.f3.f0 ≤ 4294967295) ∧ (0 ≤ y.f3.f1 ∧ y.f3.f1 ≤ 4294967295)) ∧ 1 ≤ y.f2 ∧ y.f2 ≤ 6
/-- Numbers that go up, each a half. -/
def NumsR (x : List Int) : Prop := (∀ i (h : i < x.length), 0 ≤ x[i] ∧ x[i] ≤ 4294967295) ∧ ∀ i (h : i + 1 < x.length), x[i] < x[i + 1]
/-- A right rule. -/
def RuleR (x : List Int) (l : List S50) (a b : Int) : Prop := NumsR x ∧ (∀ y ∈ l, CondR y) ∧ x.length ≤ 4 ∧ l.length ≤ 3 ∧ (0 ≤ a ∧ a ≤ 5) ∧ (0 ≤ b ∧ b ≤ 65535)
theorem nums_up {x : List Int} {t v : Int} (h : NumsR x) (ht : ∀ i (hi : i < x.length), x[i] < t) (hv : t ≤ v) (h0 : 0 ≤ v) (h1 : v ≤ 4294967295) : NumsR (x ++ [v]) := by
  refine ⟨fun i hi => ?_, fun i hi => ?_⟩
  · rw [List.getElem_append]
    split
    · exact h.1 i _
    · simp only [List.getElem_singleton]
      exact ⟨h0, h1⟩
  · rw [List.getElem_append, List.getElem_append]
    rw [List.length_append, List.length_singleton] at hi
    have h2 : i < x.length := by omega
    rw [dif_pos h2]
    split
    · rename_i h3
      exact h.2 i h3
    · simp only [List.getElem_singleton]
      have := ht i h2
      omega
theorem madeR_l1 {s : List Int} (hs : s.length ≤ 1048576) (nums : List Int) (a b : Int) : ∀ (d i : Nat) (p e : Int) (l : List S50), i + d = 3 → 0 ≤ p → l.length = i → i ≤ 2 → (∀ y ∈ l, CondR y) → ∃ R p' e', Evt (fun k => spec_l09Made.l1 k (i : Int) s p e nums l a b) (nums, R, a, b, p', e') ∧ R.length ≤ 2 ∧ (∀ y ∈ R, CondR y) ∧ 0 ≤ p' := by
  intro d
  induction d with
  | zero =>
    intro i p e l hi hp hl hi2
    omega
  | succ d ih =>
    intro i p e l hi hp hl hi2 hc
    obtain ⟨r, p1, e1, h1, hr, hp1⟩ := below hs p e hp 3 (by omega) (by omega)
    by_cases hlt : (i : Int) < r
    · obtain ⟨a1, b1, c1, d1, f1, g1, p2, e2, h2, hw, hp2⟩ := drawCond hs p1 e1 hp1
      obtain ⟨R, p', e', ⟨K, h⟩, hR, hcR, hp'⟩ := ih (i + 1) p2 e2 (l ++ [⟨a1, ⟨b1, c1⟩, d1, ⟨f1, g1⟩⟩]) (by omega) hp2 (by simp; omega) (by omega) (fun y hy => by
        rcases List.mem_append.1 hy with hy | hy
        · exact hc y hy
        · rw [List.mem_singleton] at hy
          subst hy
          exact hw)
      refine ⟨R, p', e', .succ ⟨K, fun k hk => ?_⟩, hR, hcR, hp'⟩
      have q := h k hk
      simp only [spec_l09Made.l1, h1, Option.bind_some]
      rw [if_pos hlt]
      simp only [h2, Option.bind_some]
      rw [if_pos (by omega), wsucc (show i < 3 by omega) (by omega)]
      exact q
    · refine ⟨l, p1, e1, .succ (.const fun k => ?_), by omega, hc, hp1⟩
      simp only [spec_l09Made.l1, h1, Option.bind_some]
      rw [if_neg hlt]
theorem madeR_l0 {s : List Int} (hs : s.length ≤ 1048576) (n : Int) (hn : n ≤ 2) (a b : Int) : ∀ (d i : Nat) (t p e : Int) (nums : List Int), i + d = 3 → 0 ≤ p → nums.length = i → NumsR nums → (∀ j (hj : j < nums.length), nums[j] < t) → 0 ≤ t → t ≤ 3 * i → ∃ N R p' e', Evt (fun k => spec_l09Made.l0 k n t (i : Int) s p e nums a b) (N, R, a, b, p', e') ∧ NumsR N ∧ N.length ≤ 3 ∧ R.length ≤ 2 ∧ (∀ y ∈ R, CondR y) ∧ 0 ≤ p' := by
  have fin : ∀ (t p e : Int) (i : Nat) (nums : List Int), ¬ (i : Int) < n → 0 ≤ p → nums.length ≤ 3 → NumsR nums → ∃ N R p' e', Evt (fun k => spec_l09Made.l0 k n t (i : Int) s p e nums a b) (N, R, a, b, p', e') ∧ NumsR N ∧ N.length ≤ 3 ∧ R.length ≤ 2 ∧ (∀ y ∈ R, CondR y) ∧ 0 ≤ p' := fun t p e i nums hi hp hm hN => by
    obtain ⟨R, p', e', ⟨K, h⟩, hR, hc, hp'⟩ := madeR_l1 hs nums a b 3 0 p e [] (by omega) hp rfl (by omega) (fun y hy => by simp at hy)
    refine ⟨nums, R, p', e', .succ ⟨K, fun k hk => ?_⟩, hN, hm, hR, hc, hp'⟩
    have q := h k hk
    simp only [spec_l09Made.l0]
    rw [if_neg hi]
    exact q
  intro d
  induction d with
  | zero =>
    intro i t p e nums hi hp hm hN ht h0 h3
    exact fin t p e i nums (by omega) hp (by omega) hN
  | succ d ih =>
    intro i t p e nums hi hp hm hN ht h0 h3
    by_cases hc : (i : Int) < n
    · obtain ⟨r, p1, e1, h1, hr, hp1⟩ := below hs p e hp 3 (by omega) (by omega)
      have et : Aside0 (wrap64 ((wrap64 (t + 1)) + r) = t + 1 + r) := ⟨by rw [w64 (x := t + 1) (by omega) (by omega), w64 (by omega) (by omega)]⟩
      have ev : Aside0 (wrap64 (t + 1 + r - 1) = t + r) := ⟨by rw [w64 (by omega) (by omega)]; omega⟩
      obtain ⟨N, R, p', e', ⟨K, h⟩, hN'⟩ := ih (i + 1) (t + 1 + r) p1 e1 (nums ++ [t + r]) (by omega) hp1 (by simp; omega) (nums_up hN ht (by omega) (by omega) (by omega)) (fun j hj => by
        rw [List.getElem_append]
        split
        · have := ht j ‹_›
          omega
        · simp only [List.getElem_singleton]
          omega) (by omega) (by omega)
      refine ⟨N, R, p', e', .succ ⟨K, fun k hk => ?_⟩, hN'⟩
      have q := h k hk
      simp only [spec_l09Made.l0]
      rw [if_pos hc]
      simp only [h1, Option.bind_some]
      rw [if_pos (by omega), et.out, ev.out, wsucc (show i < 3 by omega) (by omega)]
      exact q
    · exact fin t p e i nums hc hp (by omega) hN
theorem madeR_j0 {s : List Int} (hs : s.length ≤ 1048576) (p e a b : Int) (hp : 0 ≤ p) : ∃ N R p' e', Evt (fun k => spec_l09Made.j0 k s p e a b) (N, R, a, b, p', e') ∧ NumsR N ∧ N.length ≤ 3 ∧ R.length ≤ 2 ∧ (∀ y ∈ R, CondR y) ∧ 0 ≤ p' := by
  obtain ⟨r, p1, e1, h1, hr, hp1⟩ := below hs p e hp 4 (by omega) (by omega)
  have er : wrap64 (r - 1) = r - 1 := w64 (by omega) (by omega)
  obtain ⟨N, R, p', e', ⟨K, h⟩, hN⟩ := madeR_l0 hs (r - 1) (by omega) a b 3 0 0 p1 e1 [] (by omega) hp1 rfl ⟨fun i hi => absurd hi (by simp), fun i hi => absurd hi (by simp)⟩ (fun j hj => absurd hj (by simp)) (by omega) (by omega)
  refine ⟨N, R, p', e', .succ ⟨K, fun k hk => ?_⟩, hN⟩
  have q := h k hk
  simp only [spec_l09Made.j0, h1, Option.bind_some, er]
  exact q
/-- A drawn rule is right. -/
theorem madeR {s : List Int} (hs : s.length ≤ 1048576) (p e : Int) (hp : 0 ≤ p) : ∃ N R a b p' e', Evt (fun k => spec_l09Made.f k s p e) (N, R, a, b, p', e') ∧ RuleR N R a b ∧ N.length ≤ 3 ∧ R.length ≤ 2 ∧ 0 ≤ p' := by
  obtain ⟨a, p1, e1, h1, ha, hp1⟩ := pick hs p e hp [0, 1, 2, 3, 4, 4, 5] (by simp) (by simp)
  simp only [List.mem_cons, List.not_mem_nil, or_false] at ha
  by_cases h2 : a = 2
  · obtain ⟨b, p2, e2, g1, hb, hp2⟩ := pick hs p1 e1 hp1 [1, 13, 65535] (by simp) (by simp)
    simp only [List.mem_cons, List.not_mem_nil, or_false] at hb
    obtain ⟨N, R, p', e', ⟨K, h⟩, hN, hN3, hR, hc, hp'⟩ := madeR_j0 hs p2 e2 a b hp2
    refine ⟨N, R, a, b, p', e', ⟨K, fun k hk => ?_⟩, ⟨hN, hc, by omega, by omega, by omega, by omega⟩, hN3, hR, hp'⟩
    have q := h k hk
    simp only [spec_l09Made.f, h1, Option.bind_some]
    rw [if_pos h2]
    simp only [g1, Option.bind_some]
    exact q
  · obtain ⟨N, R, p', e', ⟨K, h⟩, hN, hN3, hR, hc, hp'⟩ := madeR_j0 hs p1 e1 a 0 hp1
    refine ⟨N, R, a, 0, p', e', ⟨K, fun k hk => ?_⟩, ⟨hN, hc, by omega, by omega, by omega, by omega⟩, hN3, hR, hp'⟩
    have q := h k hk
    simp only [spec_l09Made.f, h1, Option.bind_some]
    rw [if_neg h2]
    exact q
/-- A drawn call is right. -/
def WideR (y : S48) : Prop := (0 ≤ y.f0 ∧ y.f0 ≤ 4294967295) ∧ (0 ≤ y.f1 ∧ y.f1 ≤ 4294967295)
theorem callR_l0 {s : List Int} (hs : s.length ≤ 1048576) (a b : Int) : ∀ (d i : Nat) (p e : Int) (w : List S48), i + d = 3 → 0 ≤ p → w.length = i → (∀ y ∈ w, WideR y) → ∃ W p' e', Evt (fun k => spec_l04Call.l0 k (i : Int) s p e a b w) (a, b, W, p', e') ∧ W.length = 3 ∧ (∀ y ∈ W, WideR y) ∧ 0 ≤ p' := by
  intro d
  induction d with
  | zero =>
    intro i p e w hi hp hw hc
    refine ⟨w, p, e, .succ (.const fun k => ?_), by omega, hc, hp⟩
    simp only [spec_l04Call.l0]
    rw [if_neg (by omega)]
  | succ d ih =>
    intro i p e w hi hp hw hc
    obtain ⟨x, y, p1, e1, h1, hx, hp1⟩ := wide hs p e hp
    obtain ⟨W, p', e', ⟨K, h⟩, hW⟩ := ih (i + 1) p1 e1 (w ++ [⟨x, y⟩]) (by omega) hp1 (by simp; omega) (fun z hz => by
      rcases List.mem_append.1 hz with hz | hz
      · exact hc z hz
      · rw [List.mem_singleton] at hz
        subst hz
        exact hx)
    refine ⟨W, p', e', .succ ⟨K, fun k hk => ?_⟩, hW⟩
    have q := h k hk
    simp only [spec_l04Call.l0, h1, Option.bind_some]
    rw [if_pos (by omega), if_pos (by omega), wsucc (show i < 3 by omega) (by omega)]
    exact q
theorem callR {s : List Int} (hs : s.length ≤ 1048576) (p e : Int) (hp : 0 ≤ p) : ∃ a b W p' e', Evt (fun k => spec_l04Call.f k s p e) (a, b, W, p', e') ∧ ((0 ≤ a ∧ a ≤ 4294967295) ∧ (0 ≤ b ∧ b ≤ 4294967295) ∧ W.length = 3 ∧ ∀ y ∈ W, WideR y) ∧ 0 ≤ p' := by
  obtain ⟨a, p1, e1, h1, ha, hp1⟩ := pick hs p e hp [62, 62, 62, 62, 3] (by simp) (by simp)
  obtain ⟨b, p2, e2, h2, hb, hp2⟩ := pick hs p1 e1 hp1 [0, 1, 2, 3, 4, 6, 9, 11, 4294967295, 77] (by simp) (by simp)
  simp only [List.mem_cons, List.not_mem_nil, or_false] at ha hb
  obtain ⟨W, p', e', ⟨K, h⟩, hW3, hW, hp'⟩ := callR_l0 hs a b 3 0 p2 e2 [] (by omega) hp2 rfl (fun y hy => by simp at hy)
  refine ⟨a, b, W, p', e', ⟨K, fun k hk => ?_⟩, ⟨by omega, by omega, hW3, hW⟩, hp'⟩
  have q := h k hk
  simp only [spec_l04Call.f, h1, h2, Option.bind_some]
  exact q
theorem polR_l0 {s : List Int} (hs : s.length ≤ 1048576) (a b c : Int) : ∀ (d i : Nat) (p e : Int) (l : List S61), i + d = 5 → 0 ≤ p → l.length = i → i ≤ 4 → (∀ y ∈ l, RuleR y.f0 y.f1 y.f2 y.f3 ∧ y.f0.length ≤ 3 ∧ y.f1.length ≤ 2) → ∃ L p' e', Evt (fun k => spec_l09Policy.l0 k (i : Int) s p e a b c l) (a, b, c, L, p', e') ∧ L.length ≤ 4 ∧ (∀ y ∈ L, RuleR y.f0 y.f1 y.f2 y.f3 ∧ y.f0.length ≤ 3 ∧ y.f1.length ≤ 2) ∧ 0 ≤ p' := by
  intro d
  induction d with
  | zero =>
    intro i p e l hi hp hl hi2
    omega
  | succ d ih =>
    intro i p e l hi hp hl hi2 hc
    obtain ⟨r, p1, e1, h1, hr, hp1⟩ := below hs p e hp 5 (by omega) (by omega)
    by_cases hlt : (i : Int) < r
    · obtain ⟨N, R, x, y, p2, e2, ⟨K2, h2⟩, hw, hw3, hw2, hp2⟩ := madeR hs p1 e1 hp1
      obtain ⟨L, p', e', ⟨K, h⟩, hL, hcL, hp'⟩ := ih (i + 1) p2 e2 (l ++ [⟨N, R, x, y⟩]) (by omega) hp2 (by simp; omega) (by omega) (fun z hz => by
        rcases List.mem_append.1 hz with hz | hz
        · exact hc z hz
        · rw [List.mem_singleton] at hz
          subst hz
          exact ⟨hw, hw3, hw2⟩)
      refine ⟨L, p', e', .succ ⟨K + K2, fun k hk => ?_⟩, hL, hcL, hp'⟩
      have q := h k (by omega)
      have q2 := h2 k (by omega)
      simp only [spec_l09Policy.l0, h1, Option.bind_some]
      rw [if_pos hlt]
      simp only [q2, Option.bind_some]
      rw [if_pos (by omega), wsucc (show i < 5 by omega) (by omega)]
      exact q
    · refine ⟨l, p1, e1, .succ (.const fun k => ?_), by omega, hc, hp1⟩
      simp only [spec_l09Policy.l0, h1, Option.bind_some]
      rw [if_neg hlt]
/-- A drawn policy is right. -/
theorem polR {s : List Int} (hs : s.length ≤ 1048576) (p e : Int) (hp : 0 ≤ p) : ∃ b c L p' e', Evt (fun k => spec_l09Policy.f k s p e) (62, b, c, L, p', e') ∧ ((0 ≤ b ∧ b ≤ 5) ∧ (0 ≤ c ∧ c ≤ 65535)) ∧ L.length ≤ 4 ∧ (∀ y ∈ L, RuleR y.f0 y.f1 y.f2 y.f3 ∧ y.f0.length ≤ 3 ∧ y.f1.length ≤ 2) ∧ 0 ≤ p' := by
  obtain ⟨b, p1, e1, h1, hb, hp1⟩ := pick hs p e hp [5, 4, 0, 2] (by simp) (by simp)
  simp only [List.mem_cons, List.not_mem_nil, or_false] at hb
  have J : ∀ c : Int, (0 ≤ c ∧ c ≤ 65535) → ∃ L p' e', Evt (fun k => spec_l09Policy.j0 k s p1 e1 62 b c) (62, b, c, L, p', e') ∧ L.length ≤ 4 ∧ (∀ y ∈ L, RuleR y.f0 y.f1 y.f2 y.f3 ∧ y.f0.length ≤ 3 ∧ y.f1.length ≤ 2) ∧ 0 ≤ p' := fun c hc => by
    obtain ⟨L, p', e', ⟨K, h⟩, hL⟩ := polR_l0 hs 62 b c 5 0 p1 e1 [] (by omega) hp1 rfl (by omega) (fun y hy => by simp at hy)
    refine ⟨L, p', e', .succ ⟨K, fun k hk => ?_⟩, hL⟩
    have q := h k hk
    simp only [spec_l09Policy.j0]
    exact q
  by_cases h2 : b = 2
  · obtain ⟨L, p', e', ⟨K, h⟩, hL, hc, hp'⟩ := J 1 (by omega)
    refine ⟨b, 1, L, p', e', ⟨K, fun k hk => ?_⟩, by omega, hL, hc, hp'⟩
    have q := h k hk
    simp only [spec_l09Policy.f, h1, Option.bind_some]
    rw [if_pos h2]
    exact q
  · obtain ⟨L, p', e', ⟨K, h⟩, hL, hc, hp'⟩ := J 0 (by omega)
    refine ⟨b, 0, L, p', e', ⟨K, fun k hk => ?_⟩, by omega, hL, hc, hp'⟩
    have q := h k hk
    simp only [spec_l09Policy.f, h1, Option.bind_some]
    rw [if_neg h2]
    exact q
/-- Rules of some length. -/
def Len (l : List S61) : Prop := l.length ≤ 20 ∧ ∀ y ∈ l, y.f0.length ≤ 10 ∧ y.f1.length ≤ 10
theorem copyP_l0 (a b c a' b' c' : Int) (l : List S61) (hl : Len l) : ∀ (d i : Nat) (m : List S61), i + d = l.length → m = l.take i → Evt (fun k => spec_l09Copy.l0 k (i : Int) a b c l a' b' c' m) (a', b', c', l) := by
  intro d
  induction d with
  | zero =>
    intro i m hi hm
    rw [List.take_of_length_le (by omega)] at hm
    subst hm
    refine .succ (.const fun k => ?_)
    simp only [spec_l09Copy.l0]
    rw [if_neg (by omega)]
  | succ d ih =>
    intro i m hi hm
    have hlt : i < l.length := by omega
    obtain ⟨b1, b2⟩ := hl.2 l[i] (List.getElem_mem hlt)
    have hl20 := hl.1
    obtain ⟨K, hK⟩ := ih (i + 1) (m ++ [l[i]]) (by omega) (by rw [hm, List.take_succ_eq_append_getElem hlt])
    have hml : m.length ≤ 20 := by rw [hm, List.length_take]; omega
    have e1 : (([] : List Int) ++ l[i].f0) = l[i].f0 := List.nil_append _
    have e2 : (([] : List S50) ++ l[i].f1) = l[i].f1 := List.nil_append _
    refine .succ ⟨K, fun k hk => ?_⟩
    have q := hK k hk
    simp only [spec_l09Copy.l0, nrd_T61 l i hlt, Option.bind_some, e1, e2, List.length_nil, Nat.zero_add]
    rw [if_pos (by omega), if_pos (by omega), if_pos (by omega), if_pos (by omega), if_pos (by omega), wsucc hlt (by omega)]
    exact q
theorem copyP (a b c : Int) (l : List S61) (hl : Len l) : Evt (fun k => spec_l09Copy.f k a b c l) (a, b, c, l) := by
  obtain ⟨K, hK⟩ := copyP_l0 a b c a b c l hl l.length 0 [] (by omega) rfl
  exact ⟨K, fun k hk => hK k hk⟩
/-- A drawn policy, right or not. -/
theorem anyP {s : List Int} (hs : s.length ≤ 1048576) (p e : Int) (hp : 0 ≤ p) : ∃ a b c L p' e', Evt (fun k => spec_l09Any.f k s p e) (a, b, c, L, p', e') ∧ Len L ∧ 0 ≤ p' := by
  obtain ⟨t, p1, e1, h1, ht, hp1⟩ := below hs p e hp 12 (by omega) (by omega)
  obtain ⟨y, p2, e2, h2, hy, hp2⟩ := below hs p1 e1 hp1 60 (by omega) (by omega)
  obtain ⟨b, c, L, p3, e3, ⟨K3, h3⟩, _, hL, hR, hp3⟩ := polR hs p2 e2 hp2
  have hLen : Len L := ⟨by omega, fun z hz => by have := (hR z hz).2; omega⟩
  obtain ⟨K4, h4⟩ := copyP 62 b c L hLen
  have ey : ∀ n, 0 < n → Int.tmod y n = y % n := fun n hn => Int.tmod_eq_emod_of_nonneg hy.1
  have key : ∀ v : Int × Int × Int × List S61 × Int × Int, Len v.2.2.2.1 → v.2.2.2.2.1 = p3 → (∀ k, K3 + K4 ≤ k → spec_l09Any.f k s p e = some v) → ∃ a b c L p' e', Evt (fun k => spec_l09Any.f k s p e) (a, b, c, L, p', e') ∧ Len L ∧ 0 ≤ p' := fun v hv hp h => ⟨v.1, v.2.1, v.2.2.1, v.2.2.2.1, v.2.2.2.2.1, v.2.2.2.2.2, ⟨K3 + K4, h⟩, hv, by omega⟩
  have more : ∀ z : S61, z.f0.length ≤ 10 ∧ z.f1.length ≤ 10 → Len (L ++ [z]) := fun z hz => ⟨by simp; omega, fun u hu => by
    rcases List.mem_append.1 hu with hu | hu
    · exact hLen.2 u hu
    · rw [List.mem_singleton] at hu
      subst hu
      exact hz⟩
  have base : ∀ k, K3 + K4 ≤ k → spec_l09Policy.f k s p2 e2 = some (62, b, c, L, p3, e3) ∧ spec_l09Copy.f k 62 b c L = some (62, b, c, L) := fun k hk => ⟨h3 k (by omega), h4 k (by omega)⟩
  by_cases c0 : t = 0
  · refine key (rd [(-1), 4294967296, 0] (y % 3), b, c, L, p3, e3) hLen rfl fun k hk => ?_
    obtain ⟨g1, g2⟩ := base k hk
    simp only [spec_l09Any.f, h1, h2, g1, g2, Option.bind_some, ey 3 (by omega)]
    rw [if_pos c0, if_pos (by omega), if_pos (by show _ < ((3 : Nat) : Int); omega)]
  by_cases c1 : t = 1
  · refine key (62, y % 8, c, L, p3, e3) hLen rfl fun k hk => ?_
    obtain ⟨g1, g2⟩ := base k hk
    simp only [spec_l09Any.f, h1, h2, g1, g2, Option.bind_some, ey 8 (by omega)]
    rw [if_neg c0, if_pos c1]
  by_cases c2 : t = 2
  · refine key (62, b, c, L ++ [⟨[3, 2], [], 0, 0⟩], p3, e3) (more _ ⟨by simp, by simp⟩) rfl fun k hk => ?_
    obtain ⟨g1, g2⟩ := base k hk
    simp only [spec_l09Any.f, h1, h2, g1, g2, Option.bind_some]
    rw [if_neg c0, if_neg c1, if_pos c2, if_pos (by omega)]
  by_cases c3 : t = 3
  · refine key (62, b, c, L ++ [⟨[], [⟨y % 5, ⟨0, 0⟩, y % 8, ⟨0, 0⟩⟩], 0, 0⟩], p3, e3) (more _ ⟨by simp, by simp⟩) rfl fun k hk => ?_
    obtain ⟨g1, g2⟩ := base k hk
    simp only [spec_l09Any.f, h1, h2, g1, g2, Option.bind_some, ey 5 (by omega), ey 8 (by omega)]
    rw [if_neg c0, if_neg c1, if_neg c2, if_pos c3, if_pos (by omega)]
  by_cases c4 : t = 4
  · have ew : wrap64 (10 + y % 2) = 10 + y % 2 := w64 (by omega) (by omega)
    refine key (62, b, c, List.replicate (10 + y % 2).toNat z61, p3, e3) ⟨by rw [List.length_replicate]; omega, fun u hu => by
      obtain ⟨_, rfl⟩ := List.mem_replicate.1 hu
      exact ⟨by simp [z61], by simp [z61]⟩⟩ rfl fun k hk => ?_
    obtain ⟨g1, g2⟩ := base k hk
    simp only [spec_l09Any.f, h1, h2, g1, g2, Option.bind_some, ey 2 (by omega), ew]
    rw [if_neg c0, if_neg c1, if_neg c2, if_neg c3, if_pos c4, if_pos (by omega), if_pos (by omega)]
  by_cases c5 : t = 5
  · refine key (62, b, 65536, L, p3, e3) hLen rfl fun k hk => ?_
    obtain ⟨g1, g2⟩ := base k hk
    simp only [spec_l09Any.f, h1, h2, g1, g2, Option.bind_some]
    rw [if_neg c0, if_neg c1, if_neg c2, if_neg c3, if_neg c4, if_pos c5]
  · refine key (62, b, c, L, p3, e3) hLen rfl fun k hk => ?_
    obtain ⟨g1, g2⟩ := base k hk
    simp only [spec_l09Any.f, h1, h2, g1, g2, Option.bind_some]
    rw [if_neg c0, if_neg c1, if_neg c2, if_neg c3, if_neg c4, if_neg c5]
/-- A drawn call, right or not. -/
theorem anyC {s : List Int} (hs : s.length ≤ 1048576) (p e : Int) (hp : 0 ≤ p) : ∃ a b W p' e', Evt (fun k => spec_l04Any.f k s p e) (a, b, W, p', e') ∧ W.length ≤ 3 ∧ 0 ≤ p' := by
  obtain ⟨t, p1, e1, h1, ht, hp1⟩ := below hs p e hp 10 (by omega) (by omega)
  obtain ⟨a, b, W, p2, e2, ⟨K, h2⟩, ⟨ha, hb, hW, _⟩, hp2⟩ := callR hs p1 e1 hp1
  obtain ⟨v, p3, e3, h3, hv, hp3⟩ := pick hs p2 e2 hp2 [(-1), 4294967296] (by simp) (by simp)
  by_cases c0 : t = 0
  · refine ⟨a, v, W, p3, e3, ⟨K, fun k hk => ?_⟩, by omega, hp3⟩
    have g2 := h2 k hk
    simp only [spec_l04Any.f, h1, g2, Option.bind_some, h3]
    rw [if_pos c0]
  by_cases c1 : t = 1
  · refine ⟨a, b, W.drop (1 : Int).toNat, p2, e2, ⟨K, fun k hk => ?_⟩, by rw [List.length_drop]; omega, hp2⟩
    have g2 := h2 k hk
    simp only [spec_l04Any.f, h1, g2, Option.bind_some]
    rw [if_neg c0, if_pos c1, if_pos (by omega)]
  by_cases c2 : t = 2
  · refine ⟨a, b, W.set (1 : Int).toNat ⟨-1, (rd_T48 W 1).f1⟩, p2, e2, ⟨K, fun k hk => ?_⟩, by rw [List.length_set]; omega, hp2⟩
    have g2 := h2 k hk
    simp only [spec_l04Any.f, h1, g2, Option.bind_some]
    rw [if_neg c0, if_neg c1, if_pos c2, if_pos (by omega)]
  by_cases c3 : t = 3
  · refine ⟨4294967296, b, W, p2, e2, ⟨K, fun k hk => ?_⟩, by omega, hp2⟩
    have g2 := h2 k hk
    simp only [spec_l04Any.f, h1, g2, Option.bind_some]
    rw [if_neg c0, if_neg c1, if_neg c2, if_pos c3]
  · refine ⟨a, b, W, p2, e2, ⟨K, fun k hk => ?_⟩, by omega, hp2⟩
    have g2 := h2 k hk
    simp only [spec_l04Any.f, h1, g2, Option.bind_some]
    rw [if_neg c0, if_neg c1, if_neg c2, if_neg c3]
theorem callT (a b : Int) (l : List S48) (ha : 0 ≤ a ∧ a ≤ 4294967295) (hb : 0 ≤ b ∧ b ≤ 4294967295) (hl : l.length = 3) (hw : ∀ y ∈ l, WideR y) : ∀ k, 4 ≤ k → impl_CallOk.f k a b l = some true := by
  have key : ∀ (d i : Nat), i + d = 3 → ∀ k, d < k → impl_CallOk.l0 k l (l.length : Int) (i : Int) a b l = some true := by
    intro d
    induction d with
    | zero =>
      intro i hi k hk
      obtain ⟨k, rfl⟩ : ∃ m, k = m + 1 := ⟨k - 1, by omega⟩
      simp only [impl_CallOk.l0]
      rw [if_neg (by omega)]
      simp only [halfI, Option.bind_some]
      rw [decide_eq_true ha, if_pos rfl, decide_eq_true hb, if_pos rfl, hl]
      rfl
    | succ d ih =>
      intro i hi k hk
      obtain ⟨k, rfl⟩ : ∃ m, k = m + 1 := ⟨k - 1, by omega⟩
      have hlt : i < l.length := by omega
      have h : (0 ≤ l[i].f0 ∧ l[i].f0 ≤ 4294967295) ∧ (0 ≤ l[i].f1 ∧ l[i].f1 ≤ 4294967295) := hw l[i] (List.getElem_mem hlt)
      have q := ih (i + 1) (by omega) k (by omega)
      simp only [impl_CallOk.l0]
      rw [if_pos (by omega), if_pos (by omega), if_pos (by omega), rd_nat48 l i hlt, wsucc hlt (by omega), wideI]
      simp only [Option.bind_some, decide_eq_true_eq]
      rw [if_pos h]
      exact q
  intro k hk
  exact key 3 0 (by omega) k (by omega)
theorem ruleT (x : List Int) (l : List S50) (a b : Int) (h : RuleR x l a b) : Evt (fun k => impl_ruleOk.f k x l a b) true := by
  obtain ⟨⟨hx1, hx2⟩, hl, hx4, hl3, ha, hb⟩ := h
  have one : ∀ (d i : Nat), i + d = l.length → Evt (fun k => impl_ruleOk.l1 k l (l.length : Int) (i : Int) x l a b) true := by
    intro d
    induction d with
    | zero =>
      intro i hi
      refine .succ (.const fun k => ?_)
      simp only [impl_ruleOk.l1]
      rw [if_neg (by omega), if_pos (by omega), if_pos (by omega)]
      simp only [impl_actionOk.f, inI, Option.bind_some]
      rw [decide_eq_true ha, if_pos rfl, decide_eq_true hb]
      rfl
    | succ d ih =>
      intro i hi
      have hlt : i < l.length := by omega
      have hc := hl l[i] (List.getElem_mem hlt)
      unfold CondR at hc
      obtain ⟨K, hK⟩ := ih (i + 1) (by omega)
      refine .succ ⟨K, fun k hk => ?_⟩
      have q := hK k hk
      simp only [impl_ruleOk.l1]
      rw [if_pos (by omega), if_pos (by omega), if_pos (by omega), nrd_T50 l i hlt, condI, wsucc hlt (by omega)]
      simp only [Option.bind_some, decide_eq_true_eq]
      rw [if_pos hc]
      exact q
  have two : ∀ (d i : Nat), i + d = x.length → Evt (fun k => impl_ruleOk.l0 k x (x.length : Int) (i : Int) x l a b) true := by
    intro d
    induction d with
    | zero =>
      intro i hi
      obtain ⟨K, hK⟩ := one l.length 0 (by omega)
      refine .succ ⟨K, fun k hk => ?_⟩
      have q := hK k hk
      simp only [impl_ruleOk.l0]
      rw [if_neg (by omega)]
      exact q
    | succ d ih =>
      intro i hi
      have hlt : i < x.length := by omega
      obtain ⟨K, hK⟩ := ih (i + 1) (by omega)
      have hc := hx1 i hlt
      refine .succ ⟨K, fun k hk => ?_⟩
      have q := hK k hk
      simp only [impl_ruleOk.l0]
      rw [if_pos (by omega), if_pos (by omega), if_pos (by omega), nrd x i hlt, halfI, wsucc hlt (by omega)]
      simp only [Option.bind_some]
      rw [decide_eq_true hc, if_pos rfl]
      by_cases h0 : (i : Int) > 0
      · obtain ⟨j, rfl⟩ : ∃ j, i = j + 1 := ⟨i - 1, by omega⟩
        have ew : wrap64 (((j + 1 : Nat) : Int) - 1) = (j : Int) := by rw [w64 (by omega) (by omega)]; omega
        have hj := hx2 j hlt
        rw [if_pos h0, ew, if_pos (by omega), if_pos (by omega), nrd x j (by omega), if_neg (by omega)]
        exact q
      · rw [if_neg h0]
        exact q
  exact two x.length 0 (by omega)
theorem polT (a b c : Int) (l : List S61) (ha : 0 ≤ a ∧ a ≤ 4294967295) (hb : 0 ≤ b ∧ b ≤ 5) (hc : 0 ≤ c ∧ c ≤ 65535) (hl : l.length ≤ 10) (hr : ∀ y ∈ l, RuleR y.f0 y.f1 y.f2 y.f3) : Evt (fun k => impl_PolicyOk.f k a b c l) true := by
  have key : ∀ (d i : Nat), i + d = l.length → Evt (fun k => impl_PolicyOk.l0 k l (l.length : Int) (i : Int) a b c l) true := by
    intro d
    induction d with
    | zero =>
      intro i hi
      refine .succ (.const fun k => ?_)
      simp only [impl_PolicyOk.l0]
      rw [if_neg (by omega)]
      simp only [impl_actionOk.f, inI, halfI, Option.bind_some]
      rw [decide_eq_true ha, if_pos rfl, decide_eq_true hb, if_pos rfl, decide_eq_true hc]
      simp only [Option.bind_some, if_true, decide_eq_true (show (l.length : Int) ≤ 10 by omega)]
    | succ d ih =>
      intro i hi
      have hlt : i < l.length := by omega
      obtain ⟨K1, h1⟩ := ruleT l[i].f0 l[i].f1 l[i].f2 l[i].f3 (hr l[i] (List.getElem_mem hlt))
      obtain ⟨K, hK⟩ := ih (i + 1) (by omega)
      refine .succ ⟨K + K1, fun k hk => ?_⟩
      have q := hK k (by omega)
      have q1 := h1 k (by omega)
      dsimp only at q q1
      simp only [impl_PolicyOk.l0]
      rw [if_pos (by omega), if_pos (by omega), if_pos (by omega), nrd_T61 l i hlt, wsucc hlt (by omega), q1]
      simp only [Option.bind_some, if_true]
      exact q
  exact key l.length 0 (by omega)
theorem main (l : List Int) : ∃ k, laws_FnDecides.f k l = some true := by
  by_cases hb : (l.length : Int) > 1048576
  · refine ⟨0, ?_⟩
    simp only [laws_FnDecides.f, laws_big.f, Option.bind_some, decide_eq_true hb, if_true]
  have hs : l.length ≤ 1048576 := by omega
  obtain ⟨e0, K0, h0⟩ := newC l hs
  -- the right policy and call
  obtain ⟨b, c, L, p1, e1, ⟨K1, h1⟩, ⟨hbb, hcc⟩, hL, hR, hp1⟩ := polR hs 0 e0 (by omega)
  obtain ⟨d, e, W, p2, e2, ⟨K2, h2⟩, ⟨hd, he, hW, hWw⟩, hp2⟩ := callR hs p1 e1 hp1
  -- the drawn ones, right or not
  obtain ⟨a3, b3, W3, p3, e3, ⟨K3, h3⟩, hW3, hp3⟩ := anyC hs 0 e0 (by omega)
  obtain ⟨a4, b4, c4, L4, p4, e4, ⟨K4, h4⟩, hL4, _⟩ := anyP hs p3 e3 hp3
  obtain ⟨a5, b5, c5, L5, p5, e5, ⟨K5, h5⟩, hL5, _⟩ := anyP hs 0 e0 (by omega)
  have big : ∀ (l : List S61), Len l → l.length ≤ 4611686018427387904 ∧ ∀ y ∈ l, y.f0.length ≤ 4611686018427387904 ∧ y.f1.length ≤ 4611686018427387904 := fun l hl => ⟨by have := hl.1; omega, fun y hy => by have := hl.2 y hy; omega⟩
  have hLen : Len L := ⟨by omega, fun z hz => by have := (hR z hz).2; omega⟩
  obtain ⟨v6, ⟨K6, h6⟩, ⟨K7, h7⟩⟩ := dec a4 b4 c4 L4 a3 b3 W3 (big _ hL4).1 (big _ hL4).2 (by omega)
  obtain ⟨v8, ⟨K8, h8⟩, ⟨K9, h9⟩⟩ := pol a5 b5 c5 L5 (big _ hL5).1 (big _ hL5).2
  obtain ⟨K10, h10⟩ := polT 62 b c L (by omega) hbb hcc (by omega) (fun y hy => (hR y hy).1)
  have hcall := callT d e W hd he hW hWw
  dsimp only at h0 h1 h2 h3 h4 h5 h6 h7 h8 h9 h10
  -- what decides, from each rule on
  have each : ∀ (m i : Nat), i + m = L.length → ∃ r, Evt (fun k => impl_Decide.l0 k L (L.length : Int) (i : Int) 62 b c L d e W) r := by
    intro m
    induction m with
    | zero =>
      intro i hi
      obtain ⟨v, hv⟩ := res b c
      exact ⟨v, .succ (.const fun k => by simp only [impl_Decide.l0]; rw [if_neg (by omega), resI, hv]; rfl)⟩
    | succ m ih =>
      intro i hi
      have hlt : i < L.length := by omega
      obtain ⟨r, K, hK⟩ := ih (i + 1) (by omega)
      have hr := hR L[i] (List.getElem_mem hlt)
      obtain ⟨t, _, ⟨Kt, ht⟩⟩ := rul L[i].f0 L[i].f1 L[i].f2 L[i].f3 d e W (by omega) (by omega) (by omega)
      obtain ⟨v, hv⟩ := res L[i].f2 L[i].f3
      dsimp only at hK ht
      refine ⟨if t = true then v else r, .succ ⟨K + Kt, fun k hk => ?_⟩⟩
      have q := hK k (by omega)
      have qt := ht k (by omega)
      simp only [impl_Decide.l0]
      rw [if_pos (by omega), if_pos (by omega), if_pos (by omega), nrd_T61 L i hlt, qt, wsucc hlt (by omega)]
      simp only [Option.bind_some, resI, hv]
      cases t with
      | true => rfl
      | false => exact q
  obtain ⟨r0, K11, h11⟩ := each L.length 0 (by omega)
  dsimp only at h11
  -- the law's end
  have fin : ∀ want : Int, want = (if d = 62 then r0 else 0) → Evt (fun k => laws_FnDecides.j1 k l want 62 b c L d e W) true := fun want hw => by
    refine .succ ⟨K0 + K3 + K4 + K5 + K6 + K7 + K8 + K9 + K10 + K11 + 10, fun k hk => ?_⟩
    obtain ⟨j, rfl⟩ : ∃ j, k = j + 1 := ⟨k - 1, by omega⟩
    have dd : spec_DrawDecide.f (j + 1) l = some (a4, b4, c4, L4, a3, b3, W3) := by
      simp only [spec_DrawDecide.f, h0 (j + 1) (by omega), Option.bind_some, h3 (j + 1) (by omega), h4 (j + 1) (by omega)]
    have dp : spec_DrawPolicyOk.f (j + 1) l = some (a5, b5, c5, L5) := by
      simp only [spec_DrawPolicyOk.f, h0 (j + 1) (by omega), Option.bind_some, h5 (j + 1) (by omega)]
    have dc : impl_Decide.f (j + 1) 62 b c L d e W = some want := by
      simp only [impl_Decide.f, h10 (j + 1) (by omega), Option.bind_some, hcall (j + 1) (by omega), if_true, impl_Decide.j0]
      by_cases hde : d = 62
      · rw [if_pos hde] at hw
        subst hde hw
        rw [if_neg (by simp)]
        exact h11 j (by omega)
      · rw [if_neg hde] at hw
        subst hw
        have : ((62 : Int) != d) = true := by simp; omega
        rw [this, if_pos rfl, res0]
        rfl
    simp only [laws_FnDecides.j1, dd, dp, dc, Option.bind_some, if_true, h6 (j + 1) (by omega), h7 (j + 1) (by omega), h8 (j + 1) (by omega), h9 (j + 1) (by omega), h10 (j + 1) (by omega), beq_self_eq_true]
  -- the loop from the last rule to the first
  have loop : ∀ (i : Nat) (r : Int), i ≤ L.length → Evt (fun k => impl_Decide.l0 k L (L.length : Int) (i : Int) 62 b c L d e W) r → Evt (fun k => laws_FnDecides.l0 k l r ((i : Int) - 1) 62 b c L d e W) true := by
    intro i
    induction i with
    | zero =>
      intro r hi hr
      have er : r = r0 := hr.uniq ⟨K11, h11⟩
      subst er
      by_cases hde : d = 62
      · obtain ⟨K, hK⟩ := fin r (by rw [if_pos hde])
        refine .succ ⟨K, fun k hk => ?_⟩
        have q := hK k hk
        simp only [laws_FnDecides.l0]
        rw [if_neg (by omega), if_pos hde]
        exact q
      · obtain ⟨K, hK⟩ := fin 0 (by rw [if_neg hde])
        refine .succ ⟨K, fun k hk => ?_⟩
        have q := hK k hk
        simp only [laws_FnDecides.l0]
        rw [if_neg (by omega), if_neg hde]
        exact q
    | succ i ih =>
      intro r hi hr
      have hlt : i < L.length := by omega
      have hb := hR L[i] (List.getElem_mem hlt)
      obtain ⟨t, _, ⟨Kt, ht⟩⟩ := rul L[i].f0 L[i].f1 L[i].f2 L[i].f3 d e W (by omega) (by omega) (by omega)
      obtain ⟨v, hv⟩ := res L[i].f2 L[i].f3
      have ei : ((i + 1 : Nat) : Int) - 1 = (i : Int) := by omega
      have ew : wrap64 ((i : Int) - 1) = (i : Int) - 1 := w64 (by omega) (by omega)
      dsimp only at ht
      obtain ⟨Kr, hKr⟩ := hr
      dsimp only at hKr
      rw [ei]
      cases t with
      | true =>
        obtain ⟨K, hK⟩ := ih v (by omega) (.succ ⟨Kt, fun k hk => by
          have qt := ht k hk
          simp only [impl_Decide.l0]
          rw [if_pos (by omega), if_pos (by omega), if_pos (by omega), nrd_T61 L i hlt, qt]
          simp only [Option.bind_some, if_true, resI, hv]⟩)
        refine .succ ⟨K + Kt, fun k hk => ?_⟩
        have q := hK k (by omega)
        have qt := ht k (by omega)
        simp only [laws_FnDecides.l0]
        rw [if_pos (by omega), if_pos (by omega), if_pos (by omega), nrd_T61 L i hlt, qt]
        simp only [Option.bind_some, if_true, resI, hv, ew]
        exact q
      | false =>
        obtain ⟨K, hK⟩ := ih r (by omega) (.succ ⟨Kt + Kr, fun k hk => by
          have qt := ht k (by omega)
          have qr := hKr k (by omega)
          simp only [impl_Decide.l0]
          rw [if_pos (by omega), if_pos (by omega), if_pos (by omega), nrd_T61 L i hlt, qt, wsucc hlt (by omega)]
          simp only [Option.bind_some, Bool.false_eq_true, if_false]
          exact qr⟩)
        refine .succ ⟨K + Kt, fun k hk => ?_⟩
        have q := hK k (by omega)
        have qt := ht k (by omega)
        simp only [laws_FnDecides.l0]
        rw [if_pos (by omega), if_pos (by omega), if_pos (by omega), nrd_T61 L i hlt, qt]
        simp only [Option.bind_some, Bool.false_eq_true, if_false, ew]
        exact q
  obtain ⟨v, hv⟩ := res b c
  obtain ⟨K12, h12⟩ := loop L.length v (Nat.le_refl _) (.succ (.const fun k => by simp only [impl_Decide.l0]; rw [if_neg (by omega), resI, hv]; rfl))
  dsimp only at h12
  have ew : wrap64 ((L.length : Int) - 1) = (L.length : Int) - 1 := w64 (by omega) (by omega)
  refine ⟨K0 + K1 + K2 + K12, ?_⟩
  have dp : spec_DrawPolicy.f (K0 + K1 + K2 + K12) l = some (62, b, c, L, d, e, W) := by
    simp only [spec_DrawPolicy.f, h0 _ (show K0 ≤ K0 + K1 + K2 + K12 by omega), Option.bind_some, h1 _ (show K1 ≤ K0 + K1 + K2 + K12 by omega), h2 _ (show K2 ≤ K0 + K1 + K2 + K12 by omega)]
  have q := h12 (K0 + K1 + K2 + K12) (by omega)
  simp only [laws_FnDecides.f, laws_big.f, Option.bind_some, decide_eq_false hb, Bool.false_eq_true, if_false, dp, resI, hv, ew]
  exact q
end Go.Proofs.Ytlgndgjbfjefpaa.PFnDecides
