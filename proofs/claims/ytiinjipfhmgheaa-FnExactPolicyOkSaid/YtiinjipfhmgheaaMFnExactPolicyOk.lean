/- The pure law of FnExactPolicyOk: what the functions of the program and of the reference come to is the same, for all arguments that the law is asked of. No conditions. -/
import Derived.Test.YtiinjipfhmgheaaPFnExactPolicyOky6
import Derived.Test.YtiinjipfhmgheaaEV
set_option linter.unusedSimpArgs false
set_option linter.unusedVariables false
namespace Go.Proofs.Ytiinjipfhmgheaa.PFnExactPolicyOk
open Go Go.RowKit Go.Proofs.YtiinjipfhmgheaaW.PrintWords Go.Proofs.YtiinjipfhmgheaaW.PrintLast Go.Proofs.YtiinjipfhmgheaaW.PK
theorem Elaws_szIntS (l : List (Int)) (q : Int) (hq : 0 ≤ q) (hq' : q ≤ 1048576) (hm : l.length ≤ maxLen) : ∃ s : Int, s ≤ q ∧ (0 ≤ s → l.length ≤ 1048576) ∧ Evt (fun k => laws_szIntS.f l q) s := by
  unfold maxLen at hm
  have e : wrap64 (q - (l.length : Int)) = q - l.length := w64 (by omega) (by omega)
  by_cases hn : q - (l.length : Int) < 0
  · exact ⟨-1, by omega, fun h => by omega, .const fun k => by simp only [laws_szIntS.f, e, if_pos hn]⟩
  · exact ⟨q - l.length, by omega, fun h => by omega, .const fun k => by simp only [laws_szIntS.f, e, if_neg hn]⟩
theorem Elaws_szCondS (l : List (S32)) (q : Int) (hq : 0 ≤ q) (hq' : q ≤ 1048576) (hm : l.length ≤ maxLen) : ∃ s : Int, s ≤ q ∧ (0 ≤ s → l.length ≤ 1048576) ∧ Evt (fun k => laws_szCondS.f l q) s := by
  unfold maxLen at hm
  have e : wrap64 (q - (l.length : Int)) = q - l.length := w64 (by omega) (by omega)
  by_cases hn : q - (l.length : Int) < 0
  · exact ⟨-1, by omega, fun h => by omega, .const fun k => by simp only [laws_szCondS.f, e, if_pos hn]⟩
  · exact ⟨q - l.length, by omega, fun h => by omega, .const fun k => by simp only [laws_szCondS.f, e, if_neg hn]⟩
theorem Elaws_szRule (l0_0 : List Int) (l0_1 : List (S32)) (a0_2 : Int) (a0_3 : Int) (q : Int) (hq : 0 ≤ q) (hq' : q ≤ 1048576) (hl0_0 : ((∀ u4 ∈ l0_0, (Lit.int .i64 u4).wf = true) ∧ l0_0.length ≤ maxLen)) (hl0_1 : ((∀ u4 ∈ l0_1, ((Lit.int .i64 u4.f0).wf = true ∧ ((Lit.int .i64 u4.f1.f0).wf = true ∧ (Lit.int .i64 u4.f1.f1).wf = true) ∧ (Lit.int .i64 u4.f2).wf = true ∧ ((Lit.int .i64 u4.f3.f0).wf = true ∧ (Lit.int .i64 u4.f3.f1).wf = true))) ∧ l0_1.length ≤ maxLen)) : ∃ s : Int, s ≤ q ∧ (0 ≤ s → (l0_0.length ≤ 1048576 ∧ l0_1.length ≤ 1048576)) ∧ Evt (fun k => laws_szRule.f l0_0 l0_1 a0_2 a0_3 q) s := by
  obtain ⟨s0, hs0, hB0, K0, e0⟩ := Elaws_szIntS l0_0 (q) (by omega) (by omega) hl0_0.2
  by_cases n0 : s0 < 0
  · exact ⟨-1, by omega, fun h => by omega, 0 + K0, fun k hk => by simp only [laws_szRule.f, e0 k (by omega), Option.bind_some, if_pos n0]⟩
  obtain ⟨s1, hs1, hB1, K1, e1⟩ := Elaws_szCondS l0_1 (s0) (by omega) (by omega) hl0_1.2
  by_cases n1 : s1 < 0
  · exact ⟨-1, by omega, fun h => by omega, 0 + K0 + K1, fun k hk => by simp only [laws_szRule.f, e0 k (by omega), e1 k (by omega), Option.bind_some, if_neg n0, if_pos n1]⟩
  exact ⟨s1, by omega, fun h => ⟨hB0 (by omega), hB1 (by omega)⟩, 0 + K0 + K1, fun k hk => by simp only [laws_szRule.f, e0 k (by omega), e1 k (by omega), Option.bind_some, if_neg n0, if_neg n1]⟩
theorem nrd_T97 (l : List (S97)) (i : Nat) (h : i < l.length) : rd_T97 l (i : Int) = l[i] := getD_lt _ h
theorem Elaws_szRuleS (l : List (S97)) (q : Int) (hq : 0 ≤ q) (hq' : q ≤ 1048576) (hm : l.length ≤ maxLen) (hw : ∀ x ∈ l, (((∀ u4 ∈ x.f0, (Lit.int .i64 u4).wf = true) ∧ x.f0.length ≤ maxLen) ∧ ((∀ u4 ∈ x.f1, ((Lit.int .i64 u4.f0).wf = true ∧ ((Lit.int .i64 u4.f1.f0).wf = true ∧ (Lit.int .i64 u4.f1.f1).wf = true) ∧ (Lit.int .i64 u4.f2).wf = true ∧ ((Lit.int .i64 u4.f3.f0).wf = true ∧ (Lit.int .i64 u4.f3.f1).wf = true))) ∧ x.f1.length ≤ maxLen) ∧ (Lit.int .i64 x.f2).wf = true ∧ (Lit.int .i64 x.f3).wf = true)) : ∃ s : Int, s ≤ q ∧ (0 ≤ s → l.length ≤ 1048576 ∧ ∀ y ∈ l, (y.f0.length ≤ 1048576 ∧ y.f1.length ≤ 1048576)) ∧ Evt (fun k => laws_szRuleS.f k l q) s := by
  unfold maxLen at hm
  have e : wrap64 (q - (l.length : Int)) = q - l.length := w64 (by omega) (by omega)
  by_cases hn : q - (l.length : Int) < 0
  · exact ⟨-1, by omega, fun h => by omega, .const fun k => by simp only [laws_szRuleS.f, e, if_pos hn]⟩
  · have H := Evt.sz (F := fun k q i => laws_szRuleS.l0 k l q i) (n := l.length) (P := fun i => ∀ h : i < l.length, (l[i].f0.length ≤ 1048576 ∧ l[i].f1.length ≤ 1048576)) ?_ ?_ (q - l.length) (by omega) (by omega)
    · obtain ⟨s, hs, hP, hE⟩ := H
      refine ⟨s, by omega, fun h => ⟨by omega, fun y hy => ?_⟩, hE.congr fun k => ?_⟩
      · obtain ⟨i, hi, rfl⟩ := List.mem_iff_getElem.1 hy
        exact hP h i hi hi
      · simp only [laws_szRuleS.f, e, if_neg hn]
    · intro k q
      simp only [laws_szRuleS.l0]
      rw [if_neg (by omega)]
    · intro i hi q hq hq'
      obtain ⟨s, hs, hP, K, hK⟩ := Elaws_szRule l[i].f0 l[i].f1 l[i].f2 l[i].f3 q hq hq' ((hw _ (List.getElem_mem hi)).1) ((hw _ (List.getElem_mem hi)).2.1)
      dsimp only at hK
      refine ⟨s, hs, fun h _ => hP h, K, fun k hk => ?_⟩
      simp only [laws_szRuleS.l0]
      rw [if_pos (by omega), if_pos (by omega), nrd_T97 l i hi, hK k hk, wsucc hi (by omega)]
      all_goals rfl
theorem Elaws_szPolicy (a0_0 : Int) (a0_1 : Int) (a0_2 : Int) (l0_3 : List (S97)) (q : Int) (hq : 0 ≤ q) (hq' : q ≤ 1048576) (hl0_3 : ((∀ u4 ∈ l0_3, (((∀ u5 ∈ u4.f0, (Lit.int .i64 u5).wf = true) ∧ u4.f0.length ≤ maxLen) ∧ ((∀ u5 ∈ u4.f1, ((Lit.int .i64 u5.f0).wf = true ∧ ((Lit.int .i64 u5.f1.f0).wf = true ∧ (Lit.int .i64 u5.f1.f1).wf = true) ∧ (Lit.int .i64 u5.f2).wf = true ∧ ((Lit.int .i64 u5.f3.f0).wf = true ∧ (Lit.int .i64 u5.f3.f1).wf = true))) ∧ u4.f1.length ≤ maxLen) ∧ (Lit.int .i64 u4.f2).wf = true ∧ (Lit.int .i64 u4.f3).wf = true)) ∧ l0_3.length ≤ maxLen)) : ∃ s : Int, s ≤ q ∧ (0 ≤ s → (l0_3.length ≤ 1048576 ∧ ∀ v4 ∈ l0_3, (v4.f0.length ≤ 1048576 ∧ v4.f1.length ≤ 1048576))) ∧ Evt (fun k => laws_szPolicy.f k a0_0 a0_1 a0_2 l0_3 q) s := by
  obtain ⟨s0, hs0, hB0, K0, e0⟩ := Elaws_szRuleS l0_3 (q) (by omega) (by omega) hl0_3.2 hl0_3.1
  by_cases n0 : s0 < 0
  · exact ⟨-1, by omega, fun h => by omega, 0 + K0, fun k hk => by simp only [laws_szPolicy.f, e0 k (by omega), Option.bind_some, if_pos n0]⟩
  exact ⟨s0, by omega, fun h => hB0 (by omega), 0 + K0, fun k hk => by simp only [laws_szPolicy.f, e0 k (by omega), Option.bind_some, if_neg n0]⟩
theorem nrd (l : List (Int)) (i : Nat) (h : i < l.length) : rd l (i : Int) = l[i] := getD_lt _ h
theorem Elaws_toIntS (l : List (Int)) (hn : l.length ≤ 1048576) : Evt (fun k => laws_toIntS.f k l) (l.map (fun y => y)) := by
  have h := Evt.to (F := fun k y i => laws_toIntS.l0 k l y i) (x := l) (conv := (fun y => y)) ?_ ?_ (List.replicate l.length 0) (by simp)
  · refine h.congr fun k => ?_
    unfold laws_toIntS.f
    rw [if_pos (by omega), if_pos (by omega), Int.toNat_natCast]
  · intro k y
    simp only [laws_toIntS.l0]
    rw [if_neg (by omega)]
  · intro i hi
    have K : Nat := 0
    refine ⟨0, fun k hk y hy => ?_⟩
    simp only [laws_toIntS.l0]
    rw [if_pos (by omega), if_pos (by omega), nrd l i hi]
    rw [if_pos (by omega), wsucc hi (by omega), Int.toNat_natCast]
    all_goals rfl
theorem Elaws_toWide (a0_0 : Int) (a0_1 : Int) : Evt (fun k => laws_toWide.f a0_0 a0_1) (a0_0, a0_1) := by
  exact .const fun k => rfl
theorem Elaws_toCond (a0_0 : Int) (a0_1 : Int) (a0_2 : Int) (a0_3 : Int) (a0_4 : Int) (a0_5 : Int) : Evt (fun k => laws_toCond.f a0_0 a0_1 a0_2 a0_3 a0_4 a0_5) (a0_0, a0_1, a0_2, a0_3, a0_4, a0_5) := by
  exact .const fun k => rfl
def conv30 (a : S30) : S38 := ⟨a.f0, a.f1⟩
def conv32 (a : S32) : S40 := ⟨a.f0, (conv30 a.f1), a.f2, (conv30 a.f3)⟩
theorem nrd_T32 (l : List (S32)) (i : Nat) (h : i < l.length) : rd_T32 l (i : Int) = l[i] := getD_lt _ h
theorem Elaws_toCondS (l : List (S32)) (hn : l.length ≤ 1048576) : Evt (fun k => laws_toCondS.f k l) (l.map conv32) := by
  have h := Evt.to (F := fun k y i => laws_toCondS.l0 k l y i) (x := l) (conv := conv32) ?_ ?_ (List.replicate l.length z40) (by simp)
  · refine h.congr fun k => ?_
    unfold laws_toCondS.f
    rw [if_pos (by omega), if_pos (by omega), Int.toNat_natCast]
  · intro k y
    simp only [laws_toCondS.l0]
    rw [if_neg (by omega)]
  · intro i hi
    obtain ⟨K, hK⟩ := Elaws_toCond l[i].f0 l[i].f1.f0 l[i].f1.f1 l[i].f2 l[i].f3.f0 l[i].f3.f1
    dsimp only at hK
    refine ⟨K, fun k hk y hy => ?_⟩
    simp only [laws_toCondS.l0]
    rw [if_pos (by omega), if_pos (by omega), nrd_T32 l i hi, hK k hk]
    simp only [Option.bind_some]
    rw [if_pos (by omega), wsucc hi (by omega), Int.toNat_natCast]
    all_goals rfl
theorem Elaws_toRule (l0_0 : List Int) (l0_1 : List (S32)) (a0_2 : Int) (a0_3 : Int) (hl0_0 : l0_0.length ≤ 1048576) (hl0_1 : l0_1.length ≤ 1048576) : Evt (fun k => laws_toRule.f k l0_0 l0_1 a0_2 a0_3) ((l0_0.map (fun y => y)), (l0_1.map conv32), a0_2, a0_3) := by
  obtain ⟨K0, h0⟩ := Elaws_toIntS l0_0 hl0_0
  obtain ⟨K1, h1⟩ := Elaws_toCondS l0_1 hl0_1
  refine ⟨K0 + K1, fun k hk => ?_⟩
  simp only [laws_toRule.f, h0 k (by omega), h1 k (by omega), Option.bind_some]
  all_goals rfl
def conv97 (a : S97) : S102 := ⟨(a.f0.map (fun y => y)), (a.f1.map conv32), a.f2, a.f3⟩
theorem Elaws_toRuleS (l : List (S97)) (hn : l.length ≤ 1048576) (hB : ∀ y ∈ l, (y.f0.length ≤ 1048576 ∧ y.f1.length ≤ 1048576)) : Evt (fun k => laws_toRuleS.f k l) (l.map conv97) := by
  have h := Evt.to (F := fun k y i => laws_toRuleS.l0 k l y i) (x := l) (conv := conv97) ?_ ?_ (List.replicate l.length z102) (by simp)
  · refine h.congr fun k => ?_
    unfold laws_toRuleS.f
    rw [if_pos (by omega), if_pos (by omega), Int.toNat_natCast]
  · intro k y
    simp only [laws_toRuleS.l0]
    rw [if_neg (by omega)]
  · intro i hi
    obtain ⟨K, hK⟩ := Elaws_toRule l[i].f0 l[i].f1 l[i].f2 l[i].f3 ((hB _ (List.getElem_mem hi)).1) ((hB _ (List.getElem_mem hi)).2)
    dsimp only at hK
    refine ⟨K, fun k hk y hy => ?_⟩
    simp only [laws_toRuleS.l0]
    rw [if_pos (by omega), if_pos (by omega), nrd_T97 l i hi, hK k hk]
    simp only [Option.bind_some]
    rw [if_pos (by omega), wsucc hi (by omega), Int.toNat_natCast]
    all_goals rfl
theorem Elaws_toPolicy (a0_0 : Int) (a0_1 : Int) (a0_2 : Int) (l0_3 : List (S97)) (hl0_3 : (l0_3.length ≤ 1048576 ∧ ∀ v4 ∈ l0_3, (v4.f0.length ≤ 1048576 ∧ v4.f1.length ≤ 1048576))) : Evt (fun k => laws_toPolicy.f k a0_0 a0_1 a0_2 l0_3) (a0_0, a0_1, a0_2, (l0_3.map conv97)) := by
  obtain ⟨K0, h0⟩ := Elaws_toRuleS l0_3 hl0_3.1 hl0_3.2
  refine ⟨K0, fun k hk => ?_⟩
  simp only [laws_toPolicy.f, h0 k (by omega), Option.bind_some]
  all_goals rfl
theorem Elaws_eqIntS (l : List (Int)) (hn : l.length ≤ 4611686018427387904) : Evt (fun k => laws_eqIntS.f k l l) true := by
  have h := Evt.pass (F := fun k i => laws_eqIntS.l0 k l l i) (n := l.length) (r := true) ?_ ?_
  · refine h.congr fun k => ?_
    unfold laws_eqIntS.f
    rw [if_pos rfl]
  · refine .const fun k => ?_
    simp only [laws_eqIntS.l0]
    rw [if_neg (by omega)]
  · intro i hi
    refine ⟨0, fun k hk => ?_⟩
    simp only [laws_eqIntS.l0]
    rw [if_pos (by omega), if_pos (by omega), if_pos (by omega)]
    simp only [if_true]
    rw [wsucc hi (by omega)]
theorem Elaws_eqWide (a0_0 : Int) (a0_1 : Int) : Evt (fun k => laws_eqWide.f a0_0 a0_1 a0_0 a0_1) true := by
  refine ⟨0, fun k hk => ?_⟩
  simp only [laws_eqWide.f, Option.bind_some, if_true]
theorem Elaws_eqCond (a0_0 : Int) (a0_1 : Int) (a0_2 : Int) (a0_3 : Int) (a0_4 : Int) (a0_5 : Int) : Evt (fun k => laws_eqCond.f a0_0 a0_1 a0_2 a0_3 a0_4 a0_5 a0_0 a0_1 a0_2 a0_3 a0_4 a0_5) true := by
  refine ⟨0, fun k hk => ?_⟩
  simp only [laws_eqCond.f, laws_eqWide.f, Option.bind_some, if_true]
theorem nrd_T40 (l : List (S40)) (i : Nat) (h : i < l.length) : rd_T40 l (i : Int) = l[i] := getD_lt _ h
theorem Elaws_eqCondS (l : List (S40)) (hn : l.length ≤ 4611686018427387904) : Evt (fun k => laws_eqCondS.f k l l) true := by
  have h := Evt.pass (F := fun k i => laws_eqCondS.l0 k l l i) (n := l.length) (r := true) ?_ ?_
  · refine h.congr fun k => ?_
    unfold laws_eqCondS.f
    rw [if_pos rfl]
  · refine .const fun k => ?_
    simp only [laws_eqCondS.l0]
    rw [if_neg (by omega)]
  · intro i hi
    obtain ⟨K, hK⟩ := Elaws_eqCond l[i].f0 l[i].f1.f0 l[i].f1.f1 l[i].f2 l[i].f3.f0 l[i].f3.f1
    dsimp only at hK
    refine ⟨K, fun k hk => ?_⟩
    simp only [laws_eqCondS.l0]
    rw [if_pos (by omega), if_pos (by omega), if_pos (by omega), nrd_T40 l i hi, hK k hk]
    simp only [Option.bind_some, if_true]
    rw [wsucc hi (by omega)]
theorem Elaws_eqRule (l0_0 : List Int) (l0_1 : List (S40)) (a0_2 : Int) (a0_3 : Int) (hl0_0 : l0_0.length ≤ 4611686018427387904) (hl0_1 : l0_1.length ≤ 4611686018427387904) : Evt (fun k => laws_eqRule.f k l0_0 l0_1 a0_2 a0_3 l0_0 l0_1 a0_2 a0_3) true := by
  obtain ⟨K0, h0⟩ := Elaws_eqIntS l0_0 hl0_0
  obtain ⟨K1, h1⟩ := Elaws_eqCondS l0_1 hl0_1
  refine ⟨K0 + K1, fun k hk => ?_⟩
  simp only [laws_eqRule.f, h0 k (by omega), h1 k (by omega), Option.bind_some, if_true]
theorem nrd_T102 (l : List (S102)) (i : Nat) (h : i < l.length) : rd_T102 l (i : Int) = l[i] := getD_lt _ h
theorem Elaws_eqRuleS (l : List (S102)) (hn : l.length ≤ 4611686018427387904) (hB : ∀ y ∈ l, (y.f0.length ≤ 4611686018427387904 ∧ y.f1.length ≤ 4611686018427387904)) : Evt (fun k => laws_eqRuleS.f k l l) true := by
  have h := Evt.pass (F := fun k i => laws_eqRuleS.l0 k l l i) (n := l.length) (r := true) ?_ ?_
  · refine h.congr fun k => ?_
    unfold laws_eqRuleS.f
    rw [if_pos rfl]
  · refine .const fun k => ?_
    simp only [laws_eqRuleS.l0]
    rw [if_neg (by omega)]
  · intro i hi
    obtain ⟨K, hK⟩ := Elaws_eqRule l[i].f0 l[i].f1 l[i].f2 l[i].f3 ((hB _ (List.getElem_mem hi)).1) ((hB _ (List.getElem_mem hi)).2)
    dsimp only at hK
    refine ⟨K, fun k hk => ?_⟩
    simp only [laws_eqRuleS.l0]
    rw [if_pos (by omega), if_pos (by omega), if_pos (by omega), nrd_T102 l i hi, hK k hk]
    simp only [Option.bind_some, if_true]
    rw [wsucc hi (by omega)]
theorem Elaws_eqPolicy (a0_0 : Int) (a0_1 : Int) (a0_2 : Int) (l0_3 : List (S102)) (hl0_3 : (l0_3.length ≤ 4611686018427387904 ∧ ∀ v4 ∈ l0_3, (v4.f0.length ≤ 4611686018427387904 ∧ v4.f1.length ≤ 4611686018427387904))) : Evt (fun k => laws_eqPolicy.f k a0_0 a0_1 a0_2 l0_3 a0_0 a0_1 a0_2 l0_3) true := by
  obtain ⟨K0, h0⟩ := Elaws_eqRuleS l0_3 hl0_3.1 hl0_3.2
  refine ⟨K0, fun k hk => ?_⟩
  simp only [laws_eqPolicy.f, h0 k (by omega), Option.bind_some, if_true]
theorem inS (a b c : Int) : spec_l01In.f a b c = some (decide (b ≤ a ∧ a ≤ c)) := by
  unfold spec_l01In.f
  by_cases h : a ≥ b
  · rw [if_pos h]
    exact congrArg some (by rw [Bool.eq_iff_iff]; simp; omega)
  · rw [if_neg h]
    exact congrArg some (by rw [Bool.eq_iff_iff]; simp; omega)
theorem inI (a b c : Int) : impl_within.f a b c = some (decide (b ≤ a ∧ a ≤ c)) := inS a b c
theorem halfS (a : Int) : spec_HalfOk.f a = some (decide (0 ≤ a ∧ a ≤ 4294967295)) := by
  unfold spec_HalfOk.f
  rw [inS]
  rfl
theorem halfI (a : Int) : impl_HalfOk.f a = some (decide (0 ≤ a ∧ a ≤ 4294967295)) := halfS a
theorem wideS (a b : Int) : spec_WideOk.f a b = some (decide ((0 ≤ a ∧ a ≤ 4294967295) ∧ (0 ≤ b ∧ b ≤ 4294967295))) := by
  unfold spec_WideOk.f
  simp only [halfS, Option.bind_some, decide_eq_true_eq]
  split
  · rename_i h
    exact congrArg some (by rw [Bool.eq_iff_iff]; simp [h])
  · rename_i h
    exact congrArg some (by rw [Bool.eq_iff_iff]; simp [h])
theorem wideI (a b : Int) : impl_WideOk.f a b = some (decide ((0 ≤ a ∧ a ≤ 4294967295) ∧ (0 ≤ b ∧ b ≤ 4294967295))) := wideS a b
theorem condS (a b c d e f : Int) : spec_CondOk.f a b c d e f = some (decide ((0 ≤ a ∧ a ≤ 2) ∧ ((0 ≤ b ∧ b ≤ 4294967295) ∧ (0 ≤ c ∧ c ≤ 4294967295)) ∧ ((0 ≤ e ∧ e ≤ 4294967295) ∧ (0 ≤ f ∧ f ≤ 4294967295)) ∧ 1 ≤ d ∧ d ≤ 6)) := by
  unfold spec_CondOk.f
  simp only [inS, wideS, Option.bind_some, decide_eq_true_eq]
  repeat' split
  all_goals (refine congrArg some ?_; rw [Bool.eq_iff_iff]; simp only [Bool.false_eq_true, decide_eq_true_eq, false_iff])
  all_goals omega
theorem condI (a b c d e f : Int) : impl_CondOk.f a b c d e f = some (decide ((0 ≤ a ∧ a ≤ 2) ∧ ((0 ≤ b ∧ b ≤ 4294967295) ∧ (0 ≤ c ∧ c ≤ 4294967295)) ∧ ((0 ≤ e ∧ e ≤ 4294967295) ∧ (0 ≤ f ∧ f ≤ 4294967295)) ∧ 1 ≤ d ∧ d ≤ 6)) := condS a b c d e f
theorem actS (a b : Int) : Tot (fun _ => spec_l09Act.f a b) := by
  refine ⟨decide ((0 ≤ a ∧ a ≤ 5) ∧ (0 ≤ b ∧ b ≤ 65535)), .const fun k => ?_⟩
  unfold spec_l09Act.f
  simp only [inS, Option.bind_some, decide_eq_true_eq]
  split
  · rename_i h
    exact congrArg some (by rw [Bool.eq_iff_iff]; simp [h])
  · rename_i h
    exact congrArg some (by rw [Bool.eq_iff_iff]; simp [h])
/-- A rule's second loop, and its end. -/
theorem rule_l1 (x : List Int) (l : List S40) (a b : Int) (hn : l.length ≤ 4611686018427387904) : ∃ r, Evt (fun k => spec_l09Rule.l1 k 0 x l a b) r ∧ Evt (fun k => impl_ruleOk.l1 k l (l.length : Int) 0 x l a b) r := by
  refine down (T := fun i => ∃ r, Evt (fun k => spec_l09Rule.l1 k (i : Int) x l a b) r ∧ Evt (fun k => impl_ruleOk.l1 k l (l.length : Int) (i : Int) x l a b) r) (n := l.length) ?_ ?_ l.length 0 (by omega)
  · obtain ⟨v, K, hv⟩ := actS a b
    dsimp only at hv
    have hv0 := hv K (Nat.le_refl _)
    have hv1 : impl_actionOk.f a b = some v := hv0
    refine ⟨if (x.length : Int) ≤ 4 then (if (l.length : Int) ≤ 3 then v else false) else false, .succ (.const fun k => ?_), .succ (.const fun k => ?_)⟩
    · simp only [spec_l09Rule.l1]
      rw [if_neg (by omega), hv0]
      simp only [Option.bind_some]
      repeat' split
      all_goals rfl
    · simp only [impl_ruleOk.l1]
      rw [if_neg (by omega), hv1]
      simp only [Option.bind_some]
      repeat' split
      all_goals rfl
  · intro i hi ih
    obtain ⟨r, ⟨K1, h1⟩, ⟨K2, h2⟩⟩ := ih
    dsimp only at h1 h2
    obtain ⟨q, e, e'⟩ : ∃ q, spec_CondOk.f l[i].f0 l[i].f1.f0 l[i].f1.f1 l[i].f2 l[i].f3.f0 l[i].f3.f1 = some q ∧ impl_CondOk.f l[i].f0 l[i].f1.f0 l[i].f1.f1 l[i].f2 l[i].f3.f0 l[i].f3.f1 = some q := ⟨_, condS _ _ _ _ _ _, condI _ _ _ _ _ _⟩
    refine ⟨if q = true then r else false, .succ ⟨K1, fun k hk => ?_⟩, .succ ⟨K2, fun k hk => ?_⟩⟩
    · simp only [spec_l09Rule.l1]
      rw [if_pos (by omega), if_pos (by omega), nrd_T40 l i hi, e, wsucc hi (by omega)]
      simp only [Option.bind_some]
      rw [h1 k (by omega)]
      split <;> rfl
    · simp only [impl_ruleOk.l1]
      rw [if_pos (by omega), if_pos (by omega), if_pos (by omega), nrd_T40 l i hi, e', wsucc hi (by omega)]
      simp only [Option.bind_some]
      rw [h2 k (by omega)]
      split <;> rfl
theorem rule (x : List Int) (l : List S40) (a b : Int) (hx : x.length ≤ 4611686018427387904) (hn : l.length ≤ 4611686018427387904) : ∃ r, Evt (fun k => spec_l09Rule.f k x l a b) r ∧ Evt (fun k => impl_ruleOk.f k x l a b) r := by
  refine down (T := fun i => ∃ r, Evt (fun k => spec_l09Rule.l0 k (i : Int) x l a b) r ∧ Evt (fun k => impl_ruleOk.l0 k x (x.length : Int) (i : Int) x l a b) r) (n := x.length) ?_ ?_ x.length 0 (by omega)
  · obtain ⟨r, ⟨K1, h1⟩, ⟨K2, h2⟩⟩ := rule_l1 x l a b hn
    dsimp only at h1 h2
    refine ⟨r, .succ ⟨K1, fun k hk => ?_⟩, .succ ⟨K2, fun k hk => ?_⟩⟩
    · simp only [spec_l09Rule.l0]
      rw [if_neg (by omega)]
      exact h1 k hk
    · simp only [impl_ruleOk.l0]
      rw [if_neg (by omega)]
      exact h2 k hk
  · intro i hi ih
    obtain ⟨r, ⟨K1, h1⟩, ⟨K2, h2⟩⟩ := ih
    dsimp only at h1 h2
    obtain ⟨q, e, e'⟩ : ∃ q, spec_HalfOk.f x[i] = some q ∧ impl_HalfOk.f x[i] = some q := ⟨_, halfS _, halfI _⟩
    have ew : 0 < i → wrap64 ((i : Int) - 1) = ((i - 1 : Nat) : Int) := fun h => by rw [w64 (by omega) (by omega)]; omega
    refine ⟨if q = true then (if 0 < i ∧ rd x (wrap64 ((i : Int) - 1)) ≥ x[i] then false else r) else false, .succ ⟨K1, fun k hk => ?_⟩, .succ ⟨K2, fun k hk => ?_⟩⟩
    · simp only [spec_l09Rule.l0]
      rw [if_pos (by omega), if_pos (by omega), nrd x i hi, e, wsucc hi (by omega)]
      simp only [Option.bind_some]
      by_cases h0 : 0 < i
      · have h9 := ew h0
        rw [h9, if_pos (show (i : Int) > 0 by omega), if_pos (show (0 : Int) ≤ ((i - 1 : Nat) : Int) by omega), if_pos (show ((i - 1 : Nat) : Int) < (x.length : Int) by omega), h1 k (by omega)]
        simp only [h0, true_and]
        repeat' split
        all_goals rfl
      · rw [if_neg (show ¬ (i : Int) > 0 by omega), h1 k (by omega)]
        simp only [h0, false_and, if_false]
        split <;> rfl
    · simp only [impl_ruleOk.l0]
      rw [if_pos (by omega), if_pos (by omega), if_pos (by omega), nrd x i hi, e', wsucc hi (by omega)]
      simp only [Option.bind_some]
      by_cases h0 : 0 < i
      · have h9 := ew h0
        rw [h9, if_pos (show (i : Int) > 0 by omega), if_pos (show (0 : Int) ≤ ((i - 1 : Nat) : Int) by omega), if_pos (show ((i - 1 : Nat) : Int) < (x.length : Int) by omega), h2 k (by omega)]
        simp only [h0, true_and]
        repeat' split
        all_goals rfl
      · rw [if_neg (show ¬ (i : Int) > 0 by omega), h2 k (by omega)]
        simp only [h0, false_and, if_false]
        split <;> rfl
theorem pol (a b c : Int) (l : List S102) (hn : l.length ≤ 4611686018427387904) (hl : ∀ y ∈ l, y.f0.length ≤ 4611686018427387904 ∧ y.f1.length ≤ 4611686018427387904) : ∃ r, Evt (fun k => spec_PolicyOk.f k a b c l) r ∧ Evt (fun k => impl_PolicyOk.f k a b c l) r := by
  refine down (T := fun i => ∃ r, Evt (fun k => spec_PolicyOk.l0 k (i : Int) a b c l) r ∧ Evt (fun k => impl_PolicyOk.l0 k l (l.length : Int) (i : Int) a b c l) r) (n := l.length) ?_ ?_ l.length 0 (by omega)
  · obtain ⟨v, K, hv⟩ := actS b c
    dsimp only at hv
    have hv0 := hv K (Nat.le_refl _)
    have hv1 : impl_actionOk.f b c = some v := hv0
    refine ⟨if decide (0 ≤ a ∧ a ≤ 4294967295) = true then (if v = true then decide ((l.length : Int) ≤ 10) else false) else false, .succ (.const fun k => ?_), .succ (.const fun k => ?_)⟩
    · simp only [spec_PolicyOk.l0]
      rw [if_neg (by omega), halfS, hv0]
      simp only [Option.bind_some]
      repeat' split
      all_goals rfl
    · simp only [impl_PolicyOk.l0]
      rw [if_neg (by omega), halfI, hv1]
      simp only [Option.bind_some]
      repeat' split
      all_goals rfl
  · intro i hi ih
    obtain ⟨r, ⟨K1, h1⟩, ⟨K2, h2⟩⟩ := ih
    have hb := hl _ (List.getElem_mem hi)
    obtain ⟨q, ⟨K3, h3⟩, ⟨K4, h4⟩⟩ := rule l[i].f0 l[i].f1 l[i].f2 l[i].f3 hb.1 hb.2
    dsimp only at h1 h2 h3 h4
    refine ⟨if q = true then r else false, .succ ⟨K1 + K3, fun k hk => ?_⟩, .succ ⟨K2 + K4, fun k hk => ?_⟩⟩
    · simp only [spec_PolicyOk.l0]
      rw [if_pos (by omega), if_pos (by omega), nrd_T102 l i hi, h3 k (by omega), wsucc hi (by omega)]
      simp only [Option.bind_some]
      rw [h1 k (by omega)]
      split <;> rfl
    · simp only [impl_PolicyOk.l0]
      rw [if_pos (by omega), if_pos (by omega), if_pos (by omega), nrd_T102 l i hi, h4 k (by omega), wsucc hi (by omega)]
      simp only [Option.bind_some]
      rw [h2 k (by omega)]
      split <;> rfl
theorem main (a b c : Int) (l : List S97) (hl : ((∀ u ∈ l, (((∀ u5 ∈ u.f0, (Lit.int .i64 u5).wf = true) ∧ u.f0.length ≤ maxLen) ∧ ((∀ u5 ∈ u.f1, ((Lit.int .i64 u5.f0).wf = true ∧ ((Lit.int .i64 u5.f1.f0).wf = true ∧ (Lit.int .i64 u5.f1.f1).wf = true) ∧ (Lit.int .i64 u5.f2).wf = true ∧ ((Lit.int .i64 u5.f3.f0).wf = true ∧ (Lit.int .i64 u5.f3.f1).wf = true))) ∧ u.f1.length ≤ maxLen) ∧ (Lit.int .i64 u.f2).wf = true ∧ (Lit.int .i64 u.f3).wf = true)) ∧ l.length ≤ maxLen)) : ∃ k, laws_FnExactPolicyOk.f k a b c l = some true := by
  obtain ⟨s, hs, hB, K1, h1⟩ := Elaws_szPolicy a b c l 1048576 (by omega) (by omega) hl
  dsimp only at h1
  by_cases hn : s < 0
  · exact ⟨K1, by simp only [laws_FnExactPolicyOk.f, h1 K1 (Nat.le_refl _), Option.bind_some, if_pos hn]⟩
  have bl := hB (by omega)
  have ll : (l.map conv97).length = l.length := List.length_map _
  have cl : ∀ y ∈ l.map conv97, y.f0.length ≤ 4611686018427387904 ∧ y.f1.length ≤ 4611686018427387904 := by
    simp only [List.mem_map]
    rintro y ⟨z, hz, rfl⟩
    have := bl.2 z hz
    simp only [conv97, List.length_map]
    omega
  obtain ⟨K2, h2⟩ := Elaws_toPolicy a b c l bl
  obtain ⟨r, ⟨K3, h3⟩, ⟨K4, h4⟩⟩ := pol a b c (l.map conv97) (by omega) cl
  obtain ⟨K5, h5⟩ := Elaws_eqPolicy a b c (l.map conv97) ⟨by omega, cl⟩
  dsimp only at h2 h3 h4 h5
  have hk : ∀ j, j ≤ K1 + K2 + K3 + K4 + K5 → j ≤ K1 + K2 + K3 + K4 + K5 := fun _ h => h
  refine ⟨K1 + K2 + K3 + K4 + K5, ?_⟩
  simp only [laws_FnExactPolicyOk.f, h1 _ (hk K1 (by omega)), h2 _ (hk K2 (by omega)), h3 _ (hk K3 (by omega)), h4 _ (hk K4 (by omega)), h5 _ (hk K5 (by omega)), Option.bind_some, if_neg hn, if_true]
  simp
end Go.Proofs.Ytiinjipfhmgheaa.PFnExactPolicyOk
