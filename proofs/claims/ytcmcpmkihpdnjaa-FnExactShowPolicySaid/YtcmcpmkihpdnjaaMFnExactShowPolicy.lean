/- The pure law of FnExactShowPolicy: what the functions of the program and of the reference come to is the same, for all arguments that the law is asked of. No conditions. -/
import Derived.Test.YtcmcpmkihpdnjaaPFnExactShowPolicyy11
import Derived.Test.YtcmcpmkihpdnjaaEV
set_option linter.unusedSimpArgs false
set_option linter.unusedVariables false
namespace Go.Proofs.Ytcmcpmkihpdnjaa.PFnExactShowPolicy
open Go Go.RowKit Go.Proofs.YtcmcpmkihpdnjaaW.PrintWords Go.Proofs.YtcmcpmkihpdnjaaW.PrintLast Go.Proofs.YtcmcpmkihpdnjaaW.PK
theorem Elaws_szIntS (l : List (Int)) (q : Int) (hq : 0 ≤ q) (hq' : q ≤ 1048576) (hm : l.length ≤ maxLen) : ∃ s : Int, s ≤ q ∧ (0 ≤ s → l.length ≤ 1048576) ∧ Evt (fun k => laws_szIntS.f l q) s := by
  unfold maxLen at hm
  have e : wrap64 (q - (l.length : Int)) = q - l.length := w64 (by omega) (by omega)
  by_cases hn : q - (l.length : Int) < 0
  · exact ⟨-1, by omega, fun h => by omega, .const fun k => by simp only [laws_szIntS.f, e, if_pos hn]⟩
  · exact ⟨q - l.length, by omega, fun h => by omega, .const fun k => by simp only [laws_szIntS.f, e, if_neg hn]⟩
theorem Elaws_szCondS (l : List (S178)) (q : Int) (hq : 0 ≤ q) (hq' : q ≤ 1048576) (hm : l.length ≤ maxLen) : ∃ s : Int, s ≤ q ∧ (0 ≤ s → l.length ≤ 1048576) ∧ Evt (fun k => laws_szCondS.f l q) s := by
  unfold maxLen at hm
  have e : wrap64 (q - (l.length : Int)) = q - l.length := w64 (by omega) (by omega)
  by_cases hn : q - (l.length : Int) < 0
  · exact ⟨-1, by omega, fun h => by omega, .const fun k => by simp only [laws_szCondS.f, e, if_pos hn]⟩
  · exact ⟨q - l.length, by omega, fun h => by omega, .const fun k => by simp only [laws_szCondS.f, e, if_neg hn]⟩
theorem Elaws_szRule (l0_0 : List Int) (l0_1 : List (S178)) (a0_2 : Int) (a0_3 : Int) (q : Int) (hq : 0 ≤ q) (hq' : q ≤ 1048576) (hl0_0 : ((∀ u4 ∈ l0_0, (Lit.int .i64 u4).wf = true) ∧ l0_0.length ≤ maxLen)) (hl0_1 : ((∀ u4 ∈ l0_1, ((Lit.int .i64 u4.f0).wf = true ∧ ((Lit.int .i64 u4.f1.f0).wf = true ∧ (Lit.int .i64 u4.f1.f1).wf = true) ∧ (Lit.int .i64 u4.f2).wf = true ∧ ((Lit.int .i64 u4.f3.f0).wf = true ∧ (Lit.int .i64 u4.f3.f1).wf = true))) ∧ l0_1.length ≤ maxLen)) : ∃ s : Int, s ≤ q ∧ (0 ≤ s → (l0_0.length ≤ 1048576 ∧ l0_1.length ≤ 1048576)) ∧ Evt (fun k => laws_szRule.f l0_0 l0_1 a0_2 a0_3 q) s := by
  obtain ⟨s0, hs0, hB0, K0, e0⟩ := Elaws_szIntS l0_0 (q) (by omega) (by omega) hl0_0.2
  by_cases n0 : s0 < 0
  · exact ⟨-1, by omega, fun h => by omega, 0 + K0, fun k hk => by simp only [laws_szRule.f, e0 k (by omega), Option.bind_some, if_pos n0]⟩
  obtain ⟨s1, hs1, hB1, K1, e1⟩ := Elaws_szCondS l0_1 (s0) (by omega) (by omega) hl0_1.2
  by_cases n1 : s1 < 0
  · exact ⟨-1, by omega, fun h => by omega, 0 + K0 + K1, fun k hk => by simp only [laws_szRule.f, e0 k (by omega), e1 k (by omega), Option.bind_some, if_neg n0, if_pos n1]⟩
  exact ⟨s1, by omega, fun h => ⟨hB0 (by omega), hB1 (by omega)⟩, 0 + K0 + K1, fun k hk => by simp only [laws_szRule.f, e0 k (by omega), e1 k (by omega), Option.bind_some, if_neg n0, if_neg n1]⟩
theorem nrd_T136 (l : List (S136)) (i : Nat) (h : i < l.length) : rd_T136 l (i : Int) = l[i] := getD_lt _ h
theorem Elaws_szRuleS (l : List (S136)) (q : Int) (hq : 0 ≤ q) (hq' : q ≤ 1048576) (hm : l.length ≤ maxLen) (hw : ∀ x ∈ l, (((∀ u4 ∈ x.f0, (Lit.int .i64 u4).wf = true) ∧ x.f0.length ≤ maxLen) ∧ ((∀ u4 ∈ x.f1, ((Lit.int .i64 u4.f0).wf = true ∧ ((Lit.int .i64 u4.f1.f0).wf = true ∧ (Lit.int .i64 u4.f1.f1).wf = true) ∧ (Lit.int .i64 u4.f2).wf = true ∧ ((Lit.int .i64 u4.f3.f0).wf = true ∧ (Lit.int .i64 u4.f3.f1).wf = true))) ∧ x.f1.length ≤ maxLen) ∧ (Lit.int .i64 x.f2).wf = true ∧ (Lit.int .i64 x.f3).wf = true)) : ∃ s : Int, s ≤ q ∧ (0 ≤ s → l.length ≤ 1048576 ∧ ∀ y ∈ l, (y.f0.length ≤ 1048576 ∧ y.f1.length ≤ 1048576)) ∧ Evt (fun k => laws_szRuleS.f k l q) s := by
  unfold maxLen at hm
  have e : wrap64 (q - (l.length : Int)) = q - l.length := w64 (by omega) (by omega)
  by_cases hn : q - (l.length : Int) < 0
  · exact ⟨-1, by omega, fun h => by omega, .const fun k => by simp only [laws_szRuleS.f, e, if_pos hn]⟩
  · have H := Evt.sz (F := fun k q i => laws_szRuleS.l0 k l q i) (n := l.length) (P := fun i => ∀ h : i < l.length, (l[i].f0.length ≤ 1048576 ∧ l[i].f1.length ≤ 1048576)) ?_ ?_ (q - l.length) (by omega) (by omega)
    · obtain ⟨s, hs, hP, hE⟩ := H
      refine ⟨s, by omega, fun h => ⟨by omega, fun y hy => ?_⟩, hE.congr fun k => ?_⟩
      · obtain ⟨i, hi, rfl⟩ := List.mem_iff_getElem.1 hy
        exact hP h i hi hi
      · simp only [laws_szRuleS.f, e, if_neg hn]
    · intro k q
      simp only [laws_szRuleS.l0]
      rw [if_neg (by omega)]
    · intro i hi q hq hq'
      obtain ⟨s, hs, hP, K, hK⟩ := Elaws_szRule l[i].f0 l[i].f1 l[i].f2 l[i].f3 q hq hq' ((hw _ (List.getElem_mem hi)).1) ((hw _ (List.getElem_mem hi)).2.1)
      dsimp only at hK
      refine ⟨s, hs, fun h _ => hP h, K, fun k hk => ?_⟩
      simp only [laws_szRuleS.l0]
      rw [if_pos (by omega), if_pos (by omega), nrd_T136 l i hi, hK k hk, wsucc hi (by omega)]
      all_goals rfl
theorem Elaws_szPolicy (a0_0 : Int) (a0_1 : Int) (a0_2 : Int) (l0_3 : List (S136)) (q : Int) (hq : 0 ≤ q) (hq' : q ≤ 1048576) (hl0_3 : ((∀ u4 ∈ l0_3, (((∀ u5 ∈ u4.f0, (Lit.int .i64 u5).wf = true) ∧ u4.f0.length ≤ maxLen) ∧ ((∀ u5 ∈ u4.f1, ((Lit.int .i64 u5.f0).wf = true ∧ ((Lit.int .i64 u5.f1.f0).wf = true ∧ (Lit.int .i64 u5.f1.f1).wf = true) ∧ (Lit.int .i64 u5.f2).wf = true ∧ ((Lit.int .i64 u5.f3.f0).wf = true ∧ (Lit.int .i64 u5.f3.f1).wf = true))) ∧ u4.f1.length ≤ maxLen) ∧ (Lit.int .i64 u4.f2).wf = true ∧ (Lit.int .i64 u4.f3).wf = true)) ∧ l0_3.length ≤ maxLen)) : ∃ s : Int, s ≤ q ∧ (0 ≤ s → (l0_3.length ≤ 1048576 ∧ ∀ v4 ∈ l0_3, (v4.f0.length ≤ 1048576 ∧ v4.f1.length ≤ 1048576))) ∧ Evt (fun k => laws_szPolicy.f k a0_0 a0_1 a0_2 l0_3 q) s := by
  obtain ⟨s0, hs0, hB0, K0, e0⟩ := Elaws_szRuleS l0_3 (q) (by omega) (by omega) hl0_3.2 hl0_3.1
  by_cases n0 : s0 < 0
  · exact ⟨-1, by omega, fun h => by omega, 0 + K0, fun k hk => by simp only [laws_szPolicy.f, e0 k (by omega), Option.bind_some, if_pos n0]⟩
  exact ⟨s0, by omega, fun h => hB0 (by omega), 0 + K0, fun k hk => by simp only [laws_szPolicy.f, e0 k (by omega), Option.bind_some, if_neg n0]⟩
theorem nrd (l : List (Int)) (i : Nat) (h : i < l.length) : rd l (i : Int) = l[i] := getD_lt _ h
theorem Elaws_toIntS (l : List (Int)) (hn : l.length ≤ 1048576) : Evt (fun k => laws_toIntS.f k l) (l.map (fun y => y)) := by
  have h := Evt.to (F := fun k y i => laws_toIntS.l0 k l y i) (x := l) (conv := (fun y => y)) ?_ ?_ (List.replicate l.length 0) (by simp)
  · refine h.congr fun k => ?_
    unfold laws_toIntS.f
    rw [if_pos (by omega), if_pos (by omega), Int.toNat_natCast]
  · intro k y
    simp only [laws_toIntS.l0]
    rw [if_neg (by omega)]
  · intro i hi
    have K : Nat := 0
    refine ⟨0, fun k hk y hy => ?_⟩
    simp only [laws_toIntS.l0]
    rw [if_pos (by omega), if_pos (by omega), nrd l i hi]
    rw [if_pos (by omega), wsucc hi (by omega), Int.toNat_natCast]
    all_goals rfl
theorem Elaws_toWide (a0_0 : Int) (a0_1 : Int) : Evt (fun k => laws_toWide.f a0_0 a0_1) (a0_0, a0_1) := by
  exact .const fun k => rfl
theorem Elaws_toCond (a0_0 : Int) (a0_1 : Int) (a0_2 : Int) (a0_3 : Int) (a0_4 : Int) (a0_5 : Int) : Evt (fun k => laws_toCond.f a0_0 a0_1 a0_2 a0_3 a0_4 a0_5) (a0_0, a0_1, a0_2, a0_3, a0_4, a0_5) := by
  exact .const fun k => rfl
def conv176 (a : S176) : S93 := ⟨a.f0, a.f1⟩
def conv178 (a : S178) : S95 := ⟨a.f0, (conv176 a.f1), a.f2, (conv176 a.f3)⟩
theorem nrd_T178 (l : List (S178)) (i : Nat) (h : i < l.length) : rd_T178 l (i : Int) = l[i] := getD_lt _ h
theorem Elaws_toCondS (l : List (S178)) (hn : l.length ≤ 1048576) : Evt (fun k => laws_toCondS.f k l) (l.map conv178) := by
  have h := Evt.to (F := fun k y i => laws_toCondS.l0 k l y i) (x := l) (conv := conv178) ?_ ?_ (List.replicate l.length z95) (by simp)
  · refine h.congr fun k => ?_
    unfold laws_toCondS.f
    rw [if_pos (by omega), if_pos (by omega), Int.toNat_natCast]
  · intro k y
    simp only [laws_toCondS.l0]
    rw [if_neg (by omega)]
  · intro i hi
    obtain ⟨K, hK⟩ := Elaws_toCond l[i].f0 l[i].f1.f0 l[i].f1.f1 l[i].f2 l[i].f3.f0 l[i].f3.f1
    dsimp only at hK
    refine ⟨K, fun k hk y hy => ?_⟩
    simp only [laws_toCondS.l0]
    rw [if_pos (by omega), if_pos (by omega), nrd_T178 l i hi, hK k hk]
    simp only [Option.bind_some]
    rw [if_pos (by omega), wsucc hi (by omega), Int.toNat_natCast]
    all_goals rfl
theorem Elaws_toRule (l0_0 : List Int) (l0_1 : List (S178)) (a0_2 : Int) (a0_3 : Int) (hl0_0 : l0_0.length ≤ 1048576) (hl0_1 : l0_1.length ≤ 1048576) : Evt (fun k => laws_toRule.f k l0_0 l0_1 a0_2 a0_3) ((l0_0.map (fun y => y)), (l0_1.map conv178), a0_2, a0_3) := by
  obtain ⟨K0, h0⟩ := Elaws_toIntS l0_0 hl0_0
  obtain ⟨K1, h1⟩ := Elaws_toCondS l0_1 hl0_1
  refine ⟨K0 + K1, fun k hk => ?_⟩
  simp only [laws_toRule.f, h0 k (by omega), h1 k (by omega), Option.bind_some]
  all_goals rfl
def conv136 (a : S136) : S91 := ⟨(a.f0.map (fun y => y)), (a.f1.map conv178), a.f2, a.f3⟩
theorem Elaws_toRuleS (l : List (S136)) (hn : l.length ≤ 1048576) (hB : ∀ y ∈ l, (y.f0.length ≤ 1048576 ∧ y.f1.length ≤ 1048576)) : Evt (fun k => laws_toRuleS.f k l) (l.map conv136) := by
  have h := Evt.to (F := fun k y i => laws_toRuleS.l0 k l y i) (x := l) (conv := conv136) ?_ ?_ (List.replicate l.length z91) (by simp)
  · refine h.congr fun k => ?_
    unfold laws_toRuleS.f
    rw [if_pos (by omega), if_pos (by omega), Int.toNat_natCast]
  · intro k y
    simp only [laws_toRuleS.l0]
    rw [if_neg (by omega)]
  · intro i hi
    obtain ⟨K, hK⟩ := Elaws_toRule l[i].f0 l[i].f1 l[i].f2 l[i].f3 ((hB _ (List.getElem_mem hi)).1) ((hB _ (List.getElem_mem hi)).2)
    dsimp only at hK
    refine ⟨K, fun k hk y hy => ?_⟩
    simp only [laws_toRuleS.l0]
    rw [if_pos (by omega), if_pos (by omega), nrd_T136 l i hi, hK k hk]
    simp only [Option.bind_some]
    rw [if_pos (by omega), wsucc hi (by omega), Int.toNat_natCast]
    all_goals rfl
theorem Elaws_toPolicy (a0_0 : Int) (a0_1 : Int) (a0_2 : Int) (l0_3 : List (S136)) (hl0_3 : (l0_3.length ≤ 1048576 ∧ ∀ v4 ∈ l0_3, (v4.f0.length ≤ 1048576 ∧ v4.f1.length ≤ 1048576))) : Evt (fun k => laws_toPolicy.f k a0_0 a0_1 a0_2 l0_3) (a0_0, a0_1, a0_2, (l0_3.map conv136)) := by
  obtain ⟨K0, h0⟩ := Elaws_toRuleS l0_3 hl0_3.1 hl0_3.2
  refine ⟨K0, fun k hk => ?_⟩
  simp only [laws_toPolicy.f, h0 k (by omega), Option.bind_some]
  all_goals rfl
theorem Elaws_eqIntS (l : List (Int)) (hn : l.length ≤ 4611686018427387904) : Evt (fun k => laws_eqIntS.f k l l) true := by
  have h := Evt.pass (F := fun k i => laws_eqIntS.l0 k l l i) (n := l.length) (r := true) ?_ ?_
  · refine h.congr fun k => ?_
    unfold laws_eqIntS.f
    rw [if_pos rfl]
  · refine .const fun k => ?_
    simp only [laws_eqIntS.l0]
    rw [if_neg (by omega)]
  · intro i hi
    refine ⟨0, fun k hk => ?_⟩
    simp only [laws_eqIntS.l0]
    rw [if_pos (by omega), if_pos (by omega), if_pos (by omega)]
    simp only [if_true]
    rw [wsucc hi (by omega)]
theorem Elaws_eqWide (a0_0 : Int) (a0_1 : Int) : Evt (fun k => laws_eqWide.f a0_0 a0_1 a0_0 a0_1) true := by
  refine ⟨0, fun k hk => ?_⟩
  simp only [laws_eqWide.f, Option.bind_some, if_true]
theorem Elaws_eqCond (a0_0 : Int) (a0_1 : Int) (a0_2 : Int) (a0_3 : Int) (a0_4 : Int) (a0_5 : Int) : Evt (fun k => laws_eqCond.f a0_0 a0_1 a0_2 a0_3 a0_4 a0_5 a0_0 a0_1 a0_2 a0_3 a0_4 a0_5) true := by
  refine ⟨0, fun k hk => ?_⟩
  simp only [laws_eqCond.f, laws_eqWide.f, Option.bind_some, if_true]
theorem nrd_T95 (l : List (S95)) (i : Nat) (h : i < l.length) : rd_T95 l (i : Int) = l[i] := getD_lt _ h
theorem Elaws_eqCondS (l : List (S95)) (hn : l.length ≤ 4611686018427387904) : Evt (fun k => laws_eqCondS.f k l l) true := by
  have h := Evt.pass (F := fun k i => laws_eqCondS.l0 k l l i) (n := l.length) (r := true) ?_ ?_
  · refine h.congr fun k => ?_
    unfold laws_eqCondS.f
    rw [if_pos rfl]
  · refine .const fun k => ?_
    simp only [laws_eqCondS.l0]
    rw [if_neg (by omega)]
  · intro i hi
    obtain ⟨K, hK⟩ := Elaws_eqCond l[i].f0 l[i].f1.f0 l[i].f1.f1 l[i].f2 l[i].f3.f0 l[i].f3.f1
    dsimp only at hK
    refine ⟨K, fun k hk => ?_⟩
    simp only [laws_eqCondS.l0]
    rw [if_pos (by omega), if_pos (by omega), if_pos (by omega), nrd_T95 l i hi, hK k hk]
    simp only [Option.bind_some, if_true]
    rw [wsucc hi (by omega)]
theorem Elaws_eqRule (l0_0 : List Int) (l0_1 : List (S95)) (a0_2 : Int) (a0_3 : Int) (hl0_0 : l0_0.length ≤ 4611686018427387904) (hl0_1 : l0_1.length ≤ 4611686018427387904) : Evt (fun k => laws_eqRule.f k l0_0 l0_1 a0_2 a0_3 l0_0 l0_1 a0_2 a0_3) true := by
  obtain ⟨K0, h0⟩ := Elaws_eqIntS l0_0 hl0_0
  obtain ⟨K1, h1⟩ := Elaws_eqCondS l0_1 hl0_1
  refine ⟨K0 + K1, fun k hk => ?_⟩
  simp only [laws_eqRule.f, h0 k (by omega), h1 k (by omega), Option.bind_some, if_true]
theorem nrd_T91 (l : List (S91)) (i : Nat) (h : i < l.length) : rd_T91 l (i : Int) = l[i] := getD_lt _ h
theorem Elaws_eqRuleS (l : List (S91)) (hn : l.length ≤ 4611686018427387904) (hB : ∀ y ∈ l, (y.f0.length ≤ 4611686018427387904 ∧ y.f1.length ≤ 4611686018427387904)) : Evt (fun k => laws_eqRuleS.f k l l) true := by
  have h := Evt.pass (F := fun k i => laws_eqRuleS.l0 k l l i) (n := l.length) (r := true) ?_ ?_
  · refine h.congr fun k => ?_
    unfold laws_eqRuleS.f
    rw [if_pos rfl]
  · refine .const fun k => ?_
    simp only [laws_eqRuleS.l0]
    rw [if_neg (by omega)]
  · intro i hi
    obtain ⟨K, hK⟩ := Elaws_eqRule l[i].f0 l[i].f1 l[i].f2 l[i].f3 ((hB _ (List.getElem_mem hi)).1) ((hB _ (List.getElem_mem hi)).2)
    dsimp only at hK
    refine ⟨K, fun k hk => ?_⟩
    simp only [laws_eqRuleS.l0]
    rw [if_pos (by omega), if_pos (by omega), if_pos (by omega), nrd_T91 l i hi, hK k hk]
    simp only [Option.bind_some, if_true]
    rw [wsucc hi (by omega)]
theorem Elaws_eqPolicy (a0_0 : Int) (a0_1 : Int) (a0_2 : Int) (l0_3 : List (S91)) (hl0_3 : (l0_3.length ≤ 4611686018427387904 ∧ ∀ v4 ∈ l0_3, (v4.f0.length ≤ 4611686018427387904 ∧ v4.f1.length ≤ 4611686018427387904))) : Evt (fun k => laws_eqPolicy.f k a0_0 a0_1 a0_2 l0_3 a0_0 a0_1 a0_2 l0_3) true := by
  obtain ⟨K0, h0⟩ := Elaws_eqRuleS l0_3 hl0_3.1 hl0_3.2
  refine ⟨K0, fun k hk => ?_⟩
  simp only [laws_eqPolicy.f, h0 k (by omega), Option.bind_some, if_true]
theorem inS (a b c : Int) : spec_l01In.f a b c = some (decide (b ≤ a ∧ a ≤ c)) := by
  unfold spec_l01In.f
  by_cases h : a ≥ b
  · rw [if_pos h]
    exact congrArg some (by rw [Bool.eq_iff_iff]; simp; omega)
  · rw [if_neg h]
    exact congrArg some (by rw [Bool.eq_iff_iff]; simp; omega)
theorem inI (a b c : Int) : impl_within.f a b c = some (decide (b ≤ a ∧ a ≤ c)) := inS a b c
theorem halfS (a : Int) : spec_HalfOk.f a = some (decide (0 ≤ a ∧ a ≤ 4294967295)) := by
  unfold spec_HalfOk.f
  rw [inS]
  rfl
theorem halfI (a : Int) : impl_HalfOk.f a = some (decide (0 ≤ a ∧ a ≤ 4294967295)) := halfS a
theorem wideS (a b : Int) : spec_WideOk.f a b = some (decide ((0 ≤ a ∧ a ≤ 4294967295) ∧ (0 ≤ b ∧ b ≤ 4294967295))) := by
  unfold spec_WideOk.f
  simp only [halfS, Option.bind_some, decide_eq_true_eq]
  split
  · rename_i h
    exact congrArg some (by rw [Bool.eq_iff_iff]; simp [h])
  · rename_i h
    exact congrArg some (by rw [Bool.eq_iff_iff]; simp [h])
theorem wideI (a b : Int) : impl_WideOk.f a b = some (decide ((0 ≤ a ∧ a ≤ 4294967295) ∧ (0 ≤ b ∧ b ≤ 4294967295))) := wideS a b
theorem condS (a b c d e f : Int) : spec_CondOk.f a b c d e f = some (decide ((0 ≤ a ∧ a ≤ 2) ∧ ((0 ≤ b ∧ b ≤ 4294967295) ∧ (0 ≤ c ∧ c ≤ 4294967295)) ∧ ((0 ≤ e ∧ e ≤ 4294967295) ∧ (0 ≤ f ∧ f ≤ 4294967295)) ∧ 1 ≤ d ∧ d ≤ 6)) := by
  unfold spec_CondOk.f
  simp only [inS, wideS, Option.bind_some, decide_eq_true_eq]
  repeat' split
  all_goals (refine congrArg some ?_; rw [Bool.eq_iff_iff]; simp only [Bool.false_eq_true, decide_eq_true_eq, false_iff])
  all_goals omega
theorem condI (a b c d e f : Int) : impl_CondOk.f a b c d e f = some (decide ((0 ≤ a ∧ a ≤ 2) ∧ ((0 ≤ b ∧ b ≤ 4294967295) ∧ (0 ≤ c ∧ c ≤ 4294967295)) ∧ ((0 ≤ e ∧ e ≤ 4294967295) ∧ (0 ≤ f ∧ f ≤ 4294967295)) ∧ 1 ≤ d ∧ d ≤ 6)) := condS a b c d e f
theorem actS (a b : Int) : Tot (fun _ => spec_l09Act.f a b) := by
  refine ⟨decide ((0 ≤ a ∧ a ≤ 5) ∧ (0 ≤ b ∧ b ≤ 65535)), .const fun k => ?_⟩
  unfold spec_l09Act.f
  simp only [inS, Option.bind_some, decide_eq_true_eq]
  split
  · rename_i h
    exact congrArg some (by rw [Bool.eq_iff_iff]; simp [h])
  · rename_i h
    exact congrArg some (by rw [Bool.eq_iff_iff]; simp [h])
/-- A rule's second loop, and its end. -/
theorem rule_l1 (x : List Int) (l : List S95) (a b : Int) (hn : l.length ≤ 4611686018427387904) : ∃ r, Evt (fun k => spec_l09Rule.l1 k 0 x l a b) r ∧ Evt (fun k => impl_ruleOk.l1 k l (l.length : Int) 0 x l a b) r := by
  refine down (T := fun i => ∃ r, Evt (fun k => spec_l09Rule.l1 k (i : Int) x l a b) r ∧ Evt (fun k => impl_ruleOk.l1 k l (l.length : Int) (i : Int) x l a b) r) (n := l.length) ?_ ?_ l.length 0 (by omega)
  · obtain ⟨v, K, hv⟩ := actS a b
    dsimp only at hv
    have hv0 := hv K (Nat.le_refl _)
    have hv1 : impl_actionOk.f a b = some v := hv0
    refine ⟨if (x.length : Int) ≤ 4 then (if (l.length : Int) ≤ 3 then v else false) else false, .succ (.const fun k => ?_), .succ (.const fun k => ?_)⟩
    · simp only [spec_l09Rule.l1]
      rw [if_neg (by omega), hv0]
      simp only [Option.bind_some]
      repeat' split
      all_goals rfl
    · simp only [impl_ruleOk.l1]
      rw [if_neg (by omega), hv1]
      simp only [Option.bind_some]
      repeat' split
      all_goals rfl
  · intro i hi ih
    obtain ⟨r, ⟨K1, h1⟩, ⟨K2, h2⟩⟩ := ih
    dsimp only at h1 h2
    obtain ⟨q, e, e'⟩ : ∃ q, spec_CondOk.f l[i].f0 l[i].f1.f0 l[i].f1.f1 l[i].f2 l[i].f3.f0 l[i].f3.f1 = some q ∧ impl_CondOk.f l[i].f0 l[i].f1.f0 l[i].f1.f1 l[i].f2 l[i].f3.f0 l[i].f3.f1 = some q := ⟨_, condS _ _ _ _ _ _, condI _ _ _ _ _ _⟩
    refine ⟨if q = true then r else false, .succ ⟨K1, fun k hk => ?_⟩, .succ ⟨K2, fun k hk => ?_⟩⟩
    · simp only [spec_l09Rule.l1]
      rw [if_pos (by omega), if_pos (by omega), nrd_T95 l i hi, e, wsucc hi (by omega)]
      simp only [Option.bind_some]
      rw [h1 k (by omega)]
      split <;> rfl
    · simp only [impl_ruleOk.l1]
      rw [if_pos (by omega), if_pos (by omega), if_pos (by omega), nrd_T95 l i hi, e', wsucc hi (by omega)]
      simp only [Option.bind_some]
      rw [h2 k (by omega)]
      split <;> rfl
theorem rule (x : List Int) (l : List S95) (a b : Int) (hx : x.length ≤ 4611686018427387904) (hn : l.length ≤ 4611686018427387904) : ∃ r, Evt (fun k => spec_l09Rule.f k x l a b) r ∧ Evt (fun k => impl_ruleOk.f k x l a b) r := by
  refine down (T := fun i => ∃ r, Evt (fun k => spec_l09Rule.l0 k (i : Int) x l a b) r ∧ Evt (fun k => impl_ruleOk.l0 k x (x.length : Int) (i : Int) x l a b) r) (n := x.length) ?_ ?_ x.length 0 (by omega)
  · obtain ⟨r, ⟨K1, h1⟩, ⟨K2, h2⟩⟩ := rule_l1 x l a b hn
    dsimp only at h1 h2
    refine ⟨r, .succ ⟨K1, fun k hk => ?_⟩, .succ ⟨K2, fun k hk => ?_⟩⟩
    · simp only [spec_l09Rule.l0]
      rw [if_neg (by omega)]
      exact h1 k hk
    · simp only [impl_ruleOk.l0]
      rw [if_neg (by omega)]
      exact h2 k hk
  · intro i hi ih
    obtain ⟨r, ⟨K1, h1⟩, ⟨K2, h2⟩⟩ := ih
    dsimp only at h1 h2
    obtain ⟨q, e, e'⟩ : ∃ q, spec_HalfOk.f x[i] = some q ∧ impl_HalfOk.f x[i] = some q := ⟨_, halfS _, halfI _⟩
    have ew : 0 < i → wrap64 ((i : Int) - 1) = ((i - 1 : Nat) : Int) := fun h => by rw [w64 (by omega) (by omega)]; omega
    refine ⟨if q = true then (if 0 < i ∧ rd x (wrap64 ((i : Int) - 1)) ≥ x[i] then false else r) else false, .succ ⟨K1, fun k hk => ?_⟩, .succ ⟨K2, fun k hk => ?_⟩⟩
    · simp only [spec_l09Rule.l0]
      rw [if_pos (by omega), if_pos (by omega), nrd x i hi, e, wsucc hi (by omega)]
      simp only [Option.bind_some]
      by_cases h0 : 0 < i
      · have h9 := ew h0
        rw [h9, if_pos (show (i : Int) > 0 by omega), if_pos (show (0 : Int) ≤ ((i - 1 : Nat) : Int) by omega), if_pos (show ((i - 1 : Nat) : Int) < (x.length : Int) by omega), h1 k (by omega)]
        simp only [h0, true_and]
        repeat' split
        all_goals rfl
      · rw [if_neg (show ¬ (i : Int) > 0 by omega), h1 k (by omega)]
        simp only [h0, false_and, if_false]
        split <;> rfl
    · simp only [impl_ruleOk.l0]
      rw [if_pos (by omega), if_pos (by omega), if_pos (by omega), nrd x i hi, e', wsucc hi (by omega)]
      simp only [Option.bind_some]
      by_cases h0 : 0 < i
      · have h9 := ew h0
        rw [h9, if_pos (show (i : Int) > 0 by omega), if_pos (show (0 : Int) ≤ ((i - 1 : Nat) : Int) by omega), if_pos (show ((i - 1 : Nat) : Int) < (x.length : Int) by omega), h2 k (by omega)]
        simp only [h0, true_and]
        repeat' split
        all_goals rfl
      · rw [if_neg (show ¬ (i : Int) > 0 by omega), h2 k (by omega)]
        simp only [h0, false_and, if_false]
        split <;> rfl
theorem pol (a b c : Int) (l : List S91) (hn : l.length ≤ 4611686018427387904) (hl : ∀ y ∈ l, y.f0.length ≤ 4611686018427387904 ∧ y.f1.length ≤ 4611686018427387904) : ∃ r, Evt (fun k => spec_PolicyOk.f k a b c l) r ∧ Evt (fun k => impl_PolicyOk.f k a b c l) r := by
  refine down (T := fun i => ∃ r, Evt (fun k => spec_PolicyOk.l0 k (i : Int) a b c l) r ∧ Evt (fun k => impl_PolicyOk.l0 k l (l.length : Int) (i : Int) a b c l) r) (n := l.length) ?_ ?_ l.length 0 (by omega)
  · obtain ⟨v, K, hv⟩ := actS b c
    dsimp only at hv
    have hv0 := hv K (Nat.le_refl _)
    have hv1 : impl_actionOk.f b c = some v := hv0
    refine ⟨if decide (0 ≤ a ∧ a ≤ 4294967295) = true then (if v = true then decide ((l.length : Int) ≤ 10) else false) else false, .succ (.const fun k => ?_), .succ (.const fun k => ?_)⟩
    · simp only [spec_PolicyOk.l0]
      rw [if_neg (by omega), halfS, hv0]
      simp only [Option.bind_some]
      repeat' split
      all_goals rfl
    · simp only [impl_PolicyOk.l0]
      rw [if_neg (by omega), halfI, hv1]
      simp only [Option.bind_some]
      repeat' split
      all_goals rfl
  · intro i hi ih
    obtain ⟨r, ⟨K1, h1⟩, ⟨K2, h2⟩⟩ := ih
    have hb := hl _ (List.getElem_mem hi)
    obtain ⟨q, ⟨K3, h3⟩, ⟨K4, h4⟩⟩ := rule l[i].f0 l[i].f1 l[i].f2 l[i].f3 hb.1 hb.2
    dsimp only at h1 h2 h3 h4
    refine ⟨if q = true then r else false, .succ ⟨K1 + K3, fun k hk => ?_⟩, .succ ⟨K2 + K4, fun k hk => ?_⟩⟩
    · simp only [spec_PolicyOk.l0]
      rw [if_pos (by omega), if_pos (by omega), nrd_T91 l i hi, h3 k (by omega), wsucc hi (by omega)]
      simp only [Option.bind_some]
      rw [h1 k (by omega)]
      split <;> rfl
    · simp only [impl_PolicyOk.l0]
      rw [if_pos (by omega), if_pos (by omega), if_pos (by omega), nrd_T91 l i hi, h4 k (by omega), wsucc hi (by omega)]
      simp only [Option.bind_some]
      rw [h2 k (by omega)]
      split <;> rfl
/-- A right condition. -/
def CondR (y : S95) : Prop := (0 ≤ y.f0 ∧ y.f0 ≤ 2) ∧ ((0 ≤ y.f1.f0 ∧ y.f1.f0 ≤ 4294967295) ∧ (0 ≤ y.f1.f1 ∧ y.f1.f1 ≤ 4294967295)) ∧ ((0 ≤ y.f3.f0 ∧ y.f3.f0 ≤ 4294967295) ∧ (0 ≤ y.f3.f1 ∧ y.f3.f1 ≤ 4294967295)) ∧ 1 ≤ y.f2 ∧ y.f2 ≤ 6
/-- Numbers that go up, each a half. -/
def NumsR (x : List Int) : Prop := (∀ i (h : i < x.length), 0 ≤ x[i] ∧ x[i] ≤ 4294967295) ∧ ∀ i (h : i + 1 < x.length), x[i] < x[i + 1]
/-- A right rule. -/
def RuleR (x : List Int) (l : List S95) (a b : Int) : Prop := NumsR x ∧ (∀ y ∈ l, CondR y) ∧ x.length ≤ 4 ∧ l.length ≤ 3 ∧ (0 ≤ a ∧ a ≤ 5) ∧ (0 ≤ b ∧ b ≤ 65535)
theorem act_inv {a b : Int} (h : ((spec_l09Act.f a b).bind fun t => some t) = some true) : (0 ≤ a ∧ a ≤ 5) ∧ (0 ≤ b ∧ b ≤ 65535) := by
  simp only [spec_l09Act.f, inS, Option.bind_some] at h
  by_cases h1 : 0 ≤ a ∧ a ≤ 5
  · rw [decide_eq_true h1, if_pos rfl] at h
    simp only [Option.bind_some, Option.some.injEq, decide_eq_true_eq] at h
    exact ⟨h1, h⟩
  · rw [decide_eq_false h1, if_neg (by simp)] at h
    simp at h
theorem rule_inv1 (x : List Int) (l : List S95) (a b : Int) (hn : l.length ≤ 4611686018427387904) : ∀ (k i : Nat), i ≤ l.length → spec_l09Rule.l1 k (i : Int) x l a b = some true → (∀ j (h : j < l.length), i ≤ j → CondR l[j]) ∧ x.length ≤ 4 ∧ l.length ≤ 3 ∧ (0 ≤ a ∧ a ≤ 5) ∧ (0 ≤ b ∧ b ≤ 65535) := by
  intro k
  induction k with
  | zero => intro i _ h; simp [spec_l09Rule.l1] at h
  | succ k ih =>
    intro i hi h
    simp only [spec_l09Rule.l1] at h
    by_cases hlt : i < l.length
    · rw [if_pos (by omega), if_pos (by omega), nrd_T95 l i hlt, condS, wsucc hlt (by omega)] at h
      simp only [Option.bind_some, decide_eq_true_eq] at h
      by_cases hc : (0 ≤ l[i].f0 ∧ l[i].f0 ≤ 2) ∧ ((0 ≤ l[i].f1.f0 ∧ l[i].f1.f0 ≤ 4294967295) ∧ (0 ≤ l[i].f1.f1 ∧ l[i].f1.f1 ≤ 4294967295)) ∧ ((0 ≤ l[i].f3.f0 ∧ l[i].f3.f0 ≤ 4294967295) ∧ (0 ≤ l[i].f3.f1 ∧ l[i].f3.f1 ≤ 4294967295)) ∧ 1 ≤ l[i].f2 ∧ l[i].f2 ≤ 6
      · rw [if_pos hc] at h
        obtain ⟨h1, h2⟩ := ih (i + 1) (by omega) h
        refine ⟨fun j hj hij => ?_, h2⟩
        rcases Nat.lt_or_ge i j with h3 | h3
        · exact h1 j hj (by omega)
        · have : i = j := by omega
          subst this
          exact hc
      · rw [if_neg hc] at h
        simp at h
    · rw [if_neg (by omega)] at h
      by_cases h1 : (x.length : Int) ≤ 4
      · by_cases h2 : (l.length : Int) ≤ 3
        · rw [if_pos h1, if_pos h2] at h
          exact ⟨fun j hj hij => by omega, by omega, by omega, act_inv h⟩
        · rw [if_pos h1, if_neg h2] at h
          simp at h
      · rw [if_neg h1] at h
        simp at h
theorem rule_inv0 (x : List Int) (l : List S95) (a b : Int) (hx : x.length ≤ 4611686018427387904) (hn : l.length ≤ 4611686018427387904) : ∀ (k i : Nat), i ≤ x.length → spec_l09Rule.l0 k (i : Int) x l a b = some true → (∀ j (h : j < x.length), i ≤ j → 0 ≤ x[j] ∧ x[j] ≤ 4294967295) ∧ (∀ j (h : j + 1 < x.length), i ≤ j + 1 → x[j] < x[j + 1]) ∧ (∀ y ∈ l, CondR y) ∧ x.length ≤ 4 ∧ l.length ≤ 3 ∧ (0 ≤ a ∧ a ≤ 5) ∧ (0 ≤ b ∧ b ≤ 65535) := by
  intro k
  induction k with
  | zero => intro i _ h; simp [spec_l09Rule.l0] at h
  | succ k ih =>
    intro i hi h
    simp only [spec_l09Rule.l0] at h
    by_cases hlt : i < x.length
    · rw [if_pos (by omega), if_pos (by omega), nrd x i hlt, halfS, wsucc hlt (by omega)] at h
      simp only [Option.bind_some, decide_eq_true_eq] at h
      by_cases hc : 0 ≤ x[i] ∧ x[i] ≤ 4294967295
      · rw [if_pos hc] at h
        by_cases h0 : i = 0
        · rw [if_neg (by omega)] at h
          obtain ⟨h1, h2, h3⟩ := ih (i + 1) (by omega) h
          refine ⟨fun j hj hij => ?_, fun j hj hij => h2 j hj (by omega), h3⟩
          rcases Nat.lt_or_ge i j with h4 | h4
          · exact h1 j hj (by omega)
          · have : i = j := by omega
            subst this
            exact hc
        · obtain ⟨m, rfl⟩ : ∃ m, i = m + 1 := ⟨i - 1, by omega⟩
          have ew : wrap64 (((m + 1 : Nat) : Int) - 1) = (m : Int) := by rw [w64 (by omega) (by omega)]; omega
          rw [if_pos (by omega), ew, if_pos (by omega), if_pos (by omega), nrd x m (by omega)] at h
          by_cases hg : x[m] ≥ x[m + 1]
          · rw [if_pos hg] at h
            simp at h
          · rw [if_neg hg] at h
            obtain ⟨h1, h2, h3⟩ := ih (m + 1 + 1) (by omega) h
            refine ⟨fun j hj hij => ?_, fun j hj hij => ?_, h3⟩
            · rcases Nat.lt_or_ge (m + 1) j with h4 | h4
              · exact h1 j hj (by omega)
              · have : j = m + 1 := by omega
                subst this
                exact hc
            · rcases Nat.lt_or_ge m j with h4 | h4
              · exact h2 j hj (by omega)
              · have : j = m := by omega
                subst this
                omega
      · rw [if_neg hc] at h
        simp at h
    · rw [if_neg (by omega)] at h
      obtain ⟨h1, h2⟩ := rule_inv1 x l a b hn k 0 (by omega) h
      exact ⟨fun j hj hij => by omega, fun j hj hij => by omega, fun y hy => by
        obtain ⟨j, hj, rfl⟩ := List.getElem_of_mem hy
        exact h1 j hj (by omega), h2⟩
theorem rule_inv (x : List Int) (l : List S95) (a b : Int) (hx : x.length ≤ 4611686018427387904) (hn : l.length ≤ 4611686018427387904) {k : Nat} (h : spec_l09Rule.f k x l a b = some true) : RuleR x l a b := by
  obtain ⟨h1, h2, h3⟩ := rule_inv0 x l a b hx hn k 0 (by omega) h
  exact ⟨⟨fun i hi => h1 i hi (by omega), fun i hi => h2 i hi (by omega)⟩, h3⟩
theorem pol_inv (a b c : Int) (l : List S91) (hn : l.length ≤ 4611686018427387904) (hl : ∀ y ∈ l, y.f0.length ≤ 4611686018427387904 ∧ y.f1.length ≤ 4611686018427387904) {k : Nat} (h : spec_PolicyOk.f k a b c l = some true) : (0 ≤ a ∧ a ≤ 4294967295) ∧ ((0 ≤ b ∧ b ≤ 5) ∧ (0 ≤ c ∧ c ≤ 65535)) ∧ l.length ≤ 10 ∧ ∀ y ∈ l, RuleR y.f0 y.f1 y.f2 y.f3 := by
  have key : ∀ (k i : Nat), i ≤ l.length → spec_PolicyOk.l0 k (i : Int) a b c l = some true → (0 ≤ a ∧ a ≤ 4294967295) ∧ ((0 ≤ b ∧ b ≤ 5) ∧ (0 ≤ c ∧ c ≤ 65535)) ∧ l.length ≤ 10 ∧ ∀ j (h : j < l.length), i ≤ j → RuleR l[j].f0 l[j].f1 l[j].f2 l[j].f3 := by
    intro k
    induction k with
    | zero => intro i _ h; simp [spec_PolicyOk.l0] at h
    | succ k ih =>
      intro i hi h
      simp only [spec_PolicyOk.l0] at h
      by_cases hlt : i < l.length
      · have hb := hl _ (List.getElem_mem hlt)
        rw [if_pos (by omega), if_pos (by omega), nrd_T91 l i hlt, wsucc hlt (by omega)] at h
        cases hr : spec_l09Rule.f k l[i].f0 l[i].f1 l[i].f2 l[i].f3 with
        | none => rw [hr] at h; simp at h
        | some t =>
          rw [hr] at h
          simp only [Option.bind_some] at h
          cases t with
          | false => rw [if_neg (by simp)] at h; simp at h
          | true =>
            rw [if_pos rfl] at h
            obtain ⟨h1, h2, h3, h4⟩ := ih (i + 1) (by omega) h
            refine ⟨h1, h2, h3, fun j hj hij => ?_⟩
            rcases Nat.lt_or_ge i j with h5 | h5
            · exact h4 j hj (by omega)
            · have : i = j := by omega
              subst this
              exact rule_inv _ _ _ _ hb.1 hb.2 hr
      · rw [if_neg (by omega), halfS] at h
        simp only [Option.bind_some, decide_eq_true_eq] at h
        by_cases hc : 0 ≤ a ∧ a ≤ 4294967295
        · rw [if_pos hc] at h
          cases hr : spec_l09Act.f b c with
          | none => rw [hr] at h; simp at h
          | some t =>
            rw [hr] at h
            simp only [Option.bind_some] at h
            cases t with
            | false => rw [if_neg (by simp)] at h; simp at h
            | true =>
              rw [if_pos rfl] at h
              simp only [Option.some.injEq, decide_eq_true_eq] at h
              exact ⟨hc, act_inv (by rw [hr]; rfl), by omega, fun j hj hij => by omega⟩
        · rw [if_neg hc] at h
          simp at h
  obtain ⟨h1, h2, h3, h4⟩ := key k 0 (by omega) h
  exact ⟨h1, h2, h3, fun y hy => by
    obtain ⟨j, hj, rfl⟩ := List.getElem_of_mem hy
    exact h4 j hj (by omega)⟩
theorem fig (d : Int) (h0 : 0 ≤ d) (h1 : d < 10) : (⟨#[48, 49, 50, 51, 52, 53, 54, 55, 56, 57, 97, 98, 99, 100, 101, 102]⟩ : ByteArray).extract d.toNat (d + 1).toNat = strOfNums [(48 + d) % 256] := by
  have : d = 0 ∨ d = 1 ∨ d = 2 ∨ d = 3 ∨ d = 4 ∨ d = 5 ∨ d = 6 ∨ d = 7 ∨ d = 8 ∨ d = 9 := by omega
  rcases this with h | h | h | h | h | h | h | h | h | h <;> subst h <;> rfl
/-- A number's figures: the same on both sides, and no more than it has places. -/
theorem figures_l0 (n : Int) (hn : 0 ≤ n) : ∀ (d : Nat) (x : Int) (s : ByteArray), 0 < x → x < 10 ^ d → x ≤ 9223372036854775807 → d + s.size ≤ 9000000000000000000 → ∃ v : ByteArray, Evt (fun k => spec_l08Figures.l0 k x s) v ∧ Evt (fun k => impl_Decimal.l0 k n s x) v ∧ v.size ≤ d + s.size := by
  intro d
  induction d with
  | zero =>
    intro x s h0 h1 hx h2
    have : (10 : Int) ^ 0 = 1 := rfl
    omega
  | succ d ih =>
    intro x s h0 h1 hx h2
    rw [Int.pow_succ] at h1
    have ed : x.tdiv 10 = x / 10 := Int.tdiv_eq_ediv_of_nonneg (by omega)
    have em : x.tmod 10 = x % 10 := Int.tmod_eq_emod_of_nonneg (by omega)
    have e10 : wrap64 (x / 10) = x / 10 := w64 (by omega) (by omega)
    have e48 : wrap64 (48 + x % 10) = 48 + x % 10 := w64 (by omega) (by omega)
    have en : wrap64 (-(x % 10)) = -(x % 10) := w64 (by omega) (by omega)
    have ex : mx (x % 10) (-(x % 10)) = x % 10 := by unfold mx; split <;> omega
    have e1 : wrap64 (x % 10 + 1) = x % 10 + 1 := w64 (by omega) (by omega)
    have hf := fig (x % 10) (by omega) (by omega)
    have hs : (strOfNums [(48 + x % 10) % 256]).size = 1 := rfl
    by_cases h9 : x > 9
    · obtain ⟨v, ⟨K1, g1⟩, ⟨K2, g2⟩, hv⟩ := ih (x / 10) (strOfNums [(48 + x % 10) % 256] ++ s) (by omega) (by omega) (by omega) (by rw [ByteArray.size_append, hs]; omega)
      rw [ByteArray.size_append, hs] at hv
      dsimp only at g1 g2
      refine ⟨v, .succ ⟨K1, fun k hk => ?_⟩, .succ ⟨K2, fun k hk => ?_⟩, by omega⟩
      · simp only [spec_l08Figures.l0, ed, em, e10, e48]
        rw [if_pos h9]
        simp only [Option.bind_some]
        rw [if_pos (by rw [hs]; omega)]
        exact g1 k hk
      · simp only [impl_Decimal.l0, ed, em, e10, en, ex, e1, hf]
        rw [if_neg (by omega), if_pos (by omega), if_pos (by omega), if_pos (by omega), if_pos (by rw [hs]; omega)]
        exact g2 k hk
    · have hx2 : x % 10 = x := by omega
      have hx3 : x / 10 = 0 := by omega
      have ew : wrap64 (48 + x) = 48 + x := w64 (by omega) (by omega)
      rw [hx2] at hf hs e1 en ex em
      rw [hx3] at ed
      refine ⟨strOfNums [(48 + x) % 256] ++ s, .succ (.const fun k => ?_), .succ (.succ (.const fun k => ?_)), by rw [ByteArray.size_append, hs]; omega⟩
      · simp only [spec_l08Figures.l0, ew]
        rw [if_neg h9]
        simp only [Option.bind_some]
        rw [if_pos (by rw [hs]; omega)]
      · have ew0 : wrap64 0 = 0 := w64 (by omega) (by omega)
        simp only [impl_Decimal.l0, ed, em, en, ex, e1, hf, ew0, if_true]
        rw [if_neg (by omega), if_pos (by omega), if_pos (by omega), if_pos (by omega), if_pos (by rw [hs]; omega), if_neg (by omega)]
theorem figures (n : Int) (hn : n ≤ 9223372036854775807) : ∃ v : ByteArray, Evt (fun k => spec_l08Figures.f k n) v ∧ Evt (fun k => impl_Decimal.f k (mx 0 n)) v ∧ v.size ≤ 20 := by
  have zero : ∃ v : ByteArray, Evt (fun k => spec_l08Figures.j0 k 0) v ∧ Evt (fun k => impl_Decimal.f k 0) v ∧ v.size ≤ 20 := by
    refine ⟨⟨#[48]⟩, .succ (.succ (.const fun k => ?_)), .const fun k => ?_, by decide⟩
    · simp only [spec_l08Figures.j0, spec_l08Figures.l0]
      rw [if_neg (by omega), w64 (by omega) (by omega)]
      rfl
    · simp only [impl_Decimal.f, if_true]
  by_cases h : n < 0
  · have e : mx 0 n = 0 := by unfold mx; split <;> omega
    obtain ⟨v, ⟨K1, a⟩, b, c⟩ := zero
    rw [e]
    exact ⟨v, ⟨K1, fun k hk => by simp only [spec_l08Figures.f]; rw [if_pos h]; exact a k hk⟩, b, c⟩
  · by_cases h0 : n = 0
    · subst h0
      obtain ⟨v, ⟨K1, a⟩, b, c⟩ := zero
      exact ⟨v, ⟨K1, fun k hk => by simp only [spec_l08Figures.f]; rw [if_neg h]; exact a k hk⟩, b, c⟩
    · have e : mx 0 n = n := by unfold mx; split <;> omega
      rw [e]
      have h20 : n < 10 ^ 20 := by
        rw [show (10 : Int) ^ 20 = 100000000000000000000 by decide]
        omega
      obtain ⟨v, ⟨K1, a⟩, ⟨K2, b⟩, c⟩ := figures_l0 n (by omega) 20 n ⟨#[]⟩ (by omega) h20 hn (by show 20 + 0 ≤ _; omega)
      dsimp only at a b
      refine ⟨v, .succ ⟨K1, fun k hk => ?_⟩, ⟨K2, fun k hk => ?_⟩, Nat.le_trans c (by show 20 + 0 ≤ _; omega)⟩
      · simp only [spec_l08Figures.f, spec_l08Figures.j0]
        rw [if_neg h]
        exact a k hk
      · simp only [impl_Decimal.f]
        rw [if_neg h0]
        exact b k hk
theorem decS (n : Int) (h0 : 0 ≤ n) (hn : n ≤ 4294967295) : ∃ v : ByteArray, Evt (fun k => spec_l08Figures.f k n) v ∧ Evt (fun k => impl_Decimal.f k n) v ∧ v.size ≤ 20 := by
  obtain ⟨v, a, b, c⟩ := figures n (by omega)
  have e : mx 0 n = n := by unfold mx; split <;> omega
  rw [e] at b
  exact ⟨v, a, b, c⟩
theorem wideS' (a b : Int) (ha : 0 ≤ a ∧ a ≤ 4294967295) (hb : 0 ≤ b ∧ b ≤ 4294967295) : ∃ v : ByteArray, Evt (fun k => spec_l10Wide.f k a b) v ∧ Evt (fun k => impl_showWide.f k a b) v ∧ v.size ≤ 43 := by
  obtain ⟨u, ⟨K1, h1⟩, ⟨K2, h2⟩, hu⟩ := decS a ha.1 ha.2
  obtain ⟨v, ⟨K3, h3⟩, ⟨K4, h4⟩, hv⟩ := decS b hb.1 hb.2
  dsimp only at h1 h2 h3 h4
  have z : (⟨#[32, 58, 32]⟩ : ByteArray).size = 3 := rfl
  refine ⟨(u ++ (⟨#[32, 58, 32]⟩ : ByteArray)) ++ v, ⟨K1 + K3, fun k hk => ?_⟩, ⟨K2 + K4, fun k hk => ?_⟩, by simp only [ByteArray.size_append, z]; omega⟩
  · simp only [spec_l10Wide.f, h1 k (by omega), h3 k (by omega), Option.bind_some]
    rw [if_pos (by omega), if_pos (by simp only [ByteArray.size_append, z]; omega)]
  · simp only [impl_showWide.f, h2 k (by omega), h4 k (by omega), Option.bind_some]
    rw [if_pos (by omega), if_pos (by simp only [ByteArray.size_append, z]; omega)]
theorem names (a : Int) (ha : 0 ≤ a ∧ a ≤ 5) : ∃ v : ByteArray, spec_ActionName.f a = some v ∧ impl_ActionName.f a = some v ∧ v.size ≤ 10 := by
  refine ⟨rdOf ByteArray.empty [(⟨#[107, 105, 108, 108]⟩ : ByteArray), (⟨#[116, 114, 97, 112]⟩ : ByteArray), (⟨#[101, 114, 114]⟩ : ByteArray), (⟨#[116, 114, 97, 99, 101]⟩ : ByteArray), (⟨#[108, 111, 103]⟩ : ByteArray), (⟨#[97, 108, 108, 111, 119]⟩ : ByteArray)] a, ?_, ?_, ?_⟩
  · simp only [spec_ActionName.f, spec_l05Names.f, inS, Option.bind_some]
    rw [decide_eq_true ha, if_pos rfl, if_pos ha.1, if_pos (by show a < ((6 : Nat) : Int); omega)]
  · simp only [impl_ActionName.f, inI, Option.bind_some]
    rw [decide_eq_true ha, if_pos rfl, if_pos ha.1, if_pos (by show a < ((6 : Nat) : Int); omega)]
  · have : a = 0 ∨ a = 1 ∨ a = 2 ∨ a = 3 ∨ a = 4 ∨ a = 5 := by omega
    rcases this with h | h | h | h | h | h <;> subst h <;> decide
theorem marks (a : Int) (ha : 1 ≤ a ∧ a ≤ 6) : ∃ v : ByteArray, rdOf ByteArray.empty [(⟨#[]⟩ : ByteArray), (⟨#[61, 61]⟩ : ByteArray), (⟨#[33, 61]⟩ : ByteArray), (⟨#[60]⟩ : ByteArray), (⟨#[60, 61]⟩ : ByteArray), (⟨#[62]⟩ : ByteArray), (⟨#[62, 61]⟩ : ByteArray)] a = v ∧ rdOf ByteArray.empty [(⟨#[61, 61]⟩ : ByteArray), (⟨#[33, 61]⟩ : ByteArray), (⟨#[60]⟩ : ByteArray), (⟨#[60, 61]⟩ : ByteArray), (⟨#[62]⟩ : ByteArray), (⟨#[62, 61]⟩ : ByteArray)] (a - 1) = v ∧ v.size ≤ 2 := by
  have : a = 1 ∨ a = 2 ∨ a = 3 ∨ a = 4 ∨ a = 5 ∨ a = 6 := by omega
  rcases this with h | h | h | h | h | h <;> subst h <;> exact ⟨_, rfl, rfl, by decide⟩
theorem z32 : (⟨#[32]⟩ : ByteArray).size = 1 := rfl
theorem zarg : (⟨#[97, 114, 103, 32]⟩ : ByteArray).size = 4 := rfl
theorem zarg' : (⟨#[32, 97, 114, 103, 32]⟩ : ByteArray).size = 5 := rfl
theorem zand : (⟨#[32, 38, 32]⟩ : ByteArray).size = 3 := rfl
theorem zdo : (⟨#[32, 100, 111, 32]⟩ : ByteArray).size = 4 := rfl
theorem zend : (⟨#[32, 59]⟩ : ByteArray).size = 2 := rfl
theorem zif : (⟨#[32, 105, 102]⟩ : ByteArray).size = 3 := rfl
theorem zif' : (⟨#[32, 105, 102, 32]⟩ : ByteArray).size = 4 := rfl
theorem zan : (⟨#[32, 97, 110, 100]⟩ : ByteArray).size = 4 := rfl
theorem zan' : (⟨#[32, 97, 110, 100, 32]⟩ : ByteArray).size = 5 := rfl
theorem zco : (⟨#[32, 44]⟩ : ByteArray).size = 2 := rfl
theorem zco' : (⟨#[32, 44, 32]⟩ : ByteArray).size = 3 := rfl
theorem zon : (⟨#[32, 111, 110]⟩ : ByteArray).size = 3 := rfl
theorem zon' : (⟨#[111, 110, 32]⟩ : ByteArray).size = 3 := rfl
theorem zany : (⟨#[32, 97, 110, 121]⟩ : ByteArray).size = 4 := rfl
theorem zany' : (⟨#[97, 110, 121]⟩ : ByteArray).size = 3 := rfl
/-- A condition as a text, behind its first word. -/
theorem condText (y : S95) (h : (0 ≤ y.f0 ∧ y.f0 ≤ 2) ∧ ((0 ≤ y.f1.f0 ∧ y.f1.f0 ≤ 4294967295) ∧ (0 ≤ y.f1.f1 ∧ y.f1.f1 ≤ 4294967295)) ∧ ((0 ≤ y.f3.f0 ∧ y.f3.f0 ≤ 4294967295) ∧ (0 ≤ y.f3.f1 ∧ y.f3.f1 ≤ 4294967295)) ∧ 1 ≤ y.f2 ∧ y.f2 ≤ 6) :
    ∃ T : ByteArray, T.size ≤ 200 ∧ ∃ K, ∀ k, K ≤ k → (∀ (x : ByteArray) (i : Int) (N : List Int) (R : List S95) (a b : Int), x.size ≤ 1000000000 → spec_l10Rule.j3 (k + 1) x i N R a b y.f0 y.f1.f0 y.f1.f1 y.f2 y.f3.f0 y.f3.f1 = spec_l10Rule.l1 k (x ++ ((⟨#[97, 114, 103, 32]⟩ : ByteArray) ++ T)) (wrap64 (i + 1)) N R a b) ∧
      (∀ (x w : ByteArray) (l : List S91) (n j : Int) (r : List S95) (m i : Int) (N : List Int) (R : List S95) (a b : Int), x.size ≤ 1000000000 → w.size ≤ 10 → impl_ShowPolicy.j4 (k + 1) x w l n j r m i N R a b y.f0 y.f1.f0 y.f1.f1 y.f2 y.f3.f0 y.f3.f1 = impl_ShowPolicy.l2 k (x ++ (w ++ ((⟨#[32, 97, 114, 103, 32]⟩ : ByteArray) ++ T))) l n j r m (wrap64 (i + 1)) N R a b) := by
  obtain ⟨h0, ⟨h1, h2⟩, ⟨h3, h4⟩, h5⟩ := h
  obtain ⟨u, ⟨K1, g1⟩, ⟨K2, g2⟩, zu⟩ := decS y.f0 h0.1 (by omega)
  obtain ⟨m, ⟨K3, g3⟩, ⟨K4, g4⟩, zm⟩ := wideS' y.f1.f0 y.f1.f1 h1 h2
  obtain ⟨v, ⟨K5, g5⟩, ⟨K6, g6⟩, zv⟩ := wideS' y.f3.f0 y.f3.f1 h3 h4
  obtain ⟨q, q1, q2, zq⟩ := marks y.f2 h5
  dsimp only at g1 g2 g3 g4 g5 g6
  have ew : Aside0 (wrap64 (y.f2 - 1) = y.f2 - 1) := ⟨w64 (by omega) (by omega)⟩
  refine ⟨u ++ ((⟨#[32, 38, 32]⟩ : ByteArray) ++ (m ++ ((⟨#[32]⟩ : ByteArray) ++ (q ++ ((⟨#[32]⟩ : ByteArray) ++ v))))), by simp only [ByteArray.size_append, z32, zand]; omega, K1 + K2 + K3 + K4 + K5 + K6, fun k hk => ⟨fun x i N R a b hx => ?_, fun x w l n j r mm i N R a b hx hw => ?_⟩⟩
  · simp only [spec_l10Rule.j3, g1 k (by omega), g3 k (by omega), g5 k (by omega), spec_l10Cms.f, Option.bind_some, q1]
    rw [if_pos (by omega), if_pos (by simp only [ByteArray.size_append, zarg]; omega), if_pos (by simp only [ByteArray.size_append, zarg]; omega), if_pos (by simp only [ByteArray.size_append, zarg, zand]; omega), if_pos (by simp only [ByteArray.size_append, zarg, zand]; omega), if_pos (by omega), if_pos (by show y.f2 < ((7 : Nat) : Int); omega), if_pos (by simp only [ByteArray.size_append, zarg, zand, z32]; omega), if_pos (by simp only [ByteArray.size_append, zarg, zand, z32]; omega), if_pos (by simp only [ByteArray.size_append, zarg, zand, z32]; omega)]
    simp only [ByteArray.append_assoc]
  · simp only [impl_ShowPolicy.j4, g2 k (by omega), g4 k (by omega), g6 k (by omega), impl_cmMarks.f, Option.bind_some, ew.out, q2]
    rw [if_pos (by omega), if_pos (by simp only [ByteArray.size_append]; omega), if_pos (by simp only [ByteArray.size_append, zarg']; omega), if_pos (by simp only [ByteArray.size_append, zarg']; omega), if_pos (by simp only [ByteArray.size_append, zarg', zand]; omega), if_pos (by simp only [ByteArray.size_append, zarg', zand]; omega), if_pos (by omega), if_pos (by show y.f2 - 1 < ((6 : Nat) : Int); omega), if_pos (by simp only [ByteArray.size_append, zarg', zand, z32]; omega), if_pos (by simp only [ByteArray.size_append, zarg', zand, z32]; omega), if_pos (by simp only [ByteArray.size_append, zarg', zand, z32]; omega)]
    simp only [ByteArray.append_assoc]
/-- The conditions of a rule, and its end. -/
theorem showConds (N : List Int) (R : List S95) (a b : Int) (hR : ∀ y ∈ R, CondR y) (hl : R.length ≤ 3) (ha : 0 ≤ a ∧ a ≤ 5) (hb : 0 ≤ b ∧ b ≤ 65535) (P : ByteArray) (hP : P.size ≤ 100000) (l : List S91) (n j : Int) : ∀ (d i : Nat) (A S : ByteArray), i + d = R.length → A = P ++ S → S.size + d * 300 ≤ 2000 → ∃ S' : ByteArray, Evt (fun k => spec_l10Rule.l1 k S (i : Int) N R a b) S' ∧ S'.size ≤ S.size + d * 300 + 100 ∧ ∀ r, Evt (fun k => impl_ShowPolicy.l0 k (P ++ S') l n (wrap64 (j + 1))) r → Evt (fun k => impl_ShowPolicy.l2 k A l n j R (R.length : Int) (i : Int) N R a b) r := by
  intro d
  induction d with
  | zero =>
    intro i A S hi hA hS
    obtain ⟨u, u1, u2, zu⟩ := names a ha
    obtain ⟨v, ⟨K1, g1⟩, ⟨K2, g2⟩, zv⟩ := decS b hb.1 (by omega)
    dsimp only at g1 g2
    refine ⟨S ++ ((⟨#[32, 100, 111, 32]⟩ : ByteArray) ++ (u ++ ((⟨#[32]⟩ : ByteArray) ++ (v ++ (⟨#[32, 59]⟩ : ByteArray))))), .succ ⟨K1, fun k hk => ?_⟩, by simp only [ByteArray.size_append, zdo, z32, zend]; omega, fun r ⟨K3, hr⟩ => .succ ⟨K2 + K3, fun k hk => ?_⟩⟩
    · simp only [spec_l10Rule.l1, spec_l10Act.f, u1, g1 k hk, Option.bind_some]
      rw [if_neg (by omega), if_pos (by omega), if_pos (by omega), if_pos (by simp only [ByteArray.size_append, z32]; omega)]
      simp only [Option.bind_some]
      rw [if_pos (by simp only [ByteArray.size_append, z32, zdo]; omega), if_pos (by simp only [ByteArray.size_append, z32, zdo]; omega)]
      simp only [ByteArray.append_assoc]
    · have q := hr k (by omega)
      have zA : A.size = P.size + S.size := by rw [hA, ByteArray.size_append]
      simp only [impl_ShowPolicy.l2, u2, g2 k (by omega), Option.bind_some]
      rw [if_neg (by omega), if_pos (by omega), if_pos (by simp only [ByteArray.size_append, zdo]; omega), if_pos (by simp only [ByteArray.size_append, zdo]; omega), if_pos (by simp only [ByteArray.size_append, zdo, z32]; omega), if_pos (by simp only [ByteArray.size_append, zdo, z32]; omega)]
      rw [← q, hA]
      simp only [ByteArray.append_assoc]
  | succ d ih =>
    intro i A S hi hA hS
    have hlt : i < R.length := by omega
    obtain ⟨T, zT, K, hT⟩ := condText R[i] (hR _ (List.getElem_mem hlt))
    have hrd := nrd_T95 R i hlt
    have zA : A.size = P.size + S.size := by rw [hA, ByteArray.size_append]
    by_cases h0 : (i : Int) = 0
    · obtain ⟨S', ⟨K1, g1⟩, zS, g2⟩ := ih (i + 1) (A ++ ((⟨#[32, 105, 102]⟩ : ByteArray) ++ ((⟨#[32, 97, 114, 103, 32]⟩ : ByteArray) ++ T))) ((S ++ (⟨#[32, 105, 102, 32]⟩ : ByteArray)) ++ ((⟨#[97, 114, 103, 32]⟩ : ByteArray) ++ T)) (by omega) (by
        rw [hA, show (⟨#[32, 105, 102, 32]⟩ : ByteArray) = ⟨#[32, 105, 102]⟩ ++ ⟨#[32]⟩ from rfl, show (⟨#[32, 97, 114, 103, 32]⟩ : ByteArray) = ⟨#[32]⟩ ++ ⟨#[97, 114, 103, 32]⟩ from rfl]
        simp only [ByteArray.append_assoc]) (by simp only [ByteArray.size_append, zif', zarg]; omega)
      refine ⟨S', .succ (.succ ⟨K + K1, fun k hk => ?_⟩), by simp only [ByteArray.size_append, zif', zarg] at zS; omega, fun r hr => ?_⟩
      · have q := g1 k (by omega)
        simp only [spec_l10Rule.l1, hrd]
        rw [if_pos (by omega), if_pos (by omega), if_pos h0, if_pos (by omega), (hT k (by omega)).1 _ _ _ _ _ _ (by simp only [ByteArray.size_append, zif']; omega), wsucc hlt (by omega)]
        exact q
      · obtain ⟨K2, q2⟩ := g2 r hr
        refine .succ (.succ ⟨K + K2, fun k hk => ?_⟩)
        have q := q2 k (by omega)
        simp only [impl_ShowPolicy.l2, hrd]
        rw [if_pos (by omega), if_pos (by omega), if_pos (by omega), if_pos h0, (hT k (by omega)).2 _ _ _ _ _ _ _ _ _ _ _ _ (by omega) (by rw [zif]; omega), wsucc hlt (by omega)]
        exact q
    · obtain ⟨S', ⟨K1, g1⟩, zS, g2⟩ := ih (i + 1) (A ++ ((⟨#[32, 97, 110, 100]⟩ : ByteArray) ++ ((⟨#[32, 97, 114, 103, 32]⟩ : ByteArray) ++ T))) ((S ++ (⟨#[32, 97, 110, 100, 32]⟩ : ByteArray)) ++ ((⟨#[97, 114, 103, 32]⟩ : ByteArray) ++ T)) (by omega) (by
        rw [hA, show (⟨#[32, 97, 110, 100, 32]⟩ : ByteArray) = ⟨#[32, 97, 110, 100]⟩ ++ ⟨#[32]⟩ from rfl, show (⟨#[32, 97, 114, 103, 32]⟩ : ByteArray) = ⟨#[32]⟩ ++ ⟨#[97, 114, 103, 32]⟩ from rfl]
        simp only [ByteArray.append_assoc]) (by simp only [ByteArray.size_append, zan', zarg]; omega)
      refine ⟨S', .succ (.succ ⟨K + K1, fun k hk => ?_⟩), by simp only [ByteArray.size_append, zan', zarg] at zS; omega, fun r hr => ?_⟩
      · have q := g1 k (by omega)
        simp only [spec_l10Rule.l1, hrd]
        rw [if_pos (by omega), if_pos (by omega), if_neg h0, if_pos (by omega), (hT k (by omega)).1 _ _ _ _ _ _ (by simp only [ByteArray.size_append, zan']; omega), wsucc hlt (by omega)]
        exact q
      · obtain ⟨K2, q2⟩ := g2 r hr
        refine .succ (.succ ⟨K + K2, fun k hk => ?_⟩)
        have q := q2 k (by omega)
        simp only [impl_ShowPolicy.l2, hrd]
        rw [if_pos (by omega), if_pos (by omega), if_pos (by omega), if_neg h0, (hT k (by omega)).2 _ _ _ _ _ _ _ _ _ _ _ _ (by omega) (by rw [zan]; omega), wsucc hlt (by omega)]
        exact q
/-- The numbers of a rule. -/
theorem showNums (N : List Int) (R : List S95) (a b : Int) (hN : ∀ i (h : i < N.length), 0 ≤ N[i] ∧ N[i] ≤ 4294967295) (hn : N.length ≤ 4) (hR : ∀ y ∈ R, CondR y) (hl : R.length ≤ 3) (ha : 0 ≤ a ∧ a ≤ 5) (hb : 0 ≤ b ∧ b ≤ 65535) (P : ByteArray) (hP : P.size ≤ 100000) (l : List S91) (n j : Int) : ∀ (d i : Nat) (A S : ByteArray), i + d = N.length → (if i = 0 ∧ 0 < N.length then A ++ (⟨#[32]⟩ : ByteArray) = P ++ S else A = P ++ S) → S.size + d * 50 ≤ 600 → ∃ S' : ByteArray, Evt (fun k => spec_l10Rule.l0 k S (i : Int) N R a b) S' ∧ S'.size ≤ 2000 ∧ ∀ r, Evt (fun k => impl_ShowPolicy.l0 k (P ++ S') l n (wrap64 (j + 1))) r → Evt (fun k => impl_ShowPolicy.l1 k A l n j N (N.length : Int) (i : Int) N R a b) r := by
  intro d
  induction d with
  | zero =>
    intro i A S hi hA hS
    rw [if_neg (by omega)] at hA
    obtain ⟨S', ⟨K1, g1⟩, zS, g2⟩ := showConds N R a b hR hl ha hb P hP l n j R.length 0 A S (by omega) hA (by omega)
    refine ⟨S', .succ ⟨K1, fun k hk => ?_⟩, by omega, fun r hr => ?_⟩
    · have q := g1 k hk
      simp only [spec_l10Rule.l0]
      rw [if_neg (by omega)]
      exact q
    · obtain ⟨K2, q2⟩ := g2 r hr
      refine .succ ⟨K2, fun k hk => ?_⟩
      have q := q2 k hk
      simp only [impl_ShowPolicy.l1]
      rw [if_neg (by omega)]
      exact q
  | succ d ih =>
    intro i A S hi hA hS
    have hlt : i < N.length := by omega
    obtain ⟨v, ⟨K3, g3⟩, ⟨K4, g4⟩, zv⟩ := decS N[i] (hN i hlt).1 (hN i hlt).2
    have hrd := nrd N i hlt
    dsimp only at g3 g4
    by_cases h0 : i = 0
    · rw [if_pos ⟨h0, by omega⟩] at hA
      have zA : A.size + 1 = P.size + S.size := by
        have := congrArg ByteArray.size hA
        simpa only [ByteArray.size_append, z32] using this
      obtain ⟨S', ⟨K1, g1⟩, zS, g2⟩ := ih (i + 1) ((A ++ (⟨#[32]⟩ : ByteArray)) ++ v) (S ++ v) (by omega) (by
        rw [if_neg (by omega), hA, ByteArray.append_assoc]) (by rw [ByteArray.size_append]; omega)
      refine ⟨S', .succ ⟨K1 + K3, fun k hk => ?_⟩, zS, fun r hr => ?_⟩
      · have q := g1 k (by omega)
        simp only [spec_l10Rule.l0, hrd, g3 k (by omega), Option.bind_some]
        rw [if_pos (by omega), if_neg (by omega), if_pos (by omega), if_pos (by omega), wsucc hlt (by omega)]
        exact q
      · obtain ⟨K2, q2⟩ := g2 r hr
        refine .succ ⟨K2 + K4, fun k hk => ?_⟩
        have q := q2 k (by omega)
        simp only [impl_ShowPolicy.l1, hrd, g4 k (by omega), Option.bind_some]
        rw [if_pos (by omega), if_pos (by omega), if_pos (by omega), if_neg (by omega), if_pos (by omega), if_pos (by simp only [ByteArray.size_append, z32]; omega), wsucc hlt (by omega)]
        exact q
    · rw [if_neg (by omega)] at hA
      have zA : A.size = P.size + S.size := by rw [hA, ByteArray.size_append]
      obtain ⟨S', ⟨K1, g1⟩, zS, g2⟩ := ih (i + 1) (((A ++ (⟨#[32, 44]⟩ : ByteArray)) ++ (⟨#[32]⟩ : ByteArray)) ++ v) ((S ++ (⟨#[32, 44, 32]⟩ : ByteArray)) ++ v) (by omega) (by
        rw [if_neg (by omega), hA, show (⟨#[32, 44, 32]⟩ : ByteArray) = ⟨#[32, 44]⟩ ++ ⟨#[32]⟩ from rfl]
        simp only [ByteArray.append_assoc]) (by simp only [ByteArray.size_append, zco']; omega)
      refine ⟨S', .succ ⟨K1 + K3, fun k hk => ?_⟩, zS, fun r hr => ?_⟩
      · have q := g1 k (by omega)
        simp only [spec_l10Rule.l0, hrd, g3 k (by omega), Option.bind_some]
        rw [if_pos (by omega), if_pos (by omega), if_pos (by omega), if_pos (by omega), if_pos (by simp only [ByteArray.size_append, zco']; omega), wsucc hlt (by omega)]
        exact q
      · obtain ⟨K2, q2⟩ := g2 r hr
        refine .succ ⟨K2 + K4, fun k hk => ?_⟩
        have q := q2 k (by omega)
        simp only [impl_ShowPolicy.l1, hrd, g4 k (by omega), Option.bind_some]
        rw [if_pos (by omega), if_pos (by omega), if_pos (by omega), if_pos (by omega), if_pos (by omega), if_pos (by simp only [ByteArray.size_append, zco]; omega), if_pos (by simp only [ByteArray.size_append, zco, z32]; omega), wsucc hlt (by omega)]
        exact q
theorem showRules (a b c : Int) (l : List S91) (hl : l.length ≤ 10) (hr : ∀ y ∈ l, RuleR y.f0 y.f1 y.f2 y.f3) : ∀ (d j : Nat) (X : ByteArray), j + d = l.length → X.size + d * 3000 ≤ 60000 → ∃ r, Evt (fun k => spec_ShowPolicy.l0 k X (j : Int) a b c l) r ∧ Evt (fun k => impl_ShowPolicy.l0 k X l (l.length : Int) (j : Int)) r := by
  intro d
  induction d with
  | zero =>
    intro j X hj hX
    by_cases h : (X.size : Int) > 1200
    · refine ⟨((⟨#[]⟩ : ByteArray), false), .succ (.const fun k => ?_), .succ (.const fun k => ?_)⟩
      · simp only [spec_ShowPolicy.l0]
        rw [if_neg (by omega), if_pos h]
      · simp only [impl_ShowPolicy.l0]
        rw [if_neg (by omega), if_pos h]
    · refine ⟨(X, true), .succ (.const fun k => ?_), .succ (.const fun k => ?_)⟩
      · simp only [spec_ShowPolicy.l0]
        rw [if_neg (by omega), if_neg h]
      · simp only [impl_ShowPolicy.l0]
        rw [if_neg (by omega), if_neg h]
  | succ d ih =>
    intro j X hj hX
    have hlt : j < l.length := by omega
    have hrd := nrd_T91 l j hlt
    obtain ⟨⟨h1, _⟩, h2, h3, h4, h5, h6⟩ := hr l[j] (List.getElem_mem hlt)
    by_cases h0 : (l[j].f0.length : Int) = 0
    · obtain ⟨S', ⟨K1, g1⟩, zS, g2⟩ := showNums l[j].f0 l[j].f1 l[j].f2 l[j].f3 h1 h3 h2 h4 h5 h6 (X ++ (⟨#[32]⟩ : ByteArray)) (by rw [ByteArray.size_append, z32]; omega) l (l.length : Int) (j : Int) l[j].f0.length 0 ((X ++ (⟨#[32, 111, 110]⟩ : ByteArray)) ++ (⟨#[32, 97, 110, 121]⟩ : ByteArray)) ((⟨#[111, 110, 32]⟩ : ByteArray) ++ (⟨#[97, 110, 121]⟩ : ByteArray)) (by omega) (by
        rw [if_neg (by omega), show (⟨#[32, 111, 110]⟩ : ByteArray) = ⟨#[32]⟩ ++ ⟨#[111, 110]⟩ from rfl, show (⟨#[32, 97, 110, 121]⟩ : ByteArray) = ⟨#[32]⟩ ++ ⟨#[97, 110, 121]⟩ from rfl, show (⟨#[111, 110, 32]⟩ : ByteArray) = ⟨#[111, 110]⟩ ++ ⟨#[32]⟩ from rfl]
        simp only [ByteArray.append_assoc]) (by simp only [ByteArray.size_append, zon', zany']; omega)
      obtain ⟨r, ⟨K5, q5⟩, hI⟩ := ih (j + 1) ((X ++ (⟨#[32]⟩ : ByteArray)) ++ S') (by omega) (by simp only [ByteArray.size_append, z32]; omega)
      rw [← wsucc hlt (show l.length ≤ 9223372036854775807 by omega)] at hI
      obtain ⟨K6, q6⟩ := g2 r hI
      dsimp only at g1 q5 q6
      refine ⟨r, .succ (.succ ⟨K1 + K5, fun k hk => ?_⟩), .succ (.succ ⟨K6, fun k hk => ?_⟩)⟩
      · have e : spec_l10Rule.f (k + 1) l[j].f0 l[j].f1 l[j].f2 l[j].f3 = some S' := by
          simp only [spec_l10Rule.f]
          rw [if_pos h0, if_pos (by omega)]
          simp only [spec_l10Rule.j0]
          exact g1 k (by omega)
        simp only [spec_ShowPolicy.l0, hrd, e, Option.bind_some]
        rw [if_pos (by omega), if_pos (by omega), if_pos (by omega), if_pos (by simp only [ByteArray.size_append, z32]; omega), wsucc hlt (by omega)]
        exact q5 (k + 1) (by omega)
      · have q := q6 k hk
        simp only [impl_ShowPolicy.l0, hrd]
        rw [if_pos (by omega), if_pos (by omega), if_pos (by omega), if_pos (by omega), if_pos h0, if_pos (by simp only [ByteArray.size_append, zon]; omega)]
        simp only [impl_ShowPolicy.j1]
        exact q
    · obtain ⟨S', ⟨K1, g1⟩, zS, g2⟩ := showNums l[j].f0 l[j].f1 l[j].f2 l[j].f3 h1 h3 h2 h4 h5 h6 (X ++ (⟨#[32]⟩ : ByteArray)) (by rw [ByteArray.size_append, z32]; omega) l (l.length : Int) (j : Int) l[j].f0.length 0 (X ++ (⟨#[32, 111, 110]⟩ : ByteArray)) (⟨#[111, 110, 32]⟩ : ByteArray) (by omega) (by
        rw [if_pos ⟨rfl, by omega⟩, show (⟨#[32, 111, 110]⟩ : ByteArray) = ⟨#[32]⟩ ++ ⟨#[111, 110]⟩ from rfl, show (⟨#[111, 110, 32]⟩ : ByteArray) = ⟨#[111, 110]⟩ ++ ⟨#[32]⟩ from rfl]
        simp only [ByteArray.append_assoc]) (by rw [zon']; omega)
      obtain ⟨r, ⟨K5, q5⟩, hI⟩ := ih (j + 1) ((X ++ (⟨#[32]⟩ : ByteArray)) ++ S') (by omega) (by simp only [ByteArray.size_append, z32]; omega)
      rw [← wsucc hlt (show l.length ≤ 9223372036854775807 by omega)] at hI
      obtain ⟨K6, q6⟩ := g2 r hI
      dsimp only at g1 q5 q6
      refine ⟨r, .succ (.succ ⟨K1 + K5, fun k hk => ?_⟩), .succ (.succ ⟨K6, fun k hk => ?_⟩)⟩
      · have e : spec_l10Rule.f (k + 1) l[j].f0 l[j].f1 l[j].f2 l[j].f3 = some S' := by
          simp only [spec_l10Rule.f]
          rw [if_neg h0]
          simp only [spec_l10Rule.j0]
          exact g1 k (by omega)
        simp only [spec_ShowPolicy.l0, hrd, e, Option.bind_some]
        rw [if_pos (by omega), if_pos (by omega), if_pos (by omega), if_pos (by simp only [ByteArray.size_append, z32]; omega), wsucc hlt (by omega)]
        exact q5 (k + 1) (by omega)
      · have q := q6 k hk
        simp only [impl_ShowPolicy.l0, hrd]
        rw [if_pos (by omega), if_pos (by omega), if_pos (by omega), if_pos (by omega), if_neg h0]
        simp only [impl_ShowPolicy.j1]
        exact q
theorem show_ (a b c : Int) (l : List S91) (hn : l.length ≤ 4611686018427387904) (hl : ∀ y ∈ l, y.f0.length ≤ 4611686018427387904 ∧ y.f1.length ≤ 4611686018427387904) : ∃ r, Evt (fun k => spec_ShowPolicy.f k a b c l) r ∧ Evt (fun k => impl_ShowPolicy.f k a b c l) r := by
  obtain ⟨p, ⟨K1, h1⟩, ⟨K2, h2⟩⟩ := pol a b c l hn hl
  dsimp only at h1 h2
  cases p with
  | false =>
    refine ⟨((⟨#[]⟩ : ByteArray), false), ⟨K1, fun k hk => ?_⟩, ⟨K2, fun k hk => ?_⟩⟩
    · simp only [spec_ShowPolicy.f, h1 k hk, Option.bind_some, Bool.false_eq_true, if_false]
    · simp only [impl_ShowPolicy.f, h2 k hk, Option.bind_some, Bool.false_eq_true, if_false]
  | true =>
    obtain ⟨ha, ⟨hb, hc⟩, hl10, hr⟩ := pol_inv a b c l hn hl (h1 K1 (Nat.le_refl _))
    obtain ⟨u, ⟨K3, g3⟩, ⟨K4, g4⟩, zu⟩ := decS a ha.1 ha.2
    obtain ⟨v, v1, v2, zv⟩ := names b hb
    obtain ⟨w, ⟨K5, g5⟩, ⟨K6, g6⟩, zw⟩ := decS c hc.1 (by omega)
    dsimp only at g3 g4 g5 g6
    have z1 : (⟨#[97, 114, 99, 104, 32]⟩ : ByteArray).size = 5 := rfl
    have z2 : (⟨#[32, 59, 32, 100, 101, 102, 97, 117, 108, 116, 32]⟩ : ByteArray).size = 11 := rfl
    obtain ⟨r, ⟨K7, g7⟩, ⟨K8, g8⟩⟩ := showRules a b c l hl10 hr l.length 0 ((⟨#[97, 114, 99, 104, 32]⟩ : ByteArray) ++ (u ++ ((⟨#[32, 59, 32, 100, 101, 102, 97, 117, 108, 116, 32]⟩ : ByteArray) ++ (v ++ ((⟨#[32]⟩ : ByteArray) ++ (w ++ (⟨#[32, 59]⟩ : ByteArray))))))) (by omega) (by simp only [ByteArray.size_append, z1, z2, z32, zend]; omega)
    dsimp only at g7 g8
    refine ⟨r, ⟨K1 + K3 + K5 + K7, fun k hk => ?_⟩, ⟨K2 + K4 + K6 + K8, fun k hk => ?_⟩⟩
    · have q := g7 k (by omega)
      simp only [spec_ShowPolicy.f, h1 k (by omega), g3 k (by omega), Option.bind_some, if_true, spec_l10Act.f, v1, g5 k (by omega)]
      rw [if_pos (by omega), if_pos (by simp only [ByteArray.size_append, z1]; omega), if_pos (by omega), if_pos (by simp only [ByteArray.size_append, z32]; omega)]
      simp only [Option.bind_some]
      rw [if_pos (by simp only [ByteArray.size_append, z1, z2, z32]; omega), if_pos (by simp only [ByteArray.size_append, z1, z2, z32]; omega), ← q]
      simp only [ByteArray.append_assoc]
      rfl
    · have q := g8 k (by omega)
      simp only [impl_ShowPolicy.f, h2 k (by omega), g4 k (by omega), Option.bind_some, if_true, v2, g6 k (by omega)]
      rw [if_pos (by omega), if_pos (by simp only [ByteArray.size_append, z1]; omega), if_pos (by simp only [ByteArray.size_append, z1, z2]; omega), if_pos (by simp only [ByteArray.size_append, z1, z2]; omega), if_pos (by simp only [ByteArray.size_append, z1, z2, z32]; omega), if_pos (by simp only [ByteArray.size_append, z1, z2, z32]; omega), ← q]
      simp only [ByteArray.append_assoc]
      rfl
theorem main (a b c : Int) (l : List S136) (hl : ((∀ u ∈ l, (((∀ u5 ∈ u.f0, (Lit.int .i64 u5).wf = true) ∧ u.f0.length ≤ maxLen) ∧ ((∀ u5 ∈ u.f1, ((Lit.int .i64 u5.f0).wf = true ∧ ((Lit.int .i64 u5.f1.f0).wf = true ∧ (Lit.int .i64 u5.f1.f1).wf = true) ∧ (Lit.int .i64 u5.f2).wf = true ∧ ((Lit.int .i64 u5.f3.f0).wf = true ∧ (Lit.int .i64 u5.f3.f1).wf = true))) ∧ u.f1.length ≤ maxLen) ∧ (Lit.int .i64 u.f2).wf = true ∧ (Lit.int .i64 u.f3).wf = true)) ∧ l.length ≤ maxLen)) : ∃ k, laws_FnExactShowPolicy.f k a b c l = some true := by
  obtain ⟨s, hs, hB, K1, h1⟩ := Elaws_szPolicy a b c l 1048576 (by omega) (by omega) hl
  dsimp only at h1
  by_cases hn : s < 0
  · exact ⟨K1, by simp only [laws_FnExactShowPolicy.f, h1 K1 (Nat.le_refl _), Option.bind_some, if_pos hn]⟩
  have bl := hB (by omega)
  have ll : (l.map conv136).length = l.length := List.length_map _
  have cl : ∀ y ∈ l.map conv136, y.f0.length ≤ 4611686018427387904 ∧ y.f1.length ≤ 4611686018427387904 := by
    simp only [List.mem_map]
    rintro y ⟨z, hz, rfl⟩
    have := bl.2 z hz
    simp only [conv136, List.length_map]
    omega
  obtain ⟨K3, h3⟩ := Elaws_toPolicy a b c l bl
  obtain ⟨⟨v, o⟩, ⟨K5, h5⟩, ⟨K6, h6⟩⟩ := show_ a b c (l.map conv136) (by omega) cl
  obtain ⟨K7, h7⟩ := Elaws_eqPolicy a b c (l.map conv136) ⟨by omega, cl⟩
  dsimp only at h3 h5 h6 h7
  obtain ⟨K, hK⟩ : ∃ K, K = K1 + K3 + K5 + K6 + K7 := ⟨_, rfl⟩
  refine ⟨K + 1, ?_⟩
  simp only [laws_FnExactShowPolicy.f, h1 (K + 1) (by omega), h3 (K + 1) (by omega), h5 (K + 1) (by omega), h6 (K + 1) (by omega), Option.bind_some, if_neg hn, if_true, bne_self_eq_false]
  simp only [laws_FnExactShowPolicy.j0, Bool.false_eq_true, if_false, h3 K (by omega), h7 K (by omega), Option.bind_some, if_true]
end Go.Proofs.Ytcmcpmkihpdnjaa.PFnExactShowPolicy
