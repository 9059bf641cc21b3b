/- The pure law of FnExactDecide: what the functions of the program and of the reference come to is the same, for all arguments that the law is asked of. No conditions. -/
import Derived.Test.YtfmilhpneelonaaPFnExactDecidey14
import Derived.Test.YtfmilhpneelonaaEV
set_option linter.unusedSimpArgs false
set_option linter.unusedVariables false
namespace Go.Proofs.Ytfmilhpneelonaa.PFnExactDecide
open Go Go.RowKit Go.Proofs.YtfmilhpneelonaaW.PrintWords Go.Proofs.YtfmilhpneelonaaW.PrintLast Go.Proofs.YtfmilhpneelonaaW.PK
theorem Elaws_szIntS (l : List (Int)) (q : Int) (hq : 0 ≤ q) (hq' : q ≤ 1048576) (hm : l.length ≤ maxLen) : ∃ s : Int, s ≤ q ∧ (0 ≤ s → l.length ≤ 1048576) ∧ Evt (fun k => laws_szIntS.f l q) s := by
  unfold maxLen at hm
  have e : wrap64 (q - (l.length : Int)) = q - l.length := w64 (by omega) (by omega)
  by_cases hn : q - (l.length : Int) < 0
  · exact ⟨-1, by omega, fun h => by omega, .const fun k => by simp only [laws_szIntS.f, e, if_pos hn]⟩
  · exact ⟨q - l.length, by omega, fun h => by omega, .const fun k => by simp only [laws_szIntS.f, e, if_neg hn]⟩
theorem Elaws_szCondS (l : List (S201)) (q : Int) (hq : 0 ≤ q) (hq' : q ≤ 1048576) (hm : l.length ≤ maxLen) : ∃ s : Int, s ≤ q ∧ (0 ≤ s → l.length ≤ 1048576) ∧ Evt (fun k => laws_szCondS.f l q) s := by
  unfold maxLen at hm
  have e : wrap64 (q - (l.length : Int)) = q - l.length := w64 (by omega) (by omega)
  by_cases hn : q - (l.length : Int) < 0
  · exact ⟨-1, by omega, fun h => by omega, .const fun k => by simp only [laws_szCondS.f, e, if_pos hn]⟩
  · exact ⟨q - l.length, by omega, fun h => by omega, .const fun k => by simp only [laws_szCondS.f, e, if_neg hn]⟩
theorem Elaws_szRule (l0_0 : List Int) (l0_1 : List (S201)) (a0_2 : Int) (a0_3 : Int) (q : Int) (hq : 0 ≤ q) (hq' : q ≤ 1048576) (hl0_0 : ((∀ u4 ∈ l0_0, (Lit.int .i64 u4).wf = true) ∧ l0_0.length ≤ maxLen)) (hl0_1 : ((∀ u4 ∈ l0_1, ((Lit.int .i64 u4.f0).wf = true ∧ ((Lit.int .i64 u4.f1.f0).wf = true ∧ (Lit.int .i64 u4.f1.f1).wf = true) ∧ (Lit.int .i64 u4.f2).wf = true ∧ ((Lit.int .i64 u4.f3.f0).wf = true ∧ (Lit.int .i64 u4.f3.f1).wf = true))) ∧ l0_1.length ≤ maxLen)) : ∃ s : Int, s ≤ q ∧ (0 ≤ s → (l0_0.length ≤ 1048576 ∧ l0_1.length ≤ 1048576)) ∧ Evt (fun k => laws_szRule.f l0_0 l0_1 a0_2 a0_3 q) s := by
  obtain ⟨s0, hs0, hB0, K0, e0⟩ := Elaws_szIntS l0_0 (q) (by omega) (by omega) hl0_0.2
  by_cases n0 : s0 < 0
  · exact ⟨-1, by omega, fun h => by omega, 0 + K0, fun k hk => by simp only [laws_szRule.f, e0 k (by omega), Option.bind_some, if_pos n0]⟩
  obtain ⟨s1, hs1, hB1, K1, e1⟩ := Elaws_szCondS l0_1 (s0) (by omega) (by omega) hl0_1.2
  by_cases n1 : s1 < 0
  · exact ⟨-1, by omega, fun h => by omega, 0 + K0 + K1, fun k hk => by simp only [laws_szRule.f, e0 k (by omega), e1 k (by omega), Option.bind_some, if_neg n0, if_pos n1]⟩
  exact ⟨s1, by omega, fun h => ⟨hB0 (by omega), hB1 (by omega)⟩, 0 + K0 + K1, fun k hk => by simp only [laws_szRule.f, e0 k (by omega), e1 k (by omega), Option.bind_some, if_neg n0, if_neg n1]⟩
theorem nrd_T108 (l : List (S108)) (i : Nat) (h : i < l.length) : rd_T108 l (i : Int) = l[i] := getD_lt _ h
theorem Elaws_szRuleS (l : List (S108)) (q : Int) (hq : 0 ≤ q) (hq' : q ≤ 1048576) (hm : l.length ≤ maxLen) (hw : ∀ x ∈ l, (((∀ u4 ∈ x.f0, (Lit.int .i64 u4).wf = true) ∧ x.f0.length ≤ maxLen) ∧ ((∀ u4 ∈ x.f1, ((Lit.int .i64 u4.f0).wf = true ∧ ((Lit.int .i64 u4.f1.f0).wf = true ∧ (Lit.int .i64 u4.f1.f1).wf = true) ∧ (Lit.int .i64 u4.f2).wf = true ∧ ((Lit.int .i64 u4.f3.f0).wf = true ∧ (Lit.int .i64 u4.f3.f1).wf = true))) ∧ x.f1.length ≤ maxLen) ∧ (Lit.int .i64 x.f2).wf = true ∧ (Lit.int .i64 x.f3).wf = true)) : ∃ s : Int, s ≤ q ∧ (0 ≤ s → l.length ≤ 1048576 ∧ ∀ y ∈ l, (y.f0.length ≤ 1048576 ∧ y.f1.length ≤ 1048576)) ∧ Evt (fun k => laws_szRuleS.f k l q) s := by
  unfold maxLen at hm
  have e : wrap64 (q - (l.length : Int)) = q - l.length := w64 (by omega) (by omega)
  by_cases hn : q - (l.length : Int) < 0
  · exact ⟨-1, by omega, fun h => by omega, .const fun k => by simp only [laws_szRuleS.f, e, if_pos hn]⟩
  · have H := Evt.sz (F := fun k q i => laws_szRuleS.l0 k l q i) (n := l.length) (P := fun i => ∀ h : i < l.length, (l[i].f0.length ≤ 1048576 ∧ l[i].f1.length ≤ 1048576)) ?_ ?_ (q - l.length) (by omega) (by omega)
    · obtain ⟨s, hs, hP, hE⟩ := H
      refine ⟨s, by omega, fun h => ⟨by omega, fun y hy => ?_⟩, hE.congr fun k => ?_⟩
      · obtain ⟨i, hi, rfl⟩ := List.mem_iff_getElem.1 hy
        exact hP h i hi hi
      · simp only [laws_szRuleS.f, e, if_neg hn]
    · intro k q
      simp only [laws_szRuleS.l0]
      rw [if_neg (by omega)]
    · intro i hi q hq hq'
      obtain ⟨s, hs, hP, K, hK⟩ := Elaws_szRule l[i].f0 l[i].f1 l[i].f2 l[i].f3 q hq hq' ((hw _ (List.getElem_mem hi)).1) ((hw _ (List.getElem_mem hi)).2.1)
      dsimp only at hK
      refine ⟨s, hs, fun h _ => hP h, K, fun k hk => ?_⟩
      simp only [laws_szRuleS.l0]
      rw [if_pos (by omega), if_pos (by omega), nrd_T108 l i hi, hK k hk, wsucc hi (by omega)]
      all_goals rfl
theorem Elaws_szPolicy (a0_0 : Int) (a0_1 : Int) (a0_2 : Int) (l0_3 : List (S108)) (q : Int) (hq : 0 ≤ q) (hq' : q ≤ 1048576) (hl0_3 : ((∀ u4 ∈ l0_3, (((∀ u5 ∈ u4.f0, (Lit.int .i64 u5).wf = true) ∧ u4.f0.length ≤ maxLen) ∧ ((∀ u5 ∈ u4.f1, ((Lit.int .i64 u5.f0).wf = true ∧ ((Lit.int .i64 u5.f1.f0).wf = true ∧ (Lit.int .i64 u5.f1.f1).wf = true) ∧ (Lit.int .i64 u5.f2).wf = true ∧ ((Lit.int .i64 u5.f3.f0).wf = true ∧ (Lit.int .i64 u5.f3.f1).wf = true))) ∧ u4.f1.length ≤ maxLen) ∧ (Lit.int .i64 u4.f2).wf = true ∧ (Lit.int .i64 u4.f3).wf = true)) ∧ l0_3.length ≤ maxLen)) : ∃ s : Int, s ≤ q ∧ (0 ≤ s → (l0_3.length ≤ 1048576 ∧ ∀ v4 ∈ l0_3, (v4.f0.length ≤ 1048576 ∧ v4.f1.length ≤ 1048576))) ∧ Evt (fun k => laws_szPolicy.f k a0_0 a0_1 a0_2 l0_3 q) s := by
  obtain ⟨s0, hs0, hB0, K0, e0⟩ := Elaws_szRuleS l0_3 (q) (by omega) (by omega) hl0_3.2 hl0_3.1
  by_cases n0 : s0 < 0
  · exact ⟨-1, by omega, fun h => by omega, 0 + K0, fun k hk => by simp only [laws_szPolicy.f, e0 k (by omega), Option.bind_some, if_pos n0]⟩
  exact ⟨s0, by omega, fun h => hB0 (by omega), 0 + K0, fun k hk => by simp only [laws_szPolicy.f, e0 k (by omega), Option.bind_some, if_neg n0]⟩
theorem Elaws_szWideS (l : List (S199)) (q : Int) (hq : 0 ≤ q) (hq' : q ≤ 1048576) (hm : l.length ≤ maxLen) : ∃ s : Int, s ≤ q ∧ (0 ≤ s → l.length ≤ 1048576) ∧ Evt (fun k => laws_szWideS.f l q) s := by
  unfold maxLen at hm
  have e : wrap64 (q - (l.length : Int)) = q - l.length := w64 (by omega) (by omega)
  by_cases hn : q - (l.length : Int) < 0
  · exact ⟨-1, by omega, fun h => by omega, .const fun k => by simp only [laws_szWideS.f, e, if_pos hn]⟩
  · exact ⟨q - l.length, by omega, fun h => by omega, .const fun k => by simp only [laws_szWideS.f, e, if_neg hn]⟩
theorem Elaws_szCall (a0_0 : Int) (a0_1 : Int) (l0_2 : List (S199)) (q : Int) (hq : 0 ≤ q) (hq' : q ≤ 1048576) (hl0_2 : ((∀ u4 ∈ l0_2, ((Lit.int .i64 u4.f0).wf = true ∧ (Lit.int .i64 u4.f1).wf = true)) ∧ l0_2.length ≤ maxLen)) : ∃ s : Int, s ≤ q ∧ (0 ≤ s → l0_2.length ≤ 1048576) ∧ Evt (fun k => laws_szCall.f a0_0 a0_1 l0_2 q) s := by
  obtain ⟨s0, hs0, hB0, K0, e0⟩ := Elaws_szWideS l0_2 (q) (by omega) (by omega) hl0_2.2
  by_cases n0 : s0 < 0
  · exact ⟨-1, by omega, fun h => by omega, 0 + K0, fun k hk => by simp only [laws_szCall.f, e0 k (by omega), Option.bind_some, if_pos n0]⟩
  exact ⟨s0, by omega, fun h => hB0 (by omega), 0 + K0, fun k hk => by simp only [laws_szCall.f, e0 k (by omega), Option.bind_some, if_neg n0]⟩
theorem nrd (l : List (Int)) (i : Nat) (h : i < l.length) : rd l (i : Int) = l[i] := getD_lt _ h
theorem Elaws_toIntS (l : List (Int)) (hn : l.length ≤ 1048576) : Evt (fun k => laws_toIntS.f k l) (l.map (fun y => y)) := by
  have h := Evt.to (F := fun k y i => laws_toIntS.l0 k l y i) (x := l) (conv := (fun y => y)) ?_ ?_ (List.replicate l.length 0) (by simp)
  · refine h.congr fun k => ?_
    unfold laws_toIntS.f
    rw [if_pos (by omega), if_pos (by omega), Int.toNat_natCast]
  · intro k y
    simp only [laws_toIntS.l0]
    rw [if_neg (by omega)]
  · intro i hi
    have K : Nat := 0
    refine ⟨0, fun k hk y hy => ?_⟩
    simp only [laws_toIntS.l0]
    rw [if_pos (by omega), if_pos (by omega), nrd l i hi]
    rw [if_pos (by omega), wsucc hi (by omega), Int.toNat_natCast]
    all_goals rfl
theorem Elaws_toWide (a0_0 : Int) (a0_1 : Int) : Evt (fun k => laws_toWide.f a0_0 a0_1) (a0_0, a0_1) := by
  exact .const fun k => rfl
theorem Elaws_toCond (a0_0 : Int) (a0_1 : Int) (a0_2 : Int) (a0_3 : Int) (a0_4 : Int) (a0_5 : Int) : Evt (fun k => laws_toCond.f a0_0 a0_1 a0_2 a0_3 a0_4 a0_5) (a0_0, a0_1, a0_2, a0_3, a0_4, a0_5) := by
  exact .const fun k => rfl
def conv199 (a : S199) : S25 := ⟨a.f0, a.f1⟩
def conv201 (a : S201) : S27 := ⟨a.f0, (conv199 a.f1), a.f2, (conv199 a.f3)⟩
theorem nrd_T201 (l : List (S201)) (i : Nat) (h : i < l.length) : rd_T201 l (i : Int) = l[i] := getD_lt _ h
theorem Elaws_toCondS (l : List (S201)) (hn : l.length ≤ 1048576) : Evt (fun k => laws_toCondS.f k l) (l.map conv201) := by
  have h := Evt.to (F := fun k y i => laws_toCondS.l0 k l y i) (x := l) (conv := conv201) ?_ ?_ (List.replicate l.length z27) (by simp)
  · refine h.congr fun k => ?_
    unfold laws_toCondS.f
    rw [if_pos (by omega), if_pos (by omega), Int.toNat_natCast]
  · intro k y
    simp only [laws_toCondS.l0]
    rw [if_neg (by omega)]
  · intro i hi
    obtain ⟨K, hK⟩ := Elaws_toCond l[i].f0 l[i].f1.f0 l[i].f1.f1 l[i].f2 l[i].f3.f0 l[i].f3.f1
    dsimp only at hK
    refine ⟨K, fun k hk y hy => ?_⟩
    simp only [laws_toCondS.l0]
    rw [if_pos (by omega), if_pos (by omega), nrd_T201 l i hi, hK k hk]
    simp only [Option.bind_some]
    rw [if_pos (by omega), wsucc hi (by omega), Int.toNat_natCast]
    all_goals rfl
theorem Elaws_toRule (l0_0 : List Int) (l0_1 : List (S201)) (a0_2 : Int) (a0_3 : Int) (hl0_0 : l0_0.length ≤ 1048576) (hl0_1 : l0_1.length ≤ 1048576) : Evt (fun k => laws_toRule.f k l0_0 l0_1 a0_2 a0_3) ((l0_0.map (fun y => y)), (l0_1.map conv201), a0_2, a0_3) := by
  obtain ⟨K0, h0⟩ := Elaws_toIntS l0_0 hl0_0
  obtain ⟨K1, h1⟩ := Elaws_toCondS l0_1 hl0_1
  refine ⟨K0 + K1, fun k hk => ?_⟩
  simp only [laws_toRule.f, h0 k (by omega), h1 k (by omega), Option.bind_some]
  all_goals rfl
def conv108 (a : S108) : S40 := ⟨(a.f0.map (fun y => y)), (a.f1.map conv201), a.f2, a.f3⟩
theorem Elaws_toRuleS (l : List (S108)) (hn : l.length ≤ 1048576) (hB : ∀ y ∈ l, (y.f0.length ≤ 1048576 ∧ y.f1.length ≤ 1048576)) : Evt (fun k => laws_toRuleS.f k l) (l.map conv108) := by
  have h := Evt.to (F := fun k y i => laws_toRuleS.l0 k l y i) (x := l) (conv := conv108) ?_ ?_ (List.replicate l.length z40) (by simp)
  · refine h.congr fun k => ?_
    unfold laws_toRuleS.f
    rw [if_pos (by omega), if_pos (by omega), Int.toNat_natCast]
  · intro k y
    simp only [laws_toRuleS.l0]
    rw [if_neg (by omega)]
  · intro i hi
    obtain ⟨K, hK⟩ := Elaws_toRule l[i].f0 l[i].f1 l[i].f2 l[i].f3 ((hB _ (List.getElem_mem hi)).1) ((hB _ (List.getElem_mem hi)).2)
    dsimp only at hK
    refine ⟨K, fun k hk y hy => ?_⟩
    simp only [laws_toRuleS.l0]
    rw [if_pos (by omega), if_pos (by omega), nrd_T108 l i hi, hK k hk]
    simp only [Option.bind_some]
    rw [if_pos (by omega), wsucc hi (by omega), Int.toNat_natCast]
    all_goals rfl
theorem Elaws_toPolicy (a0_0 : Int) (a0_1 : Int) (a0_2 : Int) (l0_3 : List (S108)) (hl0_3 : (l0_3.length ≤ 1048576 ∧ ∀ v4 ∈ l0_3, (v4.f0.length ≤ 1048576 ∧ v4.f1.length ≤ 1048576))) : Evt (fun k => laws_toPolicy.f k a0_0 a0_1 a0_2 l0_3) (a0_0, a0_1, a0_2, (l0_3.map conv108)) := by
  obtain ⟨K0, h0⟩ := Elaws_toRuleS l0_3 hl0_3.1 hl0_3.2
  refine ⟨K0, fun k hk => ?_⟩
  simp only [laws_toPolicy.f, h0 k (by omega), Option.bind_some]
  all_goals rfl
theorem nrd_T199 (l : List (S199)) (i : Nat) (h : i < l.length) : rd_T199 l (i : Int) = l[i] := getD_lt _ h
theorem Elaws_toWideS (l : List (S199)) (hn : l.length ≤ 1048576) : Evt (fun k => laws_toWideS.f k l) (l.map conv199) := by
  have h := Evt.to (F := fun k y i => laws_toWideS.l0 k l y i) (x := l) (conv := conv199) ?_ ?_ (List.replicate l.length z25) (by simp)
  · refine h.congr fun k => ?_
    unfold laws_toWideS.f
    rw [if_pos (by omega), if_pos (by omega), Int.toNat_natCast]
  · intro k y
    simp only [laws_toWideS.l0]
    rw [if_neg (by omega)]
  · intro i hi
    obtain ⟨K, hK⟩ := Elaws_toWide l[i].f0 l[i].f1
    dsimp only at hK
    refine ⟨K, fun k hk y hy => ?_⟩
    simp only [laws_toWideS.l0]
    rw [if_pos (by omega), if_pos (by omega), nrd_T199 l i hi, hK k hk]
    simp only [Option.bind_some]
    rw [if_pos (by omega), wsucc hi (by omega), Int.toNat_natCast]
    all_goals rfl
theorem Elaws_toCall (a0_0 : Int) (a0_1 : Int) (l0_2 : List (S199)) (hl0_2 : l0_2.length ≤ 1048576) : Evt (fun k => laws_toCall.f k a0_0 a0_1 l0_2) (a0_0, a0_1, (l0_2.map conv199)) := by
  obtain ⟨K0, h0⟩ := Elaws_toWideS l0_2 hl0_2
  refine ⟨K0, fun k hk => ?_⟩
  simp only [laws_toCall.f, h0 k (by omega), Option.bind_some]
  all_goals rfl
theorem Elaws_eqIntS (l : List (Int)) (hn : l.length ≤ 4611686018427387904) : Evt (fun k => laws_eqIntS.f k l l) true := by
  have h := Evt.pass (F := fun k i => laws_eqIntS.l0 k l l i) (n := l.length) (r := true) ?_ ?_
  · refine h.congr fun k => ?_
    unfold laws_eqIntS.f
    rw [if_pos rfl]
  · refine .const fun k => ?_
    simp only [laws_eqIntS.l0]
    rw [if_neg (by omega)]
  · intro i hi
    refine ⟨0, fun k hk => ?_⟩
    simp only [laws_eqIntS.l0]
    rw [if_pos (by omega), if_pos (by omega), if_pos (by omega)]
    simp only [if_true]
    rw [wsucc hi (by omega)]
theorem Elaws_eqWide (a0_0 : Int) (a0_1 : Int) : Evt (fun k => laws_eqWide.f a0_0 a0_1 a0_0 a0_1) true := by
  refine ⟨0, fun k hk => ?_⟩
  simp only [laws_eqWide.f, Option.bind_some, if_true]
theorem Elaws_eqCond (a0_0 : Int) (a0_1 : Int) (a0_2 : Int) (a0_3 : Int) (a0_4 : Int) (a0_5 : Int) : Evt (fun k => laws_eqCond.f a0_0 a0_1 a0_2 a0_3 a0_4 a0_5 a0_0 a0_1 a0_2 a0_3 a0_4 a0_5) true := by
  refine ⟨0, fun k hk => ?_⟩
  simp only [laws_eqCond.f, laws_eqWide.f, Option.bind_some, if_true]
theorem nrd_T27 (l : List (S27)) (i : Nat) (h : i < l.length) : rd_T27 l (i : Int) = l[i] := getD_lt _ h
theorem Elaws_eqCondS (l : List (S27)) (hn : l.length ≤ 4611686018427387904) : Evt (fun k => laws_eqCondS.f k l l) true := by
  have h := Evt.pass (F := fun k i => laws_eqCondS.l0 k l l i) (n := l.length) (r := true) ?_ ?_
  · refine h.congr fun k => ?_
    unfold laws_eqCondS.f
    rw [if_pos rfl]
  · refine .const fun k => ?_
    simp only [laws_eqCondS.l0]
    rw [if_neg (by omega)]
  · intro i hi
    obtain ⟨K, hK⟩ := Elaws_eqCond l[i].f0 l[i].f1.f0 l[i].f1.f1 l[i].f2 l[i].f3.f0 l[i].f3.f1
    dsimp only at hK
    refine ⟨K, fun k hk => ?_⟩
    simp only [laws_eqCondS.l0]
    rw [if_pos (by omega), if_pos (by omega), if_pos (by omega), nrd_T27 l i hi, hK k hk]
    simp only [Option.bind_some, if_true]
    rw [wsucc hi (by omega)]
theorem Elaws_eqRule (l0_0 : List Int) (l0_1 : List (S27)) (a0_2 : Int) (a0_3 : Int) (hl0_0 : l0_0.length ≤ 4611686018427387904) (hl0_1 : l0_1.length ≤ 4611686018427387904) : Evt (fun k => laws_eqRule.f k l0_0 l0_1 a0_2 a0_3 l0_0 l0_1 a0_2 a0_3) true := by
  obtain ⟨K0, h0⟩ := Elaws_eqIntS l0_0 hl0_0
  obtain ⟨K1, h1⟩ := Elaws_eqCondS l0_1 hl0_1
  refine ⟨K0 + K1, fun k hk => ?_⟩
  simp only [laws_eqRule.f, h0 k (by omega), h1 k (by omega), Option.bind_some, if_true]
theorem nrd_T40 (l : List (S40)) (i : Nat) (h : i < l.length) : rd_T40 l (i : Int) = l[i] := getD_lt _ h
theorem Elaws_eqRuleS (l : List (S40)) (hn : l.length ≤ 4611686018427387904) (hB : ∀ y ∈ l, (y.f0.length ≤ 4611686018427387904 ∧ y.f1.length ≤ 4611686018427387904)) : Evt (fun k => laws_eqRuleS.f k l l) true := by
  have h := Evt.pass (F := fun k i => laws_eqRuleS.l0 k l l i) (n := l.length) (r := true) ?_ ?_
  · refine h.congr fun k => ?_
    unfold laws_eqRuleS.f
    rw [if_pos rfl]
  · refine .const fun k => ?_
    simp only [laws_eqRuleS.l0]
    rw [if_neg (by omega)]
  · intro i hi
    obtain ⟨K, hK⟩ := Elaws_eqRule l[i].f0 l[i].f1 l[i].f2 l[i].f3 ((hB _ (List.getElem_mem hi)).1) ((hB _ (List.getElem_mem hi)).2)
    dsimp only at hK
    refine ⟨K, fun k hk => ?_⟩
    simp only [laws_eqRuleS.l0]
    rw [if_pos (by omega), if_pos (by omega), if_pos (by omega), nrd_T40 l i hi, hK k hk]
    simp only [Option.bind_some, if_true]
    rw [wsucc hi (by omega)]
theorem Elaws_eqPolicy (a0_0 : Int) (a0_1 : Int) (a0_2 : Int) (l0_3 : List (S40)) (hl0_3 : (l0_3.length ≤ 4611686018427387904 ∧ ∀ v4 ∈ l0_3, (v4.f0.length ≤ 4611686018427387904 ∧ v4.f1.length ≤ 4611686018427387904))) : Evt (fun k => laws_eqPolicy.f k a0_0 a0_1 a0_2 l0_3 a0_0 a0_1 a0_2 l0_3) true := by
  obtain ⟨K0, h0⟩ := Elaws_eqRuleS l0_3 hl0_3.1 hl0_3.2
  refine ⟨K0, fun k hk => ?_⟩
  simp only [laws_eqPolicy.f, h0 k (by omega), Option.bind_some, if_true]
theorem nrd_T25 (l : List (S25)) (i : Nat) (h : i < l.length) : rd_T25 l (i : Int) = l[i] := getD_lt _ h
theorem Elaws_eqWideS (l : List (S25)) (hn : l.length ≤ 4611686018427387904) : Evt (fun k => laws_eqWideS.f k l l) true := by
  have h := Evt.pass (F := fun k i => laws_eqWideS.l0 k l l i) (n := l.length) (r := true) ?_ ?_
  · refine h.congr fun k => ?_
    unfold laws_eqWideS.f
    rw [if_pos rfl]
  · refine .const fun k => ?_
    simp only [laws_eqWideS.l0]
    rw [if_neg (by omega)]
  · intro i hi
    obtain ⟨K, hK⟩ := Elaws_eqWide l[i].f0 l[i].f1
    dsimp only at hK
    refine ⟨K, fun k hk => ?_⟩
    simp only [laws_eqWideS.l0]
    rw [if_pos (by omega), if_pos (by omega), if_pos (by omega), nrd_T25 l i hi, hK k hk]
    simp only [Option.bind_some, if_true]
    rw [wsucc hi (by omega)]
theorem Elaws_eqCall (a0_0 : Int) (a0_1 : Int) (l0_2 : List (S25)) (hl0_2 : l0_2.length ≤ 4611686018427387904) : Evt (fun k => laws_eqCall.f k a0_0 a0_1 l0_2 a0_0 a0_1 l0_2) true := by
  obtain ⟨K0, h0⟩ := Elaws_eqWideS l0_2 hl0_2
  refine ⟨K0, fun k hk => ?_⟩
  simp only [laws_eqCall.f, h0 k (by omega), Option.bind_some, if_true]
theorem rd_nat25 (l : List S25) (i : Nat) (h : i < l.length) : rd_T25 l (i : Int) = l[i] := getD_lt _ h
theorem inS (a b c : Int) : spec_l01In.f a b c = some (decide (b ≤ a ∧ a ≤ c)) := by
  unfold spec_l01In.f
  by_cases h : a ≥ b
  · rw [if_pos h]
    exact congrArg some (by rw [Bool.eq_iff_iff]; simp; omega)
  · rw [if_neg h]
    exact congrArg some (by rw [Bool.eq_iff_iff]; simp; omega)
theorem inI (a b c : Int) : impl_within.f a b c = some (decide (b ≤ a ∧ a ≤ c)) := inS a b c
theorem halfS (a : Int) : spec_HalfOk.f a = some (decide (0 ≤ a ∧ a ≤ 4294967295)) := by
  unfold spec_HalfOk.f
  rw [inS]
  rfl
theorem halfI (a : Int) : impl_HalfOk.f a = some (decide (0 ≤ a ∧ a ≤ 4294967295)) := halfS a
theorem wideS (a b : Int) : spec_WideOk.f a b = some (decide ((0 ≤ a ∧ a ≤ 4294967295) ∧ (0 ≤ b ∧ b ≤ 4294967295))) := by
  unfold spec_WideOk.f
  simp only [halfS, Option.bind_some, decide_eq_true_eq]
  split
  · rename_i h
    exact congrArg some (by rw [Bool.eq_iff_iff]; simp [h])
  · rename_i h
    exact congrArg some (by rw [Bool.eq_iff_iff]; simp [h])
theorem wideI (a b : Int) : impl_WideOk.f a b = some (decide ((0 ≤ a ∧ a ≤ 4294967295) ∧ (0 ≤ b ∧ b ≤ 4294967295))) := wideS a b
theorem condS (a b c d e f : Int) : spec_CondOk.f a b c d e f = some (decide ((0 ≤ a ∧ a ≤ 2) ∧ ((0 ≤ b ∧ b ≤ 4294967295) ∧ (0 ≤ c ∧ c ≤ 4294967295)) ∧ ((0 ≤ e ∧ e ≤ 4294967295) ∧ (0 ≤ f ∧ f ≤ 4294967295)) ∧ 1 ≤ d ∧ d ≤ 6)) := by
  unfold spec_CondOk.f
  simp only [inS, wideS, Option.bind_some, decide_eq_true_eq]
  repeat' split
  all_goals (refine congrArg some ?_; rw [Bool.eq_iff_iff]; simp only [Bool.false_eq_true, decide_eq_true_eq, false_iff])
  all_goals omega
theorem condI (a b c d e f : Int) : impl_CondOk.f a b c d e f = some (decide ((0 ≤ a ∧ a ≤ 2) ∧ ((0 ≤ b ∧ b ≤ 4294967295) ∧ (0 ≤ c ∧ c ≤ 4294967295)) ∧ ((0 ≤ e ∧ e ≤ 4294967295) ∧ (0 ≤ f ∧ f ≤ 4294967295)) ∧ 1 ≤ d ∧ d ≤ 6)) := condS a b c d e f
/-- A right call: halves, and three words. -/
theorem call_l0 (a b : Int) (l : List S25) (hn : l.length ≤ 4611686018427387904) : ∀ (d i : Nat), i + d = l.length → ∃ r, (∀ k, d < k → spec_CallOk.l0 k (i : Int) a b l = some r) ∧ (∀ k, d < k → impl_CallOk.l0 k l (l.length : Int) (i : Int) a b l = some r) ∧ (r = true → l.length = 3)
  | 0, i, hi => by
    refine ⟨decide ((0 ≤ a ∧ a ≤ 4294967295) ∧ (0 ≤ b ∧ b ≤ 4294967295) ∧ l.length = 3), fun k hk => ?_, fun k hk => ?_, fun h => (by simp at h; omega)⟩
    · obtain ⟨k, rfl⟩ : ∃ m, k = m + 1 := ⟨k - 1, by omega⟩
      simp only [spec_CallOk.l0]
      rw [if_neg (by omega)]
      simp only [halfS, Option.bind_some, decide_eq_true_eq]
      repeat' split
      all_goals (refine congrArg some ?_; rw [Bool.eq_iff_iff]; simp only [Bool.false_eq_true, decide_eq_true_eq, false_iff, beq_iff_eq])
      all_goals omega
    · obtain ⟨k, rfl⟩ : ∃ m, k = m + 1 := ⟨k - 1, by omega⟩
      simp only [impl_CallOk.l0]
      rw [if_neg (by omega)]
      simp only [halfI, Option.bind_some, decide_eq_true_eq]
      repeat' split
      all_goals (refine congrArg some ?_; rw [Bool.eq_iff_iff]; simp only [Bool.false_eq_true, decide_eq_true_eq, false_iff, beq_iff_eq])
      all_goals omega
  | d + 1, i, hi => by
    have hlt : i < l.length := by omega
    obtain ⟨r, hS, hI, hr⟩ := call_l0 a b l hn d (i + 1) (by omega)
    by_cases hw : (0 ≤ l[i].f0 ∧ l[i].f0 ≤ 4294967295) ∧ (0 ≤ l[i].f1 ∧ l[i].f1 ≤ 4294967295)
    · refine ⟨r, fun k hk => ?_, fun k hk => ?_, hr⟩
      · obtain ⟨k, rfl⟩ : ∃ m, k = m + 1 := ⟨k - 1, by omega⟩
        simp only [spec_CallOk.l0]
        rw [if_pos (by omega), if_pos (by omega), rd_nat25 l i hlt, wsucc hlt (by omega), wideS]
        simp only [Option.bind_some, decide_eq_true_eq]
        rw [if_pos hw]
        exact hS k (by omega)
      · obtain ⟨k, rfl⟩ : ∃ m, k = m + 1 := ⟨k - 1, by omega⟩
        simp only [impl_CallOk.l0]
        rw [if_pos (by omega), if_pos (by omega), if_pos (by omega), rd_nat25 l i hlt, wsucc hlt (by omega), wideI]
        simp only [Option.bind_some, decide_eq_true_eq]
        rw [if_pos hw]
        exact hI k (by omega)
    · refine ⟨false, fun k hk => ?_, fun k hk => ?_, fun h => by cases h⟩
      · obtain ⟨k, rfl⟩ : ∃ m, k = m + 1 := ⟨k - 1, by omega⟩
        simp only [spec_CallOk.l0]
        rw [if_pos (by omega), if_pos (by omega), rd_nat25 l i hlt, wideS]
        simp only [Option.bind_some, decide_eq_true_eq]
        rw [if_neg hw]
      · obtain ⟨k, rfl⟩ : ∃ m, k = m + 1 := ⟨k - 1, by omega⟩
        simp only [impl_CallOk.l0]
        rw [if_pos (by omega), if_pos (by omega), if_pos (by omega), rd_nat25 l i hlt, wideI]
        simp only [Option.bind_some, decide_eq_true_eq]
        rw [if_neg hw]
theorem call (a b : Int) (l : List S25) (hn : l.length ≤ 4611686018427387904) : ∃ r, (∀ k, l.length < k → spec_CallOk.f k a b l = some r) ∧ (∀ k, l.length < k → impl_CallOk.f k a b l = some r) ∧ (r = true → l.length = 3) := call_l0 a b l hn l.length 0 (by omega)
theorem wcmp (a b c d : Int) : ∃ t, spec_WideCmp.f a b c d = some t ∧ impl_WideCmp.f a b c d = some t := by
  unfold spec_WideCmp.f impl_WideCmp.f spec_l04Cmp.f impl_compare.f
  by_cases h1 : a < c
  · exact ⟨-1, by simp [h1], by rw [if_neg (by omega)]; simp [h1]⟩
  · by_cases h2 : a > c
    · exact ⟨1, by simp [h1, h2], by rw [if_neg (by omega)]; simp [h1, h2]⟩
    · have h3 : a = c := by omega
      subst h3
      by_cases h4 : b < d
      · exact ⟨-1, by simp [h4], by simp [h4]⟩
      · by_cases h5 : b > d
        · exact ⟨1, by simp [h4, h5], by simp [h4, h5]⟩
        · exact ⟨0, by simp [h4, h5], by simp [h4, h5]⟩
theorem wand (a b c d : Int) : ∃ p, spec_WideAnd.f a b c d = some p ∧ impl_WideAnd.f a b c d = some p := by
  have e : impl_WideAnd.f a b c d = spec_WideAnd.f a b c d := rfl
  rw [e]
  unfold spec_WideAnd.f
  simp only [wideS, Option.bind_some]
  split
  · split
    · exact ⟨_, rfl, rfl⟩
    · exact ⟨_, rfl, rfl⟩
  · exact ⟨_, rfl, rfl⟩
theorem holds (a0 a1 a2 a3 a4 a5 b0 b1 : Int) (l : List S25) (hn : l.length ≤ 4611686018427387904) : ∃ r, (∀ k, l.length + 1 < k → spec_CondHolds.f k a0 a1 a2 a3 a4 a5 b0 b1 l = some r) ∧ (∀ k, l.length + 1 < k → impl_CondHolds.f k a0 a1 a2 a3 a4 a5 b0 b1 l = some r) := by
  obtain ⟨q, qS, qI, hq⟩ := call b0 b1 l hn
  unfold spec_CondHolds.f impl_CondHolds.f
  simp only [condS, condI, Option.bind_some, decide_eq_true_eq]
  split
  · rename_i hc
    cases q with
    | false =>
      refine ⟨false, fun k hk => ?_, fun k hk => ?_⟩
      · rw [qS k (by omega)]
        obtain ⟨k, rfl⟩ : ∃ m, k = m + 1 := ⟨k - 1, by omega⟩
        simp [spec_CondHolds.j0]
      · rw [qI k (by omega)]
        obtain ⟨k, rfl⟩ : ∃ m, k = m + 1 := ⟨k - 1, by omega⟩
        simp [impl_CondHolds.j0]
    | true =>
      have h3 := hq rfl
      obtain ⟨p, pS, pI⟩ := wand (rd_T25 l a0).f0 (rd_T25 l a0).f1 a1 a2
      obtain ⟨t, tS, tI⟩ := wcmp p.1 p.2 a4 a5
      have key : ∃ r, (if a3 = 1 then (some (t == 0)) else (if a3 = 2 then (some (t != 0)) else (if a3 = 3 then (some (decide (t < 0))) else (if a3 = 4 then (some (decide (t ≤ 0))) else (if a3 = 5 then (some (decide (t > 0))) else (some (decide (t ≥ 0)))))))) = some r := by
        repeat' split
        all_goals exact ⟨_, rfl⟩
      obtain ⟨r, hr⟩ := key
      refine ⟨r, fun k hk => ?_, fun k hk => ?_⟩
      · rw [qS k (by omega)]
        obtain ⟨k, rfl⟩ : ∃ m, k = m + 1 := ⟨k - 1, by omega⟩
        simp only [Option.bind_some, spec_CondHolds.j0, Bool.not_true, Bool.false_eq_true, if_false]
        rw [if_pos (by omega), if_pos (by omega), pS]
        simp only [Option.bind_some]
        rw [tS]
        exact hr
      · rw [qI k (by omega)]
        obtain ⟨k, rfl⟩ : ∃ m, k = m + 1 := ⟨k - 1, by omega⟩
        simp only [Option.bind_some, impl_CondHolds.j0, Bool.not_true, Bool.false_eq_true, if_false]
        rw [if_pos (by omega), if_pos (by omega), pI]
        simp only [Option.bind_some]
        rw [tI]
        exact hr
  · refine ⟨false, fun k hk => ?_, fun k hk => ?_⟩
    · obtain ⟨k, rfl⟩ : ∃ m, k = m + 1 := ⟨k - 1, by omega⟩
      simp [spec_CondHolds.j0]
    · obtain ⟨k, rfl⟩ : ∃ m, k = m + 1 := ⟨k - 1, by omega⟩
      simp [impl_CondHolds.j0]
theorem nums_in (x : List Int) (a : Int) (hn : x.length ≤ 4611686018427387904) : ∃ q : Int, Evt (fun k => spec_l09In.f k x a) (decide (q ≥ 0)) ∧ Evt (fun k => slices_Index_int_int.f k x a) q := by
  refine down (T := fun i => ∃ q : Int, Evt (fun k => spec_l09In.l0 k x a (i : Int)) (decide (q ≥ 0)) ∧ Evt (fun k => slices_Index_int_int.l0 k x a (x.length : Int) (i : Int)) q) (n := x.length) ?_ ?_ x.length 0 (by omega)
  · exact ⟨-1, .succ (.const fun k => by simp only [spec_l09In.l0]; rw [if_neg (by omega)]; rfl), .succ (.const fun k => by simp only [slices_Index_int_int.l0]; rw [if_neg (by omega)])⟩
  · intro i hi ih
    by_cases h : x[i] = a
    · refine ⟨(i : Int), .succ (.const fun k => ?_), .succ (.const fun k => ?_)⟩
      · simp only [spec_l09In.l0]
        rw [if_pos (by omega), if_pos (by omega), nrd x i hi, if_pos h]
        simp
      · simp only [slices_Index_int_int.l0]
        rw [if_pos (by omega), if_pos (by omega), if_pos (by omega), nrd x i hi, if_pos h.symm]
    · obtain ⟨q, ⟨K1, h1⟩, ⟨K2, h2⟩⟩ := ih
      dsimp only at h1 h2
      refine ⟨q, .succ ⟨K1, fun k hk => ?_⟩, .succ ⟨K2, fun k hk => ?_⟩⟩
      · simp only [spec_l09In.l0]
        rw [if_pos (by omega), if_pos (by omega), nrd x i hi, if_neg h, wsucc hi (by omega)]
        exact h1 k hk
      · simp only [slices_Index_int_int.l0]
        rw [if_pos (by omega), if_pos (by omega), if_pos (by omega), nrd x i hi, if_neg (fun e => h e.symm), wsucc hi (by omega)]
        exact h2 k hk
theorem rul_l0 (x : List Int) (l : List S27) (a b c d : Int) (w : List S25) (hw : w.length ≤ 4611686018427387904) (hn : l.length ≤ 4611686018427387904) (e : Bool)
    (he : Evt (fun k => if (x.length : Int) = 0 then some true else (slices_Contains_int_int.f k x d).bind fun t => some t) e) :
    ∃ r, Evt (fun k => spec_RuleHolds.l0 k 0 x l a b c d w) r ∧ Evt (fun k => impl_RuleHolds.l0 k l (l.length : Int) 0 x l a b c d w) (r && e) := by
  refine down (T := fun i => ∃ r, Evt (fun k => spec_RuleHolds.l0 k (i : Int) x l a b c d w) r ∧ Evt (fun k => impl_RuleHolds.l0 k l (l.length : Int) (i : Int) x l a b c d w) (r && e)) (n := l.length) ?_ ?_ l.length 0 (by omega)
  · obtain ⟨K, hK⟩ := he
    refine ⟨true, .succ (.const fun k => by simp only [spec_RuleHolds.l0]; rw [if_neg (by omega)]), .succ ⟨K, fun k hk => ?_⟩⟩
    simp only [impl_RuleHolds.l0]
    rw [if_neg (by omega)]
    exact hK k hk
  · intro i hi ih
    obtain ⟨r, ⟨K1, h1⟩, ⟨K2, h2⟩⟩ := ih
    dsimp only at h1 h2
    obtain ⟨q, qS, qI⟩ := holds l[i].f0 l[i].f1.f0 l[i].f1.f1 l[i].f2 l[i].f3.f0 l[i].f3.f1 c d w hw
    refine ⟨if q = true then r else false, .succ ⟨K1 + w.length + 2, fun k hk => ?_⟩, .succ ⟨K2 + w.length + 2, fun k hk => ?_⟩⟩
    · simp only [spec_RuleHolds.l0]
      rw [if_pos (by omega), if_pos (by omega), nrd_T27 l i hi, qS k (by omega), wsucc hi (by omega)]
      simp only [Option.bind_some]
      rw [h1 k (by omega)]
      split <;> rfl
    · simp only [impl_RuleHolds.l0]
      rw [if_pos (by omega), if_pos (by omega), if_pos (by omega), nrd_T27 l i hi, qI k (by omega), wsucc hi (by omega)]
      simp only [Option.bind_some]
      rw [h2 k (by omega)]
      split <;> rfl
theorem rul (x : List Int) (l : List S27) (a b c d : Int) (w : List S25) (hx : x.length ≤ 4611686018427387904) (hw : w.length ≤ 4611686018427387904) (hn : l.length ≤ 4611686018427387904) :
    ∃ r, Evt (fun k => spec_RuleHolds.f k x l a b c d w) r ∧ Evt (fun k => impl_RuleHolds.f k x l a b c d w) r := by
  obtain ⟨q, ⟨K1, h1⟩, ⟨K2, h2⟩⟩ := nums_in x d hx
  dsimp only at h1 h2
  by_cases h0 : (x.length : Int) = 0
  · obtain ⟨r, ⟨K3, h3⟩, ⟨K4, h4⟩⟩ := rul_l0 x l a b c d w hw hn true ⟨0, fun k _ => by simp only [if_pos h0]⟩
    dsimp only at h3 h4
    refine ⟨r, ⟨K3 + 1, fun k hk => ?_⟩, ⟨K4, fun k hk => ?_⟩⟩
    · obtain ⟨k, rfl⟩ : ∃ m, k = m + 1 := ⟨k - 1, by omega⟩
      simp only [spec_RuleHolds.f]
      rw [if_neg (by omega)]
      simp only [spec_RuleHolds.j0, Bool.false_eq_true, if_false]
      exact h3 k (by omega)
    · simp only [impl_RuleHolds.f]
      rw [h4 k (by omega), Bool.and_true]
  · obtain ⟨r, ⟨K3, h3⟩, ⟨K4, h4⟩⟩ := rul_l0 x l a b c d w hw hn (decide (q ≥ 0)) ⟨K2, fun k hk => by simp only [if_neg h0, slices_Contains_int_int.f, h2 k hk, Option.bind_some]⟩
    dsimp only at h3 h4
    refine ⟨r && decide (q ≥ 0), ⟨K1 + K3 + 1, fun k hk => ?_⟩, ⟨K4, fun k hk => ?_⟩⟩
    · simp only [spec_RuleHolds.f]
      rw [if_pos (by omega), h1 k (by omega)]
      obtain ⟨k, rfl⟩ : ∃ m, k = m + 1 := ⟨k - 1, by omega⟩
      simp only [spec_RuleHolds.j0, Option.bind_some]
      rw [h3 k (by omega)]
      cases decide (q ≥ 0) <;> simp
    · exact h4 k (by omega)
theorem actS (a b : Int) : Tot (fun _ => spec_l09Act.f a b) := by
  refine ⟨decide ((0 ≤ a ∧ a ≤ 5) ∧ (0 ≤ b ∧ b ≤ 65535)), .const fun k => ?_⟩
  unfold spec_l09Act.f
  simp only [inS, Option.bind_some, decide_eq_true_eq]
  split
  · rename_i h
    exact congrArg some (by rw [Bool.eq_iff_iff]; simp [h])
  · rename_i h
    exact congrArg some (by rw [Bool.eq_iff_iff]; simp [h])
/-- A rule's second loop, and its end. -/
theorem rule_l1 (x : List Int) (l : List S27) (a b : Int) (hn : l.length ≤ 4611686018427387904) : ∃ r, Evt (fun k => spec_l09Rule.l1 k 0 x l a b) r ∧ Evt (fun k => impl_ruleOk.l1 k l (l.length : Int) 0 x l a b) r := by
  refine down (T := fun i => ∃ r, Evt (fun k => spec_l09Rule.l1 k (i : Int) x l a b) r ∧ Evt (fun k => impl_ruleOk.l1 k l (l.length : Int) (i : Int) x l a b) r) (n := l.length) ?_ ?_ l.length 0 (by omega)
  · obtain ⟨v, K, hv⟩ := actS a b
    dsimp only at hv
    have hv0 := hv K (Nat.le_refl _)
    have hv1 : impl_actionOk.f a b = some v := hv0
    refine ⟨if (x.length : Int) ≤ 4 then (if (l.length : Int) ≤ 3 then v else false) else false, .succ (.const fun k => ?_), .succ (.const fun k => ?_)⟩
    · simp only [spec_l09Rule.l1]
      rw [if_neg (by omega), hv0]
      simp only [Option.bind_some]
      repeat' split
      all_goals rfl
    · simp only [impl_ruleOk.l1]
      rw [if_neg (by omega), hv1]
      simp only [Option.bind_some]
      repeat' split
      all_goals rfl
  · intro i hi ih
    obtain ⟨r, ⟨K1, h1⟩, ⟨K2, h2⟩⟩ := ih
    dsimp only at h1 h2
    obtain ⟨q, e, e'⟩ : ∃ q, spec_CondOk.f l[i].f0 l[i].f1.f0 l[i].f1.f1 l[i].f2 l[i].f3.f0 l[i].f3.f1 = some q ∧ impl_CondOk.f l[i].f0 l[i].f1.f0 l[i].f1.f1 l[i].f2 l[i].f3.f0 l[i].f3.f1 = some q := ⟨_, condS _ _ _ _ _ _, condI _ _ _ _ _ _⟩
    refine ⟨if q = true then r else false, .succ ⟨K1, fun k hk => ?_⟩, .succ ⟨K2, fun k hk => ?_⟩⟩
    · simp only [spec_l09Rule.l1]
      rw [if_pos (by omega), if_pos (by omega), nrd_T27 l i hi, e, wsucc hi (by omega)]
      simp only [Option.bind_some]
      rw [h1 k (by omega)]
      split <;> rfl
    · simp only [impl_ruleOk.l1]
      rw [if_pos (by omega), if_pos (by omega), if_pos (by omega), nrd_T27 l i hi, e', wsucc hi (by omega)]
      simp only [Option.bind_some]
      rw [h2 k (by omega)]
      split <;> rfl
theorem rule (x : List Int) (l : List S27) (a b : Int) (hx : x.length ≤ 4611686018427387904) (hn : l.length ≤ 4611686018427387904) : ∃ r, Evt (fun k => spec_l09Rule.f k x l a b) r ∧ Evt (fun k => impl_ruleOk.f k x l a b) r := by
  refine down (T := fun i => ∃ r, Evt (fun k => spec_l09Rule.l0 k (i : Int) x l a b) r ∧ Evt (fun k => impl_ruleOk.l0 k x (x.length : Int) (i : Int) x l a b) r) (n := x.length) ?_ ?_ x.length 0 (by omega)
  · obtain ⟨r, ⟨K1, h1⟩, ⟨K2, h2⟩⟩ := rule_l1 x l a b hn
    dsimp only at h1 h2
    refine ⟨r, .succ ⟨K1, fun k hk => ?_⟩, .succ ⟨K2, fun k hk => ?_⟩⟩
    · simp only [spec_l09Rule.l0]
      rw [if_neg (by omega)]
      exact h1 k hk
    · simp only [impl_ruleOk.l0]
      rw [if_neg (by omega)]
      exact h2 k hk
  · intro i hi ih
    obtain ⟨r, ⟨K1, h1⟩, ⟨K2, h2⟩⟩ := ih
    dsimp only at h1 h2
    obtain ⟨q, e, e'⟩ : ∃ q, spec_HalfOk.f x[i] = some q ∧ impl_HalfOk.f x[i] = some q := ⟨_, halfS _, halfI _⟩
    have ew : 0 < i → wrap64 ((i : Int) - 1) = ((i - 1 : Nat) : Int) := fun h => by rw [w64 (by omega) (by omega)]; omega
    refine ⟨if q = true then (if 0 < i ∧ rd x (wrap64 ((i : Int) - 1)) ≥ x[i] then false else r) else false, .succ ⟨K1, fun k hk => ?_⟩, .succ ⟨K2, fun k hk => ?_⟩⟩
    · simp only [spec_l09Rule.l0]
      rw [if_pos (by omega), if_pos (by omega), nrd x i hi, e, wsucc hi (by omega)]
      simp only [Option.bind_some]
      by_cases h0 : 0 < i
      · have h9 := ew h0
        rw [h9, if_pos (show (i : Int) > 0 by omega), if_pos (show (0 : Int) ≤ ((i - 1 : Nat) : Int) by omega), if_pos (show ((i - 1 : Nat) : Int) < (x.length : Int) by omega), h1 k (by omega)]
        simp only [h0, true_and]
        repeat' split
        all_goals rfl
      · rw [if_neg (show ¬ (i : Int) > 0 by omega), h1 k (by omega)]
        simp only [h0, false_and, if_false]
        split <;> rfl
    · simp only [impl_ruleOk.l0]
      rw [if_pos (by omega), if_pos (by omega), if_pos (by omega), nrd x i hi, e', wsucc hi (by omega)]
      simp only [Option.bind_some]
      by_cases h0 : 0 < i
      · have h9 := ew h0
        rw [h9, if_pos (show (i : Int) > 0 by omega), if_pos (show (0 : Int) ≤ ((i - 1 : Nat) : Int) by omega), if_pos (show ((i - 1 : Nat) : Int) < (x.length : Int) by omega), h2 k (by omega)]
        simp only [h0, true_and]
        repeat' split
        all_goals rfl
      · rw [if_neg (show ¬ (i : Int) > 0 by omega), h2 k (by omega)]
        simp only [h0, false_and, if_false]
        split <;> rfl
theorem pol (a b c : Int) (l : List S40) (hn : l.length ≤ 4611686018427387904) (hl : ∀ y ∈ l, y.f0.length ≤ 4611686018427387904 ∧ y.f1.length ≤ 4611686018427387904) : ∃ r, Evt (fun k => spec_PolicyOk.f k a b c l) r ∧ Evt (fun k => impl_PolicyOk.f k a b c l) r := by
  refine down (T := fun i => ∃ r, Evt (fun k => spec_PolicyOk.l0 k (i : Int) a b c l) r ∧ Evt (fun k => impl_PolicyOk.l0 k l (l.length : Int) (i : Int) a b c l) r) (n := l.length) ?_ ?_ l.length 0 (by omega)
  · obtain ⟨v, K, hv⟩ := actS b c
    dsimp only at hv
    have hv0 := hv K (Nat.le_refl _)
    have hv1 : impl_actionOk.f b c = some v := hv0
    refine ⟨if decide (0 ≤ a ∧ a ≤ 4294967295) = true then (if v = true then decide ((l.length : Int) ≤ 10) else false) else false, .succ (.const fun k => ?_), .succ (.const fun k => ?_)⟩
    · simp only [spec_PolicyOk.l0]
      rw [if_neg (by omega), halfS, hv0]
      simp only [Option.bind_some]
      repeat' split
      all_goals rfl
    · simp only [impl_PolicyOk.l0]
      rw [if_neg (by omega), halfI, hv1]
      simp only [Option.bind_some]
      repeat' split
      all_goals rfl
  · intro i hi ih
    obtain ⟨r, ⟨K1, h1⟩, ⟨K2, h2⟩⟩ := ih
    have hb := hl _ (List.getElem_mem hi)
    obtain ⟨q, ⟨K3, h3⟩, ⟨K4, h4⟩⟩ := rule l[i].f0 l[i].f1 l[i].f2 l[i].f3 hb.1 hb.2
    dsimp only at h1 h2 h3 h4
    refine ⟨if q = true then r else false, .succ ⟨K1 + K3, fun k hk => ?_⟩, .succ ⟨K2 + K4, fun k hk => ?_⟩⟩
    · simp only [spec_PolicyOk.l0]
      rw [if_pos (by omega), if_pos (by omega), nrd_T40 l i hi, h3 k (by omega), wsucc hi (by omega)]
      simp only [Option.bind_some]
      rw [h1 k (by omega)]
      split <;> rfl
    · simp only [impl_PolicyOk.l0]
      rw [if_pos (by omega), if_pos (by omega), if_pos (by omega), nrd_T40 l i hi, h4 k (by omega), wsucc hi (by omega)]
      simp only [Option.bind_some]
      rw [h2 k (by omega)]
      split <;> rfl
theorem resI (a b : Int) : impl_ResultOf.f a b = spec_ResultOf.f a b := rfl
theorem res (a b : Int) : ∃ v, spec_ResultOf.f a b = some v := by
  simp only [spec_ResultOf.f, inS, Option.bind_some, decide_eq_true_eq]
  repeat' split
  all_goals exact ⟨_, rfl⟩
theorem res0 : impl_ResultOf.f 0 0 = some 0 := by
  have e : wrap64 (wrap64 (65536 * 0) + 0) = 0 := by rw [w64 (x := 65536 * 0) (by omega) (by omega), w64 (by omega) (by omega)]; rfl
  simp only [impl_ResultOf.f, inI, Option.bind_some, decide_eq_true_eq]
  rw [if_pos (by omega), if_pos (by omega), e]
theorem dec_l0 (a b c : Int) (l : List S40) (d e : Int) (w : List S25) (hn : l.length ≤ 4611686018427387904) (hl : ∀ y ∈ l, y.f0.length ≤ 4611686018427387904 ∧ y.f1.length ≤ 4611686018427387904) (hw : w.length ≤ 4611686018427387904) :
    ∃ r, Evt (fun k => spec_Decide.l0 k ((0 : Nat) : Int) a b c l d e w) r ∧ Evt (fun k => impl_Decide.l0 k l (l.length : Int) ((0 : Nat) : Int) a b c l d e w) r := by
  refine down (T := fun i => ∃ r, Evt (fun k => spec_Decide.l0 k (i : Int) a b c l d e w) r ∧ Evt (fun k => impl_Decide.l0 k l (l.length : Int) (i : Int) a b c l d e w) r) (n := l.length) ?_ ?_ l.length 0 (by omega)
  · obtain ⟨v, hv⟩ := res b c
    refine ⟨v, .succ (.const fun k => ?_), .succ (.const fun k => ?_)⟩
    · simp only [spec_Decide.l0]
      rw [if_neg (by omega), hv]
      rfl
    · simp only [impl_Decide.l0]
      rw [if_neg (by omega), resI, hv]
      rfl
  · intro i hi ⟨r, ⟨K1, h1⟩, ⟨K2, h2⟩⟩
    dsimp only at h1 h2
    obtain ⟨t, ⟨K3, h3⟩, ⟨K4, h4⟩⟩ := rul l[i].f0 l[i].f1 l[i].f2 l[i].f3 d e w (hl _ (List.getElem_mem hi)).1 hw (hl _ (List.getElem_mem hi)).2
    dsimp only at h3 h4
    obtain ⟨v, hv⟩ := res l[i].f2 l[i].f3
    cases t with
    | true =>
      refine ⟨v, .succ ⟨K3, fun k hk => ?_⟩, .succ ⟨K4, fun k hk => ?_⟩⟩
      · simp only [spec_Decide.l0]
        rw [if_pos (by omega), if_pos (by omega), nrd_T40 l i hi, h3 k hk]
        simp only [Option.bind_some, if_true, hv]
      · simp only [impl_Decide.l0]
        rw [if_pos (by omega), if_pos (by omega), if_pos (by omega), nrd_T40 l i hi, h4 k hk]
        simp only [Option.bind_some, if_true, resI, hv]
    | false =>
      refine ⟨r, .succ ⟨K1 + K3, fun k hk => ?_⟩, .succ ⟨K2 + K4, fun k hk => ?_⟩⟩
      · simp only [spec_Decide.l0]
        rw [if_pos (by omega), if_pos (by omega), nrd_T40 l i hi, h3 k (by omega), wsucc hi (by omega)]
        simp only [Option.bind_some, Bool.false_eq_true, if_false]
        exact h1 k (by omega)
      · simp only [impl_Decide.l0]
        rw [if_pos (by omega), if_pos (by omega), if_pos (by omega), nrd_T40 l i hi, h4 k (by omega), wsucc hi (by omega)]
        simp only [Option.bind_some, Bool.false_eq_true, if_false]
        exact h2 k (by omega)
theorem dec (a b c : Int) (l : List S40) (d e : Int) (w : List S25) (hn : l.length ≤ 4611686018427387904) (hl : ∀ y ∈ l, y.f0.length ≤ 4611686018427387904 ∧ y.f1.length ≤ 4611686018427387904) (hw : w.length ≤ 4611686018427387904) :
    ∃ r, Evt (fun k => spec_Decide.f k a b c l d e w) r ∧ Evt (fun k => impl_Decide.f k a b c l d e w) r := by
  obtain ⟨p, ⟨K1, h1⟩, ⟨K2, h2⟩⟩ := pol a b c l hn hl
  obtain ⟨q, g1, g2, _⟩ := call d e w hw
  obtain ⟨r, ⟨K3, h3⟩, ⟨K4, h4⟩⟩ := dec_l0 a b c l d e w hn hl hw
  dsimp only at h1 h2 h3 h4
  have eb : (a != d) = (d != a) := by rw [Bool.eq_iff_iff]; simp; omega
  have hS : ∀ k, K1 + w.length + 1 ≤ k → spec_Decide.f k a b c l d e w = spec_Decide.j0 k (!(p && q) || (d != a)) a b c l d e w := fun k hk => by
    simp only [spec_Decide.f, h1 k (by omega), g1 k (by omega), Option.bind_some]
    cases p <;> cases q <;> simp
  have hI : ∀ k, K2 + w.length + 1 ≤ k → impl_Decide.f k a b c l d e w = impl_Decide.j0 k (!(p && q) || (d != a)) a b c l d e w := fun k hk => by
    simp only [impl_Decide.f, h2 k (by omega), g2 k (by omega), Option.bind_some, eb]
    cases p <;> cases q <;> simp
  cases hb : (!(p && q) || (d != a)) with
  | true =>
    refine ⟨0, ⟨K1 + w.length + 2, fun k hk => ?_⟩, ⟨K2 + w.length + 2, fun k hk => ?_⟩⟩
    · refine (hS k (by omega)).trans ?_
      rw [hb]
      obtain ⟨k, rfl⟩ : ∃ m, k = m + 1 := ⟨k - 1, by omega⟩
      simp only [spec_Decide.j0, if_true]
    · refine (hI k (by omega)).trans ?_
      rw [hb]
      obtain ⟨k, rfl⟩ : ∃ m, k = m + 1 := ⟨k - 1, by omega⟩
      simp only [impl_Decide.j0, if_true, res0, Option.bind_some]
  | false =>
    refine ⟨r, ⟨K1 + K3 + w.length + 2, fun k hk => ?_⟩, ⟨K2 + K4 + w.length + 2, fun k hk => ?_⟩⟩
    · refine (hS k (by omega)).trans ?_
      rw [hb]
      obtain ⟨k, rfl⟩ : ∃ m, k = m + 1 := ⟨k - 1, by omega⟩
      simp only [spec_Decide.j0, Bool.false_eq_true, if_false]
      exact h3 k (by omega)
    · refine (hI k (by omega)).trans ?_
      rw [hb]
      obtain ⟨k, rfl⟩ : ∃ m, k = m + 1 := ⟨k - 1, by omega⟩
      simp only [impl_Decide.j0, Bool.false_eq_true, if_false]
      exact h4 k (by omega)
theorem main (a b c : Int) (l : List S108) (d e : Int) (w : List S199) (hl : ((∀ u ∈ l, (((∀ u5 ∈ u.f0, (Lit.int .i64 u5).wf = true) ∧ u.f0.length ≤ maxLen) ∧ ((∀ u5 ∈ u.f1, ((Lit.int .i64 u5.f0).wf = true ∧ ((Lit.int .i64 u5.f1.f0).wf = true ∧ (Lit.int .i64 u5.f1.f1).wf = true) ∧ (Lit.int .i64 u5.f2).wf = true ∧ ((Lit.int .i64 u5.f3.f0).wf = true ∧ (Lit.int .i64 u5.f3.f1).wf = true))) ∧ u.f1.length ≤ maxLen) ∧ (Lit.int .i64 u.f2).wf = true ∧ (Lit.int .i64 u.f3).wf = true)) ∧ l.length ≤ maxLen)) (hw : ((∀ u ∈ w, ((Lit.int .i64 u.f0).wf = true ∧ (Lit.int .i64 u.f1).wf = true)) ∧ w.length ≤ maxLen)) : ∃ k, laws_FnExactDecide.f k a b c l d e w = some true := by
  obtain ⟨s, hs, hB, K1, h1⟩ := Elaws_szPolicy a b c l 1048576 (by omega) (by omega) hl
  dsimp only at h1
  by_cases hn : s < 0
  · exact ⟨K1, by simp only [laws_FnExactDecide.f, h1 K1 (Nat.le_refl _), Option.bind_some, if_pos hn]⟩
  have bl := hB (by omega)
  obtain ⟨s2, hs2, hB2, K2, h2⟩ := Elaws_szCall d e w s (by omega) (by omega) hw
  dsimp only at h2
  by_cases hn2 : s2 < 0
  · exact ⟨K1 + K2, by simp only [laws_FnExactDecide.f, h1 (K1 + K2) (by omega), h2 (K1 + K2) (by omega), Option.bind_some, if_neg hn, if_pos hn2]⟩
  have bw := hB2 (by omega)
  have lw : (w.map conv199).length = w.length := List.length_map _
  have ll : (l.map conv108).length = l.length := List.length_map _
  have cl : ∀ y ∈ l.map conv108, y.f0.length ≤ 4611686018427387904 ∧ y.f1.length ≤ 4611686018427387904 := by
    simp only [List.mem_map]
    rintro y ⟨z, hz, rfl⟩
    have := bl.2 z hz
    simp only [conv108, List.length_map]
    omega
  obtain ⟨K3, h3⟩ := Elaws_toPolicy a b c l bl
  obtain ⟨K4, h4⟩ := Elaws_toCall d e w bw
  obtain ⟨r, ⟨K5, h5⟩, ⟨K6, h6⟩⟩ := dec a b c (l.map conv108) d e (w.map conv199) (by omega) cl (by omega)
  obtain ⟨K7, h7⟩ := Elaws_eqPolicy a b c (l.map conv108) ⟨by omega, cl⟩
  obtain ⟨K8, h8⟩ := Elaws_eqCall d e (w.map conv199) (by omega)
  dsimp only at h3 h4 h5 h6 h7 h8
  have hk : ∀ j, j ≤ K1 + K2 + K3 + K4 + K5 + K6 + K7 + K8 → j ≤ K1 + K2 + K3 + K4 + K5 + K6 + K7 + K8 := fun _ h => h
  refine ⟨K1 + K2 + K3 + K4 + K5 + K6 + K7 + K8, ?_⟩
  simp only [laws_FnExactDecide.f, h1 _ (hk K1 (by omega)), h2 _ (hk K2 (by omega)), h3 _ (hk K3 (by omega)), h4 _ (hk K4 (by omega)), h5 _ (hk K5 (by omega)), h6 _ (hk K6 (by omega)), h7 _ (hk K7 (by omega)), h8 _ (hk K8 (by omega)), Option.bind_some, if_neg hn, if_neg hn2, if_true]
end Go.Proofs.Ytfmilhpneelonaa.PFnExactDecide
