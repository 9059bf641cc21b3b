/- The pure law of FnExactSamePolicy: what the functions of the program and of the reference come to is the same, for all arguments that the law is asked of. No conditions. -/
import Derived.Test.YtcmcpmkihpdnjaaPFnExactSamePolicyy8
import Derived.Test.YtcmcpmkihpdnjaaEV
set_option linter.unusedSimpArgs false
set_option linter.unusedVariables false
namespace Go.Proofs.Ytcmcpmkihpdnjaa.PFnExactSamePolicy
open Go Go.RowKit Go.Proofs.YtcmcpmkihpdnjaaW.PrintWords Go.Proofs.YtcmcpmkihpdnjaaW.PrintLast Go.Proofs.YtcmcpmkihpdnjaaW.PK
theorem Elaws_szIntS (l : List (Int)) (q : Int) (hq : 0 ≤ q) (hq' : q ≤ 1048576) (hm : l.length ≤ maxLen) : ∃ s : Int, s ≤ q ∧ (0 ≤ s → l.length ≤ 1048576) ∧ Evt (fun k => laws_szIntS.f l q) s := by
  unfold maxLen at hm
  have e : wrap64 (q - (l.length : Int)) = q - l.length := w64 (by omega) (by omega)
  by_cases hn : q - (l.length : Int) < 0
  · exact ⟨-1, by omega, fun h => by omega, .const fun k => by simp only [laws_szIntS.f, e, if_pos hn]⟩
  · exact ⟨q - l.length, by omega, fun h => by omega, .const fun k => by simp only [laws_szIntS.f, e, if_neg hn]⟩
theorem Elaws_szCondS (l : List (S178)) (q : Int) (hq : 0 ≤ q) (hq' : q ≤ 1048576) (hm : l.length ≤ maxLen) : ∃ s : Int, s ≤ q ∧ (0 ≤ s → l.length ≤ 1048576) ∧ Evt (fun k => laws_szCondS.f l q) s := by
  unfold maxLen at hm
  have e : wrap64 (q - (l.length : Int)) = q - l.length := w64 (by omega) (by omega)
  by_cases hn : q - (l.length : Int) < 0
  · exact ⟨-1, by omega, fun h => by omega, .const fun k => by simp only [laws_szCondS.f, e, if_pos hn]⟩
  · exact ⟨q - l.length, by omega, fun h => by omega, .const fun k => by simp only [laws_szCondS.f, e, if_neg hn]⟩
theorem Elaws_szRule (l0_0 : List Int) (l0_1 : List (S178)) (a0_2 : Int) (a0_3 : Int) (q : Int) (hq : 0 ≤ q) (hq' : q ≤ 1048576) (hl0_0 : ((∀ u4 ∈ l0_0, (Lit.int .i64 u4).wf = true) ∧ l0_0.length ≤ maxLen)) (hl0_1 : ((∀ u4 ∈ l0_1, ((Lit.int .i64 u4.f0).wf = true ∧ ((Lit.int .i64 u4.f1.f0).wf = true ∧ (Lit.int .i64 u4.f1.f1).wf = true) ∧ (Lit.int .i64 u4.f2).wf = true ∧ ((Lit.int .i64 u4.f3.f0).wf = true ∧ (Lit.int .i64 u4.f3.f1).wf = true))) ∧ l0_1.length ≤ maxLen)) : ∃ s : Int, s ≤ q ∧ (0 ≤ s → (l0_0.length ≤ 1048576 ∧ l0_1.length ≤ 1048576)) ∧ Evt (fun k => laws_szRule.f l0_0 l0_1 a0_2 a0_3 q) s := by
  obtain ⟨s0, hs0, hB0, K0, e0⟩ := Elaws_szIntS l0_0 (q) (by omega) (by omega) hl0_0.2
  by_cases n0 : s0 < 0
  · exact ⟨-1, by omega, fun h => by omega, 0 + K0, fun k hk => by simp only [laws_szRule.f, e0 k (by omega), Option.bind_some, if_pos n0]⟩
  obtain ⟨s1, hs1, hB1, K1, e1⟩ := Elaws_szCondS l0_1 (s0) (by omega) (by omega) hl0_1.2
  by_cases n1 : s1 < 0
  · exact ⟨-1, by omega, fun h => by omega, 0 + K0 + K1, fun k hk => by simp only [laws_szRule.f, e0 k (by omega), e1 k (by omega), Option.bind_some, if_neg n0, if_pos n1]⟩
  exact ⟨s1, by omega, fun h => ⟨hB0 (by omega), hB1 (by omega)⟩, 0 + K0 + K1, fun k hk => by simp only [laws_szRule.f, e0 k (by omega), e1 k (by omega), Option.bind_some, if_neg n0, if_neg n1]⟩
theorem nrd_T136 (l : List (S136)) (i : Nat) (h : i < l.length) : rd_T136 l (i : Int) = l[i] := getD_lt _ h
theorem Elaws_szRuleS (l : List (S136)) (q : Int) (hq : 0 ≤ q) (hq' : q ≤ 1048576) (hm : l.length ≤ maxLen) (hw : ∀ x ∈ l, (((∀ u4 ∈ x.f0, (Lit.int .i64 u4).wf = true) ∧ x.f0.length ≤ maxLen) ∧ ((∀ u4 ∈ x.f1, ((Lit.int .i64 u4.f0).wf = true ∧ ((Lit.int .i64 u4.f1.f0).wf = true ∧ (Lit.int .i64 u4.f1.f1).wf = true) ∧ (Lit.int .i64 u4.f2).wf = true ∧ ((Lit.int .i64 u4.f3.f0).wf = true ∧ (Lit.int .i64 u4.f3.f1).wf = true))) ∧ x.f1.length ≤ maxLen) ∧ (Lit.int .i64 x.f2).wf = true ∧ (Lit.int .i64 x.f3).wf = true)) : ∃ s : Int, s ≤ q ∧ (0 ≤ s → l.length ≤ 1048576 ∧ ∀ y ∈ l, (y.f0.length ≤ 1048576 ∧ y.f1.length ≤ 1048576)) ∧ Evt (fun k => laws_szRuleS.f k l q) s := by
  unfold maxLen at hm
  have e : wrap64 (q - (l.length : Int)) = q - l.length := w64 (by omega) (by omega)
  by_cases hn : q - (l.length : Int) < 0
  · exact ⟨-1, by omega, fun h => by omega, .const fun k => by simp only [laws_szRuleS.f, e, if_pos hn]⟩
  · have H := Evt.sz (F := fun k q i => laws_szRuleS.l0 k l q i) (n := l.length) (P := fun i => ∀ h : i < l.length, (l[i].f0.length ≤ 1048576 ∧ l[i].f1.length ≤ 1048576)) ?_ ?_ (q - l.length) (by omega) (by omega)
    · obtain ⟨s, hs, hP, hE⟩ := H
      refine ⟨s, by omega, fun h => ⟨by omega, fun y hy => ?_⟩, hE.congr fun k => ?_⟩
      · obtain ⟨i, hi, rfl⟩ := List.mem_iff_getElem.1 hy
        exact hP h i hi hi
      · simp only [laws_szRuleS.f, e, if_neg hn]
    · intro k q
      simp only [laws_szRuleS.l0]
      rw [if_neg (by omega)]
    · intro i hi q hq hq'
      obtain ⟨s, hs, hP, K, hK⟩ := Elaws_szRule l[i].f0 l[i].f1 l[i].f2 l[i].f3 q hq hq' ((hw _ (List.getElem_mem hi)).1) ((hw _ (List.getElem_mem hi)).2.1)
      dsimp only at hK
      refine ⟨s, hs, fun h _ => hP h, K, fun k hk => ?_⟩
      simp only [laws_szRuleS.l0]
      rw [if_pos (by omega), if_pos (by omega), nrd_T136 l i hi, hK k hk, wsucc hi (by omega)]
      all_goals rfl
theorem Elaws_szPolicy (a0_0 : Int) (a0_1 : Int) (a0_2 : Int) (l0_3 : List (S136)) (q : Int) (hq : 0 ≤ q) (hq' : q ≤ 1048576) (hl0_3 : ((∀ u4 ∈ l0_3, (((∀ u5 ∈ u4.f0, (Lit.int .i64 u5).wf = true) ∧ u4.f0.length ≤ maxLen) ∧ ((∀ u5 ∈ u4.f1, ((Lit.int .i64 u5.f0).wf = true ∧ ((Lit.int .i64 u5.f1.f0).wf = true ∧ (Lit.int .i64 u5.f1.f1).wf = true) ∧ (Lit.int .i64 u5.f2).wf = true ∧ ((Lit.int .i64 u5.f3.f0).wf = true ∧ (Lit.int .i64 u5.f3.f1).wf = true))) ∧ u4.f1.length ≤ maxLen) ∧ (Lit.int .i64 u4.f2).wf = true ∧ (Lit.int .i64 u4.f3).wf = true)) ∧ l0_3.length ≤ maxLen)) : ∃ s : Int, s ≤ q ∧ (0 ≤ s → (l0_3.length ≤ 1048576 ∧ ∀ v4 ∈ l0_3, (v4.f0.length ≤ 1048576 ∧ v4.f1.length ≤ 1048576))) ∧ Evt (fun k => laws_szPolicy.f k a0_0 a0_1 a0_2 l0_3 q) s := by
  obtain ⟨s0, hs0, hB0, K0, e0⟩ := Elaws_szRuleS l0_3 (q) (by omega) (by omega) hl0_3.2 hl0_3.1
  by_cases n0 : s0 < 0
  · exact ⟨-1, by omega, fun h => by omega, 0 + K0, fun k hk => by simp only [laws_szPolicy.f, e0 k (by omega), Option.bind_some, if_pos n0]⟩
  exact ⟨s0, by omega, fun h => hB0 (by omega), 0 + K0, fun k hk => by simp only [laws_szPolicy.f, e0 k (by omega), Option.bind_some, if_neg n0]⟩
theorem nrd (l : List (Int)) (i : Nat) (h : i < l.length) : rd l (i : Int) = l[i] := getD_lt _ h
theorem Elaws_toIntS (l : List (Int)) (hn : l.length ≤ 1048576) : Evt (fun k => laws_toIntS.f k l) (l.map (fun y => y)) := by
  have h := Evt.to (F := fun k y i => laws_toIntS.l0 k l y i) (x := l) (conv := (fun y => y)) ?_ ?_ (List.replicate l.length 0) (by simp)
  · refine h.congr fun k => ?_
    unfold laws_toIntS.f
    rw [if_pos (by omega), if_pos (by omega), Int.toNat_natCast]
  · intro k y
    simp only [laws_toIntS.l0]
    rw [if_neg (by omega)]
  · intro i hi
    have K : Nat := 0
    refine ⟨0, fun k hk y hy => ?_⟩
    simp only [laws_toIntS.l0]
    rw [if_pos (by omega), if_pos (by omega), nrd l i hi]
    rw [if_pos (by omega), wsucc hi (by omega), Int.toNat_natCast]
    all_goals rfl
theorem Elaws_toWide (a0_0 : Int) (a0_1 : Int) : Evt (fun k => laws_toWide.f a0_0 a0_1) (a0_0, a0_1) := by
  exact .const fun k => rfl
theorem Elaws_toCond (a0_0 : Int) (a0_1 : Int) (a0_2 : Int) (a0_3 : Int) (a0_4 : Int) (a0_5 : Int) : Evt (fun k => laws_toCond.f a0_0 a0_1 a0_2 a0_3 a0_4 a0_5) (a0_0, a0_1, a0_2, a0_3, a0_4, a0_5) := by
  exact .const fun k => rfl
def conv176 (a : S176) : S93 := ⟨a.f0, a.f1⟩
def conv178 (a : S178) : S95 := ⟨a.f0, (conv176 a.f1), a.f2, (conv176 a.f3)⟩
theorem nrd_T178 (l : List (S178)) (i : Nat) (h : i < l.length) : rd_T178 l (i : Int) = l[i] := getD_lt _ h
theorem Elaws_toCondS (l : List (S178)) (hn : l.length ≤ 1048576) : Evt (fun k => laws_toCondS.f k l) (l.map conv178) := by
  have h := Evt.to (F := fun k y i => laws_toCondS.l0 k l y i) (x := l) (conv := conv178) ?_ ?_ (List.replicate l.length z95) (by simp)
  · refine h.congr fun k => ?_
    unfold laws_toCondS.f
    rw [if_pos (by omega), if_pos (by omega), Int.toNat_natCast]
  · intro k y
    simp only [laws_toCondS.l0]
    rw [if_neg (by omega)]
  · intro i hi
    obtain ⟨K, hK⟩ := Elaws_toCond l[i].f0 l[i].f1.f0 l[i].f1.f1 l[i].f2 l[i].f3.f0 l[i].f3.f1
    dsimp only at hK
    refine ⟨K, fun k hk y hy => ?_⟩
    simp only [laws_toCondS.l0]
    rw [if_pos (by omega), if_pos (by omega), nrd_T178 l i hi, hK k hk]
    simp only [Option.bind_some]
    rw [if_pos (by omega), wsucc hi (by omega), Int.toNat_natCast]
    all_goals rfl
theorem Elaws_toRule (l0_0 : List Int) (l0_1 : List (S178)) (a0_2 : Int) (a0_3 : Int) (hl0_0 : l0_0.length ≤ 1048576) (hl0_1 : l0_1.length ≤ 1048576) : Evt (fun k => laws_toRule.f k l0_0 l0_1 a0_2 a0_3) ((l0_0.map (fun y => y)), (l0_1.map conv178), a0_2, a0_3) := by
  obtain ⟨K0, h0⟩ := Elaws_toIntS l0_0 hl0_0
  obtain ⟨K1, h1⟩ := Elaws_toCondS l0_1 hl0_1
  refine ⟨K0 + K1, fun k hk => ?_⟩
  simp only [laws_toRule.f, h0 k (by omega), h1 k (by omega), Option.bind_some]
  all_goals rfl
def conv136 (a : S136) : S91 := ⟨(a.f0.map (fun y => y)), (a.f1.map conv178), a.f2, a.f3⟩
theorem Elaws_toRuleS (l : List (S136)) (hn : l.length ≤ 1048576) (hB : ∀ y ∈ l, (y.f0.length ≤ 1048576 ∧ y.f1.length ≤ 1048576)) : Evt (fun k => laws_toRuleS.f k l) (l.map conv136) := by
  have h := Evt.to (F := fun k y i => laws_toRuleS.l0 k l y i) (x := l) (conv := conv136) ?_ ?_ (List.replicate l.length z91) (by simp)
  · refine h.congr fun k => ?_
    unfold laws_toRuleS.f
    rw [if_pos (by omega), if_pos (by omega), Int.toNat_natCast]
  · intro k y
    simp only [laws_toRuleS.l0]
    rw [if_neg (by omega)]
  · intro i hi
    obtain ⟨K, hK⟩ := Elaws_toRule l[i].f0 l[i].f1 l[i].f2 l[i].f3 ((hB _ (List.getElem_mem hi)).1) ((hB _ (List.getElem_mem hi)).2)
    dsimp only at hK
    refine ⟨K, fun k hk y hy => ?_⟩
    simp only [laws_toRuleS.l0]
    rw [if_pos (by omega), if_pos (by omega), nrd_T136 l i hi, hK k hk]
    simp only [Option.bind_some]
    rw [if_pos (by omega), wsucc hi (by omega), Int.toNat_natCast]
    all_goals rfl
theorem Elaws_toPolicy (a0_0 : Int) (a0_1 : Int) (a0_2 : Int) (l0_3 : List (S136)) (hl0_3 : (l0_3.length ≤ 1048576 ∧ ∀ v4 ∈ l0_3, (v4.f0.length ≤ 1048576 ∧ v4.f1.length ≤ 1048576))) : Evt (fun k => laws_toPolicy.f k a0_0 a0_1 a0_2 l0_3) (a0_0, a0_1, a0_2, (l0_3.map conv136)) := by
  obtain ⟨K0, h0⟩ := Elaws_toRuleS l0_3 hl0_3.1 hl0_3.2
  refine ⟨K0, fun k hk => ?_⟩
  simp only [laws_toPolicy.f, h0 k (by omega), Option.bind_some]
  all_goals rfl
theorem Elaws_eqIntS (l : List (Int)) (hn : l.length ≤ 4611686018427387904) : Evt (fun k => laws_eqIntS.f k l l) true := by
  have h := Evt.pass (F := fun k i => laws_eqIntS.l0 k l l i) (n := l.length) (r := true) ?_ ?_
  · refine h.congr fun k => ?_
    unfold laws_eqIntS.f
    rw [if_pos rfl]
  · refine .const fun k => ?_
    simp only [laws_eqIntS.l0]
    rw [if_neg (by omega)]
  · intro i hi
    refine ⟨0, fun k hk => ?_⟩
    simp only [laws_eqIntS.l0]
    rw [if_pos (by omega), if_pos (by omega), if_pos (by omega)]
    simp only [if_true]
    rw [wsucc hi (by omega)]
theorem Elaws_eqWide (a0_0 : Int) (a0_1 : Int) : Evt (fun k => laws_eqWide.f a0_0 a0_1 a0_0 a0_1) true := by
  refine ⟨0, fun k hk => ?_⟩
  simp only [laws_eqWide.f, Option.bind_some, if_true]
theorem Elaws_eqCond (a0_0 : Int) (a0_1 : Int) (a0_2 : Int) (a0_3 : Int) (a0_4 : Int) (a0_5 : Int) : Evt (fun k => laws_eqCond.f a0_0 a0_1 a0_2 a0_3 a0_4 a0_5 a0_0 a0_1 a0_2 a0_3 a0_4 a0_5) true := by
  refine ⟨0, fun k hk => ?_⟩
  simp only [laws_eqCond.f, laws_eqWide.f, Option.bind_some, if_true]
theorem nrd_T95 (l : List (S95)) (i : Nat) (h : i < l.length) : rd_T95 l (i : Int) = l[i] := getD_lt _ h
theorem Elaws_eqCondS (l : List (S95)) (hn : l.length ≤ 4611686018427387904) : Evt (fun k => laws_eqCondS.f k l l) true := by
  have h := Evt.pass (F := fun k i => laws_eqCondS.l0 k l l i) (n := l.length) (r := true) ?_ ?_
  · refine h.congr fun k => ?_
    unfold laws_eqCondS.f
    rw [if_pos rfl]
  · refine .const fun k => ?_
    simp only [laws_eqCondS.l0]
    rw [if_neg (by omega)]
  · intro i hi
    obtain ⟨K, hK⟩ := Elaws_eqCond l[i].f0 l[i].f1.f0 l[i].f1.f1 l[i].f2 l[i].f3.f0 l[i].f3.f1
    dsimp only at hK
    refine ⟨K, fun k hk => ?_⟩
    simp only [laws_eqCondS.l0]
    rw [if_pos (by omega), if_pos (by omega), if_pos (by omega), nrd_T95 l i hi, hK k hk]
    simp only [Option.bind_some, if_true]
    rw [wsucc hi (by omega)]
theorem Elaws_eqRule (l0_0 : List Int) (l0_1 : List (S95)) (a0_2 : Int) (a0_3 : Int) (hl0_0 : l0_0.length ≤ 4611686018427387904) (hl0_1 : l0_1.length ≤ 4611686018427387904) : Evt (fun k => laws_eqRule.f k l0_0 l0_1 a0_2 a0_3 l0_0 l0_1 a0_2 a0_3) true := by
  obtain ⟨K0, h0⟩ := Elaws_eqIntS l0_0 hl0_0
  obtain ⟨K1, h1⟩ := Elaws_eqCondS l0_1 hl0_1
  refine ⟨K0 + K1, fun k hk => ?_⟩
  simp only [laws_eqRule.f, h0 k (by omega), h1 k (by omega), Option.bind_some, if_true]
theorem nrd_T91 (l : List (S91)) (i : Nat) (h : i < l.length) : rd_T91 l (i : Int) = l[i] := getD_lt _ h
theorem Elaws_eqRuleS (l : List (S91)) (hn : l.length ≤ 4611686018427387904) (hB : ∀ y ∈ l, (y.f0.length ≤ 4611686018427387904 ∧ y.f1.length ≤ 4611686018427387904)) : Evt (fun k => laws_eqRuleS.f k l l) true := by
  have h := Evt.pass (F := fun k i => laws_eqRuleS.l0 k l l i) (n := l.length) (r := true) ?_ ?_
  · refine h.congr fun k => ?_
    unfold laws_eqRuleS.f
    rw [if_pos rfl]
  · refine .const fun k => ?_
    simp only [laws_eqRuleS.l0]
    rw [if_neg (by omega)]
  · intro i hi
    obtain ⟨K, hK⟩ := Elaws_eqRule l[i].f0 l[i].f1 l[i].f2 l[i].f3 ((hB _ (List.getElem_mem hi)).1) ((hB _ (List.getElem_mem hi)).2)
    dsimp only at hK
    refine ⟨K, fun k hk => ?_⟩
    simp only [laws_eqRuleS.l0]
    rw [if_pos (by omega), if_pos (by omega), if_pos (by omega), nrd_T91 l i hi, hK k hk]
    simp only [Option.bind_some, if_true]
    rw [wsucc hi (by omega)]
theorem Elaws_eqPolicy (a0_0 : Int) (a0_1 : Int) (a0_2 : Int) (l0_3 : List (S91)) (hl0_3 : (l0_3.length ≤ 4611686018427387904 ∧ ∀ v4 ∈ l0_3, (v4.f0.length ≤ 4611686018427387904 ∧ v4.f1.length ≤ 4611686018427387904))) : Evt (fun k => laws_eqPolicy.f k a0_0 a0_1 a0_2 l0_3 a0_0 a0_1 a0_2 l0_3) true := by
  obtain ⟨K0, h0⟩ := Elaws_eqRuleS l0_3 hl0_3.1 hl0_3.2
  refine ⟨K0, fun k hk => ?_⟩
  simp only [laws_eqPolicy.f, h0 k (by omega), Option.bind_some, if_true]
/-- Two rows of numbers: both ask the same. -/
theorem same_n (x y : List Int) (hx : x.length ≤ 4611686018427387904) : ∃ b, Evt (fun k => spec_l10Same.f k x y) b ∧ Evt (fun k => slices_Equal_int_int.f k x y) b := by
  by_cases hl : (x.length : Int) = (y.length : Int)
  · have key := down (T := fun i => ∃ b, Evt (fun k => spec_l10Same.l0 k x y (i : Int)) b ∧ Evt (fun k => slices_Equal_int_int.l0 k x y (x.length : Int) (i : Int)) b) (n := x.length) ?_ ?_ x.length 0 (by omega)
    · obtain ⟨b, h1, h2⟩ := key
      exact ⟨b, h1.congr fun k => by simp only [spec_l10Same.f]; rw [if_pos hl]; rfl, h2.congr fun k => by simp only [slices_Equal_int_int.f]; rw [if_pos hl]; rfl⟩
    · refine ⟨true, .succ (.const fun k => ?_), .succ (.const fun k => ?_)⟩
      · simp only [spec_l10Same.l0]
        rw [if_neg (by omega)]
      · simp only [slices_Equal_int_int.l0]
        rw [if_neg (by omega)]
    · rintro i hi ⟨b, ⟨K1, h1⟩, ⟨K2, h2⟩⟩
      have hi2 : i < y.length := by omega
      dsimp only at h1 h2
      by_cases he : x[i] = y[i]
      · refine ⟨b, .succ ⟨K1, fun k hk => ?_⟩, .succ ⟨K2, fun k hk => ?_⟩⟩
        · simp only [spec_l10Same.l0]
          rw [if_pos (by omega), if_pos (by omega), if_pos (by omega), nrd x i hi, nrd y i hi2, if_pos he, wsucc hi (by omega)]
          exact h1 k hk
        · simp only [slices_Equal_int_int.l0]
          rw [if_pos (by omega), if_pos (by omega), if_pos (by omega), if_pos (by omega), nrd x i hi, nrd y i hi2, if_pos he, wsucc hi (by omega)]
          exact h2 k hk
      · refine ⟨false, .succ (.const fun k => ?_), .succ (.const fun k => ?_)⟩
        · simp only [spec_l10Same.l0]
          rw [if_pos (by omega), if_pos (by omega), if_pos (by omega), nrd x i hi, nrd y i hi2, if_neg he]
        · simp only [slices_Equal_int_int.l0]
          rw [if_pos (by omega), if_pos (by omega), if_pos (by omega), if_pos (by omega), nrd x i hi, nrd y i hi2, if_neg he]
  · exact ⟨false, .const fun k => by simp only [spec_l10Same.f]; rw [if_neg hl], .const fun k => by simp only [slices_Equal_int_int.f]; rw [if_neg hl]⟩
/-- Two rows of conditions; the reference goes on with what follows. -/
theorem same_c (x y : List S95) (hx : x.length ≤ 4611686018427387904) (hl : (x.length : Int) = (y.length : Int)) (j a b c : Int) (L : List S91) (a' b' c' : Int) (M : List S91) (n : List Int) (p q : Int) (n' : List Int) (p' q' : Int) :
    ∃ t, Evt (fun k => impl_Cond.f k x y) t ∧ (t = false → Evt (fun k => spec_SamePolicy.l1 k j 0 a b c L a' b' c' M n x p q n' y p' q') false) ∧ (t = true → ∀ r, Evt (fun k => spec_SamePolicy.l0 k (wrap64 (j + 1)) a b c L a' b' c' M) r → Evt (fun k => spec_SamePolicy.l1 k j 0 a b c L a' b' c' M n x p q n' y p' q') r) := by
  have key := down (T := fun i => ∃ t, Evt (fun k => impl_Cond.l0 k x y (x.length : Int) (i : Int)) t ∧ (t = false → Evt (fun k => spec_SamePolicy.l1 k j (i : Int) a b c L a' b' c' M n x p q n' y p' q') false) ∧ (t = true → ∀ r, Evt (fun k => spec_SamePolicy.l0 k (wrap64 (j + 1)) a b c L a' b' c' M) r → Evt (fun k => spec_SamePolicy.l1 k j (i : Int) a b c L a' b' c' M n x p q n' y p' q') r)) (n := x.length) ?_ ?_ x.length 0 (by omega)
  · obtain ⟨t, h1, h2⟩ := key
    exact ⟨t, h1.congr fun k => by simp only [impl_Cond.f]; rw [if_pos hl]; rfl, h2⟩
  · refine ⟨true, .succ (.const fun k => ?_), fun h => (by cases h), fun _ r ⟨K, h⟩ => .succ ⟨K, fun k hk => ?_⟩⟩
    · simp only [impl_Cond.l0]
      rw [if_neg (by omega)]
    · simp only [spec_SamePolicy.l1]
      rw [if_neg (by omega)]
      exact h k hk
  · rintro i hi ⟨t, ⟨K1, h1⟩, h2, h3⟩
    have hi2 : i < y.length := by omega
    dsimp only at h1
    cases he : (!(x[i].f0 == y[i].f0) || ((!(x[i].f1.f0 == y[i].f1.f0) || (!(x[i].f1.f1 == y[i].f1.f1))) || (!(x[i].f2 == y[i].f2) || ((!(x[i].f3.f0 == y[i].f3.f0) || (!(x[i].f3.f1 == y[i].f3.f1))))))) with
    | false =>
      refine ⟨t, .succ ⟨K1, fun k hk => ?_⟩, fun ht => ?_, fun ht r hr => ?_⟩
      · simp only [impl_Cond.l0]
        rw [if_pos (by omega), if_pos (by omega), if_pos (by omega), if_pos (by omega), nrd_T95 x i hi, nrd_T95 y i hi2, he, if_neg (by decide), wsucc hi (by omega)]
        exact h1 k hk
      · obtain ⟨K2, g⟩ := h2 ht
        refine .succ ⟨K2, fun k hk => ?_⟩
        simp only [spec_SamePolicy.l1]
        rw [if_pos (by omega), if_pos (by omega), if_pos (by omega), nrd_T95 x i hi, nrd_T95 y i hi2, he, if_neg (by decide), wsucc hi (by omega)]
        exact g k hk
      · obtain ⟨K2, g⟩ := h3 ht r hr
        refine .succ ⟨K2, fun k hk => ?_⟩
        simp only [spec_SamePolicy.l1]
        rw [if_pos (by omega), if_pos (by omega), if_pos (by omega), nrd_T95 x i hi, nrd_T95 y i hi2, he, if_neg (by decide), wsucc hi (by omega)]
        exact g k hk
    | true =>
      refine ⟨false, .succ (.const fun k => ?_), fun ht => .succ (.const fun k => ?_), fun h => (by cases h)⟩
      · simp only [impl_Cond.l0]
        rw [if_pos (by omega), if_pos (by omega), if_pos (by omega), if_pos (by omega), nrd_T95 x i hi, nrd_T95 y i hi2, he, if_pos rfl]
      · simp only [spec_SamePolicy.l1]
        rw [if_pos (by omega), if_pos (by omega), if_pos (by omega), nrd_T95 x i hi, nrd_T95 y i hi2, he, if_pos rfl]
theorem samePolicy (a b c : Int) (L : List S91) (a' b' c' : Int) (M : List S91) (hL : L.length ≤ 4611686018427387904) (hB : ∀ y ∈ L, y.f0.length ≤ 4611686018427387904 ∧ y.f1.length ≤ 4611686018427387904) :
    ∃ t, Evt (fun k => spec_SamePolicy.f k a b c L a' b' c' M) t ∧ Evt (fun k => impl_SamePolicy.f k a b c L a' b' c' M) t := by
  by_cases h1 : a = a'
  · by_cases h2 : b = b'
    · by_cases h3 : c = c'
      · by_cases hl : (L.length : Int) = (M.length : Int)
        · have key := down (T := fun i => ∃ t, Evt (fun k => spec_SamePolicy.l0 k (i : Int) a b c L a' b' c' M) t ∧ Evt (fun k => impl_Rule_74.l0 k M L (L.length : Int) (i : Int)) t) (n := L.length) ?_ ?_ L.length 0 (by omega)
          · obtain ⟨t, ⟨K1, g1⟩, ⟨K2, g2⟩⟩ := key
            have hne : ((L.length : Int) != (M.length : Int)) = false := by simp [hl]
            refine ⟨t, ⟨K1 + 1, fun k hk => ?_⟩, ⟨K2, fun k hk => ?_⟩⟩
            · obtain ⟨k, rfl⟩ : ∃ m, k = m + 1 := ⟨k - 1, by omega⟩
              simp only [spec_SamePolicy.f]
              rw [if_pos h1, if_pos h2, if_pos h3, hne]
              simp only [spec_SamePolicy.j0, Bool.false_eq_true, if_false]
              exact g1 k (by omega)
            · simp only [impl_SamePolicy.f, impl_Rule_74.f]
              rw [if_pos h1, if_pos h2, if_pos h3, if_pos hl]
              rw [show impl_Rule_74.l0 k M L (L.length : Int) 0 = some t from g2 k hk]
              rfl
          · refine ⟨true, .succ (.const fun k => ?_), .succ (.const fun k => ?_)⟩
            · simp only [spec_SamePolicy.l0]
              rw [if_neg (by omega)]
            · simp only [impl_Rule_74.l0]
              rw [if_neg (by omega)]
          · rintro i hi ⟨t, ⟨K1, g1⟩, ⟨K2, g2⟩⟩
            have hi2 : i < M.length := by omega
            have hb := hB L[i] (List.getElem_mem hi)
            obtain ⟨u, ⟨K3, g3⟩, ⟨K4, g4⟩⟩ := same_n L[i].f0 M[i].f0 hb.1
            dsimp only at g1 g2 g3 g4
            cases u with
            | false =>
              refine ⟨false, .succ (.succ ⟨K3 + 1, fun k hk => ?_⟩), .succ ⟨K4, fun k hk => ?_⟩⟩
              · simp only [spec_SamePolicy.l0]
                rw [if_pos (by omega), if_pos (by omega), if_pos (by omega), nrd_T91 L i hi, nrd_T91 M i hi2, g3 (k + 1) (by omega)]
                simp only [Option.bind_some, Bool.false_eq_true, if_false, spec_SamePolicy.j2, if_true]
              · simp only [impl_Rule_74.l0]
                rw [if_pos (by omega), if_pos (by omega), if_pos (by omega), if_pos (by omega), nrd_T91 L i hi, nrd_T91 M i hi2]
                simp only [impl_sameRule.f, g4 k (by omega), Option.bind_some, Bool.false_eq_true, if_false]
            | true =>
              by_cases hc : ((L[i].f1.length : Int) = (M[i].f1.length : Int))
              · obtain ⟨v, ⟨K5, g5⟩, hF, hT⟩ := same_c L[i].f1 M[i].f1 hb.2 hc (i : Int) a b c L a' b' c' M L[i].f0 L[i].f2 L[i].f3 M[i].f0 M[i].f2 M[i].f3
                dsimp only at g5
                by_cases e2 : L[i].f2 = M[i].f2
                · by_cases e3 : L[i].f3 = M[i].f3
                  · cases v with
                    | false =>
                      obtain ⟨K6, g6⟩ := hF rfl
                      dsimp only at g6
                      refine ⟨false, .succ (.succ ⟨K3 + K6, fun k hk => ?_⟩), .succ ⟨K4 + K5, fun k hk => ?_⟩⟩
                      · simp only [spec_SamePolicy.l0]
                        rw [if_pos (by omega), if_pos (by omega), if_pos (by omega), nrd_T91 L i hi, nrd_T91 M i hi2, g3 (k + 1) (by omega)]
                        simp only [Option.bind_some, if_true, if_pos e2, if_pos e3, spec_SamePolicy.j2]
                        rw [if_neg (by simp [hc])]
                        exact g6 k (by omega)
                      · simp only [impl_Rule_74.l0]
                        rw [if_pos (by omega), if_pos (by omega), if_pos (by omega), if_pos (by omega), nrd_T91 L i hi, nrd_T91 M i hi2]
                        simp only [impl_sameRule.f, g4 k (by omega), g5 k (by omega), Option.bind_some, Bool.false_eq_true, if_false, if_true]
                    | true =>
                      obtain ⟨K6, g6⟩ := hT rfl t (by rw [wsucc hi (by omega)]; exact ⟨K1, g1⟩)
                      dsimp only at g6
                      refine ⟨t, .succ (.succ ⟨K3 + K6, fun k hk => ?_⟩), .succ ⟨K2 + K4 + K5, fun k hk => ?_⟩⟩
                      · simp only [spec_SamePolicy.l0]
                        rw [if_pos (by omega), if_pos (by omega), if_pos (by omega), nrd_T91 L i hi, nrd_T91 M i hi2, g3 (k + 1) (by omega)]
                        simp only [Option.bind_some, if_true, if_pos e2, if_pos e3, spec_SamePolicy.j2]
                        rw [if_neg (by simp [hc])]
                        exact g6 k (by omega)
                      · simp only [impl_Rule_74.l0]
                        rw [if_pos (by omega), if_pos (by omega), if_pos (by omega), if_pos (by omega), nrd_T91 L i hi, nrd_T91 M i hi2]
                        simp only [impl_sameRule.f, g4 k (by omega), g5 k (by omega), Option.bind_some, if_true, if_pos e2]
                        rw [beq_iff_eq.2 e3, if_pos rfl, wsucc hi (by omega)]
                        exact g2 k (by omega)
                  · refine ⟨false, .succ (.succ ⟨K3, fun k hk => ?_⟩), .succ ⟨K4 + K5, fun k hk => ?_⟩⟩
                    · simp only [spec_SamePolicy.l0]
                      rw [if_pos (by omega), if_pos (by omega), if_pos (by omega), nrd_T91 L i hi, nrd_T91 M i hi2, g3 (k + 1) (by omega)]
                      simp only [Option.bind_some, if_true, if_pos e2, if_neg e3, spec_SamePolicy.j2]
                    · simp only [impl_Rule_74.l0]
                      rw [if_pos (by omega), if_pos (by omega), if_pos (by omega), if_pos (by omega), nrd_T91 L i hi, nrd_T91 M i hi2]
                      simp only [impl_sameRule.f, g4 k (by omega), g5 k (by omega), Option.bind_some, if_true, if_pos e2]
                      rw [beq_eq_false_iff_ne.2 e3]
                      cases v <;> rfl
                · refine ⟨false, .succ (.succ ⟨K3, fun k hk => ?_⟩), .succ ⟨K4 + K5, fun k hk => ?_⟩⟩
                  · simp only [spec_SamePolicy.l0]
                    rw [if_pos (by omega), if_pos (by omega), if_pos (by omega), nrd_T91 L i hi, nrd_T91 M i hi2, g3 (k + 1) (by omega)]
                    simp only [Option.bind_some, if_true, if_neg e2, spec_SamePolicy.j2]
                  · simp only [impl_Rule_74.l0]
                    rw [if_pos (by omega), if_pos (by omega), if_pos (by omega), if_pos (by omega), nrd_T91 L i hi, nrd_T91 M i hi2]
                    simp only [impl_sameRule.f, g4 k (by omega), g5 k (by omega), Option.bind_some, if_true, if_neg e2]
                    cases v <;> rfl
              · have hne : ((L[i].f1.length : Int) != (M[i].f1.length : Int)) = true := by simpa using hc
                refine ⟨false, .succ (.succ ⟨K3, fun k hk => ?_⟩), .succ ⟨K4, fun k hk => ?_⟩⟩
                · simp only [spec_SamePolicy.l0]
                  rw [if_pos (by omega), if_pos (by omega), if_pos (by omega), nrd_T91 L i hi, nrd_T91 M i hi2, g3 (k + 1) (by omega)]
                  simp only [Option.bind_some, if_true, hne, spec_SamePolicy.j2]
                  repeat' split
                  all_goals rfl
                · simp only [impl_Rule_74.l0]
                  rw [if_pos (by omega), if_pos (by omega), if_pos (by omega), if_pos (by omega), nrd_T91 L i hi, nrd_T91 M i hi2]
                  simp only [impl_sameRule.f, g4 k (by omega), impl_Cond.f, if_neg hc, Option.bind_some, if_true, Bool.false_eq_true, if_false]
        · have hne : ((L.length : Int) != (M.length : Int)) = true := by simpa using hl
          refine ⟨false, .succ (.const fun k => ?_), .const fun k => ?_⟩
          · simp only [spec_SamePolicy.f]
            rw [if_pos h1, if_pos h2, if_pos h3, hne]
            simp only [spec_SamePolicy.j0, if_true]
          · simp only [impl_SamePolicy.f, impl_Rule_74.f]
            rw [if_pos h1, if_pos h2, if_pos h3, if_neg hl]
            rfl
      · refine ⟨false, .succ (.const fun k => ?_), .const fun k => ?_⟩
        · simp only [spec_SamePolicy.f]
          rw [if_pos h1, if_pos h2, if_neg h3]
          simp only [spec_SamePolicy.j0, if_true]
        · simp only [impl_SamePolicy.f]
          rw [if_pos h1, if_pos h2, if_neg h3]
    · refine ⟨false, .succ (.const fun k => ?_), .const fun k => ?_⟩
      · simp only [spec_SamePolicy.f]
        rw [if_pos h1, if_neg h2]
        simp only [spec_SamePolicy.j0, if_true]
      · simp only [impl_SamePolicy.f]
        rw [if_pos h1, if_neg h2]
  · refine ⟨false, .succ (.const fun k => ?_), .const fun k => ?_⟩
    · simp only [spec_SamePolicy.f]
      rw [if_neg h1]
      simp only [spec_SamePolicy.j0, if_true]
    · simp only [impl_SamePolicy.f]
      rw [if_neg h1]
theorem main (a b c : Int) (l : List S136) (a' b' c' : Int) (l' : List S136) (hl : ((∀ u ∈ l, (((∀ u5 ∈ u.f0, (Lit.int .i64 u5).wf = true) ∧ u.f0.length ≤ maxLen) ∧ ((∀ u5 ∈ u.f1, ((Lit.int .i64 u5.f0).wf = true ∧ ((Lit.int .i64 u5.f1.f0).wf = true ∧ (Lit.int .i64 u5.f1.f1).wf = true) ∧ (Lit.int .i64 u5.f2).wf = true ∧ ((Lit.int .i64 u5.f3.f0).wf = true ∧ (Lit.int .i64 u5.f3.f1).wf = true))) ∧ u.f1.length ≤ maxLen) ∧ (Lit.int .i64 u.f2).wf = true ∧ (Lit.int .i64 u.f3).wf = true)) ∧ l.length ≤ maxLen)) (hl' : ((∀ u ∈ l', (((∀ u5 ∈ u.f0, (Lit.int .i64 u5).wf = true) ∧ u.f0.length ≤ maxLen) ∧ ((∀ u5 ∈ u.f1, ((Lit.int .i64 u5.f0).wf = true ∧ ((Lit.int .i64 u5.f1.f0).wf = true ∧ (Lit.int .i64 u5.f1.f1).wf = true) ∧ (Lit.int .i64 u5.f2).wf = true ∧ ((Lit.int .i64 u5.f3.f0).wf = true ∧ (Lit.int .i64 u5.f3.f1).wf = true))) ∧ u.f1.length ≤ maxLen) ∧ (Lit.int .i64 u.f2).wf = true ∧ (Lit.int .i64 u.f3).wf = true)) ∧ l'.length ≤ maxLen)) : ∃ k, laws_FnExactSamePolicy.f k a b c l a' b' c' l' = some true := by
  obtain ⟨s, hs, hB, K1, h1⟩ := Elaws_szPolicy a b c l 1048576 (by omega) (by omega) hl
  dsimp only at h1
  by_cases hn : s < 0
  · exact ⟨K1, by simp only [laws_FnExactSamePolicy.f, h1 K1 (Nat.le_refl _), Option.bind_some, if_pos hn]⟩
  obtain ⟨s', hs', hB', K2, h2⟩ := Elaws_szPolicy a' b' c' l' s (by omega) (by omega) hl'
  dsimp only at h2
  by_cases hn' : s' < 0
  · exact ⟨K1 + K2, by simp only [laws_FnExactSamePolicy.f, h1 (K1 + K2) (by omega), h2 (K1 + K2) (by omega), Option.bind_some, if_neg hn, if_pos hn']⟩
  have big : ∀ (m : List S136), (m.length ≤ 1048576 ∧ ∀ v4 ∈ m, (v4.f0.length ≤ 1048576 ∧ v4.f1.length ≤ 1048576)) → (m.map conv136).length ≤ 1048576 ∧ ∀ y ∈ m.map conv136, y.f0.length ≤ 4611686018427387904 ∧ y.f1.length ≤ 4611686018427387904 := fun m hm => by
    refine ⟨by rw [List.length_map]; exact hm.1, ?_⟩
    simp only [List.mem_map]
    rintro y ⟨z, hz, rfl⟩
    have := hm.2 z hz
    simp only [conv136, List.length_map]
    omega
  have bl := hB (by omega)
  have bl' := hB' (by omega)
  obtain ⟨n1, n2⟩ := big l bl
  obtain ⟨n1', n2'⟩ := big l' bl'
  obtain ⟨K3, h3⟩ := Elaws_toPolicy a b c l bl
  obtain ⟨K4, h4⟩ := Elaws_toPolicy a' b' c' l' bl'
  obtain ⟨t, ⟨K5, h5⟩, ⟨K6, h6⟩⟩ := samePolicy a b c (l.map conv136) a' b' c' (l'.map conv136) (by omega) n2
  obtain ⟨K7, h7⟩ := Elaws_eqPolicy a b c (l.map conv136) ⟨by omega, n2⟩
  obtain ⟨K8, h8⟩ := Elaws_eqPolicy a' b' c' (l'.map conv136) ⟨by omega, n2'⟩
  dsimp only at h3 h4 h5 h6 h7 h8
  obtain ⟨K, hK⟩ : ∃ K, K = K1 + K2 + K3 + K4 + K5 + K6 + K7 + K8 := ⟨_, rfl⟩
  refine ⟨K, ?_⟩
  simp only [laws_FnExactSamePolicy.f, h1 K (by omega), h2 K (by omega), h3 K (by omega), h4 K (by omega), h5 K (by omega), h6 K (by omega), h7 K (by omega), h8 K (by omega), Option.bind_some, if_neg hn, if_neg hn', if_true, bne_self_eq_false, Bool.false_eq_true, if_false]
end Go.Proofs.Ytcmcpmkihpdnjaa.PFnExactSamePolicy
