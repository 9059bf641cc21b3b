/- The pure law of FnExactTreeLines: what the functions of the program and of the reference come to is the same, for all arguments that the law is asked of whose bulk is at most 1048576. No conditions. -/
import Derived.Test.YtcmcpmkihpdnjaaPFnExactTreeLinesy16
import Derived.Test.YtcmcpmkihpdnjaaVEV
set_option linter.unusedSimpArgs false
set_option linter.unusedVariables false
namespace Go.Proofs.Ytcmcpmkihpdnjaa.PFnExactTreeLines
open Go Go.RowKit Go.Proofs.YtcmcpmkihpdnjaaW.PrintWords Go.Proofs.YtcmcpmkihpdnjaaW.PrintLast Go.Proofs.YtcmcpmkihpdnjaaW.PK
theorem Elaws_szIntS (l : List (Int)) (q : Int) (hq : 0 ≤ q) (hq' : q ≤ 1048576) (hm : l.length ≤ maxLen) : ∃ s : Int, s ≤ q ∧ (0 ≤ s → l.length ≤ 1048576) ∧ Evt (fun k => laws_szIntS.f l q) s := by
  unfold maxLen at hm
  have e : wrap64 (q - (l.length : Int)) = q - l.length := w64 (by omega) (by omega)
  by_cases hn : q - (l.length : Int) < 0
  · exact ⟨-1, by omega, fun h => by omega, .const fun k => by simp only [laws_szIntS.f, e, if_pos hn]⟩
  · exact ⟨q - l.length, by omega, fun h => by omega, .const fun k => by simp only [laws_szIntS.f, e, if_neg hn]⟩
theorem Elaws_szCondS (l : List (S178)) (q : Int) (hq : 0 ≤ q) (hq' : q ≤ 1048576) (hm : l.length ≤ maxLen) : ∃ s : Int, s ≤ q ∧ (0 ≤ s → l.length ≤ 1048576) ∧ Evt (fun k => laws_szCondS.f l q) s := by
  unfold maxLen at hm
  have e : wrap64 (q - (l.length : Int)) = q - l.length := w64 (by omega) (by omega)
  by_cases hn : q - (l.length : Int) < 0
  · exact ⟨-1, by omega, fun h => by omega, .const fun k => by simp only [laws_szCondS.f, e, if_pos hn]⟩
  · exact ⟨q - l.length, by omega, fun h => by omega, .const fun k => by simp only [laws_szCondS.f, e, if_neg hn]⟩
theorem Elaws_szRule (l0_0 : List Int) (l0_1 : List (S178)) (a0_2 : Int) (a0_3 : Int) (q : Int) (hq : 0 ≤ q) (hq' : q ≤ 1048576) (hl0_0 : ((∀ u4 ∈ l0_0, (Lit.int .i64 u4).wf = true) ∧ l0_0.length ≤ maxLen)) (hl0_1 : ((∀ u4 ∈ l0_1, ((Lit.int .i64 u4.f0).wf = true ∧ ((Lit.int .i64 u4.f1.f0).wf = true ∧ (Lit.int .i64 u4.f1.f1).wf = true) ∧ (Lit.int .i64 u4.f2).wf = true ∧ ((Lit.int .i64 u4.f3.f0).wf = true ∧ (Lit.int .i64 u4.f3.f1).wf = true))) ∧ l0_1.length ≤ maxLen)) : ∃ s : Int, s ≤ q ∧ (0 ≤ s → (l0_0.length ≤ 1048576 ∧ l0_1.length ≤ 1048576)) ∧ Evt (fun k => laws_szRule.f l0_0 l0_1 a0_2 a0_3 q) s := by
  obtain ⟨s0, hs0, hB0, K0, e0⟩ := Elaws_szIntS l0_0 (q) (by omega) (by omega) hl0_0.2
  by_cases n0 : s0 < 0
  · exact ⟨-1, by omega, fun h => by omega, 0 + K0, fun k hk => by simp only [laws_szRule.f, e0 k (by omega), Option.bind_some, if_pos n0]⟩
  obtain ⟨s1, hs1, hB1, K1, e1⟩ := Elaws_szCondS l0_1 (s0) (by omega) (by omega) hl0_1.2
  by_cases n1 : s1 < 0
  · exact ⟨-1, by omega, fun h => by omega, 0 + K0 + K1, fun k hk => by simp only [laws_szRule.f, e0 k (by omega), e1 k (by omega), Option.bind_some, if_neg n0, if_pos n1]⟩
  exact ⟨s1, by omega, fun h => ⟨hB0 (by omega), hB1 (by omega)⟩, 0 + K0 + K1, fun k hk => by simp only [laws_szRule.f, e0 k (by omega), e1 k (by omega), Option.bind_some, if_neg n0, if_neg n1]⟩
theorem nrd_T136 (l : List (S136)) (i : Nat) (h : i < l.length) : rd_T136 l (i : Int) = l[i] := getD_lt _ h
theorem Elaws_szRuleS (l : List (S136)) (q : Int) (hq : 0 ≤ q) (hq' : q ≤ 1048576) (hm : l.length ≤ maxLen) (hw : ∀ x ∈ l, (((∀ u4 ∈ x.f0, (Lit.int .i64 u4).wf = true) ∧ x.f0.length ≤ maxLen) ∧ ((∀ u4 ∈ x.f1, ((Lit.int .i64 u4.f0).wf = true ∧ ((Lit.int .i64 u4.f1.f0).wf = true ∧ (Lit.int .i64 u4.f1.f1).wf = true) ∧ (Lit.int .i64 u4.f2).wf = true ∧ ((Lit.int .i64 u4.f3.f0).wf = true ∧ (Lit.int .i64 u4.f3.f1).wf = true))) ∧ x.f1.length ≤ maxLen) ∧ (Lit.int .i64 x.f2).wf = true ∧ (Lit.int .i64 x.f3).wf = true)) : ∃ s : Int, s ≤ q ∧ (0 ≤ s → l.length ≤ 1048576 ∧ ∀ y ∈ l, (y.f0.length ≤ 1048576 ∧ y.f1.length ≤ 1048576)) ∧ Evt (fun k => laws_szRuleS.f k l q) s := by
  unfold maxLen at hm
  have e : wrap64 (q - (l.length : Int)) = q - l.length := w64 (by omega) (by omega)
  by_cases hn : q - (l.length : Int) < 0
  · exact ⟨-1, by omega, fun h => by omega, .const fun k => by simp only [laws_szRuleS.f, e, if_pos hn]⟩
  · have H := Evt.sz (F := fun k q i => laws_szRuleS.l0 k l q i) (n := l.length) (P := fun i => ∀ h : i < l.length, (l[i].f0.length ≤ 1048576 ∧ l[i].f1.length ≤ 1048576)) ?_ ?_ (q - l.length) (by omega) (by omega)
    · obtain ⟨s, hs, hP, hE⟩ := H
      refine ⟨s, by omega, fun h => ⟨by omega, fun y hy => ?_⟩, hE.congr fun k => ?_⟩
      · obtain ⟨i, hi, rfl⟩ := List.mem_iff_getElem.1 hy
        exact hP h i hi hi
      · simp only [laws_szRuleS.f, e, if_neg hn]
    · intro k q
      simp only [laws_szRuleS.l0]
      rw [if_neg (by omega)]
    · intro i hi q hq hq'
      obtain ⟨s, hs, hP, K, hK⟩ := Elaws_szRule l[i].f0 l[i].f1 l[i].f2 l[i].f3 q hq hq' ((hw _ (List.getElem_mem hi)).1) ((hw _ (List.getElem_mem hi)).2.1)
      dsimp only at hK
      refine ⟨s, hs, fun h _ => hP h, K, fun k hk => ?_⟩
      simp only [laws_szRuleS.l0]
      rw [if_pos (by omega), if_pos (by omega), nrd_T136 l i hi, hK k hk, wsucc hi (by omega)]
      all_goals rfl
theorem Elaws_szPolicy (a0_0 : Int) (a0_1 : Int) (a0_2 : Int) (l0_3 : List (S136)) (q : Int) (hq : 0 ≤ q) (hq' : q ≤ 1048576) (hl0_3 : ((∀ u4 ∈ l0_3, (((∀ u5 ∈ u4.f0, (Lit.int .i64 u5).wf = true) ∧ u4.f0.length ≤ maxLen) ∧ ((∀ u5 ∈ u4.f1, ((Lit.int .i64 u5.f0).wf = true ∧ ((Lit.int .i64 u5.f1.f0).wf = true ∧ (Lit.int .i64 u5.f1.f1).wf = true) ∧ (Lit.int .i64 u5.f2).wf = true ∧ ((Lit.int .i64 u5.f3.f0).wf = true ∧ (Lit.int .i64 u5.f3.f1).wf = true))) ∧ u4.f1.length ≤ maxLen) ∧ (Lit.int .i64 u4.f2).wf = true ∧ (Lit.int .i64 u4.f3).wf = true)) ∧ l0_3.length ≤ maxLen)) : ∃ s : Int, s ≤ q ∧ (0 ≤ s → (l0_3.length ≤ 1048576 ∧ ∀ v4 ∈ l0_3, (v4.f0.length ≤ 1048576 ∧ v4.f1.length ≤ 1048576))) ∧ Evt (fun k => laws_szPolicy.f k a0_0 a0_1 a0_2 l0_3 q) s := by
  obtain ⟨s0, hs0, hB0, K0, e0⟩ := Elaws_szRuleS l0_3 (q) (by omega) (by omega) hl0_3.2 hl0_3.1
  by_cases n0 : s0 < 0
  · exact ⟨-1, by omega, fun h => by omega, 0 + K0, fun k hk => by simp only [laws_szPolicy.f, e0 k (by omega), Option.bind_some, if_pos n0]⟩
  exact ⟨s0, by omega, fun h => hB0 (by omega), 0 + K0, fun k hk => by simp only [laws_szPolicy.f, e0 k (by omega), Option.bind_some, if_neg n0]⟩
theorem nrd (l : List (Int)) (i : Nat) (h : i < l.length) : rd l (i : Int) = l[i] := getD_lt _ h
theorem Elaws_toIntS (l : List (Int)) (hn : l.length ≤ 1048576) : Evt (fun k => laws_toIntS.f k l) (l.map (fun y => y)) := by
  have h := Evt.to (F := fun k y i => laws_toIntS.l0 k l y i) (x := l) (conv := (fun y => y)) ?_ ?_ (List.replicate l.length 0) (by simp)
  · refine h.congr fun k => ?_
    unfold laws_toIntS.f
    rw [if_pos (by omega), if_pos (by omega), Int.toNat_natCast]
  · intro k y
    simp only [laws_toIntS.l0]
    rw [if_neg (by omega)]
  · intro i hi
    have K : Nat := 0
    refine ⟨0, fun k hk y hy => ?_⟩
    simp only [laws_toIntS.l0]
    rw [if_pos (by omega), if_pos (by omega), nrd l i hi]
    rw [if_pos (by omega), wsucc hi (by omega), Int.toNat_natCast]
    all_goals rfl
theorem Elaws_toWide (a0_0 : Int) (a0_1 : Int) : Evt (fun k => laws_toWide.f a0_0 a0_1) (a0_0, a0_1) := by
  exact .const fun k => rfl
theorem Elaws_toCond (a0_0 : Int) (a0_1 : Int) (a0_2 : Int) (a0_3 : Int) (a0_4 : Int) (a0_5 : Int) : Evt (fun k => laws_toCond.f a0_0 a0_1 a0_2 a0_3 a0_4 a0_5) (a0_0, a0_1, a0_2, a0_3, a0_4, a0_5) := by
  exact .const fun k => rfl
def conv176 (a : S176) : S93 := ⟨a.f0, a.f1⟩
def conv178 (a : S178) : S95 := ⟨a.f0, (conv176 a.f1), a.f2, (conv176 a.f3)⟩
theorem nrd_T178 (l : List (S178)) (i : Nat) (h : i < l.length) : rd_T178 l (i : Int) = l[i] := getD_lt _ h
theorem Elaws_toCondS (l : List (S178)) (hn : l.length ≤ 1048576) : Evt (fun k => laws_toCondS.f k l) (l.map conv178) := by
  have h := Evt.to (F := fun k y i => laws_toCondS.l0 k l y i) (x := l) (conv := conv178) ?_ ?_ (List.replicate l.length z95) (by simp)
  · refine h.congr fun k => ?_
    unfold laws_toCondS.f
    rw [if_pos (by omega), if_pos (by omega), Int.toNat_natCast]
  · intro k y
    simp only [laws_toCondS.l0]
    rw [if_neg (by omega)]
  · intro i hi
    obtain ⟨K, hK⟩ := Elaws_toCond l[i].f0 l[i].f1.f0 l[i].f1.f1 l[i].f2 l[i].f3.f0 l[i].f3.f1
    dsimp only at hK
    refine ⟨K, fun k hk y hy => ?_⟩
    simp only [laws_toCondS.l0]
    rw [if_pos (by omega), if_pos (by omega), nrd_T178 l i hi, hK k hk]
    simp only [Option.bind_some]
    rw [if_pos (by omega), wsucc hi (by omega), Int.toNat_natCast]
    all_goals rfl
theorem Elaws_toRule (l0_0 : List Int) (l0_1 : List (S178)) (a0_2 : Int) (a0_3 : Int) (hl0_0 : l0_0.length ≤ 1048576) (hl0_1 : l0_1.length ≤ 1048576) : Evt (fun k => laws_toRule.f k l0_0 l0_1 a0_2 a0_3) ((l0_0.map (fun y => y)), (l0_1.map conv178), a0_2, a0_3) := by
  obtain ⟨K0, h0⟩ := Elaws_toIntS l0_0 hl0_0
  obtain ⟨K1, h1⟩ := Elaws_toCondS l0_1 hl0_1
  refine ⟨K0 + K1, fun k hk => ?_⟩
  simp only [laws_toRule.f, h0 k (by omega), h1 k (by omega), Option.bind_some]
  all_goals rfl
def conv136 (a : S136) : S91 := ⟨(a.f0.map (fun y => y)), (a.f1.map conv178), a.f2, a.f3⟩
theorem Elaws_toRuleS (l : List (S136)) (hn : l.length ≤ 1048576) (hB : ∀ y ∈ l, (y.f0.length ≤ 1048576 ∧ y.f1.length ≤ 1048576)) : Evt (fun k => laws_toRuleS.f k l) (l.map conv136) := by
  have h := Evt.to (F := fun k y i => laws_toRuleS.l0 k l y i) (x := l) (conv := conv136) ?_ ?_ (List.replicate l.length z91) (by simp)
  · refine h.congr fun k => ?_
    unfold laws_toRuleS.f
    rw [if_pos (by omega), if_pos (by omega), Int.toNat_natCast]
  · intro k y
    simp only [laws_toRuleS.l0]
    rw [if_neg (by omega)]
  · intro i hi
    obtain ⟨K, hK⟩ := Elaws_toRule l[i].f0 l[i].f1 l[i].f2 l[i].f3 ((hB _ (List.getElem_mem hi)).1) ((hB _ (List.getElem_mem hi)).2)
    dsimp only at hK
    refine ⟨K, fun k hk y hy => ?_⟩
    simp only [laws_toRuleS.l0]
    rw [if_pos (by omega), if_pos (by omega), nrd_T136 l i hi, hK k hk]
    simp only [Option.bind_some]
    rw [if_pos (by omega), wsucc hi (by omega), Int.toNat_natCast]
    all_goals rfl
theorem Elaws_toPolicy (a0_0 : Int) (a0_1 : Int) (a0_2 : Int) (l0_3 : List (S136)) (hl0_3 : (l0_3.length ≤ 1048576 ∧ ∀ v4 ∈ l0_3, (v4.f0.length ≤ 1048576 ∧ v4.f1.length ≤ 1048576))) : Evt (fun k => laws_toPolicy.f k a0_0 a0_1 a0_2 l0_3) (a0_0, a0_1, a0_2, (l0_3.map conv136)) := by
  obtain ⟨K0, h0⟩ := Elaws_toRuleS l0_3 hl0_3.1 hl0_3.2
  refine ⟨K0, fun k hk => ?_⟩
  simp only [laws_toPolicy.f, h0 k (by omega), Option.bind_some]
  all_goals rfl
theorem Elaws_eqIntS (l : List (Int)) (hn : l.length ≤ 4611686018427387904) : Evt (fun k => laws_eqIntS.f k l l) true := by
  have h := Evt.pass (F := fun k i => laws_eqIntS.l0 k l l i) (n := l.length) (r := true) ?_ ?_
  · refine h.congr fun k => ?_
    unfold laws_eqIntS.f
    rw [if_pos rfl]
  · refine .const fun k => ?_
    simp only [laws_eqIntS.l0]
    rw [if_neg (by omega)]
  · intro i hi
    refine ⟨0, fun k hk => ?_⟩
    simp only [laws_eqIntS.l0]
    rw [if_pos (by omega), if_pos (by omega), if_pos (by omega)]
    simp only [if_true]
    rw [wsucc hi (by omega)]
theorem Elaws_eqWide (a0_0 : Int) (a0_1 : Int) : Evt (fun k => laws_eqWide.f a0_0 a0_1 a0_0 a0_1) true := by
  refine ⟨0, fun k hk => ?_⟩
  simp only [laws_eqWide.f, Option.bind_some, if_true]
theorem Elaws_eqCond (a0_0 : Int) (a0_1 : Int) (a0_2 : Int) (a0_3 : Int) (a0_4 : Int) (a0_5 : Int) : Evt (fun k => laws_eqCond.f a0_0 a0_1 a0_2 a0_3 a0_4 a0_5 a0_0 a0_1 a0_2 a0_3 a0_4 a0_5) true := by
  refine ⟨0, fun k hk => ?_⟩
  simp only [laws_eqCond.f, laws_eqWide.f, Option.bind_some, if_true]
theorem nrd_T95 (l : List (S95)) (i : Nat) (h : i < l.length) : rd_T95 l (i : Int) = l[i] := getD_lt _ h
theorem Elaws_eqCondS (l : List (S95)) (hn : l.length ≤ 4611686018427387904) : Evt (fun k => laws_eqCondS.f k l l) true := by
  have h := Evt.pass (F := fun k i => laws_eqCondS.l0 k l l i) (n := l.length) (r := true) ?_ ?_
  · refine h.congr fun k => ?_
    unfold laws_eqCondS.f
    rw [if_pos rfl]
  · refine .const fun k => ?_
    simp only [laws_eqCondS.l0]
    rw [if_neg (by omega)]
  · intro i hi
    obtain ⟨K, hK⟩ := Elaws_eqCond l[i].f0 l[i].f1.f0 l[i].f1.f1 l[i].f2 l[i].f3.f0 l[i].f3.f1
    dsimp only at hK
    refine ⟨K, fun k hk => ?_⟩
    simp only [laws_eqCondS.l0]
    rw [if_pos (by omega), if_pos (by omega), if_pos (by omega), nrd_T95 l i hi, hK k hk]
    simp only [Option.bind_some, if_true]
    rw [wsucc hi (by omega)]
theorem Elaws_eqRule (l0_0 : List Int) (l0_1 : List (S95)) (a0_2 : Int) (a0_3 : Int) (hl0_0 : l0_0.length ≤ 4611686018427387904) (hl0_1 : l0_1.length ≤ 4611686018427387904) : Evt (fun k => laws_eqRule.f k l0_0 l0_1 a0_2 a0_3 l0_0 l0_1 a0_2 a0_3) true := by
  obtain ⟨K0, h0⟩ := Elaws_eqIntS l0_0 hl0_0
  obtain ⟨K1, h1⟩ := Elaws_eqCondS l0_1 hl0_1
  refine ⟨K0 + K1, fun k hk => ?_⟩
  simp only [laws_eqRule.f, h0 k (by omega), h1 k (by omega), Option.bind_some, if_true]
theorem nrd_T91 (l : List (S91)) (i : Nat) (h : i < l.length) : rd_T91 l (i : Int) = l[i] := getD_lt _ h
theorem Elaws_eqRuleS (l : List (S91)) (hn : l.length ≤ 4611686018427387904) (hB : ∀ y ∈ l, (y.f0.length ≤ 4611686018427387904 ∧ y.f1.length ≤ 4611686018427387904)) : Evt (fun k => laws_eqRuleS.f k l l) true := by
  have h := Evt.pass (F := fun k i => laws_eqRuleS.l0 k l l i) (n := l.length) (r := true) ?_ ?_
  · refine h.congr fun k => ?_
    unfold laws_eqRuleS.f
    rw [if_pos rfl]
  · refine .const fun k => ?_
    simp only [laws_eqRuleS.l0]
    rw [if_neg (by omega)]
  · intro i hi
    obtain ⟨K, hK⟩ := Elaws_eqRule l[i].f0 l[i].f1 l[i].f2 l[i].f3 ((hB _ (List.getElem_mem hi)).1) ((hB _ (List.getElem_mem hi)).2)
    dsimp only at hK
    refine ⟨K, fun k hk => ?_⟩
    simp only [laws_eqRuleS.l0]
    rw [if_pos (by omega), if_pos (by omega), if_pos (by omega), nrd_T91 l i hi, hK k hk]
    simp only [Option.bind_some, if_true]
    rw [wsucc hi (by omega)]
theorem Elaws_eqPolicy (a0_0 : Int) (a0_1 : Int) (a0_2 : Int) (l0_3 : List (S91)) (hl0_3 : (l0_3.length ≤ 4611686018427387904 ∧ ∀ v4 ∈ l0_3, (v4.f0.length ≤ 4611686018427387904 ∧ v4.f1.length ≤ 4611686018427387904))) : Evt (fun k => laws_eqPolicy.f k a0_0 a0_1 a0_2 l0_3 a0_0 a0_1 a0_2 l0_3) true := by
  obtain ⟨K0, h0⟩ := Elaws_eqRuleS l0_3 hl0_3.1 hl0_3.2
  refine ⟨K0, fun k hk => ?_⟩
  simp only [laws_eqPolicy.f, h0 k (by omega), Option.bind_some, if_true]
theorem Elaws_eqIns (a0_0 : Int) (a0_1 : Int) (a0_2 : Int) (a0_3 : Int) : Evt (fun k => laws_eqIns.f a0_0 a0_1 a0_2 a0_3 a0_0 a0_1 a0_2 a0_3) true := by
  refine ⟨0, fun k hk => ?_⟩
  simp only [laws_eqIns.f, Option.bind_some, if_true]
theorem Elaws_eqLine (a0_0 : ByteArray) (a0_1 : Int) (a0_2 : Int) (a0_3 : Int) (a0_4 : Int) (a0_5 : ByteArray) (a0_6 : ByteArray) : Evt (fun k => laws_eqLine.f a0_0 a0_1 a0_2 a0_3 a0_4 a0_5 a0_6 a0_0 a0_1 a0_2 a0_3 a0_4 a0_5 a0_6) true := by
  refine ⟨0, fun k hk => ?_⟩
  simp only [laws_eqLine.f, laws_eqIns.f, Option.bind_some, if_true]
theorem nrd_T110 (l : List (S110)) (i : Nat) (h : i < l.length) : rd_T110 l (i : Int) = l[i] := getD_lt _ h
theorem Elaws_eqLineS (l : List (S110)) (hn : l.length ≤ 4611686018427387904) : Evt (fun k => laws_eqLineS.f k l l) true := by
  have h := Evt.pass (F := fun k i => laws_eqLineS.l0 k l l i) (n := l.length) (r := true) ?_ ?_
  · refine h.congr fun k => ?_
    unfold laws_eqLineS.f
    rw [if_pos rfl]
  · refine .const fun k => ?_
    simp only [laws_eqLineS.l0]
    rw [if_neg (by omega)]
  · intro i hi
    obtain ⟨K, hK⟩ := Elaws_eqLine l[i].f0 l[i].f1.f0 l[i].f1.f1 l[i].f1.f2 l[i].f1.f3 l[i].f2 l[i].f3
    dsimp only at hK
    refine ⟨K, fun k hk => ?_⟩
    simp only [laws_eqLineS.l0]
    rw [if_pos (by omega), if_pos (by omega), if_pos (by omega), nrd_T110 l i hi, hK k hk]
    simp only [Option.bind_some, if_true]
    rw [wsucc hi (by omega)]
theorem inS (a b c : Int) : spec_l01In.f a b c = some (decide (b ≤ a ∧ a ≤ c)) := by
  unfold spec_l01In.f
  by_cases h : a ≥ b
  · rw [if_pos h]
    exact congrArg some (by rw [Bool.eq_iff_iff]; simp; omega)
  · rw [if_neg h]
    exact congrArg some (by rw [Bool.eq_iff_iff]; simp; omega)
theorem inI (a b c : Int) : impl_within.f a b c = some (decide (b ≤ a ∧ a ≤ c)) := inS a b c
theorem halfS (a : Int) : spec_HalfOk.f a = some (decide (0 ≤ a ∧ a ≤ 4294967295)) := by
  unfold spec_HalfOk.f
  rw [inS]
  rfl
theorem halfI (a : Int) : impl_HalfOk.f a = some (decide (0 ≤ a ∧ a ≤ 4294967295)) := halfS a
theorem wideS (a b : Int) : spec_WideOk.f a b = some (decide ((0 ≤ a ∧ a ≤ 4294967295) ∧ (0 ≤ b ∧ b ≤ 4294967295))) := by
  unfold spec_WideOk.f
  simp only [halfS, Option.bind_some, decide_eq_true_eq]
  split
  · rename_i h
    exact congrArg some (by rw [Bool.eq_iff_iff]; simp [h])
  · rename_i h
    exact congrArg some (by rw [Bool.eq_iff_iff]; simp [h])
theorem wideI (a b : Int) : impl_WideOk.f a b = some (decide ((0 ≤ a ∧ a ≤ 4294967295) ∧ (0 ≤ b ∧ b ≤ 4294967295))) := wideS a b
theorem condS (a b c d e f : Int) : spec_CondOk.f a b c d e f = some (decide ((0 ≤ a ∧ a ≤ 2) ∧ ((0 ≤ b ∧ b ≤ 4294967295) ∧ (0 ≤ c ∧ c ≤ 4294967295)) ∧ ((0 ≤ e ∧ e ≤ 4294967295) ∧ (0 ≤ f ∧ f ≤ 4294967295)) ∧ 1 ≤ d ∧ d ≤ 6)) := by
  unfold spec_CondOk.f
  simp only [inS, wideS, Option.bind_some, decide_eq_true_eq]
  repeat' split
  all_goals (refine congrArg some ?_; rw [Bool.eq_iff_iff]; simp only [Bool.false_eq_true, decide_eq_true_eq, false_iff])
  all_goals omega
theorem condI (a b c d e f : Int) : impl_CondOk.f a b c d e f = some (decide ((0 ≤ a ∧ a ≤ 2) ∧ ((0 ≤ b ∧ b ≤ 4294967295) ∧ (0 ≤ c ∧ c ≤ 4294967295)) ∧ ((0 ≤ e ∧ e ≤ 4294967295) ∧ (0 ≤ f ∧ f ≤ 4294967295)) ∧ 1 ≤ d ∧ d ≤ 6)) := condS a b c d e f
/-- A mark as a text: it is told for each number. -/
theorem markText_l0 : ∀ (m : Nat) (q : Int) (s : ByteArray), q ≤ m → m + s.size ≤ 9223372036854775000 → Tot (fun k => laws_markText.l0 k q s) := by
  intro m
  induction m with
  | zero =>
    intro q s h1 h2
    refine .succ (.const (v := (⟨#[109]⟩ : ByteArray) ++ s) fun k => ?_)
    simp only [laws_markText.l0]
    rw [if_neg (by omega), if_pos (by omega)]
  | succ m ih =>
    intro q s h1 h2
    by_cases hq : q > 0
    · have ed : q.tdiv 10 = q / 10 := Int.tdiv_eq_ediv_of_nonneg (by omega)
      have h10 : q.tdiv 10 ≤ m := by omega
      have e10 : wrap64 (q.tdiv 10) = q.tdiv 10 := w64 (by omega) (by omega)
      have e1 : (strOfNums [(wrap64 (48 + (Int.tmod q 10))) % 256]).size = 1 := rfl
      obtain ⟨v, K, h⟩ := ih (q.tdiv 10) (strOfNums [(wrap64 (48 + (Int.tmod q 10))) % 256] ++ s) h10 (by rw [ByteArray.size_append, e1]; omega)
      refine ⟨v, .succ ⟨K, fun k hk => ?_⟩⟩
      simp only [laws_markText.l0]
      rw [if_pos hq]
      simp only [Option.bind_some]
      rw [if_pos (by rw [e1]; omega), e10]
      exact h k hk
    · refine .succ (.const (v := (⟨#[109]⟩ : ByteArray) ++ s) fun k => ?_)
      simp only [laws_markText.l0]
      rw [if_neg hq, if_pos (by omega)]
theorem markText (q : Int) (hq : q ≤ 4611686018427387904) : ∃ v, Evt (fun k => laws_markText.f k q) v := by
  by_cases h : q ≤ 0
  · exact ⟨_, .const fun k => by simp only [laws_markText.f]; rw [if_pos h]⟩
  · obtain ⟨v, K, hv⟩ := markText_l0 q.toNat q ⟨#[]⟩ (by omega) (by show _ + 0 ≤ _; omega)
    exact ⟨v, K, fun k hk => by simp only [laws_markText.f]; rw [if_neg h]; exact hv k hk⟩
/-- Lines marked from an index on hold the marks. -/
theorem markLine_l0 : ∀ (d i : Nat) (x : List S110) (q : Int), i + d = x.length → 0 ≤ q → q + 7 * d ≤ 2305843009213693952 → x.length ≤ 4611686018427387904 → ∃ y, Evt (fun k => laws_markLineS.l0 k x q (i : Int)) (q + 7 * d, y) ∧ Evt (fun k => laws_heldLineS.l0 k y q (i : Int)) (q + 7 * d) ∧ y.length = x.length ∧ (∀ j, j < i → y[j]? = x[j]?)
  | 0, i, x, q, hi, hq, hb, hl => by
    refine ⟨x, .succ (.const fun k => ?_), .succ (.const fun k => ?_), rfl, fun _ _ => rfl⟩
    · simp only [laws_markLineS.l0]
      rw [if_neg (by omega)]
      simp
    · simp only [laws_heldLineS.l0]
      rw [if_neg (by omega)]
      simp
  | d + 1, i, x, q, hi, hq, hb, hl => by
    have hlt : i < x.length := by omega
    obtain ⟨t0, K0, m0⟩ := markText q (by omega)
    obtain ⟨t5, K5, m5⟩ := markText (q + 5) (by omega)
    obtain ⟨t6, K6, m6⟩ := markText (q + 6) (by omega)
    dsimp only at m0 m5 m6
    obtain ⟨y, ⟨K1, h1⟩, ⟨K2, h2⟩, hyl, hy⟩ := markLine_l0 d (i + 1) (x.set i ⟨t0, ⟨q + 1, q + 2, q + 3, q + 4⟩, t5, t6⟩) (q + 7) (by rw [List.length_set]; omega) (by omega) (by omega) (by rw [List.length_set]; exact hl)
    rw [List.length_set] at hyl
    dsimp only at h1 h2
    have w1 : wrap64 (q + 1) = q + 1 := w64 (by omega) (by omega)
    have w2 : wrap64 (q + 2) = q + 2 := w64 (by omega) (by omega)
    have w3 : wrap64 (q + 3) = q + 3 := w64 (by omega) (by omega)
    have w4 : wrap64 (q + 4) = q + 4 := w64 (by omega) (by omega)
    have w5 : wrap64 (q + 5) = q + 5 := w64 (by omega) (by omega)
    have w6 : wrap64 (q + 6) = q + 6 := w64 (by omega) (by omega)
    have w7 : wrap64 (q + 7) = q + 7 := w64 (by omega) (by omega)
    have hyi : y[i]? = some ⟨t0, ⟨q + 1, q + 2, q + 3, q + 4⟩, t5, t6⟩ := by rw [hy i (by omega), List.getElem?_set_self hlt]
    have hlt' : i < y.length := by omega
    have hyg : y[i] = ⟨t0, ⟨q + 1, q + 2, q + 3, q + 4⟩, t5, t6⟩ := by
      rw [List.getElem?_eq_getElem hlt'] at hyi
      exact Option.some.inj hyi
    refine ⟨y, .succ ⟨K0 + K5 + K6 + K1, fun k hk => ?_⟩, .succ ⟨K0 + K5 + K6 + K2, fun k hk => ?_⟩, hyl, fun j hj => ?_⟩
    · have rs : ∀ v, rd_T110 (x.set i v) (i : Int) = v := fun v => by rw [nrd_T110 _ i (by rw [List.length_set]; exact hlt), List.getElem_set_self]
      simp only [laws_markLineS.l0]
      rw [if_pos (by omega), m0 k (by omega)]
      simp only [Option.bind_some]
      rw [if_pos (by omega)]
      simp only [Option.bind_some, Int.toNat_natCast, nrd_T110 _ i hlt, rs, List.set_set, w1, w2, w3, w4, w5, w6, w7, Int.add_assoc, Int.reduceAdd, m5 k (by omega), m6 k (by omega)]
      rw [wsucc hlt (by omega), h1 k (by omega)]
      refine congrArg some (Prod.ext ?_ rfl)
      show q + 7 + 7 * (d : Int) = q + 7 * ((d + 1 : Nat) : Int)
      omega
    · simp only [laws_heldLineS.l0]
      rw [if_pos (by omega), if_pos (by omega), nrd_T110 y i hlt', hyg, m0 k (by omega)]
      simp only [Option.bind_some, w1, w2, w3, w4, w5, w6, w7, Int.add_assoc, Int.reduceAdd, m5 k (by omega), m6 k (by omega), if_true]
      rw [wsucc hlt' (by omega), h2 k (by omega)]
      refine congrArg some ?_
      omega
    · rw [hy j (by omega), List.getElem?_set_ne (by omega)]
theorem markLine (x : List S110) (hn : x.length ≤ 140737488355328) : ∃ y q, Evt (fun k => laws_markLineS.f k x 1) (q, y) ∧ Evt (fun k => laws_heldLineS.f k y 1) q ∧ 0 ≤ q := by
  obtain ⟨y, h1, h2, _, _⟩ := markLine_l0 x.length 0 x 1 (by omega) (by omega) (by omega) (by omega)
  exact ⟨y, _, h1, h2, by omega⟩
def lw (a b : Int) : S110 := ⟨⟨#[]⟩, ⟨a, b, 0, 0⟩, ⟨#[]⟩, ⟨#[]⟩⟩
def la (a b : Int) (s t : ByteArray) : S110 := ⟨⟨#[]⟩, ⟨a, b, 0, 0⟩, s, t⟩
def lp (s : ByteArray) : S110 := ⟨s, ⟨0, 0, 0, 0⟩, ⟨#[]⟩, ⟨#[]⟩⟩
def cSame (a b c e f : Int) (s1 s2 s3 : ByteArray) : List S110 := [lw 1 (wrap64 (3 + wrap64 (2 * a))), lw 2 b, la 3 e (s1 ++ ⟨#[97]⟩) s3, lp (s1 ++ ⟨#[97]⟩), lw 1 (wrap64 (2 + wrap64 (2 * a))), lw 2 c, la 3 f s2 s3]
def cAbove (a b c e f o : Int) (s1 s2 s3 : ByteArray) : List S110 := [lw 1 (wrap64 (3 + wrap64 (2 * a))), lw 2 b, la 4 e s2 (s1 ++ ⟨#[97]⟩), lp (s1 ++ ⟨#[97]⟩), la 3 e (s1 ++ ⟨#[98]⟩) s3, lp (s1 ++ ⟨#[98]⟩), lw 1 (wrap64 (2 + wrap64 (2 * a))), lw 2 c, la o f s2 s3]
theorem sameS (a b c d e f : Int) (s1 s2 s3 : ByteArray) (h : s1.size ≤ 9000000000000000000) : spec_l12Same.f a b c d e f s1 s2 s3 = some (cSame a b c e f s1 s2 s3) := by
  simp only [spec_l12Same.f, spec_l12Half.f, spec_l11Word.f, spec_l11Asks.f, Option.bind_some, if_true, Bool.false_eq_true, if_false, if_pos (show s1.size + 1 ≤ 9223372036854775807 by omega)]
  rfl
theorem aboveS (a b c d e f o : Int) (s1 s2 s3 : ByteArray) (h : s1.size ≤ 9000000000000000000) : spec_l12Above.f a b c d e f o s1 s2 s3 = some (cAbove a b c e f o s1 s2 s3) := by
  simp only [spec_l12Above.f, spec_l12Half.f, spec_l11Word.f, spec_l11Asks.f, Option.bind_some, if_true, Bool.false_eq_true, if_false, if_pos (show s1.size + 1 ≤ 9223372036854775807 by omega)]
  rfl
/-- The lines of a condition: the same on both sides, and few. -/
def cLines (a b c d e f : Int) (s1 s2 s3 : ByteArray) : List S110 :=
  if (0 ≤ a ∧ a ≤ 2) ∧ ((0 ≤ b ∧ b ≤ 4294967295) ∧ (0 ≤ c ∧ c ≤ 4294967295)) ∧ ((0 ≤ e ∧ e ≤ 4294967295) ∧ (0 ≤ f ∧ f ≤ 4294967295)) ∧ 1 ≤ d ∧ d ≤ 6 then
    (if d = 1 then cSame a b c e f s1 s2 s3 else if d = 2 then cSame a b c e f s1 s3 s2 else if d = 5 then cAbove a b c e f 4 s1 s2 s3 else if d = 6 then cAbove a b c e f 5 s1 s2 s3 else if d = 4 then cAbove a b c e f 4 s1 s3 s2 else cAbove a b c e f 5 s1 s3 s2)
  else []
theorem cLines_len (a b c d e f : Int) (s1 s2 s3 : ByteArray) : (cLines a b c d e f s1 s2 s3).length ≤ 9 := by
  unfold cLines
  repeat' split
  all_goals simp [cSame, cAbove]
theorem linesS (a b c d e f : Int) (s1 s2 s3 : ByteArray) (h : s1.size ≤ 9000000000000000000) : spec_CondLines.f a b c d e f s1 s2 s3 = some (cLines a b c d e f s1 s2 s3) := by
  unfold spec_CondLines.f cLines
  rw [condS]
  simp only [Option.bind_some, decide_eq_true_eq, sameS _ _ _ _ _ _ s1 _ _ h, aboveS _ _ _ _ _ _ _ s1 _ _ h]
  by_cases hc : (0 ≤ a ∧ a ≤ 2) ∧ ((0 ≤ b ∧ b ≤ 4294967295) ∧ (0 ≤ c ∧ c ≤ 4294967295)) ∧ ((0 ≤ e ∧ e ≤ 4294967295) ∧ (0 ≤ f ∧ f ≤ 4294967295)) ∧ 1 ≤ d ∧ d ≤ 6
  · simp only [if_pos hc]
    repeat' split
    all_goals rfl
  · simp only [if_neg hc]
theorem aboveI (k : Nat) (a b c d e f o : Int) (s1 s2 s3 : ByteArray) : impl_CondLines.j0 (k + 1) s2 s3 (s1 ++ ⟨#[97]⟩) (s1 ++ ⟨#[98]⟩) [lw 1 (wrap64 (3 + wrap64 (2 * a))), lw 2 b] [lw 1 (wrap64 (2 + wrap64 (2 * a))), lw 2 c] o a b c d e f = some (cAbove a b c e f o s1 s2 s3) := by
  simp only [impl_CondLines.j0, impl_ask.f, impl_place.f, Option.bind_some]
  rfl
theorem linesI (k : Nat) (a b c d e f : Int) (s1 s2 s3 : ByteArray) (h : s1.size ≤ 9000000000000000000) : impl_CondLines.f (k + 1) a b c d e f s1 s2 s3 = some (cLines a b c d e f s1 s2 s3) := by
  unfold impl_CondLines.f cLines
  rw [condI]
  simp only [Option.bind_some, decide_eq_true_eq]
  by_cases hc : (0 ≤ a ∧ a ≤ 2) ∧ ((0 ≤ b ∧ b ≤ 4294967295) ∧ (0 ≤ c ∧ c ≤ 4294967295)) ∧ ((0 ≤ e ∧ e ≤ 4294967295) ∧ (0 ≤ f ∧ f ≤ 4294967295)) ∧ 1 ≤ d ∧ d ≤ 6
  · rw [if_pos hc, if_pos hc, if_pos (by omega)]
    simp only [impl_word.f, impl_ask.f, impl_place.f, Option.bind_some]
    have j := fun o s2 s3 => aboveI k a b c d e f o s1 s2 s3
    unfold lw at j
    by_cases h1 : d = 1
    · subst h1
      rfl
    by_cases h2 : d = 2
    · subst h2
      rfl
    by_cases h3 : d = 3
    · subst h3
      exact j 5 s3 s2
    by_cases h4 : d = 4
    · subst h4
      exact j 4 s3 s2
    by_cases h5 : d = 5
    · subst h5
      exact j 4 s2 s3
    have h6 : d = 6 := by omega
    subst h6
    exact j 5 s2 s3
  · rw [if_neg hc, if_neg hc]
theorem fig (d : Int) (h0 : 0 ≤ d) (h1 : d < 10) : (⟨#[48, 49, 50, 51, 52, 53, 54, 55, 56, 57, 97, 98, 99, 100, 101, 102]⟩ : ByteArray).extract d.toNat (d + 1).toNat = strOfNums [(48 + d) % 256] := by
  have : d = 0 ∨ d = 1 ∨ d = 2 ∨ d = 3 ∨ d = 4 ∨ d = 5 ∨ d = 6 ∨ d = 7 ∨ d = 8 ∨ d = 9 := by omega
  rcases this with h | h | h | h | h | h | h | h | h | h <;> subst h <;> rfl
/-- A number in figures: the same on both sides. -/
theorem decimal_l0 (n : Int) (hn : 0 ≤ n) : ∀ (m : Nat) (x : Int) (s : ByteArray), 0 ≤ x → x ≤ m → m ≤ 1000000000000 → m + s.size ≤ 9000000000000000000 → ∃ v, Evt (fun k => spec_Decimal.l0 k x false s) v ∧ Evt (fun k => impl_Decimal.l0 k n s x) v ∧ v.size ≤ m + s.size := by
  intro m
  induction m with
  | zero =>
    intro x s h0 h1 _ h2
    have hx : x = 0 := by omega
    subst hx
    refine ⟨s, .succ (.const fun k => ?_), .succ (.const fun k => ?_), by omega⟩
    · simp only [spec_Decimal.l0]
      simp
    · simp only [impl_Decimal.l0]
      rw [if_pos trivial, if_neg (by omega)]
  | succ m ih =>
    intro x s h0 h1 hm h2
    by_cases hx : x = 0
    · subst hx
      refine ⟨s, .succ (.const fun k => ?_), .succ (.const fun k => ?_), by omega⟩
      · simp only [spec_Decimal.l0]
        simp
      · simp only [impl_Decimal.l0]
        rw [if_pos trivial, if_neg (by omega)]
    · have ed : x.tdiv 10 = x / 10 := Int.tdiv_eq_ediv_of_nonneg h0
      have em : x.tmod 10 = x % 10 := Int.tmod_eq_emod_of_nonneg h0
      have e10 : wrap64 (x / 10) = x / 10 := w64 (by omega) (by omega)
      have e48 : wrap64 (48 + x % 10) = 48 + x % 10 := w64 (by omega) (by omega)
      have en : wrap64 (-(x % 10)) = -(x % 10) := w64 (by omega) (by omega)
      have ex : mx (x % 10) (-(x % 10)) = x % 10 := by unfold mx; split <;> omega
      have e1 : wrap64 (x % 10 + 1) = x % 10 + 1 := w64 (by omega) (by omega)
      have hf := fig (x % 10) (by omega) (by omega)
      have hs : (strOfNums [(48 + x % 10) % 256]).size = 1 := rfl
      obtain ⟨v, ⟨K1, g1⟩, ⟨K2, g2⟩, hv⟩ := ih (x / 10) (strOfNums [(48 + x % 10) % 256] ++ s) (by omega) (by omega) (by omega) (by rw [ByteArray.size_append, hs]; omega)
      rw [ByteArray.size_append, hs] at hv
      dsimp only at g1 g2
      refine ⟨v, .succ ⟨K1, fun k hk => ?_⟩, .succ ⟨K2, fun k hk => ?_⟩, by omega⟩
      · simp only [spec_Decimal.l0, spec_l01Figure.f, ed, em, e10, e48]
        rw [if_neg hx, if_neg (by omega), if_pos (by omega)]
        simp only [Option.bind_some]
        rw [if_pos (by rw [hs]; omega)]
        exact g1 k hk
      · simp only [impl_Decimal.l0, ed, em, e10, en, ex, e1, hf]
        rw [if_neg hx, if_pos (by omega), if_pos (by omega), if_pos (by omega), if_pos (by rw [hs]; omega)]
        exact g2 k hk
theorem decimal (n : Nat) (hn : n ≤ 1000000000000) : ∃ v, Evt (fun k => spec_Decimal.f k (n : Int)) v ∧ Evt (fun k => impl_Decimal.f k (n : Int)) v ∧ v.size ≤ n + 1 := by
  by_cases h : (n : Int) = 0
  · exact ⟨⟨#[48]⟩, .const fun k => by simp only [spec_Decimal.f]; rw [if_pos h], .const fun k => by simp only [impl_Decimal.f]; rw [if_pos h], by show 1 ≤ _; omega⟩
  · obtain ⟨v, ⟨K1, g1⟩, ⟨K2, g2⟩, hv⟩ := decimal_l0 (n : Int) (by omega) n (n : Int) ⟨#[]⟩ (by omega) (by omega) hn (by show n + 0 ≤ _; omega)
    dsimp only at g1 g2
    have e : decide ((n : Int) < 0) = false := by simp
    refine ⟨v, ⟨K1, fun k hk => ?_⟩, ⟨K2, fun k hk => ?_⟩, Nat.le_trans hv (by show n + 0 ≤ _; omega)⟩
    · simp only [spec_Decimal.f, e]
      rw [if_neg h]
      exact g1 k hk
    · simp only [impl_Decimal.f]
      rw [if_neg h]
      exact g2 k hk
theorem resI (a b : Int) : impl_ResultOf.f a b = spec_ResultOf.f a b := rfl
theorem res (a b : Int) : ∃ v, spec_ResultOf.f a b = some v := by
  simp only [spec_ResultOf.f, inS, Option.bind_some, decide_eq_true_eq]
  repeat' split
  all_goals exact ⟨_, rfl⟩
/-- The lines of a rule: the same on both sides, and not too many. -/
theorem rl_l0 (x : List Int) (l : List S95) (a b : Int) (s1 s2 : ByteArray) (hn : l.length ≤ 1048576) (hs : s1.size ≤ 1000000000000000000) :
    ∃ O : List S110, O.length ≤ 10 * l.length + 1 ∧ Evt (fun k => spec_RuleLines.l0 k s1 s2 [] ((0 : Nat) : Int) x l a b) O ∧ Evt (fun k => impl_RuleLines.l0 k s1 s2 [] l (l.length : Int) ((0 : Nat) : Int) x l a b) O := by
  refine down (T := fun i => ∀ o : List S110, o.length ≤ 10 * i → ∃ O : List S110, O.length ≤ 10 * l.length + 1 ∧ Evt (fun k => spec_RuleLines.l0 k s1 s2 o (i : Int) x l a b) O ∧ Evt (fun k => impl_RuleLines.l0 k s1 s2 o l (l.length : Int) (i : Int) x l a b) O) (n := l.length) ?_ ?_ l.length 0 (by omega) [] (by simp)
  · intro o ho
    obtain ⟨v, hv⟩ := res a b
    refine ⟨o ++ [lw 8 v], by simp; omega, .succ (.const fun k => ?_), .succ (.const fun k => ?_)⟩
    · simp only [spec_RuleLines.l0, spec_l11Word.f, hv, Option.bind_some]
      rw [if_neg (by omega), if_pos (by omega)]
      rfl
    · simp only [impl_RuleLines.l0, impl_word.f, resI, hv, Option.bind_some]
      rw [if_neg (by omega), if_pos (by omega)]
      rfl
  · intro i hi ih o ho
    obtain ⟨t, ⟨K1, d1⟩, ⟨K2, d2⟩, ht⟩ := decimal i (by omega)
    have hc := cLines_len l[i].f0 l[i].f1.f0 l[i].f1.f1 l[i].f2 l[i].f3.f0 l[i].f3.f1 (s1 ++ t) ((s1 ++ ⟨#[110]⟩) ++ t) s2
    have hz : (s1 ++ t).size ≤ 9000000000000000000 := by rw [ByteArray.size_append]; omega
    have hS := linesS l[i].f0 l[i].f1.f0 l[i].f1.f1 l[i].f2 l[i].f3.f0 l[i].f3.f1 (s1 ++ t) ((s1 ++ ⟨#[110]⟩) ++ t) s2 hz
    have hI := fun k => linesI k l[i].f0 l[i].f1.f0 l[i].f1.f1 l[i].f2 l[i].f3.f0 l[i].f3.f1 (s1 ++ t) ((s1 ++ ⟨#[110]⟩) ++ t) s2 hz
    generalize cLines l[i].f0 l[i].f1.f0 l[i].f1.f1 l[i].f2 l[i].f3.f0 l[i].f3.f1 (s1 ++ t) ((s1 ++ ⟨#[110]⟩) ++ t) s2 = L at hc hS hI
    have z1 : (s1 ++ (⟨#[110]⟩ : ByteArray)).size = s1.size + 1 := ByteArray.size_append
    obtain ⟨O, hO, ⟨K3, h1⟩, ⟨K4, h2⟩⟩ := ih (o ++ L ++ [lp ((s1 ++ ⟨#[110]⟩) ++ t)]) (by simp; omega)
    dsimp only at d1 d2 h1 h2
    refine ⟨O, hO, .succ ⟨K1 + K3 + 1, fun k hk => ?_⟩, .succ ⟨K2 + K4 + 1, fun k hk => ?_⟩⟩
    · simp only [spec_RuleLines.l0]
      rw [if_pos (by omega), if_pos (by omega), d1 k (by omega)]
      simp only [Option.bind_some]
      rw [if_pos (by rw [z1]; omega), if_pos (by omega), if_pos (by omega), nrd_T95 l i hi, hS]
      simp only [Option.bind_some]
      rw [if_pos (by omega)]
      rw [if_pos (by rw [List.length_append]; omega), wsucc hi (by omega)]
      exact h1 k (by omega)
    · simp only [impl_RuleLines.l0]
      obtain ⟨k, rfl⟩ : ∃ m, k = m + 1 := ⟨k - 1, by omega⟩
      rw [if_pos (by omega), if_pos (by omega), if_pos (by omega), if_pos (by omega), d2 (k + 1) (by omega)]
      simp only [Option.bind_some]
      rw [if_pos (by rw [z1]; omega), if_pos (by omega), nrd_T95 l i hi, hI]
      simp only [Option.bind_some, impl_place.f]
      rw [if_pos (by omega)]
      rw [if_pos (by rw [List.length_append]; omega), wsucc hi (by omega)]
      exact h2 (k + 1) (by omega)
theorem ruleLines (x : List Int) (l : List S95) (a b : Int) (s1 s2 : ByteArray) (hn : l.length ≤ 1048576) (hs : s1.size ≤ 1000000000000000000) :
    ∃ O : List S110, O.length ≤ 10 * l.length + 1 ∧ Evt (fun k => spec_RuleLines.f k x l a b s1 s2) O ∧ Evt (fun k => impl_RuleLines.f k x l a b s1 s2) O := rl_l0 x l a b s1 s2 hn hs
theorem markInt_l0 : ∀ (d i : Nat) (x : List Int) (q : Int), i + d = x.length → 0 ≤ q → q + d ≤ 2305843009213693952 → x.length ≤ 4611686018427387904 → ∃ y, Evt (fun k => laws_markIntS.l0 k x q (i : Int)) (q + d, y)
  | 0, i, x, q, hi, hq, hb, hl => by
    refine ⟨x, .succ (.const fun k => ?_)⟩
    simp only [laws_markIntS.l0]
    rw [if_neg (by omega)]
    simp
  | d + 1, i, x, q, hi, hq, hb, hl => by
    have hlt : i < x.length := by omega
    obtain ⟨y, K, h⟩ := markInt_l0 d (i + 1) (x.set i q) (q + 1) (by rw [List.length_set]; omega) (by omega) (by omega) (by rw [List.length_set]; exact hl)
    dsimp only at h
    have w1 : wrap64 (q + 1) = q + 1 := w64 (by omega) (by omega)
    refine ⟨y, .succ ⟨K, fun k hk => ?_⟩⟩
    simp only [laws_markIntS.l0]
    rw [if_pos (by omega), if_pos (by omega), w1, wsucc hlt (by omega), Int.toNat_natCast, h k hk]
    refine congrArg some (Prod.ext ?_ rfl)
    show q + 1 + (d : Int) = q + ((d + 1 : Nat) : Int)
    omega
theorem markCond_l0 : ∀ (d i : Nat) (x : List S95) (q : Int), i + d = x.length → 0 ≤ q → q + 6 * d ≤ 2305843009213693952 → x.length ≤ 4611686018427387904 → ∃ y, Evt (fun k => laws_markCondS.l0 k x q (i : Int)) (q + 6 * d, y)
  | 0, i, x, q, hi, hq, hb, hl => by
    refine ⟨x, .succ (.const fun k => ?_)⟩
    simp only [laws_markCondS.l0]
    rw [if_neg (by omega)]
    simp
  | d + 1, i, x, q, hi, hq, hb, hl => by
    have hlt : i < x.length := by omega
    obtain ⟨y, K, h⟩ := markCond_l0 d (i + 1) (x.set i ⟨q, ⟨q + 1, q + 2⟩, q + 3, ⟨q + 4, q + 5⟩⟩) (q + 6) (by rw [List.length_set]; omega) (by omega) (by omega) (by rw [List.length_set]; exact hl)
    dsimp only at h
    have w1 : wrap64 (q + 1) = q + 1 := w64 (by omega) (by omega)
    have w2 : wrap64 (q + 2) = q + 2 := w64 (by omega) (by omega)
    have w3 : wrap64 (q + 3) = q + 3 := w64 (by omega) (by omega)
    have w4 : wrap64 (q + 4) = q + 4 := w64 (by omega) (by omega)
    have w5 : wrap64 (q + 5) = q + 5 := w64 (by omega) (by omega)
    have w6 : wrap64 (q + 6) = q + 6 := w64 (by omega) (by omega)
    refine ⟨y, .succ ⟨K, fun k hk => ?_⟩⟩
    have rs : ∀ v, rd_T95 (x.set i v) (i : Int) = v := fun v => by rw [nrd_T95 _ i (by rw [List.length_set]; exact hlt), List.getElem_set_self]
    simp only [laws_markCondS.l0]
    rw [if_pos (by omega), if_pos (by omega)]
    simp only [Option.bind_some, Int.toNat_natCast, nrd_T95 _ i hlt, rs, List.set_set, w1, w2, w3, w4, w5, w6, Int.add_assoc, Int.reduceAdd]
    rw [wsucc hlt (by omega), h k hk]
    refine congrArg some (Prod.ext ?_ rfl)
    show q + 6 + 6 * (d : Int) = q + 6 * ((d + 1 : Nat) : Int)
    omega
theorem nums_in (x : List Int) (a : Int) (hn : x.length ≤ 4611686018427387904) : ∃ q : Int, Evt (fun k => spec_l09In.f k x a) (decide (q ≥ 0)) ∧ Evt (fun k => slices_Index_int_int.f k x a) q := by
  refine down (T := fun i => ∃ q : Int, Evt (fun k => spec_l09In.l0 k x a (i : Int)) (decide (q ≥ 0)) ∧ Evt (fun k => slices_Index_int_int.l0 k x a (x.length : Int) (i : Int)) q) (n := x.length) ?_ ?_ x.length 0 (by omega)
  · exact ⟨-1, .succ (.const fun k => by simp only [spec_l09In.l0]; rw [if_neg (by omega)]; rfl), .succ (.const fun k => by simp only [slices_Index_int_int.l0]; rw [if_neg (by omega)])⟩
  · intro i hi ih
    by_cases h : x[i] = a
    · refine ⟨(i : Int), .succ (.const fun k => ?_), .succ (.const fun k => ?_)⟩
      · simp only [spec_l09In.l0]
        rw [if_pos (by omega), if_pos (by omega), nrd x i hi, if_pos h]
        simp
      · simp only [slices_Index_int_int.l0]
        rw [if_pos (by omega), if_pos (by omega), if_pos (by omega), nrd x i hi, if_pos h.symm]
    · obtain ⟨q, ⟨K1, h1⟩, ⟨K2, h2⟩⟩ := ih
      dsimp only at h1 h2
      refine ⟨q, .succ ⟨K1, fun k hk => ?_⟩, .succ ⟨K2, fun k hk => ?_⟩⟩
      · simp only [spec_l09In.l0]
        rw [if_pos (by omega), if_pos (by omega), nrd x i hi, if_neg h, wsucc hi (by omega)]
        exact h1 k hk
      · simp only [slices_Index_int_int.l0]
        rw [if_pos (by omega), if_pos (by omega), if_pos (by omega), nrd x i hi, if_neg (fun e => h e.symm), wsucc hi (by omega)]
        exact h2 k hk
set_option linter.unusedSectionVars false
/-- Marks of rules: they come to an end. -/
theorem markRules_l0 : ∀ (d i : Nat) (x : List S91) (q : Int), i + d = x.length → 0 ≤ q → (∀ j (h : j < x.length), i ≤ j → x[j].f0.length ≤ 1048576 ∧ x[j].f1.length ≤ 1048576) → q + 7340034 * d ≤ 2000000000000000000 → x.length ≤ 1048576 → ∃ r z, Evt (fun k => laws_markRuleS.l0 k x q (i : Int)) (r, z) ∧ 0 ≤ r ∧ r ≤ q + 7340034 * d := by
  intro d
  induction d with
  | zero =>
    intro i x q hi hq hb hB hl
    refine ⟨q, x, .succ (.const fun k => ?_), hq, by omega⟩
    simp only [laws_markRuleS.l0]
    rw [if_neg (by omega)]
  | succ d ih =>
    intro i x q hi hq hb hB hl
    have hlt : i < x.length := by omega
    obtain ⟨b0, b1⟩ := hb i hlt (Nat.le_refl _)
    obtain ⟨y, K1, h1⟩ := markInt_l0 x[i].f0.length 0 x[i].f0 q (by omega) hq (by omega) (by omega)
    obtain ⟨z, K2, h2⟩ := markCond_l0 x[i].f1.length 0 x[i].f1 (q + x[i].f0.length) (by omega) (by omega) (by omega) (by omega)
    generalize hs : q + (x[i].f0.length : Int) + 6 * (x[i].f1.length : Int) = s at h2
    have e1 : Aside0 (wrap64 (s + 1) = s + 1) := ⟨w64 (by omega) (by omega)⟩
    have e2 : Aside0 (wrap64 (s + 1 + 1) = s + 2) := ⟨by rw [w64 (by omega) (by omega)]; omega⟩
    obtain ⟨r, t, ⟨K3, h3⟩, hr⟩ := ih (i + 1) (x.set i ⟨y, z, s, s + 1⟩) (s + 2) (by rw [List.length_set]; omega) (by omega) (fun j hj hij => by
      rw [List.length_set] at hj
      rw [List.getElem_set_ne (by omega)]
      exact hb j hj (by omega)) (by omega) (by rw [List.length_set]; exact hl)
    dsimp only at h1 h2 h3
    refine ⟨r, t, .succ ⟨K1 + K2 + K3, fun k hk => ?_⟩, hr.1, by omega⟩
    simp only [laws_markRuleS.l0]
    rw [if_pos (by omega), if_pos (by omega), nrd_T91 x i hlt, show laws_markIntS.f k x[i].f0 q = _ from h1 k (by omega)]
    simp only [Option.bind_some]
    rw [show laws_markCondS.f k x[i].f1 (q + (x[i].f0.length : Int)) = _ from h2 k (by omega)]
    simp only [Option.bind_some, e1.out, e2.out, Int.toNat_natCast]
    rw [wsucc hlt (by omega)]
    exact h3 k (by omega)
theorem markPolB (a b c : Int) (R : List S91) (hR : R.length ≤ 1048576) (hb : ∀ y ∈ R, y.f0.length ≤ 1048576 ∧ y.f1.length ≤ 1048576) : ∃ r z, Evt (fun k => laws_markPolicy.f k a b c R 1) (r, z) ∧ 0 ≤ r ∧ r ≤ 7340034000000 * 2 := by
  obtain ⟨r, z, h, h0, h1⟩ := markRules_l0 R.length 0 R 1 (by omega) (by omega) (fun j hj _ => hb _ (List.getElem_mem hj)) (by omega) hR
  exact ⟨r, z, h, h0, by omega⟩
section
variable (a b c n : Int) (R : List S91) (t : Bool) (s : ByteArray) (hR : R.length ≤ 1048576) (hb : ∀ y ∈ R, y.f0.length ≤ 1048576 ∧ y.f1.length ≤ 1048576) (hs : s.size ≤ 1000000000)
include hR hb hs
theorem chainSkip (v : Int) (hv : spec_ResultOf.f b c = some v) (o : List S110) (ho : o.length ≤ 1000000000) : ∀ d i, i + d = R.length → 26 ≤ i → Evt (fun k => impl_ChainLines.l0 k n t s o R (R.length : Int) (i : Int) a b c R) (o ++ [lw 8 v])
  | 0, i, hi, h26 => by
    refine .succ (.const fun k => ?_)
    simp only [impl_ChainLines.l0, impl_word.f, resI, hv, Option.bind_some]
    rw [if_neg (by omega), if_pos (by omega)]
    rfl
  | d + 1, i, hi, h26 => by
    obtain ⟨K, h⟩ := chainSkip v hv o ho d (i + 1) (by omega) (by omega)
    dsimp only at h
    refine .succ ⟨K + 1, fun k hk => ?_⟩
    obtain ⟨k, rfl⟩ : ∃ m, k = m + 1 := ⟨k - 1, by omega⟩
    simp only [impl_ChainLines.l0]
    rw [if_pos (by omega), if_pos (by omega), if_pos (by omega), if_pos (by omega)]
    simp only [impl_ChainLines.j1, if_true]
    rw [wsucc (show i < R.length by omega) (by omega)]
    exact h k (by omega)
/-- What a rule adds to the chain. -/
theorem chainAdd (i : Nat) (hi : i < R.length) (o : List S110) (ho : o.length ≤ 500000000) : ∃ L : List S110, L.length ≤ 10 * R[i].f1.length + 2 ∧ (∀ O, Evt (fun k => spec_ChainLines.l0 k n t s (o ++ L) ((i + 1 : Nat) : Int) a b c R) O →
    Evt (fun k => ((some (([(wrap64 (97 + (i : Int))) % 256] : List Int) : List Int)).bind fun y425 => (if s.size + (strOfNums y425).size ≤ 9223372036854775807 then (if (s ++ (strOfNums y425)).size + 1 ≤ 9223372036854775807 then ((spec_RuleLines.f k R[i].f0 R[i].f1 R[i].f2 R[i].f3 (s ++ (strOfNums y425)) ((s ++ (strOfNums y425)) ++ (⟨#[122]⟩ : ByteArray))).bind fun t428 => (if o.length + t428.length < 1759218604441 then ((some (o ++ t428 : List S110)).bind fun y431 => (if y431.length < 1759218604441 then (spec_ChainLines.l0 k n t s (y431 ++ [(⟨(s ++ (strOfNums y425)) ++ (⟨#[122]⟩ : ByteArray), ⟨0, 0, 0, 0⟩, (⟨#[]⟩ : ByteArray), (⟨#[]⟩ : ByteArray)⟩ : S110)]) (wrap64 ((i : Int) + 1)) a b c R) else (none))) else (none))) else (none)) else (none)))) O) ∧
    (∀ O, Evt (fun k => impl_ChainLines.l0 k n t s (o ++ L) R (R.length : Int) ((i + 1 : Nat) : Int) a b c R) O → Evt (fun k => impl_ChainLines.j1 k n t s o (i : Int) R (R.length : Int) (i : Int) false a b c R R[i].f0 R[i].f1 R[i].f2 R[i].f3) O) := by
  obtain ⟨_, hl⟩ := hb R[i] (List.getElem_mem hi)
  have z1 : (strOfNums [(wrap64 (97 + (i : Int))) % 256]).size = 1 := rfl
  have z2 : (s ++ strOfNums [(wrap64 (97 + (i : Int))) % 256]).size = s.size + 1 := by rw [ByteArray.size_append, z1]
  obtain ⟨O, hO, ⟨K1, h1⟩, ⟨K2, h2⟩⟩ := ruleLines R[i].f0 R[i].f1 R[i].f2 R[i].f3 (s ++ strOfNums [(wrap64 (97 + (i : Int))) % 256]) ((s ++ strOfNums [(wrap64 (97 + (i : Int))) % 256]) ++ (⟨#[122]⟩ : ByteArray)) hl (by omega)
  dsimp only at h1 h2
  refine ⟨O ++ [lp ((s ++ strOfNums [(wrap64 (97 + (i : Int))) % 256]) ++ (⟨#[122]⟩ : ByteArray))], by simp; omega, fun V ⟨K, h⟩ => ⟨K + K1, fun k hk => ?_⟩, fun V ⟨K, h⟩ => .succ ⟨K + K2, fun k hk => ?_⟩⟩
  · dsimp only at h
    simp only [Option.bind_some]
    rw [if_pos (by omega), if_pos (by omega), h1 k (by omega)]
    simp only [Option.bind_some]
    rw [if_pos (by omega), if_pos (by rw [List.length_append]; omega), wsucc hi (by omega)]
    rw [← List.append_assoc] at h
    exact h k (by omega)
  · dsimp only at h
    simp only [impl_ChainLines.j1, Option.bind_some, Bool.false_eq_true, if_false]
    rw [if_pos (by omega), if_pos (by omega), h2 k (by omega)]
    simp only [Option.bind_some, impl_place.f]
    rw [if_pos (by omega), if_pos (by rw [List.length_append]; omega), wsucc hi (by omega)]
    rw [← List.append_assoc] at h
    exact h k (by omega)
theorem chainB (M : Nat) (hM : M ≤ 300000000) (hsum : 10 * (R.map (fun y => y.f1.length)).sum + 52 ≤ M) : ∃ O : List S110, O.length ≤ M + 1 ∧ Evt (fun k => spec_ChainLines.f k a b c R n t s) O ∧ Evt (fun k => impl_ChainLines.f k a b c R n t s) O := by
  obtain ⟨v, hv⟩ := res b c
  have key := down (T := fun i => ∀ o : List S110, o.length + 10 * ((R.drop i).map (fun y => y.f1.length)).sum + 2 * (26 - i) ≤ M → ∃ O : List S110, O.length ≤ M + 1 ∧ Evt (fun k => spec_ChainLines.l0 k n t s o (i : Int) a b c R) O ∧ Evt (fun k => impl_ChainLines.l0 k n t s o R (R.length : Int) (i : Int) a b c R) O) (n := min 26 R.length) ?_ ?_ (min 26 R.length) 0 (by omega) [] (by simpa using hsum)
  · exact key
  · intro o ho
    have h26 : min 26 R.length ≤ 26 := Nat.min_le_left _ _
    refine ⟨o ++ [lw 8 v], by simp; omega, .succ (.succ (.const fun k => ?_)), ?_⟩
    · simp only [spec_ChainLines.l0, spec_ChainLines.j1]
      by_cases h : ((min 26 R.length : Nat) : Int) < (R.length : Int)
      · rw [if_pos h, decide_eq_false (by omega)]
        simp only [Bool.false_eq_true, if_false, spec_l11Word.f, hv, Option.bind_some]
        rw [if_pos (by omega)]
        rfl
      · rw [if_neg h]
        simp only [Bool.false_eq_true, if_false, spec_l11Word.f, hv, Option.bind_some]
        rw [if_pos (by omega)]
        rfl
    · by_cases h : R.length ≤ 26
      · refine .succ (.const fun k => ?_)
        simp only [impl_ChainLines.l0, impl_word.f, resI, hv, Option.bind_some]
        rw [if_neg (by omega), if_pos (by omega)]
        rfl
      · exact chainSkip a b c n R t s hR hb hs v hv o (by omega) (R.length - min 26 R.length) (min 26 R.length) (by omega) (by omega)
  · intro i hi ih o ho
    have hlt : i < R.length := by omega
    have hi26 : i < 26 := by omega
    obtain ⟨b0, b1⟩ := hb R[i] (List.getElem_mem hlt)
    obtain ⟨L, hL, aS, aI⟩ := chainAdd a b c n R t s hR hb hs i hlt o (by omega)
    have hdr : ((R.drop i).map (fun y => y.f1.length)).sum = R[i].f1.length + ((R.drop (i + 1)).map (fun y => y.f1.length)).sum := by rw [List.drop_eq_getElem_cons hlt, List.map_cons, List.sum_cons]
    obtain ⟨O1, hO1, ⟨K1, s1⟩, ⟨K2, i1⟩⟩ := ih o (by omega)
    obtain ⟨O2, hO2, s2, i2⟩ := ih (o ++ L) (by rw [List.length_append]; omega)
    obtain ⟨K3, s3⟩ := aS O2 s2
    obtain ⟨K4, i3⟩ := aI O2 i2
    obtain ⟨q, ⟨K5, n1⟩, ⟨K6, n2⟩⟩ := nums_in R[i].f0 n (by omega)
    dsimp only at s1 i1 s3 i3 n1 n2
    have eS : ∀ k, spec_ChainLines.l0 (k + 1 + 1) n t s o (i : Int) a b c R = spec_ChainLines.j1 (k + 1) n t s o (i : Int) true a b c R := fun k => by
      rw [spec_ChainLines.l0]
      rw [if_pos (by omega), decide_eq_true (by omega)]
    by_cases h0 : (R[i].f0.length : Int) > 0
    · cases t with
      | true =>
        refine ⟨O1, hO1, .succ (.succ ⟨K1, fun k hk => ?_⟩), .succ (.succ ⟨K2, fun k hk => ?_⟩)⟩
        · dsimp only
          rw [eS]
          simp only [spec_ChainLines.j1, if_true]
          rw [if_pos (by omega), if_pos (by omega), nrd_T91 R i hlt, if_pos h0, wsucc hlt (by omega)]
          exact s1 k hk
        · simp only [impl_ChainLines.l0, impl_ChainLines.j1]
          rw [if_pos (by omega), if_pos (by omega), if_pos (by omega), if_neg (by omega), nrd_T91 R i hlt, if_pos h0]
          simp only [if_true]
          rw [wsucc hlt (by omega)]
          exact i1 k hk
      | false =>
        by_cases hq : q ≥ 0
        · refine ⟨O2, hO2, .succ (.succ ⟨K3 + K5, fun k hk => ?_⟩), .succ ⟨K4 + K6, fun k hk => ?_⟩⟩
          · dsimp only
            rw [eS]
            simp only [spec_ChainLines.j1, if_true]
            rw [if_pos (by omega), if_pos (by omega), nrd_T91 R i hlt, if_pos h0, if_neg (by simp), n1 k (by omega), decide_eq_true hq]
            simp only [Option.bind_some, if_true]
            have g := s3 k (by omega)
            simp only [Option.bind_some] at g
            exact g
          · simp only [impl_ChainLines.l0]
            rw [if_pos (by omega), if_pos (by omega), if_pos (by omega), if_neg (by omega), nrd_T91 R i hlt, if_pos h0, if_neg (by simp)]
            simp only [slices_Contains_int_int.f, n2 k (by omega), Option.bind_some, decide_eq_true hq, Bool.not_true]
            exact i3 k (by omega)
        · refine ⟨O1, hO1, .succ (.succ ⟨K1 + K5, fun k hk => ?_⟩), .succ (.succ ⟨K2 + K6, fun k hk => ?_⟩)⟩
          · dsimp only
            rw [eS]
            simp only [spec_ChainLines.j1, if_true]
            rw [if_pos (by omega), if_pos (by omega), nrd_T91 R i hlt, if_pos h0, if_neg (by simp), n1 k (by omega), decide_eq_false hq]
            simp only [Option.bind_some, Bool.false_eq_true, if_false]
            rw [wsucc hlt (by omega)]
            exact s1 k (by omega)
          · simp only [impl_ChainLines.l0]
            rw [if_pos (by omega), if_pos (by omega), if_pos (by omega), if_neg (by omega), nrd_T91 R i hlt, if_pos h0, if_neg (by simp)]
            simp only [slices_Contains_int_int.f, n2 (k + 1) (by omega), Option.bind_some, decide_eq_false hq, Bool.not_false]
            simp only [impl_ChainLines.j1, if_true]
            rw [wsucc hlt (by omega)]
            exact i1 k (by omega)
    · refine ⟨O2, hO2, .succ (.succ ⟨K3, fun k hk => ?_⟩), .succ ⟨K4, fun k hk => ?_⟩⟩
      · dsimp only
        rw [eS]
        simp only [spec_ChainLines.j1, if_true]
        rw [if_pos (by omega), if_pos (by omega), nrd_T91 R i hlt, if_neg h0]
        have g := s3 k (by omega)
        simp only [Option.bind_some] at g ⊢
        exact g
      · simp only [impl_ChainLines.l0]
        rw [if_pos (by omega), if_pos (by omega), if_pos (by omega), if_neg (by omega), nrd_T91 R i hlt, if_neg h0]
        exact i3 k (by omega)
end
section
variable (a b c : Int) (R : List S91) (C : Nat) (hC : C ≤ 400000000) (hch : ∀ (n : Int) (t : Bool) (s : ByteArray), s.size ≤ 1000000000 → ∃ O : List S110, O.length ≤ C ∧ Evt (fun k => spec_ChainLines.f k a b c R n t s) O ∧ Evt (fun k => impl_ChainLines.f k a b c R n t s) O)
include hC hch
/-- A tree over numbers: the same on both sides, and no longer than its leaves make it. -/
theorem tree : ∀ (m : Nat) (l : List Int) (s : ByteArray), l.length ≤ m → s.size + l.length ≤ 900000000 → (2 * C + 6) * l.length ≤ 1700000000000 → ∃ O : List S110, (O.length + 3 ≤ (2 * C + 6) * l.length ∨ l.length = 0 ∧ O.length ≤ C) ∧ Evt (fun k => spec_TreeLines.f k a b c R l s) O ∧ Evt (fun k => impl_TreeLines.f k a b c R l s) O := by
  intro m
  induction m with
  | zero =>
    intro l s hl hs hD
    obtain ⟨O, hO, ⟨K1, h1⟩, ⟨K2, h2⟩⟩ := hch 0 true s (by omega)
    dsimp only at h1 h2
    refine ⟨O, .inr ⟨by omega, hO⟩, .succ ⟨K1, fun k hk => ?_⟩, .succ ⟨K2, fun k hk => ?_⟩⟩
    · simp only [spec_TreeLines.f]
      rw [if_pos (by omega), h1 k hk]
      rfl
    · simp only [impl_TreeLines.f]
      rw [if_pos (by omega), h2 k hk]
      rfl
  | succ m ih =>
    intro l s hl hs hD
    by_cases h0 : l.length = 0
    · exact ih l s (by omega) hs hD
    by_cases h1 : l.length = 1
    · have zy : (s ++ (⟨#[121]⟩ : ByteArray)).size = s.size + 1 := by rw [ByteArray.size_append]; rfl
      have zx : (s ++ (⟨#[120]⟩ : ByteArray)).size = s.size + 1 := by rw [ByteArray.size_append]; rfl
      obtain ⟨O1, hO1, ⟨K1, g1⟩, ⟨K2, g2⟩⟩ := hch (rd l 0) false (s ++ (⟨#[121]⟩ : ByteArray)) (by omega)
      obtain ⟨O2, hO2, ⟨K3, g3⟩, ⟨K4, g4⟩⟩ := hch 0 true (s ++ (⟨#[120]⟩ : ByteArray)) (by omega)
      dsimp only at g1 g2 g3 g4
      have hlen : ((([la 3 (rd l 0) (s ++ (⟨#[121]⟩ : ByteArray)) (s ++ (⟨#[120]⟩ : ByteArray)), lp (s ++ (⟨#[121]⟩ : ByteArray))] ++ O1) ++ [lp (s ++ (⟨#[120]⟩ : ByteArray))]) ++ O2).length = 3 + O1.length + O2.length := by simp; omega
      have hl1 : ([la 3 (rd l 0) (s ++ (⟨#[121]⟩ : ByteArray)) (s ++ (⟨#[120]⟩ : ByteArray)), lp (s ++ (⟨#[121]⟩ : ByteArray))]).length = 2 := rfl
      refine ⟨(([la 3 (rd l 0) (s ++ (⟨#[121]⟩ : ByteArray)) (s ++ (⟨#[120]⟩ : ByteArray)), lp (s ++ (⟨#[121]⟩ : ByteArray))] ++ O1) ++ [lp (s ++ (⟨#[120]⟩ : ByteArray))]) ++ O2, .inl (by rw [hlen, h1]; omega), .succ ⟨K1 + K3, fun k hk => ?_⟩, .succ ⟨K2 + K4, fun k hk => ?_⟩⟩
      · clear ih
        as_aux_lemma =>
          dsimp only
          rw [spec_TreeLines.f, if_neg (by omega), if_pos (by omega), if_pos (by omega), if_pos (by omega)]
          simp only [spec_l11Asks.f, Option.bind_some]
          rw [g1 k (by omega)]
          simp only [Option.bind_some]
          rw [if_pos (by simp only [List.length_cons, List.length_nil]; omega), if_pos (by simp only [List.length_append, List.length_cons, List.length_nil]; omega), g3 k (by omega)]
          simp only [Option.bind_some]
          rw [if_pos (by simp only [List.length_append, List.length_cons, List.length_nil]; omega)]
          rfl
      · clear ih
        as_aux_lemma =>
          dsimp only
          rw [impl_TreeLines.f, if_neg (by omega), if_pos (by omega), if_pos (by omega), if_pos (by omega)]
          simp only [impl_ask.f, impl_place.f, Option.bind_some]
          rw [g2 k (by omega)]
          simp only [Option.bind_some]
          rw [if_pos (by simp only [List.length_cons, List.length_nil]; omega), if_pos (by simp only [List.length_append, List.length_cons, List.length_nil]; omega), g4 k (by omega)]
          simp only [Option.bind_some]
          rw [if_pos (by simp only [List.length_append, List.length_cons, List.length_nil]; omega)]
          rfl
    · have zl : (s ++ (⟨#[108]⟩ : ByteArray)).size = s.size + 1 := by rw [ByteArray.size_append]; rfl
      have zh : (s ++ (⟨#[104]⟩ : ByteArray)).size = s.size + 1 := by rw [ByteArray.size_append]; rfl
      have e1 : Aside0 (wrap64 ((l.length : Int) / 2) = ((l.length / 2 : Nat) : Int)) := ⟨by rw [w64 (by omega) (by omega)]; omega⟩
      have hp : (l.take (l.length / 2)).length = l.length / 2 := by rw [List.length_take]; omega
      have hq : (l.drop (l.length / 2)).length = l.length - l.length / 2 := List.length_drop
      have hDs : (2 * C + 6) * l.length = (2 * C + 6) * (l.length / 2) + (2 * C + 6) * (l.length - l.length / 2) := by rw [← Nat.mul_add]; congr 1; omega
      obtain ⟨O1, hO1, ⟨K1, g1⟩, ⟨K2, g2⟩⟩ := ih (l.take (l.length / 2)) (s ++ (⟨#[108]⟩ : ByteArray)) (by omega) (by omega) (by rw [hp]; omega)
      obtain ⟨O2, hO2, ⟨K3, g3⟩, ⟨K4, g4⟩⟩ := ih (l.drop (l.length / 2)) (s ++ (⟨#[104]⟩ : ByteArray)) (by omega) (by omega) (by rw [hq]; omega)
      rw [hp] at hO1
      rw [hq] at hO2
      replace hO1 := hO1.resolve_right (by omega)
      replace hO2 := hO2.resolve_right (by omega)
      dsimp only at g1 g2 g3 g4
      generalize (2 * C + 6) * (l.length / 2) = D1 at hO1 hDs
      generalize (2 * C + 6) * (l.length - l.length / 2) = D2 at hO2 hDs
      have hlen : ((([la 5 (rd l ((l.length / 2 : Nat) : Int)) (s ++ (⟨#[104]⟩ : ByteArray)) (s ++ (⟨#[108]⟩ : ByteArray)), lp (s ++ (⟨#[108]⟩ : ByteArray))] ++ O1) ++ [lp (s ++ (⟨#[104]⟩ : ByteArray))]) ++ O2).length = 3 + O1.length + O2.length := by simp; omega
      refine ⟨(([la 5 (rd l ((l.length / 2 : Nat) : Int)) (s ++ (⟨#[104]⟩ : ByteArray)) (s ++ (⟨#[108]⟩ : ByteArray)), lp (s ++ (⟨#[108]⟩ : ByteArray))] ++ O1) ++ [lp (s ++ (⟨#[104]⟩ : ByteArray))]) ++ O2, .inl (by rw [hlen, hDs]; omega), .succ ⟨K1 + K3, fun k hk => ?_⟩, .succ ⟨K2 + K4, fun k hk => ?_⟩⟩
      · clear ih
        as_aux_lemma =>
          simp only [spec_TreeLines.f, spec_l11Asks.f, Option.bind_some, e1.out, Int.toNat_natCast]
          rw [if_neg (by omega), if_neg (by omega), if_pos (by omega), if_pos (by omega), if_pos (by omega), if_pos (by omega), g1 k (by omega)]
          simp only [Option.bind_some]
          rw [if_pos (by simp only [List.length_cons, List.length_nil]; omega), if_pos (by simp only [List.length_append, List.length_cons, List.length_nil]; omega), g3 k (by omega)]
          simp only [Option.bind_some]
          rw [if_pos (by simp only [List.length_append, List.length_cons, List.length_nil]; omega)]
          rfl
      · clear ih
        as_aux_lemma =>
          simp only [impl_TreeLines.f, impl_ask.f, impl_place.f, Option.bind_some, e1.out, Int.toNat_natCast]
          rw [if_neg (by omega), if_neg (by omega), if_pos (by omega), if_pos (by omega), if_pos (by omega), if_pos (by omega), g2 k (by omega)]
          simp only [Option.bind_some]
          rw [if_pos (by simp only [List.length_cons, List.length_nil]; omega), if_pos (by simp only [List.length_append, List.length_cons, List.length_nil]; omega), g4 k (by omega)]
          simp only [Option.bind_some]
          rw [if_pos (by simp only [List.length_append, List.length_cons, List.length_nil]; omega)]
          rfl
end
/-- So many conditions and so many leaves, and what their lines come to. -/
theorem leaves (c n : Nat) (h : 6 * c + n ≤ 1048576) : (2 * (10 * c + 53) + 6) * n ≤ 1700000000000 := by
  have h1 : (2 * (10 * c + 53) + 6) * n = 20 * (c * n) + 112 * n := by rw [Nat.add_mul, Nat.mul_add, Nat.add_mul, ← Nat.mul_assoc 2 10 c, Nat.mul_assoc (2 * 10) c n]; omega
  have h2 : 6 * (c * n) ≤ 274877906944 := by
    have e : n ≤ 1048576 - 6 * c := by omega
    have h3 : 6 * c * n ≤ 6 * c * (1048576 - 6 * c) := Nat.mul_le_mul_left _ e
    have h4 : ∀ x : Nat, x ≤ 1048576 → x * (1048576 - x) ≤ 274877906944 := by
      intro x hx
      obtain ⟨y, hy⟩ : ∃ y, x + y = 1048576 := ⟨1048576 - x, by omega⟩
      have : 1048576 - x = y := by omega
      rw [this]
      rcases Nat.le_total x 524288 with hx2 | hx2
      · obtain ⟨d, hd⟩ : ∃ d, x + d = 524288 := ⟨524288 - x, by omega⟩
        have hy2 : y = 524288 + d := by omega
        have hx3 : x = 524288 - d := by omega
        have : x * y + d * d = 524288 * 524288 := by
          subst hy2
          have : x * (524288 + d) + d * d = x * 524288 + (x + d) * d := by rw [Nat.mul_add, Nat.add_mul, Nat.add_assoc]
          rw [this, hd, Nat.mul_comm x 524288, ← Nat.mul_add, hd]
        omega
      · obtain ⟨d, hd⟩ : ∃ d, y + d = 524288 := ⟨524288 - y, by omega⟩
        have hx3 : x = 524288 + d := by omega
        have : x * y + d * d = 524288 * 524288 := by
          subst hx3
          have : (524288 + d) * y + d * d = 524288 * y + d * (y + d) := by rw [Nat.mul_add, Nat.add_mul, Nat.add_assoc]
          rw [this, hd, Nat.mul_comm d 524288, ← Nat.mul_add, hd]
        omega
    have := h4 (6 * c) (by omega)
    rw [← Nat.mul_assoc]
    omega
  omega
theorem main (a b c : Int) (l : List S136) (x : List Int) (s : ByteArray) (hl : ((∀ u4 ∈ l, (((∀ u5 ∈ u4.f0, (Lit.int .i64 u5).wf = true) ∧ u4.f0.length ≤ maxLen) ∧ ((∀ u5 ∈ u4.f1, ((Lit.int .i64 u5.f0).wf = true ∧ ((Lit.int .i64 u5.f1.f0).wf = true ∧ (Lit.int .i64 u5.f1.f1).wf = true) ∧ (Lit.int .i64 u5.f2).wf = true ∧ ((Lit.int .i64 u5.f3.f0).wf = true ∧ (Lit.int .i64 u5.f3.f1).wf = true))) ∧ u4.f1.length ≤ maxLen) ∧ (Lit.int .i64 u4.f2).wf = true ∧ (Lit.int .i64 u4.f3).wf = true)) ∧ l.length ≤ maxLen)) (hK : 6 * (l.map (fun y => y.f1.length)).sum + x.length ≤ 1048576) : ∃ k, laws_FnExactTreeLines.f k a b c l x s = some true := by
  by_cases g0 : (x.length : Int) > 1048576
  · exact ⟨0, by simp only [laws_FnExactTreeLines.f, if_pos g0]⟩
  by_cases g1 : (s.size : Int) > 1048576
  · exact ⟨0, by simp only [laws_FnExactTreeLines.f, if_neg g0, if_pos g1]⟩
  obtain ⟨q, hq, hB, K1, h1⟩ := Elaws_szPolicy a b c l 1048576 (by omega) (by omega) hl
  dsimp only at h1
  by_cases hn : q < 0
  · exact ⟨K1, by simp only [laws_FnExactTreeLines.f, h1 K1 (Nat.le_refl _), Option.bind_some, if_neg g0, if_neg g1, if_pos hn]⟩
  have hB := hB (by omega)
  obtain ⟨K2, h2⟩ := Elaws_toPolicy a b c l hB
  obtain ⟨K10, h10⟩ := Elaws_toIntS x (by omega)
  rw [List.map_id'] at h10
  have hR : (l.map conv136).length ≤ 1048576 := by rw [List.length_map]; exact hB.1
  have hb : ∀ y ∈ l.map conv136, y.f0.length ≤ 1048576 ∧ y.f1.length ≤ 1048576 := by
    intro y hy
    obtain ⟨u, hu, rfl⟩ := List.mem_map.1 hy
    have := hB.2 u hu
    simp only [conv136, List.length_map]
    exact this
  have hsum : ((l.map conv136).map (fun y => y.f1.length)).sum = (l.map (fun y => y.f1.length)).sum := by
    rw [List.map_map]
    refine congrArg List.sum (List.map_congr_left fun y _ => ?_)
    simp [conv136]
  rw [← hsum] at hK
  generalize l.map conv136 = R at h2 hR hb hK
  generalize hc : (R.map (fun y => y.f1.length)).sum = cc at hK
  obtain ⟨O, hO, ⟨K3, h3⟩, ⟨K4, h4⟩⟩ := tree a b c R (10 * cc + 53) (by omega) (fun n t s hs => chainB a b c n R t s hR hb hs (10 * cc + 52) (by omega) (by rw [hc]; omega)) x.length x s (Nat.le_refl _) (by omega) (leaves cc x.length hK)
  have hO2 : O.length ≤ 1700000000000 := by
    have := leaves cc x.length hK
    rcases hO with hO | hO <;> omega
  obtain ⟨K5, h5⟩ := Elaws_eqPolicy a b c R ⟨by omega, fun y hy => by have := hb y hy; omega⟩
  obtain ⟨K6, h6⟩ := Elaws_eqLineS O (by omega)
  obtain ⟨K11, h11⟩ := Elaws_eqIntS x (by omega)
  obtain ⟨r, z, ⟨K7, h7⟩, hr, hr2⟩ := markPolB a b c R hR hb
  obtain ⟨y2, q2, ⟨K8, h8⟩, ⟨K9, h9⟩, hq2⟩ := markLine O (by omega)
  obtain ⟨y3, K12, h12⟩ := markInt_l0 x.length 0 x r (by omega) hr (by omega) (by omega)
  dsimp only at h2 h3 h4 h5 h6 h7 h8 h9 h10 h11 h12
  have n1 : ¬ r + (x.length : Int) < 0 := by omega
  have n2 : ¬ q2 < 0 := by omega
  obtain ⟨K, hKK⟩ : ∃ K, K = K1 + K2 + K3 + K4 + K5 + K6 + K7 + K8 + K9 + K10 + K11 + K12 := ⟨_, rfl⟩
  have h13 : ∀ k, K ≤ k → laws_markIntS.f k x r = some (r + x.length, y3) := fun k hk => h12 k (by omega)
  refine ⟨K + 1, ?_⟩
  simp only [laws_FnExactTreeLines.f, if_neg g0, if_neg g1, h1 (K + 1) (by omega), h2 (K + 1) (by omega), h3 (K + 1) (by omega), h4 (K + 1) (by omega), h5 (K + 1) (by omega), h6 (K + 1) (by omega), h7 (K + 1) (by omega), h10 (K + 1) (by omega), h11 (K + 1) (by omega), h13 (K + 1) (by omega), Option.bind_some, if_neg hn, if_neg n1, if_true, Bool.not_true]
  simp only [laws_FnExactTreeLines.j0, Bool.false_eq_true, if_false, h2 K (by omega), h4 K (by omega), h6 K (by omega), h8 K (by omega), h9 K (by omega), h10 K (by omega), Option.bind_some, if_neg n2, if_true]
end Go.Proofs.Ytcmcpmkihpdnjaa.PFnExactTreeLines
