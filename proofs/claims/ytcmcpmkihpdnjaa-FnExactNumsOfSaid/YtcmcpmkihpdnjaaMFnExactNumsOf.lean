/- The pure law of FnExactNumsOf: what the functions of the program and of the reference come to is the same, for all arguments that the law is asked of. No conditions. -/
import Derived.Test.YtcmcpmkihpdnjaaPFnExactNumsOfy5
import Derived.Test.YtcmcpmkihpdnjaaEV
set_option linter.unusedSimpArgs false
set_option linter.unusedVariables false
namespace Go.Proofs.Ytcmcpmkihpdnjaa.PFnExactNumsOf
open Go Go.RowKit Go.Proofs.YtcmcpmkihpdnjaaW.PrintWords Go.Proofs.YtcmcpmkihpdnjaaW.PrintLast Go.Proofs.YtcmcpmkihpdnjaaW.PK
theorem Elaws_szIntS (l : List (Int)) (q : Int) (hq : 0 ≤ q) (hq' : q ≤ 1048576) (hm : l.length ≤ maxLen) : ∃ s : Int, s ≤ q ∧ (0 ≤ s → l.length ≤ 1048576) ∧ Evt (fun k => laws_szIntS.f l q) s := by
  unfold maxLen at hm
  have e : wrap64 (q - (l.length : Int)) = q - l.length := w64 (by omega) (by omega)
  by_cases hn : q - (l.length : Int) < 0
  · exact ⟨-1, by omega, fun h => by omega, .const fun k => by simp only [laws_szIntS.f, e, if_pos hn]⟩
  · exact ⟨q - l.length, by omega, fun h => by omega, .const fun k => by simp only [laws_szIntS.f, e, if_neg hn]⟩
theorem Elaws_szCondS (l : List (S178)) (q : Int) (hq : 0 ≤ q) (hq' : q ≤ 1048576) (hm : l.length ≤ maxLen) : ∃ s : Int, s ≤ q ∧ (0 ≤ s → l.length ≤ 1048576) ∧ Evt (fun k => laws_szCondS.f l q) s := by
  unfold maxLen at hm
  have e : wrap64 (q - (l.length : Int)) = q - l.length := w64 (by omega) (by omega)
  by_cases hn : q - (l.length : Int) < 0
  · exact ⟨-1, by omega, fun h => by omega, .const fun k => by simp only [laws_szCondS.f, e, if_pos hn]⟩
  · exact ⟨q - l.length, by omega, fun h => by omega, .const fun k => by simp only [laws_szCondS.f, e, if_neg hn]⟩
theorem Elaws_szRule (l0_0 : List Int) (l0_1 : List (S178)) (a0_2 : Int) (a0_3 : Int) (q : Int) (hq : 0 ≤ q) (hq' : q ≤ 1048576) (hl0_0 : ((∀ u4 ∈ l0_0, (Lit.int .i64 u4).wf = true) ∧ l0_0.length ≤ maxLen)) (hl0_1 : ((∀ u4 ∈ l0_1, ((Lit.int .i64 u4.f0).wf = true ∧ ((Lit.int .i64 u4.f1.f0).wf = true ∧ (Lit.int .i64 u4.f1.f1).wf = true) ∧ (Lit.int .i64 u4.f2).wf = true ∧ ((Lit.int .i64 u4.f3.f0).wf = true ∧ (Lit.int .i64 u4.f3.f1).wf = true))) ∧ l0_1.length ≤ maxLen)) : ∃ s : Int, s ≤ q ∧ (0 ≤ s → (l0_0.length ≤ 1048576 ∧ l0_1.length ≤ 1048576)) ∧ Evt (fun k => laws_szRule.f l0_0 l0_1 a0_2 a0_3 q) s := by
  obtain ⟨s0, hs0, hB0, K0, e0⟩ := Elaws_szIntS l0_0 (q) (by omega) (by omega) hl0_0.2
  by_cases n0 : s0 < 0
  · exact ⟨-1, by omega, fun h => by omega, 0 + K0, fun k hk => by simp only [laws_szRule.f, e0 k (by omega), Option.bind_some, if_pos n0]⟩
  obtain ⟨s1, hs1, hB1, K1, e1⟩ := Elaws_szCondS l0_1 (s0) (by omega) (by omega) hl0_1.2
  by_cases n1 : s1 < 0
  · exact ⟨-1, by omega, fun h => by omega, 0 + K0 + K1, fun k hk => by simp only [laws_szRule.f, e0 k (by omega), e1 k (by omega), Option.bind_some, if_neg n0, if_pos n1]⟩
  exact ⟨s1, by omega, fun h => ⟨hB0 (by omega), hB1 (by omega)⟩, 0 + K0 + K1, fun k hk => by simp only [laws_szRule.f, e0 k (by omega), e1 k (by omega), Option.bind_some, if_neg n0, if_neg n1]⟩
theorem nrd_T136 (l : List (S136)) (i : Nat) (h : i < l.length) : rd_T136 l (i : Int) = l[i] := getD_lt _ h
theorem Elaws_szRuleS (l : List (S136)) (q : Int) (hq : 0 ≤ q) (hq' : q ≤ 1048576) (hm : l.length ≤ maxLen) (hw : ∀ x ∈ l, (((∀ u4 ∈ x.f0, (Lit.int .i64 u4).wf = true) ∧ x.f0.length ≤ maxLen) ∧ ((∀ u4 ∈ x.f1, ((Lit.int .i64 u4.f0).wf = true ∧ ((Lit.int .i64 u4.f1.f0).wf = true ∧ (Lit.int .i64 u4.f1.f1).wf = true) ∧ (Lit.int .i64 u4.f2).wf = true ∧ ((Lit.int .i64 u4.f3.f0).wf = true ∧ (Lit.int .i64 u4.f3.f1).wf = true))) ∧ x.f1.length ≤ maxLen) ∧ (Lit.int .i64 x.f2).wf = true ∧ (Lit.int .i64 x.f3).wf = true)) : ∃ s : Int, s ≤ q ∧ (0 ≤ s → l.length ≤ 1048576 ∧ ∀ y ∈ l, (y.f0.length ≤ 1048576 ∧ y.f1.length ≤ 1048576)) ∧ Evt (fun k => laws_szRuleS.f k l q) s := by
  unfold maxLen at hm
  have e : wrap64 (q - (l.length : Int)) = q - l.length := w64 (by omega) (by omega)
  by_cases hn : q - (l.length : Int) < 0
  · exact ⟨-1, by omega, fun h => by omega, .const fun k => by simp only [laws_szRuleS.f, e, if_pos hn]⟩
  · have H := Evt.sz (F := fun k q i => laws_szRuleS.l0 k l q i) (n := l.length) (P := fun i => ∀ h : i < l.length, (l[i].f0.length ≤ 1048576 ∧ l[i].f1.length ≤ 1048576)) ?_ ?_ (q - l.length) (by omega) (by omega)
    · obtain ⟨s, hs, hP, hE⟩ := H
      refine ⟨s, by omega, fun h => ⟨by omega, fun y hy => ?_⟩, hE.congr fun k => ?_⟩
      · obtain ⟨i, hi, rfl⟩ := List.mem_iff_getElem.1 hy
        exact hP h i hi hi
      · simp only [laws_szRuleS.f, e, if_neg hn]
    · intro k q
      simp only [laws_szRuleS.l0]
      rw [if_neg (by omega)]
    · intro i hi q hq hq'
      obtain ⟨s, hs, hP, K, hK⟩ := Elaws_szRule l[i].f0 l[i].f1 l[i].f2 l[i].f3 q hq hq' ((hw _ (List.getElem_mem hi)).1) ((hw _ (List.getElem_mem hi)).2.1)
      dsimp only at hK
      refine ⟨s, hs, fun h _ => hP h, K, fun k hk => ?_⟩
      simp only [laws_szRuleS.l0]
      rw [if_pos (by omega), if_pos (by omega), nrd_T136 l i hi, hK k hk, wsucc hi (by omega)]
      all_goals rfl
theorem Elaws_szPolicy (a0_0 : Int) (a0_1 : Int) (a0_2 : Int) (l0_3 : List (S136)) (q : Int) (hq : 0 ≤ q) (hq' : q ≤ 1048576) (hl0_3 : ((∀ u4 ∈ l0_3, (((∀ u5 ∈ u4.f0, (Lit.int .i64 u5).wf = true) ∧ u4.f0.length ≤ maxLen) ∧ ((∀ u5 ∈ u4.f1, ((Lit.int .i64 u5.f0).wf = true ∧ ((Lit.int .i64 u5.f1.f0).wf = true ∧ (Lit.int .i64 u5.f1.f1).wf = true) ∧ (Lit.int .i64 u5.f2).wf = true ∧ ((Lit.int .i64 u5.f3.f0).wf = true ∧ (Lit.int .i64 u5.f3.f1).wf = true))) ∧ u4.f1.length ≤ maxLen) ∧ (Lit.int .i64 u4.f2).wf = true ∧ (Lit.int .i64 u4.f3).wf = true)) ∧ l0_3.length ≤ maxLen)) : ∃ s : Int, s ≤ q ∧ (0 ≤ s → (l0_3.length ≤ 1048576 ∧ ∀ v4 ∈ l0_3, (v4.f0.length ≤ 1048576 ∧ v4.f1.length ≤ 1048576))) ∧ Evt (fun k => laws_szPolicy.f k a0_0 a0_1 a0_2 l0_3 q) s := by
  obtain ⟨s0, hs0, hB0, K0, e0⟩ := Elaws_szRuleS l0_3 (q) (by omega) (by omega) hl0_3.2 hl0_3.1
  by_cases n0 : s0 < 0
  · exact ⟨-1, by omega, fun h => by omega, 0 + K0, fun k hk => by simp only [laws_szPolicy.f, e0 k (by omega), Option.bind_some, if_pos n0]⟩
  exact ⟨s0, by omega, fun h => hB0 (by omega), 0 + K0, fun k hk => by simp only [laws_szPolicy.f, e0 k (by omega), Option.bind_some, if_neg n0]⟩
theorem nrd (l : List (Int)) (i : Nat) (h : i < l.length) : rd l (i : Int) = l[i] := getD_lt _ h
theorem Elaws_toIntS (l : List (Int)) (hn : l.length ≤ 1048576) : Evt (fun k => laws_toIntS.f k l) (l.map (fun y => y)) := by
  have h := Evt.to (F := fun k y i => laws_toIntS.l0 k l y i) (x := l) (conv := (fun y => y)) ?_ ?_ (List.replicate l.length 0) (by simp)
  · refine h.congr fun k => ?_
    unfold laws_toIntS.f
    rw [if_pos (by omega), if_pos (by omega), Int.toNat_natCast]
  · intro k y
    simp only [laws_toIntS.l0]
    rw [if_neg (by omega)]
  · intro i hi
    have K : Nat := 0
    refine ⟨0, fun k hk y hy => ?_⟩
    simp only [laws_toIntS.l0]
    rw [if_pos (by omega), if_pos (by omega), nrd l i hi]
    rw [if_pos (by omega), wsucc hi (by omega), Int.toNat_natCast]
    all_goals rfl
theorem Elaws_toWide (a0_0 : Int) (a0_1 : Int) : Evt (fun k => laws_toWide.f a0_0 a0_1) (a0_0, a0_1) := by
  exact .const fun k => rfl
theorem Elaws_toCond (a0_0 : Int) (a0_1 : Int) (a0_2 : Int) (a0_3 : Int) (a0_4 : Int) (a0_5 : Int) : Evt (fun k => laws_toCond.f a0_0 a0_1 a0_2 a0_3 a0_4 a0_5) (a0_0, a0_1, a0_2, a0_3, a0_4, a0_5) := by
  exact .const fun k => rfl
def conv176 (a : S176) : S93 := ⟨a.f0, a.f1⟩
def conv178 (a : S178) : S95 := ⟨a.f0, (conv176 a.f1), a.f2, (conv176 a.f3)⟩
theorem nrd_T178 (l : List (S178)) (i : Nat) (h : i < l.length) : rd_T178 l (i : Int) = l[i] := getD_lt _ h
theorem Elaws_toCondS (l : List (S178)) (hn : l.length ≤ 1048576) : Evt (fun k => laws_toCondS.f k l) (l.map conv178) := by
  have h := Evt.to (F := fun k y i => laws_toCondS.l0 k l y i) (x := l) (conv := conv178) ?_ ?_ (List.replicate l.length z95) (by simp)
  · refine h.congr fun k => ?_
    unfold laws_toCondS.f
    rw [if_pos (by omega), if_pos (by omega), Int.toNat_natCast]
  · intro k y
    simp only [laws_toCondS.l0]
    rw [if_neg (by omega)]
  · intro i hi
    obtain ⟨K, hK⟩ := Elaws_toCond l[i].f0 l[i].f1.f0 l[i].f1.f1 l[i].f2 l[i].f3.f0 l[i].f3.f1
    dsimp only at hK
    refine ⟨K, fun k hk y hy => ?_⟩
    simp only [laws_toCondS.l0]
    rw [if_pos (by omega), if_pos (by omega), nrd_T178 l i hi, hK k hk]
    simp only [Option.bind_some]
    rw [if_pos (by omega), wsucc hi (by omega), Int.toNat_natCast]
    all_goals rfl
theorem Elaws_toRule (l0_0 : List Int) (l0_1 : List (S178)) (a0_2 : Int) (a0_3 : Int) (hl0_0 : l0_0.length ≤ 1048576) (hl0_1 : l0_1.length ≤ 1048576) : Evt (fun k => laws_toRule.f k l0_0 l0_1 a0_2 a0_3) ((l0_0.map (fun y => y)), (l0_1.map conv178), a0_2, a0_3) := by
  obtain ⟨K0, h0⟩ := Elaws_toIntS l0_0 hl0_0
  obtain ⟨K1, h1⟩ := Elaws_toCondS l0_1 hl0_1
  refine ⟨K0 + K1, fun k hk => ?_⟩
  simp only [laws_toRule.f, h0 k (by omega), h1 k (by omega), Option.bind_some]
  all_goals rfl
def conv136 (a : S136) : S91 := ⟨(a.f0.map (fun y => y)), (a.f1.map conv178), a.f2, a.f3⟩
theorem Elaws_toRuleS (l : List (S136)) (hn : l.length ≤ 1048576) (hB : ∀ y ∈ l, (y.f0.length ≤ 1048576 ∧ y.f1.length ≤ 1048576)) : Evt (fun k => laws_toRuleS.f k l) (l.map conv136) := by
  have h := Evt.to (F := fun k y i => laws_toRuleS.l0 k l y i) (x := l) (conv := conv136) ?_ ?_ (List.replicate l.length z91) (by simp)
  · refine h.congr fun k => ?_
    unfold laws_toRuleS.f
    rw [if_pos (by omega), if_pos (by omega), Int.toNat_natCast]
  · intro k y
    simp only [laws_toRuleS.l0]
    rw [if_neg (by omega)]
  · intro i hi
    obtain ⟨K, hK⟩ := Elaws_toRule l[i].f0 l[i].f1 l[i].f2 l[i].f3 ((hB _ (List.getElem_mem hi)).1) ((hB _ (List.getElem_mem hi)).2)
    dsimp only at hK
    refine ⟨K, fun k hk y hy => ?_⟩
    simp only [laws_toRuleS.l0]
    rw [if_pos (by omega), if_pos (by omega), nrd_T136 l i hi, hK k hk]
    simp only [Option.bind_some]
    rw [if_pos (by omega), wsucc hi (by omega), Int.toNat_natCast]
    all_goals rfl
theorem Elaws_toPolicy (a0_0 : Int) (a0_1 : Int) (a0_2 : Int) (l0_3 : List (S136)) (hl0_3 : (l0_3.length ≤ 1048576 ∧ ∀ v4 ∈ l0_3, (v4.f0.length ≤ 1048576 ∧ v4.f1.length ≤ 1048576))) : Evt (fun k => laws_toPolicy.f k a0_0 a0_1 a0_2 l0_3) (a0_0, a0_1, a0_2, (l0_3.map conv136)) := by
  obtain ⟨K0, h0⟩ := Elaws_toRuleS l0_3 hl0_3.1 hl0_3.2
  refine ⟨K0, fun k hk => ?_⟩
  simp only [laws_toPolicy.f, h0 k (by omega), Option.bind_some]
  all_goals rfl
theorem Elaws_eqIntS (l : List (Int)) (hn : l.length ≤ 4611686018427387904) : Evt (fun k => laws_eqIntS.f k l l) true := by
  have h := Evt.pass (F := fun k i => laws_eqIntS.l0 k l l i) (n := l.length) (r := true) ?_ ?_
  · refine h.congr fun k => ?_
    unfold laws_eqIntS.f
    rw [if_pos rfl]
  · refine .const fun k => ?_
    simp only [laws_eqIntS.l0]
    rw [if_neg (by omega)]
  · intro i hi
    refine ⟨0, fun k hk => ?_⟩
    simp only [laws_eqIntS.l0]
    rw [if_pos (by omega), if_pos (by omega), if_pos (by omega)]
    simp only [if_true]
    rw [wsucc hi (by omega)]
theorem Elaws_eqWide (a0_0 : Int) (a0_1 : Int) : Evt (fun k => laws_eqWide.f a0_0 a0_1 a0_0 a0_1) true := by
  refine ⟨0, fun k hk => ?_⟩
  simp only [laws_eqWide.f, Option.bind_some, if_true]
theorem Elaws_eqCond (a0_0 : Int) (a0_1 : Int) (a0_2 : Int) (a0_3 : Int) (a0_4 : Int) (a0_5 : Int) : Evt (fun k => laws_eqCond.f a0_0 a0_1 a0_2 a0_3 a0_4 a0_5 a0_0 a0_1 a0_2 a0_3 a0_4 a0_5) true := by
  refine ⟨0, fun k hk => ?_⟩
  simp only [laws_eqCond.f, laws_eqWide.f, Option.bind_some, if_true]
theorem nrd_T95 (l : List (S95)) (i : Nat) (h : i < l.length) : rd_T95 l (i : Int) = l[i] := getD_lt _ h
theorem Elaws_eqCondS (l : List (S95)) (hn : l.length ≤ 4611686018427387904) : Evt (fun k => laws_eqCondS.f k l l) true := by
  have h := Evt.pass (F := fun k i => laws_eqCondS.l0 k l l i) (n := l.length) (r := true) ?_ ?_
  · refine h.congr fun k => ?_
    unfold laws_eqCondS.f
    rw [if_pos rfl]
  · refine .const fun k => ?_
    simp only [laws_eqCondS.l0]
    rw [if_neg (by omega)]
  · intro i hi
    obtain ⟨K, hK⟩ := Elaws_eqCond l[i].f0 l[i].f1.f0 l[i].f1.f1 l[i].f2 l[i].f3.f0 l[i].f3.f1
    dsimp only at hK
    refine ⟨K, fun k hk => ?_⟩
    simp only [laws_eqCondS.l0]
    rw [if_pos (by omega), if_pos (by omega), if_pos (by omega), nrd_T95 l i hi, hK k hk]
    simp only [Option.bind_some, if_true]
    rw [wsucc hi (by omega)]
theorem Elaws_eqRule (l0_0 : List Int) (l0_1 : List (S95)) (a0_2 : Int) (a0_3 : Int) (hl0_0 : l0_0.length ≤ 4611686018427387904) (hl0_1 : l0_1.length ≤ 4611686018427387904) : Evt (fun k => laws_eqRule.f k l0_0 l0_1 a0_2 a0_3 l0_0 l0_1 a0_2 a0_3) true := by
  obtain ⟨K0, h0⟩ := Elaws_eqIntS l0_0 hl0_0
  obtain ⟨K1, h1⟩ := Elaws_eqCondS l0_1 hl0_1
  refine ⟨K0 + K1, fun k hk => ?_⟩
  simp only [laws_eqRule.f, h0 k (by omega), h1 k (by omega), Option.bind_some, if_true]
theorem nrd_T91 (l : List (S91)) (i : Nat) (h : i < l.length) : rd_T91 l (i : Int) = l[i] := getD_lt _ h
theorem Elaws_eqRuleS (l : List (S91)) (hn : l.length ≤ 4611686018427387904) (hB : ∀ y ∈ l, (y.f0.length ≤ 4611686018427387904 ∧ y.f1.length ≤ 4611686018427387904)) : Evt (fun k => laws_eqRuleS.f k l l) true := by
  have h := Evt.pass (F := fun k i => laws_eqRuleS.l0 k l l i) (n := l.length) (r := true) ?_ ?_
  · refine h.congr fun k => ?_
    unfold laws_eqRuleS.f
    rw [if_pos rfl]
  · refine .const fun k => ?_
    simp only [laws_eqRuleS.l0]
    rw [if_neg (by omega)]
  · intro i hi
    obtain ⟨K, hK⟩ := Elaws_eqRule l[i].f0 l[i].f1 l[i].f2 l[i].f3 ((hB _ (List.getElem_mem hi)).1) ((hB _ (List.getElem_mem hi)).2)
    dsimp only at hK
    refine ⟨K, fun k hk => ?_⟩
    simp only [laws_eqRuleS.l0]
    rw [if_pos (by omega), if_pos (by omega), if_pos (by omega), nrd_T91 l i hi, hK k hk]
    simp only [Option.bind_some, if_true]
    rw [wsucc hi (by omega)]
theorem Elaws_eqPolicy (a0_0 : Int) (a0_1 : Int) (a0_2 : Int) (l0_3 : List (S91)) (hl0_3 : (l0_3.length ≤ 4611686018427387904 ∧ ∀ v4 ∈ l0_3, (v4.f0.length ≤ 4611686018427387904 ∧ v4.f1.length ≤ 4611686018427387904))) : Evt (fun k => laws_eqPolicy.f k a0_0 a0_1 a0_2 l0_3 a0_0 a0_1 a0_2 l0_3) true := by
  obtain ⟨K0, h0⟩ := Elaws_eqRuleS l0_3 hl0_3.1 hl0_3.2
  refine ⟨K0, fun k hk => ?_⟩
  simp only [laws_eqPolicy.f, h0 k (by omega), Option.bind_some, if_true]
theorem markInt_l0 : ∀ (d i : Nat) (x : List Int) (q : Int), i + d = x.length → 0 ≤ q → q + d ≤ 2305843009213693952 → x.length ≤ 4611686018427387904 → ∃ y, Evt (fun k => laws_markIntS.l0 k x q (i : Int)) (q + d, y)
  | 0, i, x, q, hi, hq, hb, hl => by
    refine ⟨x, .succ (.const fun k => ?_)⟩
    simp only [laws_markIntS.l0]
    rw [if_neg (by omega)]
    simp
  | d + 1, i, x, q, hi, hq, hb, hl => by
    have hlt : i < x.length := by omega
    obtain ⟨y, K, h⟩ := markInt_l0 d (i + 1) (x.set i q) (q + 1) (by rw [List.length_set]; omega) (by omega) (by omega) (by rw [List.length_set]; exact hl)
    dsimp only at h
    have w1 : wrap64 (q + 1) = q + 1 := w64 (by omega) (by omega)
    refine ⟨y, .succ ⟨K, fun k hk => ?_⟩⟩
    simp only [laws_markIntS.l0]
    rw [if_pos (by omega), if_pos (by omega), w1, wsucc hlt (by omega), Int.toNat_natCast, h k hk]
    refine congrArg some (Prod.ext ?_ rfl)
    show q + 1 + (d : Int) = q + ((d + 1 : Nat) : Int)
    omega
theorem markCond_l0 : ∀ (d i : Nat) (x : List S95) (q : Int), i + d = x.length → 0 ≤ q → q + 6 * d ≤ 2305843009213693952 → x.length ≤ 4611686018427387904 → ∃ y, Evt (fun k => laws_markCondS.l0 k x q (i : Int)) (q + 6 * d, y)
  | 0, i, x, q, hi, hq, hb, hl => by
    refine ⟨x, .succ (.const fun k => ?_)⟩
    simp only [laws_markCondS.l0]
    rw [if_neg (by omega)]
    simp
  | d + 1, i, x, q, hi, hq, hb, hl => by
    have hlt : i < x.length := by omega
    obtain ⟨y, K, h⟩ := markCond_l0 d (i + 1) (x.set i ⟨q, ⟨q + 1, q + 2⟩, q + 3, ⟨q + 4, q + 5⟩⟩) (q + 6) (by rw [List.length_set]; omega) (by omega) (by omega) (by rw [List.length_set]; exact hl)
    dsimp only at h
    have w1 : wrap64 (q + 1) = q + 1 := w64 (by omega) (by omega)
    have w2 : wrap64 (q + 2) = q + 2 := w64 (by omega) (by omega)
    have w3 : wrap64 (q + 3) = q + 3 := w64 (by omega) (by omega)
    have w4 : wrap64 (q + 4) = q + 4 := w64 (by omega) (by omega)
    have w5 : wrap64 (q + 5) = q + 5 := w64 (by omega) (by omega)
    have w6 : wrap64 (q + 6) = q + 6 := w64 (by omega) (by omega)
    refine ⟨y, .succ ⟨K, fun k hk => ?_⟩⟩
    have rs : ∀ v, rd_T95 (x.set i v) (i : Int) = v := fun v => by rw [nrd_T95 _ i (by rw [List.length_set]; exact hlt), List.getElem_set_self]
    simp only [laws_markCondS.l0]
    rw [if_pos (by omega), if_pos (by omega)]
    simp only [Option.bind_some, Int.toNat_natCast, nrd_T95 _ i hlt, rs, List.set_set, w1, w2, w3, w4, w5, w6, Int.add_assoc, Int.reduceAdd]
    rw [wsucc hlt (by omega), h k hk]
    refine congrArg some (Prod.ext ?_ rfl)
    show q + 6 + 6 * (d : Int) = q + 6 * ((d + 1 : Nat) : Int)
    omega
set_option linter.unusedSectionVars false
/-- Marks of rules: they come to an end. -/
theorem markRules_l0 : ∀ (d i : Nat) (x : List S91) (q : Int), i + d = x.length → 0 ≤ q → (∀ j (h : j < x.length), i ≤ j → x[j].f0.length ≤ 1048576 ∧ x[j].f1.length ≤ 1048576) → q + 7340034 * d ≤ 2000000000000000000 → x.length ≤ 1048576 → ∃ r z, Evt (fun k => laws_markRuleS.l0 k x q (i : Int)) (r, z) ∧ 0 ≤ r := by
  intro d
  induction d with
  | zero =>
    intro i x q hi hq hb hB hl
    refine ⟨q, x, .succ (.const fun k => ?_), hq⟩
    simp only [laws_markRuleS.l0]
    rw [if_neg (by omega)]
  | succ d ih =>
    intro i x q hi hq hb hB hl
    have hlt : i < x.length := by omega
    obtain ⟨b0, b1⟩ := hb i hlt (Nat.le_refl _)
    obtain ⟨y, K1, h1⟩ := markInt_l0 x[i].f0.length 0 x[i].f0 q (by omega) hq (by omega) (by omega)
    obtain ⟨z, K2, h2⟩ := markCond_l0 x[i].f1.length 0 x[i].f1 (q + x[i].f0.length) (by omega) (by omega) (by omega) (by omega)
    generalize hs : q + (x[i].f0.length : Int) + 6 * (x[i].f1.length : Int) = s at h2
    have e1 : Aside0 (wrap64 (s + 1) = s + 1) := ⟨w64 (by omega) (by omega)⟩
    have e2 : Aside0 (wrap64 (s + 1 + 1) = s + 2) := ⟨by rw [w64 (by omega) (by omega)]; omega⟩
    obtain ⟨r, t, ⟨K3, h3⟩, hr⟩ := ih (i + 1) (x.set i ⟨y, z, s, s + 1⟩) (s + 2) (by rw [List.length_set]; omega) (by omega) (fun j hj hij => by
      rw [List.length_set] at hj
      rw [List.getElem_set_ne (by omega)]
      exact hb j hj (by omega)) (by omega) (by rw [List.length_set]; exact hl)
    dsimp only at h1 h2 h3
    refine ⟨r, t, .succ ⟨K1 + K2 + K3, fun k hk => ?_⟩, hr⟩
    simp only [laws_markRuleS.l0]
    rw [if_pos (by omega), if_pos (by omega), nrd_T91 x i hlt, show laws_markIntS.f k x[i].f0 q = _ from h1 k (by omega)]
    simp only [Option.bind_some]
    rw [show laws_markCondS.f k x[i].f1 (q + (x[i].f0.length : Int)) = _ from h2 k (by omega)]
    simp only [Option.bind_some, e1.out, e2.out, Int.toNat_natCast]
    rw [wsucc hlt (by omega)]
    exact h3 k (by omega)
theorem markPol (a b c : Int) (R : List S91) (hR : R.length ≤ 1048576) (hb : ∀ y ∈ R, y.f0.length ≤ 1048576 ∧ y.f1.length ≤ 1048576) : ∃ r z, Evt (fun k => laws_markPolicy.f k a b c R 1) (r, z) ∧ 0 ≤ r := markRules_l0 R.length 0 R 1 (by omega) (by omega) (fun j hj _ => hb _ (List.getElem_mem hj)) (by omega) hR
theorem markIntH_l0 : ∀ (d i : Nat) (x : List Int) (q : Int), i + d = x.length → 0 ≤ q → q + d ≤ 2305843009213693952 → x.length ≤ 4611686018427387904 → ∃ y, Evt (fun k => laws_markIntS.l0 k x q (i : Int)) (q + d, y) ∧ Evt (fun k => laws_heldIntS.l0 k y q (i : Int)) (q + d) ∧ y.length = x.length ∧ (∀ j, j < i → y[j]? = x[j]?)
  | 0, i, x, q, hi, hq, hb, hl => by
    refine ⟨x, .succ (.const fun k => ?_), .succ (.const fun k => ?_), rfl, fun _ _ => rfl⟩
    · simp only [laws_markIntS.l0]
      rw [if_neg (by omega)]
      simp
    · simp only [laws_heldIntS.l0]
      rw [if_neg (by omega)]
      simp
  | d + 1, i, x, q, hi, hq, hb, hl => by
    have hlt : i < x.length := by omega
    obtain ⟨y, ⟨K, h⟩, ⟨K2, h2⟩, hyl, hy⟩ := markIntH_l0 d (i + 1) (x.set i q) (q + 1) (by rw [List.length_set]; omega) (by omega) (by omega) (by rw [List.length_set]; exact hl)
    rw [List.length_set] at hyl
    dsimp only at h h2
    have w1 : wrap64 (q + 1) = q + 1 := w64 (by omega) (by omega)
    have hyi : y[i]? = some q := by rw [hy i (by omega), List.getElem?_set_self hlt]
    have hlt' : i < y.length := by omega
    have hyg : rd y (i : Int) = q := by
      have e : rd y (i : Int) = y[i] := getD_lt _ hlt'
      rw [e]
      rw [List.getElem?_eq_getElem hlt'] at hyi
      exact Option.some.inj hyi
    refine ⟨y, .succ ⟨K, fun k hk => ?_⟩, .succ ⟨K2, fun k hk => ?_⟩, hyl, fun j hj => ?_⟩
    · simp only [laws_markIntS.l0]
      rw [if_pos (by omega), if_pos (by omega), w1, wsucc hlt (by omega), Int.toNat_natCast, h k hk]
      refine congrArg some (Prod.ext ?_ rfl)
      show q + 1 + (d : Int) = q + ((d + 1 : Nat) : Int)
      omega
    · simp only [laws_heldIntS.l0]
      rw [if_pos (by omega), if_pos (by omega), if_pos hyg, w1, wsucc hlt' (by omega), h2 k hk]
      refine congrArg some ?_
      omega
    · rw [hy j (by omega), List.getElem?_set_ne (by omega)]
theorem markIntH (x : List Int) (hn : x.length ≤ 140737488355328) : ∃ y q, Evt (fun k => laws_markIntS.f k x 1) (q, y) ∧ Evt (fun k => laws_heldIntS.f k y 1) q ∧ 0 ≤ q := by
  obtain ⟨y, h1, h2, _, _⟩ := markIntH_l0 x.length 0 x 1 (by omega) (by omega) (by omega) (by omega)
  exact ⟨y, _, h1, h2, by omega⟩
/-- Two rows that rise and bear the same are one. -/
theorem riseEq : ∀ xs ys : List Int, xs.Pairwise (· < ·) → ys.Pairwise (· < ·) → (∀ a, a ∈ xs ↔ a ∈ ys) → xs = ys
  | [], [], _, _, _ => rfl
  | [], y :: ys, _, _, h => absurd ((h y).2 List.mem_cons_self) (by simp)
  | x :: xs, [], _, _, h => absurd ((h x).1 List.mem_cons_self) (by simp)
  | x :: xs, y :: ys, hx, hy, h => by
    rw [List.pairwise_cons] at hx hy
    have e : x = y := by
      rcases List.mem_cons.1 ((h x).1 List.mem_cons_self) with e | e
      · exact e
      rcases List.mem_cons.1 ((h y).2 List.mem_cons_self) with e2 | e2
      · exact e2.symm
      have h1 := hx.1 y e2
      have h2 := hy.1 x e
      omega
    subst e
    rw [riseEq xs ys hx.2 hy.2 (fun a => ⟨fun ha => by
      rcases List.mem_cons.1 ((h a).1 (List.mem_cons_of_mem _ ha)) with e | e
      · have := hx.1 a ha; omega
      · exact e, fun ha => by
      rcases List.mem_cons.1 ((h a).2 (List.mem_cons_of_mem _ ha)) with e | e
      · have := hy.1 a ha; omega
      · exact e⟩)]
theorem getArr (zs : List Int) (j : Nat) (h : j < zs.length) : zs.toArray[j]! = zs[j] := by simp [h]
theorem compact_mem (zs : List Int) (a : Int) : a ∈ Lib.compact zs ↔ a ∈ zs := by
  unfold Lib.compact Lib.compactUpTo
  rw [List.mem_map]
  constructor
  · rintro ⟨j, hj, rfl⟩
    rw [List.mem_filter, List.mem_range] at hj
    rw [getArr zs j hj.1]
    exact List.getElem_mem _
  · intro ha
    obtain ⟨j, hj, rfl⟩ := List.getElem_of_mem ha
    have key : ∀ m j (hj : j < zs.length), j ≤ m → ∃ i, i ∈ (List.range zs.length).filter (Lib.keeps zs.toArray) ∧ zs.toArray[i]! = zs[j] := by
      intro m
      induction m with
      | zero =>
        intro j hj hm
        have : j = 0 := by omega
        subst this
        refine ⟨0, ?_, getArr zs 0 hj⟩
        rw [List.mem_filter, List.mem_range]
        exact ⟨hj, by simp [Lib.keeps]⟩
      | succ m ih =>
        intro j hj hm
        by_cases hk : Lib.keeps zs.toArray j = true
        · exact ⟨j, by rw [List.mem_filter, List.mem_range]; exact ⟨hj, hk⟩, getArr zs j hj⟩
        · have hk2 : ¬ (j = 0 ∨ zs.toArray[j]! ≠ zs.toArray[j - 1]!) := by simpa only [Lib.keeps, decide_eq_true_eq] using hk
          have h0 : j ≠ 0 := fun h => hk2 (.inl h)
          have he : zs.toArray[j]! = zs.toArray[j - 1]! := Classical.byContradiction fun h => hk2 (.inr h)
          obtain ⟨i, hi, e⟩ := ih (j - 1) (by omega) (by omega)
          exact ⟨i, hi, by rw [e, ← getArr zs (j - 1) (by omega), ← he, getArr zs j hj]⟩
    exact key j j hj (Nat.le_refl _)
theorem compact_rise (zs : List Int) (h : zs.Pairwise (· ≤ ·)) : (Lib.compact zs).Pairwise (· < ·) := by
  unfold Lib.compact Lib.compactUpTo
  rw [List.pairwise_map]
  have hlt : ((List.range zs.length).filter (Lib.keeps zs.toArray)).Pairwise (· < ·) := List.Pairwise.filter _ List.pairwise_lt_range
  refine List.Pairwise.imp_of_mem ?_ hlt
  intro i j hi hj hij
  rw [List.mem_filter, List.mem_range] at hi hj
  have hk : j = 0 ∨ zs.toArray[j]! ≠ zs.toArray[j - 1]! := by simpa only [Lib.keeps, decide_eq_true_eq] using hj.2
  have hne : zs.toArray[j]! ≠ zs.toArray[j - 1]! := hk.resolve_left (by omega)
  have mono : ∀ a b (ha : a < zs.length) (hb : b < zs.length), a ≤ b → zs[a] ≤ zs[b] := by
    intro a b ha hb hab
    rcases Nat.lt_or_ge a b with hab | hab
    · exact List.pairwise_iff_getElem.1 h a b ha hb hab
    · have : a = b := by omega
      subst this
      exact Int.le_refl _
  rw [getArr zs i hi.1, getArr zs j hj.1]
  rw [getArr zs j hj.1, getArr zs (j - 1) (by omega)] at hne
  have h1 := mono i (j - 1) hi.1 (by omega) (by omega)
  have h2 := mono (j - 1) j (by omega) hj.1 (by omega)
  omega
theorem sort_rise (zs : List Int) : (zs.mergeSort fun x y => decide (x ≤ y)).Pairwise (· ≤ ·) := by
  have h := List.pairwise_mergeSort (le := fun x y : Int => decide (x ≤ y)) (fun a b c h1 h2 => by simp at h1 h2 ⊢; omega) (fun a b => by simp; omega) zs
  exact h.imp (fun h => by simpa using h)
/-- What a number put into a rising row makes of it. -/
def put (x : List Int) (a : Int) : List Int := if a ∈ x then x else x.filter (fun b => decide (b < a)) ++ [a] ++ x.filter (fun b => decide (b > a))
theorem put_mem (x : List Int) (a b : Int) : b ∈ put x a ↔ b ∈ x ∨ b = a := by
  unfold put
  split
  · rename_i h
    exact ⟨.inl, fun hb => hb.elim id (fun e => e ▸ h)⟩
  · rename_i h
    simp only [List.mem_append, List.mem_filter, List.mem_singleton, decide_eq_true_eq]
    constructor
    · rintro ((h1 | h1) | h1)
      · exact .inl h1.1
      · exact .inr h1
      · exact .inl h1.1
    · rintro (h1 | h1)
      · have hne : b ≠ a := fun e => h (e ▸ h1)
        rcases Int.lt_or_gt_of_ne hne with h2 | h2
        · exact .inl (.inl ⟨h1, h2⟩)
        · exact .inr ⟨h1, h2⟩
      · exact .inl (.inr h1)
theorem put_rise (x : List Int) (a : Int) (h : x.Pairwise (· < ·)) : (put x a).Pairwise (· < ·) := by
  unfold put
  split
  · exact h
  · rw [List.pairwise_append, List.pairwise_append]
    refine ⟨⟨h.filter _, by simp, fun u hu v hv => ?_⟩, h.filter _, fun u hu v hv => ?_⟩
    · rw [List.mem_filter, decide_eq_true_eq] at hu
      rw [List.mem_singleton] at hv
      omega
    · rw [List.mem_filter, decide_eq_true_eq] at hv
      rcases List.mem_append.1 hu with hu | hu
      · rw [List.mem_filter, decide_eq_true_eq] at hu
        omega
      · rw [List.mem_singleton] at hu
        omega
theorem put_len (x : List Int) (a : Int) : (put x a).length ≤ x.length + 1 ∨ 2 * x.length + 1 < (put x a).length := by
  unfold put
  split
  · exact .inl (by omega)
  · refine .inl ?_
    have key : ∀ l : List Int, (l.filter (fun b => decide (b < a))).length + (l.filter (fun b => decide (b > a))).length ≤ l.length := by
      intro l
      induction l with
      | nil => simp
      | cons b l ih =>
        by_cases h1 : b < a
        · rw [List.filter_cons_of_pos (by simpa using h1), List.filter_cons_of_neg (by simp; omega)]
          simp only [List.length_cons]
          omega
        · by_cases h2 : b > a
          · rw [List.filter_cons_of_neg (by simpa using h1), List.filter_cons_of_pos (by simpa using h2)]
            simp only [List.length_cons]
            omega
          · rw [List.filter_cons_of_neg (by simpa using h1), List.filter_cons_of_neg (by simpa using h2)]
            simp only [List.length_cons]
            omega
    have := key x
    simp only [List.length_append, List.length_cons, List.length_nil]
    omega
theorem inNums (x : List Int) (a : Int) (hn : x.length ≤ 4611686018427387904) : Evt (fun k => spec_l09In.f k x a) (decide (a ∈ x)) := by
  have key := down (T := fun i => Evt (fun k => spec_l09In.l0 k x a (i : Int)) (decide (a ∈ x.drop i))) (n := x.length) ?_ ?_ x.length 0 (by omega)
  · exact key
  · refine .succ (.const fun k => ?_)
    simp only [spec_l09In.l0]
    rw [if_neg (by omega), List.drop_length]
    simp
  · rintro i hi ⟨K, h⟩
    dsimp only at h
    refine .succ ⟨K, fun k hk => ?_⟩
    simp only [spec_l09In.l0]
    rw [if_pos (by omega), if_pos (by omega), nrd x i hi, List.drop_eq_getElem_cons hi]
    by_cases e : x[i] = a
    · rw [if_pos e]
      simp [e]
    · rw [if_neg e, wsucc hi (by omega), h k hk]
      refine congrArg some ?_
      rw [decide_eq_decide, List.mem_cons]
      exact ⟨.inr, fun h => h.resolve_left (fun h => e h.symm)⟩
theorem put_l1 (x : List Int) (a : Int) (hn : x.length ≤ 2000000000000) : ∀ d i (o : List Int), i + d = x.length → o.length + d ≤ 16000000000000 → Evt (fun k => spec_l10Put.l1 k x a o (i : Int)) (o ++ (x.drop i).filter (fun b => decide (b > a)))
  | 0, i, o, hi, ho => by
    refine .succ (.const fun k => ?_)
    simp only [spec_l10Put.l1]
    rw [if_neg (by omega), List.drop_eq_nil_of_le (by omega)]
    simp
  | d + 1, i, o, hi, ho => by
    have hlt : i < x.length := by omega
    rw [List.drop_eq_getElem_cons hlt]
    by_cases h : x[i] > a
    · obtain ⟨K, g⟩ := put_l1 x a hn d (i + 1) (o ++ [x[i]]) (by omega) (by simp; omega)
      refine .succ ⟨K, fun k hk => ?_⟩
      simp only [spec_l10Put.l1]
      rw [if_pos (by omega), if_pos (by omega), nrd x i hlt, if_pos h, if_pos (by omega), wsucc hlt (by omega), List.filter_cons_of_pos (by simpa using h)]
      have := g k hk
      rw [List.append_assoc] at this
      exact this
    · obtain ⟨K, g⟩ := put_l1 x a hn d (i + 1) o (by omega) (by omega)
      refine .succ ⟨K, fun k hk => ?_⟩
      simp only [spec_l10Put.l1]
      rw [if_pos (by omega), if_pos (by omega), nrd x i hlt, if_neg h, wsucc hlt (by omega), List.filter_cons_of_neg (by simpa using h)]
      exact g k hk
theorem put_l0 (x : List Int) (a : Int) (hn : x.length ≤ 2000000000000) : ∀ d i (o : List Int), i + d = x.length → o.length + d ≤ 4000000000000 → Evt (fun k => spec_l10Put.l0 k x a o (i : Int)) (o ++ (x.drop i).filter (fun b => decide (b < a)) ++ [a] ++ x.filter (fun b => decide (b > a)))
  | 0, i, o, hi, ho => by
    obtain ⟨K, g⟩ := put_l1 x a hn x.length 0 (o ++ [a]) (by omega) (by simp; omega)
    refine .succ ⟨K, fun k hk => ?_⟩
    simp only [spec_l10Put.l0]
    rw [if_neg (by omega), if_pos (by omega), List.drop_eq_nil_of_le (by omega)]
    simpa using g k hk
  | d + 1, i, o, hi, ho => by
    have hlt : i < x.length := by omega
    rw [List.drop_eq_getElem_cons hlt]
    by_cases h : x[i] < a
    · obtain ⟨K, g⟩ := put_l0 x a hn d (i + 1) (o ++ [x[i]]) (by omega) (by simp; omega)
      refine .succ ⟨K, fun k hk => ?_⟩
      simp only [spec_l10Put.l0]
      rw [if_pos (by omega), if_pos (by omega), nrd x i hlt, if_pos h, if_pos (by omega), wsucc hlt (by omega), List.filter_cons_of_pos (by simpa using h)]
      have := g k hk
      simp only [List.append_assoc, List.cons_append, List.nil_append] at this ⊢
      exact this
    · obtain ⟨K, g⟩ := put_l0 x a hn d (i + 1) o (by omega) (by omega)
      refine .succ ⟨K, fun k hk => ?_⟩
      simp only [spec_l10Put.l0]
      rw [if_pos (by omega), if_pos (by omega), nrd x i hlt, if_neg h, wsucc hlt (by omega), List.filter_cons_of_neg (by simpa using h)]
      exact g k hk
theorem putV (x : List Int) (a : Int) (hn : x.length ≤ 2000000000000) : Evt (fun k => spec_l10Put.f k x a) (put x a) := by
  obtain ⟨K1, h1⟩ := inNums x a (by omega)
  obtain ⟨K2, h2⟩ := put_l0 x a hn x.length 0 [] (by omega) (by simp; omega)
  dsimp only at h1 h2
  refine ⟨K1 + K2, fun k hk => ?_⟩
  simp only [spec_l10Put.f, h1 k (by omega), Option.bind_some, put, decide_eq_true_eq]
  by_cases h : a ∈ x
  · rw [if_pos h, if_pos h]
  · rw [if_neg h, if_neg h]
    have := h2 k (by omega)
    simpa using this
section
variable (a b c : Int) (R : List S91) (hR : R.length ≤ 1048576) (hb : ∀ y ∈ R, y.f0.length ≤ 1048576)
include hR hb
theorem nums_l1 (i : Nat) (hi : i < R.length) : ∀ d j (x : List Int), j + d = R[i].f0.length → x.length + d ≤ 2000000000000 → x.Pairwise (· < ·) → ∃ y : List Int, y.Pairwise (· < ·) ∧ y.length ≤ x.length + d ∧ (∀ u, u ∈ y ↔ u ∈ x ∨ u ∈ R[i].f0.drop j) ∧ ∀ O, Evt (fun k => spec_NumsOf.l0 k y ((i + 1 : Nat) : Int) a b c R) O → Evt (fun k => spec_NumsOf.l1 k x (i : Int) (j : Int) a b c R) O
  | 0, j, x, hj, hx, hr => by
    refine ⟨x, hr, by omega, fun u => ?_, fun O ⟨K, h⟩ => .succ ⟨K, fun k hk => ?_⟩⟩
    · rw [List.drop_eq_nil_of_le (by omega)]
      simp
    · dsimp only at h
      simp only [spec_NumsOf.l1]
      rw [if_pos (by omega), if_pos (by omega), nrd_T91 R i hi, if_neg (by omega), wsucc hi (by omega)]
      exact h k hk
  | d + 1, j, x, hj, hx, hr => by
    have hlt : j < R[i].f0.length := by omega
    have hlb := hb R[i] (List.getElem_mem hi)
    have hl := put_len x R[i].f0[j]
    obtain ⟨K1, h1⟩ := putV x R[i].f0[j] (by omega)
    have hl2 : (put x R[i].f0[j]).length ≤ x.length + 1 := by
      rcases hl with hl | hl
      · exact hl
      · exfalso
        have h3 : (put x R[i].f0[j]).length ≤ x.length + 1 + x.length := by
          unfold put
          split
          · omega
          · have g1 := List.length_filter_le (fun b => decide (b < R[i].f0[j])) x
            have g2 := List.length_filter_le (fun b => decide (b > R[i].f0[j])) x
            simp only [List.length_append, List.length_cons, List.length_nil]
            omega
        omega
    obtain ⟨y, hy, hyl, hym, hyE⟩ := nums_l1 i hi d (j + 1) (put x R[i].f0[j]) (by omega) (by omega) (put_rise x _ hr)
    dsimp only at h1
    refine ⟨y, hy, by omega, fun u => ?_, fun O hO => ?_⟩
    · rw [hym u, put_mem, List.drop_eq_getElem_cons hlt, List.mem_cons]
      constructor
      · rintro ((h | h) | h)
        · exact .inl h
        · exact .inr (.inl h)
        · exact .inr (.inr h)
      · rintro (h | h | h)
        · exact .inl (.inl h)
        · exact .inl (.inr h)
        · exact .inr h
    · obtain ⟨K, h⟩ := hyE O hO
      dsimp only at h
      refine .succ ⟨K + K1, fun k hk => ?_⟩
      simp only [spec_NumsOf.l1]
      rw [if_pos (by omega), if_pos (by omega), nrd_T91 R i hi, if_pos (by omega), if_pos (by omega), nrd R[i].f0 j hlt, h1 k (by omega)]
      simp only [Option.bind_some]
      rw [wsucc hlt (by omega)]
      exact h k (by omega)
theorem nums_l0 : ∀ d i (x : List Int), i + d = R.length → x.length + 1048576 * d ≤ 2000000000000 → x.Pairwise (· < ·) → ∃ O : List Int, Evt (fun k => spec_NumsOf.l0 k x (i : Int) a b c R) O ∧ O.Pairwise (· < ·) ∧ O.length ≤ x.length + 1048576 * d ∧ ∀ u, u ∈ O ↔ u ∈ x ∨ u ∈ (R.drop i).flatMap (·.f0)
  | 0, i, x, hi, hx, hr => by
    refine ⟨x, .succ (.const fun k => ?_), hr, by omega, fun u => ?_⟩
    · simp only [spec_NumsOf.l0]
      rw [if_neg (by omega)]
    · rw [List.drop_eq_nil_of_le (by omega)]
      simp
  | d + 1, i, x, hi, hx, hr => by
    have hlt : i < R.length := by omega
    have hlb := hb R[i] (List.getElem_mem hlt)
    obtain ⟨y, hy, hyl, hym, hyE⟩ := nums_l1 a b c R hR hb i hlt R[i].f0.length 0 x (by omega) (by omega) hr
    obtain ⟨O, hO, hOr, hOl, hOm⟩ := nums_l0 d (i + 1) y (by omega) (by omega) hy
    obtain ⟨K, h⟩ := hyE O hO
    dsimp only at h
    refine ⟨O, .succ ⟨K, fun k hk => ?_⟩, hOr, by omega, fun u => ?_⟩
    · simp only [spec_NumsOf.l0]
      rw [if_pos (by omega)]
      exact h k hk
    · rw [hOm u, hym u, List.drop_eq_getElem_cons hlt, List.flatMap_cons, List.mem_append, List.drop_zero, or_assoc]
theorem numsI_l0 : ∀ d i (x : List Int), i + d = R.length → x.length + 1048576 * d ≤ 2000000000000 → Evt (fun k => impl_NumsOf.l0 k x R (R.length : Int) (i : Int)) (Lib.compact ((x ++ (R.drop i).flatMap (·.f0)).mergeSort fun x y => decide (x ≤ y)))
  | 0, i, x, hi, hx => by
    refine .succ (.const fun k => ?_)
    simp only [impl_NumsOf.l0]
    rw [if_neg (by omega), List.drop_eq_nil_of_le (by omega)]
    simp only [slices_Sort_int_int.f, slices_Compact_int_int.f]
    rw [if_pos (by omega)]
    simp
  | d + 1, i, x, hi, hx => by
    have hlt : i < R.length := by omega
    have hlb := hb R[i] (List.getElem_mem hlt)
    obtain ⟨K, h⟩ := numsI_l0 d (i + 1) (x ++ R[i].f0) (by omega) (by rw [List.length_append]; omega)
    dsimp only at h
    refine .succ ⟨K, fun k hk => ?_⟩
    simp only [impl_NumsOf.l0]
    rw [if_pos (by omega), if_pos (by omega), if_pos (by omega), nrd_T91 R i hlt, if_pos (by omega), wsucc hlt (by omega), List.drop_eq_getElem_cons hlt, List.flatMap_cons, ← List.append_assoc]
    exact h k hk
theorem numsOf : ∃ O : List Int, O.length ≤ 1100000000000 ∧ O.Pairwise (· < ·) ∧ (∀ u, u ∈ O ↔ u ∈ R.flatMap (·.f0)) ∧ Evt (fun k => spec_NumsOf.f k a b c R) O ∧ Evt (fun k => impl_NumsOf.f k a b c R) O := by
  obtain ⟨O, hO, hr, hl, hm⟩ := nums_l0 a b c R hR hb R.length 0 [] (by omega) (by simp; omega) (by simp)
  have hI := numsI_l0 R hR hb R.length 0 [] (by omega) (by simp; omega)
  have e : Lib.compact ((([] : List Int) ++ (R.drop 0).flatMap (fun y : S91 => y.f0)).mergeSort fun x y => decide (x ≤ y)) = O := riseEq _ _ (compact_rise _ (sort_rise _)) hr (fun u => by
    rw [compact_mem, List.mem_mergeSort, hm u]
    simp)
  rw [e] at hI
  exact ⟨O, by simp at hl; omega, hr, fun u => by rw [hm u]; simp, hO, hI⟩
end
theorem main (a b c : Int) (l : List S136) (hl : ((∀ u4 ∈ l, (((∀ u5 ∈ u4.f0, (Lit.int .i64 u5).wf = true) ∧ u4.f0.length ≤ maxLen) ∧ ((∀ u5 ∈ u4.f1, ((Lit.int .i64 u5.f0).wf = true ∧ ((Lit.int .i64 u5.f1.f0).wf = true ∧ (Lit.int .i64 u5.f1.f1).wf = true) ∧ (Lit.int .i64 u5.f2).wf = true ∧ ((Lit.int .i64 u5.f3.f0).wf = true ∧ (Lit.int .i64 u5.f3.f1).wf = true))) ∧ u4.f1.length ≤ maxLen) ∧ (Lit.int .i64 u4.f2).wf = true ∧ (Lit.int .i64 u4.f3).wf = true)) ∧ l.length ≤ maxLen)) : ∃ k, laws_FnExactNumsOf.f k a b c l = some true := by
  obtain ⟨q, hq, hB, K1, h1⟩ := Elaws_szPolicy a b c l 1048576 (by omega) (by omega) hl
  dsimp only at h1
  by_cases hn : q < 0
  · exact ⟨K1, by simp only [laws_FnExactNumsOf.f, h1 K1 (Nat.le_refl _), Option.bind_some, if_pos hn]⟩
  have hB := hB (by omega)
  obtain ⟨K2, h2⟩ := Elaws_toPolicy a b c l hB
  have hR : (l.map conv136).length ≤ 1048576 := by rw [List.length_map]; exact hB.1
  have hb : ∀ y ∈ l.map conv136, y.f0.length ≤ 1048576 ∧ y.f1.length ≤ 1048576 := by
    intro y hy
    obtain ⟨u, hu, rfl⟩ := List.mem_map.1 hy
    have := hB.2 u hu
    simp only [conv136, List.length_map]
    exact this
  generalize l.map conv136 = R at h2 hR hb
  obtain ⟨O, hO, _, _, ⟨K3, h3⟩, ⟨K4, h4⟩⟩ := numsOf a b c R hR (fun y hy => (hb y hy).1)
  obtain ⟨K5, h5⟩ := Elaws_eqPolicy a b c R ⟨by omega, fun y hy => by have := hb y hy; omega⟩
  obtain ⟨K6, h6⟩ := Elaws_eqIntS O (by omega)
  obtain ⟨r, z, ⟨K7, h7⟩, hr⟩ := markPol a b c R hR hb
  obtain ⟨y2, q2, ⟨K8, h8⟩, ⟨K9, h9⟩, hq2⟩ := markIntH O (by omega)
  dsimp only at h2 h3 h4 h5 h6 h7 h8 h9
  have n1 : ¬ r < 0 := by omega
  have n2 : ¬ q2 < 0 := by omega
  obtain ⟨K, hK⟩ : ∃ K, K = K1 + K2 + K3 + K4 + K5 + K6 + K7 + K8 + K9 := ⟨_, rfl⟩
  refine ⟨K + 1, ?_⟩
  simp only [laws_FnExactNumsOf.f, h1 (K + 1) (by omega), h2 (K + 1) (by omega), h3 (K + 1) (by omega), h4 (K + 1) (by omega), h5 (K + 1) (by omega), h6 (K + 1) (by omega), h7 (K + 1) (by omega), Option.bind_some, if_neg hn, if_neg n1, if_true, Bool.not_true]
  simp only [laws_FnExactNumsOf.j0, Bool.false_eq_true, if_false, h2 K (by omega), h4 K (by omega), h6 K (by omega), h8 K (by omega), h9 K (by omega), Option.bind_some, if_neg n2, if_true]
end Go.Proofs.Ytcmcpmkihpdnjaa.PFnExactNumsOf
