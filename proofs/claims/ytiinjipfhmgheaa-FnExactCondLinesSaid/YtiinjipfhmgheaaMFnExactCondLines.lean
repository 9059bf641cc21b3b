/- The pure law of FnExactCondLines: what the functions of the program and of the reference come to is the same, for all arguments that the law is asked of. No conditions. -/
import Derived.Test.YtiinjipfhmgheaaPFnExactCondLinesy7
import Derived.Test.YtiinjipfhmgheaaEV
set_option linter.unusedSimpArgs false
set_option linter.unusedVariables false
namespace Go.Proofs.Ytiinjipfhmgheaa.PFnExactCondLines
open Go Go.RowKit Go.Proofs.YtiinjipfhmgheaaW.PrintWords Go.Proofs.YtiinjipfhmgheaaW.PrintLast Go.Proofs.YtiinjipfhmgheaaW.PK
theorem Elaws_toWide (a0_0 : Int) (a0_1 : Int) : Evt (fun k => laws_toWide.f a0_0 a0_1) (a0_0, a0_1) := by
  exact .const fun k => rfl
theorem Elaws_toCond (a0_0 : Int) (a0_1 : Int) (a0_2 : Int) (a0_3 : Int) (a0_4 : Int) (a0_5 : Int) : Evt (fun k => laws_toCond.f a0_0 a0_1 a0_2 a0_3 a0_4 a0_5) (a0_0, a0_1, a0_2, a0_3, a0_4, a0_5) := by
  exact .const fun k => rfl
theorem Elaws_eqIns (a0_0 : Int) (a0_1 : Int) (a0_2 : Int) (a0_3 : Int) : Evt (fun k => laws_eqIns.f a0_0 a0_1 a0_2 a0_3 a0_0 a0_1 a0_2 a0_3) true := by
  refine ⟨0, fun k hk => ?_⟩
  simp only [laws_eqIns.f, Option.bind_some, if_true]
theorem Elaws_eqLine (a0_0 : ByteArray) (a0_1 : Int) (a0_2 : Int) (a0_3 : Int) (a0_4 : Int) (a0_5 : ByteArray) (a0_6 : ByteArray) : Evt (fun k => laws_eqLine.f a0_0 a0_1 a0_2 a0_3 a0_4 a0_5 a0_6 a0_0 a0_1 a0_2 a0_3 a0_4 a0_5 a0_6) true := by
  refine ⟨0, fun k hk => ?_⟩
  simp only [laws_eqLine.f, laws_eqIns.f, Option.bind_some, if_true]
theorem nrd_T124 (l : List (S124)) (i : Nat) (h : i < l.length) : rd_T124 l (i : Int) = l[i] := getD_lt _ h
theorem Elaws_eqLineS (l : List (S124)) (hn : l.length ≤ 4611686018427387904) : Evt (fun k => laws_eqLineS.f k l l) true := by
  have h := Evt.pass (F := fun k i => laws_eqLineS.l0 k l l i) (n := l.length) (r := true) ?_ ?_
  · refine h.congr fun k => ?_
    unfold laws_eqLineS.f
    rw [if_pos rfl]
  · refine .const fun k => ?_
    simp only [laws_eqLineS.l0]
    rw [if_neg (by omega)]
  · intro i hi
    obtain ⟨K, hK⟩ := Elaws_eqLine l[i].f0 l[i].f1.f0 l[i].f1.f1 l[i].f1.f2 l[i].f1.f3 l[i].f2 l[i].f3
    dsimp only at hK
    refine ⟨K, fun k hk => ?_⟩
    simp only [laws_eqLineS.l0]
    rw [if_pos (by omega), if_pos (by omega), if_pos (by omega), nrd_T124 l i hi, hK k hk]
    simp only [Option.bind_some, if_true]
    rw [wsucc hi (by omega)]
theorem inS (a b c : Int) : spec_l01In.f a b c = some (decide (b ≤ a ∧ a ≤ c)) := by
  unfold spec_l01In.f
  by_cases h : a ≥ b
  · rw [if_pos h]
    exact congrArg some (by rw [Bool.eq_iff_iff]; simp; omega)
  · rw [if_neg h]
    exact congrArg some (by rw [Bool.eq_iff_iff]; simp; omega)
theorem inI (a b c : Int) : impl_within.f a b c = some (decide (b ≤ a ∧ a ≤ c)) := inS a b c
theorem halfS (a : Int) : spec_HalfOk.f a = some (decide (0 ≤ a ∧ a ≤ 4294967295)) := by
  unfold spec_HalfOk.f
  rw [inS]
  rfl
theorem halfI (a : Int) : impl_HalfOk.f a = some (decide (0 ≤ a ∧ a ≤ 4294967295)) := halfS a
theorem wideS (a b : Int) : spec_WideOk.f a b = some (decide ((0 ≤ a ∧ a ≤ 4294967295) ∧ (0 ≤ b ∧ b ≤ 4294967295))) := by
  unfold spec_WideOk.f
  simp only [halfS, Option.bind_some, decide_eq_true_eq]
  split
  · rename_i h
    exact congrArg some (by rw [Bool.eq_iff_iff]; simp [h])
  · rename_i h
    exact congrArg some (by rw [Bool.eq_iff_iff]; simp [h])
theorem wideI (a b : Int) : impl_WideOk.f a b = some (decide ((0 ≤ a ∧ a ≤ 4294967295) ∧ (0 ≤ b ∧ b ≤ 4294967295))) := wideS a b
theorem condS (a b c d e f : Int) : spec_CondOk.f a b c d e f = some (decide ((0 ≤ a ∧ a ≤ 2) ∧ ((0 ≤ b ∧ b ≤ 4294967295) ∧ (0 ≤ c ∧ c ≤ 4294967295)) ∧ ((0 ≤ e ∧ e ≤ 4294967295) ∧ (0 ≤ f ∧ f ≤ 4294967295)) ∧ 1 ≤ d ∧ d ≤ 6)) := by
  unfold spec_CondOk.f
  simp only [inS, wideS, Option.bind_some, decide_eq_true_eq]
  repeat' split
  all_goals (refine congrArg some ?_; rw [Bool.eq_iff_iff]; simp only [Bool.false_eq_true, decide_eq_true_eq, false_iff])
  all_goals omega
theorem condI (a b c d e f : Int) : impl_CondOk.f a b c d e f = some (decide ((0 ≤ a ∧ a ≤ 2) ∧ ((0 ≤ b ∧ b ≤ 4294967295) ∧ (0 ≤ c ∧ c ≤ 4294967295)) ∧ ((0 ≤ e ∧ e ≤ 4294967295) ∧ (0 ≤ f ∧ f ≤ 4294967295)) ∧ 1 ≤ d ∧ d ≤ 6)) := condS a b c d e f
theorem rdn124 (l : List S124) (i : Nat) (h : i < l.length) : rd_T124 l (i : Int) = l[i] := getD_lt _ h
/-- A mark as a text: it is told for each number. -/
theorem markText_l0 : ∀ (m : Nat) (q : Int) (s : ByteArray), q ≤ m → m + s.size ≤ 9223372036854775000 → Tot (fun k => laws_markText.l0 k q s) := by
  intro m
  induction m with
  | zero =>
    intro q s h1 h2
    refine .succ (.const (v := (⟨#[109]⟩ : ByteArray) ++ s) fun k => ?_)
    simp only [laws_markText.l0]
    rw [if_neg (by omega), if_pos (by omega)]
  | succ m ih =>
    intro q s h1 h2
    by_cases hq : q > 0
    · have ed : q.tdiv 10 = q / 10 := Int.tdiv_eq_ediv_of_nonneg (by omega)
      have h10 : q.tdiv 10 ≤ m := by omega
      have e10 : wrap64 (q.tdiv 10) = q.tdiv 10 := w64 (by omega) (by omega)
      have e1 : (strOfNums [(wrap64 (48 + (Int.tmod q 10))) % 256]).size = 1 := rfl
      obtain ⟨v, K, h⟩ := ih (q.tdiv 10) (strOfNums [(wrap64 (48 + (Int.tmod q 10))) % 256] ++ s) h10 (by rw [ByteArray.size_append, e1]; omega)
      refine ⟨v, .succ ⟨K, fun k hk => ?_⟩⟩
      simp only [laws_markText.l0]
      rw [if_pos hq]
      simp only [Option.bind_some]
      rw [if_pos (by rw [e1]; omega), e10]
      exact h k hk
    · refine .succ (.const (v := (⟨#[109]⟩ : ByteArray) ++ s) fun k => ?_)
      simp only [laws_markText.l0]
      rw [if_neg hq, if_pos (by omega)]
theorem markText (q : Int) (hq : q ≤ 4611686018427387904) : ∃ v, Evt (fun k => laws_markText.f k q) v := by
  by_cases h : q ≤ 0
  · exact ⟨_, .const fun k => by simp only [laws_markText.f]; rw [if_pos h]⟩
  · obtain ⟨v, K, hv⟩ := markText_l0 q.toNat q ⟨#[]⟩ (by omega) (by show _ + 0 ≤ _; omega)
    exact ⟨v, K, fun k hk => by simp only [laws_markText.f]; rw [if_neg h]; exact hv k hk⟩
/-- Lines marked from an index on hold the marks. -/
theorem markLine_l0 : ∀ (d i : Nat) (x : List S124) (q : Int), i + d = x.length → 0 ≤ q → q + 7 * d ≤ 2305843009213693952 → x.length ≤ 4611686018427387904 → ∃ y, Evt (fun k => laws_markLineS.l0 k x q (i : Int)) (q + 7 * d, y) ∧ Evt (fun k => laws_heldLineS.l0 k y q (i : Int)) (q + 7 * d) ∧ y.length = x.length ∧ (∀ j, j < i → y[j]? = x[j]?)
  | 0, i, x, q, hi, hq, hb, hl => by
    refine ⟨x, .succ (.const fun k => ?_), .succ (.const fun k => ?_), rfl, fun _ _ => rfl⟩
    · simp only [laws_markLineS.l0]
      rw [if_neg (by omega)]
      simp
    · simp only [laws_heldLineS.l0]
      rw [if_neg (by omega)]
      simp
  | d + 1, i, x, q, hi, hq, hb, hl => by
    have hlt : i < x.length := by omega
    obtain ⟨t0, K0, m0⟩ := markText q (by omega)
    obtain ⟨t5, K5, m5⟩ := markText (q + 5) (by omega)
    obtain ⟨t6, K6, m6⟩ := markText (q + 6) (by omega)
    dsimp only at m0 m5 m6
    obtain ⟨y, ⟨K1, h1⟩, ⟨K2, h2⟩, hyl, hy⟩ := markLine_l0 d (i + 1) (x.set i ⟨t0, ⟨q + 1, q + 2, q + 3, q + 4⟩, t5, t6⟩) (q + 7) (by rw [List.length_set]; omega) (by omega) (by omega) (by rw [List.length_set]; exact hl)
    rw [List.length_set] at hyl
    dsimp only at h1 h2
    have w1 : wrap64 (q + 1) = q + 1 := w64 (by omega) (by omega)
    have w2 : wrap64 (q + 2) = q + 2 := w64 (by omega) (by omega)
    have w3 : wrap64 (q + 3) = q + 3 := w64 (by omega) (by omega)
    have w4 : wrap64 (q + 4) = q + 4 := w64 (by omega) (by omega)
    have w5 : wrap64 (q + 5) = q + 5 := w64 (by omega) (by omega)
    have w6 : wrap64 (q + 6) = q + 6 := w64 (by omega) (by omega)
    have w7 : wrap64 (q + 7) = q + 7 := w64 (by omega) (by omega)
    have hyi : y[i]? = some ⟨t0, ⟨q + 1, q + 2, q + 3, q + 4⟩, t5, t6⟩ := by rw [hy i (by omega), List.getElem?_set_self hlt]
    have hlt' : i < y.length := by omega
    have hyg : y[i] = ⟨t0, ⟨q + 1, q + 2, q + 3, q + 4⟩, t5, t6⟩ := by
      rw [List.getElem?_eq_getElem hlt'] at hyi
      exact Option.some.inj hyi
    refine ⟨y, .succ ⟨K0 + K5 + K6 + K1, fun k hk => ?_⟩, .succ ⟨K0 + K5 + K6 + K2, fun k hk => ?_⟩, hyl, fun j hj => ?_⟩
    · have rs : ∀ v, rd_T124 (x.set i v) (i : Int) = v := fun v => by rw [rdn124 _ i (by rw [List.length_set]; exact hlt), List.getElem_set_self]
      simp only [laws_markLineS.l0]
      rw [if_pos (by omega), m0 k (by omega)]
      simp only [Option.bind_some]
      rw [if_pos (by omega)]
      simp only [Option.bind_some, Int.toNat_natCast, rdn124 _ i hlt, rs, List.set_set, w1, w2, w3, w4, w5, w6, w7, Int.add_assoc, Int.reduceAdd, m5 k (by omega), m6 k (by omega)]
      rw [wsucc hlt (by omega), h1 k (by omega)]
      refine congrArg some (Prod.ext ?_ rfl)
      show q + 7 + 7 * (d : Int) = q + 7 * ((d + 1 : Nat) : Int)
      omega
    · simp only [laws_heldLineS.l0]
      rw [if_pos (by omega), if_pos (by omega), rdn124 y i hlt', hyg, m0 k (by omega)]
      simp only [Option.bind_some, w1, w2, w3, w4, w5, w6, w7, Int.add_assoc, Int.reduceAdd, m5 k (by omega), m6 k (by omega), if_true]
      rw [wsucc hlt' (by omega), h2 k (by omega)]
      refine congrArg some ?_
      omega
    · rw [hy j (by omega), List.getElem?_set_ne (by omega)]
theorem markLine (x : List S124) (hn : x.length ≤ 140737488355328) : ∃ y q, Evt (fun k => laws_markLineS.f k x 1) (q, y) ∧ Evt (fun k => laws_heldLineS.f k y 1) q ∧ 0 ≤ q := by
  obtain ⟨y, h1, h2, _, _⟩ := markLine_l0 x.length 0 x 1 (by omega) (by omega) (by omega) (by omega)
  exact ⟨y, _, h1, h2, by omega⟩
def lw (a b : Int) : S124 := ⟨⟨#[]⟩, ⟨a, b, 0, 0⟩, ⟨#[]⟩, ⟨#[]⟩⟩
def la (a b : Int) (s t : ByteArray) : S124 := ⟨⟨#[]⟩, ⟨a, b, 0, 0⟩, s, t⟩
def lp (s : ByteArray) : S124 := ⟨s, ⟨0, 0, 0, 0⟩, ⟨#[]⟩, ⟨#[]⟩⟩
def cSame (a b c e f : Int) (s1 s2 s3 : ByteArray) : List S124 := [lw 1 (wrap64 (3 + wrap64 (2 * a))), lw 2 b, la 3 e (s1 ++ ⟨#[97]⟩) s3, lp (s1 ++ ⟨#[97]⟩), lw 1 (wrap64 (2 + wrap64 (2 * a))), lw 2 c, la 3 f s2 s3]
def cAbove (a b c e f o : Int) (s1 s2 s3 : ByteArray) : List S124 := [lw 1 (wrap64 (3 + wrap64 (2 * a))), lw 2 b, la 4 e s2 (s1 ++ ⟨#[97]⟩), lp (s1 ++ ⟨#[97]⟩), la 3 e (s1 ++ ⟨#[98]⟩) s3, lp (s1 ++ ⟨#[98]⟩), lw 1 (wrap64 (2 + wrap64 (2 * a))), lw 2 c, la o f s2 s3]
theorem sameS (a b c d e f : Int) (s1 s2 s3 : ByteArray) (h : s1.size ≤ 9000000000000000000) : spec_l12Same.f a b c d e f s1 s2 s3 = some (cSame a b c e f s1 s2 s3) := by
  simp only [spec_l12Same.f, spec_l12Half.f, spec_l11Word.f, spec_l11Asks.f, Option.bind_some, if_true, Bool.false_eq_true, if_false, if_pos (show s1.size + 1 ≤ 9223372036854775807 by omega)]
  rfl
theorem aboveS (a b c d e f o : Int) (s1 s2 s3 : ByteArray) (h : s1.size ≤ 9000000000000000000) : spec_l12Above.f a b c d e f o s1 s2 s3 = some (cAbove a b c e f o s1 s2 s3) := by
  simp only [spec_l12Above.f, spec_l12Half.f, spec_l11Word.f, spec_l11Asks.f, Option.bind_some, if_true, Bool.false_eq_true, if_false, if_pos (show s1.size + 1 ≤ 9223372036854775807 by omega)]
  rfl
/-- The lines of a condition: the same on both sides, and few. -/
def cLines (a b c d e f : Int) (s1 s2 s3 : ByteArray) : List S124 :=
  if (0 ≤ a ∧ a ≤ 2) ∧ ((0 ≤ b ∧ b ≤ 4294967295) ∧ (0 ≤ c ∧ c ≤ 4294967295)) ∧ ((0 ≤ e ∧ e ≤ 4294967295) ∧ (0 ≤ f ∧ f ≤ 4294967295)) ∧ 1 ≤ d ∧ d ≤ 6 then
    (if d = 1 then cSame a b c e f s1 s2 s3 else if d = 2 then cSame a b c e f s1 s3 s2 else if d = 5 then cAbove a b c e f 4 s1 s2 s3 else if d = 6 then cAbove a b c e f 5 s1 s2 s3 else if d = 4 then cAbove a b c e f 4 s1 s3 s2 else cAbove a b c e f 5 s1 s3 s2)
  else []
theorem cLines_len (a b c d e f : Int) (s1 s2 s3 : ByteArray) : (cLines a b c d e f s1 s2 s3).length ≤ 9 := by
  unfold cLines
  repeat' split
  all_goals simp [cSame, cAbove]
theorem linesS (a b c d e f : Int) (s1 s2 s3 : ByteArray) (h : s1.size ≤ 9000000000000000000) : spec_CondLines.f a b c d e f s1 s2 s3 = some (cLines a b c d e f s1 s2 s3) := by
  unfold spec_CondLines.f cLines
  rw [condS]
  simp only [Option.bind_some, decide_eq_true_eq, sameS _ _ _ _ _ _ s1 _ _ h, aboveS _ _ _ _ _ _ _ s1 _ _ h]
  by_cases hc : (0 ≤ a ∧ a ≤ 2) ∧ ((0 ≤ b ∧ b ≤ 4294967295) ∧ (0 ≤ c ∧ c ≤ 4294967295)) ∧ ((0 ≤ e ∧ e ≤ 4294967295) ∧ (0 ≤ f ∧ f ≤ 4294967295)) ∧ 1 ≤ d ∧ d ≤ 6
  · simp only [if_pos hc]
    repeat' split
    all_goals rfl
  · simp only [if_neg hc]
theorem aboveI (k : Nat) (a b c d e f o : Int) (s1 s2 s3 : ByteArray) : impl_CondLines.j0 (k + 1) s2 s3 (s1 ++ ⟨#[97]⟩) (s1 ++ ⟨#[98]⟩) [lw 1 (wrap64 (3 + wrap64 (2 * a))), lw 2 b] [lw 1 (wrap64 (2 + wrap64 (2 * a))), lw 2 c] o a b c d e f = some (cAbove a b c e f o s1 s2 s3) := by
  simp only [impl_CondLines.j0, impl_ask.f, impl_place.f, Option.bind_some]
  rfl
theorem linesI (k : Nat) (a b c d e f : Int) (s1 s2 s3 : ByteArray) (h : s1.size ≤ 9000000000000000000) : impl_CondLines.f (k + 1) a b c d e f s1 s2 s3 = some (cLines a b c d e f s1 s2 s3) := by
  unfold impl_CondLines.f cLines
  rw [condI]
  simp only [Option.bind_some, decide_eq_true_eq]
  by_cases hc : (0 ≤ a ∧ a ≤ 2) ∧ ((0 ≤ b ∧ b ≤ 4294967295) ∧ (0 ≤ c ∧ c ≤ 4294967295)) ∧ ((0 ≤ e ∧ e ≤ 4294967295) ∧ (0 ≤ f ∧ f ≤ 4294967295)) ∧ 1 ≤ d ∧ d ≤ 6
  · rw [if_pos hc, if_pos hc, if_pos (by omega)]
    simp only [impl_word.f, impl_ask.f, impl_place.f, Option.bind_some]
    have j := fun o s2 s3 => aboveI k a b c d e f o s1 s2 s3
    unfold lw at j
    by_cases h1 : d = 1
    · subst h1
      rfl
    by_cases h2 : d = 2
    · subst h2
      rfl
    by_cases h3 : d = 3
    · subst h3
      exact j 5 s3 s2
    by_cases h4 : d = 4
    · subst h4
      exact j 4 s3 s2
    by_cases h5 : d = 5
    · subst h5
      exact j 4 s2 s3
    have h6 : d = 6 := by omega
    subst h6
    exact j 5 s2 s3
  · rw [if_neg hc, if_neg hc]
theorem main (a b c d e f : Int) (s1 s2 s3 : ByteArray) : ∃ k, laws_FnExactCondLines.f k a b c d e f s1 s2 s3 = some true := by
  by_cases g1 : (s1.size : Int) > 1048576
  · exact ⟨0, by simp only [laws_FnExactCondLines.f, if_pos g1]⟩
  by_cases g2 : (s2.size : Int) > 1048576
  · exact ⟨0, by simp only [laws_FnExactCondLines.f, if_neg g1, if_pos g2]⟩
  by_cases g3 : (s3.size : Int) > 1048576
  · exact ⟨0, by simp only [laws_FnExactCondLines.f, if_neg g1, if_neg g2, if_pos g3]⟩
  have hl := cLines_len a b c d e f s1 s2 s3
  have hS := linesS a b c d e f s1 s2 s3 (by omega)
  have hI := fun k => linesI k a b c d e f s1 s2 s3 (by omega)
  generalize cLines a b c d e f s1 s2 s3 = L at hl hS hI
  obtain ⟨K5, h5⟩ := Elaws_eqLineS L (by omega)
  obtain ⟨y, q, ⟨K6, h6⟩, ⟨K7, h7⟩, hq⟩ := markLine L (by omega)
  dsimp only at h5 h6 h7
  have hn : ¬ q < 0 := by omega
  refine ⟨K5 + K6 + K7 + 1, ?_⟩
  simp only [laws_FnExactCondLines.f, if_neg g1, if_neg g2, if_neg g3, laws_toCond.f, laws_toWide.f, Option.bind_some, hS, hI, h5 _ (show K5 ≤ K5 + K6 + K7 + 1 by omega), h6 _ (show K6 ≤ K5 + K6 + K7 + 1 by omega), h7 _ (show K7 ≤ K5 + K6 + K7 + 1 by omega), if_true, if_neg hn]
end Go.Proofs.Ytiinjipfhmgheaa.PFnExactCondLines
