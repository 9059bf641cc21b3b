/- The pure law of FnCondLinesTold: the lines of drawn conditions and rules are what the reference tells. No conditions. -/
import Derived.Test.YtlgndgjbfjefpaaPFnCondLinesToldy9
import Derived.Test.YtlgndgjbfjefpaaEV
set_option linter.unusedSimpArgs false
set_option linter.unusedVariables false
namespace Go.Proofs.Ytlgndgjbfjefpaa.PFnCondLinesTold
open Go Go.RowKit Go.Proofs.YtlgndgjbfjefpaaW.PrintWords Go.Proofs.YtlgndgjbfjefpaaW.PrintLast Go.Proofs.YtlgndgjbfjefpaaW.PK
theorem inS (a b c : Int) : spec_l01In.f a b c = some (decide (b ≤ a ∧ a ≤ c)) := by
  unfold spec_l01In.f
  by_cases h : a ≥ b
  · rw [if_pos h]
    exact congrArg some (by rw [Bool.eq_iff_iff]; simp; omega)
  · rw [if_neg h]
    exact congrArg some (by rw [Bool.eq_iff_iff]; simp; omega)
theorem inI (a b c : Int) : impl_within.f a b c = some (decide (b ≤ a ∧ a ≤ c)) := inS a b c
theorem halfS (a : Int) : spec_HalfOk.f a = some (decide (0 ≤ a ∧ a ≤ 4294967295)) := by
  unfold spec_HalfOk.f
  rw [inS]
  rfl
theorem halfI (a : Int) : impl_HalfOk.f a = some (decide (0 ≤ a ∧ a ≤ 4294967295)) := halfS a
theorem wideS (a b : Int) : spec_WideOk.f a b = some (decide ((0 ≤ a ∧ a ≤ 4294967295) ∧ (0 ≤ b ∧ b ≤ 4294967295))) := by
  unfold spec_WideOk.f
  simp only [halfS, Option.bind_some, decide_eq_true_eq]
  split
  · rename_i h
    exact congrArg some (by rw [Bool.eq_iff_iff]; simp [h])
  · rename_i h
    exact congrArg some (by rw [Bool.eq_iff_iff]; simp [h])
theorem wideI (a b : Int) : impl_WideOk.f a b = some (decide ((0 ≤ a ∧ a ≤ 4294967295) ∧ (0 ≤ b ∧ b ≤ 4294967295))) := wideS a b
theorem condS (a b c d e f : Int) : spec_CondOk.f a b c d e f = some (decide ((0 ≤ a ∧ a ≤ 2) ∧ ((0 ≤ b ∧ b ≤ 4294967295) ∧ (0 ≤ c ∧ c ≤ 4294967295)) ∧ ((0 ≤ e ∧ e ≤ 4294967295) ∧ (0 ≤ f ∧ f ≤ 4294967295)) ∧ 1 ≤ d ∧ d ≤ 6)) := by
  unfold spec_CondOk.f
  simp only [inS, wideS, Option.bind_some, decide_eq_true_eq]
  repeat' split
  all_goals (refine congrArg some ?_; rw [Bool.eq_iff_iff]; simp only [Bool.false_eq_true, decide_eq_true_eq, false_iff])
  all_goals omega
theorem condI (a b c d e f : Int) : impl_CondOk.f a b c d e f = some (decide ((0 ≤ a ∧ a ≤ 2) ∧ ((0 ≤ b ∧ b ≤ 4294967295) ∧ (0 ≤ c ∧ c ≤ 4294967295)) ∧ ((0 ≤ e ∧ e ≤ 4294967295) ∧ (0 ≤ f ∧ f ≤ 4294967295)) ∧ 1 ≤ d ∧ d ≤ 6)) := condS a b c d e f
theorem nrd_T50 (l : List (S50)) (i : Nat) (h : i < l.length) : rd_T50 l (i : Int) = l[i] := getD_lt _ h
def lw (a b : Int) : S95 := ⟨⟨#[]⟩, ⟨a, b, 0, 0⟩, ⟨#[]⟩, ⟨#[]⟩⟩
def la (a b : Int) (s t : ByteArray) : S95 := ⟨⟨#[]⟩, ⟨a, b, 0, 0⟩, s, t⟩
def lp (s : ByteArray) : S95 := ⟨s, ⟨0, 0, 0, 0⟩, ⟨#[]⟩, ⟨#[]⟩⟩
def cSame (a b c e f : Int) (s1 s2 s3 : ByteArray) : List S95 := [lw 1 (wrap64 (3 + wrap64 (2 * a))), lw 2 b, la 3 e (s1 ++ ⟨#[97]⟩) s3, lp (s1 ++ ⟨#[97]⟩), lw 1 (wrap64 (2 + wrap64 (2 * a))), lw 2 c, la 3 f s2 s3]
def cAbove (a b c e f o : Int) (s1 s2 s3 : ByteArray) : List S95 := [lw 1 (wrap64 (3 + wrap64 (2 * a))), lw 2 b, la 4 e s2 (s1 ++ ⟨#[97]⟩), lp (s1 ++ ⟨#[97]⟩), la 3 e (s1 ++ ⟨#[98]⟩) s3, lp (s1 ++ ⟨#[98]⟩), lw 1 (wrap64 (2 + wrap64 (2 * a))), lw 2 c, la o f s2 s3]
theorem sameS (a b c d e f : Int) (s1 s2 s3 : ByteArray) (h : s1.size ≤ 9000000000000000000) : spec_l12Same.f a b c d e f s1 s2 s3 = some (cSame a b c e f s1 s2 s3) := by
  simp only [spec_l12Same.f, spec_l12Half.f, spec_l11Word.f, spec_l11Asks.f, Option.bind_some, if_true, Bool.false_eq_true, if_false, if_pos (show s1.size + 1 ≤ 9223372036854775807 by omega)]
  rfl
theorem aboveS (a b c d e f o : Int) (s1 s2 s3 : ByteArray) (h : s1.size ≤ 9000000000000000000) : spec_l12Above.f a b c d e f o s1 s2 s3 = some (cAbove a b c e f o s1 s2 s3) := by
  simp only [spec_l12Above.f, spec_l12Half.f, spec_l11Word.f, spec_l11Asks.f, Option.bind_some, if_true, Bool.false_eq_true, if_false, if_pos (show s1.size + 1 ≤ 9223372036854775807 by omega)]
  rfl
/-- The lines of a condition: the same on both sides, and few. -/
def cLines (a b c d e f : Int) (s1 s2 s3 : ByteArray) : List S95 :=
  if (0 ≤ a ∧ a ≤ 2) ∧ ((0 ≤ b ∧ b ≤ 4294967295) ∧ (0 ≤ c ∧ c ≤ 4294967295)) ∧ ((0 ≤ e ∧ e ≤ 4294967295) ∧ (0 ≤ f ∧ f ≤ 4294967295)) ∧ 1 ≤ d ∧ d ≤ 6 then
    (if d = 1 then cSame a b c e f s1 s2 s3 else if d = 2 then cSame a b c e f s1 s3 s2 else if d = 5 then cAbove a b c e f 4 s1 s2 s3 else if d = 6 then cAbove a b c e f 5 s1 s2 s3 else if d = 4 then cAbove a b c e f 4 s1 s3 s2 else cAbove a b c e f 5 s1 s3 s2)
  else []
theorem cLines_len (a b c d e f : Int) (s1 s2 s3 : ByteArray) : (cLines a b c d e f s1 s2 s3).length ≤ 9 := by
  unfold cLines
  repeat' split
  all_goals simp [cSame, cAbove]
theorem linesS (a b c d e f : Int) (s1 s2 s3 : ByteArray) (h : s1.size ≤ 9000000000000000000) : spec_CondLines.f a b c d e f s1 s2 s3 = some (cLines a b c d e f s1 s2 s3) := by
  unfold spec_CondLines.f cLines
  rw [condS]
  simp only [Option.bind_some, decide_eq_true_eq, sameS _ _ _ _ _ _ s1 _ _ h, aboveS _ _ _ _ _ _ _ s1 _ _ h]
  by_cases hc : (0 ≤ a ∧ a ≤ 2) ∧ ((0 ≤ b ∧ b ≤ 4294967295) ∧ (0 ≤ c ∧ c ≤ 4294967295)) ∧ ((0 ≤ e ∧ e ≤ 4294967295) ∧ (0 ≤ f ∧ f ≤ 4294967295)) ∧ 1 ≤ d ∧ d ≤ 6
  · simp only [if_pos hc]
    repeat' split
    all_goals rfl
  · simp only [if_neg hc]
theorem aboveI (k : Nat) (a b c d e f o : Int) (s1 s2 s3 : ByteArray) : impl_CondLines.j0 (k + 1) s2 s3 (s1 ++ ⟨#[97]⟩) (s1 ++ ⟨#[98]⟩) [lw 1 (wrap64 (3 + wrap64 (2 * a))), lw 2 b] [lw 1 (wrap64 (2 + wrap64 (2 * a))), lw 2 c] o a b c d e f = some (cAbove a b c e f o s1 s2 s3) := by
  simp only [impl_CondLines.j0, impl_ask.f, impl_place.f, Option.bind_some]
  rfl
theorem linesI (k : Nat) (a b c d e f : Int) (s1 s2 s3 : ByteArray) (h : s1.size ≤ 9000000000000000000) : impl_CondLines.f (k + 1) a b c d e f s1 s2 s3 = some (cLines a b c d e f s1 s2 s3) := by
  unfold impl_CondLines.f cLines
  rw [condI]
  simp only [Option.bind_some, decide_eq_true_eq]
  by_cases hc : (0 ≤ a ∧ a ≤ 2) ∧ ((0 ≤ b ∧ b ≤ 4294967295) ∧ (0 ≤ c ∧ c ≤ 4294967295)) ∧ ((0 ≤ e ∧ e ≤ 4294967295) ∧ (0 ≤ f ∧ f ≤ 4294967295)) ∧ 1 ≤ d ∧ d ≤ 6
  · rw [if_pos hc, if_pos hc, if_pos (by omega)]
    simp only [impl_word.f, impl_ask.f, impl_place.f, Option.bind_some]
    have j := fun o s2 s3 => aboveI k a b c d e f o s1 s2 s3
    unfold lw at j
    by_cases h1 : d = 1
    · subst h1
      rfl
    by_cases h2 : d = 2
    · subst h2
      rfl
    by_cases h3 : d = 3
    · subst h3
      exact j 5 s3 s2
    by_cases h4 : d = 4
    · subst h4
      exact j 4 s3 s2
    by_cases h5 : d = 5
    · subst h5
      exact j 4 s2 s3
    have h6 : d = 6 := by omega
    subst h6
    exact j 5 s2 s3
  · rw [if_neg hc, if_neg hc]
theorem fig (d : Int) (h0 : 0 ≤ d) (h1 : d < 10) : (⟨#[48, 49, 50, 51, 52, 53, 54, 55, 56, 57, 97, 98, 99, 100, 101, 102]⟩ : ByteArray).extract d.toNat (d + 1).toNat = strOfNums [(48 + d) % 256] := by
  have : d = 0 ∨ d = 1 ∨ d = 2 ∨ d = 3 ∨ d = 4 ∨ d = 5 ∨ d = 6 ∨ d = 7 ∨ d = 8 ∨ d = 9 := by omega
  rcases this with h | h | h | h | h | h | h | h | h | h <;> subst h <;> rfl
/-- A number in figures: the same on both sides. -/
theorem decimal_l0 (n : Int) (hn : 0 ≤ n) : ∀ (m : Nat) (x : Int) (s : ByteArray), 0 ≤ x → x ≤ m → m ≤ 1000000000000 → m + s.size ≤ 9000000000000000000 → ∃ v, Evt (fun k => spec_Decimal.l0 k x false s) v ∧ Evt (fun k => impl_Decimal.l0 k n s x) v ∧ v.size ≤ m + s.size := by
  intro m
  induction m with
  | zero =>
    intro x s h0 h1 _ h2
    have hx : x = 0 := by omega
    subst hx
    refine ⟨s, .succ (.const fun k => ?_), .succ (.const fun k => ?_), by omega⟩
    · simp only [spec_Decimal.l0]
      simp
    · simp only [impl_Decimal.l0]
      rw [if_pos trivial, if_neg (by omega)]
  | succ m ih =>
    intro x s h0 h1 hm h2
    by_cases hx : x = 0
    · subst hx
      refine ⟨s, .succ (.const fun k => ?_), .succ (.const fun k => ?_), by omega⟩
      · simp only [spec_Decimal.l0]
        simp
      · simp only [impl_Decimal.l0]
        rw [if_pos trivial, if_neg (by omega)]
    · have ed : x.tdiv 10 = x / 10 := Int.tdiv_eq_ediv_of_nonneg h0
      have em : x.tmod 10 = x % 10 := Int.tmod_eq_emod_of_nonneg h0
      have e10 : wrap64 (x / 10) = x / 10 := w64 (by omega) (by omega)
      have e48 : wrap64 (48 + x % 10) = 48 + x % 10 := w64 (by omega) (by omega)
      have en : wrap64 (-(x % 10)) = -(x % 10) := w64 (by omega) (by omega)
      have ex : mx (x % 10) (-(x % 10)) = x % 10 := by unfold mx; split <;> omega
      have e1 : wrap64 (x % 10 + 1) = x % 10 + 1 := w64 (by omega) (by omega)
      have hf := fig (x % 10) (by omega) (by omega)
      have hs : (strOfNums [(48 + x % 10) % 256]).size = 1 := rfl
      obtain ⟨v, ⟨K1, g1⟩, ⟨K2, g2⟩, hv⟩ := ih (x / 10) (strOfNums [(48 + x % 10) % 256] ++ s) (by omega) (by omega) (by omega) (by rw [ByteArray.size_append, hs]; omega)
      rw [ByteArray.size_append, hs] at hv
      dsimp only at g1 g2
      refine ⟨v, .succ ⟨K1, fun k hk => ?_⟩, .succ ⟨K2, fun k hk => ?_⟩, by omega⟩
      · simp only [spec_Decimal.l0, spec_l01Figure.f, ed, em, e10, e48]
        rw [if_neg hx, if_neg (by omega), if_pos (by omega)]
        simp only [Option.bind_some]
        rw [if_pos (by rw [hs]; omega)]
        exact g1 k hk
      · simp only [impl_Decimal.l0, ed, em, e10, en, ex, e1, hf]
        rw [if_neg hx, if_pos (by omega), if_pos (by omega), if_pos (by omega), if_pos (by rw [hs]; omega)]
        exact g2 k hk
theorem decimal (n : Nat) (hn : n ≤ 1000000000000) : ∃ v, Evt (fun k => spec_Decimal.f k (n : Int)) v ∧ Evt (fun k => impl_Decimal.f k (n : Int)) v ∧ v.size ≤ n + 1 := by
  by_cases h : (n : Int) = 0
  · exact ⟨⟨#[48]⟩, .const fun k => by simp only [spec_Decimal.f]; rw [if_pos h], .const fun k => by simp only [impl_Decimal.f]; rw [if_pos h], by show 1 ≤ _; omega⟩
  · obtain ⟨v, ⟨K1, g1⟩, ⟨K2, g2⟩, hv⟩ := decimal_l0 (n : Int) (by omega) n (n : Int) ⟨#[]⟩ (by omega) (by omega) hn (by show n + 0 ≤ _; omega)
    dsimp only at g1 g2
    have e : decide ((n : Int) < 0) = false := by simp
    refine ⟨v, ⟨K1, fun k hk => ?_⟩, ⟨K2, fun k hk => ?_⟩, Nat.le_trans hv (by show n + 0 ≤ _; omega)⟩
    · simp only [spec_Decimal.f, e]
      rw [if_neg h]
      exact g1 k hk
    · simp only [impl_Decimal.f]
      rw [if_neg h]
      exact g2 k hk
theorem resI (a b : Int) : impl_ResultOf.f a b = spec_ResultOf.f a b := rfl
theorem res (a b : Int) : ∃ v, spec_ResultOf.f a b = some v := by
  simp only [spec_ResultOf.f, inS, Option.bind_some, decide_eq_true_eq]
  repeat' split
  all_goals exact ⟨_, rfl⟩
/-- The lines of a rule: the same on both sides, and not too many. -/
theorem rl_l0 (x : List Int) (l : List S50) (a b : Int) (s1 s2 : ByteArray) (hn : l.length ≤ 1048576) (hs : s1.size ≤ 1000000000000000000) :
    ∃ O : List S95, (O.length ≤ 10 * l.length + 1 ∧ 0 < O.length) ∧ Evt (fun k => spec_RuleLines.l0 k s1 s2 [] ((0 : Nat) : Int) x l a b) O ∧ Evt (fun k => impl_RuleLines.l0 k s1 s2 [] l (l.length : Int) ((0 : Nat) : Int) x l a b) O := by
  refine down (T := fun i => ∀ o : List S95, o.length ≤ 10 * i → ∃ O : List S95, (O.length ≤ 10 * l.length + 1 ∧ 0 < O.length) ∧ Evt (fun k => spec_RuleLines.l0 k s1 s2 o (i : Int) x l a b) O ∧ Evt (fun k => impl_RuleLines.l0 k s1 s2 o l (l.length : Int) (i : Int) x l a b) O) (n := l.length) ?_ ?_ l.length 0 (by omega) [] (by simp)
  · intro o ho
    obtain ⟨v, hv⟩ := res a b
    refine ⟨o ++ [lw 8 v], by simp; omega, .succ (.const fun k => ?_), .succ (.const fun k => ?_)⟩
    · simp only [spec_RuleLines.l0, spec_l11Word.f, hv, Option.bind_some]
      rw [if_neg (by omega), if_pos (by omega)]
      rfl
    · simp only [impl_RuleLines.l0, impl_word.f, resI, hv, Option.bind_some]
      rw [if_neg (by omega), if_pos (by omega)]
      rfl
  · intro i hi ih o ho
    obtain ⟨t, ⟨K1, d1⟩, ⟨K2, d2⟩, ht⟩ := decimal i (by omega)
    have hc := cLines_len l[i].f0 l[i].f1.f0 l[i].f1.f1 l[i].f2 l[i].f3.f0 l[i].f3.f1 (s1 ++ t) ((s1 ++ ⟨#[110]⟩) ++ t) s2
    have hz : (s1 ++ t).size ≤ 9000000000000000000 := by rw [ByteArray.size_append]; omega
    have hS := linesS l[i].f0 l[i].f1.f0 l[i].f1.f1 l[i].f2 l[i].f3.f0 l[i].f3.f1 (s1 ++ t) ((s1 ++ ⟨#[110]⟩) ++ t) s2 hz
    have hI := fun k => linesI k l[i].f0 l[i].f1.f0 l[i].f1.f1 l[i].f2 l[i].f3.f0 l[i].f3.f1 (s1 ++ t) ((s1 ++ ⟨#[110]⟩) ++ t) s2 hz
    generalize cLines l[i].f0 l[i].f1.f0 l[i].f1.f1 l[i].f2 l[i].f3.f0 l[i].f3.f1 (s1 ++ t) ((s1 ++ ⟨#[110]⟩) ++ t) s2 = L at hc hS hI
    have z1 : (s1 ++ (⟨#[110]⟩ : ByteArray)).size = s1.size + 1 := ByteArray.size_append
    obtain ⟨O, hO, ⟨K3, h1⟩, ⟨K4, h2⟩⟩ := ih (o ++ L ++ [lp ((s1 ++ ⟨#[110]⟩) ++ t)]) (by simp; omega)
    dsimp only at d1 d2 h1 h2
    refine ⟨O, hO, .succ ⟨K1 + K3 + 1, fun k hk => ?_⟩, .succ ⟨K2 + K4 + 1, fun k hk => ?_⟩⟩
    · simp only [spec_RuleLines.l0]
      rw [if_pos (by omega), if_pos (by omega), d1 k (by omega)]
      simp only [Option.bind_some]
      rw [if_pos (by rw [z1]; omega), if_pos (by omega), if_pos (by omega), nrd_T50 l i hi, hS]
      simp only [Option.bind_some]
      rw [if_pos (by omega)]
      rw [if_pos (by rw [List.length_append]; omega), wsucc hi (by omega)]
      exact h1 k (by omega)
    · simp only [impl_RuleLines.l0]
      obtain ⟨k, rfl⟩ : ∃ m, k = m + 1 := ⟨k - 1, by omega⟩
      rw [if_pos (by omega), if_pos (by omega), if_pos (by omega), if_pos (by omega), d2 (k + 1) (by omega)]
      simp only [Option.bind_some]
      rw [if_pos (by rw [z1]; omega), if_pos (by omega), nrd_T50 l i hi, hI]
      simp only [Option.bind_some, impl_place.f]
      rw [if_pos (by omega)]
      rw [if_pos (by rw [List.length_append]; omega), wsucc hi (by omega)]
      exact h2 (k + 1) (by omega)
theorem ruleLines (x : List Int) (l : List S50) (a b : Int) (s1 s2 : ByteArray) (hn : l.length ≤ 1048576) (hs : s1.size ≤ 1000000000000000000) :
    ∃ O : List S95, (O.length ≤ 10 * l.length + 1 ∧ 0 < O.length) ∧ Evt (fun k => spec_RuleLines.f k x l a b s1 s2) O ∧ Evt (fun k => impl_RuleLines.f k x l a b s1 s2) O := rl_l0 x l a b s1 s2 hn hs
theorem and255 (x : Int) : 0 ≤ Go.bits .and .i64 x 255 ∧ Go.bits .and .i64 x 255 ≤ 255 := by
  have h : ((BitVec.ofInt IntKind.i64.bits x) &&& (BitVec.ofInt IntKind.i64.bits 255)).toNat ≤ 255 := by
    rw [BitVec.toNat_and]
    exact Nat.le_trans Nat.and_le_right (by decide)
  have e : Go.bits .and .i64 x 255 = IntKind.i64.wrap ((((BitVec.ofInt IntKind.i64.bits x) &&& (BitVec.ofInt IntKind.i64.bits 255)).toNat : Nat) : Int) := rfl
  rw [e, IntKind.wrap_i64]
  omega
theorem byte {s : List Int} (hs : s.length ≤ 1048576) (p e : Int) (hp : 0 ≤ p) : ∃ b p' e', spec_l01Byte.f s p e = some (b, p', e') ∧ (0 ≤ b ∧ b ≤ 255) ∧ 0 ≤ p' := by
  unfold spec_l01Byte.f
  by_cases h : p < (s.length : Int)
  · rw [if_pos h, if_pos hp]
    exact ⟨_, _, _, rfl, and255 _, by rw [w64 (by omega) (by omega)]; omega⟩
  · rw [if_neg h]
    exact ⟨_, _, _, rfl, and255 _, hp⟩
theorem below {s : List Int} (hs : s.length ≤ 1048576) (p e : Int) (hp : 0 ≤ p) (n : Int) (h1 : 1 ≤ n) (h2 : n ≤ 256) : ∃ r p' e', spec_l01Below.f s p e n = some (r, p', e') ∧ (0 ≤ r ∧ r < n) ∧ 0 ≤ p' := by
  obtain ⟨b, p', e', hb, hr, hp'⟩ := byte hs p e hp
  unfold spec_l01Below.f
  rw [if_neg (by omega), if_pos h2, hb]
  simp only [Option.bind_some]
  rw [if_neg (by omega)]
  refine ⟨_, _, _, rfl, ?_, hp'⟩
  rw [Int.tmod_eq_emod_of_nonneg hr.1]
  exact ⟨Int.emod_nonneg _ (by omega), Int.emod_lt_of_pos _ (by omega)⟩
theorem once {s : List Int} (hs : s.length ≤ 1048576) (p e : Int) (hp : 0 ≤ p) (n : Int) (h1 : 1 ≤ n) (h2 : n ≤ 256) : ∃ r p' e', spec_l01Once.f s p e n = some (r, p', e') ∧ 0 ≤ p' := by
  obtain ⟨r, p', e', h, _, hp'⟩ := below hs p e hp n h1 h2
  exact ⟨_, p', e', by unfold spec_l01Once.f; rw [h]; rfl, hp'⟩
theorem pick {s : List Int} (hs : s.length ≤ 1048576) (p e : Int) (hp : 0 ≤ p) (l : List Int) (h1 : 1 ≤ (l.length : Int)) (h2 : (l.length : Int) ≤ 256) : ∃ v p' e', spec_l01PickInt.f s p e l = some (v, p', e') ∧ v ∈ l ∧ 0 ≤ p' := by
  obtain ⟨r, p', e', h, hr, hp'⟩ := below hs p e hp _ h1 h2
  refine ⟨rd l r, p', e', by unfold spec_l01PickInt.f; rw [h]; simp only [Option.bind_some]; rw [if_pos hr.1, if_pos hr.2], ?_, hp'⟩
  obtain ⟨i, rfl⟩ := Int.eq_ofNat_of_zero_le hr.1
  have hi : i < l.length := by omega
  have e : rd l (i : Int) = l[i] := getD_lt _ hi
  rw [e]
  exact List.getElem_mem hi
theorem half {s : List Int} (hs : s.length ≤ 1048576) (p e : Int) (hp : 0 ≤ p) : ∃ v p' e', spec_l04Half.f s p e = some (v, p', e') ∧ (0 ≤ v ∧ v ≤ 4294967295) ∧ 0 ≤ p' := by
  obtain ⟨r, p1, e1, h, hr, hp1⟩ := below hs p e hp 12 (by omega) (by omega)
  obtain ⟨v, p2, e2, g, hv, hp2⟩ := pick hs p1 e1 hp1 [0, 1, 2, 3, 5, 7, 255, 4294967295, 2147483648, r] (by simp) (by simp)
  refine ⟨v, p2, e2, by unfold spec_l04Half.f; rw [h]; simp only [Option.bind_some]; rw [g]; rfl, ?_, hp2⟩
  simp only [List.mem_cons, List.not_mem_nil, or_false] at hv
  omega
theorem wide {s : List Int} (hs : s.length ≤ 1048576) (p e : Int) (hp : 0 ≤ p) : ∃ a b p' e', spec_l04Wide.f s p e = some (a, b, p', e') ∧ ((0 ≤ a ∧ a ≤ 4294967295) ∧ (0 ≤ b ∧ b ≤ 4294967295)) ∧ 0 ≤ p' := by
  obtain ⟨r, p1, e1, h, hr, hp1⟩ := half hs p e hp
  obtain ⟨b, p2, e2, g, hp2⟩ := once hs p1 e1 hp1 3 (by omega) (by omega)
  unfold spec_l04Wide.f
  rw [h]
  simp only [Option.bind_some]
  rw [g]
  simp only [Option.bind_some]
  cases b with
  | true =>
    obtain ⟨q, p3, e3, f, hq, hp3⟩ := half hs p2 e2 hp2
    rw [if_pos rfl, f]
    exact ⟨_, _, _, _, rfl, ⟨hq, hr⟩, hp3⟩
  | false =>
    rw [if_neg (by simp)]
    exact ⟨_, _, _, _, rfl, ⟨by omega, hr⟩, hp2⟩
theorem drawCond {s : List Int} (hs : s.length ≤ 1048576) (p e : Int) (hp : 0 ≤ p) : ∃ a b c d f g p' e', spec_l09Cond.f s p e = some (a, b, c, d, f, g, p', e') ∧ ((0 ≤ a ∧ a ≤ 2) ∧ ((0 ≤ b ∧ b ≤ 4294967295) ∧ (0 ≤ c ∧ c ≤ 4294967295)) ∧ ((0 ≤ f ∧ f ≤ 4294967295) ∧ (0 ≤ g ∧ g ≤ 4294967295)) ∧ 1 ≤ d ∧ d ≤ 6) ∧ 0 ≤ p' := by
  obtain ⟨a, p1, e1, h1, ha, hp1⟩ := below hs p e hp 3 (by omega) (by omega)
  obtain ⟨d, p2, e2, h2, hd, hp2⟩ := below hs p1 e1 hp1 6 (by omega) (by omega)
  obtain ⟨f, g, p3, e3, h3, hf, hp3⟩ := wide hs p2 e2 hp2
  obtain ⟨o, p4, e4, h4, hp4⟩ := once hs p3 e3 hp3 3 (by omega) (by omega)
  have ed : wrap64 (1 + d) = 1 + d := w64 (by omega) (by omega)
  unfold spec_l09Cond.f
  rw [h1]
  simp only [Option.bind_some]
  rw [h2]
  simp only [Option.bind_some]
  rw [h3]
  simp only [Option.bind_some]
  rw [h4]
  simp only [Option.bind_some, ed]
  cases o with
  | true =>
    obtain ⟨b, c, p5, e5, h5, hb, hp5⟩ := wide hs p4 e4 hp4
    rw [if_pos rfl, h5]
    exact ⟨_, _, _, _, _, _, _, _, rfl, ⟨by omega, hb, hf, by omega⟩, hp5⟩
  | false =>
    rw [if_neg (by simp)]
    exact ⟨_, _, _, _, _, _, _, _, rfl, ⟨by omega, ⟨by omega, by omega⟩, hf, by omega⟩, hp4⟩
theorem newC (l : List Int) (hl : l.length ≤ 1048576) : ∃ e, Evt (fun k => spec_l01New.f k l) (l, 0, e) := by
  have key : ∀ (d i : Nat) (e : Int), i + d = l.length → ∃ e', Evt (fun k => spec_l01New.l0 k l e (i : Int)) (l, 0, e') := by
    intro d
    induction d with
    | zero =>
      intro i e h
      exact ⟨e, .succ (.const fun k => by simp only [spec_l01New.l0]; rw [if_neg (by omega)])⟩
    | succ d ih =>
      intro i e h
      by_cases h4 : (i : Int) < 4000
      · obtain ⟨e', K, hK⟩ := ih (i + 1) (Go.bits .and .i64 (wrap64 ((wrap64 ((wrap64 (e * 131)) + (wrap64 (rd l (i : Int))))) + 7)) 1073741823) (by omega)
        refine ⟨e', .succ ⟨K, fun k hk => ?_⟩⟩
        simp only [spec_l01New.l0]
        rw [if_pos (by omega), if_pos h4, if_pos (by omega), wsucc (show i < l.length by omega) (by omega)]
        exact hK k hk
      · exact ⟨e, .succ (.const fun k => by simp only [spec_l01New.l0]; rw [if_pos (by omega), if_neg h4])⟩
  exact key l.length 0 _ (by omega)
theorem drawCondOk (l : List Int) (hl : l.length ≤ 1048576) : ∃ a b c d e f, Evt (fun k => spec_DrawCondOk.f k l) (a, b, c, d, e, f) := by
  obtain ⟨e0, K, h0⟩ := newC l hl
  dsimp only at h0
  obtain ⟨t, p1, e1, h1, ht, hp1⟩ := below hl 0 e0 (by omega) 8 (by omega) (by omega)
  obtain ⟨a, b, c, d, f, g, p2, e2, h2, _, hp2⟩ := drawCond hl p1 e1 hp1
  obtain ⟨u, p3, e3, h3, _, _⟩ := below hl p2 e2 hp2 5 (by omega) (by omega)
  obtain ⟨v, p4, e4, h4, _, _⟩ := below hl p2 e2 hp2 9 (by omega) (by omega)
  have key : ∀ k, K ≤ k → spec_DrawCondOk.f k l = (if t = 0 then some (wrap64 (u - 1), b, c, d, f, g) else if t = 1 then some (a, b, c, v, f, g) else if t = 2 then some (a, -1, c, d, f, g) else if t = 3 then some (a, b, c, d, f, 4294967296) else some (a, b, c, d, f, g)) := fun k hk => by
    simp only [spec_DrawCondOk.f, h0 k hk, Option.bind_some, h1, h2, h3, h4]
  by_cases c0 : t = 0
  · exact ⟨_, _, _, _, _, _, K, fun k hk => (key k hk).trans (by rw [if_pos c0])⟩
  by_cases c1 : t = 1
  · exact ⟨_, _, _, _, _, _, K, fun k hk => (key k hk).trans (by rw [if_neg c0, if_pos c1])⟩
  by_cases c2 : t = 2
  · exact ⟨_, _, _, _, _, _, K, fun k hk => (key k hk).trans (by rw [if_neg c0, if_neg c1, if_pos c2])⟩
  by_cases c3 : t = 3
  · exact ⟨_, _, _, _, _, _, K, fun k hk => (key k hk).trans (by rw [if_neg c0, if_neg c1, if_neg c2, if_pos c3])⟩
  exact ⟨_, _, _, _, _, _, K, fun k hk => (key k hk).trans (by rw [if_neg c0, if_neg c1, if_neg c2, if_neg c3])⟩
theorem made_l1 {s : List Int} (hs : s.length ≤ 1048576) (nums : List Int) (a b : Int) : ∀ (d : Nat) (i p e : Int) (l : List S50), 0 ≤ i → 3 - i ≤ d → 0 ≤ p → l.length + d ≤ 1000 → ∃ R p' e', Evt (fun k => spec_l09Made.l1 k i s p e nums l a b) (nums, R, a, b, p', e') ∧ R.length ≤ 1000 ∧ 0 ≤ p' := by
  intro d
  induction d with
  | zero =>
    intro i p e l hi hd hp hl
    obtain ⟨r, p1, e1, h1, hr, hp1⟩ := below hs p e hp 3 (by omega) (by omega)
    refine ⟨l, p1, e1, .succ (.const fun k => ?_), by omega, hp1⟩
    simp only [spec_l09Made.l1, h1, Option.bind_some]
    rw [if_neg (by omega)]
  | succ d ih =>
    intro i p e l hi hd hp hl
    obtain ⟨r, p1, e1, h1, hr, hp1⟩ := below hs p e hp 3 (by omega) (by omega)
    by_cases hc : i < r
    · obtain ⟨a1, b1, c1, d1, f1, g1, p2, e2, h2, _, hp2⟩ := drawCond hs p1 e1 hp1
      have ei : wrap64 (i + 1) = i + 1 := w64 (by omega) (by omega)
      obtain ⟨R, p', e', ⟨K, h⟩, hR, hp'⟩ := ih (i + 1) p2 e2 (l ++ [⟨a1, ⟨b1, c1⟩, d1, ⟨f1, g1⟩⟩]) (by omega) (by omega) hp2 (by simp; omega)
      refine ⟨R, p', e', .succ ⟨K, fun k hk => ?_⟩, hR, hp'⟩
      simp only [spec_l09Made.l1, h1, Option.bind_some]
      rw [if_pos hc]
      simp only [h2, Option.bind_some]
      rw [if_pos (by omega), ei]
      exact h k hk
    · refine ⟨l, p1, e1, .succ (.const fun k => ?_), by omega, hp1⟩
      simp only [spec_l09Made.l1, h1, Option.bind_some]
      rw [if_neg hc]
theorem made_l0 {s : List Int} (hs : s.length ≤ 1048576) (n : Int) (hn : n ≤ 3) (a b : Int) : ∀ (d : Nat) (t i p e : Int) (nums : List Int), 0 ≤ i → n - i ≤ d → 0 ≤ p → nums.length + d ≤ 1000 → ∃ N R p' e', Evt (fun k => spec_l09Made.l0 k n t i s p e nums a b) (N, R, a, b, p', e') ∧ N.length ≤ 1000 ∧ R.length ≤ 1000 ∧ 0 ≤ p' := by
  have fin : ∀ (t i p e : Int) (nums : List Int), ¬ i < n → 0 ≤ p → nums.length ≤ 1000 → ∃ N R p' e', Evt (fun k => spec_l09Made.l0 k n t i s p e nums a b) (N, R, a, b, p', e') ∧ N.length ≤ 1000 ∧ R.length ≤ 1000 ∧ 0 ≤ p' := fun t i p e nums hi hp hm => by
    obtain ⟨R, p', e', ⟨K, h⟩, hR, hp'⟩ := made_l1 hs nums a b 3 0 p e [] (by omega) (by omega) hp (by simp)
    refine ⟨nums, R, p', e', .succ ⟨K, fun k hk => ?_⟩, hm, hR, hp'⟩
    simp only [spec_l09Made.l0]
    rw [if_neg hi]
    exact h k hk
  intro d
  induction d with
  | zero =>
    intro t i p e nums hi hd hp hm
    exact fin t i p e nums (by omega) hp (by omega)
  | succ d ih =>
    intro t i p e nums hi hd hp hm
    by_cases hc : i < n
    · obtain ⟨r, p1, e1, h1, hr, hp1⟩ := below hs p e hp 3 (by omega) (by omega)
      have ei : wrap64 (i + 1) = i + 1 := w64 (by omega) (by omega)
      obtain ⟨N, R, p', e', ⟨K, h⟩, hN⟩ := ih (wrap64 ((wrap64 (t + 1)) + r)) (i + 1) p1 e1 (nums ++ [wrap64 ((wrap64 ((wrap64 (t + 1)) + r)) - 1)]) (by omega) (by omega) hp1 (by simp; omega)
      refine ⟨N, R, p', e', .succ ⟨K, fun k hk => ?_⟩, hN⟩
      simp only [spec_l09Made.l0]
      rw [if_pos hc]
      simp only [h1, Option.bind_some]
      rw [if_pos (by omega), ei]
      exact h k hk
    · exact fin t i p e nums hc hp (by omega)
theorem made_j0 {s : List Int} (hs : s.length ≤ 1048576) (p e a b : Int) (hp : 0 ≤ p) : ∃ N R p' e', Evt (fun k => spec_l09Made.j0 k s p e a b) (N, R, a, b, p', e') ∧ N.length ≤ 1000 ∧ R.length ≤ 1000 ∧ 0 ≤ p' := by
  obtain ⟨r, p1, e1, h1, hr, hp1⟩ := below hs p e hp 4 (by omega) (by omega)
  have er : wrap64 (r - 1) = r - 1 := w64 (by omega) (by omega)
  obtain ⟨N, R, p', e', ⟨K, h⟩, hN⟩ := made_l0 hs (r - 1) (by omega) a b 3 0 0 p1 e1 [] (by omega) (by omega) hp1 (by simp)
  refine ⟨N, R, p', e', .succ ⟨K, fun k hk => ?_⟩, hN⟩
  simp only [spec_l09Made.j0, h1, Option.bind_some, er]
  exact h k hk
theorem made {s : List Int} (hs : s.length ≤ 1048576) (p e : Int) (hp : 0 ≤ p) : ∃ N R a b p' e', Evt (fun k => spec_l09Made.f k s p e) (N, R, a, b, p', e') ∧ N.length ≤ 1000 ∧ R.length ≤ 1000 ∧ 0 ≤ p' := by
  obtain ⟨a, p1, e1, h1, ha, hp1⟩ := pick hs p e hp [0, 1, 2, 3, 4, 4, 5] (by simp) (by simp)
  by_cases h2 : a = 2
  · obtain ⟨b, p2, e2, g1, _, hp2⟩ := pick hs p1 e1 hp1 [1, 13, 65535] (by simp) (by simp)
    obtain ⟨N, R, p', e', ⟨K, h⟩, hN⟩ := made_j0 hs p2 e2 a b hp2
    refine ⟨N, R, a, b, p', e', ⟨K, fun k hk => ?_⟩, hN⟩
    simp only [spec_l09Made.f, h1, Option.bind_some]
    rw [if_pos h2]
    simp only [g1, Option.bind_some]
    exact h k hk
  · obtain ⟨N, R, p', e', ⟨K, h⟩, hN⟩ := made_j0 hs p1 e1 a 0 hp1
    refine ⟨N, R, a, 0, p', e', ⟨K, fun k hk => ?_⟩, hN⟩
    simp only [spec_l09Made.f, h1, Option.bind_some]
    rw [if_neg h2]
    exact h k hk
theorem same_l0 (l : List S95) (hn : l.length ≤ 4611686018427387904) : Evt (fun k => laws_sameLines.l0 k l l ((0 : Nat) : Int)) true := by
  refine down (T := fun i => Evt (fun k => laws_sameLines.l0 k l l (i : Int)) true) (n := l.length) ?_ ?_ l.length 0 (by omega)
  · refine .succ (.const fun k => ?_)
    simp only [laws_sameLines.l0]
    rw [if_neg (by omega)]
  · intro i hi ⟨K, h⟩
    refine .succ ⟨K, fun k hk => ?_⟩
    simp only [laws_sameLines.l0]
    rw [if_pos (by omega), if_pos (by omega), if_pos (by omega), if_neg (by simp), wsucc hi (by omega)]
    exact h k hk
theorem same (l : List S95) (hn : l.length ≤ 4611686018427387904) : Evt (fun k => laws_sameLines.f k l l) true := by
  obtain ⟨K, h⟩ := same_l0 l hn
  exact ⟨K, fun k hk => by simp only [laws_sameLines.f]; rw [if_pos trivial]; exact h k hk⟩
theorem drawRuleLines (l : List Int) (hl : l.length ≤ 1048576) : ∃ N R a b, Evt (fun k => spec_DrawRuleLines.f k l) (N, R, a, b, (⟨#[114]⟩ : ByteArray), (⟨#[110, 111]⟩ : ByteArray)) ∧ R.length ≤ 1000 := by
  obtain ⟨e0, K0, h0⟩ := newC l hl
  obtain ⟨N, R, a, b, p1, e1, ⟨K1, h1⟩, hN, hR, hp1⟩ := made hl 0 e0 (by omega)
  obtain ⟨o, p2, e2, h2, _⟩ := once hl p1 e1 hp1 6 (by omega) (by omega)
  dsimp only at h0 h1
  cases o with
  | true =>
    refine ⟨N, R, 9, b, ⟨K0 + K1, fun k hk => ?_⟩, hR⟩
    simp only [spec_DrawRuleLines.f, h0 k (by omega), h1 k (by omega), h2, Option.bind_some, if_true]
  | false =>
    refine ⟨N, R, a, b, ⟨K0 + K1, fun k hk => ?_⟩, hR⟩
    simp only [spec_DrawRuleLines.f, h0 k (by omega), h1 k (by omega), h2, Option.bind_some, Bool.false_eq_true, if_false]
theorem main (l : List Int) : ∃ k, laws_FnCondLinesTold.f k l = some true := by
  by_cases hb : (l.length : Int) > 1048576
  · refine ⟨0, ?_⟩
    simp only [laws_FnCondLinesTold.f, laws_big.f, Option.bind_some, decide_eq_true hb, if_true]
  · obtain ⟨c1, c2, c3, c4, c5, c6, K1, h1⟩ := drawCondOk l (by omega)
    obtain ⟨N, R, a, b, ⟨K2, h2⟩, hR⟩ := drawRuleLines l (by omega)
    obtain ⟨O, hO, ⟨K3, h3⟩, ⟨K4, h4⟩⟩ := ruleLines N R a b (⟨#[114]⟩ : ByteArray) (⟨#[110, 111]⟩ : ByteArray) (by omega) (by show 1 ≤ _; omega)
    have hl := cLines_len c1 c2 c3 c4 c5 c6 (⟨#[120]⟩ : ByteArray) (⟨#[121, 101, 115]⟩ : ByteArray) (⟨#[110, 111]⟩ : ByteArray)
    have hS := linesS c1 c2 c3 c4 c5 c6 (⟨#[120]⟩ : ByteArray) (⟨#[121, 101, 115]⟩ : ByteArray) (⟨#[110, 111]⟩ : ByteArray) (by show 1 ≤ _; omega)
    have hI := fun k => linesI k c1 c2 c3 c4 c5 c6 (⟨#[120]⟩ : ByteArray) (⟨#[121, 101, 115]⟩ : ByteArray) (⟨#[110, 111]⟩ : ByteArray) (by show 1 ≤ _; omega)
    generalize cLines c1 c2 c3 c4 c5 c6 (⟨#[120]⟩ : ByteArray) (⟨#[121, 101, 115]⟩ : ByteArray) (⟨#[110, 111]⟩ : ByteArray) = L at hl hS hI
    obtain ⟨K5, h5⟩ := same L (by omega)
    obtain ⟨K6, h6⟩ := same O (by omega)
    dsimp only at h1 h2 h3 h4 h5 h6
    have hpos : (O.length : Int) > 0 := by omega
    obtain ⟨K, hK⟩ : ∃ K, K = K1 + K2 + K3 + K4 + K5 + K6 := ⟨_, rfl⟩
    refine ⟨K + 1, ?_⟩
    simp only [laws_FnCondLinesTold.f, laws_big.f, spec_DrawCondLines.f, Option.bind_some, decide_eq_false hb, Bool.false_eq_true, if_false, h1 _ (show K1 ≤ K + 1 by omega), h2 _ (show K2 ≤ K + 1 by omega), h3 _ (show K3 ≤ K + 1 by omega), h4 _ (show K4 ≤ K + 1 by omega), hS, hI, h5 _ (show K5 ≤ K + 1 by omega), h6 _ (show K6 ≤ K + 1 by omega), if_true, decide_eq_true hpos]
end Go.Proofs.Ytlgndgjbfjefpaa.PFnCondLinesTold
