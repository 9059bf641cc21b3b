/- The pure law of FnExactFrameText: what the functions of the program and of the reference come to is the same, for all arguments that the law is asked of. No conditions. -/
import Derived.Test.YtgpmmmidplkhnaaPFnExactFrameTexty6
import Derived.Test.YtgpmmmidplkhnaaEV
set_option linter.unusedSimpArgs false
set_option linter.unusedVariables false
namespace Go.Proofs.Ytgpmmmidplkhnaa.PFnExactFrameText
open Go Go.RowKit Go.Proofs.YtgpmmmidplkhnaaW.PrintWords Go.Proofs.YtgpmmmidplkhnaaW.PrintLast Go.Proofs.YtgpmmmidplkhnaaW.PK
theorem inS (a b c : Int) : spec_l01In.f a b c = some (decide (b ≤ a ∧ a ≤ c)) := by
  unfold spec_l01In.f
  by_cases h : a ≥ b
  · rw [if_pos h]
    exact congrArg some (by rw [Bool.eq_iff_iff]; simp; omega)
  · rw [if_neg h]
    exact congrArg some (by rw [Bool.eq_iff_iff]; simp; omega)
theorem inI (a b c : Int) : impl_within.f a b c = some (decide (b ≤ a ∧ a ≤ c)) := inS a b c
theorem halfS (a : Int) : spec_HalfOk.f a = some (decide (0 ≤ a ∧ a ≤ 4294967295)) := by
  unfold spec_HalfOk.f
  rw [inS]
  rfl
theorem halfI (a : Int) : impl_HalfOk.f a = some (decide (0 ≤ a ∧ a ≤ 4294967295)) := halfS a
theorem wraps_u32 (n : Int) (h₀ : 0 ≤ n) (h₁ : n < 2 ^ 32) : IntKind.u32.wrap n = n := by rw [IntKind.wrap_u32]; omega
theorem and1 (x : Int) (h0 : 0 ≤ x) (h1 : x < 4294967296) : Go.bits .and .u32 x 1 = x % 2 := bits_mask .u32 32 (by decide) wraps_u32 1 (by decide) x h0 h1
theorem xor_r (a b : Int) : 0 ≤ Go.bits .xor .u32 a b ∧ Go.bits .xor .u32 a b < 4294967296 := by
  have e : Go.bits .xor .u32 a b = IntKind.u32.wrap ((((BitVec.ofInt IntKind.u32.bits a) ^^^ (BitVec.ofInt IntKind.u32.bits b)).toNat : Nat) : Int) := rfl
  rw [e, IntKind.wrap_u32]
  omega
/-- The sum of a text: the same on both sides, and a word of 32 bits. -/
theorem sum_eq : ∀ (k : Nat), (∀ (x i : Int) (s : ByteArray), 0 ≤ x → x < 4294967296 → impl_SumMore.l0 k x s i = spec_SumMore.l0 k x s i) ∧ (∀ (x i j : Int) (s : ByteArray), 0 ≤ x → x < 4294967296 → impl_SumMore.l1 k x s i j = spec_SumMore.l1 k x s i j) := by
  intro k
  induction k with
  | zero => exact ⟨fun _ _ _ _ _ => rfl, fun _ _ _ _ _ _ => rfl⟩
  | succ k ih =>
    obtain ⟨ih0, ih1⟩ := ih
    refine ⟨fun x i s h0 h1 => ?_, fun x i j s h0 h1 => ?_⟩
    · simp only [impl_SumMore.l0, spec_SumMore.l0]
      rw [ih1 _ _ _ _ (xor_r _ _).1 (xor_r _ _).2]
    · have ed : x.tdiv 2 = x / 2 := Int.tdiv_eq_ediv_of_nonneg h0
      have em : x.tmod 2 = x % 2 := Int.tmod_eq_emod_of_nonneg h0
      have e2 : x / 2 % 4294967296 = x / 2 := by omega
      simp only [impl_SumMore.l1, spec_SumMore.l1, ed, em, e2, and1 x h0 h1]
      rw [ih1 _ _ _ _ (xor_r _ _).1 (xor_r _ _).2, ih1 _ _ _ _ (by omega) (by omega), ih0 _ _ _ h0 h1]
theorem sum_l1 (s : ByteArray) (i : Int) (h : ∀ x : Int, 0 ≤ x → x < 4294967296 → ∃ v : Int, Evt (fun k => spec_SumMore.l0 k x s (wrap64 (i + 1))) v ∧ 0 ≤ v ∧ v < 4294967296) : ∀ (d : Nat) (j x : Int), 0 ≤ j → j + d = 8 → 0 ≤ x → x < 4294967296 → ∃ v : Int, Evt (fun k => spec_SumMore.l1 k x s i j) v ∧ 0 ≤ v ∧ v < 4294967296 := by
  intro d
  induction d with
  | zero =>
    intro j x hj0 hj h0 h1
    obtain ⟨v, ⟨K, g⟩, hv⟩ := h x h0 h1
    exact ⟨v, .succ ⟨K, fun k hk => by simp only [spec_SumMore.l1]; rw [if_neg (by omega)]; exact g k hk⟩, hv⟩
  | succ d ih =>
    intro j x hj0 hj h0 h1
    have ed : x.tdiv 2 = x / 2 := Int.tdiv_eq_ediv_of_nonneg h0
    have em : x.tmod 2 = x % 2 := Int.tmod_eq_emod_of_nonneg h0
    have e2 : x / 2 % 4294967296 = x / 2 := by omega
    by_cases hx : x % 2 = 1
    · obtain ⟨v, ⟨K, g⟩, hv⟩ := ih (wrap64 (j + 1)) (Go.bits .xor .u32 (x / 2) 3558460437) (by unfold wrap64; omega) (by unfold wrap64; omega) (xor_r _ _).1 (xor_r _ _).2
      exact ⟨v, .succ ⟨K, fun k hk => by simp only [spec_SumMore.l1, ed, em, e2]; rw [if_pos (by omega), if_pos hx]; exact g k hk⟩, hv⟩
    · obtain ⟨v, ⟨K, g⟩, hv⟩ := ih (wrap64 (j + 1)) (x / 2) (by unfold wrap64; omega) (by unfold wrap64; omega) (by omega) (by omega)
      exact ⟨v, .succ ⟨K, fun k hk => by simp only [spec_SumMore.l1, ed, em, e2]; rw [if_pos (by omega), if_neg hx]; exact g k hk⟩, hv⟩
theorem sum_l0 (s : ByteArray) (hs : s.size ≤ 4611686018427387904) : ∀ (d i : Nat) (x : Int), i + d = s.size → 0 ≤ x → x < 4294967296 → ∃ v : Int, Evt (fun k => spec_SumMore.l0 k x s (i : Int)) v ∧ 0 ≤ v ∧ v < 4294967296 := by
  intro d
  induction d with
  | zero =>
    intro i x hi h0 h1
    exact ⟨x, .succ (.const fun k => by simp only [spec_SumMore.l0]; rw [if_neg (by omega)]), h0, h1⟩
  | succ d ih =>
    intro i x hi h0 h1
    obtain ⟨v, ⟨K, g⟩, hv⟩ := sum_l1 s (i : Int) (fun y a b => by rw [wsucc (show i < s.size by omega) (by omega)]; exact ih (i + 1) y (by omega) a b) 8 0 (Go.bits .xor .u32 x ((bt s (i : Int)) % 4294967296)) (by omega) (by omega) (xor_r _ _).1 (xor_r _ _).2
    exact ⟨v, .succ ⟨K, fun k hk => by simp only [spec_SumMore.l0]; rw [if_pos (by omega), if_pos (by omega)]; exact g k hk⟩, hv⟩
theorem sumOf (s : ByteArray) (hs : s.size ≤ 4611686018427387904) : ∃ v : Int, Evt (fun k => spec_SumOf.f k s) v ∧ Evt (fun k => impl_SumOf.f k s) v ∧ 0 ≤ v ∧ v < 4294967296 := by
  obtain ⟨v, ⟨K, g⟩, hv⟩ := sum_l0 s hs s.size 0 4294967295 (by omega) (by omega) (by omega)
  dsimp only at g
  refine ⟨v, ⟨K, fun k hk => ?_⟩, ⟨K, fun k hk => ?_⟩, hv⟩
  · simp only [spec_SumOf.f, spec_SumMore.f]
    rw [show (0 : Int) = ((0 : Nat) : Int) from rfl, g k hk]
    rfl
  · simp only [impl_SumOf.f, impl_SumMore.f, (sum_eq k).1 4294967295 0 s (by omega) (by omega)]
    rw [show (0 : Int) = ((0 : Nat) : Int) from rfl, g k hk]
    rfl
/-- A text and its sum behind it: the same on both sides. -/
theorem sealed (s : ByteArray) (hs : s.size ≤ 4611686018427387904) : ∃ v : ByteArray × Bool, Evt (fun k => spec_Sealed.f k s) v ∧ Evt (fun k => impl_Sealed.f k s) v := by
  by_cases h : (s.size : Int) > 20000
  · exact ⟨_, .const fun k => by simp only [spec_Sealed.f]; rw [if_pos h], .const fun k => by simp only [impl_Sealed.f]; rw [if_pos h]⟩
  · obtain ⟨v, ⟨K1, g1⟩, ⟨K2, g2⟩, h0, h1⟩ := sumOf s hs
    dsimp only at g1 g2
    have ew : wrap64 v = v := w64 (by omega) (by omega)
    have hf : (strOfNums [(v / 16777216) % 256, (v / 65536) % 256, (v / 256) % 256, v % 256]).size = 4 := rfl
    refine ⟨(s ++ strOfNums [(v / 16777216) % 256, (v / 65536) % 256, (v / 256) % 256, v % 256], true), ⟨K1, fun k hk => ?_⟩, ⟨K2, fun k hk => ?_⟩⟩
    · simp only [spec_Sealed.f, g1 k hk, Option.bind_some, spec_l02Four.f]
      rw [if_neg h, if_pos (by rw [hf]; omega)]
    · simp only [impl_Sealed.f, g2 k hk, Option.bind_some, impl_four.f, ew]
      rw [if_neg h, if_pos (by rw [hf]; omega)]
theorem wraps_i64 (n : Int) (h₀ : 0 ≤ n) (h₁ : n < 2 ^ 62) : IntKind.i64.wrap n = n := by rw [IntKind.wrap_i64]; omega
theorem or128 (x : Int) (h0 : 0 ≤ x) (h1 : x < 1099511627776) : Go.bits .or .i64 (Go.bits .and .i64 x 127) 128 = x % 128 + 128 := by
  have e1 : Go.bits .and .i64 x 127 = x % 128 := bits_mask .i64 62 (by decide) wraps_i64 7 (by decide) x h0 (by omega)
  obtain ⟨a, ha⟩ := Int.eq_ofNat_of_zero_le (show 0 ≤ x % 128 by omega)
  have hb : a < 128 := by omega
  rw [e1, ha]
  have e2 := (bits_nat .i64 62 (by decide) wraps_i64 a 128 (by omega) (by decide)).2
  have e3 : a ||| 128 = a + 128 := by
    have h : 128 + a = 128 ||| a := Nat.two_pow_add_eq_or_of_lt (i := 7) hb 1
    rw [Nat.or_comm, ← h]
    omega
  rw [show ((128 : Int)) = ((128 : Nat) : Int) from rfl, e2, e3]
  omega
theorem var_l0 : ∀ (m : Nat) (x : Int) (acc : List Int), 0 ≤ x → x ≤ m → m ≤ 1000000000 → acc.length + m ≤ 3000000000 → ∃ v : ByteArray, Evt (fun k => spec_l01Var.l0 k x acc) v ∧ Evt (fun k => impl_VarText.l0 k x acc) (v, true) ∧ v.size ≤ acc.length + m + 1 := by
  intro m
  induction m with
  | zero =>
    intro x acc h0 h1 h2 h3
    have hz : (strOfNums (acc ++ [x % 256])).size = acc.length + 1 := by rw [strOfNums_size]; simp
    exact ⟨_, .succ (.const fun k => by simp only [spec_l01Var.l0]; rw [if_neg (by omega), if_pos (by omega)]), .succ (.const fun k => by simp only [impl_VarText.l0]; rw [if_neg (by omega), if_pos (by omega)]), by omega⟩
  | succ m ih =>
    intro x acc h0 h1 h2 h3
    have hz : (strOfNums (acc ++ [x % 256])).size = acc.length + 1 := by rw [strOfNums_size]; simp
    by_cases hx : x > 127
    · have ed : x.tdiv 128 = x / 128 := Int.tdiv_eq_ediv_of_nonneg h0
      have em : x.tmod 128 = x % 128 := Int.tmod_eq_emod_of_nonneg h0
      have e1 : wrap64 (x / 128) = x / 128 := w64 (by omega) (by omega)
      have e2 : wrap64 (x % 128 + 128) = x % 128 + 128 := w64 (by omega) (by omega)
      obtain ⟨v, ⟨K1, g1⟩, ⟨K2, g2⟩, hv⟩ := ih (x / 128) (acc ++ [(x % 128 + 128) % 256]) (by omega) (by omega) (by omega) (by simp; omega)
      refine ⟨v, .succ ⟨K1, fun k hk => ?_⟩, .succ ⟨K2, fun k hk => ?_⟩, by simp at hv; omega⟩
      · simp only [spec_l01Var.l0, ed, em, e1, e2]
        rw [if_pos hx, if_pos (by omega)]
        exact g1 k hk
      · simp only [impl_VarText.l0, or128 x h0 (by omega)]
        rw [if_pos hx, if_pos (by omega)]
        exact g2 k hk
    · exact ⟨_, .succ (.const fun k => by simp only [spec_l01Var.l0]; rw [if_neg hx, if_pos (by omega)]), .succ (.const fun k => by simp only [impl_VarText.l0]; rw [if_neg hx, if_pos (by omega)]), by omega⟩
theorem var (x : Int) (h0 : 0 ≤ x) (h1 : x ≤ 1000000000) : ∃ v : ByteArray, Evt (fun k => spec_l01Var.f k x) v ∧ Evt (fun k => impl_VarText.f k x) (v, true) ∧ v.size ≤ 1000000001 := by
  obtain ⟨v, a, ⟨K, g⟩, hv⟩ := var_l0 1000000000 x [] h0 (by omega) (by omega) (by simp)
  refine ⟨v, a, ⟨K, fun k hk => ?_⟩, by simp at hv; omega⟩
  simp only [impl_VarText.f, inI, Option.bind_some, decide_eq_true_eq]
  rw [if_pos ⟨h0, h1⟩]
  exact g k hk
/-- A right item. -/
def ItF (a b c d : Int) : Prop := (a = 1 ∧ (0 ≤ b ∧ b ≤ 4294967295) ∧ (0 ≤ c ∧ c ≤ 4294967295) ∧ d = 0) ∨ (a = 2 ∧ (1 ≤ d ∧ d ≤ 1000000000) ∧ b = 0 ∧ c = 0)
instance (a b c d : Int) : Decidable (ItF a b c d) := by unfold ItF; infer_instance
theorem itemF (a b c d : Int) : spec_ItemOk.f a b c d = some (decide (ItF a b c d)) := by
  have e : ∀ t : Bool, (t = true ↔ ItF a b c d) → some t = some (decide (ItF a b c d)) := fun t h => congrArg some (by rw [Bool.eq_iff_iff, h]; simp)
  unfold spec_ItemOk.f
  simp only [inS, halfS, Option.bind_some, decide_eq_true_eq]
  repeat' split
  all_goals (refine e _ ?_; clear e; unfold ItF; (try simp only [Bool.false_eq_true, beq_iff_eq, false_iff] at *))
  all_goals omega
/-- Is a frame right? The same on both sides; of a right one the numbers have their bounds. -/
theorem frameOk (a b c d e f g : Int) : ∃ r : Bool, (∀ k, 1 ≤ k → spec_FrameOk.f k a b c d e f g = some r) ∧ (∀ k, 1 ≤ k → impl_FrameOk.f k a b c d e f g = some r) ∧ (r = true → (0 ≤ c ∧ c ≤ 1000000000) ∧ (0 ≤ g ∧ g ≤ 1000000000)) := by
  have eJ : ∀ k t, impl_FrameOk.j0 k t a b c d e f g = spec_FrameOk.j0 k t a b c d e f g := fun k t => by
    cases k <;> rfl
  have eI : ∀ k, impl_FrameOk.f k a b c d e f g = spec_FrameOk.f k a b c d e f g := fun k => by
    simp only [impl_FrameOk.f, spec_FrameOk.f, impl_isPid.f, inI, inS, Option.bind_some, eJ]
  have J : ∃ r : Bool, (∀ k, 1 ≤ k → spec_FrameOk.f k a b c d e f g = some r) ∧ (r = true → (0 ≤ c ∧ c ≤ 1000000000) ∧ (0 ≤ g ∧ g ≤ 1000000000)) := by
    by_cases h1 : 0 ≤ b ∧ b ≤ 2
    · by_cases h2 : 1 ≤ c ∧ c ≤ 1000000000
      · by_cases h3 : a = 1
        · refine ⟨decide (ItF d e f g), fun k hk => ?_, fun h => ?_⟩
          · obtain ⟨k, rfl⟩ : ∃ m, k = m + 1 := ⟨k - 1, by omega⟩
            simp only [spec_FrameOk.f, inS, Option.bind_some, decide_eq_true h1, decide_eq_true h2, spec_FrameOk.j0, itemF, if_pos h3, Bool.not_true, Bool.false_eq_true, if_false, if_true]
          · have h4 : ItF d e f g := by simpa using h
            unfold ItF at h4
            omega
        · by_cases h4 : a = 2
          · refine ⟨(d == 0 && (e == 0 && (f == 0 && (g == 0)))), fun k hk => ?_, fun h => ?_⟩
            · obtain ⟨k, rfl⟩ : ∃ m, k = m + 1 := ⟨k - 1, by omega⟩
              simp only [spec_FrameOk.f, inS, Option.bind_some, decide_eq_true h1, decide_eq_true h2, spec_FrameOk.j0, if_neg h3, if_pos h4, Bool.not_true, Bool.false_eq_true, if_false, if_true]
            · simp only [Bool.and_eq_true, beq_iff_eq] at h
              omega
          · refine ⟨false, fun k hk => ?_, fun h => by cases h⟩
            obtain ⟨k, rfl⟩ : ∃ m, k = m + 1 := ⟨k - 1, by omega⟩
            simp only [spec_FrameOk.f, inS, Option.bind_some, decide_eq_true h1, decide_eq_true h2, spec_FrameOk.j0, if_neg h3, if_neg h4, Bool.not_true, Bool.false_eq_true, if_false, if_true]
      · refine ⟨false, fun k hk => ?_, fun h => by cases h⟩
        obtain ⟨k, rfl⟩ : ∃ m, k = m + 1 := ⟨k - 1, by omega⟩
        simp only [spec_FrameOk.f, inS, Option.bind_some, decide_eq_true h1, decide_eq_false h2, spec_FrameOk.j0, Bool.not_false, if_true]
    · refine ⟨false, fun k hk => ?_, fun h => by cases h⟩
      obtain ⟨k, rfl⟩ : ∃ m, k = m + 1 := ⟨k - 1, by omega⟩
      simp only [spec_FrameOk.f, inS, Option.bind_some, decide_eq_false h1, spec_FrameOk.j0, if_true, Bool.false_eq_true, if_false]
  obtain ⟨r, h, hr⟩ := J
  exact ⟨r, h, fun k hk => (eI k).trans (h k hk), hr⟩
theorem frameText (a b c d e f g : Int) : ∃ v : ByteArray × Bool, Evt (fun k => spec_FrameText.f k a b c d e f g) v ∧ Evt (fun k => impl_FrameText.f k a b c d e f g) v := by
  obtain ⟨r, hS, hI, hr⟩ := frameOk a b c d e f g
  cases r with
  | false =>
    refine ⟨((⟨#[]⟩ : ByteArray), false), ⟨1, fun k hk => ?_⟩, ⟨1, fun k hk => ?_⟩⟩
    · simp only [spec_FrameText.f, hS k hk, Option.bind_some, Bool.false_eq_true, if_false]
    · simp only [impl_FrameText.f, hI k hk, Option.bind_some, Bool.false_eq_true, if_false]
  | true =>
    obtain ⟨hc, hg⟩ := hr rfl
    obtain ⟨v1, ⟨K1, p1⟩, ⟨K2, p2⟩, n1⟩ := var c hc.1 hc.2
    obtain ⟨v2, ⟨K3, p3⟩, ⟨K4, p4⟩, n2⟩ := var g hg.1 hg.2
    have F : ∀ x, ∃ t : ByteArray, spec_l06Four.f x = some t ∧ impl_four.f x = some t ∧ t.size = 4 := fun x => ⟨_, rfl, rfl, rfl⟩
    obtain ⟨t1, a1, b1, z1⟩ := F e
    obtain ⟨t2, a2, b2, z2⟩ := F f
    obtain ⟨u1, hu1, y1⟩ : ∃ t : ByteArray, strOfNums [a % 256, b % 256] = t ∧ t.size = 2 := ⟨_, rfl, rfl⟩
    obtain ⟨u2, hu2, y2⟩ : ∃ t : ByteArray, strOfNums [d % 256] = t ∧ t.size = 1 := ⟨_, rfl, rfl⟩
    obtain ⟨⟨w, o⟩, ⟨K5, p5⟩, ⟨K6, p6⟩⟩ := sealed (u1 ++ v1 ++ u2 ++ t1 ++ t2 ++ v2) (by simp only [ByteArray.size_append]; omega)
    dsimp only at p1 p2 p3 p4 p5 p6
    refine ⟨(w, o), ⟨K1 + K3 + K5 + 1, fun k hk => ?_⟩, ⟨K2 + K4 + K6 + 1, fun k hk => ?_⟩⟩
    · simp only [spec_FrameText.f, hS k (by omega), Option.bind_some, if_true, p1 k (by omega), p3 k (by omega), a1, a2, hu1, hu2]
      rw [if_pos (by omega), if_pos (by simp only [ByteArray.size_append]; omega), if_pos (by simp only [ByteArray.size_append]; omega), if_pos (by simp only [ByteArray.size_append]; omega), if_pos (by simp only [ByteArray.size_append]; omega), p5 k (by omega)]
      rfl
    · simp only [impl_FrameText.f, hI k (by omega), Option.bind_some, if_true, p2 k (by omega), p4 k (by omega), b1, b2, hu1, hu2]
      rw [if_pos (by omega), if_pos (by simp only [ByteArray.size_append]; omega), if_pos (by simp only [ByteArray.size_append]; omega), if_pos (by simp only [ByteArray.size_append]; omega), if_pos (by simp only [ByteArray.size_append]; omega), p6 k (by omega)]
      rfl
theorem main (a b c d e f g : Int) : ∃ k, laws_FnExactFrameText.f k a b c d e f g = some true := by
  obtain ⟨⟨v, o⟩, ⟨K1, h1⟩, ⟨K2, h2⟩⟩ := frameText a b c d e f g
  dsimp only at h1 h2
  refine ⟨K1 + K2, ?_⟩
  simp only [laws_FnExactFrameText.f, laws_toFrame.f, laws_toItem.f, Option.bind_some, h1 _ (show K1 ≤ K1 + K2 by omega), h2 _ (show K2 ≤ K1 + K2 by omega), bne_self_eq_false, Bool.false_eq_true, if_false, if_true]
end Go.Proofs.Ytgpmmmidplkhnaa.PFnExactFrameText
