/- The pure law of FnExactSignText: what the functions of the program and of the reference come to is the same, for all arguments that the law is asked of. No conditions. -/
import Derived.Test.YtgpmmmidplkhnaaPFnExactSignTexty2
import Derived.Test.YtgpmmmidplkhnaaEV
set_option linter.unusedSimpArgs false
set_option linter.unusedVariables false
namespace Go.Proofs.Ytgpmmmidplkhnaa.PFnExactSignText
open Go Go.RowKit Go.Proofs.YtgpmmmidplkhnaaW.PrintWords Go.Proofs.YtgpmmmidplkhnaaW.PrintLast Go.Proofs.YtgpmmmidplkhnaaW.PK
theorem Elaws_szSign (a0_0 : Int) (a0_1 : ByteArray) (a0_2 : Int) (q : Int) (hq : 0 ≤ q) (hq' : q ≤ 1048576) (ha0_1 : a0_1.size ≤ maxLen) : ∃ s : Int, s ≤ q ∧ (0 ≤ s → a0_1.size ≤ 1048576) ∧ Evt (fun k => laws_szSign.f a0_0 a0_1 a0_2 q) s := by
  have m0 : a0_1.size ≤ maxLen := ha0_1
  unfold maxLen at m0
  have e0 : wrap64 (q - (a0_1.size : Int)) = q - a0_1.size := w64 (by omega) (by omega)
  by_cases n0 : q - a0_1.size < 0
  · exact ⟨-1, by omega, fun h => by omega, 0, fun k hk => by simp only [laws_szSign.f, e0, Option.bind_some, if_pos n0]⟩
  exact ⟨q - a0_1.size, by omega, fun h => (by omega), 0, fun k hk => by simp only [laws_szSign.f, e0, Option.bind_some, if_neg n0]⟩
theorem nrd_T58 (l : List (S58)) (i : Nat) (h : i < l.length) : rd_T58 l (i : Int) = l[i] := getD_lt _ h
theorem Elaws_szSignS (l : List (S58)) (q : Int) (hq : 0 ≤ q) (hq' : q ≤ 1048576) (hm : l.length ≤ maxLen) (hw : ∀ x ∈ l, ((Lit.int .i64 x.f0).wf = true ∧ x.f1.size ≤ maxLen ∧ (Lit.int .i64 x.f2).wf = true)) : ∃ s : Int, s ≤ q ∧ (0 ≤ s → l.length ≤ 1048576 ∧ ∀ y ∈ l, y.f1.size ≤ 1048576) ∧ Evt (fun k => laws_szSignS.f k l q) s := by
  unfold maxLen at hm
  have e : wrap64 (q - (l.length : Int)) = q - l.length := w64 (by omega) (by omega)
  by_cases hn : q - (l.length : Int) < 0
  · exact ⟨-1, by omega, fun h => by omega, .const fun k => by simp only [laws_szSignS.f, e, if_pos hn]⟩
  · have H := Evt.sz (F := fun k q i => laws_szSignS.l0 k l q i) (n := l.length) (P := fun i => ∀ h : i < l.length, l[i].f1.size ≤ 1048576) ?_ ?_ (q - l.length) (by omega) (by omega)
    · obtain ⟨s, hs, hP, hE⟩ := H
      refine ⟨s, by omega, fun h => ⟨by omega, fun y hy => ?_⟩, hE.congr fun k => ?_⟩
      · obtain ⟨i, hi, rfl⟩ := List.mem_iff_getElem.1 hy
        exact hP h i hi hi
      · simp only [laws_szSignS.f, e, if_neg hn]
    · intro k q
      simp only [laws_szSignS.l0]
      rw [if_neg (by omega)]
    · intro i hi q hq hq'
      obtain ⟨s, hs, hP, K, hK⟩ := Elaws_szSign l[i].f0 l[i].f1 l[i].f2 q hq hq' ((hw _ (List.getElem_mem hi)).2.1)
      dsimp only at hK
      refine ⟨s, hs, fun h _ => hP h, K, fun k hk => ?_⟩
      simp only [laws_szSignS.l0]
      rw [if_pos (by omega), if_pos (by omega), nrd_T58 l i hi, hK k hk, wsucc hi (by omega)]
      all_goals rfl
theorem Elaws_toSign (a0_0 : Int) (a0_1 : ByteArray) (a0_2 : Int) (ha0_1 : a0_1.size ≤ 1048576) : Evt (fun k => laws_toSign.f a0_0 a0_1 a0_2) (a0_0, a0_1, a0_2) := by
  exact .const fun k => rfl
def conv58 (a : S58) : S59 := ⟨a.f0, a.f1, a.f2⟩
theorem Elaws_toSignS (l : List (S58)) (hn : l.length ≤ 1048576) (hB : ∀ y ∈ l, y.f1.size ≤ 1048576) : Evt (fun k => laws_toSignS.f k l) (l.map conv58) := by
  have h := Evt.to (F := fun k y i => laws_toSignS.l0 k l y i) (x := l) (conv := conv58) ?_ ?_ (List.replicate l.length z59) (by simp)
  · refine h.congr fun k => ?_
    unfold laws_toSignS.f
    rw [if_pos (by omega), if_pos (by omega), Int.toNat_natCast]
  · intro k y
    simp only [laws_toSignS.l0]
    rw [if_neg (by omega)]
  · intro i hi
    obtain ⟨K, hK⟩ := Elaws_toSign l[i].f0 l[i].f1 l[i].f2 ((hB _ (List.getElem_mem hi)))
    dsimp only at hK
    refine ⟨K, fun k hk y hy => ?_⟩
    simp only [laws_toSignS.l0]
    rw [if_pos (by omega), if_pos (by omega), nrd_T58 l i hi, hK k hk]
    simp only [Option.bind_some]
    rw [if_pos (by omega), wsucc hi (by omega), Int.toNat_natCast]
    all_goals rfl
theorem Elaws_eqSign (a0_0 : Int) (a0_1 : ByteArray) (a0_2 : Int) : Evt (fun k => laws_eqSign.f a0_0 a0_1 a0_2 a0_0 a0_1 a0_2) true := by
  refine ⟨0, fun k hk => ?_⟩
  simp only [laws_eqSign.f, Option.bind_some, if_true]
theorem nrd_T59 (l : List (S59)) (i : Nat) (h : i < l.length) : rd_T59 l (i : Int) = l[i] := getD_lt _ h
theorem Elaws_eqSignS (l : List (S59)) (hn : l.length ≤ 4611686018427387904) : Evt (fun k => laws_eqSignS.f k l l) true := by
  have h := Evt.pass (F := fun k i => laws_eqSignS.l0 k l l i) (n := l.length) (r := true) ?_ ?_
  · refine h.congr fun k => ?_
    unfold laws_eqSignS.f
    rw [if_pos rfl]
  · refine .const fun k => ?_
    simp only [laws_eqSignS.l0]
    rw [if_neg (by omega)]
  · intro i hi
    obtain ⟨K, hK⟩ := Elaws_eqSign l[i].f0 l[i].f1 l[i].f2
    dsimp only at hK
    refine ⟨K, fun k hk => ?_⟩
    simp only [laws_eqSignS.l0]
    rw [if_pos (by omega), if_pos (by omega), if_pos (by omega), nrd_T59 l i hi, hK k hk]
    simp only [Option.bind_some, if_true]
    rw [wsucc hi (by omega)]
theorem fig (d : Int) (h0 : 0 ≤ d) (h1 : d < 10) : (⟨#[48, 49, 50, 51, 52, 53, 54, 55, 56, 57, 97, 98, 99, 100, 101, 102]⟩ : ByteArray).extract d.toNat (d + 1).toNat = strOfNums [(48 + d) % 256] := by
  have : d = 0 ∨ d = 1 ∨ d = 2 ∨ d = 3 ∨ d = 4 ∨ d = 5 ∨ d = 6 ∨ d = 7 ∨ d = 8 ∨ d = 9 := by omega
  rcases this with h | h | h | h | h | h | h | h | h | h <;> subst h <;> rfl
/-- A number's figures: the same on both sides, and no more than it has places. -/
theorem figures_l0 (n : Int) (hn : 0 ≤ n) : ∀ (d : Nat) (x : Int) (s : ByteArray), 0 < x → x < 10 ^ d → x ≤ 9223372036854775807 → d + s.size ≤ 9000000000000000000 → ∃ v : ByteArray, Evt (fun k => spec_l08Figures.l0 k x s) v ∧ Evt (fun k => impl_Decimal.l0 k n s x) v ∧ v.size ≤ d + s.size := by
  intro d
  induction d with
  | zero =>
    intro x s h0 h1 hx h2
    have : (10 : Int) ^ 0 = 1 := rfl
    omega
  | succ d ih =>
    intro x s h0 h1 hx h2
    rw [Int.pow_succ] at h1
    have ed : x.tdiv 10 = x / 10 := Int.tdiv_eq_ediv_of_nonneg (by omega)
    have em : x.tmod 10 = x % 10 := Int.tmod_eq_emod_of_nonneg (by omega)
    have e10 : wrap64 (x / 10) = x / 10 := w64 (by omega) (by omega)
    have e48 : wrap64 (48 + x % 10) = 48 + x % 10 := w64 (by omega) (by omega)
    have en : wrap64 (-(x % 10)) = -(x % 10) := w64 (by omega) (by omega)
    have ex : mx (x % 10) (-(x % 10)) = x % 10 := by unfold mx; split <;> omega
    have e1 : wrap64 (x % 10 + 1) = x % 10 + 1 := w64 (by omega) (by omega)
    have hf := fig (x % 10) (by omega) (by omega)
    have hs : (strOfNums [(48 + x % 10) % 256]).size = 1 := rfl
    by_cases h9 : x > 9
    · obtain ⟨v, ⟨K1, g1⟩, ⟨K2, g2⟩, hv⟩ := ih (x / 10) (strOfNums [(48 + x % 10) % 256] ++ s) (by omega) (by omega) (by omega) (by rw [ByteArray.size_append, hs]; omega)
      rw [ByteArray.size_append, hs] at hv
      dsimp only at g1 g2
      refine ⟨v, .succ ⟨K1, fun k hk => ?_⟩, .succ ⟨K2, fun k hk => ?_⟩, by omega⟩
      · simp only [spec_l08Figures.l0, ed, em, e10, e48]
        rw [if_pos h9]
        simp only [Option.bind_some]
        rw [if_pos (by rw [hs]; omega)]
        exact g1 k hk
      · simp only [impl_Decimal.l0, ed, em, e10, en, ex, e1, hf]
        rw [if_neg (by omega), if_pos (by omega), if_pos (by omega), if_pos (by omega), if_pos (by rw [hs]; omega)]
        exact g2 k hk
    · have hx2 : x % 10 = x := by omega
      have hx3 : x / 10 = 0 := by omega
      have ew : wrap64 (48 + x) = 48 + x := w64 (by omega) (by omega)
      rw [hx2] at hf hs e1 en ex em
      rw [hx3] at ed
      refine ⟨strOfNums [(48 + x) % 256] ++ s, .succ (.const fun k => ?_), .succ (.succ (.const fun k => ?_)), by rw [ByteArray.size_append, hs]; omega⟩
      · simp only [spec_l08Figures.l0, ew]
        rw [if_neg h9]
        simp only [Option.bind_some]
        rw [if_pos (by rw [hs]; omega)]
      · have ew0 : wrap64 0 = 0 := w64 (by omega) (by omega)
        simp only [impl_Decimal.l0, ed, em, en, ex, e1, hf, ew0, if_true]
        rw [if_neg (by omega), if_pos (by omega), if_pos (by omega), if_pos (by omega), if_pos (by rw [hs]; omega), if_neg (by omega)]
theorem figures (n : Int) (hn : n ≤ 9223372036854775807) : ∃ v : ByteArray, Evt (fun k => spec_l08Figures.f k n) v ∧ Evt (fun k => impl_Decimal.f k (mx 0 n)) v ∧ v.size ≤ 20 := by
  have zero : ∃ v : ByteArray, Evt (fun k => spec_l08Figures.j0 k 0) v ∧ Evt (fun k => impl_Decimal.f k 0) v ∧ v.size ≤ 20 := by
    refine ⟨⟨#[48]⟩, .succ (.succ (.const fun k => ?_)), .const fun k => ?_, by decide⟩
    · simp only [spec_l08Figures.j0, spec_l08Figures.l0]
      rw [if_neg (by omega), w64 (by omega) (by omega)]
      rfl
    · simp only [impl_Decimal.f, if_true]
  by_cases h : n < 0
  · have e : mx 0 n = 0 := by unfold mx; split <;> omega
    obtain ⟨v, ⟨K1, a⟩, b, c⟩ := zero
    rw [e]
    exact ⟨v, ⟨K1, fun k hk => by simp only [spec_l08Figures.f]; rw [if_pos h]; exact a k hk⟩, b, c⟩
  · by_cases h0 : n = 0
    · subst h0
      obtain ⟨v, ⟨K1, a⟩, b, c⟩ := zero
      exact ⟨v, ⟨K1, fun k hk => by simp only [spec_l08Figures.f]; rw [if_neg h]; exact a k hk⟩, b, c⟩
    · have e : mx 0 n = n := by unfold mx; split <;> omega
      rw [e]
      have h20 : n < 10 ^ 20 := by
        rw [show (10 : Int) ^ 20 = 100000000000000000000 by decide]
        omega
      obtain ⟨v, ⟨K1, a⟩, ⟨K2, b⟩, c⟩ := figures_l0 n (by omega) 20 n ⟨#[]⟩ (by omega) h20 hn (by show 20 + 0 ≤ _; omega)
      dsimp only at a b
      refine ⟨v, .succ ⟨K1, fun k hk => ?_⟩, ⟨K2, fun k hk => ?_⟩, Nat.le_trans c (by show 20 + 0 ≤ _; omega)⟩
      · simp only [spec_l08Figures.f, spec_l08Figures.j0]
        rw [if_neg h]
        exact a k hk
      · simp only [impl_Decimal.f]
        rw [if_neg h0]
        exact b k hk
/-- Signs as a text: the same on both sides. -/
theorem signText_l0 (l : List S59) (hn : l.length ≤ 1048576) (hw : ∀ y ∈ l, y.f1.size ≤ 1048576 ∧ y.f2 ≤ 9223372036854775807) : ∀ (d i : Nat) (s : ByteArray), i + d = l.length → s.size + d * 1048597 ≤ 4000000000000 → ∃ v : ByteArray, Evt (fun k => spec_SignText.l0 k l s (i : Int)) v ∧ Evt (fun k => impl_SignText.l0 k s l (l.length : Int) (i : Int)) v := by
  intro d
  induction d with
  | zero =>
    intro i s hi hs
    exact ⟨s, .succ (.const fun k => by simp only [spec_SignText.l0]; rw [if_neg (by omega)]), .succ (.const fun k => by simp only [impl_SignText.l0]; rw [if_neg (by omega)])⟩
  | succ d ih =>
    intro i s hi hs
    have hlt : i < l.length := by omega
    obtain ⟨w1, w2⟩ := hw l[i] (List.getElem_mem hlt)
    have hz : ∀ s : ByteArray, (s ++ (⟨#[32]⟩ : ByteArray)).size = s.size + 1 := fun s => by rw [ByteArray.size_append]; rfl
    obtain ⟨v, ⟨K1, g1⟩, ⟨K2, g2⟩, hv⟩ := figures l[i].f2 w2
    dsimp only at g1 g2
    obtain ⟨t, ht⟩ : ∃ t : ByteArray, t = if (i : Int) > 0 then s ++ (⟨#[32]⟩ : ByteArray) else s := ⟨_, rfl⟩
    have hts : t.size ≤ s.size + 1 := by rw [ht]; split <;> first | (rw [hz]; omega) | omega
    obtain ⟨u, hu⟩ : ∃ u : ByteArray, u = if l[i].f0 = 2 then v else l[i].f1 := ⟨_, rfl⟩
    have hus : u.size ≤ 1048576 := by rw [hu]; split <;> omega
    obtain ⟨r, ⟨K3, p1⟩, ⟨K4, p2⟩⟩ := ih (i + 1) (t ++ u) (by omega) (by rw [ByteArray.size_append]; omega)
    dsimp only at p1 p2
    have hrd : rd_T59 l (i : Int) = l[i] := nrd_T59 l i hlt
    refine ⟨r, .succ ⟨K1 + K3, fun k hk => ?_⟩, .succ ⟨K2 + K4, fun k hk => ?_⟩⟩
    · have q := p1 k (by omega)
      simp only [spec_SignText.l0, hrd, g1 k (by omega), Option.bind_some, wsucc hlt (show l.length ≤ _ by omega)]
      rw [if_pos (by omega)]
      by_cases hp : (i : Int) > 0
      · rw [if_pos hp] at ht
        subst ht
        rw [if_pos hp, if_pos (by omega), if_pos (by omega)]
        by_cases h2 : l[i].f0 = 2
        · rw [if_pos h2] at hu
          subst hu
          rw [if_pos h2, if_pos (by rw [hz]; omega)]
          exact q
        · rw [if_neg h2] at hu
          subst hu
          rw [if_neg h2, if_pos (by rw [hz]; omega)]
          exact q
      · rw [if_neg hp] at ht
        subst ht
        rw [if_neg hp, if_pos (by omega)]
        by_cases h2 : l[i].f0 = 2
        · rw [if_pos h2] at hu
          subst hu
          rw [if_pos h2, if_pos (by omega)]
          exact q
        · rw [if_neg h2] at hu
          subst hu
          rw [if_neg h2, if_pos (by omega)]
          exact q
    · have q := p2 k (by omega)
      simp only [impl_SignText.l0, hrd, g2 k (by omega), Option.bind_some, wsucc hlt (show l.length ≤ _ by omega)]
      rw [if_pos (by omega), if_pos (by omega), if_pos (by omega)]
      by_cases hp : (i : Int) > 0
      · rw [if_pos hp] at ht
        subst ht
        rw [if_pos hp, if_pos (by omega)]
        by_cases h2 : l[i].f0 = 2
        · rw [if_pos h2] at hu
          subst hu
          rw [if_pos h2, if_pos (by rw [hz]; omega)]
          exact q
        · rw [if_neg h2] at hu
          subst hu
          rw [if_neg h2, if_pos (by rw [hz]; omega)]
          exact q
      · rw [if_neg hp] at ht
        subst ht
        rw [if_neg hp]
        by_cases h2 : l[i].f0 = 2
        · rw [if_pos h2] at hu
          subst hu
          rw [if_pos h2, if_pos (by omega)]
          exact q
        · rw [if_neg h2] at hu
          subst hu
          rw [if_neg h2, if_pos (by omega)]
          exact q
theorem signText (l : List S59) (hn : l.length ≤ 1048576) (hw : ∀ y ∈ l, y.f1.size ≤ 1048576 ∧ y.f2 ≤ 9223372036854775807) : ∃ v : ByteArray, Evt (fun k => spec_SignText.f k l) v ∧ Evt (fun k => impl_SignText.f k l) v := by
  obtain ⟨v, a, b⟩ := signText_l0 l hn hw l.length 0 ⟨#[]⟩ (by omega) (by show 0 + _ ≤ _; omega)
  exact ⟨v, a, b⟩
theorem wf64 {a : Int} (h : (Lit.int .i64 a).wf = true) : -9223372036854775808 ≤ a ∧ a ≤ 9223372036854775807 := by
  have h1 : IntKind.i64.min ≤ a ∧ a ≤ IntKind.i64.max := by simpa [Lit.wf] using h
  exact ⟨h1.1, h1.2⟩
theorem main (l : List S58) (hm : l.length ≤ maxLen) (hw : ∀ x ∈ l, ((Lit.int .i64 x.f0).wf = true ∧ x.f1.size ≤ maxLen ∧ (Lit.int .i64 x.f2).wf = true)) : ∃ k, laws_FnExactSignText.f k l = some true := by
  obtain ⟨s, _, hs, K0, h0⟩ := Elaws_szSignS l 1048576 (by omega) (by omega) hm hw
  dsimp only at h0
  by_cases hn : s < 0
  · exact ⟨K0, by simp only [laws_FnExactSignText.f, h0 K0 (Nat.le_refl _), Option.bind_some, if_pos hn]⟩
  · obtain ⟨hl, hb⟩ := hs (by omega)
    obtain ⟨K1, h1⟩ := Elaws_toSignS l hl hb
    obtain ⟨v, ⟨K2, h2⟩, ⟨K3, h3⟩⟩ := signText (l.map conv58) (by rw [List.length_map]; exact hl) (fun y hy => by
      obtain ⟨x, hx, rfl⟩ := List.mem_map.1 hy
      exact ⟨hb x hx, (wf64 (hw x hx).2.2).2⟩)
    obtain ⟨K4, h4⟩ := Elaws_eqSignS (l.map conv58) (by rw [List.length_map]; omega)
    dsimp only at h1 h2 h3 h4
    obtain ⟨K, hK⟩ : ∃ K, K = K0 + K1 + K2 + K3 + K4 := ⟨_, rfl⟩
    refine ⟨K, ?_⟩
    simp only [laws_FnExactSignText.f, h0 K (by omega), h1 K (by omega), h2 K (by omega), h3 K (by omega), h4 K (by omega), Option.bind_some, if_neg hn, if_true]
end Go.Proofs.Ytgpmmmidplkhnaa.PFnExactSignText
