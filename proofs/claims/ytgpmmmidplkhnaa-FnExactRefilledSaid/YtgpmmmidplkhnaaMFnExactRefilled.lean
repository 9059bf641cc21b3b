/- The pure law of FnExactRefilled: what the functions of the program and of the reference come to is the same, for all arguments that the law is asked of. No conditions. -/
import Derived.Test.YtgpmmmidplkhnaaPFnExactRefilledy4
import Derived.Test.YtgpmmmidplkhnaaEV
set_option linter.unusedSimpArgs false
set_option linter.unusedVariables false
namespace Go.Proofs.Ytgpmmmidplkhnaa.PFnExactRefilled
open Go Go.RowKit Go.Proofs.YtgpmmmidplkhnaaW.PrintWords Go.Proofs.YtgpmmmidplkhnaaW.PrintLast Go.Proofs.YtgpmmmidplkhnaaW.PK
def conv30 (a : S30) : S35 := ⟨a.f0, a.f1, a.f2, a.f3⟩
theorem rdn30 (l : List S30) (i : Nat) (h : i < l.length) : rd_T30 l (i : Int) = l[i] := getD_lt _ h
theorem rdn35 (l : List S35) (i : Nat) (h : i < l.length) : rd_T35 l (i : Int) = l[i] := getD_lt _ h
theorem toItemS_l0 (x : List S30) (hn : x.length ≤ 4611686018427387904) : ∀ (d i : Nat) (y : List S35), i + d = x.length → y.length = x.length → (∀ j, j < i → y[j]? = (x.map conv30)[j]?) → ∀ k, d < k → laws_toItemS.l0 k x y (i : Int) = some (x.map conv30)
  | 0, i, y, hi, hy, hj, k, hk => by
    obtain ⟨k, rfl⟩ : ∃ m, k = m + 1 := ⟨k - 1, by omega⟩
    simp only [laws_toItemS.l0]
    rw [if_neg (by omega)]
    refine congrArg some (List.ext_getElem? fun j => ?_)
    rcases Nat.lt_or_ge j i with h | h
    · exact hj j h
    · rw [List.getElem?_eq_none (by omega), List.getElem?_eq_none (by rw [List.length_map]; omega)]
  | d + 1, i, y, hi, hy, hj, k, hk => by
    obtain ⟨k, rfl⟩ : ∃ m, k = m + 1 := ⟨k - 1, by omega⟩
    have hlt : i < x.length := by omega
    simp only [laws_toItemS.l0]
    rw [if_pos (by omega), if_pos (by omega), rdn30 x i hlt]
    simp only [laws_toItem.f, Option.bind_some]
    rw [if_pos (by omega), wsucc hlt (by omega), Int.toNat_natCast]
    refine toItemS_l0 x hn d (i + 1) _ (by omega) (by rw [List.length_set]; exact hy) (fun j h => ?_) k (by omega)
    rcases Nat.lt_or_ge j i with h1 | h1
    · rw [List.getElem?_set_ne (by omega)]
      exact hj j h1
    · have : j = i := by omega
      subst this
      rw [List.getElem?_set_self (by omega), List.getElem?_map, List.getElem?_eq_getElem hlt]
      rfl
theorem toItemS (x : List S30) (hn : x.length ≤ 1048576) (k : Nat) (hk : x.length < k) : laws_toItemS.f k x = some (x.map conv30) := by
  unfold laws_toItemS.f
  rw [if_pos (by omega), if_pos (by omega), Int.toNat_natCast]
  exact toItemS_l0 x (by omega) x.length 0 _ (by omega) (by simp) (fun j h => by omega) k hk
theorem eqItemS_l0 (x : List S35) (hn : x.length ≤ 4611686018427387904) : ∀ (d i : Nat), i + d = x.length → ∀ k, d < k → laws_eqItemS.l0 k x x (i : Int) = some true
  | 0, i, hi, k, hk => by
    obtain ⟨k, rfl⟩ : ∃ m, k = m + 1 := ⟨k - 1, by omega⟩
    simp only [laws_eqItemS.l0]
    rw [if_neg (by omega)]
  | d + 1, i, hi, k, hk => by
    obtain ⟨k, rfl⟩ : ∃ m, k = m + 1 := ⟨k - 1, by omega⟩
    have hlt : i < x.length := by omega
    simp only [laws_eqItemS.l0]
    rw [if_pos (by omega), if_pos (by omega), if_pos (by omega), rdn35 x i hlt]
    simp only [laws_eqItem.f, if_true, Option.bind_some]
    rw [wsucc hlt (by omega)]
    exact eqItemS_l0 x hn d (i + 1) (by omega) k (by omega)
theorem eqItemS (x : List S35) (hn : x.length ≤ 4611686018427387904) (k : Nat) (hk : x.length < k) : laws_eqItemS.f k x x = some true := by
  unfold laws_eqItemS.f
  rw [if_pos rfl]
  exact eqItemS_l0 x hn x.length 0 (by omega) k hk
theorem markItemS_l0 : ∀ (d i : Nat) (x : List S35) (q : Int), i + d = x.length → 0 ≤ q → q + 4 * d ≤ 4611686018427387904 → x.length ≤ 4611686018427387904 → ∃ y, (∀ k, d < k → laws_markItemS.l0 k x q (i : Int) = some (q + 4 * d, y)) ∧ y.length = x.length ∧ (∀ j, j < i → y[j]? = x[j]?) ∧ ∀ j, i ≤ j → j < x.length → y[j]? = some ⟨q + 4 * ((j : Int) - i), q + 4 * ((j : Int) - i) + 1, q + 4 * ((j : Int) - i) + 2, q + 4 * ((j : Int) - i) + 3⟩
  | 0, i, x, q, hi, hq, hb, hl => by
    refine ⟨x, fun k hk => ?_, rfl, fun _ _ => rfl, fun j h1 h2 => by omega⟩
    obtain ⟨k, rfl⟩ : ∃ m, k = m + 1 := ⟨k - 1, by omega⟩
    simp only [laws_markItemS.l0]
    rw [if_neg (by omega)]
    simp
  | d + 1, i, x, q, hi, hq, hb, hl => by
    have hlt : i < x.length := by omega
    obtain ⟨y, hy, hyl, hy1, hy2⟩ := markItemS_l0 d (i + 1) (x.set i ⟨q, q + 1, q + 2, q + 3⟩) (q + 4) (by rw [List.length_set]; omega) (by omega) (by omega) (by rw [List.length_set]; exact hl)
    rw [List.length_set] at hyl hy2
    refine ⟨y, fun k hk => ?_, hyl, fun j hj => ?_, fun j h1 h2 => ?_⟩
    · obtain ⟨k, rfl⟩ : ∃ m, k = m + 1 := ⟨k - 1, by omega⟩
      have w1 : wrap64 (q + 1) = q + 1 := w64 (by omega) (by omega)
      have w2 : wrap64 (q + 2) = q + 2 := w64 (by omega) (by omega)
      have w3 : wrap64 (q + 3) = q + 3 := w64 (by omega) (by omega)
      have w4 : wrap64 (q + 4) = q + 4 := w64 (by omega) (by omega)
      simp only [laws_markItemS.l0]
      rw [if_pos (by omega), if_pos (by omega)]
      have rs : ∀ v, rd_T35 (x.set i v) (i : Int) = v := fun v => by rw [rdn35 _ i (by rw [List.length_set]; exact hlt), List.getElem_set_self]
      simp only [Option.bind_some, Int.toNat_natCast, rdn35 _ i hlt, rs, List.set_set]
      simp only [w1, w2, w3, w4, Int.add_assoc, Int.reduceAdd]
      rw [wsucc hlt (by omega)]
      have h3 := hy k (by omega)
      rw [h3]
      refine congrArg some (Prod.ext ?_ rfl)
      show q + 4 + 4 * (d : Int) = q + 4 * ((d + 1 : Nat) : Int)
      omega
    · rw [hy1 j (by omega), List.getElem?_set_ne (by omega)]
    · rcases Nat.lt_or_ge i j with h3 | h3
      · rw [hy2 j (by omega) (by omega)]
        refine congrArg some ?_
        have e : q + 4 + 4 * ((j : Int) - ((i + 1 : Nat) : Int)) = q + 4 * ((j : Int) - i) := by omega
        rw [e]
      · have : i = j := by omega
        subst this
        rw [hy1 i (by omega), List.getElem?_set_self hlt]
        simp
theorem heldItemS_l0 : ∀ (d i : Nat) (x : List S35) (q : Int), i + d = x.length → 0 ≤ q → q + 4 * d ≤ 4611686018427387904 → x.length ≤ 4611686018427387904 → (∀ j, i ≤ j → j < x.length → x[j]? = some ⟨q + 4 * ((j : Int) - i), q + 4 * ((j : Int) - i) + 1, q + 4 * ((j : Int) - i) + 2, q + 4 * ((j : Int) - i) + 3⟩) → ∀ k, d < k → laws_heldItemS.l0 k x q (i : Int) = some (q + 4 * d)
  | 0, i, x, q, hi, hq, hb, hl, hx, k, hk => by
    obtain ⟨k, rfl⟩ : ∃ m, k = m + 1 := ⟨k - 1, by omega⟩
    simp only [laws_heldItemS.l0]
    rw [if_neg (by omega)]
    simp
  | d + 1, i, x, q, hi, hq, hb, hl, hx, k, hk => by
    have hlt : i < x.length := by omega
    obtain ⟨k, rfl⟩ : ∃ m, k = m + 1 := ⟨k - 1, by omega⟩
    have w1 : wrap64 (q + 1) = q + 1 := w64 (by omega) (by omega)
    have w2 : wrap64 (q + 2) = q + 2 := w64 (by omega) (by omega)
    have w3 : wrap64 (q + 3) = q + 3 := w64 (by omega) (by omega)
    have w4 : wrap64 (q + 4) = q + 4 := w64 (by omega) (by omega)
    have h0 := hx i (Nat.le_refl _) hlt
    rw [List.getElem?_eq_getElem hlt] at h0
    have h1 : x[i] = ⟨q, q + 1, q + 2, q + 3⟩ := by have := Option.some.inj h0; simpa using this
    simp only [laws_heldItemS.l0]
    rw [if_pos (by omega), if_pos (by omega), rdn35 _ i hlt, h1]
    simp only [w1, w2, w3, w4, Int.add_assoc, Int.reduceAdd, if_true]
    rw [wsucc hlt (by omega)]
    have h2 := heldItemS_l0 d (i + 1) x (q + 4) (by omega) (by omega) (by omega) hl (fun j h3 h4 => by
      rw [hx j (by omega) h4]
      have e : q + 4 + 4 * ((j : Int) - ((i + 1 : Nat) : Int)) = q + 4 * ((j : Int) - i) := by omega
      rw [e]) k (by omega)
    rw [h2]
    refine congrArg some ?_
    omega
theorem markItemS (x : List S35) (hn : x.length ≤ 140737488355328) : ∃ y q, (∀ k, x.length < k → laws_markItemS.f k x 1 = some (q, y)) ∧ (∀ k, x.length < k → laws_heldItemS.f k y 1 = some q) ∧ 0 ≤ q := by
  obtain ⟨y, hy, hyl, _, hy2⟩ := markItemS_l0 x.length 0 x 1 (by omega) (by omega) (by omega) (by omega)
  refine ⟨y, _, fun k hk => hy k hk, fun k hk => ?_, by omega⟩
  have h := heldItemS_l0 y.length 0 y 1 (by omega) (by omega) (by omega) (by omega) (fun j h1 h2 => hy2 j h1 (by omega)) k (by omega)
  rw [hyl] at h
  exact h

theorem wf64 {a : Int} (h : (Lit.int .i64 a).wf = true) : -9223372036854775808 ≤ a ∧ a ≤ 9223372036854775807 := by
  have h1 : IntKind.i64.min ≤ a ∧ a ≤ IntKind.i64.max := by simpa [Lit.wf] using h
  exact ⟨h1.1, h1.2⟩
theorem refilled (x1 : Int) (l : List S35) (a b c : Int) (hn : l.length ≤ 1048576) (ha : -9223372036854775808 ≤ a ∧ a ≤ 9223372036854775807) (hx : -9223372036854775808 ≤ x1 ∧ x1 ≤ 9223372036854775807) : ∃ R : List S35 × Int × Int × Int, spec_Refilled.f l a b c x1 = some R ∧ impl_Refilled.f l a b c x1 = some R ∧ R.1.length ≤ 2000000 := by
  have eC : (if ([] : List S35).length + l.length < 4398046511104 then some (([] : List S35) ++ l, a, b, c) else none) = some (l, a, b, c) := by rw [if_pos (by simp; omega)]; rfl
  have eC' : (if ([] : List S35).length + l.length < 4398046511104 then some (([] : List S35) ++ l) else none) = some l := by rw [if_pos (by simp; omega)]; rfl
  have hl : l.length ≤ 2000000 := by omega
  simp only [spec_Refilled.f, impl_Refilled.f, impl_copyRing.f, impl_copyItems.f, spec_l16Copy.f, Option.bind_some, eC, eC']
  by_cases h1 : x1 < 0
  · exact ⟨(l, a, b, c), by rw [if_pos h1], by rw [if_pos h1], hl⟩
  · by_cases h2 : x1 > 5
    · refine ⟨(l, 5, b, c), by rw [if_neg h1, if_pos h2], ?_, hl⟩
      rw [if_neg h1]
      by_cases h3 : a ≥ 5
      · rw [if_pos h3]
      · rw [if_neg h3, if_pos h2]
    · have e1 : wrap64 (5 - x1) = 5 - x1 := w64 (by omega) (by omega)
      rw [if_neg h1, if_neg h1, if_neg h2, if_neg h2, e1]
      by_cases h3 : a > 5 - x1
      · refine ⟨(l, 5, b, c), by rw [if_pos h3], ?_, hl⟩
        by_cases h4 : a ≥ 5
        · rw [if_pos h4]
        · have e2 : mn 5 (wrap64 (a + x1)) = 5 := by rw [w64 (by omega) (by omega)]; unfold mn; omega
          rw [if_neg h4, e2]
          by_cases h5 : a ≥ 0
          · rw [if_pos h5]
            by_cases h6 : x1 ≥ 5
            · rw [if_pos h6]
            · rw [if_neg h6]
          · rw [if_neg h5]
      · have e2 : wrap64 (a + x1) = a + x1 := w64 (by omega) (by omega)
        refine ⟨(l, a + x1, b, c), by rw [if_neg h3, e2], ?_, hl⟩
        by_cases h4 : a ≥ 5
        · rw [if_pos h4]
          have h5 : x1 = 0 := by omega
          have h6 : a = 5 := by omega
          rw [h5, h6]
          rfl
        · have e3 : mn 5 (a + x1) = a + x1 := by unfold mn; omega
          rw [if_neg h4, e2, e3]
          by_cases h5 : a ≥ 0
          · rw [if_pos h5]
            by_cases h6 : x1 ≥ 5
            · rw [if_pos h6, show a + x1 = 5 by omega]
            · rw [if_neg h6]
          · rw [if_neg h5]
theorem main (l0 : List S30) (a b c x1 : Int) (hm : l0.length ≤ 9223372036854775807) (ha : -9223372036854775808 ≤ a ∧ a ≤ 9223372036854775807) (hx : -9223372036854775808 ≤ x1 ∧ x1 ≤ 9223372036854775807) : ∃ k, laws_FnExactRefilled.f k l0 a b c x1 = some true := by
  refine ⟨l0.length + 3000000, ?_⟩
  have e1 : wrap64 (1048576 - (l0.length : Int)) = 1048576 - (l0.length : Int) := w64 (by omega) (by omega)
  unfold laws_FnExactRefilled.f laws_szRing.f laws_szItemS.f
  rw [e1]
  by_cases hn : (1048576 : Int) - l0.length < 0
  · rw [if_pos hn]
    rfl
  · rw [if_neg hn]
    simp only [Option.bind_some]
    rw [if_neg hn]
    simp only [Option.bind_some]
    rw [if_neg hn]
    have hl : (l0.map conv30).length = l0.length := List.length_map _
    have T : ∀ k, l0.length < k → laws_toRing.f k l0 a b c = some (l0.map conv30, a, b, c) := fun k hk => by
      unfold laws_toRing.f
      rw [toItemS l0 (by omega) k hk]
      rfl
    have Q : ∀ (l : List S35) (a b c : Int), l.length ≤ 2000000 → ∀ k, l.length < k → laws_eqRing.f k l a b c l a b c = some true := fun l a b c h k hk => by
      unfold laws_eqRing.f
      simp [eqItemS l (by omega) k hk]
    obtain ⟨⟨R1, R2, R3, R4⟩, hS, hI, hR⟩ := refilled x1 (l0.map conv30) a b c (by omega) ha hx
    dsimp only at hR
    obtain ⟨y1, q1, m1, _, p1⟩ := markItemS (l0.map conv30) (by omega)
    obtain ⟨y2, q2, m2, h2, p2⟩ := markItemS R1 (by omega)
    have M1 : ∀ k, l0.length < k → laws_markRing.f k (l0.map conv30) a b c 1 = some (q1, y1) := fun k hk => by
      unfold laws_markRing.f
      rw [m1 k (by omega)]
      rfl
    have M2 : ∀ k, R1.length < k → laws_markRing.f k R1 R2 R3 R4 1 = some (q2, y2) := fun k hk => by
      unfold laws_markRing.f
      rw [m2 k (by omega)]
      rfl
    have H2 : ∀ k, R1.length < k → laws_heldRing.f k y2 R2 R3 R4 1 = some q2 := fun k hk => by
      unfold laws_heldRing.f
      rw [h2 k (by omega)]
      simp only [Option.bind_some]
      rw [if_neg (by omega)]
    obtain ⟨n, hn'⟩ : ∃ n, n = l0.length + 2999990 := ⟨_, rfl⟩
    rw [show l0.length + 3000000 = n + 10 by omega]
    have N1 : ¬ q1 < 0 := by omega
    have N2 : ¬ q2 < 0 := by omega
    simp only [T _ (show l0.length < n + 10 by omega), hS, hI, Q _ _ _ _ hR _ (show R1.length < n + 10 by omega), Q _ a b c (show (l0.map conv30).length ≤ 2000000 by omega) _ (show (l0.map conv30).length < n + 10 by omega), M1 _ (show l0.length < n + 10 by omega), Option.bind_some, if_true, if_neg N1, Bool.not_true]
    simp only [laws_FnExactRefilled.j0, T _ (show l0.length < n + 9 by omega), hI, Q _ _ _ _ hR _ (show R1.length < n + 9 by omega), M2 _ (show R1.length < n + 9 by omega), H2 _ (show R1.length < n + 9 by omega), Option.bind_some, if_true, if_neg N2, Bool.false_eq_true, if_false]
end Go.Proofs.Ytgpmmmidplkhnaa.PFnExactRefilled
