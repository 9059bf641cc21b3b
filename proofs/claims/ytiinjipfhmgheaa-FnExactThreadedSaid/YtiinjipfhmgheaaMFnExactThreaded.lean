import Derived.Test.YtiinjipfhmgheaaMFnExactThreadedIns
import Derived.Test.YtiinjipfhmgheaaPK
namespace Go.Proofs.Ytiinjipfhmgheaa.PFnExactThreaded
set_option linter.unusedSimpArgs false
set_option linter.unusedVariables false
open Go Go.RowKit Go.Proofs.YtiinjipfhmgheaaW.PrintWords Go.Proofs.YtiinjipfhmgheaaW.PrintLast Go.Proofs.YtiinjipfhmgheaaW.PK
def conv120 (a : S120) : S118 := ⟨a.f0, a.f1, a.f2, a.f3⟩
theorem rdn120 (l : List S120) (i : Nat) (h : i < l.length) : rd_T120 l (i : Int) = l[i] := getD_lt _ h
theorem rdn118 (l : List S118) (i : Nat) (h : i < l.length) : rd_T118 l (i : Int) = l[i] := getD_lt _ h
theorem toInsS_l0 (x : List S120) (hn : x.length ≤ 4611686018427387904) : ∀ (d i : Nat) (y : List S118), i + d = x.length → y.length = x.length → (∀ j, j < i → y[j]? = (x.map conv120)[j]?) → ∀ k, d < k → laws_toInsS.l0 k x y (i : Int) = some (x.map conv120)
  | 0, i, y, hi, hy, hj, k, hk => by
    obtain ⟨k, rfl⟩ : ∃ m, k = m + 1 := ⟨k - 1, by omega⟩
    simp only [laws_toInsS.l0]
    rw [if_neg (by omega)]
    refine congrArg some (List.ext_getElem? fun j => ?_)
    rcases Nat.lt_or_ge j i with h | h
    · exact hj j h
    · rw [List.getElem?_eq_none (by omega), List.getElem?_eq_none (by rw [List.length_map]; omega)]
  | d + 1, i, y, hi, hy, hj, k, hk => by
    obtain ⟨k, rfl⟩ : ∃ m, k = m + 1 := ⟨k - 1, by omega⟩
    have hlt : i < x.length := by omega
    simp only [laws_toInsS.l0]
    rw [if_pos (by omega), if_pos (by omega), rdn120 x i hlt]
    simp only [laws_toIns.f, Option.bind_some]
    rw [if_pos (by omega), wsucc hlt (by omega), Int.toNat_natCast]
    refine toInsS_l0 x hn d (i + 1) _ (by omega) (by rw [List.length_set]; exact hy) (fun j h => ?_) k (by omega)
    rcases Nat.lt_or_ge j i with h1 | h1
    · rw [List.getElem?_set_ne (by omega)]
      exact hj j h1
    · have : j = i := by omega
      subst this
      rw [List.getElem?_set_self (by omega), List.getElem?_map, List.getElem?_eq_getElem hlt]
      rfl
theorem toInsS (x : List S120) (hn : x.length ≤ 1048576) (k : Nat) (hk : x.length < k) : laws_toInsS.f k x = some (x.map conv120) := by
  unfold laws_toInsS.f
  rw [if_pos (by omega), if_pos (by omega), Int.toNat_natCast]
  exact toInsS_l0 x (by omega) x.length 0 _ (by omega) (by simp) (fun j h => by omega) k hk
theorem eqInsS_l0 (x : List S118) (hn : x.length ≤ 4611686018427387904) : ∀ (d i : Nat), i + d = x.length → ∀ k, d < k → laws_eqInsS.l0 k x x (i : Int) = some true
  | 0, i, hi, k, hk => by
    obtain ⟨k, rfl⟩ : ∃ m, k = m + 1 := ⟨k - 1, by omega⟩
    simp only [laws_eqInsS.l0]
    rw [if_neg (by omega)]
  | d + 1, i, hi, k, hk => by
    obtain ⟨k, rfl⟩ : ∃ m, k = m + 1 := ⟨k - 1, by omega⟩
    have hlt : i < x.length := by omega
    simp only [laws_eqInsS.l0]
    rw [if_pos (by omega), if_pos (by omega), if_pos (by omega), rdn118 x i hlt]
    simp only [laws_eqIns.f, if_true, Option.bind_some]
    rw [wsucc hlt (by omega)]
    exact eqInsS_l0 x hn d (i + 1) (by omega) k (by omega)
theorem eqInsS (x : List S118) (hn : x.length ≤ 4611686018427387904) (k : Nat) (hk : x.length < k) : laws_eqInsS.f k x x = some true := by
  unfold laws_eqInsS.f
  rw [if_pos rfl]
  exact eqInsS_l0 x hn x.length 0 (by omega) k hk
theorem markInsS_l0 : ∀ (d i : Nat) (x : List S118) (q : Int), i + d = x.length → 0 ≤ q → q + 4 * d ≤ 4611686018427387904 → x.length ≤ 4611686018427387904 → ∃ y, (∀ k, d < k → laws_markInsS.l0 k x q (i : Int) = some (q + 4 * d, y)) ∧ y.length = x.length ∧ (∀ j, j < i → y[j]? = x[j]?) ∧ ∀ j, i ≤ j → j < x.length → y[j]? = some ⟨q + 4 * ((j : Int) - i), q + 4 * ((j : Int) - i) + 1, q + 4 * ((j : Int) - i) + 2, q + 4 * ((j : Int) - i) + 3⟩
  | 0, i, x, q, hi, hq, hb, hl => by
    refine ⟨x, fun k hk => ?_, rfl, fun _ _ => rfl, fun j h1 h2 => by omega⟩
    obtain ⟨k, rfl⟩ : ∃ m, k = m + 1 := ⟨k - 1, by omega⟩
    simp only [laws_markInsS.l0]
    rw [if_neg (by omega)]
    simp
  | d + 1, i, x, q, hi, hq, hb, hl => by
    have hlt : i < x.length := by omega
    obtain ⟨y, hy, hyl, hy1, hy2⟩ := markInsS_l0 d (i + 1) (x.set i ⟨q, q + 1, q + 2, q + 3⟩) (q + 4) (by rw [List.length_set]; omega) (by omega) (by omega) (by rw [List.length_set]; exact hl)
    rw [List.length_set] at hyl hy2
    refine ⟨y, fun k hk => ?_, hyl, fun j hj => ?_, fun j h1 h2 => ?_⟩
    · obtain ⟨k, rfl⟩ : ∃ m, k = m + 1 := ⟨k - 1, by omega⟩
      have w1 : wrap64 (q + 1) = q + 1 := w64 (by omega) (by omega)
      have w2 : wrap64 (q + 2) = q + 2 := w64 (by omega) (by omega)
      have w3 : wrap64 (q + 3) = q + 3 := w64 (by omega) (by omega)
      have w4 : wrap64 (q + 4) = q + 4 := w64 (by omega) (by omega)
      simp only [laws_markInsS.l0]
      rw [if_pos (by omega), if_pos (by omega)]
      have rs : ∀ v, rd_T118 (x.set i v) (i : Int) = v := fun v => by rw [rdn118 _ i (by rw [List.length_set]; exact hlt), List.getElem_set_self]
      simp only [Option.bind_some, Int.toNat_natCast, rdn118 _ i hlt, rs, List.set_set]
      simp only [w1, w2, w3, w4, Int.add_assoc, Int.reduceAdd]
      rw [wsucc hlt (by omega)]
      have h3 := hy k (by omega)
      rw [h3]
      refine congrArg some (Prod.ext ?_ rfl)
      show q + 4 + 4 * (d : Int) = q + 4 * ((d + 1 : Nat) : Int)
      omega
    · rw [hy1 j (by omega), List.getElem?_set_ne (by omega)]
    · rcases Nat.lt_or_ge i j with h3 | h3
      · rw [hy2 j (by omega) (by omega)]
        refine congrArg some ?_
        have e : q + 4 + 4 * ((j : Int) - ((i + 1 : Nat) : Int)) = q + 4 * ((j : Int) - i) := by omega
        rw [e]
      · have : i = j := by omega
        subst this
        rw [hy1 i (by omega), List.getElem?_set_self hlt]
        simp
theorem heldInsS_l0 : ∀ (d i : Nat) (x : List S118) (q : Int), i + d = x.length → 0 ≤ q → q + 4 * d ≤ 4611686018427387904 → x.length ≤ 4611686018427387904 → (∀ j, i ≤ j → j < x.length → x[j]? = some ⟨q + 4 * ((j : Int) - i), q + 4 * ((j : Int) - i) + 1, q + 4 * ((j : Int) - i) + 2, q + 4 * ((j : Int) - i) + 3⟩) → ∀ k, d < k → laws_heldInsS.l0 k x q (i : Int) = some (q + 4 * d)
  | 0, i, x, q, hi, hq, hb, hl, hx, k, hk => by
    obtain ⟨k, rfl⟩ : ∃ m, k = m + 1 := ⟨k - 1, by omega⟩
    simp only [laws_heldInsS.l0]
    rw [if_neg (by omega)]
    simp
  | d + 1, i, x, q, hi, hq, hb, hl, hx, k, hk => by
    have hlt : i < x.length := by omega
    obtain ⟨k, rfl⟩ : ∃ m, k = m + 1 := ⟨k - 1, by omega⟩
    have w1 : wrap64 (q + 1) = q + 1 := w64 (by omega) (by omega)
    have w2 : wrap64 (q + 2) = q + 2 := w64 (by omega) (by omega)
    have w3 : wrap64 (q + 3) = q + 3 := w64 (by omega) (by omega)
    have w4 : wrap64 (q + 4) = q + 4 := w64 (by omega) (by omega)
    have h0 := hx i (Nat.le_refl _) hlt
    rw [List.getElem?_eq_getElem hlt] at h0
    have h1 : x[i] = ⟨q, q + 1, q + 2, q + 3⟩ := by have := Option.some.inj h0; simpa using this
    simp only [laws_heldInsS.l0]
    rw [if_pos (by omega), if_pos (by omega), rdn118 _ i hlt, h1]
    simp only [w1, w2, w3, w4, Int.add_assoc, Int.reduceAdd, if_true]
    rw [wsucc hlt (by omega)]
    have h2 := heldInsS_l0 d (i + 1) x (q + 4) (by omega) (by omega) (by omega) hl (fun j h3 h4 => by
      rw [hx j (by omega) h4]
      have e : q + 4 + 4 * ((j : Int) - ((i + 1 : Nat) : Int)) = q + 4 * ((j : Int) - i) := by omega
      rw [e]) k (by omega)
    rw [h2]
    refine congrArg some ?_
    omega
theorem markInsS (x : List S118) (hn : x.length ≤ 140737488355328) : ∃ y q, (∀ k, x.length < k → laws_markInsS.f k x 1 = some (q, y)) ∧ (∀ k, x.length < k → laws_heldInsS.f k y 1 = some q) ∧ 0 ≤ q := by
  obtain ⟨y, hy, hyl, _, hy2⟩ := markInsS_l0 x.length 0 x 1 (by omega) (by omega) (by omega) (by omega)
  refine ⟨y, _, fun k hk => hy k hk, fun k hk => ?_, by omega⟩
  have h := heldInsS_l0 y.length 0 y 1 (by omega) (by omega) (by omega) (by omega) (fun j h1 h2 => hy2 j h1 (by omega)) k (by omega)
  rw [hyl] at h
  exact h

theorem szS (l : List S120) : laws_szInsS.f l 1048576 = (some (if (1048576 : Int) - l.length < 0 then (-1 : Int) else (1048576 : Int) - l.length) : Option Int) ∨ 9223372036854775807 < l.length := by
  rcases Nat.lt_or_ge 9223372036854775807 l.length with h | h
  · exact .inr h
  left
  have e1 : wrap64 (1048576 - (l.length : Int)) = 1048576 - (l.length : Int) := w64 (by omega) (by omega)
  unfold laws_szInsS.f
  rw [e1]
  split <;> rfl
theorem thrEq : ∀ (k : Nat) (x : List S118) (i : Int), impl_Threaded.l0 k x i = spec_Threaded.l0 k x i
  | 0, _, _ => rfl
  | k + 1, x, i => by
    simp only [impl_Threaded.l0, spec_Threaded.l0, thrEq k]
theorem thr_l0 (l : List S118) (hn : l.length ≤ 400) (hl : ∀ j (h : j < l.length), AtP l j h) : ∀ (d : Nat) (x : List S118), x.length = l.length → d ≤ l.length → (∀ j, j < d → x[j]? = l[j]?) → ∃ z, z.length = l.length ∧ ∀ k, d < k → spec_Threaded.l0 k x ((d : Int) - 1) = some z
  | 0, x, hx, hd, hj => by
    refine ⟨x, hx, fun k hk => ?_⟩
    obtain ⟨k, rfl⟩ : ∃ m, k = m + 1 := ⟨k - 1, by omega⟩
    simp only [spec_Threaded.l0]
    rw [if_neg (by omega)]
  | d + 1, x, hx, hd, hj => by
    have hlt : d < x.length := by omega
    have hxd : x[d] = l[d]'(by omega) := by
      have := hj d (by omega)
      rw [List.getElem?_eq_getElem hlt, List.getElem?_eq_getElem (by omega)] at this
      exact Option.some.inj this
    have e0 : ((d + 1 : Nat) : Int) - 1 = (d : Int) := by omega
    have e1 : wrap64 ((d : Int) - 1) = (d : Int) - 1 := w64 (by omega) (by omega)
    have e2 : wrap64 ((d : Int) + 1) = (d : Int) + 1 := w64 (by omega) (by omega)
    have hA := hl d (by omega)
    obtain ⟨hA1, hA2⟩ := hA
    unfold InsP at hA1
    have stay := thr_l0 l hn hl d x hx (by omega) (fun j h => hj j (by omega))
    by_cases h7 : (l[d]'(by omega)).f0 = 7
    · unfold farP at hA2
      rw [if_neg (by omega), if_pos h7] at hA2
      have e3 : wrap64 ((d : Int) + 1 + (l[d]'(by omega)).f1) = (d : Int) + 1 + (l[d]'(by omega)).f1 := w64 (by omega) (by omega)
      by_cases h8 : (rd_T118 x ((d : Int) + 1 + (l[d]'(by omega)).f1)).f0 = 8
      · obtain ⟨z, hz, hzk⟩ := thr_l0 l hn hl d (x.set d (rd_T118 x ((d : Int) + 1 + (l[d]'(by omega)).f1))) (by rw [List.length_set]; exact hx) (by omega) (fun j h => by rw [List.getElem?_set_ne (by omega)]; exact hj j (by omega))
        refine ⟨z, hz, fun k hk => ?_⟩
        obtain ⟨k, rfl⟩ : ∃ m, k = m + 1 := ⟨k - 1, by omega⟩
        rw [e0]
        simp only [spec_Threaded.l0]
        rw [if_pos (by omega), if_pos (by omega), if_pos (by omega), rd_nat118 x d hlt, hxd, if_pos h7, e2, e3, if_pos (by omega), if_pos (by omega), if_pos h8, e1, Int.toNat_natCast]
        exact hzk k (by omega)
      · obtain ⟨z, hz, hzk⟩ := stay
        refine ⟨z, hz, fun k hk => ?_⟩
        obtain ⟨k, rfl⟩ : ∃ m, k = m + 1 := ⟨k - 1, by omega⟩
        rw [e0]
        simp only [spec_Threaded.l0]
        rw [if_pos (by omega), if_pos (by omega), if_pos (by omega), rd_nat118 x d hlt, hxd, if_pos h7, e2, e3, if_pos (by omega), if_pos (by omega), if_neg h8, e1]
        exact hzk k (by omega)
    · obtain ⟨z, hz, hzk⟩ := stay
      refine ⟨z, hz, fun k hk => ?_⟩
      obtain ⟨k, rfl⟩ : ∃ m, k = m + 1 := ⟨k - 1, by omega⟩
      rw [e0]
      simp only [spec_Threaded.l0]
      rw [if_pos (by omega), if_pos (by omega), if_pos (by omega), rd_nat118 x d hlt, hxd, if_neg h7, e1]
      exact hzk k (by omega)
theorem thr (l : List S118) (hn : l.length ≤ 1048576) : ∃ z, z.length = l.length ∧ (∀ k, l.length + 4 ≤ k → spec_Threaded.f k l = some z) ∧ (∀ k, l.length + 4 ≤ k → impl_Threaded.f k l = some z) := by
  obtain ⟨b, hS, hI, hb⟩ := chk l
  by_cases hP : ProgP l
  · have hP' := hb.2 hP
    subst hP'
    obtain ⟨z, hz, hk⟩ := thr_l0 l hP.1.2 hP.2.2 l.length l rfl (Nat.le_refl _) (fun _ _ => rfl)
    have e : wrap64 ((l.length : Int) - 1) = (l.length : Int) - 1 := w64 (by omega) (by omega)
    refine ⟨z, hz, fun k h => ?_, fun k h => ?_⟩
    · unfold spec_Threaded.f
      simp only [Option.bind_some, List.nil_append, List.length_nil, hS k h, if_true, e]
      rw [if_pos (by omega)]
      exact hk k (by omega)
    · unfold impl_Threaded.f
      simp only [Option.bind_some, List.nil_append, List.length_nil, hI k h, if_true, e, thrEq]
      rw [if_pos (by omega)]
      exact hk k (by omega)
  · have hb' : b = false := by cases b; rfl; exact absurd (hb.1 rfl) hP
    subst hb'
    refine ⟨l, rfl, fun k h => ?_, fun k h => ?_⟩
    · unfold spec_Threaded.f
      simp only [Option.bind_some, List.nil_append, List.length_nil, hS k h, Bool.false_eq_true, if_false]
      rw [if_pos (by omega)]
    · unfold impl_Threaded.f
      simp only [Option.bind_some, List.nil_append, List.length_nil, hI k h, Bool.false_eq_true, if_false]
      rw [if_pos (by omega)]
theorem main (l0 : List S120) (hm : l0.length ≤ 9223372036854775807) : ∃ k, laws_FnExactThreaded.f k l0 = some true := by
  refine ⟨l0.length + 10, ?_⟩
  have hs := (szS l0).resolve_right (by omega)
  unfold laws_FnExactThreaded.f
  rw [hs]
  simp only [Option.bind_some]
  by_cases hn : (1048576 : Int) - l0.length < 0
  · rw [if_pos hn]
    rfl
  · rw [if_neg hn, if_neg (by omega)]
    have hl : (l0.map conv120).length = l0.length := List.length_map _
    obtain ⟨z, hz, zS, zI⟩ := thr (l0.map conv120) (by omega)
    obtain ⟨y, q, hy, hh, hq⟩ := markInsS z (by omega)
    simp only [toInsS l0 (by omega) (l0.length + 10) (by omega), Option.bind_some, zS (l0.length + 10) (by omega), zI (l0.length + 10) (by omega), eqInsS z (by omega) (l0.length + 10) (by omega), eqInsS (l0.map conv120) (by omega) (l0.length + 10) (by omega), if_true]
    obtain ⟨y', q', hy', hh', hq'⟩ := markInsS (l0.map conv120) (by omega)
    rw [hy' _ (by omega)]
    simp only [Option.bind_some]
    rw [if_neg (by omega)]
    simp only [laws_FnExactThreaded.j0, Bool.not_true, Bool.false_eq_true, if_false]
    simp only [toInsS l0 (by omega) (l0.length + 9) (by omega), hy (l0.length + 9) (by omega), hh (l0.length + 9) (by omega), Option.bind_some, zI (l0.length + 9) (by omega), eqInsS z (by omega) (l0.length + 9) (by omega), if_true]
    rw [if_neg (by omega), if_neg (by omega)]
end Go.Proofs.Ytiinjipfhmgheaa.PFnExactThreaded
