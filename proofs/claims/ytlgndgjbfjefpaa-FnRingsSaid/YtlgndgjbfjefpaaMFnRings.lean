/- The pure law of FnRings: what is offered to a ring is in it, place by place, or is counted. No conditions. -/
import Derived.Test.YtlgndgjbfjefpaaPFnRingsy5
import Derived.Test.YtlgndgjbfjefpaaEV
set_option linter.unusedSimpArgs false
set_option linter.unusedVariables false
namespace Go.Proofs.Ytlgndgjbfjefpaa.PFnRings
open Go Go.RowKit Go.Proofs.YtlgndgjbfjefpaaW.PrintWords Go.Proofs.YtlgndgjbfjefpaaW.PrintLast Go.Proofs.YtlgndgjbfjefpaaW.PK
theorem rd_nat33 (l : List S33) (i : Nat) (h : i < l.length) : rd_T33 l (i : Int) = l[i] := getD_lt _ h
theorem inS (a b c : Int) : impl_within.f a b c = some (decide (b ≤ a ∧ a ≤ c)) := by
  unfold impl_within.f
  by_cases h : a ≥ b
  · rw [if_pos h]
    exact congrArg some (by rw [Bool.eq_iff_iff]; simp; omega)
  · rw [if_neg h]
    exact congrArg some (by rw [Bool.eq_iff_iff]; simp; omega)
theorem inI (a b c : Int) : impl_within.f a b c = some (decide (b ≤ a ∧ a ≤ c)) := inS a b c
theorem halfS (a : Int) : impl_HalfOk.f a = some (decide (0 ≤ a ∧ a ≤ 4294967295)) := by
  unfold impl_HalfOk.f
  rw [inS]
  rfl
theorem halfI (a : Int) : impl_HalfOk.f a = some (decide (0 ≤ a ∧ a ≤ 4294967295)) := halfS a
/-- A right item: a word, or a stretch. -/
def ItP (x : S33) : Prop := (x.f0 = 1 ∧ (0 ≤ x.f1 ∧ x.f1 ≤ 4294967295) ∧ (0 ≤ x.f2 ∧ x.f2 ≤ 4294967295) ∧ x.f3 = 0) ∨ (x.f0 = 2 ∧ (1 ≤ x.f3 ∧ x.f3 ≤ 1000000000) ∧ x.f1 = 0 ∧ x.f2 = 0)
instance (x : S33) : Decidable (ItP x) := by unfold ItP; infer_instance
theorem itS (x : S33) : impl_ItemOk.f x.f0 x.f1 x.f2 x.f3 = some (decide (ItP x)) := by
  have e : ∀ b : Bool, (b = true ↔ ItP x) → some b = some (decide (ItP x)) := fun b h => congrArg some (by rw [Bool.eq_iff_iff, h]; simp)
  unfold impl_ItemOk.f
  simp only [inS, halfS, Option.bind_some, decide_eq_true_eq]
  repeat' split
  all_goals (refine e _ ?_; clear e; unfold ItP; (try simp only [Bool.false_eq_true, beq_iff_eq, false_iff] at *))
  all_goals omega
theorem itI (x : S33) : impl_ItemOk.f x.f0 x.f1 x.f2 x.f3 = some (decide (ItP x)) := itS x
theorem areI (l : List S33) (hn : l.length ≤ 4611686018427387904) : ∀ (d i : Nat), i + d = l.length → ∃ b, (∀ k, d < k → impl_areItems.l0 k l (l.length : Int) (i : Int) = some b) ∧ (b = true ↔ ∀ j (h : j < l.length), i ≤ j → ItP l[j])
  | 0, i, hi => by
    refine ⟨true, fun k hk => ?_, by simp; intro j h1 h2; omega⟩
    obtain ⟨k, rfl⟩ : ∃ m, k = m + 1 := ⟨k - 1, by omega⟩
    simp only [impl_areItems.l0]
    rw [if_neg (by omega)]
  | d + 1, i, hi => by
    have hlt : i < l.length := by omega
    obtain ⟨b, hb, hbi⟩ := areI l hn d (i + 1) (by omega)
    by_cases hA : ItP l[i]
    · refine ⟨b, fun k hk => ?_, ?_⟩
      · obtain ⟨k, rfl⟩ : ∃ m, k = m + 1 := ⟨k - 1, by omega⟩
        simp only [impl_areItems.l0]
        rw [if_pos (by omega), if_pos (by omega), if_pos (by omega), rd_nat33 l i hlt, itI, wsucc hlt (by omega)]
        simp only [Option.bind_some, decide_eq_true_eq]
        rw [if_pos hA]
        exact hb k (by omega)
      · rw [hbi]
        refine ⟨fun h j hj hij => ?_, fun h j hj hij => h j hj (by omega)⟩
        rcases Nat.lt_or_ge i j with h3 | h3
        · exact h j hj (by omega)
        · have : i = j := by omega
          subst this
          exact hA
    · refine ⟨false, fun k hk => ?_, ⟨(fun h => by cases h), fun h => absurd (h i hlt (Nat.le_refl _)) hA⟩⟩
      obtain ⟨k, rfl⟩ : ∃ m, k = m + 1 := ⟨k - 1, by omega⟩
      simp only [impl_areItems.l0]
      rw [if_pos (by omega), if_pos (by omega), if_pos (by omega), rd_nat33 l i hlt, itI]
      simp only [Option.bind_some, decide_eq_true_eq]
      rw [if_neg hA]
/-- What a ring's items tell, from a place on: a word that is in it, or a stretch of what is not. -/
def Cov (h : List Bool) (n : List Int) : Nat → List S33 → Nat → Prop
  | a, [], b => a = b
  | a, x :: xs, b => (x.f0 = 1 ∧ (0 ≤ x.f1 ∧ x.f1 ≤ 4294967295) ∧ x.f2 = (a : Int) ∧ x.f3 = 0 ∧ h[a]? = some true ∧ n[a]? = some x.f1 ∧ Cov h n (a + 1) xs b) ∨ (x.f0 = 2 ∧ x.f1 = 0 ∧ x.f2 = 0 ∧ ∃ c : Nat, x.f3 = (c : Int) ∧ 1 ≤ c ∧ (∀ j, j < c → h[a + j]? = some false) ∧ Cov h n (a + c) xs b)
theorem cov_app (h : List Bool) (n : List Int) : ∀ (xs ys : List S33) (a b : Nat), Cov h n a (xs ++ ys) b ↔ ∃ m, Cov h n a xs m ∧ Cov h n m ys b
  | [], ys, a, b => ⟨fun g => ⟨a, rfl, g⟩, fun ⟨m, g1, g2⟩ => by
      have e : a = m := g1
      subst e
      exact g2⟩
  | x :: xs, ys, a, b => by
    simp only [List.cons_append, Cov]
    constructor
    · rintro (⟨g1, g2, g3, g4, g5, g6, g⟩ | ⟨g1, g2, g3, c, g4, g5, g6, g⟩)
      · obtain ⟨m, p, q⟩ := (cov_app h n xs ys _ _).1 g
        exact ⟨m, .inl ⟨g1, g2, g3, g4, g5, g6, p⟩, q⟩
      · obtain ⟨m, p, q⟩ := (cov_app h n xs ys _ _).1 g
        exact ⟨m, .inr ⟨g1, g2, g3, c, g4, g5, g6, p⟩, q⟩
    · rintro ⟨m, (⟨g1, g2, g3, g4, g5, g6, g⟩ | ⟨g1, g2, g3, c, g4, g5, g6, g⟩), q⟩
      · exact .inl ⟨g1, g2, g3, g4, g5, g6, (cov_app h n xs ys _ _).2 ⟨m, g, q⟩⟩
      · exact .inr ⟨g1, g2, g3, c, g4, g5, g6, (cov_app h n xs ys _ _).2 ⟨m, g, q⟩⟩
theorem get_more {α : Type} {l : List α} {i : Nat} {v : α} (w : α) (h : l[i]? = some v) : (l ++ [w])[i]? = some v := by
  rw [List.getElem?_append_left (List.getElem?_eq_some_iff.1 h).1]
  exact h
theorem cov_more (h : List Bool) (n : List Int) (v : Bool) (w : Int) : ∀ (xs : List S33) (a b : Nat), Cov h n a xs b → Cov (h ++ [v]) (n ++ [w]) a xs b
  | [], _, _, g => g
  | x :: xs, a, b, g => by
    rcases g with ⟨g1, g2, g3, g4, g5, g6, g⟩ | ⟨g1, g2, g3, c, g4, g5, g6, g⟩
    · exact .inl ⟨g1, g2, g3, g4, get_more _ g5, get_more _ g6, cov_more h n v w xs _ _ g⟩
    · exact .inr ⟨g1, g2, g3, c, g4, g5, fun j hj => get_more _ (g6 j hj), cov_more h n v w xs _ _ g⟩
def lenOf (x : S33) : Int := if x.f0 = 1 then 1 else x.f3
def tot : List S33 → Int
  | [] => 0
  | x :: xs => lenOf x + tot xs
theorem cov_tot (h : List Bool) (n : List Int) : ∀ (xs : List S33) (a b : Nat), Cov h n a xs b → tot xs = (b : Int) - a ∧ (a ≤ b) ∧ ∀ x ∈ xs, b ≤ 100 → ItP x ∧ 0 ≤ lenOf x ∧ lenOf x ≤ 100
  | [], a, b, g => by
    have e : a = b := g
    subst e
    exact ⟨by simp only [tot]; omega, Nat.le_refl _, fun x hx => by simp at hx⟩
  | x :: xs, a, b, g => by
    rcases g with ⟨g1, g2, g3, g4, g5, g6, g⟩ | ⟨g1, g2, g3, c, g4, g5, g6, g⟩
    · obtain ⟨p, q, r⟩ := cov_tot h n xs _ _ g
      have e : lenOf x = 1 := by unfold lenOf; rw [if_pos g1]
      refine ⟨by simp only [tot]; omega, by omega, fun y hy hb => ?_⟩
      rcases List.mem_cons.1 hy with rfl | hy
      · exact ⟨.inl ⟨g1, g2, by omega, g4⟩, by omega, by omega⟩
      · exact r y hy hb
    · obtain ⟨p, q, r⟩ := cov_tot h n xs _ _ g
      have e : lenOf x = c := by unfold lenOf; rw [if_neg (by omega), g4]
      refine ⟨by simp only [tot]; omega, by omega, fun y hy hb => ?_⟩
      rcases List.mem_cons.1 hy with rfl | hy
      · exact ⟨.inr ⟨g1, by omega, g2, g3⟩, by omega, by omega⟩
      · exact r y hy hb
theorem ringOk_l0 (l : List S33) (a b c : Int) (hn : l.length ≤ 4) (hl : ∀ x ∈ l, 0 ≤ lenOf x ∧ lenOf x ≤ 100) : ∀ (d i : Nat) (t : Int), i + d = l.length → 0 ≤ t → t ≤ 2000000000 + 100 * i → t + tot (l.drop i) ≤ c → ∀ k, d < k → impl_RingOk.l0 k t l (l.length : Int) (i : Int) l a b c = some true
  | 0, i, t, hi, h0, h1, h2, k, hk => by
    obtain ⟨k, rfl⟩ : ∃ m, k = m + 1 := ⟨k - 1, by omega⟩
    rw [List.drop_of_length_le (by omega)] at h2
    have h3 : t ≤ c := by simp only [tot] at h2; omega
    simp only [impl_RingOk.l0]
    rw [if_neg (by omega), decide_eq_true h3]
  | d + 1, i, t, hi, h0, h1, h2, k, hk => by
    obtain ⟨k, rfl⟩ : ∃ m, k = m + 1 := ⟨k - 1, by omega⟩
    have hlt : i < l.length := by omega
    obtain ⟨b0, b1⟩ := hl l[i] (List.getElem_mem hlt)
    rw [List.drop_eq_getElem_cons hlt] at h2
    simp only [tot] at h2
    have ih := ringOk_l0 l a b c hn hl d (i + 1) (t + lenOf l[i]) (by omega) (by omega) (by omega) (by omega) k (by omega)
    simp only [impl_RingOk.l0]
    rw [if_pos (by omega), if_pos (by omega), if_pos (by omega), rd_nat33 l i hlt, wsucc hlt (by omega)]
    unfold lenOf at ih b0 b1
    by_cases h1 : l[i].f0 = 1
    · rw [if_pos h1] at ih ⊢
      rw [w64 (by omega) (by omega)]
      exact ih
    · rw [if_neg h1] at ih b0 b1
      rw [if_neg h1, w64 (by omega) (by omega)]
      exact ih
theorem ringOk (l : List S33) (a b c : Int) (hn : l.length ≤ 4) (hl : ∀ x ∈ l, ItP x ∧ 0 ≤ lenOf x ∧ lenOf x ≤ 100) (ha : 0 ≤ a ∧ a ≤ 5) (hb : 0 ≤ b ∧ b ≤ 100) (hc : 0 ≤ c ∧ c ≤ 100) (h : b + tot l ≤ c) : ∀ k, 10 ≤ k → impl_RingOk.f k l a b c = some true := fun k hk => by
  obtain ⟨k, rfl⟩ : ∃ m, k = m + 1 := ⟨k - 1, by omega⟩
  obtain ⟨q, hq, hqi⟩ := areI l (by omega) l.length 0 (by omega)
  have hq2 : q = true := hqi.2 fun j h _ => (hl _ (List.getElem_mem h)).1
  subst hq2
  have hq' : impl_areItems.f (k + 1) l = some true := hq (k + 1) (by omega)
  unfold impl_RingOk.f
  rw [if_neg (by omega), hq']
  simp only [inI, Option.bind_some, if_true, impl_RingOk.j0]
  rw [decide_eq_true ha, if_pos rfl, decide_eq_true (show 0 ≤ b ∧ b ≤ 1000000000 by omega), if_pos rfl, decide_eq_true (show 0 ≤ c ∧ c ≤ 1000000000 by omega), if_neg (by simp)]
  exact ringOk_l0 l a b c hn (fun x hx => (hl x hx).2) l.length 0 b (by omega) (by omega) (by omega) (by simpa using h) k (by omega)
/-- What is so of a ring, of what is out of it and of what was told, behind i rounds. -/
structure Inv (h : List Bool) (n : List Int) (out I : List S33) (t s c : Int) (i : Nat) : Prop where
  hl : h.length = i
  nl : n.length = i
  ce : c = i
  tr : 0 ≤ t ∧ t ≤ 5
  il : I.length ≤ 4
  cov : ∃ p, Cov h n 0 (out ++ I) p ∧ (p : Int) + s = i ∧ p ≤ i ∧ ∀ j, p ≤ j → j < i → h[j]? = some false
theorem copy (I : List S33) (t s c : Int) (hI : I.length ≤ 4) : impl_copyRing.f I t s c = some (I, t, s, c) := by
  simp only [impl_copyRing.f, impl_copyItems.f, Option.bind_some]
  rw [if_pos (by simp; omega)]
  rfl
theorem refilled (I : List S33) (t s c : Int) (hI : I.length ≤ 4) (ht : 0 ≤ t ∧ t ≤ 5) : ∃ t', impl_Refilled.f I t s c 1 = some (I, t', s, c) ∧ (0 ≤ t' ∧ t' ≤ 5) := by
  simp only [impl_Refilled.f, copy I t s c hI, Option.bind_some]
  rw [if_neg (by omega)]
  by_cases h : t ≥ 5
  · rw [if_pos h]
    exact ⟨_, rfl, by omega⟩
  · rw [if_neg h, if_neg (by omega), if_pos (by omega), if_neg (by omega), w64 (by omega) (by omega)]
    exact ⟨_, rfl, by unfold mn; split <;> omega⟩
/-- One item comes out, or none is there. -/
theorem drained {h : List Bool} {n : List Int} {out I : List S33} {t s c : Int} {i : Nat} (v : Inv h n out I t s c i) : ∃ (I' : List S33) (s' : Int) (x : S33) (b : Bool), impl_Drained.f I t s c = some (I', t, s', c, x.f0, x.f1, x.f2, x.f3, b) ∧ (if b = true then Inv h n (out ++ [x]) I' t s' c i else Inv h n out I' t s' c i) ∧ I'.length ≤ I.length - 1 ∧ (I = [] → s' = 0) := by
  obtain ⟨p, hp, hs, hpi, hf⟩ := v.cov
  have il := v.il
  simp only [impl_Drained.f, copy I t s c il, Option.bind_some]
  cases I with
  | nil =>
    rw [if_neg (by simp)]
    by_cases h0 : s = 0
    · rw [if_pos h0]
      exact ⟨[], s, ⟨0, 0, 0, 0⟩, false, rfl, by simpa using v, by simp, fun _ => h0⟩
    · rw [if_neg h0]
      refine ⟨[], 0, ⟨2, 0, 0, s⟩, true, rfl, ?_, by simp, fun _ => rfl⟩
      rw [if_pos rfl]
      refine ⟨v.hl, v.nl, v.ce, v.tr, by simp, i, ?_, by omega, Nat.le_refl _, fun j a b => by omega⟩
      rw [List.append_nil] at hp ⊢
      refine (cov_app h n out _ 0 i).2 ⟨p, hp, .inr ⟨rfl, rfl, rfl, i - p, by show s = _; omega, by omega, fun j hj => hf _ (by omega) (by omega), by show p + (i - p) = i; omega⟩⟩
  | cons x xs =>
    have e : rd_T33 (x :: xs) 0 = x := rfl
    have e1 : (x :: xs).drop 1 = xs := rfl
    have e2 : impl_copyItems.f xs = some xs := by
      simp only [impl_copyItems.f, Option.bind_some]
      rw [if_pos (by simp at il ⊢; omega)]
      rfl
    rw [if_pos (by simp only [List.length_cons]; omega), if_pos (by simp only [List.length_cons]; omega), if_pos (by simp only [List.length_cons]; omega), e1, e2, e]
    refine ⟨xs, s, x, true, rfl, ?_, by simp, fun h => by cases h⟩
    rw [if_pos rfl]
    exact ⟨v.hl, v.nl, v.ce, v.tr, by simp at il; omega, p, by rw [List.append_assoc]; exact hp, hs, hpi, hf⟩
theorem offered {h : List Bool} {n : List Int} {out I : List S33} {t s c : Int} {i : Nat} (v : Inv h n out I t s c i) (hi : i < 50) (num : Int) (hnum : 0 ≤ num ∧ num < 10000) : ∃ (I' : List S33) (t' s' c' : Int) (b : Bool), (∀ k, 20 ≤ k → impl_Offered.f k I t s c num (i : Int) = some (I', t', s', c', b)) ∧ Inv (h ++ [b]) (n ++ [num]) out I' t' s' c' (i + 1) := by
  obtain ⟨p, hp, hs, hpi, hf⟩ := v.cov
  have il := v.il
  have hc := v.ce
  have htr := v.tr
  obtain ⟨m, hm1, hm2⟩ := (cov_app h n out I 0 p).1 hp
  obtain ⟨ht1, ht2, ht3⟩ := cov_tot h n I m p hm2
  have ok : ∀ k, 10 ≤ k → impl_RingOk.f k I t s c = some true := ringOk I t s c il (fun x hx => ht3 x hx (by omega)) v.tr (by omega) (by omega) (by omega)
  have ec : (c == 1000000000) = false := by rw [hc]; simp; omega
  have e1 : Aside0 (wrap64 (c + 1) = c + 1) := ⟨w64 (by omega) (by omega)⟩
  have e2 : Aside0 (wrap64 (s + 1) = s + 1) := ⟨w64 (by omega) (by omega)⟩
  have e3 : Aside0 (wrap64 (t - 1) = t - 1) := ⟨w64 (by omega) (by omega)⟩
  have ew : ∀ q : Int, 0 ≤ q → q ≤ 4 → wrap64 (q + 2) = q + 2 ∧ wrap64 (q + 1) = q + 1 := fun q a b => ⟨w64 (by omega) (by omega), w64 (by omega) (by omega)⟩
  have e4 : Aside0 (wrap64 ((I.length : Int) + 2) = I.length + 2) := ⟨(ew _ (by omega) (by omega)).1⟩
  have e5 : Aside0 (wrap64 ((I.length : Int) + 1) = I.length + 1) := ⟨(ew _ (by omega) (by omega)).2⟩
  have start : ∀ k, 10 ≤ k → impl_Offered.f k I t s c num (i : Int) = impl_Offered.j0 k num (i : Int) false I t s c I t s c := fun k hk => by
    simp only [impl_Offered.f, copy I t s c il, Option.bind_some, ok k hk, if_true, halfI, ec]
    rw [decide_eq_true (show 0 ≤ num ∧ num ≤ 4294967295 by omega), if_pos rfl, decide_eq_true (show 0 ≤ (i : Int) ∧ (i : Int) ≤ 4294967295 by omega), if_pos rfl]
  -- what is shed
  have shed : Inv (h ++ [false]) (n ++ [num]) out I t (s + 1) (c + 1) (i + 1) := by
    refine ⟨by simp [v.hl], by simp [v.nl], by omega, v.tr, il, p, cov_more h n false num _ _ _ hp, by omega, by omega, fun j a b => ?_⟩
    rcases Nat.lt_or_ge j i with h1 | h1
    · exact get_more _ (hf j a h1)
    · have : j = h.length := by have := v.hl; omega
      subst this
      simp
  have last : ∀ (p' : Nat) (J : List S33), p' = i → Cov h n 0 (out ++ J) p' → Cov (h ++ [true]) (n ++ [num]) 0 (out ++ (J ++ [⟨1, num, (i : Int), 0⟩])) (i + 1) := fun p' J e hJ => by
    subst e
    rw [← List.append_assoc]
    refine (cov_app _ _ _ _ _ _).2 ⟨p', cov_more h n true num _ _ _ hJ, .inl ⟨rfl, by show 0 ≤ num ∧ num ≤ 4294967295; omega, rfl, rfl, ?_, ?_, rfl⟩⟩
    · rw [← v.hl]
      simp
    · rw [← v.nl]
      simp
  by_cases hsp : s > 0
  · by_cases h1 : t = 0
    · refine ⟨I, t, s + 1, c + 1, false, fun k hk => ?_, shed⟩
      obtain ⟨k, rfl⟩ : ∃ m, k = m + 3 := ⟨k - 3, by omega⟩
      rw [start _ (by omega)]
      simp only [impl_Offered.j0, impl_Offered.j1, impl_Offered.j2]
      rw [if_neg (by simp), if_pos hsp, if_pos h1, if_pos trivial, e1.out, e2.out]
    · by_cases h2 : (I.length : Int) + 2 > 4
      · refine ⟨I, t, s + 1, c + 1, false, fun k hk => ?_, shed⟩
        obtain ⟨k, rfl⟩ : ∃ m, k = m + 3 := ⟨k - 3, by omega⟩
        rw [start _ (by omega)]
        simp only [impl_Offered.j0, impl_Offered.j1, impl_Offered.j2]
        rw [if_neg (by simp), if_pos hsp, if_neg h1, e4.out, decide_eq_true h2, if_pos rfl, e1.out, e2.out]
      · refine ⟨I ++ [⟨2, 0, 0, s⟩] ++ [⟨1, num, (i : Int), 0⟩], t - 1, 0, c + 1, true, fun k hk => ?_, ?_⟩
        · obtain ⟨k, rfl⟩ : ∃ m, k = m + 3 := ⟨k - 3, by omega⟩
          rw [start _ (by omega)]
          simp only [impl_Offered.j0, impl_Offered.j1, impl_Offered.j2]
          rw [if_neg (by simp), if_pos hsp, if_neg h1, e4.out, decide_eq_false h2, if_neg (by simp), if_pos hsp, if_pos (by omega)]
          simp only [Option.bind_some]
          rw [if_pos (by simp; omega), e1.out, e3.out]
        · refine ⟨by simp [v.hl], by simp [v.nl], by omega, by omega, by simp; omega, i + 1, last i _ rfl ?_, by omega, Nat.le_refl _, fun j a b => by omega⟩
          rw [← List.append_assoc]
          exact (cov_app h n _ _ 0 i).2 ⟨p, hp, .inr ⟨rfl, rfl, rfl, i - p, by show s = _; omega, by omega, fun j hj => hf _ (by omega) (by omega), by show p + (i - p) = i; omega⟩⟩
  · have hs0 : s = 0 := by omega
    have hpe : p = i := by omega
    by_cases h1 : t = 0
    · refine ⟨I, t, s + 1, c + 1, false, fun k hk => ?_, shed⟩
      obtain ⟨k, rfl⟩ : ∃ m, k = m + 3 := ⟨k - 3, by omega⟩
      rw [start _ (by omega)]
      simp only [impl_Offered.j0, impl_Offered.j1, impl_Offered.j2]
      rw [if_neg (by simp), if_neg hsp, if_pos h1, if_pos trivial, e1.out, e2.out]
    · by_cases h2 : (I.length : Int) + 1 > 4
      · refine ⟨I, t, s + 1, c + 1, false, fun k hk => ?_, shed⟩
        obtain ⟨k, rfl⟩ : ∃ m, k = m + 3 := ⟨k - 3, by omega⟩
        rw [start _ (by omega)]
        simp only [impl_Offered.j0, impl_Offered.j1, impl_Offered.j2]
        rw [if_neg (by simp), if_neg hsp, if_neg h1, e5.out, decide_eq_true h2, if_pos rfl, e1.out, e2.out]
      · refine ⟨I ++ [⟨1, num, (i : Int), 0⟩], t - 1, s, c + 1, true, fun k hk => ?_, ?_⟩
        · obtain ⟨k, rfl⟩ : ∃ m, k = m + 3 := ⟨k - 3, by omega⟩
          rw [start _ (by omega)]
          simp only [impl_Offered.j0, impl_Offered.j1, impl_Offered.j2]
          rw [if_neg (by simp), if_neg hsp, if_neg h1, e5.out, decide_eq_false h2, if_neg (by simp), if_neg hsp, if_pos (by omega), e1.out, e3.out]
        · exact ⟨by simp [v.hl], by simp [v.nl], by omega, by omega, by simp; omega, i + 1, last p _ hpe hp, by omega, Nat.le_refl _, fun j a b => by omega⟩
theorem and255 (x : Int) : 0 ≤ Go.bits .and .i64 x 255 ∧ Go.bits .and .i64 x 255 ≤ 255 := by
  have h : ((BitVec.ofInt IntKind.i64.bits x) &&& (BitVec.ofInt IntKind.i64.bits 255)).toNat ≤ 255 := by
    rw [BitVec.toNat_and]
    exact Nat.le_trans Nat.and_le_right (by decide)
  have e : Go.bits .and .i64 x 255 = IntKind.i64.wrap ((((BitVec.ofInt IntKind.i64.bits x) &&& (BitVec.ofInt IntKind.i64.bits 255)).toNat : Nat) : Int) := rfl
  rw [e, IntKind.wrap_i64]
  omega
theorem byte {s : List Int} (hs : s.length ≤ 1048576) (p e : Int) (hp : 0 ≤ p) : ∃ b p' e', spec_l01Byte.f s p e = some (b, p', e') ∧ (0 ≤ b ∧ b ≤ 255) ∧ 0 ≤ p' := by
  unfold spec_l01Byte.f
  by_cases h : p < (s.length : Int)
  · rw [if_pos h, if_pos hp]
    exact ⟨_, _, _, rfl, and255 _, by rw [w64 (by omega) (by omega)]; omega⟩
  · rw [if_neg h]
    exact ⟨_, _, _, rfl, and255 _, hp⟩
theorem below {s : List Int} (hs : s.length ≤ 1048576) (p e : Int) (hp : 0 ≤ p) (n : Int) (h1 : 1 ≤ n) (h2 : n ≤ 256) : ∃ r p' e', spec_l01Below.f s p e n = some (r, p', e') ∧ (0 ≤ r ∧ r < n) ∧ 0 ≤ p' := by
  obtain ⟨b, p', e', hb, hr, hp'⟩ := byte hs p e hp
  unfold spec_l01Below.f
  rw [if_neg (by omega), if_pos h2, hb]
  simp only [Option.bind_some]
  rw [if_neg (by omega)]
  refine ⟨_, _, _, rfl, ?_, hp'⟩
  rw [Int.tmod_eq_emod_of_nonneg hr.1]
  exact ⟨Int.emod_nonneg _ (by omega), Int.emod_lt_of_pos _ (by omega)⟩
theorem newC (l : List Int) (hl : l.length ≤ 1048576) : ∃ e, Evt (fun k => spec_l01New.f k l) (l, 0, e) := by
  have key : ∀ (d i : Nat) (e : Int), i + d = l.length → ∃ e', Evt (fun k => spec_l01New.l0 k l e (i : Int)) (l, 0, e') := by
    intro d
    induction d with
    | zero =>
      intro i e h
      exact ⟨e, .succ (.const fun k => by simp only [spec_l01New.l0]; rw [if_neg (by omega)])⟩
    | succ d ih =>
      intro i e h
      by_cases h4 : (i : Int) < 4000
      · obtain ⟨e', K, hK⟩ := ih (i + 1) (Go.bits .and .i64 (wrap64 ((wrap64 ((wrap64 (e * 131)) + (wrap64 (rd l (i : Int))))) + 7)) 1073741823) (by omega)
        refine ⟨e', .succ ⟨K, fun k hk => ?_⟩⟩
        simp only [spec_l01New.l0]
        rw [if_pos (by omega), if_pos h4, if_pos (by omega), wsucc (show i < l.length by omega) (by omega)]
        exact hK k hk
      · exact ⟨e, .succ (.const fun k => by simp only [spec_l01New.l0]; rw [if_pos (by omega), if_neg h4])⟩
  exact key l.length 0 _ (by omega)
theorem inv_ok {h : List Bool} {n : List Int} {out I : List S33} {t s c : Int} {i : Nat} (v : Inv h n out I t s c i) (hi : i < 90) : ∀ k, 10 ≤ k → impl_RingOk.f k I t s c = some true := by
  obtain ⟨p, hp, hs, hpi, hf⟩ := v.cov
  have hc := v.ce
  obtain ⟨m, hm1, hm2⟩ := (cov_app h n out I 0 p).1 hp
  obtain ⟨ht1, ht2, ht3⟩ := cov_tot h n I m p hm2
  exact ringOk I t s c v.il (fun x hx => ht3 x hx (by omega)) v.tr (by omega) (by omega) (by omega)
theorem cov_mem (h : List Bool) (n : List Int) : ∀ (xs : List S33) (a b : Nat), Cov h n a xs b → a ≤ b := fun xs a b g => (cov_tot h n xs a b g).2.1
/-- What came out tells all that was told. -/
theorem tells (h : List Bool) (n : List Int) (out : List S33) (t : Int) (hh : h.length = 12) (hn : n.length = 12) (ho : out.length ≤ 1000) : ∀ (d m a : Nat), m + d = out.length → Cov h n a (out.drop m) 12 → Evt (fun k => laws_FnRings.l2 k h n out (a : Int) (m : Int) ([] : List S33) t 0 12) true := by
  intro d
  induction d with
  | zero =>
    intro m a hm hc
    rw [List.drop_of_length_le (by omega)] at hc
    have ha : a = 12 := hc
    subst ha
    refine .succ (.const fun k => ?_)
    simp only [laws_FnRings.l2]
    rw [if_neg (by omega)]
    rfl
  | succ d ih =>
    intro m a hm hc
    have hlt : m < out.length := by omega
    have hrd : rd_T33 out (m : Int) = out[m] := rd_nat33 out m hlt
    rw [List.drop_eq_getElem_cons hlt] at hc
    rcases hc with ⟨g1, g2, g3, g4, g5, g6, g⟩ | ⟨g1, g2, g3, c, g4, g5, g6, g⟩
    · have ha := cov_mem h n _ _ _ g
      obtain ⟨K, hK⟩ := ih (m + 1) (a + 1) (by omega) g
      have hA : rdOf false h (a : Int) = true := by
        unfold rdOf
        rw [Int.toNat_natCast, List.getD_eq_getElem?_getD, g5]
        rfl
      have hB : rd n (a : Int) = out[m].f1 := by
        unfold rd
        rw [Int.toNat_natCast, List.getD_eq_getElem?_getD, g6]
        rfl
      refine .succ ⟨K, fun k hk => ?_⟩
      have q := hK k hk
      simp only [laws_FnRings.l2]
      rw [if_pos (by omega), if_pos (by omega), hrd, if_pos g1, if_neg (by omega), if_pos (by omega), if_pos (by omega), hA, if_pos rfl, if_pos (by omega), hB, if_pos rfl, if_pos g3, wsucc hlt (by omega), wsucc (show a < 12 by omega) (by omega)]
      exact q
    · have ha := cov_mem h n _ _ _ g
      obtain ⟨K, hK⟩ := ih (m + 1) (a + c) (by omega) g
      have inner : ∀ (e j : Nat), j + e = c → Evt (fun k => laws_FnRings.l3 k h n out ((a + j : Nat) : Int) (m : Int) (j : Int) ([] : List S33) t 0 12) true := by
        intro e
        induction e with
        | zero =>
          intro j hj
          have hjc : j = c := by omega
          subst hjc
          refine .succ ⟨K, fun k hk => ?_⟩
          have q := hK k hk
          simp only [laws_FnRings.l3]
          rw [if_pos (by omega), if_pos (by omega), hrd, if_neg (by omega), wsucc hlt (by omega)]
          exact q
        | succ e ihe =>
          intro j hj
          obtain ⟨K2, hK2⟩ := ihe (j + 1) (by omega)
          have hA : rdOf false h ((a + j : Nat) : Int) = false := by
            unfold rdOf
            rw [Int.toNat_natCast, List.getD_eq_getElem?_getD, g6 j (by omega)]
            rfl
          refine .succ ⟨K2, fun k hk => ?_⟩
          have q := hK2 k hk
          simp only [laws_FnRings.l3]
          rw [if_pos (by omega), if_pos (by omega), hrd, if_pos (by omega), if_neg (by omega), if_pos (by omega), if_pos (by omega), hA, if_neg (by simp), wsucc (show a + j < 12 by omega) (by omega), wsucc (show j < c by omega) (by omega)]
          exact q
      obtain ⟨K3, hK3⟩ := inner c 0 (by omega)
      refine .succ ⟨K3, fun k hk => ?_⟩
      have q := hK3 k hk
      simp only [laws_FnRings.l2]
      rw [if_pos (by omega), if_pos (by omega), hrd, if_neg (by omega)]
      exact q
/-- What is left comes out. -/
theorem rest (h : List Bool) (n : List Int) : ∀ (d j : Nat) (out I : List S33) (t s c : Int), j + d = 8 → Inv h n out I t s c 12 → out.length ≤ 12 + j → (I.length + (if s = 0 then 0 else 1) ≤ d) → Evt (fun k => laws_FnRings.l1 k h n out (j : Int) I t s c) true := by
  intro d
  induction d with
  | zero =>
    intro j out I t s c hj v ho hr
    have hI : I = [] := List.eq_nil_of_length_eq_zero (by omega)
    have hs : s = 0 := by
      by_cases e : s = 0
      · exact e
      · rw [if_neg e] at hr
        omega
    subst hI hs
    obtain ⟨p, hp, hps, hpi, hf⟩ := v.cov
    have hp12 : p = 12 := by omega
    subst hp12
    rw [List.append_nil] at hp
    have hc : c = 12 := by have := v.ce; omega
    subst hc
    obtain ⟨K, hK⟩ := tells h n out t v.hl v.nl (by omega) out.length 0 0 (by omega) hp
    refine .succ ⟨K, fun k hk => ?_⟩
    simp only [laws_FnRings.l1]
    rw [if_neg (by omega)]
    exact hK k hk
  | succ d ih =>
    intro j out I t s c hj v ho hr
    obtain ⟨I', s', x, b, e, w, hl, h0⟩ := drained v
    have ej : wrap64 ((j : Int) + 1) = ((j + 1 : Nat) : Int) := wsucc (show j < 8 by omega) (by omega)
    have hr' : I'.length + (if s' = 0 then 0 else 1) ≤ d := by
      by_cases hI : I = []
      · subst hI
        have : I'.length = 0 := by rw [List.length_nil] at hl; omega
        rw [if_pos (h0 rfl)]
        omega
      · have : 0 < I.length := List.length_pos_iff.2 hI
        by_cases e1 : s = 0
        · by_cases e2 : s' = 0
          · rw [if_pos e2]; rw [if_pos e1] at hr; omega
          · exfalso
            cases I with
            | nil => exact hI rfl
            | cons y ys =>
              have il := v.il
              simp only [impl_Drained.f, copy (y :: ys) t s c il, Option.bind_some] at e
              rw [if_pos (by simp only [List.length_cons]; omega), if_pos (by simp only [List.length_cons]; omega), if_pos (by simp only [List.length_cons]; omega)] at e
              have e2' : impl_copyItems.f ys = some ys := by
                simp only [impl_copyItems.f, Option.bind_some]
                rw [if_pos (by simp at il ⊢; omega)]
                rfl
              rw [show (y :: ys).drop 1 = ys from rfl, e2'] at e
              simp only [Option.bind_some, Option.some.injEq, Prod.mk.injEq] at e
              omega
        · rw [if_neg e1] at hr
          split <;> omega
    cases b with
    | true =>
      rw [if_pos rfl] at w
      obtain ⟨K, hK⟩ := ih (j + 1) (out ++ [x]) I' t s' c (by omega) w (by simp; omega) hr'
      refine .succ ⟨K, fun k hk => ?_⟩
      have q := hK k hk
      simp only [laws_FnRings.l1, e, Option.bind_some]
      rw [if_pos (by omega), if_pos trivial, if_pos (by omega), ej]
      exact q
    | false =>
      rw [if_neg (by simp)] at w
      obtain ⟨K, hK⟩ := ih (j + 1) out I' t s' c (by omega) w (by omega) hr'
      refine .succ ⟨K, fun k hk => ?_⟩
      have q := hK k hk
      simp only [laws_FnRings.l1, e, Option.bind_some]
      rw [if_pos (by omega), if_neg (by simp), ej]
      exact q
theorem rounds (P : List Int) (hP : P.length = 12) (hr : ∀ x ∈ P, 0 ≤ x ∧ x < 10000) : ∀ (d i : Nat) (h : List Bool) (out I : List S33) (t s c : Int), i + d = 12 → Inv h (P.take i) out I t s c i → out.length ≤ i → Evt (fun k => laws_FnRings.l0 k P h (P.take i) out (i : Int) I t s c) true := by
  intro d
  induction d with
  | zero =>
    intro i h out I t s c hi v ho
    have : i = 12 := by omega
    subst this
    obtain ⟨K, hK⟩ := rest h (P.take 12) 8 0 out I t s c (by omega) v (by omega) (by have := v.il; split <;> omega)
    refine .succ ⟨K, fun k hk => ?_⟩
    simp only [laws_FnRings.l0]
    rw [if_neg (by omega)]
    exact hK k hk
  | succ d ih =>
    intro i h out I t s c hi v ho
    have hlt : i < P.length := by omega
    have hrd : rd P (i : Int) = P[i] := getD_lt _ hlt
    have hb := hr P[i] (List.getElem_mem hlt)
    -- what is offered, behind what comes out
    have third : ∀ (out I : List S33) (t s : Int), Inv h (P.take i) out I t s c i → out.length ≤ i + 1 → Evt (fun k => laws_FnRings.j2 k P h (P.take i) out (i : Int) I t s c) true := fun out I t s v ho => by
      obtain ⟨I', t', s', c', b, e, w⟩ := offered v (by omega) P[i] hb
      have ew := inv_ok w (by omega)
      rw [← List.take_succ_eq_append_getElem hlt] at w
      obtain ⟨K, hK⟩ := ih (i + 1) (h ++ [b]) out I' t' s' c' (by omega) w ho
      refine .succ ⟨K + 20, fun k hk => ?_⟩
      have q := hK k (by omega)
      have hl1 := v.hl
      have hl2 := v.nl
      have hl3 := w.il
      simp only [laws_FnRings.j2, hrd, e k (by omega), Option.bind_some, ew k (by omega), if_true]
      rw [if_pos (by omega), if_pos (by omega), if_pos (by omega), if_pos (by omega), if_neg (by omega), wsucc (show i < 12 by omega) (by omega), ← List.take_succ_eq_append_getElem hlt]
      exact q
    have second : ∀ (t : Int), Inv h (P.take i) out I t s c i → Evt (fun k => laws_FnRings.j1 k P h (P.take i) out (i : Int) I t s c) true := fun t v => by
      by_cases h3 : Int.tmod P[i] 3 = 0
      · obtain ⟨I', s', x, b, e, w, hl, h0⟩ := drained v
        cases b with
        | true =>
          rw [if_pos rfl] at w
          obtain ⟨K, hK⟩ := third (out ++ [x]) I' t s' w (by simp; omega)
          refine .succ ⟨K, fun k hk => ?_⟩
          have q := hK k hk
          simp only [laws_FnRings.j1, hrd, e, Option.bind_some]
          rw [if_pos (by omega), if_pos (by omega), if_pos h3, if_pos trivial, if_pos (by omega)]
          exact q
        | false =>
          rw [if_neg (by simp)] at w
          obtain ⟨K, hK⟩ := third out I' t s' w (by omega)
          refine .succ ⟨K, fun k hk => ?_⟩
          have q := hK k hk
          simp only [laws_FnRings.j1, hrd, e, Option.bind_some]
          rw [if_pos (by omega), if_pos (by omega), if_pos h3, if_neg (by simp)]
          exact q
      · obtain ⟨K, hK⟩ := third out I t s v (by omega)
        refine .succ ⟨K, fun k hk => ?_⟩
        have q := hK k hk
        simp only [laws_FnRings.j1, hrd]
        rw [if_pos (by omega), if_pos (by omega), if_neg h3]
        exact q
    by_cases h5 : Int.tmod P[i] 5 = 0
    · obtain ⟨t', e, ht'⟩ := refilled I t s c v.il v.tr
      obtain ⟨K, hK⟩ := second t' ⟨v.hl, v.nl, v.ce, ht', v.il, v.cov⟩
      refine .succ ⟨K, fun k hk => ?_⟩
      have q := hK k hk
      simp only [laws_FnRings.l0, hrd, e, Option.bind_some]
      rw [if_pos (by omega), if_pos (by omega), if_pos (by omega), if_pos h5]
      exact q
    · obtain ⟨K, hK⟩ := second t v
      refine .succ ⟨K, fun k hk => ?_⟩
      have q := hK k hk
      simp only [laws_FnRings.l0, hrd]
      rw [if_pos (by omega), if_pos (by omega), if_pos (by omega), if_neg h5]
      exact q
theorem belowBig {s : List Int} (hs : s.length ≤ 1048576) (p e : Int) (hp : 0 ≤ p) (n : Int) (h1 : 256 < n) (h2 : n ≤ 4294967296) : ∃ r p' e', spec_l01Below.f s p e n = some (r, p', e') ∧ (0 ≤ r ∧ r < n) ∧ 0 ≤ p' := by
  obtain ⟨b1, p1, e1, q1, r1, hp1⟩ := byte hs p e hp
  obtain ⟨b2, p2, e2, q2, r2, hp2⟩ := byte hs p1 e1 hp1
  obtain ⟨b3, p3, e3, q3, r3, hp3⟩ := byte hs p2 e2 hp2
  obtain ⟨b4, p4, e4, q4, r4, hp4⟩ := byte hs p3 e3 hp3
  unfold spec_l01Below.f
  rw [if_neg (by omega), if_neg (by omega), q1]
  simp only [Option.bind_some, q2, q3, q4]
  rw [if_neg (by omega)]
  refine ⟨_, _, _, rfl, ?_, hp4⟩
  rw [w64 (x := b1 * 16777216) (by omega) (by omega), w64 (x := b2 * 65536) (by omega) (by omega), w64 (x := b3 * 256) (by omega) (by omega), w64 (x := b1 * 16777216 + b2 * 65536) (by omega) (by omega), w64 (x := b1 * 16777216 + b2 * 65536 + b3 * 256) (by omega) (by omega), w64 (x := b1 * 16777216 + b2 * 65536 + b3 * 256 + b4) (by omega) (by omega), Int.tmod_eq_emod_of_nonneg (by omega)]
  exact ⟨Int.emod_nonneg _ (by omega), Int.emod_lt_of_pos _ (by omega)⟩
theorem places_l0 {s : List Int} (hs : s.length ≤ 1048576) : ∀ (d i : Nat) (p e : Int) (acc : List Int), i + d = 12 → 0 ≤ p → acc.length = i → (∀ x ∈ acc, 0 ≤ x ∧ x < 10000) → ∃ P : List Int, Evt (fun k => spec_DrawPlaces.l0 k acc (i : Int) s p e) P ∧ P.length = 12 ∧ ∀ x ∈ P, 0 ≤ x ∧ x < 10000 := by
  intro d
  induction d with
  | zero =>
    intro i p e acc hi hp hl ha
    refine ⟨acc, .succ (.const fun k => ?_), by omega, ha⟩
    simp only [spec_DrawPlaces.l0]
    rw [if_neg (by omega)]
  | succ d ih =>
    intro i p e acc hi hp hl ha
    obtain ⟨r, p1, e1, h1, hr, hp1⟩ := belowBig hs p e hp 10000 (by omega) (by omega)
    obtain ⟨P, ⟨K, hK⟩, hP⟩ := ih (i + 1) p1 e1 (acc ++ [r]) (by omega) hp1 (by simp; omega) (fun x hx => by
      rcases List.mem_append.1 hx with hx | hx
      · exact ha x hx
      · rw [List.mem_singleton] at hx
        subst hx
        exact hr)
    refine ⟨P, .succ ⟨K, fun k hk => ?_⟩, hP⟩
    have q := hK k hk
    simp only [spec_DrawPlaces.l0, h1, Option.bind_some]
    rw [if_pos (by omega), if_pos (by omega), wsucc (show i < 12 by omega) (by omega)]
    exact q
theorem drawPlaces (l : List Int) (hl : l.length ≤ 1048576) : ∃ P : List Int, Evt (fun k => spec_DrawPlaces.f k l) P ∧ P.length = 12 ∧ ∀ x ∈ P, 0 ≤ x ∧ x < 10000 := by
  obtain ⟨e0, K0, h0⟩ := newC l hl
  obtain ⟨b, p1, e1, h1, _, hp1⟩ := byte hl 0 e0 (by omega)
  obtain ⟨P, ⟨K, hK⟩, hP⟩ := places_l0 hl 12 0 p1 e1 [] (by omega) hp1 rfl (fun x hx => by simp at hx)
  dsimp only at h0 hK
  refine ⟨P, ⟨K0 + K, fun k hk => ?_⟩, hP⟩
  simp only [spec_DrawPlaces.f, h0 k (by omega), Option.bind_some, h1]
  exact hK k (by omega)
theorem main (l : List Int) : ∃ k, laws_FnRings.f k l = some true := by
  by_cases hb : (l.length : Int) > 1048576
  · refine ⟨0, ?_⟩
    simp only [laws_FnRings.f, laws_big.f, Option.bind_some, decide_eq_true hb, if_true]
  · obtain ⟨P, ⟨K1, h1⟩, hP, hr⟩ := drawPlaces l (by omega)
    obtain ⟨K2, h2⟩ := rounds P hP hr 12 0 [] [] [] 5 0 0 (by omega) ⟨rfl, rfl, rfl, by omega, by simp, 0, rfl, by omega, Nat.le_refl _, fun j a b => by omega⟩ (by simp)
    dsimp only at h1 h2
    refine ⟨K1 + K2, ?_⟩
    simp only [laws_FnRings.f, laws_big.f, Option.bind_some, decide_eq_false hb, Bool.false_eq_true, if_false, h1 _ (show K1 ≤ K1 + K2 by omega), impl_RingNew.f]
    exact h2 _ (by omega)
end Go.Proofs.Ytlgndgjbfjefpaa.PFnRings
