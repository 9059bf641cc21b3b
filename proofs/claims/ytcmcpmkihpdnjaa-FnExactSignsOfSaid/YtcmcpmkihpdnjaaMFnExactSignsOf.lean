/- The pure law of FnExactSignsOf: SignsOf of the program tells the same signs as the reference's, for every text. No conditions. -/
import Derived.Test.YtcmcpmkihpdnjaaPFnExactSignsOfy6
import Derived.Test.YtcmcpmkihpdnjaaEV
set_option linter.unusedSimpArgs false
set_option linter.unusedVariables false
namespace Go.Proofs.Ytcmcpmkihpdnjaa.PFnExactSignsOf
open Go Go.RowKit Go.Proofs.YtcmcpmkihpdnjaaW.PrintWords Go.Proofs.YtcmcpmkihpdnjaaW.PrintLast Go.Proofs.YtcmcpmkihpdnjaaW.PK
theorem Elaws_eqSign (a0_0 : Int) (a0_1 : ByteArray) (a0_2 : Int) : Evt (fun k => laws_eqSign.f a0_0 a0_1 a0_2 a0_0 a0_1 a0_2) true := by
  refine ⟨0, fun k hk => ?_⟩
  simp only [laws_eqSign.f, Option.bind_some, if_true]
theorem nrd_T81 (l : List (S81)) (i : Nat) (h : i < l.length) : rd_T81 l (i : Int) = l[i] := getD_lt _ h
theorem Elaws_eqSignS (l : List (S81)) (hn : l.length ≤ 4611686018427387904) : Evt (fun k => laws_eqSignS.f k l l) true := by
  have h := Evt.pass (F := fun k i => laws_eqSignS.l0 k l l i) (n := l.length) (r := true) ?_ ?_
  · refine h.congr fun k => ?_
    unfold laws_eqSignS.f
    rw [if_pos rfl]
  · refine .const fun k => ?_
    simp only [laws_eqSignS.l0]
    rw [if_neg (by omega)]
  · intro i hi
    obtain ⟨K, hK⟩ := Elaws_eqSign l[i].f0 l[i].f1 l[i].f2
    dsimp only at hK
    refine ⟨K, fun k hk => ?_⟩
    simp only [laws_eqSignS.l0]
    rw [if_pos (by omega), if_pos (by omega), if_pos (by omega), nrd_T81 l i hi, hK k hk]
    simp only [Option.bind_some, if_true]
    rw [wsucc hi (by omega)]
theorem inS (a b c : Int) : spec_l01In.f a b c = some (decide (b ≤ a ∧ a ≤ c)) := by
  unfold spec_l01In.f
  by_cases h : a ≥ b
  · rw [if_pos h]
    exact congrArg some (by rw [Bool.eq_iff_iff]; simp; omega)
  · rw [if_neg h]
    exact congrArg some (by rw [Bool.eq_iff_iff]; simp; omega)
theorem halfS (a : Int) : spec_HalfOk.f a = some (decide (0 ≤ a ∧ a ≤ 4294967295)) := by
  unfold spec_HalfOk.f
  rw [inS]
  rfl
theorem rdn81 (l : List (S81)) (i : Nat) (h : i < l.length) : rd_T81 l (i : Int) = l[i] := getD_lt _ h
/-- Where the bytes from a to b end. -/
def runTo (s : ByteArray) (a b : Int) : Nat → Nat → Nat
  | 0, i => i
  | d + 1, i => if a ≤ bt s (i : Int) ∧ bt s (i : Int) ≤ b then runTo s a b d (i + 1) else i
theorem runTo_le (s : ByteArray) (a b : Int) : ∀ d i, i ≤ runTo s a b d i ∧ runTo s a b d i ≤ i + d
  | 0, i => by simp [runTo]
  | d + 1, i => by
    have := runTo_le s a b d (i + 1)
    simp only [runTo]
    split <;> omega
theorem runTo_in (s : ByteArray) (a b : Int) : ∀ d i m, i ≤ m → m < runTo s a b d i → a ≤ bt s (m : Int) ∧ bt s (m : Int) ≤ b
  | 0, i, m, h1, h2 => by simp [runTo] at h2; omega
  | d + 1, i, m, h1, h2 => by
    simp only [runTo] at h2
    split at h2
    · rename_i h
      by_cases hm : m = i
      · subst hm; exact h
      · exact runTo_in s a b d (i + 1) m (by omega) h2
    · omega
theorem word_l0 (s : ByteArray) (hs : s.size ≤ 100000) (a b : Int) (j : Nat) : ∀ d i, i + d = s.size → j ≤ i → Evt (fun k => spec_l08Word.l0 k s (j : Int) a b (i : Int)) ((runTo s a b d i : Int) - j)
  | 0, i, hi, hj => .succ (.const fun k => by
      simp only [spec_l08Word.l0, runTo]
      rw [if_neg (by omega), w64 (by omega) (by omega)])
  | d + 1, i, hi, hj => by
    by_cases h : a ≤ bt s (i : Int) ∧ bt s (i : Int) ≤ b
    · obtain ⟨K, hK⟩ := word_l0 s hs a b j d (i + 1) (by omega) (by omega)
      refine .succ ⟨K, fun k hk => ?_⟩
      simp only [spec_l08Word.l0, runTo]
      rw [if_pos (by omega), if_pos (by omega), if_pos h.1, if_pos h.2, wsucc (show i < 100000 by omega) (by omega), if_pos h]
      exact hK k hk
    · refine .succ (.const fun k => ?_)
      simp only [spec_l08Word.l0, runTo]
      rw [if_pos (by omega), if_pos (by omega), if_neg h, w64 (x := (i : Int) - j) (by omega) (by omega)]
      split
      · rw [if_neg (by omega)]
      · rfl
theorem word (s : ByteArray) (hs : s.size ≤ 100000) (a b : Int) (i : Nat) (hi : i ≤ s.size) : Evt (fun k => spec_l08Word.f k s (i : Int) a b) ((runTo s a b (s.size - i) i : Int) - i) := word_l0 s hs a b i (s.size - i) i (by omega) (Nat.le_refl _)
theorem let_ (x : Int) : impl_isLetter.f x = some (decide (97 ≤ x ∧ x ≤ 122)) := by
  unfold impl_isLetter.f
  split
  · exact congrArg some (by rw [Bool.eq_iff_iff]; simp; omega)
  · exact congrArg some (by rw [Bool.eq_iff_iff]; simp; omega)
theorem fig_ (x : Int) : impl_isFigure.f x = some (decide (48 ≤ x ∧ x ≤ 57)) := by
  unfold impl_isFigure.f
  split
  · exact congrArg some (by rw [Bool.eq_iff_iff]; simp; omega)
  · exact congrArg some (by rw [Bool.eq_iff_iff]; simp; omega)
theorem run_l (s : ByteArray) (hs : s.size ≤ 100000) : ∀ d i, i + d = s.size → Evt (fun k => impl_runOf_64.l0 k s (i : Int)) (runTo s 97 122 d i : Int)
  | 0, i, hi => .succ (.const fun k => by
      simp only [impl_runOf_64.l0, runTo]
      rw [if_neg (by omega)])
  | d + 1, i, hi => by
    by_cases h : 97 ≤ bt s (i : Int) ∧ bt s (i : Int) ≤ 122
    · obtain ⟨K, hK⟩ := run_l s hs d (i + 1) (by omega)
      refine .succ ⟨K, fun k hk => ?_⟩
      simp only [impl_runOf_64.l0, runTo, let_, Option.bind_some]
      rw [if_pos (by omega), if_pos (by omega), decide_eq_true h, if_pos rfl, wsucc (show i < 100000 by omega) (by omega), if_pos h]
      exact hK k hk
    · refine .succ (.const fun k => ?_)
      simp only [impl_runOf_64.l0, runTo, let_, Option.bind_some]
      rw [if_pos (by omega), if_pos (by omega), decide_eq_false h, if_neg (by decide), if_neg h]
theorem run_f (s : ByteArray) (hs : s.size ≤ 100000) : ∀ d i, i + d = s.size → Evt (fun k => impl_runOf_66.l0 k s (i : Int)) (runTo s 48 57 d i : Int)
  | 0, i, hi => .succ (.const fun k => by
      simp only [impl_runOf_66.l0, runTo]
      rw [if_neg (by omega)])
  | d + 1, i, hi => by
    by_cases h : 48 ≤ bt s (i : Int) ∧ bt s (i : Int) ≤ 57
    · obtain ⟨K, hK⟩ := run_f s hs d (i + 1) (by omega)
      refine .succ ⟨K, fun k hk => ?_⟩
      simp only [impl_runOf_66.l0, runTo, fig_, Option.bind_some]
      rw [if_pos (by omega), if_pos (by omega), decide_eq_true h, if_pos rfl, wsucc (show i < 100000 by omega) (by omega), if_pos h]
      exact hK k hk
    · refine .succ (.const fun k => ?_)
      simp only [impl_runOf_66.l0, runTo, fig_, Option.bind_some]
      rw [if_pos (by omega), if_pos (by omega), decide_eq_false h, if_neg (by decide), if_neg h]
/-- What figures come to. -/
def valF (s : ByteArray) : Nat → Nat → Int → Int
  | 0, _, v => v
  | d + 1, i, v => valF s d (i + 1) (10 * v + (bt s (i : Int) - 48))
def marks : List ByteArray := [(⟨#[61, 61]⟩ : ByteArray), (⟨#[33, 61]⟩ : ByteArray), (⟨#[60, 61]⟩ : ByteArray), (⟨#[62, 61]⟩ : ByteArray), (⟨#[60]⟩ : ByteArray), (⟨#[62]⟩ : ByteArray), (⟨#[38]⟩ : ByteArray), (⟨#[58]⟩ : ByteArray), (⟨#[59]⟩ : ByteArray), (⟨#[44]⟩ : ByteArray)]
/-- The first mark that stands there. -/
def findM (s : ByteArray) (i : Nat) : List ByteArray → ByteArray
  | [] => ⟨#[]⟩
  | m :: r => if i + m.size ≤ s.size ∧ (s.extract i (i + m.size)).toList = m.toList then m else findM s i r
theorem marks_sz : ∀ m ∈ marks, m.size ≤ 2 := by decide
theorem findM_sz (s : ByteArray) (i : Nat) : ∀ l : List ByteArray, (∀ m ∈ l, m.size ≤ 2) → (findM s i l).size ≤ 2 ∧ ((findM s i l).toList = [] ∨ i + (findM s i l).size ≤ s.size)
  | [], _ => ⟨by show 0 ≤ 2; omega, .inl (by show (⟨#[]⟩ : ByteArray).toList = []; rw [ByteArray.toList_eq])⟩
  | m :: r, h => by
    simp only [findM]
    split
    · rename_i hc
      exact ⟨h m List.mem_cons_self, .inr hc.1⟩
    · exact findM_sz s i r (fun x hx => h x (List.mem_cons_of_mem _ hx))
theorem rdm (j : Nat) (h : j < marks.length) : rdOf ByteArray.empty marks (j : Int) = marks[j] := getD_lt _ h
theorem mark_S (s : ByteArray) (hs : s.size ≤ 100000) (i : Nat) (hi : i ≤ s.size) : Evt (fun k => spec_l08Mark.f k s (i : Int)) (findM s i marks) := by
  have key := down (T := fun j => Evt (fun k => spec_l08Mark.l0 k s (i : Int) marks (j : Int)) (findM s i (marks.drop j))) (n := marks.length) ?_ ?_ marks.length 0 (by omega)
  · obtain ⟨K, h⟩ := key
    exact ⟨K, fun k hk => by simp only [spec_l08Mark.f, spec_l08Marks.f, Option.bind_some]; exact h k hk⟩
  · refine .succ (.const fun k => ?_)
    simp only [spec_l08Mark.l0]
    rw [if_neg (by omega), List.drop_length]
    rfl
  · intro j hj ⟨K, h⟩
    have hz := marks_sz marks[j] (List.getElem_mem hj)
    have e1 : wrap64 ((i : Int) + (marks[j].size : Int)) = ((i + marks[j].size : Nat) : Int) := by rw [w64 (by omega) (by omega)]; omega
    have e2 : ((i + marks[j].size : Nat) : Int).toNat = i + marks[j].size := by omega
    dsimp only at h
    rw [List.drop_eq_getElem_cons hj]
    simp only [findM]
    by_cases c1 : i + marks[j].size ≤ s.size
    · by_cases c2 : (s.extract i (i + marks[j].size)).toList = marks[j].toList
      · refine .succ (.const fun k => ?_)
        simp only [spec_l08Mark.l0]
        rw [if_pos (by omega), if_pos (by omega), rdm j hj, e1, if_pos (by omega), if_pos (by omega), if_pos (by omega), e2, Int.toNat_natCast, if_pos c2, if_pos ⟨c1, c2⟩]
      · refine .succ ⟨K, fun k hk => ?_⟩
        simp only [spec_l08Mark.l0]
        rw [if_pos (by omega), if_pos (by omega), rdm j hj, e1, if_pos (by omega), if_pos (by omega), if_pos (by omega), e2, Int.toNat_natCast, if_neg c2, if_neg (fun h => c2 h.2), wsucc hj (by decide)]
        exact h k hk
    · refine .succ ⟨K, fun k hk => ?_⟩
      simp only [spec_l08Mark.l0]
      rw [if_pos (by omega), if_pos (by omega), rdm j hj, e1, if_neg (by omega), if_neg (fun h => c1 h.1), wsucc hj (by decide)]
      exact h k hk
theorem mark_I (s : ByteArray) (hs : s.size ≤ 100000) (i : Nat) (hi : i ≤ s.size) : Evt (fun k => impl_markAt.f k s (i : Int)) (findM s i marks) := by
  have key := down (T := fun j => Evt (fun k => impl_markAt.l0 k s (i : Int) marks (marks.length : Int) (j : Int)) (findM s i (marks.drop j))) (n := marks.length) ?_ ?_ marks.length 0 (by omega)
  · obtain ⟨K, h⟩ := key
    exact ⟨K, fun k hk => by simp only [impl_markAt.f, Option.bind_some]; exact h k hk⟩
  · refine .succ (.const fun k => ?_)
    simp only [impl_markAt.l0]
    rw [if_neg (by omega), List.drop_length]
    rfl
  · intro j hj ⟨K, h⟩
    have hz := marks_sz marks[j] (List.getElem_mem hj)
    have e0 : wrap64 ((s.size : Int) - (i : Int)) = (s.size : Int) - i := w64 (by omega) (by omega)
    have e1 : wrap64 ((i : Int) + (marks[j].size : Int)) = ((i + marks[j].size : Nat) : Int) := by rw [w64 (by omega) (by omega)]; omega
    have e2 : ((i + marks[j].size : Nat) : Int).toNat = i + marks[j].size := by omega
    dsimp only at h
    rw [List.drop_eq_getElem_cons hj]
    simp only [findM]
    by_cases c1 : i + marks[j].size ≤ s.size
    · by_cases c2 : (s.extract i (i + marks[j].size)).toList = marks[j].toList
      · refine .succ (.const fun k => ?_)
        simp only [impl_markAt.l0]
        rw [if_pos (by omega), if_pos (by omega), if_pos (by omega), rdm j hj, e0, e1, if_pos (by omega), if_pos (by omega), if_pos (by omega), if_pos (by omega), e2, Int.toNat_natCast, if_pos c2, if_pos ⟨c1, c2⟩]
      · refine .succ ⟨K, fun k hk => ?_⟩
        simp only [impl_markAt.l0]
        rw [if_pos (by omega), if_pos (by omega), if_pos (by omega), rdm j hj, e0, e1, if_pos (by omega), if_pos (by omega), if_pos (by omega), if_pos (by omega), e2, Int.toNat_natCast, if_neg c2, if_neg (fun h => c2 h.2), wsucc hj (by decide)]
        exact h k hk
    · refine .succ ⟨K, fun k hk => ?_⟩
      simp only [impl_markAt.l0]
      rw [if_pos (by omega), if_pos (by omega), if_pos (by omega), rdm j hj, e0, if_neg (by omega), if_neg (fun h => c1 h.1), wsucc hj (by decide)]
      exact h k hk
/-- The signs of a text, from a place on; none: it is not of signs. -/
def toks (s : ByteArray) : Nat → Nat → Option (List S81)
  | 0, _ => some []
  | d + 1, i =>
    if i < s.size then
      if bt s (i : Int) = 32 ∨ bt s (i : Int) = 10 then toks s d (i + 1)
      else if 97 ≤ bt s (i : Int) ∧ bt s (i : Int) ≤ 122 then
        if runTo s 97 122 (s.size - i) i - i > 12 then none else (toks s d (runTo s 97 122 (s.size - i) i)).map ((⟨1, s.extract i (runTo s 97 122 (s.size - i) i), 0⟩ : S81) :: ·)
      else if 48 ≤ bt s (i : Int) ∧ bt s (i : Int) ≤ 57 then
        if runTo s 48 57 (s.size - i) i - i > 10 ∨ valF s (runTo s 48 57 (s.size - i) i - i) i 0 > 4294967295 then none else (toks s d (runTo s 48 57 (s.size - i) i)).map ((⟨2, (⟨#[]⟩ : ByteArray), valF s (runTo s 48 57 (s.size - i) i - i) i 0⟩ : S81) :: ·)
      else if (findM s i marks).toList = [] then none else (toks s d (i + (findM s i marks).size)).map ((⟨3, findM s i marks, 0⟩ : S81) :: ·)
    else some []
/-- What the signs come to, behind others. -/
def told (o : List S81) : Option (List S81) → List S81 × Bool
  | some r => (o ++ r, true)
  | none => ([], false)
theorem told_map (o : List S81) (x : S81) (r : Option (List S81)) : told o (r.map (x :: ·)) = told (o ++ [x]) r := by
  cases r with
  | none => rfl
  | some r => simp [told]
theorem val_S (s : ByteArray) (hs : s.size ≤ 100000) (o : List S81) (i e : Nat) (he : e ≤ s.size) (hn : e - i ≤ 10) (hf : ∀ m, i ≤ m → m < e → 48 ≤ bt s (m : Int) ∧ bt s (m : Int) ≤ 57) {r : List S81 × Bool} : ∀ d j v, j + d = e → i ≤ j → 0 ≤ v → v + 1 ≤ 10 ^ (j - i) →
    (Evt (fun k => spec_SignsOf.j3 k s [] o (i : Int) ((e : Int) - i) (valF s d j v)) r → Evt (fun k => spec_SignsOf.l1 k s [] o (i : Int) ((e : Int) - i) v (j : Int)) r) ∧ 0 ≤ valF s d j v
  | 0, j, v, hj, hij, h0, hv => by
    refine ⟨fun ⟨K, h⟩ => .succ ⟨K, fun k hk => ?_⟩, h0⟩
    simp only [spec_SignsOf.l1]
    rw [if_neg (by rw [w64 (by omega) (by omega)]; omega)]
    exact h k hk
  | d + 1, j, v, hj, hij, h0, hv => by
    have hb := hf j hij (by omega)
    have hp : (10 : Int) ^ (j - i) ≤ 10 ^ 10 := by
      have : j - i = 0 ∨ j - i = 1 ∨ j - i = 2 ∨ j - i = 3 ∨ j - i = 4 ∨ j - i = 5 ∨ j - i = 6 ∨ j - i = 7 ∨ j - i = 8 ∨ j - i = 9 ∨ j - i = 10 := by omega
      rcases this with h | h | h | h | h | h | h | h | h | h | h <;> rw [h] <;> decide
    have hp2 : (10 : Int) ^ (j + 1 - i) = 10 * 10 ^ (j - i) := by rw [show j + 1 - i = (j - i) + 1 by omega, Int.pow_succ, Int.mul_comm]
    have hq : (10 : Int) ^ 10 = 10000000000 := by decide
    have hv1 : v ≤ 10000000000 := by omega
    have e1 : wrap64 (10 * v) = 10 * v := w64 (by omega) (by omega)
    have e2 : wrap64 (bt s (j : Int)) = bt s (j : Int) := w64 (by omega) (by omega)
    have e3 : wrap64 (10 * v + bt s (j : Int)) = 10 * v + bt s (j : Int) := w64 (by omega) (by omega)
    have e4 : wrap64 (10 * v + bt s (j : Int) - 48) = 10 * v + (bt s (j : Int) - 48) := by rw [w64 (by omega) (by omega)]; omega
    obtain ⟨g1, g2⟩ := val_S s hs o i e he hn hf (r := r) d (j + 1) (10 * v + (bt s (j : Int) - 48)) (by omega) (by omega) (by omega) (by omega)
    refine ⟨fun h => ?_, g2⟩
    obtain ⟨K, h⟩ := g1 h
    refine .succ ⟨K, fun k hk => ?_⟩
    simp only [spec_SignsOf.l1]
    rw [if_pos (by rw [w64 (by omega) (by omega)]; omega), if_pos (by omega), if_pos (by omega), if_pos (by omega), e1, e2, e3, e4, wsucc (show j < 100000 by omega) (by omega)]
    exact h k hk
theorem val_I (s : ByteArray) (hs : s.size ≤ 100000) (o : List S81) (ho : o.length ≤ 100000) (i e : Nat) (he : e ≤ s.size) (hi : i ≤ e) (hn : e - i ≤ 10) (hf : ∀ m, i ≤ m → m < e → 48 ≤ bt s (m : Int) ∧ bt s (m : Int) ≤ 57) {r : List S81 × Bool} : ∀ d j v, j + d = e → i ≤ j → 0 ≤ v → v + 1 ≤ 10 ^ (j - i) →
    (valF s d j v > 4294967295 → Evt (fun k => impl_SignsOf.l1 k s o (i : Int) (e : Int) v (j : Int)) ([], false)) ∧ (¬ valF s d j v > 4294967295 → Evt (fun k => impl_SignsOf.l0 k s (o ++ [⟨2, (⟨#[]⟩ : ByteArray), valF s d j v⟩]) (e : Int)) r → Evt (fun k => impl_SignsOf.l1 k s o (i : Int) (e : Int) v (j : Int)) r)
  | 0, j, v, hj, hij, h0, hv => by
    have ew : wrap64 ((e : Int) - i) = (e : Int) - i := w64 (by omega) (by omega)
    refine ⟨fun h => .succ (.const fun k => ?_), fun h ⟨K, g⟩ => .succ ⟨K, fun k hk => ?_⟩⟩
    · simp only [impl_SignsOf.l1, ew]
      rw [if_neg (by omega), if_neg (by omega)]
      exact if_pos h
    · simp only [impl_SignsOf.l1, ew]
      rw [if_neg (by omega), if_neg (by omega)]
      refine (if_neg h).trans ?_
      rw [if_pos (by omega)]
      exact g k hk
  | d + 1, j, v, hj, hij, h0, hv => by
    have ew : wrap64 ((e : Int) - i) = (e : Int) - i := w64 (by omega) (by omega)
    have hb := hf j hij (by omega)
    have hp : (10 : Int) ^ (j - i) ≤ 10000000000 := by
      have : j - i = 0 ∨ j - i = 1 ∨ j - i = 2 ∨ j - i = 3 ∨ j - i = 4 ∨ j - i = 5 ∨ j - i = 6 ∨ j - i = 7 ∨ j - i = 8 ∨ j - i = 9 ∨ j - i = 10 := by omega
      rcases this with h | h | h | h | h | h | h | h | h | h | h <;> rw [h] <;> decide
    have e1 : wrap64 (10 * v) = 10 * v := w64 (by omega) (by omega)
    have e2 : (bt s (j : Int) - 48) % 256 = bt s (j : Int) - 48 := by omega
    have e4 : wrap64 (10 * v + (bt s (j : Int) - 48)) = 10 * v + (bt s (j : Int) - 48) := w64 (by omega) (by omega)
    have hp2 : (10 : Int) ^ (j + 1 - i) = 10 * 10 ^ (j - i) := by rw [show j + 1 - i = (j - i) + 1 by omega, Int.pow_succ, Int.mul_comm]
    obtain ⟨g1, g2⟩ := val_I s hs o ho i e he hi hn hf (r := r) d (j + 1) (10 * v + (bt s (j : Int) - 48)) (by omega) (by omega) (by omega) (by omega)
    have step : ∀ k, impl_SignsOf.l1 (k + 1) s o (i : Int) (e : Int) v (j : Int) = impl_SignsOf.l1 k s o (i : Int) (e : Int) (10 * v + (bt s (j : Int) - 48)) ((j + 1 : Nat) : Int) := fun k => by
      simp only [impl_SignsOf.l1, ew]
      rw [if_pos (by omega), if_pos (by omega), if_pos (by omega), if_pos (by omega), e1, e2, e4, wsucc (show j < 100000 by omega) (by omega)]
    refine ⟨fun h => ?_, fun h g => ?_⟩
    · obtain ⟨K, q⟩ := g1 h
      exact .succ ⟨K, fun k hk => (step k).trans (q k hk)⟩
    · obtain ⟨K, q⟩ := g2 h g
      exact .succ ⟨K, fun k hk => (step k).trans (q k hk)⟩
/-- Both tell the same signs. -/
theorem signsF (s : ByteArray) (hs : s.size ≤ 1200) : ∀ d i (o : List S81), s.size - i ≤ d → i ≤ s.size → o.length + (s.size - i) ≤ 2000 → Evt (fun k => spec_SignsOf.l0 k s [] o (i : Int)) (told o (toks s d i)) ∧ Evt (fun k => impl_SignsOf.l0 k s o (i : Int)) (told o (toks s d i)) := by
  have fin : ∀ d i (o : List S81), ¬ i < s.size → i ≤ s.size → Evt (fun k => spec_SignsOf.l0 k s [] o (i : Int)) (told o (toks s d i)) ∧ Evt (fun k => impl_SignsOf.l0 k s o (i : Int)) (told o (toks s d i)) := fun d i o h hi => by
    have e : told o (toks s d i) = (o, true) := by
      cases d with
      | zero => simp [toks, told]
      | succ d => simp only [toks, if_neg h, told, List.append_nil]
    rw [e]
    refine ⟨.succ (.const fun k => ?_), .succ (.const fun k => ?_)⟩
    · simp only [spec_SignsOf.l0]
      rw [if_neg (by omega)]
    · simp only [impl_SignsOf.l0]
      rw [if_neg (by omega)]
  intro d
  induction d with
  | zero => intro i o h1 h2 h3; exact fin 0 i o (by omega) h2
  | succ d ih =>
    intro i o h1 h2 h3
    by_cases hlt : i < s.size
    · simp only [toks, if_pos hlt]
      have hbr := bt_range s (i : Int)
      by_cases hb : bt s (i : Int) = 32 ∨ bt s (i : Int) = 10
      · rw [if_pos hb]
        obtain ⟨⟨K1, g1⟩, ⟨K2, g2⟩⟩ := ih (i + 1) o (by omega) (by omega) (by omega)
        dsimp only at g1 g2
        refine ⟨.succ (.succ ⟨K1, fun k hk => ?_⟩), .succ (.succ ⟨K2, fun k hk => ?_⟩)⟩
        · have e : spec_SignsOf.l0 (k + 1 + 1) s [] o (i : Int) = spec_SignsOf.j1 (k + 1) s [] o (i : Int) true := by
            simp only [spec_SignsOf.l0]
            rw [if_pos (by omega), if_pos (by omega)]
            rcases hb with hb | hb
            · rw [if_pos hb]
            · rw [if_neg (by omega), hb]; rfl
          refine e.trans ?_
          simp only [spec_SignsOf.j1, if_true, wsucc (show i < 2000 by omega) (by omega)]
          exact g1 k hk
        · have e : impl_SignsOf.l0 (k + 1 + 1) s o (i : Int) = impl_SignsOf.j1 (k + 1) s o (i : Int) ((i + 1 : Nat) : Int) true := by
            simp only [impl_SignsOf.l0, wsucc (show i < 2000 by omega) (by omega)]
            rw [if_pos (by omega), if_pos (by omega)]
            rcases hb with hb | hb
            · rw [if_pos hb]
            · rw [if_neg (by omega), hb]; rfl
          refine e.trans ?_
          simp only [impl_SignsOf.j1, if_true]
          exact g2 k hk
      · rw [if_neg hb]
        have eS : ∀ k, spec_SignsOf.l0 (k + 1) s [] o (i : Int) = spec_SignsOf.j1 k s [] o (i : Int) false := fun k => by
          simp only [spec_SignsOf.l0]
          rw [if_pos (by omega), if_pos (by omega), if_neg (by omega), beq_eq_false_iff_ne.2 (by omega)]
        have eI : ∀ k, impl_SignsOf.l0 (k + 1) s o (i : Int) = impl_SignsOf.j1 k s o (i : Int) ((i + 1 : Nat) : Int) false := fun k => by
          simp only [impl_SignsOf.l0, wsucc (show i < 2000 by omega) (by omega)]
          rw [if_pos (by omega), if_pos (by omega), if_neg (by omega), beq_eq_false_iff_ne.2 (by omega)]
        obtain ⟨Kw, hw⟩ := word s (by omega) 97 122 i (by omega)
        dsimp only at hw
        have hd1 : s.size - i = (s.size - i - 1) + 1 := by omega
        by_cases hl : 97 ≤ bt s (i : Int) ∧ bt s (i : Int) ≤ 122
        · rw [if_pos hl]
          obtain ⟨Kr, hr⟩ := run_l s (by omega) (s.size - i) i (by omega)
          dsimp only at hr
          have hle := runTo_le s 97 122 (s.size - i) i
          have hgt : i < runTo s 97 122 (s.size - i) i := by
            rw [hd1]
            simp only [runTo, if_pos hl]
            have := (runTo_le s 97 122 (s.size - i - 1) (i + 1)).1
            omega
          generalize runTo s 97 122 (s.size - i) i = e at hw hr hle hgt ⊢
          have e1 : Aside0 (wrap64 ((i : Int) + ((e : Int) - i)) = (e : Int)) := ⟨by rw [w64 (by omega) (by omega)]; omega⟩
          have e2 : Aside0 (wrap64 ((e : Int) - i) = (e : Int) - i) := ⟨w64 (by omega) (by omega)⟩
          by_cases h12 : e - i > 12
          · rw [if_pos h12]
            refine ⟨.succ (.succ ⟨Kw, fun k hk => ?_⟩), .succ (.succ ⟨Kr, fun k hk => ?_⟩)⟩
            · refine (eS _).trans ?_
              simp only [spec_SignsOf.j1, Bool.false_eq_true, if_false, hw k hk, Option.bind_some]
              rw [if_pos (by omega), if_pos (by omega)]
              rfl
            · refine (eI _).trans ?_
              simp only [impl_SignsOf.j1, Bool.false_eq_true, if_false, let_, Option.bind_some, decide_eq_true hl, if_true, impl_runOf_64.f, hr k hk, e2.out]
              rw [if_pos (by omega), if_pos (by omega), if_pos (by omega)]
              rfl
          · rw [if_neg h12, told_map]
            obtain ⟨⟨K1, g1⟩, ⟨K2, g2⟩⟩ := ih e (o ++ [⟨1, s.extract i e, 0⟩]) (by omega) (by omega) (by simp only [List.length_append, List.length_cons, List.length_nil]; omega)
            dsimp only at g1 g2
            refine ⟨.succ (.succ ⟨Kw + K1, fun k hk => ?_⟩), .succ (.succ ⟨Kr + K2, fun k hk => ?_⟩)⟩
            · refine (eS _).trans ?_
              simp only [spec_SignsOf.j1, Bool.false_eq_true, if_false, hw k (by omega), Option.bind_some, e1.out, Int.toNat_natCast]
              rw [if_pos (by omega), if_neg (by omega), if_pos (by omega), if_pos (by omega), if_pos (by omega), if_pos (by omega)]
              exact g1 k (by omega)
            · refine (eI _).trans ?_
              simp only [impl_SignsOf.j1, Bool.false_eq_true, if_false, let_, Option.bind_some, decide_eq_true hl, if_true, impl_runOf_64.f, hr k (by omega), e2.out, Int.toNat_natCast]
              rw [if_pos (by omega), if_pos (by omega), if_neg (by omega), if_pos (by omega), if_pos (by omega), if_pos (by omega)]
              exact g2 k (by omega)
        · rw [if_neg hl]
          have w0 : runTo s 97 122 (s.size - i) i = i := by
            rw [hd1]
            simp only [runTo, if_neg hl]
          rw [w0] at hw
          obtain ⟨Kv, hv⟩ := word s (by omega) 48 57 i (by omega)
          dsimp only at hv
          by_cases hf : 48 ≤ bt s (i : Int) ∧ bt s (i : Int) ≤ 57
          · rw [if_pos hf]
            obtain ⟨Kr, hr⟩ := run_f s (by omega) (s.size - i) i (by omega)
            dsimp only at hr
            have hle := runTo_le s 48 57 (s.size - i) i
            have hin := runTo_in s 48 57 (s.size - i) i
            have hgt : i < runTo s 48 57 (s.size - i) i := by
              rw [hd1]
              simp only [runTo, if_pos hf]
              have := (runTo_le s 48 57 (s.size - i - 1) (i + 1)).1
              omega
            generalize runTo s 48 57 (s.size - i) i = e at hv hr hle hin hgt ⊢
            have e1 : Aside0 (wrap64 ((i : Int) + ((e : Int) - i)) = (e : Int)) := ⟨by rw [w64 (by omega) (by omega)]; omega⟩
            have e2 : Aside0 (wrap64 ((e : Int) - i) = (e : Int) - i) := ⟨w64 (by omega) (by omega)⟩
            by_cases h10 : e - i > 10
            · rw [if_pos (.inl h10)]
              refine ⟨.succ (.succ (.succ (.succ (.succ ⟨Kw + Kv, fun k hk => ?_⟩)))), .succ (.succ (.succ ⟨Kr, fun k hk => ?_⟩))⟩
              · refine (eS _).trans ?_
                simp only [spec_SignsOf.j1, Bool.false_eq_true, if_false, hw (k + 3) (by omega), hv (k + 3) (by omega), Option.bind_some]
                rw [if_neg (by omega), if_pos (by omega)]
                simp only [spec_SignsOf.l1, e1.out]
                rw [if_pos (by omega), if_neg (by omega)]
                simp only [spec_SignsOf.j3]
                rw [if_pos (by omega)]
                simp only [spec_SignsOf.j4, if_true]
                rfl
              · refine (eI _).trans ?_
                simp only [impl_SignsOf.j1, Bool.false_eq_true, if_false, let_, fig_, Option.bind_some, decide_eq_false hl, decide_eq_true hf, if_true, impl_runOf_66.f, hr (k + 1) (by omega)]
                rw [if_pos (by omega), if_pos (by omega)]
                simp only [impl_SignsOf.l1, e2.out]
                rw [if_pos (by omega), if_neg (by omega), if_pos (by omega)]
                rfl
            · obtain ⟨vS, v0⟩ := val_S s (by omega) o i e (by omega) (by omega) (fun m a b => hin m a b) (r := told o (if e - i > 10 ∨ valF s (e - i) i 0 > 4294967295 then none else (toks s d e).map ((⟨2, (⟨#[]⟩ : ByteArray), valF s (e - i) i 0⟩ : S81) :: ·))) (e - i) i 0 (by omega) (Nat.le_refl _) (Int.le_refl _) (by simp)
              obtain ⟨vI1, vI2⟩ := val_I s (by omega) o (by omega) i e (by omega) (by omega) (by omega) (fun m a b => hin m a b) (r := told (o ++ [⟨2, (⟨#[]⟩ : ByteArray), valF s (e - i) i 0⟩]) (toks s d e)) (e - i) i 0 (by omega) (Nat.le_refl _) (Int.le_refl _) (by simp)
              have gS : ∀ {r}, Evt (fun k => spec_SignsOf.l1 k s [] o (i : Int) ((e : Int) - i) 0 (i : Int)) r → Evt (fun k => spec_SignsOf.l0 k s [] o (i : Int)) r := fun ⟨K, h⟩ => .succ (.succ ⟨K + Kw + Kv, fun k hk => by
                refine (eS _).trans ?_
                simp only [spec_SignsOf.j1, Bool.false_eq_true, if_false, hw k (by omega), hv k (by omega), Option.bind_some]
                rw [if_neg (by omega), if_pos (by omega)]
                exact h k (by omega)⟩)
              have gI : ∀ {r}, Evt (fun k => impl_SignsOf.l1 k s o (i : Int) (e : Int) 0 (i : Int)) r → Evt (fun k => impl_SignsOf.l0 k s o (i : Int)) r := fun ⟨K, h⟩ => .succ (.succ ⟨K + Kr, fun k hk => by
                refine (eI _).trans ?_
                simp only [impl_SignsOf.j1, Bool.false_eq_true, if_false, let_, fig_, Option.bind_some, decide_eq_false hl, decide_eq_true hf, if_true, impl_runOf_66.f, hr k (by omega)]
                rw [if_pos (by omega), if_pos (by omega)]
                exact h k (by omega)⟩)
              generalize valF s (e - i) i 0 = v at vS v0 vI1 vI2 ⊢
              by_cases hb : v > 4294967295
              · rw [if_pos (.inr hb)] at vS ⊢
                refine ⟨gS (vS ?_), gI (vI1 hb)⟩
                refine .succ (.succ (.const fun k => ?_))
                simp only [spec_SignsOf.j3, halfS, Option.bind_some]
                rw [if_neg (by omega), decide_eq_false (by omega)]
                simp only [spec_SignsOf.j4, Bool.not_false, if_true]
                rfl
              · have hno : ¬ (e - i > 10 ∨ v > 4294967295) := by omega
                rw [if_neg hno] at vS ⊢
                obtain ⟨⟨K1, g1⟩, g2⟩ := ih e (o ++ [⟨2, (⟨#[]⟩ : ByteArray), v⟩]) (by omega) (by omega) (by simp only [List.length_append, List.length_cons, List.length_nil]; omega)
                rw [told_map] at vS ⊢
                refine ⟨gS (vS ?_), gI (vI2 hb g2)⟩
                refine .succ (.succ ⟨K1, fun k hk => ?_⟩)
                simp only [spec_SignsOf.j3, halfS, Option.bind_some]
                rw [if_neg (by omega), decide_eq_true (by omega)]
                simp only [spec_SignsOf.j4, Bool.not_true, Bool.false_eq_true, if_false, e1.out]
                rw [if_pos (by omega)]
                exact g1 k hk
          · rw [if_neg hf]
            have v0 : runTo s 48 57 (s.size - i) i = i := by
              rw [hd1]
              simp only [runTo, if_neg hf]
            rw [v0] at hv
            obtain ⟨Km, hm⟩ := mark_S s (by omega) i (by omega)
            obtain ⟨Kn, hn⟩ := mark_I s (by omega) i (by omega)
            dsimp only at hm hn
            obtain ⟨z1, z2⟩ := findM_sz s i marks marks_sz
            generalize findM s i marks = m at hm hn z1 z2 ⊢
            have e1 : Aside0 (wrap64 ((i : Int) + (m.size : Int)) = ((i + m.size : Nat) : Int)) := ⟨by rw [w64 (by omega) (by omega)]; omega⟩
            by_cases he : m.toList = []
            · rw [if_pos he]
              refine ⟨.succ (.succ ⟨Kw + Kv + Km, fun k hk => ?_⟩), .succ (.succ ⟨Kn, fun k hk => ?_⟩)⟩
              · refine (eS _).trans ?_
                simp only [spec_SignsOf.j1, Bool.false_eq_true, if_false, hw k (by omega), hv k (by omega), hm k (by omega), Option.bind_some]
                rw [if_neg (by omega), if_neg (by omega), if_pos he]
                rfl
              · refine (eI _).trans ?_
                simp only [impl_SignsOf.j1, Bool.false_eq_true, if_false, let_, fig_, Option.bind_some, decide_eq_false hl, decide_eq_false hf, hn k (by omega)]
                rw [if_pos (by omega), if_pos (by omega), if_pos he]
                rfl
            · rw [if_neg he, told_map]
              have hpos : 1 ≤ m.size := by
                rcases Nat.eq_zero_or_pos m.size with h | h
                · exact absurd (by rw [ByteArray.toList_eq]; exact List.eq_nil_of_length_eq_zero h) he
                · exact h
              obtain ⟨⟨K1, g1⟩, ⟨K2, g2⟩⟩ := ih (i + m.size) (o ++ [⟨3, m, 0⟩]) (by omega) (by have := z2.resolve_left he; omega) (by simp only [List.length_append, List.length_cons, List.length_nil]; have := z2.resolve_left he; omega)
              dsimp only at g1 g2
              refine ⟨.succ (.succ ⟨Kw + Kv + Km + K1, fun k hk => ?_⟩), .succ (.succ ⟨Kn + K2, fun k hk => ?_⟩)⟩
              · refine (eS _).trans ?_
                simp only [spec_SignsOf.j1, Bool.false_eq_true, if_false, hw k (by omega), hv k (by omega), hm k (by omega), Option.bind_some, e1.out]
                rw [if_neg (by omega), if_neg (by omega), if_neg he, if_pos (by omega)]
                exact g1 k (by omega)
              · refine (eI _).trans ?_
                simp only [impl_SignsOf.j1, Bool.false_eq_true, if_false, let_, fig_, Option.bind_some, decide_eq_false hl, decide_eq_false hf, hn k (by omega), e1.out]
                rw [if_pos (by omega), if_pos (by omega), if_neg he, if_pos (by omega)]
                exact g2 k (by omega)
    · exact fin (d + 1) i o hlt h2
/-- What SignsOf tells. -/
def signsV (s : ByteArray) : List S81 × Bool := if (s.size : Int) > 1200 then ([], false) else told [] (toks s s.size 0)
theorem signsOf (s : ByteArray) : Evt (fun k => spec_SignsOf.f k s) (signsV s) ∧ Evt (fun k => impl_SignsOf.f k s) (signsV s) := by
  unfold signsV
  by_cases h : (s.size : Int) > 1200
  · exact ⟨.const fun k => by simp only [spec_SignsOf.f, Option.bind_some, if_pos h], .const fun k => by simp only [impl_SignsOf.f, if_pos h]⟩
  · obtain ⟨⟨K1, g1⟩, ⟨K2, g2⟩⟩ := signsF s (by omega) s.size 0 [] (by omega) (by omega) (by simp; omega)
    rw [if_neg h]
    exact ⟨⟨K1, fun k hk => by simp only [spec_SignsOf.f, Option.bind_some, if_neg h]; exact g1 k hk⟩, ⟨K2, fun k hk => by simp only [impl_SignsOf.f, if_neg h]; exact g2 k hk⟩⟩
/-- A mark as a text: it is told for each number. -/
theorem markText_l0 : ∀ (m : Nat) (q : Int) (s : ByteArray), q ≤ m → m + s.size ≤ 9223372036854775000 → Tot (fun k => laws_markText.l0 k q s) := by
  intro m
  induction m with
  | zero =>
    intro q s h1 h2
    refine .succ (.const (v := (⟨#[109]⟩ : ByteArray) ++ s) fun k => ?_)
    simp only [laws_markText.l0]
    rw [if_neg (by omega), if_pos (by omega)]
  | succ m ih =>
    intro q s h1 h2
    by_cases hq : q > 0
    · have ed : q.tdiv 10 = q / 10 := Int.tdiv_eq_ediv_of_nonneg (by omega)
      have h10 : q.tdiv 10 ≤ m := by omega
      have e10 : wrap64 (q.tdiv 10) = q.tdiv 10 := w64 (by omega) (by omega)
      have e1 : (strOfNums [(wrap64 (48 + (Int.tmod q 10))) % 256]).size = 1 := rfl
      obtain ⟨v, K, h⟩ := ih (q.tdiv 10) (strOfNums [(wrap64 (48 + (Int.tmod q 10))) % 256] ++ s) h10 (by rw [ByteArray.size_append, e1]; omega)
      refine ⟨v, .succ ⟨K, fun k hk => ?_⟩⟩
      simp only [laws_markText.l0]
      rw [if_pos hq]
      simp only [Option.bind_some]
      rw [if_pos (by rw [e1]; omega), e10]
      exact h k hk
    · refine .succ (.const (v := (⟨#[109]⟩ : ByteArray) ++ s) fun k => ?_)
      simp only [laws_markText.l0]
      rw [if_neg hq, if_pos (by omega)]
theorem markText (q : Int) (hq : q ≤ 4611686018427387904) : ∃ v, Evt (fun k => laws_markText.f k q) v := by
  by_cases h : q ≤ 0
  · exact ⟨_, .const fun k => by simp only [laws_markText.f]; rw [if_pos h]⟩
  · obtain ⟨v, K, hv⟩ := markText_l0 q.toNat q ⟨#[]⟩ (by omega) (by show _ + 0 ≤ _; omega)
    exact ⟨v, K, fun k hk => by simp only [laws_markText.f]; rw [if_neg h]; exact hv k hk⟩
theorem toks_len (s : ByteArray) : ∀ d i r, toks s d i = some r → r.length ≤ d
  | 0, i, r, h => by
    simp only [toks] at h
    have := Option.some.inj h
    subst this
    simp
  | d + 1, i, r, h => by
    have up : ∀ (x : S81) (j : Nat), (toks s d j).map (x :: ·) = some r → r.length ≤ d + 1 := fun x j h => by
      obtain ⟨q, h1, h2⟩ := Option.map_eq_some_iff.1 h
      have := toks_len s d j q h1
      subst h2
      simp only [List.length_cons]
      omega
    simp only [toks] at h
    split at h
    · split at h
      · have := toks_len s d (i + 1) r h
        omega
      · split at h
        · split at h
          · cases h
          · exact up _ _ h
        · split at h
          · split at h
            · cases h
            · exact up _ _ h
          · split at h
            · cases h
            · exact up _ _ h
    · have := Option.some.inj h
      subst this
      simp
theorem signsV_len (s : ByteArray) : (signsV s).1.length ≤ 1200 := by
  unfold signsV
  split
  · simp
  · rename_i h
    cases ht : toks s s.size 0 with
    | none => simp [told]
    | some r =>
      have := toks_len s s.size 0 r ht
      simp only [told, List.nil_append]
      omega
/-- Signs marked from an index on hold the marks. -/
theorem markSign_l0 : ∀ (d i : Nat) (x : List S81) (q : Int), i + d = x.length → 0 ≤ q → q + 3 * d ≤ 2305843009213693952 → x.length ≤ 4611686018427387904 → ∃ y, Evt (fun k => laws_markSignS.l0 k x q (i : Int)) (q + 3 * d, y) ∧ Evt (fun k => laws_heldSignS.l0 k y q (i : Int)) (q + 3 * d) ∧ y.length = x.length ∧ (∀ j, j < i → y[j]? = x[j]?)
  | 0, i, x, q, hi, hq, hb, hl => by
    refine ⟨x, .succ (.const fun k => ?_), .succ (.const fun k => ?_), rfl, fun _ _ => rfl⟩
    · simp only [laws_markSignS.l0]
      rw [if_neg (by omega)]
      simp
    · simp only [laws_heldSignS.l0]
      rw [if_neg (by omega)]
      simp
  | d + 1, i, x, q, hi, hq, hb, hl => by
    have hlt : i < x.length := by omega
    obtain ⟨t1, K1, m1⟩ := markText (q + 1) (by omega)
    dsimp only at m1
    obtain ⟨y, ⟨K2, h1⟩, ⟨K3, h2⟩, hyl, hy⟩ := markSign_l0 d (i + 1) (x.set i ⟨q, t1, q + 2⟩) (q + 3) (by rw [List.length_set]; omega) (by omega) (by omega) (by rw [List.length_set]; exact hl)
    rw [List.length_set] at hyl
    dsimp only at h1 h2
    have w1 : wrap64 (q + 1) = q + 1 := w64 (by omega) (by omega)
    have w2 : wrap64 (q + 2) = q + 2 := w64 (by omega) (by omega)
    have w3 : wrap64 (q + 3) = q + 3 := w64 (by omega) (by omega)
    have hyi : y[i]? = some ⟨q, t1, q + 2⟩ := by rw [hy i (by omega), List.getElem?_set_self hlt]
    have hlt' : i < y.length := by omega
    have hyg : y[i] = ⟨q, t1, q + 2⟩ := by
      rw [List.getElem?_eq_getElem hlt'] at hyi
      exact Option.some.inj hyi
    refine ⟨y, .succ ⟨K1 + K2, fun k hk => ?_⟩, .succ ⟨K1 + K3, fun k hk => ?_⟩, hyl, fun j hj => ?_⟩
    · have rs : ∀ v, rd_T81 (x.set i v) (i : Int) = v := fun v => by rw [rdn81 _ i (by rw [List.length_set]; exact hlt), List.getElem_set_self]
      simp only [laws_markSignS.l0]
      rw [if_pos (by omega), if_pos (by omega)]
      simp only [Option.bind_some, Int.toNat_natCast, rdn81 _ i hlt, rs, List.set_set, w1, w2, w3, Int.add_assoc, Int.reduceAdd, m1 k (by omega)]
      rw [wsucc hlt (by omega), h1 k (by omega)]
      refine congrArg some (Prod.ext ?_ rfl)
      show q + 3 + 3 * (d : Int) = q + 3 * ((d + 1 : Nat) : Int)
      omega
    · simp only [laws_heldSignS.l0]
      rw [if_pos (by omega), if_pos (by omega), rdn81 y i hlt', hyg]
      simp only [Option.bind_some, w1, w2, w3, Int.add_assoc, Int.reduceAdd, m1 k (by omega), if_true]
      rw [wsucc hlt' (by omega), h2 k (by omega)]
      refine congrArg some ?_
      omega
    · rw [hy j (by omega), List.getElem?_set_ne (by omega)]
theorem markSign (x : List S81) (hn : x.length ≤ 140737488355328) : ∃ y q, Evt (fun k => laws_markSignS.f k x 1) (q, y) ∧ Evt (fun k => laws_heldSignS.f k y 1) q ∧ 0 ≤ q := by
  obtain ⟨y, h1, h2, _, _⟩ := markSign_l0 x.length 0 x 1 (by omega) (by omega) (by omega) (by omega)
  exact ⟨y, _, h1, h2, by omega⟩
theorem main (s : ByteArray) : ∃ k, laws_FnExactSignsOf.f k s = some true := by
  by_cases g1 : (s.size : Int) > 1048576
  · exact ⟨0, by simp only [laws_FnExactSignsOf.f, if_pos g1]⟩
  obtain ⟨⟨K1, h1⟩, ⟨K2, h2⟩⟩ := signsOf s
  have hl := signsV_len s
  generalize signsV s = r at h1 h2 hl
  obtain ⟨L, t⟩ := r
  dsimp only at h1 h2 hl
  obtain ⟨K5, h5⟩ := Elaws_eqSignS L (by omega)
  obtain ⟨y, q, ⟨K6, h6⟩, ⟨K7, h7⟩, hq⟩ := markSign L (by omega)
  dsimp only at h5 h6 h7
  have hn : ¬ q < 0 := by omega
  have ht : (t != t) = false := by simp
  obtain ⟨K, hK⟩ : ∃ K, K = K1 + K2 + K5 + K6 + K7 := ⟨_, rfl⟩
  refine ⟨K + 2, ?_⟩
  simp only [laws_FnExactSignsOf.f, if_neg g1, h1 (K + 2) (by omega), h2 (K + 2) (by omega), h5 (K + 2) (by omega), Option.bind_some, if_true, ht]
  simp only [laws_FnExactSignsOf.j0, Bool.false_eq_true, if_false, h6 (K + 1) (by omega), h7 (K + 1) (by omega), h2 (K + 1) (by omega), h5 (K + 1) (by omega), Option.bind_some, if_neg hn, if_true, ht]
  simp only [laws_FnExactSignsOf.j1, Bool.false_eq_true, if_false, h7 K (by omega), Option.bind_some, if_neg hn, if_true]
end Go.Proofs.Ytcmcpmkihpdnjaa.PFnExactSignsOf
