/- The pure law of FnExactRunStack: what the functions of the program and of the reference come to is the same, for all arguments that the law is asked of. No conditions. -/
import Derived.Test.YtiinjipfhmgheaaPFnExactRunStacky10
import Derived.Test.YtiinjipfhmgheaaEV
set_option linter.unusedSimpArgs false
set_option linter.unusedVariables false
namespace Go.Proofs.Ytiinjipfhmgheaa.PFnExactRunStack
open Go Go.RowKit Go.Proofs.YtiinjipfhmgheaaW.PrintWords Go.Proofs.YtiinjipfhmgheaaW.PrintLast Go.Proofs.YtiinjipfhmgheaaW.PK
theorem Elaws_szInsS (l : List (S120)) (q : Int) (hq : 0 ≤ q) (hq' : q ≤ 1048576) (hm : l.length ≤ maxLen) : ∃ s : Int, s ≤ q ∧ (0 ≤ s → l.length ≤ 1048576) ∧ Evt (fun k => laws_szInsS.f l q) s := by
  unfold maxLen at hm
  have e : wrap64 (q - (l.length : Int)) = q - l.length := w64 (by omega) (by omega)
  by_cases hn : q - (l.length : Int) < 0
  · exact ⟨-1, by omega, fun h => by omega, .const fun k => by simp only [laws_szInsS.f, e, if_pos hn]⟩
  · exact ⟨q - l.length, by omega, fun h => by omega, .const fun k => by simp only [laws_szInsS.f, e, if_neg hn]⟩
theorem nrd_L2 (l : List (List (S120))) (i : Nat) (h : i < l.length) : rd_L2 l (i : Int) = l[i] := getD_lt _ h
theorem Elaws_szInsSS (l : List (List (S120))) (q : Int) (hq : 0 ≤ q) (hq' : q ≤ 1048576) (hm : l.length ≤ maxLen) (hw : ∀ x ∈ l, ((∀ u1 ∈ x, ((Lit.int .i64 u1.f0).wf = true ∧ (Lit.int .i64 u1.f1).wf = true ∧ (Lit.int .i64 u1.f2).wf = true ∧ (Lit.int .i64 u1.f3).wf = true)) ∧ x.length ≤ maxLen)) : ∃ s : Int, s ≤ q ∧ (0 ≤ s → l.length ≤ 1048576 ∧ ∀ y ∈ l, y.length ≤ 1048576) ∧ Evt (fun k => laws_szInsSS.f k l q) s := by
  unfold maxLen at hm
  have e : wrap64 (q - (l.length : Int)) = q - l.length := w64 (by omega) (by omega)
  by_cases hn : q - (l.length : Int) < 0
  · exact ⟨-1, by omega, fun h => by omega, .const fun k => by simp only [laws_szInsSS.f, e, if_pos hn]⟩
  · have H := Evt.sz (F := fun k q i => laws_szInsSS.l0 k l q i) (n := l.length) (P := fun i => ∀ h : i < l.length, l[i].length ≤ 1048576) ?_ ?_ (q - l.length) (by omega) (by omega)
    · obtain ⟨s, hs, hP, hE⟩ := H
      refine ⟨s, by omega, fun h => ⟨by omega, fun y hy => ?_⟩, hE.congr fun k => ?_⟩
      · obtain ⟨i, hi, rfl⟩ := List.mem_iff_getElem.1 hy
        exact hP h i hi hi
      · simp only [laws_szInsSS.f, e, if_neg hn]
    · intro k q
      simp only [laws_szInsSS.l0]
      rw [if_neg (by omega)]
    · intro i hi q hq hq'
      obtain ⟨s, hs, hP, K, hK⟩ := Elaws_szInsS l[i] q hq hq' (hw _ (List.getElem_mem hi)).2
      dsimp only at hK
      refine ⟨s, hs, fun h _ => hP h, K, fun k hk => ?_⟩
      simp only [laws_szInsSS.l0]
      rw [if_pos (by omega), if_pos (by omega), nrd_L2 l i hi, hK k hk, wsucc hi (by omega)]
      all_goals rfl
theorem Elaws_toIns (a0_0 : Int) (a0_1 : Int) (a0_2 : Int) (a0_3 : Int) : Evt (fun k => laws_toIns.f a0_0 a0_1 a0_2 a0_3) (a0_0, a0_1, a0_2, a0_3) := by
  exact .const fun k => rfl
def conv120 (a : S120) : S118 := ⟨a.f0, a.f1, a.f2, a.f3⟩
theorem nrd_T120 (l : List (S120)) (i : Nat) (h : i < l.length) : rd_T120 l (i : Int) = l[i] := getD_lt _ h
theorem Elaws_toInsS (l : List (S120)) (hn : l.length ≤ 1048576) : Evt (fun k => laws_toInsS.f k l) (l.map conv120) := by
  have h := Evt.to (F := fun k y i => laws_toInsS.l0 k l y i) (x := l) (conv := conv120) ?_ ?_ (List.replicate l.length z118) (by simp)
  · refine h.congr fun k => ?_
    unfold laws_toInsS.f
    rw [if_pos (by omega), if_pos (by omega), Int.toNat_natCast]
  · intro k y
    simp only [laws_toInsS.l0]
    rw [if_neg (by omega)]
  · intro i hi
    obtain ⟨K, hK⟩ := Elaws_toIns l[i].f0 l[i].f1 l[i].f2 l[i].f3
    dsimp only at hK
    refine ⟨K, fun k hk y hy => ?_⟩
    simp only [laws_toInsS.l0]
    rw [if_pos (by omega), if_pos (by omega), nrd_T120 l i hi, hK k hk]
    simp only [Option.bind_some]
    rw [if_pos (by omega), wsucc hi (by omega), Int.toNat_natCast]
    all_goals rfl
theorem Elaws_toInsSS (l : List (List (S120))) (hn : l.length ≤ 1048576) (hB : ∀ y ∈ l, y.length ≤ 1048576) : Evt (fun k => laws_toInsSS.f k l) (l.map (fun y => y.map conv120)) := by
  have h := Evt.to (F := fun k y i => laws_toInsSS.l0 k l y i) (x := l) (conv := (fun y => y.map conv120)) ?_ ?_ (List.replicate l.length []) (by simp)
  · refine h.congr fun k => ?_
    unfold laws_toInsSS.f
    rw [if_pos (by omega), if_pos (by omega), Int.toNat_natCast]
  · intro k y
    simp only [laws_toInsSS.l0]
    rw [if_neg (by omega)]
  · intro i hi
    obtain ⟨K, hK⟩ := Elaws_toInsS l[i] ((hB _ (List.getElem_mem hi)))
    dsimp only at hK
    refine ⟨K, fun k hk y hy => ?_⟩
    simp only [laws_toInsSS.l0]
    rw [if_pos (by omega), if_pos (by omega), nrd_L2 l i hi, hK k hk]
    simp only [Option.bind_some]
    rw [if_pos (by omega), wsucc hi (by omega), Int.toNat_natCast]
    all_goals rfl
theorem Elaws_eqIns (a0_0 : Int) (a0_1 : Int) (a0_2 : Int) (a0_3 : Int) : Evt (fun k => laws_eqIns.f a0_0 a0_1 a0_2 a0_3 a0_0 a0_1 a0_2 a0_3) true := by
  refine ⟨0, fun k hk => ?_⟩
  simp only [laws_eqIns.f, Option.bind_some, if_true]
theorem nrd_T118 (l : List (S118)) (i : Nat) (h : i < l.length) : rd_T118 l (i : Int) = l[i] := getD_lt _ h
theorem Elaws_eqInsS (l : List (S118)) (hn : l.length ≤ 4611686018427387904) : Evt (fun k => laws_eqInsS.f k l l) true := by
  have h := Evt.pass (F := fun k i => laws_eqInsS.l0 k l l i) (n := l.length) (r := true) ?_ ?_
  · refine h.congr fun k => ?_
    unfold laws_eqInsS.f
    rw [if_pos rfl]
  · refine .const fun k => ?_
    simp only [laws_eqInsS.l0]
    rw [if_neg (by omega)]
  · intro i hi
    obtain ⟨K, hK⟩ := Elaws_eqIns l[i].f0 l[i].f1 l[i].f2 l[i].f3
    dsimp only at hK
    refine ⟨K, fun k hk => ?_⟩
    simp only [laws_eqInsS.l0]
    rw [if_pos (by omega), if_pos (by omega), if_pos (by omega), nrd_T118 l i hi, hK k hk]
    simp only [Option.bind_some, if_true]
    rw [wsucc hi (by omega)]
theorem nrd_L4 (l : List (List (S118))) (i : Nat) (h : i < l.length) : rd_L4 l (i : Int) = l[i] := getD_lt _ h
theorem Elaws_eqInsSS (l : List (List (S118))) (hn : l.length ≤ 4611686018427387904) (hB : ∀ y ∈ l, y.length ≤ 4611686018427387904) : Evt (fun k => laws_eqInsSS.f k l l) true := by
  have h := Evt.pass (F := fun k i => laws_eqInsSS.l0 k l l i) (n := l.length) (r := true) ?_ ?_
  · refine h.congr fun k => ?_
    unfold laws_eqInsSS.f
    rw [if_pos rfl]
  · refine .const fun k => ?_
    simp only [laws_eqInsSS.l0]
    rw [if_neg (by omega)]
  · intro i hi
    obtain ⟨K, hK⟩ := Elaws_eqInsS l[i] ((hB _ (List.getElem_mem hi)))
    dsimp only at hK
    refine ⟨K, fun k hk => ?_⟩
    simp only [laws_eqInsSS.l0]
    rw [if_pos (by omega), if_pos (by omega), if_pos (by omega), nrd_L4 l i hi, hK k hk]
    simp only [Option.bind_some, if_true]
    rw [wsucc hi (by omega)]
theorem Elaws_szWideS (l : List (S30)) (q : Int) (hq : 0 ≤ q) (hq' : q ≤ 1048576) (hm : l.length ≤ maxLen) : ∃ s : Int, s ≤ q ∧ (0 ≤ s → l.length ≤ 1048576) ∧ Evt (fun k => laws_szWideS.f l q) s := by
  unfold maxLen at hm
  have e : wrap64 (q - (l.length : Int)) = q - l.length := w64 (by omega) (by omega)
  by_cases hn : q - (l.length : Int) < 0
  · exact ⟨-1, by omega, fun h => by omega, .const fun k => by simp only [laws_szWideS.f, e, if_pos hn]⟩
  · exact ⟨q - l.length, by omega, fun h => by omega, .const fun k => by simp only [laws_szWideS.f, e, if_neg hn]⟩
theorem Elaws_szCall (a0_0 : Int) (a0_1 : Int) (l0_2 : List (S30)) (q : Int) (hq : 0 ≤ q) (hq' : q ≤ 1048576) (hl0_2 : ((∀ u4 ∈ l0_2, ((Lit.int .i64 u4.f0).wf = true ∧ (Lit.int .i64 u4.f1).wf = true)) ∧ l0_2.length ≤ maxLen)) : ∃ s : Int, s ≤ q ∧ (0 ≤ s → l0_2.length ≤ 1048576) ∧ Evt (fun k => laws_szCall.f a0_0 a0_1 l0_2 q) s := by
  obtain ⟨s0, hs0, hB0, K0, e0⟩ := Elaws_szWideS l0_2 (q) (by omega) (by omega) hl0_2.2
  by_cases n0 : s0 < 0
  · exact ⟨-1, by omega, fun h => by omega, 0 + K0, fun k hk => by simp only [laws_szCall.f, e0 k (by omega), Option.bind_some, if_pos n0]⟩
  exact ⟨s0, by omega, fun h => hB0 (by omega), 0 + K0, fun k hk => by simp only [laws_szCall.f, e0 k (by omega), Option.bind_some, if_neg n0]⟩
theorem Elaws_toWide (a0_0 : Int) (a0_1 : Int) : Evt (fun k => laws_toWide.f a0_0 a0_1) (a0_0, a0_1) := by
  exact .const fun k => rfl
def conv30 (a : S30) : S38 := ⟨a.f0, a.f1⟩
theorem nrd_T30 (l : List (S30)) (i : Nat) (h : i < l.length) : rd_T30 l (i : Int) = l[i] := getD_lt _ h
theorem Elaws_toWideS (l : List (S30)) (hn : l.length ≤ 1048576) : Evt (fun k => laws_toWideS.f k l) (l.map conv30) := by
  have h := Evt.to (F := fun k y i => laws_toWideS.l0 k l y i) (x := l) (conv := conv30) ?_ ?_ (List.replicate l.length z38) (by simp)
  · refine h.congr fun k => ?_
    unfold laws_toWideS.f
    rw [if_pos (by omega), if_pos (by omega), Int.toNat_natCast]
  · intro k y
    simp only [laws_toWideS.l0]
    rw [if_neg (by omega)]
  · intro i hi
    obtain ⟨K, hK⟩ := Elaws_toWide l[i].f0 l[i].f1
    dsimp only at hK
    refine ⟨K, fun k hk y hy => ?_⟩
    simp only [laws_toWideS.l0]
    rw [if_pos (by omega), if_pos (by omega), nrd_T30 l i hi, hK k hk]
    simp only [Option.bind_some]
    rw [if_pos (by omega), wsucc hi (by omega), Int.toNat_natCast]
    all_goals rfl
theorem Elaws_toCall (a0_0 : Int) (a0_1 : Int) (l0_2 : List (S30)) (hl0_2 : l0_2.length ≤ 1048576) : Evt (fun k => laws_toCall.f k a0_0 a0_1 l0_2) (a0_0, a0_1, (l0_2.map conv30)) := by
  obtain ⟨K0, h0⟩ := Elaws_toWideS l0_2 hl0_2
  refine ⟨K0, fun k hk => ?_⟩
  simp only [laws_toCall.f, h0 k (by omega), Option.bind_some]
  all_goals rfl
theorem Elaws_eqWide (a0_0 : Int) (a0_1 : Int) : Evt (fun k => laws_eqWide.f a0_0 a0_1 a0_0 a0_1) true := by
  refine ⟨0, fun k hk => ?_⟩
  simp only [laws_eqWide.f, Option.bind_some, if_true]
theorem nrd_T38 (l : List (S38)) (i : Nat) (h : i < l.length) : rd_T38 l (i : Int) = l[i] := getD_lt _ h
theorem Elaws_eqWideS (l : List (S38)) (hn : l.length ≤ 4611686018427387904) : Evt (fun k => laws_eqWideS.f k l l) true := by
  have h := Evt.pass (F := fun k i => laws_eqWideS.l0 k l l i) (n := l.length) (r := true) ?_ ?_
  · refine h.congr fun k => ?_
    unfold laws_eqWideS.f
    rw [if_pos rfl]
  · refine .const fun k => ?_
    simp only [laws_eqWideS.l0]
    rw [if_neg (by omega)]
  · intro i hi
    obtain ⟨K, hK⟩ := Elaws_eqWide l[i].f0 l[i].f1
    dsimp only at hK
    refine ⟨K, fun k hk => ?_⟩
    simp only [laws_eqWideS.l0]
    rw [if_pos (by omega), if_pos (by omega), if_pos (by omega), nrd_T38 l i hi, hK k hk]
    simp only [Option.bind_some, if_true]
    rw [wsucc hi (by omega)]
theorem Elaws_eqCall (a0_0 : Int) (a0_1 : Int) (l0_2 : List (S38)) (hl0_2 : l0_2.length ≤ 4611686018427387904) : Evt (fun k => laws_eqCall.f k a0_0 a0_1 l0_2 a0_0 a0_1 l0_2) true := by
  obtain ⟨K0, h0⟩ := Elaws_eqWideS l0_2 hl0_2
  refine ⟨K0, fun k hk => ?_⟩
  simp only [laws_eqCall.f, h0 k (by omega), Option.bind_some, if_true]
theorem rd_nat118 (l : List S118) (i : Nat) (h : i < l.length) : rd_T118 l (i : Int) = l[i] := getD_lt _ h
theorem inS (a b c : Int) : spec_l01In.f a b c = some (decide (b ≤ a ∧ a ≤ c)) := by
 unfold spec_l01In.f
 by_cases h : a ≥ b
 ·rw [if_pos h]
  exact congrArg some (by rw [Bool.eq_iff_iff]; simp; omega)
 ·rw [if_neg h]
  exact congrArg some (by rw [Bool.eq_iff_iff]; simp; omega)
theorem inI (a b c : Int) : impl_within.f a b c = some (decide (b ≤ a ∧ a ≤ c)) := inS a b c
theorem halfS (a : Int) : spec_HalfOk.f a = some (decide (0 ≤ a ∧ a ≤ 4294967295)) := by
 unfold spec_HalfOk.f
 rw [inS]
 rfl
theorem halfI (a : Int) : impl_HalfOk.f a = some (decide (0 ≤ a ∧ a ≤ 4294967295)) := halfS a
theorem askS (a : Int) : spec_l06Ask.f a = some (decide (3 ≤ a ∧ a ≤ 6)) := by
 unfold spec_l06Ask.f
 rw [inS]
 rfl
theorem askI (a b c d : Int) : impl_Ins_asks.f a b c d = some (decide (3 ≤ a ∧ a ≤ 6)) := askS a
def InsP (a b c d : Int) : Prop := (1 ≤ a ∧ a ≤ 8) ∧ (0 ≤ b ∧ b ≤ 4294967295) ∧ (0 ≤ c ∧ c ≤ 15) ∧ (0 ≤ d ∧ d ≤ 15) ∧ ((3 ≤ a ∧ a ≤ 6) ∨ (c = 0 ∧ d = 0)) ∧ (a = 1 → b < 8) ∧ (a = 7 → b < 400)
instance (a b c d : Int) : Decidable (InsP a b c d) := by unfold InsP; infer_instance
theorem okS (k : Nat) (hk : 2 ≤ k) (a b c d : Int) : spec_InsOk.f k a b c d = some (decide (InsP a b c d)) := by
 obtain ⟨k, rfl⟩ : ∃ m, k = m + 2 := ⟨k - 2, by omega⟩
 have e : ∀ x : Bool, (x = true ↔ InsP a b c d) → some x = some (decide (InsP a b c d)) := fun x h => congrArg some (by rw [Bool.eq_iff_iff, h]; simp)
 unfold spec_InsOk.f
 simp only [inS, halfS, askS, spec_InsOk.j0, spec_InsOk.j1, Option.bind_some, decide_eq_true_eq, Bool.not_eq_true', decide_eq_false_iff_not]
 repeat' split
 all_goals (refine e _ ?_; clear e; unfold InsP; (try simp only [Bool.false_eq_true, bne_iff_ne, ne_eq, decide_eq_true_eq, false_iff, true_iff, Classical.not_not] at *))
 all_goals (first | contradiction | omega)
theorem okI (k : Nat) (hk : 2 ≤ k) (a b c d : Int) : impl_InsOk.f k a b c d = some (decide (InsP a b c d)) := by
 obtain ⟨k, rfl⟩ : ∃ m, k = m + 2 := ⟨k - 2, by omega⟩
 have e : ∀ x : Bool, (x = true ↔ InsP a b c d) → some x = some (decide (InsP a b c d)) := fun x h => congrArg some (by rw [Bool.eq_iff_iff, h]; simp)
 unfold impl_InsOk.f
 simp only [inI, halfI, askI, impl_InsOk.j0, Option.bind_some, decide_eq_true_eq, bne_iff_ne]
 repeat' split
 all_goals (refine e _ ?_; clear e; unfold InsP; (try simp only [Bool.false_eq_true, bne_iff_ne, ne_eq, decide_eq_true_eq, false_iff, true_iff, Classical.not_not] at *))
 all_goals (first | contradiction | omega)
/-- Where a word leads at the farthest. -/
def farP (x : S118) (i : Int) : Int := if 3 ≤ x.f0 ∧ x.f0 ≤ 6 then i + 1 + mx x.f2 x.f3 else if x.f0 = 7 then i + 1 + x.f1 else i
theorem farI (a b c d i : Int) (h : InsP a b c d) (h0 : 0 ≤ i) (h1 : i ≤ 1000) : impl_farthest.f a b c d i = some (farP ⟨a, b, c, d⟩ i) := by
 unfold InsP at h
 unfold impl_farthest.f farP
 simp only [askI, Option.bind_some, decide_eq_true_eq]
 split
 ·have e1 : wrap64 (i + 1) = i + 1 := w64 (by omega) (by omega)
  have e2 : wrap64 (i + 1 + mx c d) = i + 1 + mx c d := w64 (by unfold mx; split <;> omega) (by unfold mx; split <;> omega)
  rw [e1, e2]
 ·split
  ·have e1 : wrap64 (i + 1) = i + 1 := w64 (by omega) (by omega)
   have e2 : wrap64 (i + 1 + b) = i + 1 + b := w64 (by omega) (by omega)
   rw [e1, e2]
  ·rfl
/-- A right word at a place, that leads inside. -/
def AtP (l : List S118) (j : Nat) (h : j < l.length) : Prop := InsP l[j].f0 l[j].f1 l[j].f2 l[j].f3 ∧ farP l[j] j < l.length
/-- A right program. -/
def ProgP (l : List S118) : Prop := (1 ≤ l.length ∧ l.length ≤ 400) ∧ (∀ h : 0 < l.length, (l[l.length - 1]'(by omega)).f0 = 8) ∧ ∀ j (h : j < l.length), AtP l j h
theorem chkI_l0 (l : List S118) (hn : l.length ≤ 400) : ∀ (d i : Nat), i + d = l.length → ∃ b, (∀ k, d + 3 ≤ k → impl_CheckProgram.l0 k (l.length : Int) l (l.length : Int) (i : Int) = some b) ∧ (b = true ↔ ∀ j (h : j < l.length), i ≤ j → AtP l j h)
 | 0, i, hi => by
  refine ⟨true, fun k hk => ?_, by simp; intro j h1 h2; omega⟩
  obtain ⟨k, rfl⟩ : ∃ m, k = m + 1 := ⟨k - 1, by omega⟩
  simp only [impl_CheckProgram.l0]
  rw [if_neg (by omega)]
 | d + 1, i, hi => by
  have hlt : i < l.length := by omega
  obtain ⟨b, hb, hbi⟩ := chkI_l0 l hn d (i + 1) (by omega)
  by_cases hA : AtP l i hlt
  ·refine ⟨b, fun k hk => ?_, ?_⟩
   ·obtain ⟨k, rfl⟩ : ∃ m, k = m + 1 := ⟨k - 1, by omega⟩
    simp only [impl_CheckProgram.l0]
    rw [if_pos (by omega), if_pos (by omega), if_pos (by omega), rd_nat118 l i hlt, okI k (by omega)]
    obtain ⟨h1, h2⟩ := hA
    simp only [Option.bind_some, decide_eq_true_eq]
    rw [if_pos h1, farI _ _ _ _ _ h1 (by omega) (by omega)]
    simp only [Option.bind_some]
    have h3 : ¬ (farP ⟨l[i].f0, l[i].f1, l[i].f2, l[i].f3⟩ (i : Int) ≥ (l.length : Int)) := by have h2' : farP ⟨l[i].f0, l[i].f1, l[i].f2, l[i].f3⟩ (i : Int) < (l.length : Int) := h2; omega
    rw [if_neg h3, wsucc hlt (by omega)]
    exact hb k (by omega)
   ·rw [hbi]
    refine ⟨fun h j hj hij => ?_, fun h j hj hij => h j hj (by omega)⟩
    rcases Nat.lt_or_ge i j with h3 | h3
    ·exact h j hj (by omega)
    ·have : i = j := by omega
     subst this
     exact hA
  ·refine ⟨false, fun k hk => ?_, ?_⟩
   ·obtain ⟨k, rfl⟩ : ∃ m, k = m + 1 := ⟨k - 1, by omega⟩
    simp only [impl_CheckProgram.l0]
    rw [if_pos (by omega), if_pos (by omega), if_pos (by omega), rd_nat118 l i hlt, okI k (by omega)]
    simp only [Option.bind_some, decide_eq_true_eq]
    split
    ·rename_i h1
     rw [farI _ _ _ _ _ h1 (by omega) (by omega)]
     simp only [Option.bind_some]
     have h3 : farP ⟨l[i].f0, l[i].f1, l[i].f2, l[i].f3⟩ (i : Int) ≥ (l.length : Int) := by
      have h4 : ¬ farP l[i] (i : Int) < (l.length : Int) := fun h5 => hA ⟨h1, h5⟩
      have h6 : ¬ farP ⟨l[i].f0, l[i].f1, l[i].f2, l[i].f3⟩ (i : Int) < (l.length : Int) := h4
      omega
     rw [if_pos h3]
    ·rfl
   ·refine ⟨(fun h => by cases h), fun h => absurd (h i hlt (Nat.le_refl _)) hA⟩
theorem chkI (l : List S118) : ∃ b, (∀ k, l.length + 4 ≤ k → impl_CheckProgram.f k l = some b) ∧ (b = true ↔ ProgP l) := by
 by_cases h1 : 1 ≤ l.length ∧ l.length ≤ 400
 ·have e1 : wrap64 ((l.length : Int) - 1) = ((l.length - 1 : Nat) : Int) := by rw [w64 (by omega) (by omega)]; omega
  have hr : rd_T118 l ((l.length - 1 : Nat) : Int) = l[l.length - 1]'(by omega) := rd_nat118 l _ (by omega)
  by_cases h2 : (l[l.length - 1]'(by omega)).f0 = 8
  ·obtain ⟨b, hb, hbi⟩ := chkI_l0 l h1.2 l.length 0 (by omega)
   refine ⟨b, fun k hk => ?_, ?_⟩
   ·obtain ⟨k, rfl⟩ : ∃ m, k = m + 1 := ⟨k - 1, by omega⟩
    unfold impl_CheckProgram.f
    rw [inI]
    simp only [Option.bind_some, decide_eq_true_eq, e1]
    rw [if_pos (by omega), if_pos (by omega), if_pos (by omega), hr, h2]
    simp only [impl_CheckProgram.j0]
    exact hb k (by omega)
   ·rw [hbi]
    exact ⟨fun h => ⟨h1, fun _ => h2, fun j hj => h j hj (by omega)⟩, fun h j hj _ => h.2.2 j hj⟩
  ·refine ⟨false, fun k hk => ?_, ⟨(fun h => by cases h), fun h => absurd (h.2.1 (by omega)) h2⟩⟩
   obtain ⟨k, rfl⟩ : ∃ m, k = m + 1 := ⟨k - 1, by omega⟩
   unfold impl_CheckProgram.f
   rw [inI]
   simp only [Option.bind_some, decide_eq_true_eq, e1]
   rw [if_pos (by omega), if_pos (by omega), if_pos (by omega), hr]
   have h3 : ((l[l.length - 1]'(by omega)).f0 != 8) = true := by simpa using h2
   rw [h3]
   rfl
 ·refine ⟨false, fun k hk => ?_, ⟨(fun h => by cases h), fun h => absurd h.1 h1⟩⟩
  obtain ⟨k, rfl⟩ : ∃ m, k = m + 1 := ⟨k - 1, by omega⟩
  unfold impl_CheckProgram.f
  rw [inI]
  simp only [Option.bind_some, decide_eq_true_eq]
  rw [if_neg (by omega)]
  rfl
/-- The same, as the reference asks it. -/
def AtS (l : List S118) (j : Nat) (h : j < l.length) : Prop := InsP l[j].f0 l[j].f1 l[j].f2 l[j].f3 ∧ (l[j].f0 = 8 ∨ (j : Int) + 1 + (if l[j].f0 = 7 then l[j].f1 else if l[j].f2 > l[j].f3 then l[j].f2 else l[j].f3) < l.length)
theorem l07 (a b c d : Int) : spec_l07Far.f a b c d = some (if a = 7 then b else if c > d then c else d) := by
 unfold spec_l07Far.f
 split
 ·rfl
 ·split <;> rfl
theorem chkS_l0 (l : List S118) (h0 : 0 < l.length) (hn : l.length ≤ 400) : ∀ (d i : Nat), i + d = l.length → ∃ b, (∀ k, d + 3 ≤ k → spec_CheckProgram.l0 k l (i : Int) = some b) ∧ (b = true ↔ (∀ j (h : j < l.length), i ≤ j → AtS l j h) ∧ (l[l.length - 1]'(by omega)).f0 = 8)
 | 0, i, hi => by
  have e1 : wrap64 ((l.length : Int) - 1) = ((l.length - 1 : Nat) : Int) := by rw [w64 (by omega) (by omega)]; omega
  have hr : rd_T118 l ((l.length - 1 : Nat) : Int) = l[l.length - 1]'(by omega) := rd_nat118 l _ (by omega)
  refine ⟨(l[l.length - 1]'(by omega)).f0 == 8, fun k hk => ?_, ?_⟩
  ·obtain ⟨k, rfl⟩ : ∃ m, k = m + 1 := ⟨k - 1, by omega⟩
   simp only [spec_CheckProgram.l0]
   rw [if_neg (by omega), e1, if_pos (by omega), if_pos (by omega), hr]
  ·simp only [beq_iff_eq]
   exact ⟨fun h => ⟨fun j h1 h2 => by omega, h⟩, fun h => h.2⟩
 | d + 1, i, hi => by
  have hlt : i < l.length := by omega
  obtain ⟨b, hb, hbi⟩ := chkS_l0 l h0 hn d (i + 1) (by omega)
  have step : ∀ k, spec_CheckProgram.l0 (k + 1) l (i : Int) = ((spec_InsOk.f k l[i].f0 l[i].f1 l[i].f2 l[i].f3).bind fun t => if t = true then (if l[i].f0 = 8 then spec_CheckProgram.l0 k l ((i + 1 : Nat) : Int) else ((spec_l07Far.f l[i].f0 l[i].f1 l[i].f2 l[i].f3).bind fun u => if wrap64 (((i + 1 : Nat) : Int) + u) ≥ (l.length : Int) then some false else spec_CheckProgram.l0 k l ((i + 1 : Nat) : Int))) else some false) := by
   intro k
   simp only [spec_CheckProgram.l0]
   rw [if_pos (by omega), if_pos (by omega), rd_nat118 l i hlt, wsucc hlt (by omega)]
  by_cases hA : AtS l i hlt
  ·refine ⟨b, fun k hk => ?_, ?_⟩
   ·obtain ⟨k, rfl⟩ : ∃ m, k = m + 1 := ⟨k - 1, by omega⟩
    obtain ⟨h1, h2⟩ := hA
    rw [step, okS k (by omega), l07]
    simp only [Option.bind_some, decide_eq_true_eq]
    rw [if_pos h1]
    split
    ·exact hb k (by omega)
    ·rename_i h8
     have h3 := h2.resolve_left h8
     unfold InsP at h1
     rw [if_neg (by rw [w64 (by split <;> (try split) <;> omega) (by split <;> (try split) <;> omega)]; omega)]
     exact hb k (by omega)
   ·rw [hbi]
    refine ⟨fun h => ⟨fun j hj hij => ?_, h.2⟩, fun h => ⟨fun j hj hij => h.1 j hj (by omega), h.2⟩⟩
    rcases Nat.lt_or_ge i j with h3 | h3
    ·exact h.1 j hj (by omega)
    ·have : i = j := by omega
     subst this
     exact hA
  ·refine ⟨false, fun k hk => ?_, ⟨(fun h => by cases h), fun h => absurd (h.1 i hlt (Nat.le_refl _)) hA⟩⟩
   obtain ⟨k, rfl⟩ : ∃ m, k = m + 1 := ⟨k - 1, by omega⟩
   rw [step, okS k (by omega), l07]
   simp only [Option.bind_some, decide_eq_true_eq]
   split
   ·rename_i h1
    have h8 : ¬ l[i].f0 = 8 := fun h => hA ⟨h1, .inl h⟩
    have h3 : ¬ (i : Int) + 1 + (if l[i].f0 = 7 then l[i].f1 else if l[i].f2 > l[i].f3 then l[i].f2 else l[i].f3) < l.length := fun h => hA ⟨h1, .inr h⟩
    unfold InsP at h1
    rw [if_neg h8, if_pos (by rw [w64 (by split <;> (try split) <;> omega) (by split <;> (try split) <;> omega)]; omega)]
   ·rfl
theorem chkS (l : List S118) : ∃ b, (∀ k, l.length + 4 ≤ k → spec_CheckProgram.f k l = some b) ∧ (b = true ↔ ProgP l) := by
 by_cases h1 : 1 ≤ l.length ∧ l.length ≤ 400
 ·obtain ⟨b, hb, hbi⟩ := chkS_l0 l (by omega) h1.2 l.length 0 (by omega)
  refine ⟨b, fun k hk => ?_, ?_⟩
  ·unfold spec_CheckProgram.f
   rw [inS]
   simp only [Option.bind_some, decide_eq_true_eq]
   rw [if_pos (by omega)]
   exact hb k (by omega)
  ·rw [hbi]
   have key : (l[l.length - 1]'(by omega)).f0 = 8 → ∀ j (h : j < l.length), (AtS l j h ↔ AtP l j h) := by
    intro h8 j hj
    unfold AtS AtP farP
    refine and_congr_right fun hI => ?_
    have hl : j + 1 < l.length ∨ l[j].f0 = 8 := by
     rcases Nat.lt_or_ge (j + 1) l.length with h | h
     ·exact .inl h
     ·have : j = l.length - 1 := by omega
      subst this
      exact .inr h8
    unfold InsP at hI
    unfold mx
    constructor
    · intro h
      split
      · rcases h with h | h
        · omega
        · rw [if_neg (by omega)] at h
          split <;> (split at h <;> omega)
      · split
        · rename_i h7
          rcases h with h | h
          · omega
          · rw [if_pos h7] at h
            omega
        · omega
    · intro h
      rcases hl with hl | hl
      · by_cases h9 : l[j].f0 = 8
        · exact .inl h9
        · right
          by_cases h7 : l[j].f0 = 7
          · rw [if_pos h7]
            rw [if_neg (by omega), if_pos h7] at h
            omega
          · rw [if_neg h7]
            by_cases ha : 3 ≤ l[j].f0 ∧ l[j].f0 ≤ 6
            · rw [if_pos ha] at h
              split <;> (split at h <;> omega)
            · split <;> omega
      · exact .inl hl
   refine ⟨fun h => ⟨h1, fun _ => h.2, fun j hj => (key h.2 j hj).1 (h.1 j hj (by omega))⟩, fun h => ⟨fun j hj _ => (key (h.2.1 (by omega)) j hj).2 (h.2.2 j hj), h.2.1 (by omega)⟩⟩
 ·refine ⟨false, fun k hk => ?_, ⟨(fun h => by cases h), fun h => absurd h.1 h1⟩⟩
  unfold spec_CheckProgram.f
  rw [inS]
  simp only [Option.bind_some, decide_eq_true_eq]
  rw [if_neg (by omega)]
/-- Both come to the same. -/
theorem chk (l : List S118) : ∃ b, (∀ k, l.length + 4 ≤ k → spec_CheckProgram.f k l = some b) ∧ (∀ k, l.length + 4 ≤ k → impl_CheckProgram.f k l = some b) ∧ (b = true ↔ ProgP l) := by
 obtain ⟨b, hb, hbi⟩ := chkS l
 obtain ⟨c, hc, hci⟩ := chkI l
 have : c = b := by rw [Bool.eq_iff_iff, hbi, hci]
 subst this
 exact ⟨c, hb, hc, hbi⟩
theorem rd_nat38 (l : List S38) (i : Nat) (h : i < l.length) : rd_T38 l (i : Int) = l[i] := getD_lt _ h
theorem wideS (a b : Int) : spec_WideOk.f a b = some (decide ((0 ≤ a ∧ a ≤ 4294967295) ∧ (0 ≤ b ∧ b ≤ 4294967295))) := by
  unfold spec_WideOk.f
  simp only [halfS, Option.bind_some, decide_eq_true_eq]
  split
  · rename_i h
    exact congrArg some (by rw [Bool.eq_iff_iff]; simp [h])
  · rename_i h
    exact congrArg some (by rw [Bool.eq_iff_iff]; simp [h])
theorem wideI (a b : Int) : impl_WideOk.f a b = some (decide ((0 ≤ a ∧ a ≤ 4294967295) ∧ (0 ≤ b ∧ b ≤ 4294967295))) := wideS a b
/-- A right call: halves, and three words. -/
theorem call_l0 (a b : Int) (l : List S38) (hn : l.length ≤ 4611686018427387904) : ∀ (d i : Nat), i + d = l.length → ∃ r, (∀ k, d < k → spec_CallOk.l0 k (i : Int) a b l = some r) ∧ (∀ k, d < k → impl_CallOk.l0 k l (l.length : Int) (i : Int) a b l = some r) ∧ (r = true → l.length = 3)
  | 0, i, hi => by
    refine ⟨decide ((0 ≤ a ∧ a ≤ 4294967295) ∧ (0 ≤ b ∧ b ≤ 4294967295) ∧ l.length = 3), fun k hk => ?_, fun k hk => ?_, fun h => (by simp at h; omega)⟩
    · obtain ⟨k, rfl⟩ : ∃ m, k = m + 1 := ⟨k - 1, by omega⟩
      simp only [spec_CallOk.l0]
      rw [if_neg (by omega)]
      simp only [halfS, Option.bind_some, decide_eq_true_eq]
      repeat' split
      all_goals (refine congrArg some ?_; rw [Bool.eq_iff_iff]; simp only [Bool.false_eq_true, decide_eq_true_eq, false_iff, beq_iff_eq])
      all_goals omega
    · obtain ⟨k, rfl⟩ : ∃ m, k = m + 1 := ⟨k - 1, by omega⟩
      simp only [impl_CallOk.l0]
      rw [if_neg (by omega)]
      simp only [halfI, Option.bind_some, decide_eq_true_eq]
      repeat' split
      all_goals (refine congrArg some ?_; rw [Bool.eq_iff_iff]; simp only [Bool.false_eq_true, decide_eq_true_eq, false_iff, beq_iff_eq])
      all_goals omega
  | d + 1, i, hi => by
    have hlt : i < l.length := by omega
    obtain ⟨r, hS, hI, hr⟩ := call_l0 a b l hn d (i + 1) (by omega)
    by_cases hw : (0 ≤ l[i].f0 ∧ l[i].f0 ≤ 4294967295) ∧ (0 ≤ l[i].f1 ∧ l[i].f1 ≤ 4294967295)
    · refine ⟨r, fun k hk => ?_, fun k hk => ?_, hr⟩
      · obtain ⟨k, rfl⟩ : ∃ m, k = m + 1 := ⟨k - 1, by omega⟩
        simp only [spec_CallOk.l0]
        rw [if_pos (by omega), if_pos (by omega), rd_nat38 l i hlt, wsucc hlt (by omega), wideS]
        simp only [Option.bind_some, decide_eq_true_eq]
        rw [if_pos hw]
        exact hS k (by omega)
      · obtain ⟨k, rfl⟩ : ∃ m, k = m + 1 := ⟨k - 1, by omega⟩
        simp only [impl_CallOk.l0]
        rw [if_pos (by omega), if_pos (by omega), if_pos (by omega), rd_nat38 l i hlt, wsucc hlt (by omega), wideI]
        simp only [Option.bind_some, decide_eq_true_eq]
        rw [if_pos hw]
        exact hI k (by omega)
    · refine ⟨false, fun k hk => ?_, fun k hk => ?_, fun h => by cases h⟩
      · obtain ⟨k, rfl⟩ : ∃ m, k = m + 1 := ⟨k - 1, by omega⟩
        simp only [spec_CallOk.l0]
        rw [if_pos (by omega), if_pos (by omega), rd_nat38 l i hlt, wideS]
        simp only [Option.bind_some, decide_eq_true_eq]
        rw [if_neg hw]
      · obtain ⟨k, rfl⟩ : ∃ m, k = m + 1 := ⟨k - 1, by omega⟩
        simp only [impl_CallOk.l0]
        rw [if_pos (by omega), if_pos (by omega), if_pos (by omega), rd_nat38 l i hlt, wideI]
        simp only [Option.bind_some, decide_eq_true_eq]
        rw [if_neg hw]
theorem call (a b : Int) (l : List S38) (hn : l.length ≤ 4611686018427387904) : ∃ r, (∀ k, l.length < k → spec_CallOk.f k a b l = some r) ∧ (∀ k, l.length < k → impl_CallOk.f k a b l = some r) ∧ (r = true → l.length = 3) := call_l0 a b l hn l.length 0 (by omega)
theorem stk_step {l : List (List S118)} (hn : l.length ≤ 4611686018427387904) (i : Nat) (hi : i < l.length)
    (ih : ∃ r, Evt (fun k => spec_StackOk.l0 k l ((i + 1 : Nat) : Int)) r ∧ Evt (fun k => impl_StackOk.l0 k l l (l.length : Int) ((i + 1 : Nat) : Int)) r) :
    ∃ r, Evt (fun k => spec_StackOk.l0 k l (i : Int)) r ∧ Evt (fun k => impl_StackOk.l0 k l l (l.length : Int) (i : Int)) r := by
  obtain ⟨r, ⟨K1, h1⟩, ⟨K2, h2⟩⟩ := ih
  dsimp only at h1 h2
  obtain ⟨b, hS, hI, _⟩ := chk l[i]
  refine ⟨if b = true then r else false, Evt.succ ⟨K1 + l[i].length + 4, fun k hk => ?_⟩, Evt.succ ⟨K2 + l[i].length + 4, fun k hk => ?_⟩⟩
  · simp only [spec_StackOk.l0]
    rw [if_pos (by omega), if_pos (by omega), nrd_L4 l i hi, hS k (by omega), wsucc hi (by omega)]
    simp only [Option.bind_some]
    rw [h1 k (by omega)]
    split <;> rfl
  · simp only [impl_StackOk.l0]
    rw [if_pos (by omega), if_pos (by omega), if_pos (by omega), nrd_L4 l i hi, hI k (by omega), wsucc hi (by omega)]
    simp only [Option.bind_some]
    rw [h2 k (by omega)]
    split <;> rfl
theorem stk (l : List (List S118)) (hn : l.length ≤ 4611686018427387904) : ∃ r, Evt (fun k => spec_StackOk.f k l) r ∧ Evt (fun k => impl_StackOk.f k l) r :=
  down (T := fun i => ∃ r, Evt (fun k => spec_StackOk.l0 k l (i : Int)) r ∧ Evt (fun k => impl_StackOk.l0 k l l (l.length : Int) (i : Int)) r) (n := l.length)
    ⟨decide ((l.length : Int) ≤ 3), .succ (.const fun k => by simp only [spec_StackOk.l0]; rw [if_neg (by omega)]), .succ (.const fun k => by simp only [impl_StackOk.l0]; rw [if_neg (by omega)])⟩
    (fun i hi ih => stk_step hn i hi ih) l.length 0 (by omega)
/-- A field of a call: the same on both sides. -/
theorem field (a b : Int) (w : List S38) (hw : w.length ≤ 4611686018427387904) (x : Int) : ∃ p : Int × Bool, Evt (fun k => spec_FieldAt.f k a b w x) p ∧ Evt (fun k => impl_FieldAt.f k a b w x) p := by
  obtain ⟨q, g1, g2, g3⟩ := call a b w hw
  have no : ∀ p : Int × Bool, p = (0, false) → (∀ k, w.length < k → spec_FieldAt.f k a b w x = spec_FieldAt.j0 k x true a b w) → (∀ k, w.length < k → impl_FieldAt.f k a b w x = impl_FieldAt.j0 k x true a b w) → ∃ p : Int × Bool, Evt (fun k => spec_FieldAt.f k a b w x) p ∧ Evt (fun k => impl_FieldAt.f k a b w x) p := fun p _ hS hI => by
    refine ⟨(0, false), ⟨w.length + 1, fun k hk => (hS k (by omega)).trans ?_⟩, ⟨w.length + 1, fun k hk => (hI k (by omega)).trans ?_⟩⟩
    · obtain ⟨k, rfl⟩ : ∃ m, k = m + 1 := ⟨k - 1, by omega⟩
      simp only [spec_FieldAt.j0, if_true]
    · obtain ⟨k, rfl⟩ : ∃ m, k = m + 1 := ⟨k - 1, by omega⟩
      simp only [impl_FieldAt.j0, if_true]
  cases q with
  | false => exact no _ rfl (fun k hk => by simp only [spec_FieldAt.f, g1 k hk, Option.bind_some, Bool.false_eq_true, if_false]) (fun k hk => by simp only [impl_FieldAt.f, g2 k hk, Option.bind_some, Bool.false_eq_true, if_false])
  | true =>
    by_cases hx : 0 ≤ x ∧ x ≤ 7
    · have h3 := g3 rfl
      have dS : ∀ k, w.length < k → spec_FieldAt.f k a b w x = spec_FieldAt.j0 k x false a b w := fun k hk => by simp only [spec_FieldAt.f, g1 k hk, Option.bind_some, inS, if_true, decide_eq_true hx, Bool.not_true]
      have dI : ∀ k, w.length < k → impl_FieldAt.f k a b w x = impl_FieldAt.j0 k x false a b w := fun k hk => by simp only [impl_FieldAt.f, g2 k hk, Option.bind_some, inI, if_true, decide_eq_true hx, Bool.not_true]
      by_cases h0 : x = 0
      · refine ⟨(b, true), ⟨w.length + 1, fun k hk => (dS k (by omega)).trans ?_⟩, ⟨w.length + 1, fun k hk => (dI k (by omega)).trans ?_⟩⟩
        · obtain ⟨k, rfl⟩ : ∃ m, k = m + 1 := ⟨k - 1, by omega⟩
          simp only [spec_FieldAt.j0, Bool.false_eq_true, if_false, if_pos h0]
        · obtain ⟨k, rfl⟩ : ∃ m, k = m + 1 := ⟨k - 1, by omega⟩
          simp only [impl_FieldAt.j0, Bool.false_eq_true, if_false, if_pos h0]
      by_cases h1 : x = 1
      · refine ⟨(a, true), ⟨w.length + 1, fun k hk => (dS k (by omega)).trans ?_⟩, ⟨w.length + 1, fun k hk => (dI k (by omega)).trans ?_⟩⟩
        · obtain ⟨k, rfl⟩ : ∃ m, k = m + 1 := ⟨k - 1, by omega⟩
          simp only [spec_FieldAt.j0, Bool.false_eq_true, if_false, if_neg h0, if_pos h1]
        · obtain ⟨k, rfl⟩ : ∃ m, k = m + 1 := ⟨k - 1, by omega⟩
          simp only [impl_FieldAt.j0, Bool.false_eq_true, if_false, if_neg h0, if_pos h1]
      have e1 : wrap64 (x - 2) = x - 2 := w64 (by omega) (by omega)
      have e2 : (x - 2).tdiv 2 = (x - 2) / 2 := Int.tdiv_eq_ediv_of_nonneg (by omega)
      have e3 : x.tdiv 2 = x / 2 := Int.tdiv_eq_ediv_of_nonneg (by omega)
      have e4 : wrap64 ((x - 2) / 2) = x / 2 - 1 := by rw [w64 (by omega) (by omega)]; omega
      have e5 : wrap64 (x / 2) = x / 2 := w64 (by omega) (by omega)
      have e6 : wrap64 (x / 2 - 1) = x / 2 - 1 := w64 (by omega) (by omega)
      refine ⟨(if x.tmod 2 = 0 then (rd_T38 w (x / 2 - 1)).f1 else (rd_T38 w (x / 2 - 1)).f0, true), ⟨w.length + 1, fun k hk => (dS k (by omega)).trans ?_⟩, ⟨w.length + 1, fun k hk => (dI k (by omega)).trans ?_⟩⟩
      · obtain ⟨k, rfl⟩ : ∃ m, k = m + 1 := ⟨k - 1, by omega⟩
        simp only [spec_FieldAt.j0, Bool.false_eq_true, if_false, if_neg h0, if_neg h1, e1, e2, e4]
        rw [if_pos (by omega), if_pos (by omega)]
        split <;> rfl
      · obtain ⟨k, rfl⟩ : ∃ m, k = m + 1 := ⟨k - 1, by omega⟩
        simp only [impl_FieldAt.j0, Bool.false_eq_true, if_false, if_neg h0, if_neg h1, e3, e5, e6]
        have i1 : 0 ≤ x / 2 - 1 := by omega
        have i2 : x / 2 - 1 < (w.length : Int) := by omega
        simp only [if_pos i1, if_pos i2]
        split <;> rfl
    · exact no _ rfl (fun k hk => by simp only [spec_FieldAt.f, g1 k hk, Option.bind_some, inS, if_true, decide_eq_false hx, Bool.not_false]) (fun k hk => by simp only [impl_FieldAt.f, g2 k hk, Option.bind_some, inI, if_true, decide_eq_false hx, Bool.not_false])
theorem asksE (a b c d r : Int) : impl_Ins_holds.f a b c d r = spec_l07Asks.f a b c d r := rfl
theorem asksV (a b c d r : Int) : ∃ t, spec_l07Asks.f a b c d r = some t := by
  unfold spec_l07Asks.f
  repeat' split
  all_goals exact ⟨_, rfl⟩
theorem InsP.nn {a b c d : Int} (h : InsP a b c d) : (0 ≤ b ∧ b ≤ 4294967295) ∧ (0 ≤ c ∧ c ≤ 4294967295) ∧ 0 ≤ d ∧ d ≤ 4294967295 := by
  unfold InsP at h
  exact ⟨h.2.1, ⟨h.2.2.1.1, Int.le_trans h.2.2.1.2 (by decide)⟩, h.2.2.2.1.1, Int.le_trans h.2.2.2.1.2 (by decide)⟩
theorem InsP.kind {a b c d : Int} (h : InsP a b c d) : 1 ≤ a ∧ a ≤ 8 := by
  unfold InsP at h
  exact h.1
theorem mxle (c d : Int) : c ≤ mx c d ∧ d ≤ mx c d := by unfold mx; split <;> omega
theorem far_ask {x : S118} {i n : Int} (h : farP x i < n) (ha : 3 ≤ x.f0 ∧ x.f0 ≤ 6) : i + 1 + x.f2 < n ∧ i + 1 + x.f3 < n := by
  unfold farP at h
  rw [if_pos ha] at h
  have := mxle x.f2 x.f3
  omega
theorem far_jump {x : S118} {i n : Int} (h : farP x i < n) (ha : x.f0 = 7) : i + 1 + x.f1 < n := by
  unfold farP at h
  rw [if_neg (by omega), if_pos ha] at h
  exact h
theorem jmpS (i : Nat) (b : Int) (hi : i ≤ 400) (h0 : 0 ≤ b) (h1 : b ≤ 4294967295) : wrap64 (wrap64 ((i : Int) + b) + 1) = ((i + 1 + b.toNat : Nat) : Int) := by
  rw [w64 (x := (i : Int) + b) (by omega) (by omega), w64 (by omega) (by omega)]
  omega
theorem jmpI (i : Nat) (b : Int) (hi : i ≤ 400) (h0 : 0 ≤ b) (h1 : b ≤ 4294967295) : wrap64 (wrap64 ((i : Int) + 1) + b) = ((i + 1 + b.toNat : Nat) : Int) := by
  rw [w64 (x := (i : Int) + 1) (by omega) (by omega), w64 (by omega) (by omega)]
  omega
theorem run_l0 (l : List S118) (hp : ProgP l) (a b : Int) (w : List S38) (hw : w.length ≤ 4611686018427387904) : ∀ (d i : Nat) (g s t : Int), i < l.length → l.length - i ≤ d → ∃ v s' t', Evt (fun k => spec_Run.l0 k l g s (i : Int) a b w) (v, s') ∧ Evt (fun k => impl_Run.l0 k l g (i : Int) t a b w) (v, t') := by
  obtain ⟨⟨n1, n4⟩, h8, hA⟩ := hp
  intro d
  induction d with
  | zero => intro i g s t hi hd; omega
  | succ d ih =>
    intro i g s t hi hd
    obtain ⟨hI, hf⟩ := hA i hi
    have h8' : i + 1 = l.length → l[i].f0 = 8 := fun e => by
      have := h8 (by omega)
      have e2 : l.length - 1 = i := by omega
      simpa only [e2] using this
    have hn := hI.nn
    have ws := wsucc hi (show l.length ≤ 9223372036854775807 by omega)
    by_cases c8 : l[i].f0 = 8
    · refine ⟨l[i].f1, wrap64 (s + 1), t, .succ (.const fun k => ?_), .succ (.const fun k => ?_)⟩
      · simp only [spec_Run.l0]
        rw [if_pos (by omega), if_pos (by omega), rd_nat118 l i hi, if_neg (by rw [c8]; decide), if_neg (by rw [c8]; decide), if_neg (by rw [c8]; decide), if_pos c8]
      · simp only [impl_Run.l0]
        rw [if_pos (by omega), if_pos (by omega), rd_nat118 l i hi, if_neg (by rw [c8]; decide), if_neg (by rw [c8]; decide), if_neg (by rw [c8]; decide), if_pos c8]
    have hlt : i + 1 < l.length := by
      have : ¬ i + 1 = l.length := fun e => c8 (h8' e)
      omega
    clear h8'
    by_cases c1 : l[i].f0 = 1
    · obtain ⟨p, ⟨K3, h3⟩, ⟨K4, h4⟩⟩ := field a b w hw l[i].f1
      obtain ⟨v, s', t', ⟨K1, h1⟩, ⟨K2, h2⟩⟩ := ih (i + 1) p.1 (wrap64 (s + 1)) (wrap64 (t + 1)) hlt (by omega)
      dsimp only at h1 h2 h3 h4
      refine ⟨v, s', t', .succ ⟨K1 + K3, fun k hk => ?_⟩, .succ ⟨K2 + K4, fun k hk => ?_⟩⟩
      · simp only [spec_Run.l0]
        rw [if_pos (by omega), if_pos (by omega), rd_nat118 l i hi, if_pos c1, h3 k (by omega), ws]
        exact h1 k (by omega)
      · simp only [impl_Run.l0]
        rw [if_pos (by omega), if_pos (by omega), rd_nat118 l i hi, if_pos c1, h4 k (by omega), ws]
        exact h2 k (by omega)
    by_cases c2 : l[i].f0 = 2
    · obtain ⟨v, s', t', ⟨K1, h1⟩, ⟨K2, h2⟩⟩ := ih (i + 1) (Go.bits .and .i64 g l[i].f1) (wrap64 (s + 1)) (wrap64 (t + 1)) hlt (by omega)
      dsimp only at h1 h2
      refine ⟨v, s', t', .succ ⟨K1, fun k hk => ?_⟩, .succ ⟨K2, fun k hk => ?_⟩⟩
      · simp only [spec_Run.l0]
        rw [if_pos (by omega), if_pos (by omega), rd_nat118 l i hi, if_neg c1, if_pos c2, ws]
        exact h1 k hk
      · simp only [impl_Run.l0]
        rw [if_pos (by omega), if_pos (by omega), rd_nat118 l i hi, if_neg c1, if_pos c2, ws]
        exact h2 k hk
    by_cases c7 : l[i].f0 = 7
    · have hj := far_jump hf c7
      obtain ⟨v, s', t', ⟨K1, h1⟩, ⟨K2, h2⟩⟩ := ih (i + 1 + l[i].f1.toNat) g (wrap64 (s + 1)) (wrap64 (t + 1)) (by omega) (by omega)
      dsimp only at h1 h2
      refine ⟨v, s', t', .succ ⟨K1, fun k hk => ?_⟩, .succ ⟨K2, fun k hk => ?_⟩⟩
      · simp only [spec_Run.l0]
        rw [if_pos (by omega), if_pos (by omega), rd_nat118 l i hi, if_neg c1, if_neg c2, if_pos c7, jmpS i _ (by omega) hn.1.1 hn.1.2]
        exact h1 k hk
      · simp only [impl_Run.l0]
        rw [if_pos (by omega), if_pos (by omega), rd_nat118 l i hi, if_neg c1, if_neg c2, if_pos c7, jmpI i _ (by omega) hn.1.1 hn.1.2]
        exact h2 k hk
    have hk8 := hI.kind
    have hj := far_ask hf (by omega)
    obtain ⟨q, hq⟩ := asksV l[i].f0 l[i].f1 l[i].f2 l[i].f3 g
    cases q with
    | true =>
      obtain ⟨v, s', t', ⟨K1, h1⟩, ⟨K2, h2⟩⟩ := ih (i + 1 + l[i].f2.toNat) g (wrap64 (s + 1)) (wrap64 (t + 1)) (by omega) (by omega)
      dsimp only at h1 h2
      refine ⟨v, s', t', .succ ⟨K1, fun k hk => ?_⟩, .succ ⟨K2, fun k hk => ?_⟩⟩
      · simp only [spec_Run.l0]
        rw [if_pos (by omega), if_pos (by omega), rd_nat118 l i hi, if_neg c1, if_neg c2, if_neg c7, if_neg c8, hq]
        simp only [Option.bind_some, if_true]
        rw [jmpS i _ (by omega) hn.2.1.1 hn.2.1.2]
        exact h1 k hk
      · simp only [impl_Run.l0]
        rw [if_pos (by omega), if_pos (by omega), rd_nat118 l i hi, if_neg c1, if_neg c2, if_neg c7, if_neg c8, asksE, hq]
        simp only [Option.bind_some, if_true]
        rw [jmpI i _ (by omega) hn.2.1.1 hn.2.1.2]
        exact h2 k hk
    | false =>
      obtain ⟨v, s', t', ⟨K1, h1⟩, ⟨K2, h2⟩⟩ := ih (i + 1 + l[i].f3.toNat) g (wrap64 (s + 1)) (wrap64 (t + 1)) (by omega) (by omega)
      dsimp only at h1 h2
      refine ⟨v, s', t', .succ ⟨K1, fun k hk => ?_⟩, .succ ⟨K2, fun k hk => ?_⟩⟩
      · simp only [spec_Run.l0]
        rw [if_pos (by omega), if_pos (by omega), rd_nat118 l i hi, if_neg c1, if_neg c2, if_neg c7, if_neg c8, hq]
        simp only [Option.bind_some, Bool.false_eq_true, if_false]
        rw [jmpS i _ (by omega) hn.2.2.1 hn.2.2.2]
        exact h1 k hk
      · simp only [impl_Run.l0]
        rw [if_pos (by omega), if_pos (by omega), rd_nat118 l i hi, if_neg c1, if_neg c2, if_neg c7, if_neg c8, asksE, hq]
        simp only [Option.bind_some, Bool.false_eq_true, if_false]
        rw [jmpI i _ (by omega) hn.2.2.1 hn.2.2.2]
        exact h2 k hk
/-- What a program answers: the same on both sides. -/
theorem run (l : List S118) (a b : Int) (w : List S38) (hw : w.length ≤ 4611686018427387904) : ∃ v s t, Evt (fun k => spec_Run.f k l a b w) (v, s) ∧ Evt (fun k => impl_Run.f k l a b w) (v, t) := by
  obtain ⟨p, p1, p2, hp⟩ := chk l
  obtain ⟨q, g1, g2, _⟩ := call a b w hw
  have hS : ∀ k, l.length + 4 + w.length ≤ k → spec_Run.f k l a b w = spec_Run.j0 k l (!(p && q)) a b w := fun k hk => by
    simp only [spec_Run.f, p1 k (by omega), g1 k (by omega), Option.bind_some]
    cases p <;> cases q <;> simp
  have hI : ∀ k, l.length + 4 + w.length ≤ k → impl_Run.f k l a b w = impl_Run.j0 k l (!(p && q)) a b w := fun k hk => by
    simp only [impl_Run.f, p2 k (by omega), g2 k (by omega), Option.bind_some]
    cases p <;> cases q <;> simp
  cases hb : (p && q) with
  | false =>
    refine ⟨0, 0, 0, ⟨l.length + 4 + w.length, fun k hk => (hS k hk).trans ?_⟩, ⟨l.length + 4 + w.length, fun k hk => (hI k hk).trans ?_⟩⟩
    · obtain ⟨k, rfl⟩ : ∃ m, k = m + 1 := ⟨k - 1, by omega⟩
      rw [hb]
      simp only [spec_Run.j0, Bool.not_false, if_true]
    · obtain ⟨k, rfl⟩ : ∃ m, k = m + 1 := ⟨k - 1, by omega⟩
      rw [hb]
      simp only [impl_Run.j0, Bool.not_false, if_true]
  | true =>
    have hpp : p = true := by cases p <;> simp at hb ⊢
    have hP := hp.1 hpp
    obtain ⟨v, s, t, ⟨K1, h1⟩, ⟨K2, h2⟩⟩ := run_l0 l hP a b w hw l.length 0 0 0 1 hP.1.1 (by omega)
    dsimp only at h1 h2
    refine ⟨v, s, t, ⟨l.length + 5 + w.length + K1, fun k hk => (hS k (by omega)).trans ?_⟩, ⟨l.length + 5 + w.length + K2, fun k hk => (hI k (by omega)).trans ?_⟩⟩
    · obtain ⟨k, rfl⟩ : ∃ m, k = m + 1 := ⟨k - 1, by omega⟩
      rw [hb]
      simp only [spec_Run.j0, Bool.not_true, Bool.false_eq_true, if_false]
      exact h1 k (by omega)
    · obtain ⟨k, rfl⟩ : ∃ m, k = m + 1 := ⟨k - 1, by omega⟩
      rw [hb]
      simp only [impl_Run.j0, Bool.not_true, Bool.false_eq_true, if_false]
      exact h2 k (by omega)
theorem resI (a b : Int) : impl_ResultOf.f a b = spec_ResultOf.f a b := rfl
theorem res (a b : Int) : ∃ v, spec_ResultOf.f a b = some v := by
  simp only [spec_ResultOf.f, inS, Option.bind_some, decide_eq_true_eq]
  repeat' split
  all_goals exact ⟨_, rfl⟩
theorem res0 : impl_ResultOf.f 0 0 = some 0 := by
  have e : wrap64 (wrap64 (65536 * 0) + 0) = 0 := by rw [w64 (x := 65536 * 0) (by omega) (by omega), w64 (by omega) (by omega)]; rfl
  simp only [impl_ResultOf.f, inI, Option.bind_some, decide_eq_true_eq]
  rw [if_pos (by omega), if_pos (by omega), e]
theorem strI (a b : Int) : impl_Stricter.f a b = spec_Stricter.f a b := rfl
theorem actV (a : Int) : ∃ v, spec_ActionIn.f a = some v := by
  simp only [spec_ActionIn.f, inS, Option.bind_some, decide_eq_true_eq]
  split
  all_goals exact ⟨_, rfl⟩
theorem strV (a b : Int) : ∃ v, spec_Stricter.f a b = some v := by
  obtain ⟨u, hu⟩ := actV a
  obtain ⟨v, hv⟩ := actV b
  simp only [spec_Stricter.f, hu, hv, Option.bind_some]
  split
  all_goals exact ⟨_, rfl⟩
theorem rst_l0 (l : List (List S118)) (hn : l.length ≤ 4611686018427387904) (a b : Int) (w : List S38) (hw : w.length ≤ 4611686018427387904) : ∀ g : Int, ∃ r, Evt (fun k => spec_RunStack.l0 k l g ((0 : Nat) : Int) a b w) r ∧ Evt (fun k => impl_RunStack.l0 k g l (l.length : Int) ((0 : Nat) : Int) a b w) r := by
  refine down (T := fun i => ∀ g : Int, ∃ r, Evt (fun k => spec_RunStack.l0 k l g (i : Int) a b w) r ∧ Evt (fun k => impl_RunStack.l0 k g l (l.length : Int) (i : Int) a b w) r) (n := l.length) ?_ ?_ l.length 0 (by omega)
  · intro g
    refine ⟨g, .succ (.const fun k => ?_), .succ (.const fun k => ?_)⟩
    · simp only [spec_RunStack.l0]
      rw [if_neg (by omega)]
    · simp only [impl_RunStack.l0]
      rw [if_neg (by omega)]
  · intro i hi ih g
    obtain ⟨v, s, t, ⟨K1, h1⟩, ⟨K2, h2⟩⟩ := run l[i] a b w hw
    obtain ⟨u, hu⟩ := strV v g
    obtain ⟨r, ⟨K3, h3⟩, ⟨K4, h4⟩⟩ := ih u
    dsimp only at h1 h2 h3 h4
    refine ⟨r, .succ ⟨K1 + K3, fun k hk => ?_⟩, .succ ⟨K2 + K4, fun k hk => ?_⟩⟩
    · simp only [spec_RunStack.l0]
      rw [if_pos (by omega), if_pos (by omega), nrd_L4 l i hi, h1 k (by omega)]
      simp only [Option.bind_some, hu]
      rw [wsucc hi (by omega)]
      exact h3 k (by omega)
    · simp only [impl_RunStack.l0]
      rw [if_pos (by omega), if_pos (by omega), if_pos (by omega), nrd_L4 l i hi, h2 k (by omega)]
      simp only [Option.bind_some, strI, hu]
      rw [wsucc hi (by omega)]
      exact h4 k (by omega)
theorem rst (l : List (List S118)) (hn : l.length ≤ 4611686018427387904) (a b : Int) (w : List S38) (hw : w.length ≤ 4611686018427387904) : ∃ r, Evt (fun k => spec_RunStack.f k l a b w) r ∧ Evt (fun k => impl_RunStack.f k l a b w) r := by
  obtain ⟨p, ⟨K1, p1⟩, ⟨K2, p2⟩⟩ := stk l hn
  obtain ⟨q, g1, g2, _⟩ := call a b w hw
  dsimp only at p1 p2
  have hS : ∀ k, K1 + w.length + 1 ≤ k → spec_RunStack.f k l a b w = spec_RunStack.j0 k l (!(p && q)) a b w := fun k hk => by
    simp only [spec_RunStack.f, p1 k (by omega), g1 k (by omega), Option.bind_some]
    cases p <;> cases q <;> simp
  have hI : ∀ k, K2 + w.length + 1 ≤ k → impl_RunStack.f k l a b w = impl_RunStack.j0 k l (!(p && q)) a b w := fun k hk => by
    simp only [impl_RunStack.f, p2 k (by omega), g2 k (by omega), Option.bind_some]
    cases p <;> cases q <;> simp
  cases hb : (p && q) with
  | false =>
    refine ⟨0, ⟨K1 + w.length + 2, fun k hk => (hS k (by omega)).trans ?_⟩, ⟨K2 + w.length + 2, fun k hk => (hI k (by omega)).trans ?_⟩⟩
    · obtain ⟨k, rfl⟩ : ∃ m, k = m + 1 := ⟨k - 1, by omega⟩
      rw [hb]
      simp only [spec_RunStack.j0, Bool.not_false, if_true]
    · obtain ⟨k, rfl⟩ : ∃ m, k = m + 1 := ⟨k - 1, by omega⟩
      rw [hb]
      simp only [impl_RunStack.j0, Bool.not_false, if_true, res0, Option.bind_some]
  | true =>
    obtain ⟨v, hv⟩ := res 5 0
    obtain ⟨r, ⟨K3, h3⟩, ⟨K4, h4⟩⟩ := rst_l0 l hn a b w hw v
    dsimp only at h3 h4
    refine ⟨r, ⟨K1 + K3 + w.length + 2, fun k hk => (hS k (by omega)).trans ?_⟩, ⟨K2 + K4 + w.length + 2, fun k hk => (hI k (by omega)).trans ?_⟩⟩
    · obtain ⟨k, rfl⟩ : ∃ m, k = m + 1 := ⟨k - 1, by omega⟩
      rw [hb]
      simp only [spec_RunStack.j0, Bool.not_true, Bool.false_eq_true, if_false, hv, Option.bind_some]
      exact h3 k (by omega)
    · obtain ⟨k, rfl⟩ : ∃ m, k = m + 1 := ⟨k - 1, by omega⟩
      rw [hb]
      simp only [impl_RunStack.j0, Bool.not_true, Bool.false_eq_true, if_false, resI, hv, Option.bind_some]
      exact h4 k (by omega)
theorem main (l0 : List (List S120)) (a b : Int) (w : List S30) (hm : l0.length ≤ maxLen) (hx : ∀ x ∈ l0, ((∀ u ∈ x, ((Lit.int .i64 u.f0).wf = true ∧ (Lit.int .i64 u.f1).wf = true ∧ (Lit.int .i64 u.f2).wf = true ∧ (Lit.int .i64 u.f3).wf = true)) ∧ x.length ≤ maxLen)) (hw : ((∀ u ∈ w, ((Lit.int .i64 u.f0).wf = true ∧ (Lit.int .i64 u.f1).wf = true)) ∧ w.length ≤ maxLen)) : ∃ k, laws_FnExactRunStack.f k l0 a b w = some true := by
  obtain ⟨s, hs, hB, K1, h1⟩ := Elaws_szInsSS l0 1048576 (by omega) (by omega) hm hx
  dsimp only at h1
  by_cases hn : s < 0
  · exact ⟨K1, by simp only [laws_FnExactRunStack.f, h1 K1 (Nat.le_refl _), Option.bind_some, if_pos hn]⟩
  obtain ⟨hl, hB⟩ := hB (by omega)
  obtain ⟨s2, hs2, hB2, K2, h2⟩ := Elaws_szCall a b w s (by omega) (by omega) hw
  dsimp only at h2
  by_cases hn2 : s2 < 0
  · exact ⟨K1 + K2, by simp only [laws_FnExactRunStack.f, h1 (K1 + K2) (by omega), h2 (K1 + K2) (by omega), Option.bind_some, if_neg hn, if_pos hn2]⟩
  have bw := hB2 (by omega)
  have lw : (w.map conv30).length = w.length := List.length_map _
  obtain ⟨K3, h3⟩ := Elaws_toInsSS l0 hl hB
  obtain ⟨K4, h4⟩ := Elaws_toCall a b w bw
  obtain ⟨r, ⟨K5, h5⟩, ⟨K6, h6⟩⟩ := rst (l0.map (fun y => y.map conv120)) (by rw [List.length_map]; omega) a b (w.map conv30) (by omega)
  obtain ⟨K7, h7⟩ := Elaws_eqInsSS (l0.map (fun y => y.map conv120)) (by rw [List.length_map]; omega) (by simp only [List.mem_map]; rintro y ⟨z, hz, rfl⟩; rw [List.length_map]; have := hB z hz; omega)
  obtain ⟨K8, h8⟩ := Elaws_eqCall a b (w.map conv30) (by omega)
  dsimp only at h3 h4 h5 h6 h7 h8
  have hk : ∀ j, j ≤ K1 + K2 + K3 + K4 + K5 + K6 + K7 + K8 → j ≤ K1 + K2 + K3 + K4 + K5 + K6 + K7 + K8 := fun _ h => h
  refine ⟨K1 + K2 + K3 + K4 + K5 + K6 + K7 + K8, ?_⟩
  simp only [laws_FnExactRunStack.f, h1 _ (hk K1 (by omega)), h2 _ (hk K2 (by omega)), h3 _ (hk K3 (by omega)), h4 _ (hk K4 (by omega)), h5 _ (hk K5 (by omega)), h6 _ (hk K6 (by omega)), h7 _ (hk K7 (by omega)), h8 _ (hk K8 (by omega)), Option.bind_some, if_neg hn, if_neg hn2, if_true]
end Go.Proofs.Ytiinjipfhmgheaa.PFnExactRunStack
