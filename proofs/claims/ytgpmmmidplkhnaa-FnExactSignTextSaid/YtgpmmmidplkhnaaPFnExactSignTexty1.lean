import Derived.Test.YtgpmmmidplkhnaaPFnExactSignTexty0
namespace Go.Proofs.Ytgpmmmidplkhnaa.PFnExactSignText
open Go.RowKit Go.Proofs.YtgpmmmidplkhnaaW.PrintWords Go.Proofs.YtgpmmmidplkhnaaW.PrintLast Go.Proofs.YtgpmmmidplkhnaaW.PrintMore Go.Proofs.YtgpmmmidplkhnaaW.Z
attribute [local go_sem] max2_int min2_int max_two min_two max_three min_three max_four min_four
set_option linter.unusedVariables false
set_option linter.unusedSimpArgs false
def laws_szSign.f (a0_0 : Int) (a0_1 : ByteArray) (a0_2 : Int) (a1 : Int) : Option (Int) := if (wrap64 (a1 - (a0_1.size : Int))) < 0 then (some (-1)) else (some (wrap64 (a1 - (a0_1.size : Int))))
set_option maxHeartbeats 8000000 in
set_option maxRecDepth 100000 in
theorem laws_szSign.calls (a0_0 : Int) (a0_1 : ByteArray) (a0_2 : Int) (a1 : Int) (r : Int) (w : World) (h : laws_szSign.f a0_0 a0_1 a0_2 a1 = some r) :
 Calls Try.prog 25 #[.agg #[.int .i64 a0_0, .string a0_1, .int .i64 a0_2], .int .i64 a1] w fun e w' => e = .returned (.int .i64 r) ∧ Below w.heap.size w w' := by
 have hu58 := Try.underlying58;have HB := Aside0.mk (Below.refl w.heap.size w);have H : (if (wrap64 (a1 - (a0_1.size : Int))) < 0 then (some (-1)) else (some (wrap64 (a1 - (a0_1.size : Int))))) = some r := h;clear h;by_cases c3 : (wrap64 (a1 - (a0_1.size : Int))) < 0
 ·rw [if_pos c3] at H;have c3b0 := decide_eq_true c3;clear c3;obtain rfl := Option.some.inj H;go_enter Try.func25, Try.ntmps25
  go_wp2_with (first|((with_reducible refine gN 2 ?_);refine boxZ 2 #[.int .i64 a0_0, .string a0_1, .int .i64 a0_2] 58 ?_;intro gb101 hg w4 hbox hb;have BK101 := Aside0.mk (hbox);have GW101 := gS hg;have GE101 := gS hg;replace HB := sB hb;clear hb hbox hg;obtain ⟨hcz5_0, hcz5_1, hcz5_2, hfz5_0, hfz5_1, hfz5_2⟩ := cz3 BK101))
  go_ret;exact ⟨rE, cB⟩
 ·rw [if_neg c3] at H;have c3b0 := decide_eq_false c3;clear c3;obtain rfl := Option.some.inj H;go_enter Try.func25, Try.ntmps25
  go_wp2_with (first|((with_reducible refine gN 2 ?_);refine boxZ 2 #[.int .i64 a0_0, .string a0_1, .int .i64 a0_2] 58 ?_;intro gb101 hg w6 hbox hb;have BK101 := Aside0.mk (hbox);have GW101 := gS hg;have GE101 := gS hg;replace HB := sB hb;clear hb hbox hg;obtain ⟨hcz7_0, hcz7_1, hcz7_2, hfz7_0, hfz7_1, hfz7_2⟩ := cz3 BK101))
  go_ret;exact ⟨rE, cB⟩
def laws_szSignS.l0 : Nat → List (S58) → Int → Int → Option (Int)
  | 0, _, _, _ => none
  | k + 1, x0, x1, x5 => if x5 < (x0.length : Int) then (if 0 ≤ x5 then ((laws_szSign.f ((rd_T58 x0 x5).f0) ((rd_T58 x0 x5).f1) ((rd_T58 x0 x5).f2) x1).bind fun t103 => (if t103 < 0 then (some (-1)) else (laws_szSignS.l0 k x0 t103 (wrap64 (x5 + 1))))) else (none)) else (some x1)
def laws_szSignS.f (k : Nat) (l0 : List (S58)) (a1 : Int) : Option (Int) := if (wrap64 (a1 - (l0.length : Int))) < 0 then (some (-1)) else (laws_szSignS.l0 k l0 (wrap64 (a1 - (l0.length : Int))) 0)
set_option maxHeartbeats 8000000 in
set_option maxRecDepth 100000 in
theorem laws_szSignS.calls (k : Nat) (A0 : Option Addr) (c0 : Nat) (l0 : List (S58)) (a1 : Int) (r : Int) (w : World) (hr0 : Kd.C k58 w A0 l0.length l0) (hc0 : l0.length ≤ c0) (h : laws_szSignS.f k l0 a1 = some r) :
 Calls Try.prog 7 #[.slice A0 l0.length c0, .int .i64 a1] w fun e w' => e = .returned (.int .i64 r) ∧ Below w.heap.size w w' := by
 have hu58 := Try.underlying58;have HR0 := Aside0.mk hr0;have HC0 := Aside0.mk hc0;clear hr0 hc0;have HB := Aside0.mk (Below.refl w.heap.size w);have H : (if (wrap64 (a1 - (l0.length : Int))) < 0 then (some (-1)) else (laws_szSignS.l0 k l0 (wrap64 (a1 - (l0.length : Int))) 0)) = some r := h;clear h;by_cases c3 : (wrap64 (a1 - (l0.length : Int))) < 0
 ·rw [if_pos c3] at H;have c3b0 := decide_eq_true c3;clear c3;obtain rfl := Option.some.inj H;go_enter Try.func7, Try.ntmps7;go_wp2;go_ret;exact ⟨rE, cB⟩
 ·rw [if_neg c3] at H;have c3b0 := decide_eq_false c3;clear c3;have H' := Aside0.mk H;clear H;go_enter Try.func7, Try.ntmps7;go_wp2
  go_loopg [1, 5] k (fun kq v1 v5 w' => ∃ (x1_1 : Int) (x5_1 : Int), v1 = .int .i64 x1_1 ∧ v5 = .int .i64 x5_1 ∧ Aside0 (laws_szSignS.l0 kq l0 x1_1 x5_1 = some r) ∧ Aside0 (kq ≤ k) ∧ Aside0 (Below w.heap.size w w'))
  case atStart => exact ⟨(wrap64 (a1 - (l0.length : Int))), (0), rS, rS, H', ⟨Nat.le_refl _⟩, ⟨cB⟩⟩
  case round =>
   clear H';(try clear c3);(try clear c3b0);obtain ⟨x1_1, x5_1, rfl, rfl, HA, HK1, HB⟩ := hrel
   cases gk with
   | zero => exact absurd HA.out (by simp [laws_szSignS.l0])
   | succ k1 =>
    have H := HA.out;clear HA;simp only [laws_szSignS.l0] at H;by_cases c4 : x5_1 < (l0.length : Int)
    ·rw [if_pos c4] at H;have c4b0 := decide_eq_true c4;clear c4;replace H := gD H;obtain ⟨c5b0, H⟩ := H;replace H := bE H;obtain ⟨t103, A6, H⟩ := H;by_cases c7 : t103 < 0
     ·rw [if_pos c7] at H;have c7b0 := decide_eq_true c7;clear c7;obtain rfl := Option.some.inj H;have p102 : 0 ≤ (x5_1 : Int) := dA;have q102 : x5_1 < (l0.length : Int) := dA;obtain ⟨ad102, e102, hx102_0, hx102_1, hx102_2⟩ := at_T58 HR0.out x5_1 p102 q102;cases e102;replace hx102_0 := (bc HB hx102_0 :);replace hx102_1 := (bc HB hx102_1 :);replace hx102_2 := (bc HB hx102_2 :);replace p102 := eq_true p102;replace q102 := eq_true q102
      go_wp2_with (first|((with_reducible refine gF 25 ?_);refine goZ (some 23) Try.func25 #[.agg #[.int .i64 ((rd_T58 l0 x5_1).f0), .string ((rd_T58 l0 x5_1).f1), .int .i64 ((rd_T58 l0 x5_1).f2)], .int .i64 x1_1] ?_;(with_reducible refine (laws_szSign.calls ((rd_T58 l0 x5_1).f0) ((rd_T58 l0 x5_1).f1) ((rd_T58 l0 x5_1).f2) x1_1 t103 _ A6.out).mono ?_);rintro e w8 ⟨rfl, hb⟩;refine ⟨_, rfl, ?_⟩;replace HB := sB hb;(try clear hb)))
      go_ret;exact ⟨rE, cB⟩
     ·rw [if_neg c7] at H;have c7b0 := decide_eq_false c7;clear c7;have H' := Aside0.mk H;clear H;have p102 : 0 ≤ (x5_1 : Int) := dA;have q102 : x5_1 < (l0.length : Int) := dA;obtain ⟨ad102, e102, hx102_0, hx102_1, hx102_2⟩ := at_T58 HR0.out x5_1 p102 q102;cases e102;replace hx102_0 := (bc HB hx102_0 :);replace hx102_1 := (bc HB hx102_1 :);replace hx102_2 := (bc HB hx102_2 :);replace p102 := eq_true p102;replace q102 := eq_true q102
      go_wp2_with (first|((with_reducible refine gF 25 ?_);refine goZ (some 23) Try.func25 #[.agg #[.int .i64 ((rd_T58 l0 x5_1).f0), .string ((rd_T58 l0 x5_1).f1), .int .i64 ((rd_T58 l0 x5_1).f2)], .int .i64 x1_1] ?_;(with_reducible refine (laws_szSign.calls ((rd_T58 l0 x5_1).f0) ((rd_T58 l0 x5_1).f1) ((rd_T58 l0 x5_1).f2) x1_1 t103 _ A6.out).mono ?_);rintro e w9 ⟨rfl, hb⟩;refine ⟨_, rfl, ?_⟩;replace HB := sB hb;(try clear hb)))
      go_roundg k1
      case measure => have := HK1.out; omega
      case rel => exact ⟨(t103), (wrap64 (x5_1 + 1)), rS, rS, H', ⟨by have := HK1.out; omega⟩, ⟨cB⟩⟩
    ·rw [if_neg c4] at H;have c4b0 := decide_eq_false c4;clear c4;obtain rfl := Option.some.inj H;go_wp2;go_ret;exact ⟨rE, cB⟩
mutual
def spec_l08Figures.j0 : Nat → Int → Option (ByteArray)
  | 0, _ => none
  | k + 1, x0 => spec_l08Figures.l0 k x0 (⟨#[]⟩ : ByteArray)
def spec_l08Figures.l0 : Nat → Int → ByteArray → Option (ByteArray)
  | 0, _, _ => none
  | k + 1, x0, x3 => if x0 > 9 then ((some (([(wrap64 (48 + (Int.tmod x0 10))) % 256] : List Int) : List Int)).bind fun y104 => (if (strOfNums y104).size + x3.size ≤ 9223372036854775807 then (spec_l08Figures.l0 k (wrap64 (Int.tdiv x0 10)) ((strOfNums y104) ++ x3)) else (none))) else ((some (([(wrap64 (48 + x0)) % 256] : List Int) : List Int)).bind fun y107 => (if (strOfNums y107).size + x3.size ≤ 9223372036854775807 then (some ((strOfNums y107) ++ x3)) else (none)))
end
def spec_l08Figures.f (k : Nat) (a0 : Int) : Option (ByteArray) := if a0 < 0 then (spec_l08Figures.j0 k 0) else (spec_l08Figures.j0 k a0)
set_option maxHeartbeats 8000000 in
set_option maxRecDepth 100000 in
theorem spec_l08Figures.calls (k : Nat) (a0 : Int) (r : ByteArray) (w : World) (h : spec_l08Figures.f k a0 = some r) :
 Calls Try.prog 26 #[.int .i64 a0] w fun e w' => e = .returned (.string r) ∧ Below w.heap.size w w' := by
 have HB := Aside0.mk (Below.refl w.heap.size w);have H : (if a0 < 0 then (spec_l08Figures.j0 k 0) else (spec_l08Figures.j0 k a0)) = some r := h;clear h;have HC2 := Aside0.mk H;clear H;go_enter Try.func26, Try.ntmps26
 go_upto_if 5 with (fail)
 go_cut [0] (fun v0 wc => ∃ (kq : Nat) (x0_1 : Int), v0 = .int .i64 x0_1 ∧ Aside0 (spec_l08Figures.j0 kq x0_1 = some r) ∧ Aside0 (kq ≤ k) ∧ Aside0 (Below w.heap.size w wc))
 case first =>
  have H := HC2.out;clear HC2;by_cases c3 : a0 < 0
  ·rw [if_pos c3] at H;have c3b0 := decide_eq_true c3;clear c3
   (first | rw [c3b0] | (simp only [i64_w, i32_w]; rw [c3b0]) | skip)
   have H' := Aside0.mk H;clear H;go_wp2;go_meet
   case rel => exact ⟨_, (0), rS, H', ⟨oL⟩, ⟨cB⟩⟩
  ·rw [if_neg c3] at H;have c3b0 := decide_eq_false c3;clear c3
   (first | rw [c3b0] | (simp only [i64_w, i32_w]; rw [c3b0]) | skip)
   have H' := Aside0.mk H;clear H;go_wp2;go_meet
   case rel => exact ⟨_, (a0), rS, H', ⟨oL⟩, ⟨cB⟩⟩
 case rest =>
  clear HC2;(try clear c3);(try clear c3b0);obtain ⟨kq, x0_1, rfl, HA, HJ1, HB⟩ := hcut
  cases kq with
  | zero => exact absurd HA.out (by simp [spec_l08Figures.j0])
  | succ kj1 =>
   have H := HA.out;clear HA;simp only [spec_l08Figures.j0] at H;have H' := Aside0.mk H;clear H;go_wp2
   go_loopg [0, 3] kj1 (fun kq v0 v3 w' => ∃ (x0_2 : Int) (x3_2 : ByteArray), v0 = .int .i64 x0_2 ∧ v3 = .string x3_2 ∧ Aside0 (spec_l08Figures.l0 kq x0_2 x3_2 = some r) ∧ Aside0 (kq ≤ kj1) ∧ Aside0 (Below w.heap.size w w'))
   case atStart => exact ⟨(x0_1), ((⟨#[]⟩ : ByteArray)), rS, rS, H', ⟨Nat.le_refl _⟩, ⟨cB⟩⟩
   case round =>
    clear H';(try clear c3);(try clear c3b0);obtain ⟨x0_2, x3_2, rfl, rfl, HA, HK2, HB⟩ := hrel
    cases gk with
    | zero => exact absurd HA.out (by simp [spec_l08Figures.l0])
    | succ k2 =>
     have H := HA.out;clear HA;simp only [spec_l08Figures.l0] at H;by_cases c4 : x0_2 > 9
     ·rw [if_pos c4] at H;have c4b0 : decide (9 < x0_2) = true := decide_eq_true c4;clear c4;replace H := nE H;obtain ⟨y104, Ny104, H⟩ := H;replace H := gC H;obtain ⟨c5, H⟩ := H;have c5b0 := eq_true c5;have c5b1 : decide ((strOfNums y104).size + x3_2.size ≤ 9223372036854775807) = true := decide_eq_true c5
      try have c5b2 : (9223372036854775807 < (strOfNums y104).size + x3_2.size) = False := eq_false (Nat.not_lt.2 c5)
      have H' := Aside0.mk H;clear H
      go_wp2_with (first|((with_reducible refine gN 12 ?_);refine Kd.R_lit (Kd.int .u8) _ 5 ?hg (N := 12) ?hd (xs := ([(wrap64 (48 + (Int.tmod x0_2 10))) % 256] : List Int)) (inner := [.int .u8 ((wrap64 (48 + (Int.tmod x0_2 10))) % 256)]) (ok := fun _ => True) (okp := fun _ => True) ?hr ?hp (fun _ hk => hk) trivial (Below.refl _ _) (Nat.le_refl _) (by simp) ?_;(case hd => rfl);(case hg => rfl);(case hr => exact rG);(case hp => exact (Reps.one (show Kd.M (Kd.int .u8) _ _ _ ((wrap64 (48 + (Int.tmod x0_2 10))) % 256) [.int .u8 ((wrap64 (48 + (Int.tmod x0_2 10))) % 256)] from rfl) (Reps.none _ _)));intro v105 w6 ho7 hb hg_ hnew_;clear hg_ hnew_;(first | rw [← Ny104.out] at ho7 | (simp only [Int.reduceToNat] at ho7; rw [← Ny104.out] at ho7));have HO106 := Aside0.mk (Kd.R_lower ho7 (below_size cB));replace HB := sB hb;clear hb ho7;have hcv8 := own_string (P := Try.prog) Try.underlying65 Try.underlying5 Try.underlying9 (Kd.own_of_R HO106.out)))
      go_roundg k2
      case measure => have := HJ1.out; have := HK2.out; omega
      case rel => exact ⟨(wrap64 (Int.tdiv x0_2 10)), ((strOfNums y104) ++ x3_2), rS, rS, H', ⟨by have := HJ1.out; have := HK2.out; omega⟩, ⟨cB⟩⟩
     ·rw [if_neg c4] at H;have c4b0 : decide (9 < x0_2) = false := decide_eq_false c4;clear c4;replace H := nE H;obtain ⟨y107, Ny107, H⟩ := H;replace H := gC H;obtain ⟨c9, H⟩ := H;have c9b0 := eq_true c9;have c9b1 : decide ((strOfNums y107).size + x3_2.size ≤ 9223372036854775807) = true := decide_eq_true c9
      try have c9b2 : (9223372036854775807 < (strOfNums y107).size + x3_2.size) = False := eq_false (Nat.not_lt.2 c9)
      obtain rfl := Option.some.inj H
      go_wp2_with (first|((with_reducible refine gN 21 ?_);refine Kd.R_lit (Kd.int .u8) _ 5 ?hg (N := 21) ?hd (xs := ([(wrap64 (48 + x0_2)) % 256] : List Int)) (inner := [.int .u8 ((wrap64 (48 + x0_2)) % 256)]) (ok := fun _ => True) (okp := fun _ => True) ?hr ?hp (fun _ hk => hk) trivial (Below.refl _ _) (Nat.le_refl _) (by simp) ?_;(case hd => rfl);(case hg => rfl);(case hr => exact rG);(case hp => exact (Reps.one (show Kd.M (Kd.int .u8) _ _ _ ((wrap64 (48 + x0_2)) % 256) [.int .u8 ((wrap64 (48 + x0_2)) % 256)] from rfl) (Reps.none _ _)));intro v108 w10 ho11 hb hg_ hnew_;clear hg_ hnew_;(first | rw [← Ny107.out] at ho11 | (simp only [Int.reduceToNat] at ho11; rw [← Ny107.out] at ho11));have HO109 := Aside0.mk (Kd.R_lower ho11 (below_size cB));replace HB := sB hb;clear hb ho11;have hcv12 := own_string (P := Try.prog) Try.underlying65 Try.underlying5 Try.underlying9 (Kd.own_of_R HO109.out)))
      go_ret;exact ⟨rE, cB⟩
def spec_SignText.l0 : Nat → List (S59) → ByteArray → Int → Option (ByteArray)
  | 0, _, _, _ => none
  | k + 1, x0, x3, x4 => if x4 < (x0.length : Int) then (if x4 > 0 then (if x3.size + 1 ≤ 9223372036854775807 then (if 0 ≤ x4 then (if ((rd_T59 x0 x4).f0) = 2 then ((spec_l08Figures.f k ((rd_T59 x0 x4).f2)).bind fun t112 => (if (x3 ++ (⟨#[32]⟩ : ByteArray)).size + t112.size ≤ 9223372036854775807 then (spec_SignText.l0 k x0 ((x3 ++ (⟨#[32]⟩ : ByteArray)) ++ t112) (wrap64 (x4 + 1))) else (none))) else (if (x3 ++ (⟨#[32]⟩ : ByteArray)).size + ((rd_T59 x0 x4).f1).size ≤ 9223372036854775807 then (spec_SignText.l0 k x0 ((x3 ++ (⟨#[32]⟩ : ByteArray)) ++ ((rd_T59 x0 x4).f1)) (wrap64 (x4 + 1))) else (none))) else (none)) else (none)) else (if 0 ≤ x4 then (if ((rd_T59 x0 x4).f0) = 2 then ((spec_l08Figures.f k ((rd_T59 x0 x4).f2)).bind fun t116 => (if x3.size + t116.size ≤ 9223372036854775807 then (spec_SignText.l0 k x0 (x3 ++ t116) (wrap64 (x4 + 1))) else (none))) else (if x3.size + ((rd_T59 x0 x4).f1).size ≤ 9223372036854775807 then (spec_SignText.l0 k x0 (x3 ++ ((rd_T59 x0 x4).f1)) (wrap64 (x4 + 1))) else (none))) else (none))) else (some x3)
def spec_SignText.f (k : Nat) (l0 : List (S59)) : Option (ByteArray) := spec_SignText.l0 k l0 (⟨#[]⟩ : ByteArray) 0
set_option maxHeartbeats 8000000 in
set_option maxRecDepth 100000 in
theorem spec_SignText.calls (k : Nat) (A0 : Option Addr) (c0 : Nat) (l0 : List (S59)) (r : ByteArray) (w : World) (hr0 : Kd.C k59 w A0 l0.length l0) (hc0 : l0.length ≤ c0) (h : spec_SignText.f k l0 = some r) :
 Calls Try.prog 8 #[.slice A0 l0.length c0] w fun e w' => e = .returned (.string r) ∧ Below w.heap.size w w' := by
 have HR0 := Aside0.mk hr0;have HC0 := Aside0.mk hc0;clear hr0 hc0;have HB := Aside0.mk (Below.refl w.heap.size w);have H : (spec_SignText.l0 k l0 (⟨#[]⟩ : ByteArray) 0) = some r := h;clear h;have H' := Aside0.mk H;clear H;go_enter Try.func8, Try.ntmps8;go_wp2
 go_loopg [3, 4] k (fun kq v3 v4 w' => ∃ (x3_1 : ByteArray) (x4_1 : Int), v3 = .string x3_1 ∧ v4 = .int .i64 x4_1 ∧ Aside0 (spec_SignText.l0 kq l0 x3_1 x4_1 = some r) ∧ Aside0 (kq ≤ k) ∧ Aside0 (Below w.heap.size w w'))
 case atStart => exact ⟨((⟨#[]⟩ : ByteArray)), (0), rS, rS, H', ⟨Nat.le_refl _⟩, ⟨cB⟩⟩
 case round =>
  clear H';obtain ⟨x3_1, x4_1, rfl, rfl, HA, HK1, HB⟩ := hrel
  cases gk with
  | zero => exact absurd HA.out (by simp [spec_SignText.l0])
  | succ k1 =>
   have H := HA.out;clear HA;simp only [spec_SignText.l0] at H;by_cases c2 : x4_1 < (l0.length : Int)
   ·rw [if_pos c2] at H;have c2b0 := decide_eq_true c2;clear c2;by_cases c3 : x4_1 > 0
    ·rw [if_pos c3] at H;have c3b0 : decide (0 < x4_1) = true := decide_eq_true c3;clear c3;replace H := gC H;obtain ⟨c4, H⟩ := H;have c4b0 := eq_true c4;have c4b1 : decide (x3_1.size + 1 ≤ 9223372036854775807) = true := decide_eq_true c4
     try have c4b2 : (9223372036854775807 < x3_1.size + 1) = False := eq_false (Nat.not_lt.2 c4)
     replace H := gD H;obtain ⟨c5b0, H⟩ := H;by_cases c6 : ((rd_T59 l0 x4_1).f0) = 2
     ·rw [if_pos c6] at H;obtain ⟨c6b0, c6b1⟩ := eT c6;clear c6;replace H := bE H;obtain ⟨t112, A7, H⟩ := H;replace H := gC H;obtain ⟨c8, H⟩ := H;have c8b0 := eq_true c8;have c8b1 : decide ((x3_1 ++ (⟨#[32]⟩ : ByteArray)).size + t112.size ≤ 9223372036854775807) = true := decide_eq_true c8
      try have c8b2 : (9223372036854775807 < (x3_1 ++ (⟨#[32]⟩ : ByteArray)).size + t112.size) = False := eq_false (Nat.not_lt.2 c8)
      try have c8b3 : (9223372036854775807 < x3_1.size + 1 + t112.size) = False := eq_false (Nat.not_lt.2 (by have h_ := c8; simp only [ByteArray.size_append] at h_; exact h_))
      have H' := Aside0.mk H;clear H;have p110 : 0 ≤ (x4_1 : Int) := dA;have q110 : x4_1 < (l0.length : Int) := dA;obtain ⟨ad110, e110, hx110_0, hx110_1, hx110_2⟩ := at_T59 HR0.out x4_1 p110 q110;cases e110;replace hx110_0 := (bc HB hx110_0 :);replace hx110_1 := (bc HB hx110_1 :);replace hx110_2 := (bc HB hx110_2 :);replace p110 := eq_true p110;replace q110 := eq_true q110;have p111 : 0 ≤ (x4_1 : Int) := dA;have q111 : x4_1 < (l0.length : Int) := dA;obtain ⟨ad111, e111, hx111_0, hx111_1, hx111_2⟩ := at_T59 HR0.out x4_1 p111 q111
      obtain rfl : ad110 = ad111 := (by injection e111)
      replace hx111_0 := (bc HB hx111_0 :);replace hx111_1 := (bc HB hx111_1 :);replace hx111_2 := (bc HB hx111_2 :);replace p111 := eq_true p111;replace q111 := eq_true q111
      go_wp2_with (first|((with_reducible refine gF 26 ?_);refine goZ (some 27) Try.func26 #[.int .i64 ((rd_T59 l0 x4_1).f2)] ?_;(with_reducible refine (spec_l08Figures.calls k1 ((rd_T59 l0 x4_1).f2) t112 _ A7.out).mono ?_);rintro e w9 ⟨rfl, hb⟩;refine ⟨_, rfl, ?_⟩;replace HB := sB hb;(try clear hb)))
      go_roundg k1
      case measure => have := HK1.out; omega
      case rel => exact ⟨((x3_1 ++ (⟨#[32]⟩ : ByteArray)) ++ t112), (wrap64 (x4_1 + 1)), rS, rS, H', ⟨by have := HK1.out; omega⟩, ⟨cB⟩⟩
     ·rw [if_neg c6] at H;obtain ⟨c6b0, c6b1⟩ := eF c6;replace H := gC H;obtain ⟨c10, H⟩ := H;have c10b0 := eq_true c10;have c10b1 : decide ((x3_1 ++ (⟨#[32]⟩ : ByteArray)).size + ((rd_T59 l0 x4_1).f1).size ≤ 9223372036854775807) = true := decide_eq_true c10
      try have c10b2 : (9223372036854775807 < (x3_1 ++ (⟨#[32]⟩ : ByteArray)).size + ((rd_T59 l0 x4_1).f1).size) = False := eq_false (Nat.not_lt.2 c10)
      try have c10b3 : (9223372036854775807 < x3_1.size + 1 + ((rd_T59 l0 x4_1).f1).size) = False := eq_false (Nat.not_lt.2 (by have h_ := c10; simp only [ByteArray.size_append] at h_; exact h_))
      have H' := Aside0.mk H;clear H;have p110 : 0 ≤ (x4_1 : Int) := dA;have q110 : x4_1 < (l0.length : Int) := dA;obtain ⟨ad110, e110, hx110_0, hx110_1, hx110_2⟩ := at_T59 HR0.out x4_1 p110 q110;cases e110;replace hx110_0 := (bc HB hx110_0 :);replace hx110_1 := (bc HB hx110_1 :);replace hx110_2 := (bc HB hx110_2 :);replace p110 := eq_true p110;replace q110 := eq_true q110;have p113 : 0 ≤ (x4_1 : Int) := dA;have q113 : x4_1 < (l0.length : Int) := dA;obtain ⟨ad113, e113, hx113_0, hx113_1, hx113_2⟩ := at_T59 HR0.out x4_1 p113 q113
      obtain rfl : ad110 = ad113 := (by injection e113)
      replace hx113_0 := (bc HB hx113_0 :);replace hx113_1 := (bc HB hx113_1 :);replace hx113_2 := (bc HB hx113_2 :);replace p113 := eq_true p113;replace q113 := eq_true q113;go_wp2;go_roundg k1
      case measure => have := HK1.out; omega
      case rel => exact ⟨((x3_1 ++ (⟨#[32]⟩ : ByteArray)) ++ ((rd_T59 l0 x4_1).f1)), (wrap64 (x4_1 + 1)), rS, rS, H', ⟨by have := HK1.out; omega⟩, ⟨cB⟩⟩
    ·rw [if_neg c3] at H;have c3b0 : decide (0 < x4_1) = false := decide_eq_false c3;clear c3;replace H := gD H;obtain ⟨c11b0, H⟩ := H;by_cases c12 : ((rd_T59 l0 x4_1).f0) = 2
     ·rw [if_pos c12] at H;obtain ⟨c12b0, c12b1⟩ := eT c12;clear c12;replace H := bE H;obtain ⟨t116, A13, H⟩ := H;replace H := gC H;obtain ⟨c14, H⟩ := H;have c14b0 := eq_true c14;have c14b1 : decide (x3_1.size + t116.size ≤ 9223372036854775807) = true := decide_eq_true c14
      try have c14b2 : (9223372036854775807 < x3_1.size + t116.size) = False := eq_false (Nat.not_lt.2 c14)
      have H' := Aside0.mk H;clear H;have p114 : 0 ≤ (x4_1 : Int) := dA;have q114 : x4_1 < (l0.length : Int) := dA;obtain ⟨ad114, e114, hx114_0, hx114_1, hx114_2⟩ := at_T59 HR0.out x4_1 p114 q114;cases e114;replace hx114_0 := (bc HB hx114_0 :);replace hx114_1 := (bc HB hx114_1 :);replace hx114_2 := (bc HB hx114_2 :);replace p114 := eq_true p114;replace q114 := eq_true q114;have p115 : 0 ≤ (x4_1 : Int) := dA;have q115 : x4_1 < (l0.length : Int) := dA;obtain ⟨ad115, e115, hx115_0, hx115_1, hx115_2⟩ := at_T59 HR0.out x4_1 p115 q115
      obtain rfl : ad114 = ad115 := (by injection e115)
      replace hx115_0 := (bc HB hx115_0 :);replace hx115_1 := (bc HB hx115_1 :);replace hx115_2 := (bc HB hx115_2 :);replace p115 := eq_true p115;replace q115 := eq_true q115
      go_wp2_with (first|((with_reducible refine gF 26 ?_);refine goZ (some 27) Try.func26 #[.int .i64 ((rd_T59 l0 x4_1).f2)] ?_;(with_reducible refine (spec_l08Figures.calls k1 ((rd_T59 l0 x4_1).f2) t116 _ A13.out).mono ?_);rintro e w15 ⟨rfl, hb⟩;refine ⟨_, rfl, ?_⟩;replace HB := sB hb;(try clear hb)))
      go_roundg k1
      case measure => have := HK1.out; omega
      case rel => exact ⟨(x3_1 ++ t116), (wrap64 (x4_1 + 1)), rS, rS, H', ⟨by have := HK1.out; omega⟩, ⟨cB⟩⟩
     ·rw [if_neg c12] at H;obtain ⟨c12b0, c12b1⟩ := eF c12;replace H := gC H;obtain ⟨c16, H⟩ := H;have c16b0 := eq_true c16;have c16b1 : decide (x3_1.size + ((rd_T59 l0 x4_1).f1).size ≤ 9223372036854775807) = true := decide_eq_true c16
      try have c16b2 : (9223372036854775807 < x3_1.size + ((rd_T59 l0 x4_1).f1).size) = False := eq_false (Nat.not_lt.2 c16)
      have H' := Aside0.mk H;clear H;have p114 : 0 ≤ (x4_1 : Int) := dA;have q114 : x4_1 < (l0.length : Int) := dA;obtain ⟨ad114, e114, hx114_0, hx114_1, hx114_2⟩ := at_T59 HR0.out x4_1 p114 q114;cases e114;replace hx114_0 := (bc HB hx114_0 :);replace hx114_1 := (bc HB hx114_1 :);replace hx114_2 := (bc HB hx114_2 :);replace p114 := eq_true p114;replace q114 := eq_true q114;have p117 : 0 ≤ (x4_1 : Int) := dA;have q117 : x4_1 < (l0.length : Int) := dA;obtain ⟨ad117, e117, hx117_0, hx117_1, hx117_2⟩ := at_T59 HR0.out x4_1 p117 q117
      obtain rfl : ad114 = ad117 := (by injection e117)
      replace hx117_0 := (bc HB hx117_0 :);replace hx117_1 := (bc HB hx117_1 :);replace hx117_2 := (bc HB hx117_2 :);replace p117 := eq_true p117;replace q117 := eq_true q117;go_wp2;go_roundg k1
      case measure => have := HK1.out; omega
      case rel => exact ⟨(x3_1 ++ ((rd_T59 l0 x4_1).f1)), (wrap64 (x4_1 + 1)), rS, rS, H', ⟨by have := HK1.out; omega⟩, ⟨cB⟩⟩
   ·rw [if_neg c2] at H;have c2b0 := decide_eq_false c2;clear c2;obtain rfl := Option.some.inj H;go_wp2;go_ret;exact ⟨rE, cB⟩
def laws_toSign.f (a0_0 : Int) (a0_1 : ByteArray) (a0_2 : Int) : Option (Int × ByteArray × Int) := some (a0_0, a0_1, a0_2)
set_option maxHeartbeats 8000000 in
set_option maxRecDepth 100000 in
theorem laws_toSign.calls (a0_0 : Int) (a0_1 : ByteArray) (a0_2 : Int) (r1 : Int) (r2 : ByteArray) (r3 : Int) (w : World) (h : laws_toSign.f a0_0 a0_1 a0_2 = some (r1, r2, r3)) :
 Calls Try.prog 27 #[.agg #[.int .i64 a0_0, .string a0_1, .int .i64 a0_2]] w fun e w' => e = .returned (.agg #[.int .i64 r1, .string r2, .int .i64 r3]) ∧ Below w.heap.size w w' := by
 have hu58 := Try.underlying58;have hu59 := Try.underlying59;have HB := Aside0.mk (Below.refl w.heap.size w);have H : (some (a0_0, a0_1, a0_2)) = some (r1, r2, r3) := h;clear h;simp only [Option.some.injEq, Prod.mk.injEq] at H;obtain ⟨rfl, rfl, rfl⟩ := H;go_enter Try.func27, Try.ntmps27
 go_wp2_with (first|((with_reducible refine gN 1 ?_);refine boxZ 1 #[.int .i64 a0_0, .string a0_1, .int .i64 a0_2] 58 ?_;intro gb118 hg w2 hbox hb;have BK118 := Aside0.mk (hbox);have GW118 := gS hg;have GE118 := gS hg;replace HB := sB hb;clear hb hbox hg)|((with_reducible refine gN 2 ?_);refine boxZ 2 #[.int .i64 0, .string (⟨#[]⟩ : ByteArray), .int .i64 0] 59 ?_;intro gb119 hg w3 hbox hb;have BK119 := Aside0.mk (hbox);have GW119 := gS hg;have GE119 := gS hg;replace HB := sB hb;have NB118_119 := nL hg BK118;have NB119_118 := nG hg BK118;replace BK118 := kB BK118 hb;clear hb hbox hg)|((with_reducible refine gN 3 ?_);refine boxZ 3 #[.int .i64 0, .string (⟨#[]⟩ : ByteArray), .int .i64 0] 59 ?_;intro gb120 hg w4 hbox hb;have BK120 := Aside0.mk (hbox);have GW120 := gS hg;have GE120 := gS hg;replace HB := sB hb;have NB118_120 := nL hg BK118;have NB120_118 := nG hg BK118;replace BK118 := kB BK118 hb;have NB119_120 := Aside0.mk ((by rw [hg]; exact Nat.ne_of_lt (blk_lt (g := gb119) (o := .cells #[.int .i64 0, .string (⟨#[]⟩ : ByteArray), .int .i64 0] 59 (0, 0)) (mK BK119)) : gb119 ≠ gb120));have NB120_119 := Aside0.mk ((by rw [hg]; exact Nat.ne_of_gt (blk_lt (g := gb119) (o := .cells #[.int .i64 0, .string (⟨#[]⟩ : ByteArray), .int .i64 0] 59 (0, 0)) (mK BK119)) : gb120 ≠ gb119));replace BK119 := kB BK119 hb;clear hb hbox hg;have hnb5 := NB118_119.out;have hnc5 := NB119_118.out;have hnb6 := NB118_120.out;have hnc6 := NB120_118.out;obtain ⟨hcz7_0, hcz7_1, hcz7_2, hfz7_0, hfz7_1, hfz7_2⟩ := cz3 BK118;have hnb8 := NB120_119.out;have hnc8 := NB119_120.out;obtain ⟨hcz9_0, hcz9_1, hcz9_2, hfz9_0, hfz9_1, hfz9_2⟩ := cz3 BK120;obtain ⟨hcz10_0, hcz10_1, hcz10_2, hfz10_0, hfz10_1, hfz10_2⟩ := cz3 BK119))
 refine bodyPost_ret (results_cell_row rfl _ _ gb119 59 #[.int .i64 a0_0, .string a0_1, .int .i64 a0_2] (0, 0) _ rfl (by (with_reducible repeat (first | refine blk_drewN ?_ _ | refine blk_drew ?_ | refine blk_alloc ?_ _)); refine blk_put (cs := #[.int .i64 a0_0, .string a0_1, .int .i64 0]) ?_ 2 _ rfl; (with_reducible repeat (first | refine blk_drewN ?_ _ | refine blk_drew ?_ | refine blk_alloc ?_ _)); refine blk_put (cs := #[.int .i64 a0_0, .string (⟨#[]⟩ : ByteArray), .int .i64 0]) ?_ 1 _ rfl; (with_reducible repeat (first | refine blk_drewN ?_ _ | refine blk_drew ?_ | refine blk_alloc ?_ _)); refine blk_put (cs := #[.int .i64 0, .string (⟨#[]⟩ : ByteArray), .int .i64 0]) ?_ 0 _ rfl; (with_reducible repeat (first | refine blk_drewN ?_ _ | refine blk_drew ?_ | refine blk_alloc ?_ _)); refine blk_far ?_ NB119_120.out _; (with_reducible repeat (first | refine blk_drewN ?_ _ | refine blk_drew ?_ | refine blk_alloc ?_ _)); refine blk_far ?_ NB119_120.out _; (with_reducible repeat (first | refine blk_drewN ?_ _ | refine blk_drew ?_ | refine blk_alloc ?_ _)); refine blk_far ?_ NB119_120.out _; (with_reducible repeat (first | refine blk_drewN ?_ _ | refine blk_drew ?_ | refine blk_alloc ?_ _)); exact BK119.out) Try.underlying59 rfl (by kernel_rfl)) rfl ?_
 exact ⟨rE, cB⟩
def laws_toSignS.l0 : Nat → List (S58) → List (S59) → Int → Option ((List (S59)))
  | 0, _, _, _ => none
  | k + 1, x0, x3, x4 => if x4 < (x0.length : Int) then (if 0 ≤ x4 then ((laws_toSign.f ((rd_T58 x0 x4).f0) ((rd_T58 x0 x4).f1) ((rd_T58 x0 x4).f2)).bind fun bt125 => (if x4 < (x3.length : Int) then (laws_toSignS.l0 k x0 (x3.set (x4 : Int).toNat (⟨bt125.1, bt125.2.1, bt125.2.2⟩ : S59)) (wrap64 (x4 + 1))) else (none))) else (none)) else (some x3)
def laws_toSignS.f (k : Nat) (l0 : List (S58)) : Option ((List (S59))) := if 0 ≤ (l0.length : Int) then (if ((l0.length : Int) : Int).toNat ≤ 8796093022208 then (laws_toSignS.l0 k l0 (List.replicate ((l0.length : Int) : Int).toNat z59) 0) else (none)) else (none)
set_option maxHeartbeats 8000000 in
set_option maxRecDepth 100000 in
theorem laws_toSignS.calls (k : Nat) (A0 : Option Addr) (c0 : Nat) (l0 : List (S58)) (r : List (S59)) (w : World) (hr0 : Kd.C k58 w A0 l0.length l0) (hc0 : l0.length ≤ c0) (h : laws_toSignS.f k l0 = some r) :
 Calls Try.prog 9 #[.slice A0 l0.length c0] w fun e w' => ∃ v0_ : Value, e = .returned (v0_) ∧ Kd.R k59 59 w' w.heap.size (fun _ => True) v0_ r ∧ Below w.heap.size w w' := by
 have hu58 := Try.underlying58;have hu59 := Try.underlying59;have HR0 := Aside0.mk hr0;have HC0 := Aside0.mk hc0;clear hr0 hc0;have HB := Aside0.mk (Below.refl w.heap.size w);have H : (if 0 ≤ (l0.length : Int) then (if ((l0.length : Int) : Int).toNat ≤ 8796093022208 then (laws_toSignS.l0 k l0 (List.replicate ((l0.length : Int) : Int).toNat z59) 0) else (none)) else (none)) = some r := h;clear h;replace H := gC H;obtain ⟨c2, H⟩ := H;have c2b0 := eq_true c2;have c2b1 : decide (0 ≤ (l0.length : Int)) = true := decide_eq_true c2;clear c2;replace H := gC H;obtain ⟨c3, H⟩ := H;have c3b0 := eq_true c3;have c3b1 : decide (((l0.length : Int) : Int).toNat ≤ 8796093022208) = true := decide_eq_true c3;clear c3;obtain ⟨y121, Ny121⟩ : ∃ y_ : List (S59), Aside0 (y_ = (List.replicate ((l0.length : Int) : Int).toNat z59)) := ⟨_, ⟨rfl⟩⟩;rw [← Ny121.out] at H;have H' := Aside0.mk H;clear H;go_enter Try.func9, Try.ntmps9
 go_wp2_with (first|((with_reducible refine gN 7 ?_);refine Kd.R_make k59 _ 59 rfl (N := 7) rfl 25 _ _ rfl (l0.length : Int) rfl rfl Try.underlying25 (.agg #[(.int .i64 0), (.string ⟨#[]⟩), (.int .i64 0)]) 32 info59 rfl (by decide) (by omega) z59 (ok := fun _ => True) (okp := fun _ => True) (k59_mkM _ _ _ z59 ) (fun _ hk => hk) trivial (dA) (Nat.le_trans (Nat.mul_le_mul_right _ (dA : (l0.length : Int).toNat ≤ 8796093022208)) (by omega)) (Below.refl _ _) (Nat.le_refl _) ?_;intro v122 w4 ho5 hb hg_ hnew_;clear hg_ hnew_;(first | rw [← Ny121.out] at ho5 | (simp only [Int.reduceToNat] at ho5; rw [← Ny121.out] at ho5));have HO123 := Aside0.mk (Kd.R_lower ho5 (below_size cB));replace HB := sB hb;clear hb ho5))
 go_loopg [4] k (fun kq v4 w' => ∃ (x3_1 : List (S59)) (x4_1 : Int), v4 = .int .i64 x4_1 ∧ Aside0 (laws_toSignS.l0 kq l0 x3_1 x4_1 = some r) ∧ Aside0 (kq ≤ k) ∧ Aside0 (Kd.R k59 59 w' w.heap.size (fun _ => True) v122 x3_1) ∧ Aside0 (Below w.heap.size w w'))
 case atStart => exact ⟨(y121), (0), rS, H', ⟨Nat.le_refl _⟩, ⟨mR HO123⟩, ⟨cB⟩⟩
 case round =>
  clear H';(try clear c2);(try clear c2b0);(try clear c2b1);(try clear c3);(try clear c3b0);(try clear c3b1);obtain ⟨x3_1, x4_1, rfl, HA, HK1, HO_3, HB⟩ := hrel
  cases gk with
  | zero => exact absurd HA.out (by simp [laws_toSignS.l0])
  | succ k1 =>
   have H := HA.out;clear HA;simp only [laws_toSignS.l0] at H;by_cases c6 : x4_1 < (l0.length : Int)
   ·rw [if_pos c6] at H;have c6b0 := decide_eq_true c6;clear c6;replace H := gD H;obtain ⟨c7b0, H⟩ := H;replace H := bE H;obtain ⟨⟨t125, t126, t127⟩, A8, H⟩ := H;(try dsimp only at H);replace H := gD H;obtain ⟨c9b0, H⟩ := H;obtain ⟨y128, Ny128⟩ : ∃ y_ : List (S59), Aside0 (y_ = (x3_1.set (x4_1 : Int).toNat (⟨t125, t126, t127⟩ : S59))) := ⟨_, ⟨rfl⟩⟩;rw [← Ny128.out] at H;have H' := Aside0.mk H;clear H;have p124 : 0 ≤ (x4_1 : Int) := dA;have q124 : x4_1 < (l0.length : Int) := dA;obtain ⟨ad124, e124, hx124_0, hx124_1, hx124_2⟩ := at_T58 HR0.out x4_1 p124 q124;cases e124;replace hx124_0 := (bc HB hx124_0 :);replace hx124_1 := (bc HB hx124_1 :);replace hx124_2 := (bc HB hx124_2 :);replace p124 := eq_true p124;replace q124 := eq_true q124
    go_wp2_with (first|((with_reducible refine gF 27 ?_);refine goZ (some 20) Try.func27 #[.agg #[.int .i64 ((rd_T58 l0 x4_1).f0), .string ((rd_T58 l0 x4_1).f1), .int .i64 ((rd_T58 l0 x4_1).f2)]] ?_;(with_reducible refine (laws_toSign.calls ((rd_T58 l0 x4_1).f0) ((rd_T58 l0 x4_1).f1) ((rd_T58 l0 x4_1).f2) t125 t126 t127 _ A8.out).mono ?_);rintro e w11 ⟨rfl, hb⟩;refine ⟨_, rfl, ?_⟩;replace HO_3 := rB HO_3 hb;replace HB := sB hb;(try clear hb);have p10 : 0 ≤ (x4_1 : Int) := dA;have q10 : (x4_1 : Int) < ((x3_1.length : Int) : Int) := dA;obtain ⟨go10, co10, eo10, gb10, gl10, cl10, HG10⟩ := Kd.R_form HO_3.out (by omega);(first | cases eo10 | (injection eo10 with ea_ en_ ec_; (first | subst ea_ | (injection ea_ with ea_; subst ea_)); subst ec_; clear en_));have GB10 := Aside0.mk gb10;have GG10 := Aside0.mk HG10;clear gb10 gl10 HG10;obtain ⟨ce10, hcl10, hM10, hcc10, hfr10⟩ := Kd.R_elem HO_3.out z59 (x4_1 : Int) p10 q10;obtain rfl := k59_openM hM10;have hx10_0 : w11.cell? ⟨go10, (x4_1 : Int).toNat * 3, none⟩ = some (.int .i64 ((rd_T59 x3_1 x4_1).f0)) := hcc10 0 _ rfl;have hx10_1 : w11.cell? ⟨go10, (x4_1 : Int).toNat * 3 + 1, none⟩ = some (.string ((rd_T59 x3_1 x4_1).f1)) := hcc10 1 _ rfl;have hx10_2 : w11.cell? ⟨go10, (x4_1 : Int).toNat * 3 + 2, none⟩ = some (.int .i64 ((rd_T59 x3_1 x4_1).f2)) := hcc10 2 _ rfl;have hf10_0 : w11.frozen? ⟨go10, (x4_1 : Int).toNat * 3, none⟩ = false := hfr10 0;have hf10_1 : w11.frozen? ⟨go10, (x4_1 : Int).toNat * 3 + 1, none⟩ = false := hfr10 1;have hf10_2 : w11.frozen? ⟨go10, (x4_1 : Int).toNat * 3 + 2, none⟩ = false := hfr10 2;clear hcl10 hcc10 hfr10;(try clear hM10);replace p10 := eq_true p10;replace q10 := eq_true q10;have HX12 := Aside0.mk (show Kd.R k59 59 w11 w.heap.size (fun _ => True) (.slice (some ⟨go10, 0, none⟩) x3_1.length co10) x3_1 from (mR HO_3));obtain ⟨ce12, hcl12, hM12, hcc12, hfr12⟩ := Kd.R_elem HX12.out z59 (x4_1 : Int) (dA) (by have h_ : (x4_1 : Int) < ((x3_1.length : Int) : Int) := dA; first | exact h_ | (have e_ := (Kd.R_reads' HO_3.out).1; omega) | simpa using h_);obtain rfl := k59_openM hM12;have HP12 := Kd.R_seg HX12.out (x4_1 : Int) (dA) (by have h_ : (x4_1 : Int) < ((x3_1.length : Int) : Int) := dA; first | exact h_ | (have e_ := (Kd.R_reads' HO_3.out).1; omega) | simpa using h_) (seg := [.int .i64 t125, .string t126, .int .i64 t127]) (j := 0) hcl12 hcc12 (show 3 ≤ 3 from by decide) (x' := (⟨t125, t126, t127⟩ : S59)) (k59_mkM _ _ _ (⟨t125, t126, t127⟩ : S59) ) (fun _ hk => hk);have hx12_0 := hcc12 0 _ rfl;(try simp only [show (k59).sz = 3 from rfl, Nat.mul_one, Nat.add_zero] at hx12_0);have hf12_0 := hfr12 0;(try simp only [show (k59).sz = 3 from rfl, Nat.mul_one, Nat.add_zero] at hf12_0);have hx12_1 := hcc12 1 _ rfl;(try simp only [show (k59).sz = 3 from rfl, Nat.mul_one, Nat.add_zero] at hx12_1);have hf12_1 := hfr12 1;(try simp only [show (k59).sz = 3 from rfl, Nat.mul_one, Nat.add_zero] at hf12_1);have hx12_2 := hcc12 2 _ rfl;(try simp only [show (k59).sz = 3 from rfl, Nat.mul_one, Nat.add_zero] at hx12_2);have hf12_2 := hfr12 2;(try simp only [show (k59).sz = 3 from rfl, Nat.mul_one, Nat.add_zero] at hf12_2);clear hcl12 hcc12 hfr12;(try clear hM12))|((with_reducible refine gate_store (t := 59) (p := 21) rfl ?_);refine store_event (t := 59) (p := 21) (v := ?vo_w13) (w1 := (((w11.setCell ⟨go10, (x4_1 : Int).toNat * 3, none⟩ (.int .i64 t125)).setCell ⟨go10, (x4_1 : Int).toNat * 3 + 1, none⟩ (.string t126)).setCell ⟨go10, (x4_1 : Int).toNat * 3 + 2, none⟩ (.int .i64 t127))) ?hg ?ho ?hn ?hr ?_;(case ho => rfl);(case hg => rfl);(case hn => rfl);(case hr => exact rG);intro w13 hw;have hg : w11.grownBy w13 (some go10) := (by rw [hw]; exact HP12.2);have hp_ : Kd.R k59 59 w13 w.heap.size (fun _ => True) (.slice (some ⟨go10, 0, none⟩) x3_1.length co10) y128 := (by rw [hw, Ny128.out]; exact HP12.1);clear HP12;replace HO_3 := Aside0.mk (hp_);replace HB := Aside0.mk ((by rw [hw]; exact below_set (below_set (below_set (HB.out) GB10.out) GB10.out) GB10.out : Below w.heap.size w w13));clear hg hw hp_))
    go_roundg k1
    case measure => have := HK1.out; omega
    case rel => exact ⟨(y128), (wrap64 (x4_1 + 1)), rS, H', ⟨by have := HK1.out; omega⟩, ⟨mR HO_3⟩, ⟨cB⟩⟩
   ·rw [if_neg c6] at H;have c6b0 := decide_eq_false c6;clear c6;obtain rfl := Option.some.inj H;go_wp2;go_ret;exact ⟨_, rE, mR HO_3, cB⟩
def impl_Decimal.l0 : Nat → Int → ByteArray → Int → Option (ByteArray)
  | 0, _, _, _ => none
  | k + 1, x0, x3, x4 => if x4 = 0 then (if x0 < 0 then (if 1 + x3.size ≤ 9223372036854775807 then (some ((⟨#[45]⟩ : ByteArray) ++ x3)) else (none)) else (some x3)) else (if 0 ≤ (mx (Int.tmod x4 10) (wrap64 (-(Int.tmod x4 10)))) then (if (mx (Int.tmod x4 10) (wrap64 (-(Int.tmod x4 10)))) ≤ (wrap64 ((mx (Int.tmod x4 10) (wrap64 (-(Int.tmod x4 10)))) + 1)) then (if (wrap64 ((mx (Int.tmod x4 10) (wrap64 (-(Int.tmod x4 10)))) + 1)) ≤ 16 then (if ((⟨#[48, 49, 50, 51, 52, 53, 54, 55, 56, 57, 97, 98, 99, 100, 101, 102]⟩ : ByteArray).extract ((mx (Int.tmod x4 10) (wrap64 (-(Int.tmod x4 10)))) : Int).toNat ((wrap64 ((mx (Int.tmod x4 10) (wrap64 (-(Int.tmod x4 10)))) + 1)) : Int).toNat).size + x3.size ≤ 9223372036854775807 then (impl_Decimal.l0 k x0 (((⟨#[48, 49, 50, 51, 52, 53, 54, 55, 56, 57, 97, 98, 99, 100, 101, 102]⟩ : ByteArray).extract ((mx (Int.tmod x4 10) (wrap64 (-(Int.tmod x4 10)))) : Int).toNat ((wrap64 ((mx (Int.tmod x4 10) (wrap64 (-(Int.tmod x4 10)))) + 1)) : Int).toNat) ++ x3) (wrap64 (Int.tdiv x4 10))) else (none)) else (none)) else (none)) else (none))
def impl_Decimal.f (k : Nat) (a0 : Int) : Option (ByteArray) := if a0 = 0 then (some (⟨#[48]⟩ : ByteArray)) else (impl_Decimal.l0 k a0 (⟨#[]⟩ : ByteArray) a0)
set_option maxHeartbeats 8000000 in
set_option maxRecDepth 100000 in
theorem impl_Decimal.calls (k : Nat) (a0 : Int) (r : ByteArray) (w : World) (h : impl_Decimal.f k a0 = some r) :
 Calls Try.prog 28 #[.int .i64 a0] w fun e w' => e = .returned (.string r) ∧ Below w.heap.size w w' := by
 have HB := Aside0.mk (Below.refl w.heap.size w);have H : (if a0 = 0 then (some (⟨#[48]⟩ : ByteArray)) else (impl_Decimal.l0 k a0 (⟨#[]⟩ : ByteArray) a0)) = some r := h;clear h;by_cases c2 : a0 = 0
 ·rw [if_pos c2] at H;obtain ⟨c2b0, c2b1⟩ := eT c2;clear c2;obtain rfl := Option.some.inj H;go_enter Try.func28, Try.ntmps28;go_wp2;go_ret;exact ⟨rE, cB⟩
 ·rw [if_neg c2] at H;obtain ⟨c2b0, c2b1⟩ := eF c2;have H' := Aside0.mk H;clear H;go_enter Try.func28, Try.ntmps28;go_wp2
  go_loopg [3, 4] k (fun kq v3 v4 w' => ∃ (x3_1 : ByteArray) (x4_1 : Int), v3 = .string x3_1 ∧ v4 = .int .i64 x4_1 ∧ Aside0 (impl_Decimal.l0 kq a0 x3_1 x4_1 = some r) ∧ Aside0 (kq ≤ k) ∧ Aside0 (Below w.heap.size w w'))
  case atStart => exact ⟨((⟨#[]⟩ : ByteArray)), (a0), rS, rS, H', ⟨Nat.le_refl _⟩, ⟨cB⟩⟩
  case round =>
   clear H';(try clear c2);(try clear c2b0);(try clear c2b1);obtain ⟨x3_1, x4_1, rfl, rfl, HA, HK1, HB⟩ := hrel
   cases gk with
   | zero => exact absurd HA.out (by simp [impl_Decimal.l0])
   | succ k1 =>
    have H := HA.out;clear HA;simp only [impl_Decimal.l0] at H;by_cases c3 : x4_1 = 0
    ·rw [if_pos c3] at H;obtain ⟨c3b0, c3b1⟩ := eT c3;clear c3;by_cases c4 : a0 < 0
     ·rw [if_pos c4] at H;have c4b0 := decide_eq_true c4;clear c4;replace H := gC H;obtain ⟨c5, H⟩ := H;have c5b0 := eq_true c5;have c5b1 : decide (1 + x3_1.size ≤ 9223372036854775807) = true := decide_eq_true c5
      try have c5b2 : (9223372036854775807 < 1 + x3_1.size) = False := eq_false (Nat.not_lt.2 c5)
      obtain rfl := Option.some.inj H;go_wp2;go_ret;exact ⟨rE, cB⟩
     ·rw [if_neg c4] at H;have c4b0 := decide_eq_false c4;clear c4;obtain rfl := Option.some.inj H;go_wp2;go_ret;exact ⟨rE, cB⟩
    ·rw [if_neg c3] at H;obtain ⟨c3b0, c3b1⟩ := eF c3;obtain ⟨ji6, hji6⟩ : ∃ j_ : Int, (mx (Int.tmod x4_1 10) (wrap64 (-(Int.tmod x4_1 10)))) = j_ := ⟨_, rfl⟩
     (first|rw [hji6] at H|simp only [hji6] at H)
     have hji6_ : (if (Int.tmod x4_1 10) < (wrap64 (-(Int.tmod x4_1 10))) then (wrap64 (-(Int.tmod x4_1 10))) else (Int.tmod x4_1 10)) = ji6 := hji6;replace H := gC H;obtain ⟨c7, H⟩ := H;have c7b0 := eq_true c7;have c7b1 : decide (0 ≤ (ji6)) = true := decide_eq_true c7;clear c7;replace H := gC H;obtain ⟨c8, H⟩ := H;have c8b0 := eq_true c8;have c8b1 : decide ((ji6) ≤ (wrap64 ((ji6) + 1))) = true := decide_eq_true c8;replace H := gC H;obtain ⟨c9, H⟩ := H;have c9b0 := eq_true c9;have c9b1 : decide ((wrap64 ((ji6) + 1)) ≤ 16) = true := decide_eq_true c9;replace H := gC H;obtain ⟨c10, H⟩ := H;have c10b0 := eq_true c10;have c10b1 : decide (((⟨#[48, 49, 50, 51, 52, 53, 54, 55, 56, 57, 97, 98, 99, 100, 101, 102]⟩ : ByteArray).extract ((ji6) : Int).toNat ((wrap64 ((ji6) + 1)) : Int).toNat).size + x3_1.size ≤ 9223372036854775807) = true := decide_eq_true c10
     try have c10b2 : (9223372036854775807 < ((⟨#[48, 49, 50, 51, 52, 53, 54, 55, 56, 57, 97, 98, 99, 100, 101, 102]⟩ : ByteArray).extract ((ji6) : Int).toNat ((wrap64 ((ji6) + 1)) : Int).toNat).size + x3_1.size) = False := eq_false (Nat.not_lt.2 c10)
     have H' := Aside0.mk H;clear H;go_wp2;go_roundg k1
     case measure => have := HK1.out; omega
     case rel => exact ⟨(((⟨#[48, 49, 50, 51, 52, 53, 54, 55, 56, 57, 97, 98, 99, 100, 101, 102]⟩ : ByteArray).extract ((ji6) : Int).toNat ((wrap64 ((ji6) + 1)) : Int).toNat) ++ x3_1), (wrap64 (Int.tdiv x4_1 10)), (by first | rfl | (simp; done) | (simp only [← hji6] <;> (first | rfl | simp)) | (simp [*]; done)), rS, H', ⟨by have := HK1.out; omega⟩, ⟨cB⟩⟩
end Go.Proofs.Ytgpmmmidplkhnaa.PFnExactSignText
