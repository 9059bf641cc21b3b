import Derived.Test.YtfmilhpneelonaaPFnExactSizesy0
import Derived.Test.YtfmilhpneelonaaPFnExactSizesy1
namespace Go.Proofs.Ytfmilhpneelonaa.PFnExactSizes
open Go.RowKit Go.Proofs.YtfmilhpneelonaaW.PrintWords Go.Proofs.YtfmilhpneelonaaW.PrintLast Go.Proofs.YtfmilhpneelonaaW.PrintMore Go.Proofs.YtfmilhpneelonaaW.Z
attribute [local go_sem] max2_int min2_int max_two min_two max_three min_three max_four min_four
set_option linter.unusedVariables false
set_option linter.unusedSimpArgs false
attribute [local go_sem high] eqA81
def laws_szLine.f (a0_0 : ByteArray) (a0_1 : Int) (a0_2 : Int) (a0_3 : Int) (a0_4 : Int) (a0_5 : ByteArray) (a0_6 : ByteArray) (a1 : Int) : Option (Int) := if (wrap64 (a1 - (a0_0.size : Int))) < 0 then (some (-1)) else (if (wrap64 ((wrap64 (a1 - (a0_0.size : Int))) - (a0_5.size : Int))) < 0 then (some (-1)) else (if (wrap64 ((wrap64 ((wrap64 (a1 - (a0_0.size : Int))) - (a0_5.size : Int))) - (a0_6.size : Int))) < 0 then (some (-1)) else (some (wrap64 ((wrap64 ((wrap64 (a1 - (a0_0.size : Int))) - (a0_5.size : Int))) - (a0_6.size : Int))))))
set_option maxHeartbeats 8000000 in
set_option maxRecDepth 100000 in
theorem laws_szLine.calls (a0_0 : ByteArray) (a0_1 : Int) (a0_2 : Int) (a0_3 : Int) (a0_4 : Int) (a0_5 : ByteArray) (a0_6 : ByteArray) (a1 : Int) (r : Int) (w : World) (h : laws_szLine.f a0_0 a0_1 a0_2 a0_3 a0_4 a0_5 a0_6 a1 = some r) :
 Calls Try.prog 145 #[.agg #[.string a0_0, .int .i64 a0_1, .int .i64 a0_2, .int .i64 a0_3, .int .i64 a0_4, .string a0_5, .string a0_6], .int .i64 a1] w fun e w' => e = .returned (.int .i64 r) ∧ Below w.heap.size w w' := by
 have hu167 := Try.underlying167;have HB := Aside0.mk (Below.refl w.heap.size w);have H : (if (wrap64 (a1 - (a0_0.size : Int))) < 0 then (some (-1)) else (if (wrap64 ((wrap64 (a1 - (a0_0.size : Int))) - (a0_5.size : Int))) < 0 then (some (-1)) else (if (wrap64 ((wrap64 ((wrap64 (a1 - (a0_0.size : Int))) - (a0_5.size : Int))) - (a0_6.size : Int))) < 0 then (some (-1)) else (some (wrap64 ((wrap64 ((wrap64 (a1 - (a0_0.size : Int))) - (a0_5.size : Int))) - (a0_6.size : Int))))))) = some r := h;clear h;by_cases c3 : (wrap64 (a1 - (a0_0.size : Int))) < 0
 ·rw [if_pos c3] at H;have c3b0 := decide_eq_true c3;clear c3;obtain rfl := Option.some.inj H;go_enter Try.func145, Try.ntmps145
  go_wp2_with (first|((with_reducible refine gN 2 ?_);refine boxZ 2 #[.string a0_0, .int .i64 a0_1, .int .i64 a0_2, .int .i64 a0_3, .int .i64 a0_4, .string a0_5, .string a0_6] 167 ?_;intro gb159 hg w4 hbox hb;have BK159 := Aside0.mk (hbox);have GW159 := gS hg;have GE159 := gS hg;replace HB := sB hb;clear hb hbox hg;obtain ⟨hcz5_0, hcz5_1, hcz5_2, hcz5_3, hcz5_4, hcz5_5, hcz5_6, hfz5_0, hfz5_1, hfz5_2, hfz5_3, hfz5_4, hfz5_5, hfz5_6⟩ := cz7 BK159))
  go_ret;exact ⟨rE, cB⟩
 ·rw [if_neg c3] at H;have c3b0 := decide_eq_false c3;clear c3;by_cases c6 : (wrap64 ((wrap64 (a1 - (a0_0.size : Int))) - (a0_5.size : Int))) < 0
  ·rw [if_pos c6] at H;have c6b0 := decide_eq_true c6;clear c6;obtain rfl := Option.some.inj H;go_enter Try.func145, Try.ntmps145
   go_wp2_with (first|((with_reducible refine gN 2 ?_);refine boxZ 2 #[.string a0_0, .int .i64 a0_1, .int .i64 a0_2, .int .i64 a0_3, .int .i64 a0_4, .string a0_5, .string a0_6] 167 ?_;intro gb159 hg w7 hbox hb;have BK159 := Aside0.mk (hbox);have GW159 := gS hg;have GE159 := gS hg;replace HB := sB hb;clear hb hbox hg;obtain ⟨hcz8_0, hcz8_1, hcz8_2, hcz8_3, hcz8_4, hcz8_5, hcz8_6, hfz8_0, hfz8_1, hfz8_2, hfz8_3, hfz8_4, hfz8_5, hfz8_6⟩ := cz7 BK159))
   go_ret;exact ⟨rE, cB⟩
  ·rw [if_neg c6] at H;have c6b0 := decide_eq_false c6;clear c6;by_cases c9 : (wrap64 ((wrap64 ((wrap64 (a1 - (a0_0.size : Int))) - (a0_5.size : Int))) - (a0_6.size : Int))) < 0
   ·rw [if_pos c9] at H;have c9b0 := decide_eq_true c9;clear c9;obtain rfl := Option.some.inj H;go_enter Try.func145, Try.ntmps145
    go_wp2_with (first|((with_reducible refine gN 2 ?_);refine boxZ 2 #[.string a0_0, .int .i64 a0_1, .int .i64 a0_2, .int .i64 a0_3, .int .i64 a0_4, .string a0_5, .string a0_6] 167 ?_;intro gb159 hg w10 hbox hb;have BK159 := Aside0.mk (hbox);have GW159 := gS hg;have GE159 := gS hg;replace HB := sB hb;clear hb hbox hg;obtain ⟨hcz11_0, hcz11_1, hcz11_2, hcz11_3, hcz11_4, hcz11_5, hcz11_6, hfz11_0, hfz11_1, hfz11_2, hfz11_3, hfz11_4, hfz11_5, hfz11_6⟩ := cz7 BK159))
    go_ret;exact ⟨rE, cB⟩
   ·rw [if_neg c9] at H;have c9b0 := decide_eq_false c9;clear c9;obtain rfl := Option.some.inj H;go_enter Try.func145, Try.ntmps145
    go_wp2_with (first|((with_reducible refine gN 2 ?_);refine boxZ 2 #[.string a0_0, .int .i64 a0_1, .int .i64 a0_2, .int .i64 a0_3, .int .i64 a0_4, .string a0_5, .string a0_6] 167 ?_;intro gb159 hg w12 hbox hb;have BK159 := Aside0.mk (hbox);have GW159 := gS hg;have GE159 := gS hg;replace HB := sB hb;clear hb hbox hg;obtain ⟨hcz13_0, hcz13_1, hcz13_2, hcz13_3, hcz13_4, hcz13_5, hcz13_6, hfz13_0, hfz13_1, hfz13_2, hfz13_3, hfz13_4, hfz13_5, hfz13_6⟩ := cz7 BK159))
    go_ret;exact ⟨rE, cB⟩
def laws_szLineS.l0 : Nat → List (S167) → Int → Int → Option (Int)
  | 0, _, _, _ => none
  | k + 1, x0, x1, x5 => if x5 < (x0.length : Int) then (if 0 ≤ x5 then ((laws_szLine.f ((rd_T167 x0 x5).f0) ((rd_T167 x0 x5).f1.f0) ((rd_T167 x0 x5).f1.f1) ((rd_T167 x0 x5).f1.f2) ((rd_T167 x0 x5).f1.f3) ((rd_T167 x0 x5).f2) ((rd_T167 x0 x5).f3) x1).bind fun t161 => (if t161 < 0 then (some (-1)) else (laws_szLineS.l0 k x0 t161 (wrap64 (x5 + 1))))) else (none)) else (some x1)
def laws_szLineS.f (k : Nat) (l0 : List (S167)) (a1 : Int) : Option (Int) := if (wrap64 (a1 - (l0.length : Int))) < 0 then (some (-1)) else (laws_szLineS.l0 k l0 (wrap64 (a1 - (l0.length : Int))) 0)
set_option maxHeartbeats 8000000 in
set_option maxRecDepth 100000 in
theorem laws_szLineS.calls (k : Nat) (A0 : Option Addr) (c0 : Nat) (l0 : List (S167)) (a1 : Int) (r : Int) (w : World) (hr0 : Kd.C k167 w A0 l0.length l0) (hc0 : l0.length ≤ c0) (h : laws_szLineS.f k l0 a1 = some r) :
 Calls Try.prog 59 #[.slice A0 l0.length c0, .int .i64 a1] w fun e w' => e = .returned (.int .i64 r) ∧ Below w.heap.size w w' := by
 have hu167 := Try.underlying167;have HR0 := Aside0.mk hr0;have HC0 := Aside0.mk hc0;clear hr0 hc0;have HB := Aside0.mk (Below.refl w.heap.size w);have H : (if (wrap64 (a1 - (l0.length : Int))) < 0 then (some (-1)) else (laws_szLineS.l0 k l0 (wrap64 (a1 - (l0.length : Int))) 0)) = some r := h;clear h;by_cases c3 : (wrap64 (a1 - (l0.length : Int))) < 0
 ·rw [if_pos c3] at H;have c3b0 := decide_eq_true c3;clear c3;obtain rfl := Option.some.inj H;go_enter Try.func59, Try.ntmps59;go_wp2;go_ret;exact ⟨rE, cB⟩
 ·rw [if_neg c3] at H;have c3b0 := decide_eq_false c3;clear c3;have H' := Aside0.mk H;clear H;go_enter Try.func59, Try.ntmps59;go_wp2
  go_loopg [1, 5] k (fun kq v1 v5 w' => ∃ (x1_1 : Int) (x5_1 : Int), v1 = .int .i64 x1_1 ∧ v5 = .int .i64 x5_1 ∧ Aside0 (laws_szLineS.l0 kq l0 x1_1 x5_1 = some r) ∧ Aside0 (kq ≤ k) ∧ Aside0 (Below w.heap.size w w'))
  case atStart => exact ⟨(wrap64 (a1 - (l0.length : Int))), (0), rS, rS, H', ⟨Nat.le_refl _⟩, ⟨cB⟩⟩
  case round =>
   clear H';(try clear c3);(try clear c3b0);obtain ⟨x1_1, x5_1, rfl, rfl, HA, HK1, HB⟩ := hrel
   cases gk with
   | zero => exact absurd HA.out (by simp [laws_szLineS.l0])
   | succ k1 =>
    have H := HA.out;clear HA;simp only [laws_szLineS.l0] at H;by_cases c4 : x5_1 < (l0.length : Int)
    ·rw [if_pos c4] at H;have c4b0 := decide_eq_true c4;clear c4;replace H := gD H;obtain ⟨c5b0, H⟩ := H;replace H := bE H;obtain ⟨t161, A6, H⟩ := H;by_cases c7 : t161 < 0
     ·rw [if_pos c7] at H;have c7b0 := decide_eq_true c7;clear c7;obtain rfl := Option.some.inj H;have p160 : 0 ≤ (x5_1 : Int) := dA;have q160 : x5_1 < (l0.length : Int) := dA;obtain ⟨ad160, e160, hx160_0, hx160_1, hx160_2, hx160_3, hx160_4, hx160_5, hx160_6⟩ := at_T167 HR0.out x5_1 p160 q160;cases e160;replace hx160_0 := (bc HB hx160_0 :);replace hx160_1 := (bc HB hx160_1 :);replace hx160_2 := (bc HB hx160_2 :);replace hx160_3 := (bc HB hx160_3 :);replace hx160_4 := (bc HB hx160_4 :);replace hx160_5 := (bc HB hx160_5 :);replace hx160_6 := (bc HB hx160_6 :);replace p160 := eq_true p160;replace q160 := eq_true q160
      go_wp2_with (first|((with_reducible refine gF 145 ?_);refine goZ (some 23) Try.func145 #[.agg #[.string ((rd_T167 l0 x5_1).f0), .int .i64 ((rd_T167 l0 x5_1).f1.f0), .int .i64 ((rd_T167 l0 x5_1).f1.f1), .int .i64 ((rd_T167 l0 x5_1).f1.f2), .int .i64 ((rd_T167 l0 x5_1).f1.f3), .string ((rd_T167 l0 x5_1).f2), .string ((rd_T167 l0 x5_1).f3)], .int .i64 x1_1] ?_;(with_reducible refine (laws_szLine.calls ((rd_T167 l0 x5_1).f0) ((rd_T167 l0 x5_1).f1.f0) ((rd_T167 l0 x5_1).f1.f1) ((rd_T167 l0 x5_1).f1.f2) ((rd_T167 l0 x5_1).f1.f3) ((rd_T167 l0 x5_1).f2) ((rd_T167 l0 x5_1).f3) x1_1 t161 _ A6.out).mono ?_);rintro e w8 ⟨rfl, hb⟩;refine ⟨_, rfl, ?_⟩;replace HB := sB hb;(try clear hb)))
      go_ret;exact ⟨rE, cB⟩
     ·rw [if_neg c7] at H;have c7b0 := decide_eq_false c7;clear c7;have H' := Aside0.mk H;clear H;have p160 : 0 ≤ (x5_1 : Int) := dA;have q160 : x5_1 < (l0.length : Int) := dA;obtain ⟨ad160, e160, hx160_0, hx160_1, hx160_2, hx160_3, hx160_4, hx160_5, hx160_6⟩ := at_T167 HR0.out x5_1 p160 q160;cases e160;replace hx160_0 := (bc HB hx160_0 :);replace hx160_1 := (bc HB hx160_1 :);replace hx160_2 := (bc HB hx160_2 :);replace hx160_3 := (bc HB hx160_3 :);replace hx160_4 := (bc HB hx160_4 :);replace hx160_5 := (bc HB hx160_5 :);replace hx160_6 := (bc HB hx160_6 :);replace p160 := eq_true p160;replace q160 := eq_true q160
      go_wp2_with (first|((with_reducible refine gF 145 ?_);refine goZ (some 23) Try.func145 #[.agg #[.string ((rd_T167 l0 x5_1).f0), .int .i64 ((rd_T167 l0 x5_1).f1.f0), .int .i64 ((rd_T167 l0 x5_1).f1.f1), .int .i64 ((rd_T167 l0 x5_1).f1.f2), .int .i64 ((rd_T167 l0 x5_1).f1.f3), .string ((rd_T167 l0 x5_1).f2), .string ((rd_T167 l0 x5_1).f3)], .int .i64 x1_1] ?_;(with_reducible refine (laws_szLine.calls ((rd_T167 l0 x5_1).f0) ((rd_T167 l0 x5_1).f1.f0) ((rd_T167 l0 x5_1).f1.f1) ((rd_T167 l0 x5_1).f1.f2) ((rd_T167 l0 x5_1).f1.f3) ((rd_T167 l0 x5_1).f2) ((rd_T167 l0 x5_1).f3) x1_1 t161 _ A6.out).mono ?_);rintro e w9 ⟨rfl, hb⟩;refine ⟨_, rfl, ?_⟩;replace HB := sB hb;(try clear hb)))
      go_roundg k1
      case measure => have := HK1.out; omega
      case rel => exact ⟨(t161), (wrap64 (x5_1 + 1)), rS, rS, H', ⟨by have := HK1.out; omega⟩, ⟨cB⟩⟩
    ·rw [if_neg c4] at H;have c4b0 := decide_eq_false c4;clear c4;obtain rfl := Option.some.inj H;go_wp2;go_ret;exact ⟨rE, cB⟩
def spec_l01In.f (a0 : Int) (a1 : Int) (a2 : Int) : Option (Bool) := if a0 ≥ a1 then (some (decide (a0 ≤ a2))) else (some false)
set_option maxHeartbeats 8000000 in
set_option maxRecDepth 100000 in
theorem spec_l01In.calls (a0 : Int) (a1 : Int) (a2 : Int) (r : Bool) (w : World) (h : spec_l01In.f a0 a1 a2 = some r) :
 Calls Try.prog 117 #[.int .i64 a0, .int .i64 a1, .int .i64 a2] w fun e w' => e = .returned (.bool r) ∧ Drawn0 w w' := by
 have H : (if a0 ≥ a1 then (some (decide (a0 ≤ a2))) else (some false)) = some r := h;clear h;by_cases c4 : a0 ≥ a1
 ·rw [if_pos c4] at H;have c4b0 : decide (a1 ≤ a0) = true := decide_eq_true c4;clear c4;obtain rfl := Option.some.inj H;go_enter Try.func117, Try.ntmps117;go_wp2;go_ret
  exact ⟨by first | rfl | (simp; done) | (simp [*]; done), by repeat (first | exact Drawn0.refl _ | apply Drawn0.step)⟩
 ·rw [if_neg c4] at H;have c4b0 : decide (a1 ≤ a0) = false := decide_eq_false c4;clear c4;obtain rfl := Option.some.inj H;go_enter Try.func117, Try.ntmps117;go_wp2;go_ret
  exact ⟨by first | rfl | (simp; done) | (simp [*]; done), by repeat (first | exact Drawn0.refl _ | apply Drawn0.step)⟩
def spec_HalfOk.f (a0 : Int) : Option (Bool) := (spec_l01In.f a0 0 4294967295).bind fun t162 => (some t162)
set_option maxHeartbeats 8000000 in
set_option maxRecDepth 100000 in
theorem spec_HalfOk.calls (a0 : Int) (r : Bool) (w : World) (h : spec_HalfOk.f a0 = some r) :
 Calls Try.prog 131 #[.int .i64 a0] w fun e w' => e = .returned (.bool r) ∧ Drawn0 w w' := by
 have H : ((spec_l01In.f a0 0 4294967295).bind fun t162 => (some t162)) = some r := h
 clear h;replace H := bE H;obtain ⟨t162, A2, H⟩ := H;obtain rfl := Option.some.inj H;go_enter Try.func131, Try.ntmps131
 go_wp2_with (first|((with_reducible refine gF 117 ?_);refine goZ (some 4) Try.func117 #[.int .i64 a0, .int .i64 0, .int .i64 4294967295] ?_;(with_reducible refine (spec_l01In.calls a0 0 4294967295 t162 _ A2.out).mono ?_);rintro e w' ⟨rfl, ⟨nd, rfl⟩⟩;refine ⟨_, rfl, ?_⟩))
 go_ret
 exact ⟨by first | rfl | (simp; done) | (simp [*]; done), by repeat (first | exact Drawn0.refl _ | apply Drawn0.step)⟩
def spec_l06Ask.f (a0 : Int) : Option (Bool) := (spec_l01In.f a0 3 6).bind fun t163 => (some t163)
set_option maxHeartbeats 8000000 in
set_option maxRecDepth 100000 in
theorem spec_l06Ask.calls (a0 : Int) (r : Bool) (w : World) (h : spec_l06Ask.f a0 = some r) :
 Calls Try.prog 149 #[.int .i64 a0] w fun e w' => e = .returned (.bool r) ∧ Drawn0 w w' := by
 have H : ((spec_l01In.f a0 3 6).bind fun t163 => (some t163)) = some r := h
 clear h;replace H := bE H;obtain ⟨t163, A2, H⟩ := H;obtain rfl := Option.some.inj H;go_enter Try.func149, Try.ntmps149
 go_wp2_with (first|((with_reducible refine gF 117 ?_);refine goZ (some 4) Try.func117 #[.int .i64 a0, .int .i64 3, .int .i64 6] ?_;(with_reducible refine (spec_l01In.calls a0 3 6 t163 _ A2.out).mono ?_);rintro e w' ⟨rfl, ⟨nd, rfl⟩⟩;refine ⟨_, rfl, ?_⟩))
 go_ret
 exact ⟨by first | rfl | (simp; done) | (simp [*]; done), by repeat (first | exact Drawn0.refl _ | apply Drawn0.step)⟩
mutual
def spec_InsOk.j0 : Nat → Bool → Int → Int → Int → Int → Option (Bool)
  | 0, _, _, _, _, _ => none
  | k + 1, x24, x165000, x165001, x165002, x165003 => if x24 = true then (some false) else ((spec_l06Ask.f x165000).bind fun t169 => (if t169 = true then (spec_InsOk.j1 k false x165000 x165001 x165002 x165003) else (if x165002 = 0 then (spec_InsOk.j1 k (x165003 != 0) x165000 x165001 x165002 x165003) else (spec_InsOk.j1 k true x165000 x165001 x165002 x165003))))
def spec_InsOk.j1 : Nat → Bool → Int → Int → Int → Int → Option (Bool)
  | 0, _, _, _, _, _ => none
  | k + 1, x38, x165000, x165001, x165002, x165003 => if x38 = true then (some false) else (if x165000 = 1 then (some (decide (x165001 < 8))) else (if x165000 = 7 then (some (decide (x165001 < 400))) else (some true)))
end
def spec_InsOk.f (k : Nat) (a0_0 : Int) (a0_1 : Int) (a0_2 : Int) (a0_3 : Int) : Option (Bool) := (spec_l01In.f a0_0 1 8).bind fun t165 => (if t165 = true then ((spec_HalfOk.f a0_1).bind fun t166 => (if t166 = true then ((spec_l01In.f a0_2 0 15).bind fun t167 => (if t167 = true then ((spec_l01In.f a0_3 0 15).bind fun t168 => (spec_InsOk.j0 k (!t168) a0_0 a0_1 a0_2 a0_3)) else (spec_InsOk.j0 k true a0_0 a0_1 a0_2 a0_3))) else (spec_InsOk.j0 k true a0_0 a0_1 a0_2 a0_3))) else (spec_InsOk.j0 k true a0_0 a0_1 a0_2 a0_3))
set_option maxHeartbeats 8000000 in
set_option maxRecDepth 100000 in
theorem spec_InsOk.calls (k : Nat) (a0_0 : Int) (a0_1 : Int) (a0_2 : Int) (a0_3 : Int) (r : Bool) (w : World) (h : spec_InsOk.f k a0_0 a0_1 a0_2 a0_3 = some r) :
 Calls Try.prog 141 #[.agg #[.int .i64 a0_0, .int .i64 a0_1, .int .i64 a0_2, .int .i64 a0_3]] w fun e w' => e = .returned (.bool r) ∧ Below w.heap.size w w' := by
 have hu81 := Try.underlying81;have HB := Aside0.mk (Below.refl w.heap.size w)
 have H : ((spec_l01In.f a0_0 1 8).bind fun t165 => (if t165 = true then ((spec_HalfOk.f a0_1).bind fun t166 => (if t166 = true then ((spec_l01In.f a0_2 0 15).bind fun t167 => (if t167 = true then ((spec_l01In.f a0_3 0 15).bind fun t168 => (spec_InsOk.j0 k (!t168) a0_0 a0_1 a0_2 a0_3)) else (spec_InsOk.j0 k true a0_0 a0_1 a0_2 a0_3))) else (spec_InsOk.j0 k true a0_0 a0_1 a0_2 a0_3))) else (spec_InsOk.j0 k true a0_0 a0_1 a0_2 a0_3))) = some r := h
 clear h;have HC2 := Aside0.mk H;clear H;go_enter Try.func141, Try.ntmps141
 go_upto_region 1 with (first|((with_reducible refine gN 1 ?_);refine boxZ 1 #[.int .i64 a0_0, .int .i64 a0_1, .int .i64 a0_2, .int .i64 a0_3] 81 ?_;intro gb164 hg w3 hbox hb;have BK164 := Aside0.mk (hbox);have GW164 := gS hg;have GE164 := gS hg;replace HB := sB hb;clear hb hbox hg))
 (try simp only [Act.put, List.setIfInBounds_toArray, List.set_cons_zero, List.set_cons_succ])
 go_cut [24] (fun v24 wc => ∃ (kq : Nat) (x24_1 : Bool), v24 = .bool x24_1 ∧ Aside0 (spec_InsOk.j0 kq x24_1 a0_0 a0_1 a0_2 a0_3 = some r) ∧ Aside0 (kq ≤ k) ∧ Aside0 (wc.heap[gb164]? = some (.cells #[.int .i64 a0_0, .int .i64 a0_1, .int .i64 a0_2, .int .i64 a0_3] 81 (0, 0))) ∧ Aside0 (Below w.heap.size w wc))
 case first =>
  have H := HC2.out;clear HC2;replace H := bE H;obtain ⟨t165, A4, H⟩ := H;by_cases c5 : t165 = true
  ·subst c5;replace H := iT H;replace H := bE H;obtain ⟨t166, A6, H⟩ := H;by_cases c7 : t166 = true
   ·subst c7;replace H := iT H;replace H := bE H;obtain ⟨t167, A8, H⟩ := H;by_cases c9 : t167 = true
    ·subst c9;replace H := iT H;replace H := bE H;obtain ⟨t168, A10, H⟩ := H;have H' := Aside0.mk H;clear H;obtain ⟨hcz11_0, hcz11_1, hcz11_2, hcz11_3, hfz11_0, hfz11_1, hfz11_2, hfz11_3⟩ := cz4 BK164
     go_wp2_with (first|((with_reducible refine gF 117 ?_);refine goZ (some 5) Try.func117 #[.int .i64 a0_0, .int .i64 1, .int .i64 8] ?_;(with_reducible refine (spec_l01In.calls a0_0 1 8 true _ A4.out).mono ?_);rintro e w' ⟨rfl, ⟨nd, rfl⟩⟩;refine ⟨_, rfl, ?_⟩)|(go_at_call 131;(with_reducible refine (spec_HalfOk.calls a0_1 true _ A6.out).mono ?_);rintro e w' ⟨rfl, ⟨nd, rfl⟩⟩)|(go_at_call 117;(with_reducible refine (spec_l01In.calls a0_2 0 15 true _ A8.out).mono ?_);rintro e w' ⟨rfl, ⟨nd, rfl⟩⟩)|(go_at_call 117;(with_reducible refine (spec_l01In.calls a0_3 0 15 t168 _ A10.out).mono ?_);rintro e w' ⟨rfl, ⟨nd, rfl⟩⟩))
     go_meet
     case rel => exact ⟨_, (!t168), rS, H', ⟨oL⟩, ⟨mK BK164⟩, ⟨cB⟩⟩
    ·replace c9 := Bool.eq_false_iff.mpr c9;subst c9;replace H := iF H;have H' := Aside0.mk H;clear H;obtain ⟨hcz12_0, hcz12_1, hcz12_2, hcz12_3, hfz12_0, hfz12_1, hfz12_2, hfz12_3⟩ := cz4 BK164
     go_wp2_with (first|((with_reducible refine gF 117 ?_);refine goZ (some 5) Try.func117 #[.int .i64 a0_0, .int .i64 1, .int .i64 8] ?_;(with_reducible refine (spec_l01In.calls a0_0 1 8 true _ A4.out).mono ?_);rintro e w' ⟨rfl, ⟨nd, rfl⟩⟩;refine ⟨_, rfl, ?_⟩)|(go_at_call 131;(with_reducible refine (spec_HalfOk.calls a0_1 true _ A6.out).mono ?_);rintro e w' ⟨rfl, ⟨nd, rfl⟩⟩)|(go_at_call 117;(with_reducible refine (spec_l01In.calls a0_2 0 15 false _ A8.out).mono ?_);rintro e w' ⟨rfl, ⟨nd, rfl⟩⟩))
     go_meet
     case rel => exact ⟨_, (true), rS, H', ⟨oL⟩, ⟨mK BK164⟩, ⟨cB⟩⟩
   ·replace c7 := Bool.eq_false_iff.mpr c7;subst c7;replace H := iF H;have H' := Aside0.mk H;clear H;obtain ⟨hcz13_0, hcz13_1, hcz13_2, hcz13_3, hfz13_0, hfz13_1, hfz13_2, hfz13_3⟩ := cz4 BK164
    go_wp2_with (first|((with_reducible refine gF 117 ?_);refine goZ (some 5) Try.func117 #[.int .i64 a0_0, .int .i64 1, .int .i64 8] ?_;(with_reducible refine (spec_l01In.calls a0_0 1 8 true _ A4.out).mono ?_);rintro e w' ⟨rfl, ⟨nd, rfl⟩⟩;refine ⟨_, rfl, ?_⟩)|(go_at_call 131;(with_reducible refine (spec_HalfOk.calls a0_1 false _ A6.out).mono ?_);rintro e w' ⟨rfl, ⟨nd, rfl⟩⟩))
    go_meet
    case rel => exact ⟨_, (true), rS, H', ⟨oL⟩, ⟨mK BK164⟩, ⟨cB⟩⟩
  ·replace c5 := Bool.eq_false_iff.mpr c5;subst c5;replace H := iF H;have H' := Aside0.mk H;clear H;obtain ⟨hcz14_0, hcz14_1, hcz14_2, hcz14_3, hfz14_0, hfz14_1, hfz14_2, hfz14_3⟩ := cz4 BK164
   go_wp2_with (first|((with_reducible refine gF 117 ?_);refine goZ (some 5) Try.func117 #[.int .i64 a0_0, .int .i64 1, .int .i64 8] ?_;(with_reducible refine (spec_l01In.calls a0_0 1 8 false _ A4.out).mono ?_);rintro e w' ⟨rfl, ⟨nd, rfl⟩⟩;refine ⟨_, rfl, ?_⟩))
   go_meet
   case rel => exact ⟨_, (true), rS, H', ⟨oL⟩, ⟨mK BK164⟩, ⟨cB⟩⟩
 case rest =>
  clear HC2;(try clear c5);(try clear c7);(try clear c9);(try clear hcz11_0);(try clear hcz11_1);(try clear hcz11_2);(try clear hcz11_3);(try clear hcz12_0);(try clear hcz12_1);(try clear hcz12_2);(try clear hcz12_3);(try clear hcz13_0);(try clear hcz13_1);(try clear hcz13_2);(try clear hcz13_3);(try clear hcz14_0);(try clear hcz14_1);(try clear hcz14_2);(try clear hcz14_3);(try clear hfz11_0);(try clear hfz11_1);(try clear hfz11_2);(try clear hfz11_3);(try clear hfz12_0);(try clear hfz12_1);(try clear hfz12_2);(try clear hfz12_3);(try clear hfz13_0);(try clear hfz13_1);(try clear hfz13_2);(try clear hfz13_3);(try clear hfz14_0);(try clear hfz14_1);(try clear hfz14_2);(try clear hfz14_3);obtain ⟨kq, x24_1, rfl, HA, HJ1, BK164, HB⟩ := hcut
  cases kq with
  | zero => exact absurd HA.out (by simp [spec_InsOk.j0])
  | succ kj1 =>
   have H := HA.out;clear HA;simp only [spec_InsOk.j0] at H;by_cases c15 : x24_1 = true
   ·subst c15;replace H := iT H;obtain rfl := Option.some.inj H;go_wp2;go_ret;exact ⟨rE, cB⟩
   ·replace c15 := Bool.eq_false_iff.mpr c15;subst c15;replace H := iF H;have HC16 := Aside0.mk H;clear H
    go_upto_region 3 with (fail)
    go_cut [38] (fun v38 wc => ∃ (kq : Nat) (x38_15 : Bool), v38 = .bool x38_15 ∧ Aside0 (spec_InsOk.j1 kq x38_15 a0_0 a0_1 a0_2 a0_3 = some r) ∧ Aside0 (kq ≤ kj1) ∧ Aside0 (wc.heap[gb164]? = some (.cells #[.int .i64 a0_0, .int .i64 a0_1, .int .i64 a0_2, .int .i64 a0_3] 81 (0, 0))) ∧ Aside0 (Below w.heap.size w wc))
    case first =>
     have H := HC16.out;clear HC16;replace H := bE H;obtain ⟨t169, A17, H⟩ := H;by_cases c18 : t169 = true
     ·subst c18;replace H := iT H;have H' := Aside0.mk H;clear H;obtain ⟨hcz19_0, hcz19_1, hcz19_2, hcz19_3, hfz19_0, hfz19_1, hfz19_2, hfz19_3⟩ := cz4 BK164
      go_wp2_with (first|((with_reducible refine gF 149 ?_);refine goZ (some 27) Try.func149 #[.int .i64 a0_0] ?_;(with_reducible refine (spec_l06Ask.calls a0_0 true _ A17.out).mono ?_);rintro e w' ⟨rfl, ⟨nd, rfl⟩⟩;refine ⟨_, rfl, ?_⟩))
      go_meet
      case rel => exact ⟨_, (false), rS, H', ⟨by have := HJ1.out; first | omega | exact Nat.le_refl _⟩, ⟨mK BK164⟩, ⟨cB⟩⟩
     ·replace c18 := Bool.eq_false_iff.mpr c18;subst c18;replace H := iF H;by_cases c20 : a0_2 = 0
      ·rw [if_pos c20] at H;obtain ⟨c20b0, c20b1⟩ := eT c20;clear c20
       (first | rw [c20b0] | (simp only [i64_w, i32_w]; rw [c20b0]) | skip)
       have H' := Aside0.mk H;clear H;obtain ⟨hcz21_0, hcz21_1, hcz21_2, hcz21_3, hfz21_0, hfz21_1, hfz21_2, hfz21_3⟩ := cz4 BK164
       go_wp2_with (first|((with_reducible refine gF 149 ?_);refine goZ (some 27) Try.func149 #[.int .i64 a0_0] ?_;(with_reducible refine (spec_l06Ask.calls a0_0 false _ A17.out).mono ?_);rintro e w' ⟨rfl, ⟨nd, rfl⟩⟩;refine ⟨_, rfl, ?_⟩))
       go_meet
       case rel => exact ⟨_, ((a0_3 != 0)), rS, H', ⟨by have := HJ1.out; first | omega | exact Nat.le_refl _⟩, ⟨mK BK164⟩, ⟨cB⟩⟩
      ·rw [if_neg c20] at H;obtain ⟨c20b0, c20b1⟩ := eF c20
       (first | rw [c20b0] | (simp only [i64_w, i32_w]; rw [c20b0]) | skip)
       have H' := Aside0.mk H;clear H;obtain ⟨hcz22_0, hcz22_1, hcz22_2, hcz22_3, hfz22_0, hfz22_1, hfz22_2, hfz22_3⟩ := cz4 BK164
       go_wp2_with (first|((with_reducible refine gF 149 ?_);refine goZ (some 27) Try.func149 #[.int .i64 a0_0] ?_;(with_reducible refine (spec_l06Ask.calls a0_0 false _ A17.out).mono ?_);rintro e w' ⟨rfl, ⟨nd, rfl⟩⟩;refine ⟨_, rfl, ?_⟩))
       go_meet
       case rel => exact ⟨_, (true), rS, H', ⟨by have := HJ1.out; first | omega | exact Nat.le_refl _⟩, ⟨mK BK164⟩, ⟨cB⟩⟩
    case rest =>
     clear HC16;(try clear c5);(try clear c7);(try clear c9);(try clear c15);(try clear c18);(try clear c20);(try clear c20b0);(try clear c20b1);(try clear hcz11_0);(try clear hcz11_1);(try clear hcz11_2);(try clear hcz11_3);(try clear hcz12_0);(try clear hcz12_1);(try clear hcz12_2);(try clear hcz12_3);(try clear hcz13_0);(try clear hcz13_1);(try clear hcz13_2);(try clear hcz13_3);(try clear hcz14_0);(try clear hcz14_1);(try clear hcz14_2);(try clear hcz14_3);(try clear hcz19_0);(try clear hcz19_1);(try clear hcz19_2);(try clear hcz19_3);(try clear hcz21_0);(try clear hcz21_1);(try clear hcz21_2);(try clear hcz21_3);(try clear hcz22_0);(try clear hcz22_1);(try clear hcz22_2);(try clear hcz22_3);(try clear hfz11_0);(try clear hfz11_1);(try clear hfz11_2);(try clear hfz11_3);(try clear hfz12_0);(try clear hfz12_1);(try clear hfz12_2);(try clear hfz12_3);(try clear hfz13_0);(try clear hfz13_1);(try clear hfz13_2);(try clear hfz13_3);(try clear hfz14_0);(try clear hfz14_1);(try clear hfz14_2);(try clear hfz14_3);(try clear hfz19_0);(try clear hfz19_1);(try clear hfz19_2);(try clear hfz19_3);(try clear hfz21_0);(try clear hfz21_1);(try clear hfz21_2);(try clear hfz21_3);(try clear hfz22_0);(try clear hfz22_1);(try clear hfz22_2);(try clear hfz22_3);obtain ⟨kq, x38_15, rfl, HA, HJ15, BK164, HB⟩ := hcut
     cases kq with
     | zero => exact absurd HA.out (by simp [spec_InsOk.j1])
     | succ kj15 =>
      have H := HA.out;clear HA;simp only [spec_InsOk.j1] at H;by_cases c23 : x38_15 = true
      ·subst c23;replace H := iT H;obtain rfl := Option.some.inj H;go_wp2;go_ret;exact ⟨rE, cB⟩
      ·replace c23 := Bool.eq_false_iff.mpr c23;subst c23;replace H := iF H;by_cases c24 : a0_0 = 1
       ·rw [if_pos c24] at H;obtain ⟨c24b0, c24b1⟩ := eT c24;clear c24;obtain rfl := Option.some.inj H;obtain ⟨hcz25_0, hcz25_1, hcz25_2, hcz25_3, hfz25_0, hfz25_1, hfz25_2, hfz25_3⟩ := cz4 BK164;go_wp2;go_ret;exact ⟨rE, cB⟩
       ·rw [if_neg c24] at H;obtain ⟨c24b0, c24b1⟩ := eF c24;by_cases c26 : a0_0 = 7
        ·rw [if_pos c26] at H;obtain ⟨c26b0, c26b1⟩ := eT c26;clear c26;obtain rfl := Option.some.inj H;obtain ⟨hcz27_0, hcz27_1, hcz27_2, hcz27_3, hfz27_0, hfz27_1, hfz27_2, hfz27_3⟩ := cz4 BK164;go_wp2;go_ret;exact ⟨rE, cB⟩
        ·rw [if_neg c26] at H;obtain ⟨c26b0, c26b1⟩ := eF c26;obtain rfl := Option.some.inj H;obtain ⟨hcz28_0, hcz28_1, hcz28_2, hcz28_3, hfz28_0, hfz28_1, hfz28_2, hfz28_3⟩ := cz4 BK164;go_wp2;go_ret;exact ⟨rE, cB⟩
def spec_l11Place.f (a0_0 : ByteArray) (a0_1 : Int) (a0_2 : Int) (a0_3 : Int) (a0_4 : Int) (a0_5 : ByteArray) (a0_6 : ByteArray) : Option (Bool) := some (a0_1 == 0 && (a0_2 == 0 && (a0_3 == 0 && (a0_4 == 0))))
set_option maxHeartbeats 8000000 in
set_option maxRecDepth 100000 in
theorem spec_l11Place.calls (a0_0 : ByteArray) (a0_1 : Int) (a0_2 : Int) (a0_3 : Int) (a0_4 : Int) (a0_5 : ByteArray) (a0_6 : ByteArray) (r : Bool) (w : World) (h : spec_l11Place.f a0_0 a0_1 a0_2 a0_3 a0_4 a0_5 a0_6 = some r) :
 Calls Try.prog 146 #[.agg #[.string a0_0, .int .i64 a0_1, .int .i64 a0_2, .int .i64 a0_3, .int .i64 a0_4, .string a0_5, .string a0_6]] w fun e w' => e = .returned (.bool r) ∧ Below w.heap.size w w' := by
 have hu83 := Try.underlying83;have hu81 := Try.underlying81;have HB := Aside0.mk (Below.refl w.heap.size w);have H : (some (a0_1 == 0 && (a0_2 == 0 && (a0_3 == 0 && (a0_4 == 0))))) = some r := h;clear h;obtain rfl := Option.some.inj H;go_enter Try.func146, Try.ntmps146
 go_wp2_with (first|((with_reducible refine gN 1 ?_);refine boxZ 1 #[.string a0_0, .int .i64 a0_1, .int .i64 a0_2, .int .i64 a0_3, .int .i64 a0_4, .string a0_5, .string a0_6] 83 ?_;intro gb170 hg w2 hbox hb;have BK170 := Aside0.mk (hbox);have GW170 := gS hg;have GE170 := gS hg;replace HB := sB hb;clear hb hbox hg;obtain ⟨hcz3_0, hcz3_1, hcz3_2, hcz3_3, hcz3_4, hcz3_5, hcz3_6, hfz3_0, hfz3_1, hfz3_2, hfz3_3, hfz3_4, hfz3_5, hfz3_6⟩ := cz7 BK170))
 go_ret;exact ⟨rE, cB⟩
def spec_l11At.l0 : Nat → List (S83) → ByteArray → Int → Option (Int)
  | 0, _, _, _ => none
  | k + 1, x0, x1, x5 => if x5 < (x0.length : Int) then (if 0 ≤ x5 then ((spec_l11Place.f ((rd_T83 x0 x5).f0) ((rd_T83 x0 x5).f1.f0) ((rd_T83 x0 x5).f1.f1) ((rd_T83 x0 x5).f1.f2) ((rd_T83 x0 x5).f1.f3) ((rd_T83 x0 x5).f2) ((rd_T83 x0 x5).f3)).bind fun t172 => (if t172 = true then (if ((rd_T83 x0 x5).f0).toList = x1.toList then (some x5) else (spec_l11At.l0 k x0 x1 (wrap64 (x5 + 1)))) else (spec_l11At.l0 k x0 x1 (wrap64 (x5 + 1))))) else (none)) else (some (-1))
def spec_l11At.f (k : Nat) (l0 : List (S83)) (a1 : ByteArray) : Option (Int) := spec_l11At.l0 k l0 a1 0
set_option maxHeartbeats 8000000 in
set_option maxRecDepth 100000 in
theorem spec_l11At.calls (k : Nat) (A0 : Option Addr) (c0 : Nat) (l0 : List (S83)) (a1 : ByteArray) (r : Int) (w : World) (hr0 : Kd.C k83 w A0 l0.length l0) (hc0 : l0.length ≤ c0) (h : spec_l11At.f k l0 a1 = some r) :
 Calls Try.prog 186 #[.slice A0 l0.length c0, .string a1] w fun e w' => e = .returned (.int .i64 r) ∧ Below w.heap.size w w' := by
 have hu83 := Try.underlying83;have HR0 := Aside0.mk hr0;have HC0 := Aside0.mk hc0;clear hr0 hc0;have HB := Aside0.mk (Below.refl w.heap.size w);have H : (spec_l11At.l0 k l0 a1 0) = some r := h;clear h;have H' := Aside0.mk H;clear H;go_enter Try.func186, Try.ntmps186;go_wp2
 go_loopg [5] k (fun kq v5 w' => ∃ (x5_1 : Int), v5 = .int .i64 x5_1 ∧ Aside0 (spec_l11At.l0 kq l0 a1 x5_1 = some r) ∧ Aside0 (kq ≤ k) ∧ Aside0 (Below w.heap.size w w'))
 case atStart => exact ⟨(0), rS, H', ⟨Nat.le_refl _⟩, ⟨cB⟩⟩
 case round =>
  clear H';obtain ⟨x5_1, rfl, HA, HK1, HB⟩ := hrel
  cases gk with
  | zero => exact absurd HA.out (by simp [spec_l11At.l0])
  | succ k1 =>
   have H := HA.out;clear HA;simp only [spec_l11At.l0] at H;by_cases c3 : x5_1 < (l0.length : Int)
   ·rw [if_pos c3] at H;have c3b0 := decide_eq_true c3;clear c3;replace H := gD H;obtain ⟨c4b0, H⟩ := H;replace H := bE H;obtain ⟨t172, A5, H⟩ := H;by_cases c6 : t172 = true
    ·subst c6;replace H := iT H;by_cases c7 : ((rd_T83 l0 x5_1).f0).toList = a1.toList
     ·rw [if_pos c7] at H;obtain ⟨c7b0, c7b1⟩ := eT c7;clear c7;obtain rfl := Option.some.inj H;have p171 : 0 ≤ (x5_1 : Int) := dA;have q171 : x5_1 < (l0.length : Int) := dA;obtain ⟨ad171, e171, hx171_0, hx171_1, hx171_2, hx171_3, hx171_4, hx171_5, hx171_6⟩ := at_T83 HR0.out x5_1 p171 q171;cases e171;replace hx171_0 := (bc HB hx171_0 :);replace hx171_1 := (bc HB hx171_1 :);replace hx171_2 := (bc HB hx171_2 :);replace hx171_3 := (bc HB hx171_3 :);replace hx171_4 := (bc HB hx171_4 :);replace hx171_5 := (bc HB hx171_5 :);replace hx171_6 := (bc HB hx171_6 :);replace p171 := eq_true p171;replace q171 := eq_true q171
      go_wp2_with (first|((with_reducible refine gF 146 ?_);refine goZ (some 16) Try.func146 #[.agg #[.string ((rd_T83 l0 x5_1).f0), .int .i64 ((rd_T83 l0 x5_1).f1.f0), .int .i64 ((rd_T83 l0 x5_1).f1.f1), .int .i64 ((rd_T83 l0 x5_1).f1.f2), .int .i64 ((rd_T83 l0 x5_1).f1.f3), .string ((rd_T83 l0 x5_1).f2), .string ((rd_T83 l0 x5_1).f3)]] ?_;(with_reducible refine (spec_l11Place.calls ((rd_T83 l0 x5_1).f0) ((rd_T83 l0 x5_1).f1.f0) ((rd_T83 l0 x5_1).f1.f1) ((rd_T83 l0 x5_1).f1.f2) ((rd_T83 l0 x5_1).f1.f3) ((rd_T83 l0 x5_1).f2) ((rd_T83 l0 x5_1).f3) true _ A5.out).mono ?_);rintro e w8 ⟨rfl, hb⟩;refine ⟨_, rfl, ?_⟩;replace HB := sB hb;(try clear hb);have p173 : 0 ≤ (x5_1 : Int) := dA;have q173 : x5_1 < (l0.length : Int) := dA;obtain ⟨ad173, e173, hx173_0, hx173_1, hx173_2, hx173_3, hx173_4, hx173_5, hx173_6⟩ := at_T83 HR0.out x5_1 p173 q173;obtain rfl : ad171 = ad173 := (by injection e173);replace hx173_0 := (bc HB hx173_0 :);replace hx173_1 := (bc HB hx173_1 :);replace hx173_2 := (bc HB hx173_2 :);replace hx173_3 := (bc HB hx173_3 :);replace hx173_4 := (bc HB hx173_4 :);replace hx173_5 := (bc HB hx173_5 :);replace hx173_6 := (bc HB hx173_6 :);replace p173 := eq_true p173;replace q173 := eq_true q173))
      go_ret;exact ⟨rE, cB⟩
     ·rw [if_neg c7] at H;obtain ⟨c7b0, c7b1⟩ := eF c7;have H' := Aside0.mk H;clear H;have p171 : 0 ≤ (x5_1 : Int) := dA;have q171 : x5_1 < (l0.length : Int) := dA;obtain ⟨ad171, e171, hx171_0, hx171_1, hx171_2, hx171_3, hx171_4, hx171_5, hx171_6⟩ := at_T83 HR0.out x5_1 p171 q171;cases e171;replace hx171_0 := (bc HB hx171_0 :);replace hx171_1 := (bc HB hx171_1 :);replace hx171_2 := (bc HB hx171_2 :);replace hx171_3 := (bc HB hx171_3 :);replace hx171_4 := (bc HB hx171_4 :);replace hx171_5 := (bc HB hx171_5 :);replace hx171_6 := (bc HB hx171_6 :);replace p171 := eq_true p171;replace q171 := eq_true q171
      go_wp2_with (first|((with_reducible refine gF 146 ?_);refine goZ (some 16) Try.func146 #[.agg #[.string ((rd_T83 l0 x5_1).f0), .int .i64 ((rd_T83 l0 x5_1).f1.f0), .int .i64 ((rd_T83 l0 x5_1).f1.f1), .int .i64 ((rd_T83 l0 x5_1).f1.f2), .int .i64 ((rd_T83 l0 x5_1).f1.f3), .string ((rd_T83 l0 x5_1).f2), .string ((rd_T83 l0 x5_1).f3)]] ?_;(with_reducible refine (spec_l11Place.calls ((rd_T83 l0 x5_1).f0) ((rd_T83 l0 x5_1).f1.f0) ((rd_T83 l0 x5_1).f1.f1) ((rd_T83 l0 x5_1).f1.f2) ((rd_T83 l0 x5_1).f1.f3) ((rd_T83 l0 x5_1).f2) ((rd_T83 l0 x5_1).f3) true _ A5.out).mono ?_);rintro e w9 ⟨rfl, hb⟩;refine ⟨_, rfl, ?_⟩;replace HB := sB hb;(try clear hb);have p173 : 0 ≤ (x5_1 : Int) := dA;have q173 : x5_1 < (l0.length : Int) := dA;obtain ⟨ad173, e173, hx173_0, hx173_1, hx173_2, hx173_3, hx173_4, hx173_5, hx173_6⟩ := at_T83 HR0.out x5_1 p173 q173;obtain rfl : ad171 = ad173 := (by injection e173);replace hx173_0 := (bc HB hx173_0 :);replace hx173_1 := (bc HB hx173_1 :);replace hx173_2 := (bc HB hx173_2 :);replace hx173_3 := (bc HB hx173_3 :);replace hx173_4 := (bc HB hx173_4 :);replace hx173_5 := (bc HB hx173_5 :);replace hx173_6 := (bc HB hx173_6 :);replace p173 := eq_true p173;replace q173 := eq_true q173))
      go_roundg k1
      case measure => have := HK1.out; omega
      case rel => exact ⟨(wrap64 (x5_1 + 1)), rS, H', ⟨by have := HK1.out; omega⟩, ⟨cB⟩⟩
    ·replace c6 := Bool.eq_false_iff.mpr c6;subst c6;replace H := iF H;have H' := Aside0.mk H;clear H;have p171 : 0 ≤ (x5_1 : Int) := dA;have q171 : x5_1 < (l0.length : Int) := dA;obtain ⟨ad171, e171, hx171_0, hx171_1, hx171_2, hx171_3, hx171_4, hx171_5, hx171_6⟩ := at_T83 HR0.out x5_1 p171 q171;cases e171;replace hx171_0 := (bc HB hx171_0 :);replace hx171_1 := (bc HB hx171_1 :);replace hx171_2 := (bc HB hx171_2 :);replace hx171_3 := (bc HB hx171_3 :);replace hx171_4 := (bc HB hx171_4 :);replace hx171_5 := (bc HB hx171_5 :);replace hx171_6 := (bc HB hx171_6 :);replace p171 := eq_true p171;replace q171 := eq_true q171
     go_wp2_with (first|((with_reducible refine gF 146 ?_);refine goZ (some 16) Try.func146 #[.agg #[.string ((rd_T83 l0 x5_1).f0), .int .i64 ((rd_T83 l0 x5_1).f1.f0), .int .i64 ((rd_T83 l0 x5_1).f1.f1), .int .i64 ((rd_T83 l0 x5_1).f1.f2), .int .i64 ((rd_T83 l0 x5_1).f1.f3), .string ((rd_T83 l0 x5_1).f2), .string ((rd_T83 l0 x5_1).f3)]] ?_;(with_reducible refine (spec_l11Place.calls ((rd_T83 l0 x5_1).f0) ((rd_T83 l0 x5_1).f1.f0) ((rd_T83 l0 x5_1).f1.f1) ((rd_T83 l0 x5_1).f1.f2) ((rd_T83 l0 x5_1).f1.f3) ((rd_T83 l0 x5_1).f2) ((rd_T83 l0 x5_1).f3) false _ A5.out).mono ?_);rintro e w10 ⟨rfl, hb⟩;refine ⟨_, rfl, ?_⟩;replace HB := sB hb;(try clear hb)))
     go_roundg k1
     case measure => have := HK1.out; omega
     case rel => exact ⟨(wrap64 (x5_1 + 1)), rS, H', ⟨by have := HK1.out; omega⟩, ⟨cB⟩⟩
   ·rw [if_neg c3] at H;have c3b0 := decide_eq_false c3;clear c3;obtain rfl := Option.some.inj H;go_wp2;go_ret;exact ⟨rE, cB⟩
end Go.Proofs.Ytfmilhpneelonaa.PFnExactSizes
