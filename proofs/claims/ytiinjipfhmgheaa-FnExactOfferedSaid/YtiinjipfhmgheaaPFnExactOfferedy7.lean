import Derived.Test.YtiinjipfhmgheaaPFnExactOfferedy0
namespace Go.Proofs.Ytiinjipfhmgheaa.PFnExactOffered
open Go.RowKit Go.Proofs.YtiinjipfhmgheaaW.PrintWords Go.Proofs.YtiinjipfhmgheaaW.PrintLast Go.Proofs.YtiinjipfhmgheaaW.PrintMore Go.Proofs.YtiinjipfhmgheaaW.Z
attribute [local go_sem] max2_int min2_int max_two min_two max_three min_three max_four min_four
set_option linter.unusedVariables false
set_option linter.unusedSimpArgs false
def laws_heldItemS.l0 : Nat → List (S141) → Int → Int → Option (Int)
  | 0, _, _, _ => none
  | k + 1, x0, x1, x5 => if x5 < (x0.length : Int) then (if 0 ≤ x5 then (if ((rd_T141 x0 x5).f0) = x1 then (if ((rd_T141 x0 x5).f1) = (wrap64 (x1 + 1)) then (if ((rd_T141 x0 x5).f2) = (wrap64 ((wrap64 (x1 + 1)) + 1)) then (if ((rd_T141 x0 x5).f3) = (wrap64 ((wrap64 ((wrap64 (x1 + 1)) + 1)) + 1)) then (laws_heldItemS.l0 k x0 (wrap64 ((wrap64 ((wrap64 ((wrap64 (x1 + 1)) + 1)) + 1)) + 1)) (wrap64 (x5 + 1))) else (some (-1))) else (some (-1))) else (some (-1))) else (some (-1))) else (none)) else (some x1)
def laws_heldItemS.f (k : Nat) (l0 : List (S141)) (a1 : Int) : Option (Int) := laws_heldItemS.l0 k l0 a1 0
set_option maxHeartbeats 8000000 in
set_option maxRecDepth 100000 in
theorem laws_heldItemS.calls (k : Nat) (A0 : Option Addr) (c0 : Nat) (l0 : List (S141)) (a1 : Int) (r : Int) (w : World) (hr0 : Kd.C k141 w A0 l0.length l0) (hc0 : l0.length ≤ c0) (h : laws_heldItemS.f k l0 a1 = some r) :
 Calls Try.prog 108 #[.slice A0 l0.length c0, .int .i64 a1] w fun e w' => e = .returned (.int .i64 r) ∧ Drawn0 w w' := by
 have HR0 := Aside0.mk hr0;have HC0 := Aside0.mk hc0;clear hr0 hc0;have H : (laws_heldItemS.l0 k l0 a1 0) = some r := h;clear h;have H' := Aside0.mk H;clear H;go_enter Try.func108, Try.ntmps108;go_wp2
 go_loopg [1, 5] k (fun kq v1 v5 w' => ∃ (x1_1 : Int) (x5_1 : Int), v1 = .int .i64 x1_1 ∧ v5 = .int .i64 x5_1 ∧ Aside0 (laws_heldItemS.l0 kq l0 x1_1 x5_1 = some r) ∧ Aside0 (kq ≤ k) ∧ Drawn0 w w')
 case atStart => exact ⟨(a1), (0), rS, rS, H', ⟨Nat.le_refl _⟩, by repeat (first | exact Drawn0.refl _ | apply Drawn0.step)⟩
 case round =>
  clear H';obtain ⟨x1_1, x5_1, rfl, rfl, HA, HK1, ⟨m1, rfl⟩⟩ := hrel
  cases gk with
  | zero => exact absurd HA.out (by simp [laws_heldItemS.l0])
  | succ k1 =>
   have H := HA.out;clear HA;simp only [laws_heldItemS.l0] at H;by_cases c3 : x5_1 < (l0.length : Int)
   ·rw [if_pos c3] at H;have c3b0 := decide_eq_true c3;clear c3;replace H := gD H;obtain ⟨c4b0, H⟩ := H;by_cases c5 : ((rd_T141 l0 x5_1).f0) = x1_1
    ·rw [if_pos c5] at H;obtain ⟨c5b0, c5b1⟩ := eT c5;clear c5;by_cases c6 : ((rd_T141 l0 x5_1).f1) = (wrap64 (x1_1 + 1))
     ·rw [if_pos c6] at H;obtain ⟨c6b0, c6b1⟩ := eT c6;clear c6;by_cases c7 : ((rd_T141 l0 x5_1).f2) = (wrap64 ((wrap64 (x1_1 + 1)) + 1))
      ·rw [if_pos c7] at H;obtain ⟨c7b0, c7b1⟩ := eT c7;clear c7;by_cases c8 : ((rd_T141 l0 x5_1).f3) = (wrap64 ((wrap64 ((wrap64 (x1_1 + 1)) + 1)) + 1))
       ·rw [if_pos c8] at H;obtain ⟨c8b0, c8b1⟩ := eT c8;clear c8;have H' := Aside0.mk H;clear H;have p227 : 0 ≤ (x5_1 : Int) := dA;have q227 : x5_1 < (l0.length : Int) := dA;obtain ⟨ad227, e227, hx227_0, hx227_1, hx227_2, hx227_3⟩ := at_T141 HR0.out x5_1 p227 q227;cases e227;replace p227 := eq_true p227;replace q227 := eq_true q227;have p228 : 0 ≤ (x5_1 : Int) := dA;have q228 : x5_1 < (l0.length : Int) := dA;obtain ⟨ad228, e228, hx228_0, hx228_1, hx228_2, hx228_3⟩ := at_T141 HR0.out x5_1 p228 q228
        obtain rfl : ad227 = ad228 := (by injection e228)
        replace p228 := eq_true p228;replace q228 := eq_true q228;have p229 : 0 ≤ (x5_1 : Int) := dA;have q229 : x5_1 < (l0.length : Int) := dA;obtain ⟨ad229, e229, hx229_0, hx229_1, hx229_2, hx229_3⟩ := at_T141 HR0.out x5_1 p229 q229
        obtain rfl : ad227 = ad229 := (by injection e229)
        replace p229 := eq_true p229;replace q229 := eq_true q229;have p230 : 0 ≤ (x5_1 : Int) := dA;have q230 : x5_1 < (l0.length : Int) := dA;obtain ⟨ad230, e230, hx230_0, hx230_1, hx230_2, hx230_3⟩ := at_T141 HR0.out x5_1 p230 q230
        obtain rfl : ad227 = ad230 := (by injection e230)
        replace p230 := eq_true p230;replace q230 := eq_true q230;go_wp2;go_roundg k1
        case measure => have := HK1.out; omega
        case rel => exact ⟨(wrap64 ((wrap64 ((wrap64 ((wrap64 (x1_1 + 1)) + 1)) + 1)) + 1)), (wrap64 (x5_1 + 1)), rS, rS, H', ⟨by have := HK1.out; omega⟩, by repeat (first | exact Drawn0.refl _ | apply Drawn0.step)⟩
       ·rw [if_neg c8] at H;obtain ⟨c8b0, c8b1⟩ := eF c8;obtain rfl := Option.some.inj H;have p227 : 0 ≤ (x5_1 : Int) := dA;have q227 : x5_1 < (l0.length : Int) := dA;obtain ⟨ad227, e227, hx227_0, hx227_1, hx227_2, hx227_3⟩ := at_T141 HR0.out x5_1 p227 q227;cases e227;replace p227 := eq_true p227;replace q227 := eq_true q227;have p228 : 0 ≤ (x5_1 : Int) := dA;have q228 : x5_1 < (l0.length : Int) := dA;obtain ⟨ad228, e228, hx228_0, hx228_1, hx228_2, hx228_3⟩ := at_T141 HR0.out x5_1 p228 q228
        obtain rfl : ad227 = ad228 := (by injection e228)
        replace p228 := eq_true p228;replace q228 := eq_true q228;have p229 : 0 ≤ (x5_1 : Int) := dA;have q229 : x5_1 < (l0.length : Int) := dA;obtain ⟨ad229, e229, hx229_0, hx229_1, hx229_2, hx229_3⟩ := at_T141 HR0.out x5_1 p229 q229
        obtain rfl : ad227 = ad229 := (by injection e229)
        replace p229 := eq_true p229;replace q229 := eq_true q229;have p230 : 0 ≤ (x5_1 : Int) := dA;have q230 : x5_1 < (l0.length : Int) := dA;obtain ⟨ad230, e230, hx230_0, hx230_1, hx230_2, hx230_3⟩ := at_T141 HR0.out x5_1 p230 q230
        obtain rfl : ad227 = ad230 := (by injection e230)
        replace p230 := eq_true p230;replace q230 := eq_true q230;go_wp2;go_ret
        exact ⟨by first | rfl | (simp; done) | (simp [*]; done), by repeat (first | exact Drawn0.refl _ | apply Drawn0.step)⟩
      ·rw [if_neg c7] at H;obtain ⟨c7b0, c7b1⟩ := eF c7;obtain rfl := Option.some.inj H;have p227 : 0 ≤ (x5_1 : Int) := dA;have q227 : x5_1 < (l0.length : Int) := dA;obtain ⟨ad227, e227, hx227_0, hx227_1, hx227_2, hx227_3⟩ := at_T141 HR0.out x5_1 p227 q227;cases e227;replace p227 := eq_true p227;replace q227 := eq_true q227;have p228 : 0 ≤ (x5_1 : Int) := dA;have q228 : x5_1 < (l0.length : Int) := dA;obtain ⟨ad228, e228, hx228_0, hx228_1, hx228_2, hx228_3⟩ := at_T141 HR0.out x5_1 p228 q228
       obtain rfl : ad227 = ad228 := (by injection e228)
       replace p228 := eq_true p228;replace q228 := eq_true q228;have p229 : 0 ≤ (x5_1 : Int) := dA;have q229 : x5_1 < (l0.length : Int) := dA;obtain ⟨ad229, e229, hx229_0, hx229_1, hx229_2, hx229_3⟩ := at_T141 HR0.out x5_1 p229 q229
       obtain rfl : ad227 = ad229 := (by injection e229)
       replace p229 := eq_true p229;replace q229 := eq_true q229;go_wp2;go_ret
       exact ⟨by first | rfl | (simp; done) | (simp [*]; done), by repeat (first | exact Drawn0.refl _ | apply Drawn0.step)⟩
     ·rw [if_neg c6] at H;obtain ⟨c6b0, c6b1⟩ := eF c6;obtain rfl := Option.some.inj H;have p227 : 0 ≤ (x5_1 : Int) := dA;have q227 : x5_1 < (l0.length : Int) := dA;obtain ⟨ad227, e227, hx227_0, hx227_1, hx227_2, hx227_3⟩ := at_T141 HR0.out x5_1 p227 q227;cases e227;replace p227 := eq_true p227;replace q227 := eq_true q227;have p228 : 0 ≤ (x5_1 : Int) := dA;have q228 : x5_1 < (l0.length : Int) := dA;obtain ⟨ad228, e228, hx228_0, hx228_1, hx228_2, hx228_3⟩ := at_T141 HR0.out x5_1 p228 q228
      obtain rfl : ad227 = ad228 := (by injection e228)
      replace p228 := eq_true p228;replace q228 := eq_true q228;go_wp2;go_ret
      exact ⟨by first | rfl | (simp; done) | (simp [*]; done), by repeat (first | exact Drawn0.refl _ | apply Drawn0.step)⟩
    ·rw [if_neg c5] at H;obtain ⟨c5b0, c5b1⟩ := eF c5;obtain rfl := Option.some.inj H;have p227 : 0 ≤ (x5_1 : Int) := dA;have q227 : x5_1 < (l0.length : Int) := dA;obtain ⟨ad227, e227, hx227_0, hx227_1, hx227_2, hx227_3⟩ := at_T141 HR0.out x5_1 p227 q227;cases e227;replace p227 := eq_true p227;replace q227 := eq_true q227;go_wp2;go_ret
     exact ⟨by first | rfl | (simp; done) | (simp [*]; done), by repeat (first | exact Drawn0.refl _ | apply Drawn0.step)⟩
   ·rw [if_neg c3] at H;have c3b0 := decide_eq_false c3;clear c3;obtain rfl := Option.some.inj H;go_wp2;go_ret
    exact ⟨by first | rfl | (simp; done) | (simp [*]; done), by repeat (first | exact Drawn0.refl _ | apply Drawn0.step)⟩
def laws_heldRing.f (k : Nat) (l0_0 : List (S141)) (a0_1 : Int) (a0_2 : Int) (a0_3 : Int) (a1 : Int) : Option (Int) := (laws_heldItemS.f k l0_0 a1).bind fun t232 => (if t232 < 0 then (some (-1)) else (some t232))
set_option maxHeartbeats 8000000 in
set_option maxRecDepth 100000 in
theorem laws_heldRing.calls (k : Nat) (A0_0 : Option Addr) (c0_0 : Nat) (l0_0 : List (S141)) (a0_1 : Int) (a0_2 : Int) (a0_3 : Int) (a1 : Int) (r : Int) (w : World) (hr0_0 : Kd.C k141 w A0_0 l0_0.length l0_0) (hc0_0 : l0_0.length ≤ c0_0) (h : laws_heldRing.f k l0_0 a0_1 a0_2 a0_3 a1 = some r) :
 Calls Try.prog 48 #[.agg #[.slice A0_0 l0_0.length c0_0, .int .i64 a0_1, .int .i64 a0_2, .int .i64 a0_3], .int .i64 a1] w fun e w' => e = .returned (.int .i64 r) ∧ Below w.heap.size w w' := by
 have hu72 := Try.underlying72;have HR0_0 := Aside0.mk hr0_0;have HC0_0 := Aside0.mk hc0_0;clear hr0_0 hc0_0;have HB := Aside0.mk (Below.refl w.heap.size w)
 have H : ((laws_heldItemS.f k l0_0 a1).bind fun t232 => (if t232 < 0 then (some (-1)) else (some t232))) = some r := h
 clear h;replace H := bE H;obtain ⟨t232, A3, H⟩ := H;by_cases c4 : t232 < 0
 ·rw [if_pos c4] at H;have c4b0 := decide_eq_true c4;clear c4;obtain rfl := Option.some.inj H;go_enter Try.func48, Try.ntmps48
  go_wp2_with (first|((with_reducible refine gN 2 ?_);refine boxZ 2 #[.slice A0_0 l0_0.length c0_0, .int .i64 a0_1, .int .i64 a0_2, .int .i64 a0_3] 72 ?_;intro gb231 hg w5 hbox hb;have BK231 := Aside0.mk (hbox);have GW231 := gS hg;have GE231 := gS hg;replace HB := sB hb;clear hb hbox hg;obtain ⟨hcz6_0, hcz6_1, hcz6_2, hcz6_3, hfz6_0, hfz6_1, hfz6_2, hfz6_3⟩ := cz4 BK231)|((with_reducible refine gF 108 ?_);refine goZ (some 8) Try.func108 #[.slice A0_0 l0_0.length c0_0, .int .i64 a1] ?_;(with_reducible refine (laws_heldItemS.calls k _ _ l0_0 a1 t232 _ ?side1 ?side2 A3.out).mono ?_);(case side1 => exact cC (Kd.C_below HR0_0.out HB.out));(case side2 => exact HC0_0.out);rintro e w' ⟨rfl, ⟨nd, rfl⟩⟩;refine ⟨_, rfl, ?_⟩))
  go_ret;exact ⟨rE, cB⟩
 ·rw [if_neg c4] at H;have c4b0 := decide_eq_false c4;clear c4;obtain rfl := Option.some.inj H;go_enter Try.func48, Try.ntmps48
  go_wp2_with (first|((with_reducible refine gN 2 ?_);refine boxZ 2 #[.slice A0_0 l0_0.length c0_0, .int .i64 a0_1, .int .i64 a0_2, .int .i64 a0_3] 72 ?_;intro gb231 hg w7 hbox hb;have BK231 := Aside0.mk (hbox);have GW231 := gS hg;have GE231 := gS hg;replace HB := sB hb;clear hb hbox hg;obtain ⟨hcz8_0, hcz8_1, hcz8_2, hcz8_3, hfz8_0, hfz8_1, hfz8_2, hfz8_3⟩ := cz4 BK231)|((with_reducible refine gF 108 ?_);refine goZ (some 8) Try.func108 #[.slice A0_0 l0_0.length c0_0, .int .i64 a1] ?_;(with_reducible refine (laws_heldItemS.calls k _ _ l0_0 a1 t232 _ ?side1 ?side2 A3.out).mono ?_);(case side1 => exact cC (Kd.C_below HR0_0.out HB.out));(case side2 => exact HC0_0.out);rintro e w' ⟨rfl, ⟨nd, rfl⟩⟩;refine ⟨_, rfl, ?_⟩))
  go_ret;exact ⟨rE, cB⟩
end Go.Proofs.Ytiinjipfhmgheaa.PFnExactOffered
