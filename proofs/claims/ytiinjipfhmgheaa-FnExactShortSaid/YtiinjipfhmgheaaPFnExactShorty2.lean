import Derived.Test.YtiinjipfhmgheaaPFnExactShorty0
namespace Go.Proofs.Ytiinjipfhmgheaa.PFnExactShort
open Go.RowKit Go.Proofs.YtiinjipfhmgheaaW.PrintWords Go.Proofs.YtiinjipfhmgheaaW.PrintLast Go.Proofs.YtiinjipfhmgheaaW.PrintMore Go.Proofs.YtiinjipfhmgheaaW.Z
attribute [local go_sem] max2_int min2_int max_two min_two max_three min_three max_four min_four
set_option linter.unusedVariables false
set_option linter.unusedSimpArgs false
def laws_heldInsS.l0 : Nat → List (S118) → Int → Int → Option (Int)
  | 0, _, _, _ => none
  | k + 1, x0, x1, x5 => if x5 < (x0.length : Int) then (if 0 ≤ x5 then (if ((rd_T118 x0 x5).f0) = x1 then (if ((rd_T118 x0 x5).f1) = (wrap64 (x1 + 1)) then (if ((rd_T118 x0 x5).f2) = (wrap64 ((wrap64 (x1 + 1)) + 1)) then (if ((rd_T118 x0 x5).f3) = (wrap64 ((wrap64 ((wrap64 (x1 + 1)) + 1)) + 1)) then (laws_heldInsS.l0 k x0 (wrap64 ((wrap64 ((wrap64 ((wrap64 (x1 + 1)) + 1)) + 1)) + 1)) (wrap64 (x5 + 1))) else (some (-1))) else (some (-1))) else (some (-1))) else (some (-1))) else (none)) else (some x1)
def laws_heldInsS.f (k : Nat) (l0 : List (S118)) (a1 : Int) : Option (Int) := laws_heldInsS.l0 k l0 a1 0
set_option maxHeartbeats 8000000 in
set_option maxRecDepth 100000 in
theorem laws_heldInsS.calls (k : Nat) (A0 : Option Addr) (c0 : Nat) (l0 : List (S118)) (a1 : Int) (r : Int) (w : World) (hr0 : Kd.C k118 w A0 l0.length l0) (hc0 : l0.length ≤ c0) (h : laws_heldInsS.f k l0 a1 = some r) :
 Calls Try.prog 32 #[.slice A0 l0.length c0, .int .i64 a1] w fun e w' => e = .returned (.int .i64 r) ∧ Drawn0 w w' := by
 have HR0 := Aside0.mk hr0;have HC0 := Aside0.mk hc0;clear hr0 hc0;have H : (laws_heldInsS.l0 k l0 a1 0) = some r := h;clear h;have H' := Aside0.mk H;clear H;go_enter Try.func32, Try.ntmps32;go_wp2
 go_loopg [1, 5] k (fun kq v1 v5 w' => ∃ (x1_1 : Int) (x5_1 : Int), v1 = .int .i64 x1_1 ∧ v5 = .int .i64 x5_1 ∧ Aside0 (laws_heldInsS.l0 kq l0 x1_1 x5_1 = some r) ∧ Aside0 (kq ≤ k) ∧ Drawn0 w w')
 case atStart => exact ⟨(a1), (0), rS, rS, H', ⟨Nat.le_refl _⟩, by repeat (first | exact Drawn0.refl _ | apply Drawn0.step)⟩
 case round =>
  clear H';obtain ⟨x1_1, x5_1, rfl, rfl, HA, HK1, ⟨m1, rfl⟩⟩ := hrel
  cases gk with
  | zero => exact absurd HA.out (by simp [laws_heldInsS.l0])
  | succ k1 =>
   have H := HA.out;clear HA;simp only [laws_heldInsS.l0] at H;by_cases c3 : x5_1 < (l0.length : Int)
   ·rw [if_pos c3] at H;have c3b0 := decide_eq_true c3;clear c3;replace H := gD H;obtain ⟨c4b0, H⟩ := H;by_cases c5 : ((rd_T118 l0 x5_1).f0) = x1_1
    ·rw [if_pos c5] at H;obtain ⟨c5b0, c5b1⟩ := eT c5;clear c5;by_cases c6 : ((rd_T118 l0 x5_1).f1) = (wrap64 (x1_1 + 1))
     ·rw [if_pos c6] at H;obtain ⟨c6b0, c6b1⟩ := eT c6;clear c6;by_cases c7 : ((rd_T118 l0 x5_1).f2) = (wrap64 ((wrap64 (x1_1 + 1)) + 1))
      ·rw [if_pos c7] at H;obtain ⟨c7b0, c7b1⟩ := eT c7;clear c7;by_cases c8 : ((rd_T118 l0 x5_1).f3) = (wrap64 ((wrap64 ((wrap64 (x1_1 + 1)) + 1)) + 1))
       ·rw [if_pos c8] at H;obtain ⟨c8b0, c8b1⟩ := eT c8;clear c8;have H' := Aside0.mk H;clear H;have p122 : 0 ≤ (x5_1 : Int) := dA;have q122 : x5_1 < (l0.length : Int) := dA;obtain ⟨ad122, e122, hx122_0, hx122_1, hx122_2, hx122_3⟩ := at_T118 HR0.out x5_1 p122 q122;cases e122;replace p122 := eq_true p122;replace q122 := eq_true q122;have p123 : 0 ≤ (x5_1 : Int) := dA;have q123 : x5_1 < (l0.length : Int) := dA;obtain ⟨ad123, e123, hx123_0, hx123_1, hx123_2, hx123_3⟩ := at_T118 HR0.out x5_1 p123 q123
        obtain rfl : ad122 = ad123 := (by injection e123)
        replace p123 := eq_true p123;replace q123 := eq_true q123;have p124 : 0 ≤ (x5_1 : Int) := dA;have q124 : x5_1 < (l0.length : Int) := dA;obtain ⟨ad124, e124, hx124_0, hx124_1, hx124_2, hx124_3⟩ := at_T118 HR0.out x5_1 p124 q124
        obtain rfl : ad122 = ad124 := (by injection e124)
        replace p124 := eq_true p124;replace q124 := eq_true q124;have p125 : 0 ≤ (x5_1 : Int) := dA;have q125 : x5_1 < (l0.length : Int) := dA;obtain ⟨ad125, e125, hx125_0, hx125_1, hx125_2, hx125_3⟩ := at_T118 HR0.out x5_1 p125 q125
        obtain rfl : ad122 = ad125 := (by injection e125)
        replace p125 := eq_true p125;replace q125 := eq_true q125;go_wp2;go_roundg k1
        case measure => have := HK1.out; omega
        case rel => exact ⟨(wrap64 ((wrap64 ((wrap64 ((wrap64 (x1_1 + 1)) + 1)) + 1)) + 1)), (wrap64 (x5_1 + 1)), rS, rS, H', ⟨by have := HK1.out; omega⟩, by repeat (first | exact Drawn0.refl _ | apply Drawn0.step)⟩
       ·rw [if_neg c8] at H;obtain ⟨c8b0, c8b1⟩ := eF c8;obtain rfl := Option.some.inj H;have p122 : 0 ≤ (x5_1 : Int) := dA;have q122 : x5_1 < (l0.length : Int) := dA;obtain ⟨ad122, e122, hx122_0, hx122_1, hx122_2, hx122_3⟩ := at_T118 HR0.out x5_1 p122 q122;cases e122;replace p122 := eq_true p122;replace q122 := eq_true q122;have p123 : 0 ≤ (x5_1 : Int) := dA;have q123 : x5_1 < (l0.length : Int) := dA;obtain ⟨ad123, e123, hx123_0, hx123_1, hx123_2, hx123_3⟩ := at_T118 HR0.out x5_1 p123 q123
        obtain rfl : ad122 = ad123 := (by injection e123)
        replace p123 := eq_true p123;replace q123 := eq_true q123;have p124 : 0 ≤ (x5_1 : Int) := dA;have q124 : x5_1 < (l0.length : Int) := dA;obtain ⟨ad124, e124, hx124_0, hx124_1, hx124_2, hx124_3⟩ := at_T118 HR0.out x5_1 p124 q124
        obtain rfl : ad122 = ad124 := (by injection e124)
        replace p124 := eq_true p124;replace q124 := eq_true q124;have p125 : 0 ≤ (x5_1 : Int) := dA;have q125 : x5_1 < (l0.length : Int) := dA;obtain ⟨ad125, e125, hx125_0, hx125_1, hx125_2, hx125_3⟩ := at_T118 HR0.out x5_1 p125 q125
        obtain rfl : ad122 = ad125 := (by injection e125)
        replace p125 := eq_true p125;replace q125 := eq_true q125;go_wp2;go_ret
        exact ⟨by first | rfl | (simp; done) | (simp [*]; done), by repeat (first | exact Drawn0.refl _ | apply Drawn0.step)⟩
      ·rw [if_neg c7] at H;obtain ⟨c7b0, c7b1⟩ := eF c7;obtain rfl := Option.some.inj H;have p122 : 0 ≤ (x5_1 : Int) := dA;have q122 : x5_1 < (l0.length : Int) := dA;obtain ⟨ad122, e122, hx122_0, hx122_1, hx122_2, hx122_3⟩ := at_T118 HR0.out x5_1 p122 q122;cases e122;replace p122 := eq_true p122;replace q122 := eq_true q122;have p123 : 0 ≤ (x5_1 : Int) := dA;have q123 : x5_1 < (l0.length : Int) := dA;obtain ⟨ad123, e123, hx123_0, hx123_1, hx123_2, hx123_3⟩ := at_T118 HR0.out x5_1 p123 q123
       obtain rfl : ad122 = ad123 := (by injection e123)
       replace p123 := eq_true p123;replace q123 := eq_true q123;have p124 : 0 ≤ (x5_1 : Int) := dA;have q124 : x5_1 < (l0.length : Int) := dA;obtain ⟨ad124, e124, hx124_0, hx124_1, hx124_2, hx124_3⟩ := at_T118 HR0.out x5_1 p124 q124
       obtain rfl : ad122 = ad124 := (by injection e124)
       replace p124 := eq_true p124;replace q124 := eq_true q124;go_wp2;go_ret
       exact ⟨by first | rfl | (simp; done) | (simp [*]; done), by repeat (first | exact Drawn0.refl _ | apply Drawn0.step)⟩
     ·rw [if_neg c6] at H;obtain ⟨c6b0, c6b1⟩ := eF c6;obtain rfl := Option.some.inj H;have p122 : 0 ≤ (x5_1 : Int) := dA;have q122 : x5_1 < (l0.length : Int) := dA;obtain ⟨ad122, e122, hx122_0, hx122_1, hx122_2, hx122_3⟩ := at_T118 HR0.out x5_1 p122 q122;cases e122;replace p122 := eq_true p122;replace q122 := eq_true q122;have p123 : 0 ≤ (x5_1 : Int) := dA;have q123 : x5_1 < (l0.length : Int) := dA;obtain ⟨ad123, e123, hx123_0, hx123_1, hx123_2, hx123_3⟩ := at_T118 HR0.out x5_1 p123 q123
      obtain rfl : ad122 = ad123 := (by injection e123)
      replace p123 := eq_true p123;replace q123 := eq_true q123;go_wp2;go_ret
      exact ⟨by first | rfl | (simp; done) | (simp [*]; done), by repeat (first | exact Drawn0.refl _ | apply Drawn0.step)⟩
    ·rw [if_neg c5] at H;obtain ⟨c5b0, c5b1⟩ := eF c5;obtain rfl := Option.some.inj H;have p122 : 0 ≤ (x5_1 : Int) := dA;have q122 : x5_1 < (l0.length : Int) := dA;obtain ⟨ad122, e122, hx122_0, hx122_1, hx122_2, hx122_3⟩ := at_T118 HR0.out x5_1 p122 q122;cases e122;replace p122 := eq_true p122;replace q122 := eq_true q122;go_wp2;go_ret
     exact ⟨by first | rfl | (simp; done) | (simp [*]; done), by repeat (first | exact Drawn0.refl _ | apply Drawn0.step)⟩
   ·rw [if_neg c3] at H;have c3b0 := decide_eq_false c3;clear c3;obtain rfl := Option.some.inj H;go_wp2;go_ret
    exact ⟨by first | rfl | (simp; done) | (simp [*]; done), by repeat (first | exact Drawn0.refl _ | apply Drawn0.step)⟩
def spec_l01In.f (a0 : Int) (a1 : Int) (a2 : Int) : Option (Bool) := if a0 ≥ a1 then (some (decide (a0 ≤ a2))) else (some false)
set_option maxHeartbeats 8000000 in
set_option maxRecDepth 100000 in
theorem spec_l01In.calls (a0 : Int) (a1 : Int) (a2 : Int) (r : Bool) (w : World) (h : spec_l01In.f a0 a1 a2 = some r) :
 Calls Try.prog 93 #[.int .i64 a0, .int .i64 a1, .int .i64 a2] w fun e w' => e = .returned (.bool r) ∧ Drawn0 w w' := by
 have H : (if a0 ≥ a1 then (some (decide (a0 ≤ a2))) else (some false)) = some r := h;clear h;by_cases c4 : a0 ≥ a1
 ·rw [if_pos c4] at H;have c4b0 : decide (a1 ≤ a0) = true := decide_eq_true c4;clear c4;obtain rfl := Option.some.inj H;go_enter Try.func93, Try.ntmps93;go_wp2;go_ret
  exact ⟨by first | rfl | (simp; done) | (simp [*]; done), by repeat (first | exact Drawn0.refl _ | apply Drawn0.step)⟩
 ·rw [if_neg c4] at H;have c4b0 : decide (a1 ≤ a0) = false := decide_eq_false c4;clear c4;obtain rfl := Option.some.inj H;go_enter Try.func93, Try.ntmps93;go_wp2;go_ret
  exact ⟨by first | rfl | (simp; done) | (simp [*]; done), by repeat (first | exact Drawn0.refl _ | apply Drawn0.step)⟩
def spec_HalfOk.f (a0 : Int) : Option (Bool) := (spec_l01In.f a0 0 4294967295).bind fun t126 => (some t126)
set_option maxHeartbeats 8000000 in
set_option maxRecDepth 100000 in
theorem spec_HalfOk.calls (a0 : Int) (r : Bool) (w : World) (h : spec_HalfOk.f a0 = some r) :
 Calls Try.prog 101 #[.int .i64 a0] w fun e w' => e = .returned (.bool r) ∧ Drawn0 w w' := by
 have H : ((spec_l01In.f a0 0 4294967295).bind fun t126 => (some t126)) = some r := h
 clear h;replace H := bE H;obtain ⟨t126, A2, H⟩ := H;obtain rfl := Option.some.inj H;go_enter Try.func101, Try.ntmps101
 go_wp2_with (first|((with_reducible refine gF 93 ?_);refine goZ (some 4) Try.func93 #[.int .i64 a0, .int .i64 0, .int .i64 4294967295] ?_;(with_reducible refine (spec_l01In.calls a0 0 4294967295 t126 _ A2.out).mono ?_);rintro e w' ⟨rfl, ⟨nd, rfl⟩⟩;refine ⟨_, rfl, ?_⟩))
 go_ret
 exact ⟨by first | rfl | (simp; done) | (simp [*]; done), by repeat (first | exact Drawn0.refl _ | apply Drawn0.step)⟩
def spec_l06Ask.f (a0 : Int) : Option (Bool) := (spec_l01In.f a0 3 6).bind fun t127 => (some t127)
set_option maxHeartbeats 8000000 in
set_option maxRecDepth 100000 in
theorem spec_l06Ask.calls (a0 : Int) (r : Bool) (w : World) (h : spec_l06Ask.f a0 = some r) :
 Calls Try.prog 119 #[.int .i64 a0] w fun e w' => e = .returned (.bool r) ∧ Drawn0 w w' := by
 have H : ((spec_l01In.f a0 3 6).bind fun t127 => (some t127)) = some r := h
 clear h;replace H := bE H;obtain ⟨t127, A2, H⟩ := H;obtain rfl := Option.some.inj H;go_enter Try.func119, Try.ntmps119
 go_wp2_with (first|((with_reducible refine gF 93 ?_);refine goZ (some 4) Try.func93 #[.int .i64 a0, .int .i64 3, .int .i64 6] ?_;(with_reducible refine (spec_l01In.calls a0 3 6 t127 _ A2.out).mono ?_);rintro e w' ⟨rfl, ⟨nd, rfl⟩⟩;refine ⟨_, rfl, ?_⟩))
 go_ret
 exact ⟨by first | rfl | (simp; done) | (simp [*]; done), by repeat (first | exact Drawn0.refl _ | apply Drawn0.step)⟩
mutual
def spec_InsOk.j0 : Nat → Bool → Int → Int → Int → Int → Option (Bool)
  | 0, _, _, _, _, _ => none
  | k + 1, x24, x129000, x129001, x129002, x129003 => if x24 = true then (some false) else ((spec_l06Ask.f x129000).bind fun t133 => (if t133 = true then (spec_InsOk.j1 k false x129000 x129001 x129002 x129003) else (if x129002 = 0 then (spec_InsOk.j1 k (x129003 != 0) x129000 x129001 x129002 x129003) else (spec_InsOk.j1 k true x129000 x129001 x129002 x129003))))
def spec_InsOk.j1 : Nat → Bool → Int → Int → Int → Int → Option (Bool)
  | 0, _, _, _, _, _ => none
  | k + 1, x38, x129000, x129001, x129002, x129003 => if x38 = true then (some false) else (if x129000 = 1 then (some (decide (x129001 < 8))) else (if x129000 = 7 then (some (decide (x129001 < 400))) else (some true)))
end
def spec_InsOk.f (k : Nat) (a0_0 : Int) (a0_1 : Int) (a0_2 : Int) (a0_3 : Int) : Option (Bool) := (spec_l01In.f a0_0 1 8).bind fun t129 => (if t129 = true then ((spec_HalfOk.f a0_1).bind fun t130 => (if t130 = true then ((spec_l01In.f a0_2 0 15).bind fun t131 => (if t131 = true then ((spec_l01In.f a0_3 0 15).bind fun t132 => (spec_InsOk.j0 k (!t132) a0_0 a0_1 a0_2 a0_3)) else (spec_InsOk.j0 k true a0_0 a0_1 a0_2 a0_3))) else (spec_InsOk.j0 k true a0_0 a0_1 a0_2 a0_3))) else (spec_InsOk.j0 k true a0_0 a0_1 a0_2 a0_3))
set_option maxHeartbeats 8000000 in
set_option maxRecDepth 100000 in
theorem spec_InsOk.calls (k : Nat) (a0_0 : Int) (a0_1 : Int) (a0_2 : Int) (a0_3 : Int) (r : Bool) (w : World) (h : spec_InsOk.f k a0_0 a0_1 a0_2 a0_3 = some r) :
 Calls Try.prog 136 #[.agg #[.int .i64 a0_0, .int .i64 a0_1, .int .i64 a0_2, .int .i64 a0_3]] w fun e w' => e = .returned (.bool r) ∧ Below w.heap.size w w' := by
 have hu118 := Try.underlying118;have HB := Aside0.mk (Below.refl w.heap.size w)
 have H : ((spec_l01In.f a0_0 1 8).bind fun t129 => (if t129 = true then ((spec_HalfOk.f a0_1).bind fun t130 => (if t130 = true then ((spec_l01In.f a0_2 0 15).bind fun t131 => (if t131 = true then ((spec_l01In.f a0_3 0 15).bind fun t132 => (spec_InsOk.j0 k (!t132) a0_0 a0_1 a0_2 a0_3)) else (spec_InsOk.j0 k true a0_0 a0_1 a0_2 a0_3))) else (spec_InsOk.j0 k true a0_0 a0_1 a0_2 a0_3))) else (spec_InsOk.j0 k true a0_0 a0_1 a0_2 a0_3))) = some r := h
 clear h;have HC2 := Aside0.mk H;clear H;go_enter Try.func136, Try.ntmps136
 go_upto_region 1 with (first|((with_reducible refine gN 1 ?_);refine boxZ 1 #[.int .i64 a0_0, .int .i64 a0_1, .int .i64 a0_2, .int .i64 a0_3] 118 ?_;intro gb128 hg w3 hbox hb;have BK128 := Aside0.mk (hbox);have GW128 := gS hg;have GE128 := gS hg;replace HB := sB hb;clear hb hbox hg))
 (try simp only [Act.put, List.setIfInBounds_toArray, List.set_cons_zero, List.set_cons_succ])
 go_cut [24] (fun v24 wc => ∃ (kq : Nat) (x24_1 : Bool), v24 = .bool x24_1 ∧ Aside0 (spec_InsOk.j0 kq x24_1 a0_0 a0_1 a0_2 a0_3 = some r) ∧ Aside0 (kq ≤ k) ∧ Aside0 (wc.heap[gb128]? = some (.cells #[.int .i64 a0_0, .int .i64 a0_1, .int .i64 a0_2, .int .i64 a0_3] 118 (0, 0))) ∧ Aside0 (Below w.heap.size w wc))
 case first =>
  have H := HC2.out;clear HC2;replace H := bE H;obtain ⟨t129, A4, H⟩ := H;by_cases c5 : t129 = true
  ·subst c5;replace H := iT H;replace H := bE H;obtain ⟨t130, A6, H⟩ := H;by_cases c7 : t130 = true
   ·subst c7;replace H := iT H;replace H := bE H;obtain ⟨t131, A8, H⟩ := H;by_cases c9 : t131 = true
    ·subst c9;replace H := iT H;replace H := bE H;obtain ⟨t132, A10, H⟩ := H;have H' := Aside0.mk H;clear H;obtain ⟨hcz11_0, hcz11_1, hcz11_2, hcz11_3, hfz11_0, hfz11_1, hfz11_2, hfz11_3⟩ := cz4 BK128
     go_wp2_with (first|((with_reducible refine gF 93 ?_);refine goZ (some 5) Try.func93 #[.int .i64 a0_0, .int .i64 1, .int .i64 8] ?_;(with_reducible refine (spec_l01In.calls a0_0 1 8 true _ A4.out).mono ?_);rintro e w' ⟨rfl, ⟨nd, rfl⟩⟩;refine ⟨_, rfl, ?_⟩)|(go_at_call 101;(with_reducible refine (spec_HalfOk.calls a0_1 true _ A6.out).mono ?_);rintro e w' ⟨rfl, ⟨nd, rfl⟩⟩)|(go_at_call 93;(with_reducible refine (spec_l01In.calls a0_2 0 15 true _ A8.out).mono ?_);rintro e w' ⟨rfl, ⟨nd, rfl⟩⟩)|(go_at_call 93;(with_reducible refine (spec_l01In.calls a0_3 0 15 t132 _ A10.out).mono ?_);rintro e w' ⟨rfl, ⟨nd, rfl⟩⟩))
     go_meet
     case rel => exact ⟨_, (!t132), rS, H', ⟨oL⟩, ⟨mK BK128⟩, ⟨cB⟩⟩
    ·replace c9 := Bool.eq_false_iff.mpr c9;subst c9;replace H := iF H;have H' := Aside0.mk H;clear H;obtain ⟨hcz12_0, hcz12_1, hcz12_2, hcz12_3, hfz12_0, hfz12_1, hfz12_2, hfz12_3⟩ := cz4 BK128
     go_wp2_with (first|((with_reducible refine gF 93 ?_);refine goZ (some 5) Try.func93 #[.int .i64 a0_0, .int .i64 1, .int .i64 8] ?_;(with_reducible refine (spec_l01In.calls a0_0 1 8 true _ A4.out).mono ?_);rintro e w' ⟨rfl, ⟨nd, rfl⟩⟩;refine ⟨_, rfl, ?_⟩)|(go_at_call 101;(with_reducible refine (spec_HalfOk.calls a0_1 true _ A6.out).mono ?_);rintro e w' ⟨rfl, ⟨nd, rfl⟩⟩)|(go_at_call 93;(with_reducible refine (spec_l01In.calls a0_2 0 15 false _ A8.out).mono ?_);rintro e w' ⟨rfl, ⟨nd, rfl⟩⟩))
     go_meet
     case rel => exact ⟨_, (true), rS, H', ⟨oL⟩, ⟨mK BK128⟩, ⟨cB⟩⟩
   ·replace c7 := Bool.eq_false_iff.mpr c7;subst c7;replace H := iF H;have H' := Aside0.mk H;clear H;obtain ⟨hcz13_0, hcz13_1, hcz13_2, hcz13_3, hfz13_0, hfz13_1, hfz13_2, hfz13_3⟩ := cz4 BK128
    go_wp2_with (first|((with_reducible refine gF 93 ?_);refine goZ (some 5) Try.func93 #[.int .i64 a0_0, .int .i64 1, .int .i64 8] ?_;(with_reducible refine (spec_l01In.calls a0_0 1 8 true _ A4.out).mono ?_);rintro e w' ⟨rfl, ⟨nd, rfl⟩⟩;refine ⟨_, rfl, ?_⟩)|(go_at_call 101;(with_reducible refine (spec_HalfOk.calls a0_1 false _ A6.out).mono ?_);rintro e w' ⟨rfl, ⟨nd, rfl⟩⟩))
    go_meet
    case rel => exact ⟨_, (true), rS, H', ⟨oL⟩, ⟨mK BK128⟩, ⟨cB⟩⟩
  ·replace c5 := Bool.eq_false_iff.mpr c5;subst c5;replace H := iF H;have H' := Aside0.mk H;clear H;obtain ⟨hcz14_0, hcz14_1, hcz14_2, hcz14_3, hfz14_0, hfz14_1, hfz14_2, hfz14_3⟩ := cz4 BK128
   go_wp2_with (first|((with_reducible refine gF 93 ?_);refine goZ (some 5) Try.func93 #[.int .i64 a0_0, .int .i64 1, .int .i64 8] ?_;(with_reducible refine (spec_l01In.calls a0_0 1 8 false _ A4.out).mono ?_);rintro e w' ⟨rfl, ⟨nd, rfl⟩⟩;refine ⟨_, rfl, ?_⟩))
   go_meet
   case rel => exact ⟨_, (true), rS, H', ⟨oL⟩, ⟨mK BK128⟩, ⟨cB⟩⟩
 case rest =>
  clear HC2;(try clear c5);(try clear c7);(try clear c9);(try clear hcz11_0);(try clear hcz11_1);(try clear hcz11_2);(try clear hcz11_3);(try clear hcz12_0);(try clear hcz12_1);(try clear hcz12_2);(try clear hcz12_3);(try clear hcz13_0);(try clear hcz13_1);(try clear hcz13_2);(try clear hcz13_3);(try clear hcz14_0);(try clear hcz14_1);(try clear hcz14_2);(try clear hcz14_3);(try clear hfz11_0);(try clear hfz11_1);(try clear hfz11_2);(try clear hfz11_3);(try clear hfz12_0);(try clear hfz12_1);(try clear hfz12_2);(try clear hfz12_3);(try clear hfz13_0);(try clear hfz13_1);(try clear hfz13_2);(try clear hfz13_3);(try clear hfz14_0);(try clear hfz14_1);(try clear hfz14_2);(try clear hfz14_3);obtain ⟨kq, x24_1, rfl, HA, HJ1, BK128, HB⟩ := hcut
  cases kq with
  | zero => exact absurd HA.out (by simp [spec_InsOk.j0])
  | succ kj1 =>
   have H := HA.out;clear HA;simp only [spec_InsOk.j0] at H;by_cases c15 : x24_1 = true
   ·subst c15;replace H := iT H;obtain rfl := Option.some.inj H;go_wp2;go_ret;exact ⟨rE, cB⟩
   ·replace c15 := Bool.eq_false_iff.mpr c15;subst c15;replace H := iF H;have HC16 := Aside0.mk H;clear H
    go_upto_region 3 with (fail)
    go_cut [38] (fun v38 wc => ∃ (kq : Nat) (x38_15 : Bool), v38 = .bool x38_15 ∧ Aside0 (spec_InsOk.j1 kq x38_15 a0_0 a0_1 a0_2 a0_3 = some r) ∧ Aside0 (kq ≤ kj1) ∧ Aside0 (wc.heap[gb128]? = some (.cells #[.int .i64 a0_0, .int .i64 a0_1, .int .i64 a0_2, .int .i64 a0_3] 118 (0, 0))) ∧ Aside0 (Below w.heap.size w wc))
    case first =>
     have H := HC16.out;clear HC16;replace H := bE H;obtain ⟨t133, A17, H⟩ := H;by_cases c18 : t133 = true
     ·subst c18;replace H := iT H;have H' := Aside0.mk H;clear H;obtain ⟨hcz19_0, hcz19_1, hcz19_2, hcz19_3, hfz19_0, hfz19_1, hfz19_2, hfz19_3⟩ := cz4 BK128
      go_wp2_with (first|((with_reducible refine gF 119 ?_);refine goZ (some 27) Try.func119 #[.int .i64 a0_0] ?_;(with_reducible refine (spec_l06Ask.calls a0_0 true _ A17.out).mono ?_);rintro e w' ⟨rfl, ⟨nd, rfl⟩⟩;refine ⟨_, rfl, ?_⟩))
      go_meet
      case rel => exact ⟨_, (false), rS, H', ⟨by have := HJ1.out; first | omega | exact Nat.le_refl _⟩, ⟨mK BK128⟩, ⟨cB⟩⟩
     ·replace c18 := Bool.eq_false_iff.mpr c18;subst c18;replace H := iF H;by_cases c20 : a0_2 = 0
      ·rw [if_pos c20] at H;obtain ⟨c20b0, c20b1⟩ := eT c20;clear c20
       (first | rw [c20b0] | (simp only [i64_w, i32_w]; rw [c20b0]) | skip)
       have H' := Aside0.mk H;clear H;obtain ⟨hcz21_0, hcz21_1, hcz21_2, hcz21_3, hfz21_0, hfz21_1, hfz21_2, hfz21_3⟩ := cz4 BK128
       go_wp2_with (first|((with_reducible refine gF 119 ?_);refine goZ (some 27) Try.func119 #[.int .i64 a0_0] ?_;(with_reducible refine (spec_l06Ask.calls a0_0 false _ A17.out).mono ?_);rintro e w' ⟨rfl, ⟨nd, rfl⟩⟩;refine ⟨_, rfl, ?_⟩))
       go_meet
       case rel => exact ⟨_, ((a0_3 != 0)), rS, H', ⟨by have := HJ1.out; first | omega | exact Nat.le_refl _⟩, ⟨mK BK128⟩, ⟨cB⟩⟩
      ·rw [if_neg c20] at H;obtain ⟨c20b0, c20b1⟩ := eF c20
       (first | rw [c20b0] | (simp only [i64_w, i32_w]; rw [c20b0]) | skip)
       have H' := Aside0.mk H;clear H;obtain ⟨hcz22_0, hcz22_1, hcz22_2, hcz22_3, hfz22_0, hfz22_1, hfz22_2, hfz22_3⟩ := cz4 BK128
       go_wp2_with (first|((with_reducible refine gF 119 ?_);refine goZ (some 27) Try.func119 #[.int .i64 a0_0] ?_;(with_reducible refine (spec_l06Ask.calls a0_0 false _ A17.out).mono ?_);rintro e w' ⟨rfl, ⟨nd, rfl⟩⟩;refine ⟨_, rfl, ?_⟩))
       go_meet
       case rel => exact ⟨_, (true), rS, H', ⟨by have := HJ1.out; first | omega | exact Nat.le_refl _⟩, ⟨mK BK128⟩, ⟨cB⟩⟩
    case rest =>
     clear HC16;(try clear c5);(try clear c7);(try clear c9);(try clear c15);(try clear c18);(try clear c20);(try clear c20b0);(try clear c20b1);(try clear hcz11_0);(try clear hcz11_1);(try clear hcz11_2);(try clear hcz11_3);(try clear hcz12_0);(try clear hcz12_1);(try clear hcz12_2);(try clear hcz12_3);(try clear hcz13_0);(try clear hcz13_1);(try clear hcz13_2);(try clear hcz13_3);(try clear hcz14_0);(try clear hcz14_1);(try clear hcz14_2);(try clear hcz14_3);(try clear hcz19_0);(try clear hcz19_1);(try clear hcz19_2);(try clear hcz19_3);(try clear hcz21_0);(try clear hcz21_1);(try clear hcz21_2);(try clear hcz21_3);(try clear hcz22_0);(try clear hcz22_1);(try clear hcz22_2);(try clear hcz22_3);(try clear hfz11_0);(try clear hfz11_1);(try clear hfz11_2);(try clear hfz11_3);(try clear hfz12_0);(try clear hfz12_1);(try clear hfz12_2);(try clear hfz12_3);(try clear hfz13_0);(try clear hfz13_1);(try clear hfz13_2);(try clear hfz13_3);(try clear hfz14_0);(try clear hfz14_1);(try clear hfz14_2);(try clear hfz14_3);(try clear hfz19_0);(try clear hfz19_1);(try clear hfz19_2);(try clear hfz19_3);(try clear hfz21_0);(try clear hfz21_1);(try clear hfz21_2);(try clear hfz21_3);(try clear hfz22_0);(try clear hfz22_1);(try clear hfz22_2);(try clear hfz22_3);obtain ⟨kq, x38_15, rfl, HA, HJ15, BK128, HB⟩ := hcut
     cases kq with
     | zero => exact absurd HA.out (by simp [spec_InsOk.j1])
     | succ kj15 =>
      have H := HA.out;clear HA;simp only [spec_InsOk.j1] at H;by_cases c23 : x38_15 = true
      ·subst c23;replace H := iT H;obtain rfl := Option.some.inj H;go_wp2;go_ret;exact ⟨rE, cB⟩
      ·replace c23 := Bool.eq_false_iff.mpr c23;subst c23;replace H := iF H;by_cases c24 : a0_0 = 1
       ·rw [if_pos c24] at H;obtain ⟨c24b0, c24b1⟩ := eT c24;clear c24;obtain rfl := Option.some.inj H;obtain ⟨hcz25_0, hcz25_1, hcz25_2, hcz25_3, hfz25_0, hfz25_1, hfz25_2, hfz25_3⟩ := cz4 BK128;go_wp2;go_ret;exact ⟨rE, cB⟩
       ·rw [if_neg c24] at H;obtain ⟨c24b0, c24b1⟩ := eF c24;by_cases c26 : a0_0 = 7
        ·rw [if_pos c26] at H;obtain ⟨c26b0, c26b1⟩ := eT c26;clear c26;obtain rfl := Option.some.inj H;obtain ⟨hcz27_0, hcz27_1, hcz27_2, hcz27_3, hfz27_0, hfz27_1, hfz27_2, hfz27_3⟩ := cz4 BK128;go_wp2;go_ret;exact ⟨rE, cB⟩
        ·rw [if_neg c26] at H;obtain ⟨c26b0, c26b1⟩ := eF c26;obtain rfl := Option.some.inj H;obtain ⟨hcz28_0, hcz28_1, hcz28_2, hcz28_3, hfz28_0, hfz28_1, hfz28_2, hfz28_3⟩ := cz4 BK128;go_wp2;go_ret;exact ⟨rE, cB⟩
def spec_l07Far.f (a0_0 : Int) (a0_1 : Int) (a0_2 : Int) (a0_3 : Int) : Option (Int) := if a0_0 = 7 then (some a0_1) else (if a0_2 > a0_3 then (some a0_2) else (some a0_3))
set_option maxHeartbeats 8000000 in
set_option maxRecDepth 100000 in
theorem spec_l07Far.calls (a0_0 : Int) (a0_1 : Int) (a0_2 : Int) (a0_3 : Int) (r : Int) (w : World) (h : spec_l07Far.f a0_0 a0_1 a0_2 a0_3 = some r) :
 Calls Try.prog 137 #[.agg #[.int .i64 a0_0, .int .i64 a0_1, .int .i64 a0_2, .int .i64 a0_3]] w fun e w' => e = .returned (.int .i64 r) ∧ Below w.heap.size w w' := by
 have hu118 := Try.underlying118;have HB := Aside0.mk (Below.refl w.heap.size w);have H : (if a0_0 = 7 then (some a0_1) else (if a0_2 > a0_3 then (some a0_2) else (some a0_3))) = some r := h;clear h;by_cases c2 : a0_0 = 7
 ·rw [if_pos c2] at H;obtain ⟨c2b0, c2b1⟩ := eT c2;clear c2;obtain rfl := Option.some.inj H;go_enter Try.func137, Try.ntmps137
  go_wp2_with (first|((with_reducible refine gN 1 ?_);refine boxZ 1 #[.int .i64 a0_0, .int .i64 a0_1, .int .i64 a0_2, .int .i64 a0_3] 118 ?_;intro gb134 hg w3 hbox hb;have BK134 := Aside0.mk (hbox);have GW134 := gS hg;have GE134 := gS hg;replace HB := sB hb;clear hb hbox hg;obtain ⟨hcz4_0, hcz4_1, hcz4_2, hcz4_3, hfz4_0, hfz4_1, hfz4_2, hfz4_3⟩ := cz4 BK134))
  go_ret;exact ⟨rE, cB⟩
 ·rw [if_neg c2] at H;obtain ⟨c2b0, c2b1⟩ := eF c2;by_cases c5 : a0_2 > a0_3
  ·rw [if_pos c5] at H;have c5b0 : decide (a0_3 < a0_2) = true := decide_eq_true c5;clear c5;obtain rfl := Option.some.inj H;go_enter Try.func137, Try.ntmps137
   go_wp2_with (first|((with_reducible refine gN 1 ?_);refine boxZ 1 #[.int .i64 a0_0, .int .i64 a0_1, .int .i64 a0_2, .int .i64 a0_3] 118 ?_;intro gb134 hg w6 hbox hb;have BK134 := Aside0.mk (hbox);have GW134 := gS hg;have GE134 := gS hg;replace HB := sB hb;clear hb hbox hg;obtain ⟨hcz7_0, hcz7_1, hcz7_2, hcz7_3, hfz7_0, hfz7_1, hfz7_2, hfz7_3⟩ := cz4 BK134))
   go_ret;exact ⟨rE, cB⟩
  ·rw [if_neg c5] at H;have c5b0 : decide (a0_3 < a0_2) = false := decide_eq_false c5;clear c5;obtain rfl := Option.some.inj H;go_enter Try.func137, Try.ntmps137
   go_wp2_with (first|((with_reducible refine gN 1 ?_);refine boxZ 1 #[.int .i64 a0_0, .int .i64 a0_1, .int .i64 a0_2, .int .i64 a0_3] 118 ?_;intro gb134 hg w8 hbox hb;have BK134 := Aside0.mk (hbox);have GW134 := gS hg;have GE134 := gS hg;replace HB := sB hb;clear hb hbox hg;obtain ⟨hcz9_0, hcz9_1, hcz9_2, hcz9_3, hfz9_0, hfz9_1, hfz9_2, hfz9_3⟩ := cz4 BK134))
   go_ret;exact ⟨rE, cB⟩
end Go.Proofs.Ytiinjipfhmgheaa.PFnExactShort
