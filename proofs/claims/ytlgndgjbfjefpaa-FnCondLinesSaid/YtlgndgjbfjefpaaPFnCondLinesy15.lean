import Derived.Test.YtlgndgjbfjefpaaPFnCondLinesy0
import Derived.Test.YtlgndgjbfjefpaaPFnCondLinesy2
import Derived.Test.YtlgndgjbfjefpaaPFnCondLinesy5
import Derived.Test.YtlgndgjbfjefpaaPFnCondLinesy10
namespace Go.Proofs.Ytlgndgjbfjefpaa.PFnCondLines
open Go.RowKit Go.Proofs.YtlgndgjbfjefpaaW.PrintWords Go.Proofs.YtlgndgjbfjefpaaW.PrintLast Go.Proofs.YtlgndgjbfjefpaaW.PrintMore Go.Proofs.YtlgndgjbfjefpaaW.Z
attribute [local go_sem] isS max2_int min2_int max_two min_two max_three min_three max_four min_four
set_option linter.unusedVariables false
set_option linter.unusedSimpArgs false
def spec_l07Far.f (a0_0 : Int) (a0_1 : Int) (a0_2 : Int) (a0_3 : Int) : Option (Int) := if a0_0 = 7 then (some a0_1) else (if a0_2 > a0_3 then (some a0_2) else (some a0_3))
set_option maxHeartbeats 8000000 in
set_option maxRecDepth 100000 in
theorem spec_l07Far.calls (a0_0 : Int) (a0_1 : Int) (a0_2 : Int) (a0_3 : Int) (r : Int) (w : World) (h : spec_l07Far.f a0_0 a0_1 a0_2 a0_3 = some r) :
 Calls Try.prog 140 #[.agg #[.int .i64 a0_0, .int .i64 a0_1, .int .i64 a0_2, .int .i64 a0_3]] w fun e w' => e = .returned (.int .i64 r) ∧ Below w.heap.size w w' := by
 have hu93 := Try.underlying93;have HB := Aside0.mk (Below.refl w.heap.size w);have H : (if a0_0 = 7 then (some a0_1) else (if a0_2 > a0_3 then (some a0_2) else (some a0_3))) = some r := h;clear h;by_cases c2 : a0_0 = 7
 ·rw [if_pos c2] at H;obtain ⟨c2b0, c2b1⟩ := eT c2;clear c2;obtain rfl := Option.some.inj H;go_enter Try.func140, Try.ntmps140
  go_wp2_with (first|((with_reducible refine gN 1 ?_);refine boxZ 1 #[.int .i64 a0_0, .int .i64 a0_1, .int .i64 a0_2, .int .i64 a0_3] 93 ?_;intro gb667 hg w3 hbox hb;have BK667 := Aside0.mk (hbox);have GW667 := gS hg;have GE667 := gS hg;replace HB := sB hb;clear hb hbox hg;obtain ⟨hcz4_0, hcz4_1, hcz4_2, hcz4_3, hfz4_0, hfz4_1, hfz4_2, hfz4_3⟩ := cz4 BK667))
  go_ret;exact ⟨rE, cB⟩
 ·rw [if_neg c2] at H;obtain ⟨c2b0, c2b1⟩ := eF c2;by_cases c5 : a0_2 > a0_3
  ·rw [if_pos c5] at H;have c5b0 : decide (a0_3 < a0_2) = true := decide_eq_true c5;clear c5;obtain rfl := Option.some.inj H;go_enter Try.func140, Try.ntmps140
   go_wp2_with (first|((with_reducible refine gN 1 ?_);refine boxZ 1 #[.int .i64 a0_0, .int .i64 a0_1, .int .i64 a0_2, .int .i64 a0_3] 93 ?_;intro gb667 hg w6 hbox hb;have BK667 := Aside0.mk (hbox);have GW667 := gS hg;have GE667 := gS hg;replace HB := sB hb;clear hb hbox hg;obtain ⟨hcz7_0, hcz7_1, hcz7_2, hcz7_3, hfz7_0, hfz7_1, hfz7_2, hfz7_3⟩ := cz4 BK667))
   go_ret;exact ⟨rE, cB⟩
  ·rw [if_neg c5] at H;have c5b0 : decide (a0_3 < a0_2) = false := decide_eq_false c5;clear c5;obtain rfl := Option.some.inj H;go_enter Try.func140, Try.ntmps140
   go_wp2_with (first|((with_reducible refine gN 1 ?_);refine boxZ 1 #[.int .i64 a0_0, .int .i64 a0_1, .int .i64 a0_2, .int .i64 a0_3] 93 ?_;intro gb667 hg w8 hbox hb;have BK667 := Aside0.mk (hbox);have GW667 := gS hg;have GE667 := gS hg;replace HB := sB hb;clear hb hbox hg;obtain ⟨hcz9_0, hcz9_1, hcz9_2, hcz9_3, hfz9_0, hfz9_1, hfz9_2, hfz9_3⟩ := cz4 BK667))
   go_ret;exact ⟨rE, cB⟩
def spec_CheckProgram.l0 : Nat → List (S93) → Int → Option (Bool)
  | 0, _, _ => none
  | k + 1, x0, x3 => if x3 < (x0.length : Int) then (if 0 ≤ x3 then ((spec_InsOk.f k ((rd_T93 x0 x3).f0) ((rd_T93 x0 x3).f1) ((rd_T93 x0 x3).f2) ((rd_T93 x0 x3).f3)).bind fun t671 => (if t671 = true then (if ((rd_T93 x0 x3).f0) = 8 then (spec_CheckProgram.l0 k x0 (wrap64 (x3 + 1))) else ((spec_l07Far.f ((rd_T93 x0 x3).f0) ((rd_T93 x0 x3).f1) ((rd_T93 x0 x3).f2) ((rd_T93 x0 x3).f3)).bind fun t674 => (if (wrap64 ((wrap64 (x3 + 1)) + t674)) ≥ (x0.length : Int) then (some false) else (spec_CheckProgram.l0 k x0 (wrap64 (x3 + 1)))))) else (some false))) else (none)) else (if 0 ≤ (wrap64 ((x0.length : Int) - 1)) then (if (wrap64 ((x0.length : Int) - 1)) < (x0.length : Int) then (some (((rd_T93 x0 (wrap64 ((x0.length : Int) - 1))).f0) == 8)) else (none)) else (none))
def spec_CheckProgram.f (k : Nat) (l0 : List (S93)) : Option (Bool) := (spec_l01In.f (l0.length : Int) 1 400).bind fun t668 => (if t668 = true then (spec_CheckProgram.l0 k l0 0) else (some false))
set_option maxHeartbeats 8000000 in
set_option maxRecDepth 100000 in
theorem spec_CheckProgram.calls (k : Nat) (A0 : Option Addr) (c0 : Nat) (l0 : List (S93)) (r : Bool) (w : World) (hr0 : Kd.C k93 w A0 l0.length l0) (hc0 : l0.length ≤ c0) (h : spec_CheckProgram.f k l0 = some r) :
 Calls Try.prog 70 #[.slice A0 l0.length c0] w fun e w' => e = .returned (.bool r) ∧ Below w.heap.size w w' := by
 have hu93 := Try.underlying93;have HR0 := Aside0.mk hr0;have HC0 := Aside0.mk hc0;clear hr0 hc0;have HB := Aside0.mk (Below.refl w.heap.size w)
 have H : ((spec_l01In.f (l0.length : Int) 1 400).bind fun t668 => (if t668 = true then (spec_CheckProgram.l0 k l0 0) else (some false))) = some r := h
 clear h;replace H := bE H;obtain ⟨t668, A2, H⟩ := H;by_cases c3 : t668 = true
 ·subst c3;replace H := iT H;have H' := Aside0.mk H;clear H;go_enter Try.func70, Try.ntmps70
  go_wp2_with (first|((with_reducible refine gF 100 ?_);refine goZ (some 6) Try.func100 #[.int .i64 (l0.length : Int), .int .i64 1, .int .i64 400] ?_;(with_reducible refine (spec_l01In.calls (l0.length : Int) 1 400 true _ A2.out).mono ?_);rintro e w' ⟨rfl, ⟨nd, rfl⟩⟩;refine ⟨_, rfl, ?_⟩))
  go_loopg [3] k (fun kq v3 w' => ∃ (x3_1 : Int), v3 = .int .i64 x3_1 ∧ Aside0 (spec_CheckProgram.l0 kq l0 x3_1 = some r) ∧ Aside0 (kq ≤ k) ∧ Aside0 (Below w.heap.size w w'))
  case atStart => exact ⟨(0), rS, H', ⟨Nat.le_refl _⟩, ⟨cB⟩⟩
  case round =>
   clear H';(try clear c3);obtain ⟨x3_1, rfl, HA, HK1, HB⟩ := hrel
   cases gk with
   | zero => exact absurd HA.out (by simp [spec_CheckProgram.l0])
   | succ k1 =>
    have H := HA.out;clear HA;simp only [spec_CheckProgram.l0] at H;by_cases c4 : x3_1 < (l0.length : Int)
    ·rw [if_pos c4] at H;have c4b0 := decide_eq_true c4;clear c4;replace H := gD H;obtain ⟨c5b0, H⟩ := H;replace H := bE H;obtain ⟨t671, A6, H⟩ := H;by_cases c7 : t671 = true
     ·subst c7;replace H := iT H;by_cases c8 : ((rd_T93 l0 x3_1).f0) = 8
      ·rw [if_pos c8] at H;obtain ⟨c8b0, c8b1⟩ := eT c8;clear c8;have H' := Aside0.mk H;clear H;have p670 : 0 ≤ (x3_1 : Int) := dA;have q670 : x3_1 < (l0.length : Int) := dA;obtain ⟨ad670, e670, hx670_0, hx670_1, hx670_2, hx670_3⟩ := at_T93 HR0.out x3_1 p670 q670;cases e670;replace hx670_0 := (bc HB hx670_0 :);replace hx670_1 := (bc HB hx670_1 :);replace hx670_2 := (bc HB hx670_2 :);replace hx670_3 := (bc HB hx670_3 :);replace p670 := eq_true p670;replace q670 := eq_true q670
       go_wp2_with (first|((with_reducible refine gF 139 ?_);refine goZ (some 18) Try.func139 #[.agg #[.int .i64 ((rd_T93 l0 x3_1).f0), .int .i64 ((rd_T93 l0 x3_1).f1), .int .i64 ((rd_T93 l0 x3_1).f2), .int .i64 ((rd_T93 l0 x3_1).f3)]] ?_;(with_reducible refine (spec_InsOk.calls k1 ((rd_T93 l0 x3_1).f0) ((rd_T93 l0 x3_1).f1) ((rd_T93 l0 x3_1).f2) ((rd_T93 l0 x3_1).f3) true _ A6.out).mono ?_);rintro e w9 ⟨rfl, hb⟩;refine ⟨_, rfl, ?_⟩;replace HB := sB hb;(try clear hb);have p672 : 0 ≤ (x3_1 : Int) := dA;have q672 : x3_1 < (l0.length : Int) := dA;obtain ⟨ad672, e672, hx672_0, hx672_1, hx672_2, hx672_3⟩ := at_T93 HR0.out x3_1 p672 q672;obtain rfl : ad670 = ad672 := (by injection e672);replace hx672_0 := (bc HB hx672_0 :);replace hx672_1 := (bc HB hx672_1 :);replace hx672_2 := (bc HB hx672_2 :);replace hx672_3 := (bc HB hx672_3 :);replace p672 := eq_true p672;replace q672 := eq_true q672))
       go_roundg k1
       case measure => have := HK1.out; omega
       case rel => exact ⟨(wrap64 (x3_1 + 1)), rS, H', ⟨by have := HK1.out; omega⟩, ⟨cB⟩⟩
      ·rw [if_neg c8] at H;obtain ⟨c8b0, c8b1⟩ := eF c8;replace H := bE H;obtain ⟨t674, A10, H⟩ := H;by_cases c11 : (wrap64 ((wrap64 (x3_1 + 1)) + t674)) ≥ (l0.length : Int)
       ·rw [if_pos c11] at H;have c11b0 : decide ((l0.length : Int) ≤ (wrap64 ((wrap64 (x3_1 + 1)) + t674))) = true := decide_eq_true c11;clear c11;obtain rfl := Option.some.inj H;have p670 : 0 ≤ (x3_1 : Int) := dA;have q670 : x3_1 < (l0.length : Int) := dA;obtain ⟨ad670, e670, hx670_0, hx670_1, hx670_2, hx670_3⟩ := at_T93 HR0.out x3_1 p670 q670;cases e670;replace hx670_0 := (bc HB hx670_0 :);replace hx670_1 := (bc HB hx670_1 :);replace hx670_2 := (bc HB hx670_2 :);replace hx670_3 := (bc HB hx670_3 :);replace p670 := eq_true p670;replace q670 := eq_true q670
        go_wp2_with (first|((with_reducible refine gF 139 ?_);refine goZ (some 18) Try.func139 #[.agg #[.int .i64 ((rd_T93 l0 x3_1).f0), .int .i64 ((rd_T93 l0 x3_1).f1), .int .i64 ((rd_T93 l0 x3_1).f2), .int .i64 ((rd_T93 l0 x3_1).f3)]] ?_;(with_reducible refine (spec_InsOk.calls k1 ((rd_T93 l0 x3_1).f0) ((rd_T93 l0 x3_1).f1) ((rd_T93 l0 x3_1).f2) ((rd_T93 l0 x3_1).f3) true _ A6.out).mono ?_);rintro e w12 ⟨rfl, hb⟩;refine ⟨_, rfl, ?_⟩;replace HB := sB hb;(try clear hb);have p672 : 0 ≤ (x3_1 : Int) := dA;have q672 : x3_1 < (l0.length : Int) := dA;obtain ⟨ad672, e672, hx672_0, hx672_1, hx672_2, hx672_3⟩ := at_T93 HR0.out x3_1 p672 q672;obtain rfl : ad670 = ad672 := (by injection e672);replace hx672_0 := (bc HB hx672_0 :);replace hx672_1 := (bc HB hx672_1 :);replace hx672_2 := (bc HB hx672_2 :);replace hx672_3 := (bc HB hx672_3 :);replace p672 := eq_true p672;replace q672 := eq_true q672;have p673 : 0 ≤ (x3_1 : Int) := dA;have q673 : x3_1 < (l0.length : Int) := dA;obtain ⟨ad673, e673, hx673_0, hx673_1, hx673_2, hx673_3⟩ := at_T93 HR0.out x3_1 p673 q673;obtain rfl : ad670 = ad673 := (by injection e673);replace hx673_0 := (bc HB hx673_0 :);replace hx673_1 := (bc HB hx673_1 :);replace hx673_2 := (bc HB hx673_2 :);replace hx673_3 := (bc HB hx673_3 :);replace p673 := eq_true p673;replace q673 := eq_true q673)|(go_at_call 140;(with_reducible refine (spec_l07Far.calls ((rd_T93 l0 x3_1).f0) ((rd_T93 l0 x3_1).f1) ((rd_T93 l0 x3_1).f2) ((rd_T93 l0 x3_1).f3) t674 _ A10.out).mono ?_);rintro e w13 ⟨rfl, hb⟩;replace HB := sB hb;(try clear hb)))
        go_ret;exact ⟨rE, cB⟩
       ·rw [if_neg c11] at H;have c11b0 : decide ((l0.length : Int) ≤ (wrap64 ((wrap64 (x3_1 + 1)) + t674))) = false := decide_eq_false c11;clear c11;have H' := Aside0.mk H;clear H;have p670 : 0 ≤ (x3_1 : Int) := dA;have q670 : x3_1 < (l0.length : Int) := dA;obtain ⟨ad670, e670, hx670_0, hx670_1, hx670_2, hx670_3⟩ := at_T93 HR0.out x3_1 p670 q670;cases e670;replace hx670_0 := (bc HB hx670_0 :);replace hx670_1 := (bc HB hx670_1 :);replace hx670_2 := (bc HB hx670_2 :);replace hx670_3 := (bc HB hx670_3 :);replace p670 := eq_true p670;replace q670 := eq_true q670
        go_wp2_with (first|((with_reducible refine gF 139 ?_);refine goZ (some 18) Try.func139 #[.agg #[.int .i64 ((rd_T93 l0 x3_1).f0), .int .i64 ((rd_T93 l0 x3_1).f1), .int .i64 ((rd_T93 l0 x3_1).f2), .int .i64 ((rd_T93 l0 x3_1).f3)]] ?_;(with_reducible refine (spec_InsOk.calls k1 ((rd_T93 l0 x3_1).f0) ((rd_T93 l0 x3_1).f1) ((rd_T93 l0 x3_1).f2) ((rd_T93 l0 x3_1).f3) true _ A6.out).mono ?_);rintro e w14 ⟨rfl, hb⟩;refine ⟨_, rfl, ?_⟩;replace HB := sB hb;(try clear hb);have p672 : 0 ≤ (x3_1 : Int) := dA;have q672 : x3_1 < (l0.length : Int) := dA;obtain ⟨ad672, e672, hx672_0, hx672_1, hx672_2, hx672_3⟩ := at_T93 HR0.out x3_1 p672 q672;obtain rfl : ad670 = ad672 := (by injection e672);replace hx672_0 := (bc HB hx672_0 :);replace hx672_1 := (bc HB hx672_1 :);replace hx672_2 := (bc HB hx672_2 :);replace hx672_3 := (bc HB hx672_3 :);replace p672 := eq_true p672;replace q672 := eq_true q672;have p673 : 0 ≤ (x3_1 : Int) := dA;have q673 : x3_1 < (l0.length : Int) := dA;obtain ⟨ad673, e673, hx673_0, hx673_1, hx673_2, hx673_3⟩ := at_T93 HR0.out x3_1 p673 q673;obtain rfl : ad670 = ad673 := (by injection e673);replace hx673_0 := (bc HB hx673_0 :);replace hx673_1 := (bc HB hx673_1 :);replace hx673_2 := (bc HB hx673_2 :);replace hx673_3 := (bc HB hx673_3 :);replace p673 := eq_true p673;replace q673 := eq_true q673)|(go_at_call 140;(with_reducible refine (spec_l07Far.calls ((rd_T93 l0 x3_1).f0) ((rd_T93 l0 x3_1).f1) ((rd_T93 l0 x3_1).f2) ((rd_T93 l0 x3_1).f3) t674 _ A10.out).mono ?_);rintro e w15 ⟨rfl, hb⟩;replace HB := sB hb;(try clear hb)))
        go_roundg k1
        case measure => have := HK1.out; omega
        case rel => exact ⟨(wrap64 (x3_1 + 1)), rS, H', ⟨by have := HK1.out; omega⟩, ⟨cB⟩⟩
     ·replace c7 := Bool.eq_false_iff.mpr c7;subst c7;replace H := iF H;obtain rfl := Option.some.inj H;have p670 : 0 ≤ (x3_1 : Int) := dA;have q670 : x3_1 < (l0.length : Int) := dA;obtain ⟨ad670, e670, hx670_0, hx670_1, hx670_2, hx670_3⟩ := at_T93 HR0.out x3_1 p670 q670;cases e670;replace hx670_0 := (bc HB hx670_0 :);replace hx670_1 := (bc HB hx670_1 :);replace hx670_2 := (bc HB hx670_2 :);replace hx670_3 := (bc HB hx670_3 :);replace p670 := eq_true p670;replace q670 := eq_true q670
      go_wp2_with (first|((with_reducible refine gF 139 ?_);refine goZ (some 18) Try.func139 #[.agg #[.int .i64 ((rd_T93 l0 x3_1).f0), .int .i64 ((rd_T93 l0 x3_1).f1), .int .i64 ((rd_T93 l0 x3_1).f2), .int .i64 ((rd_T93 l0 x3_1).f3)]] ?_;(with_reducible refine (spec_InsOk.calls k1 ((rd_T93 l0 x3_1).f0) ((rd_T93 l0 x3_1).f1) ((rd_T93 l0 x3_1).f2) ((rd_T93 l0 x3_1).f3) false _ A6.out).mono ?_);rintro e w16 ⟨rfl, hb⟩;refine ⟨_, rfl, ?_⟩;replace HB := sB hb;(try clear hb)))
      go_ret;exact ⟨rE, cB⟩
    ·rw [if_neg c4] at H;have c4b0 := decide_eq_false c4;clear c4;obtain ⟨ji17, hji17⟩ : ∃ j_ : Int, (wrap64 ((l0.length : Int) - 1)) = j_ := ⟨_, rfl⟩
     (first|rw [hji17] at H|simp only [hji17] at H)
     have hji17w : (IntKind.i64.wrap ((l0.length : Int) - 1)) = ji17 := (i64_w _).trans hji17;replace H := gD H;obtain ⟨c18b0, H⟩ := H;replace H := gD H;obtain ⟨c19b0, H⟩ := H;obtain rfl := Option.some.inj H;have p669 : 0 ≤ ((ji17) : Int) := dA;have q669 : (ji17) < (l0.length : Int) := dA;obtain ⟨ad669, e669, hx669_0, hx669_1, hx669_2, hx669_3⟩ := at_T93 HR0.out (ji17) p669 q669;cases e669;replace hx669_0 := (bc HB hx669_0 :);replace hx669_1 := (bc HB hx669_1 :);replace hx669_2 := (bc HB hx669_2 :);replace hx669_3 := (bc HB hx669_3 :);replace p669 := eq_true p669;replace q669 := eq_true q669;go_wp2;go_ret
     exact ⟨by first | rfl | (simp [errW_none, errW_some] <;> rfl) | (simp only [← hji17]; first | rfl | (simp [errW_none, errW_some] <;> rfl)) | (simp [*, errW_none, errW_some] <;> rfl), cB⟩
 ·replace c3 := Bool.eq_false_iff.mpr c3;subst c3;replace H := iF H;obtain rfl := Option.some.inj H;go_enter Try.func70, Try.ntmps70
  go_wp2_with (first|((with_reducible refine gF 100 ?_);refine goZ (some 6) Try.func100 #[.int .i64 (l0.length : Int), .int .i64 1, .int .i64 400] ?_;(with_reducible refine (spec_l01In.calls (l0.length : Int) 1 400 false _ A2.out).mono ?_);rintro e w' ⟨rfl, ⟨nd, rfl⟩⟩;refine ⟨_, rfl, ?_⟩))
  go_ret;exact ⟨rE, cB⟩
def spec_FieldAt.j0 : Nat → Int → Bool → Int → Int → List (S48) → Option (Int × Bool)
  | 0, _, _, _, _, _ => none
  | k + 1, x1, x14, x676000, x676001, x676002 => if x14 = true then (some (0, false)) else (if x1 = 0 then (some (x676001, true)) else (if x1 = 1 then (some (x676000, true)) else (if 0 ≤ (wrap64 (Int.tdiv (wrap64 (x1 - 2)) 2)) then (if (wrap64 (Int.tdiv (wrap64 (x1 - 2)) 2)) < (x676002.length : Int) then (if (Int.tmod x1 2) = 0 then (some ((rd_T48 x676002 (wrap64 (Int.tdiv (wrap64 (x1 - 2)) 2))).f1, true)) else (some ((rd_T48 x676002 (wrap64 (Int.tdiv (wrap64 (x1 - 2)) 2))).f0, true))) else (none)) else (none))))
def spec_FieldAt.f (k : Nat) (a0_0 : Int) (a0_1 : Int) (l0_2 : List (S48)) (a1 : Int) : Option (Int × Bool) := (spec_CallOk.f k a0_0 a0_1 l0_2).bind fun t676 => (if t676 = true then ((spec_l01In.f a1 0 7).bind fun t677 => (spec_FieldAt.j0 k a1 (!t677) a0_0 a0_1 l0_2)) else (spec_FieldAt.j0 k a1 true a0_0 a0_1 l0_2))
set_option maxHeartbeats 8000000 in
set_option maxRecDepth 100000 in
theorem spec_FieldAt.calls (k : Nat) (a0_0 : Int) (a0_1 : Int) (A0_2 : Option Addr) (c0_2 : Nat) (l0_2 : List (S48)) (a1 : Int) (r1 : Int) (r2 : Bool) (w : World) (hr0_2 : Kd.C k48 w A0_2 l0_2.length l0_2) (hc0_2 : l0_2.length ≤ c0_2) (h : spec_FieldAt.f k a0_0 a0_1 l0_2 a1 = some (r1, r2)) :
 Calls Try.prog 71 #[.agg #[.int .i64 a0_0, .int .i64 a0_1, .slice A0_2 l0_2.length c0_2], .int .i64 a1] w fun e w' => e = .returned (.tuple #[.int .i64 r1, .bool r2]) ∧ Below w.heap.size w w' := by
 have hu53 := Try.underlying53;have hu48 := Try.underlying48;have HR0_2 := Aside0.mk hr0_2;have HC0_2 := Aside0.mk hc0_2;clear hr0_2 hc0_2;have HB := Aside0.mk (Below.refl w.heap.size w)
 have H : ((spec_CallOk.f k a0_0 a0_1 l0_2).bind fun t676 => (if t676 = true then ((spec_l01In.f a1 0 7).bind fun t677 => (spec_FieldAt.j0 k a1 (!t677) a0_0 a0_1 l0_2)) else (spec_FieldAt.j0 k a1 true a0_0 a0_1 l0_2))) = some (r1, r2) := h
 clear h;have HC3 := Aside0.mk H;clear H;go_enter Try.func71, Try.ntmps71
 go_upto_region 1 with (first|((with_reducible refine gN 2 ?_);refine boxZ 2 #[.int .i64 a0_0, .int .i64 a0_1, .slice A0_2 l0_2.length c0_2] 53 ?_;intro gb675 hg w4 hbox hb;have BK675 := Aside0.mk (hbox);have GW675 := gS hg;have GE675 := gS hg;replace HB := sB hb;clear hb hbox hg))
 (try simp only [Act.put, List.setIfInBounds_toArray, List.set_cons_zero, List.set_cons_succ])
 go_cut [14] (fun v14 wc => ∃ (kq : Nat) (x14_2 : Bool), v14 = .bool x14_2 ∧ Aside0 (spec_FieldAt.j0 kq a1 x14_2 a0_0 a0_1 l0_2 = some (r1, r2)) ∧ Aside0 (kq ≤ k) ∧ Aside0 (wc.heap[gb675]? = some (.cells #[.int .i64 a0_0, .int .i64 a0_1, (.slice A0_2 l0_2.length c0_2)] 53 (0, 0))) ∧ Aside0 (Below w.heap.size w wc))
 case first =>
  have H := HC3.out;clear HC3;replace H := bE H;obtain ⟨t676, A5, H⟩ := H;by_cases c6 : t676 = true
  ·subst c6;replace H := iT H;replace H := bE H;obtain ⟨t677, A7, H⟩ := H;have H' := Aside0.mk H;clear H;obtain ⟨hcz8_0, hcz8_1, hcz8_2, hfz8_0, hfz8_1, hfz8_2⟩ := cz3 BK675
   go_wp2_with (first|((with_reducible refine gF 111 ?_);refine goZ (some 8) Try.func111 #[.agg #[.int .i64 a0_0, .int .i64 a0_1, .slice A0_2 l0_2.length c0_2]] ?_;(with_reducible refine (spec_CallOk.calls k a0_0 a0_1 _ _ l0_2 true _ ?side1 ?side2 A5.out).mono ?_);(case side1 => exact cC (Kd.C_below HR0_2.out HB.out));(case side2 => exact HC0_2.out);rintro e w9 ⟨rfl, hb⟩;refine ⟨_, rfl, ?_⟩;replace BK675 := kB BK675 hb;replace HB := sB hb;(try clear hb))|(go_at_call 100;(with_reducible refine (spec_l01In.calls a1 0 7 t677 _ A7.out).mono ?_);rintro e w' ⟨rfl, ⟨nd, rfl⟩⟩))
   go_meet
   case rel => exact ⟨_, (!t677), rS, H', ⟨oL⟩, ⟨mK BK675⟩, ⟨cB⟩⟩
  ·replace c6 := Bool.eq_false_iff.mpr c6;subst c6;replace H := iF H;have H' := Aside0.mk H;clear H;obtain ⟨hcz10_0, hcz10_1, hcz10_2, hfz10_0, hfz10_1, hfz10_2⟩ := cz3 BK675
   go_wp2_with (first|((with_reducible refine gF 111 ?_);refine goZ (some 8) Try.func111 #[.agg #[.int .i64 a0_0, .int .i64 a0_1, .slice A0_2 l0_2.length c0_2]] ?_;(with_reducible refine (spec_CallOk.calls k a0_0 a0_1 _ _ l0_2 false _ ?side1 ?side2 A5.out).mono ?_);(case side1 => exact cC (Kd.C_below HR0_2.out HB.out));(case side2 => exact HC0_2.out);rintro e w11 ⟨rfl, hb⟩;refine ⟨_, rfl, ?_⟩;replace BK675 := kB BK675 hb;replace HB := sB hb;(try clear hb)))
   go_meet
   case rel => exact ⟨_, (true), rS, H', ⟨oL⟩, ⟨mK BK675⟩, ⟨cB⟩⟩
 case rest =>
  clear HC3;(try clear c6);(try clear hcz10_0);(try clear hcz10_1);(try clear hcz10_2);(try clear hcz8_0);(try clear hcz8_1);(try clear hcz8_2);(try clear hfz10_0);(try clear hfz10_1);(try clear hfz10_2);(try clear hfz8_0);(try clear hfz8_1);(try clear hfz8_2);obtain ⟨kq, x14_2, rfl, HA, HJ2, BK675, HB⟩ := hcut
  cases kq with
  | zero => exact absurd HA.out (by simp [spec_FieldAt.j0])
  | succ kj2 =>
   have H := HA.out;clear HA;simp only [spec_FieldAt.j0] at H;by_cases c12 : x14_2 = true
   ·subst c12;replace H := iT H;simp only [Option.some.injEq, Prod.mk.injEq] at H;obtain ⟨rfl, rfl⟩ := H;go_wp2;go_ret2;exact ⟨rE, cB⟩
   ·replace c12 := Bool.eq_false_iff.mpr c12;subst c12;replace H := iF H;by_cases c13 : a1 = 0
    ·rw [if_pos c13] at H;obtain ⟨c13b0, c13b1⟩ := eT c13;clear c13;simp only [Option.some.injEq, Prod.mk.injEq] at H;obtain ⟨rfl, rfl⟩ := H;obtain ⟨hcz14_0, hcz14_1, hcz14_2, hfz14_0, hfz14_1, hfz14_2⟩ := cz3 BK675;go_wp2;go_ret2;exact ⟨rE, cB⟩
    ·rw [if_neg c13] at H;obtain ⟨c13b0, c13b1⟩ := eF c13;by_cases c15 : a1 = 1
     ·rw [if_pos c15] at H;obtain ⟨c15b0, c15b1⟩ := eT c15;clear c15;simp only [Option.some.injEq, Prod.mk.injEq] at H;obtain ⟨rfl, rfl⟩ := H;obtain ⟨hcz16_0, hcz16_1, hcz16_2, hfz16_0, hfz16_1, hfz16_2⟩ := cz3 BK675;go_wp2;go_ret2;exact ⟨rE, cB⟩
     ·rw [if_neg c15] at H;obtain ⟨c15b0, c15b1⟩ := eF c15;obtain ⟨ji17, hji17⟩ : ∃ j_ : Int, (wrap64 (Int.tdiv (wrap64 (a1 - 2)) 2)) = j_ := ⟨_, rfl⟩
      (first|rw [hji17] at H|simp only [hji17] at H)
      have hji17w : (IntKind.i64.wrap (Int.tdiv (wrap64 (a1 - 2)) 2)) = ji17 := (i64_w _).trans hji17;replace H := gD H;obtain ⟨c18b0, H⟩ := H;replace H := gD H;obtain ⟨c19b0, H⟩ := H;by_cases c20 : (Int.tmod a1 2) = 0
      ·rw [if_pos c20] at H;obtain ⟨c20b0, c20b1⟩ := eT c20;clear c20;simp only [Option.some.injEq, Prod.mk.injEq] at H;obtain ⟨rfl, rfl⟩ := H;obtain ⟨hcz21_0, hcz21_1, hcz21_2, hfz21_0, hfz21_1, hfz21_2⟩ := cz3 BK675;have p678 : 0 ≤ ((ji17) : Int) := dA;have q678 : (ji17) < (l0_2.length : Int) := dA;obtain ⟨ad678, e678, hx678_0, hx678_1⟩ := at_T48 HR0_2.out (ji17) p678 q678;cases e678;replace hx678_0 := (bc HB hx678_0 :);replace hx678_1 := (bc HB hx678_1 :);replace p678 := eq_true p678;replace q678 := eq_true q678
       go_wp2_with (first|((with_reducible refine gN 6 ?_);refine boxZ 6 #[.int .i64 0, .int .i64 0] 48 ?_;intro gb679 hg w22 hbox hb;have BK679 := Aside0.mk (hbox);have GW679 := gS hg;have GE679 := gS hg;replace HB := sB hb;have NB675_679 := nL hg BK675;have NB679_675 := nG hg BK675;replace BK675 := kB BK675 hb;clear hb hbox hg;have hnb23 := NB679_675.out;have hnc23 := NB675_679.out;obtain ⟨hcz24_0, hcz24_1, hfz24_0, hfz24_1⟩ := cz2 BK679))
       go_ret2
       exact ⟨by first | rfl | (simp [errW_none, errW_some] <;> rfl) | (simp only [← hji17]; first | rfl | (simp [errW_none, errW_some] <;> rfl)) | (simp [*, errW_none, errW_some] <;> rfl), cB⟩
      ·rw [if_neg c20] at H;obtain ⟨c20b0, c20b1⟩ := eF c20;simp only [Option.some.injEq, Prod.mk.injEq] at H;obtain ⟨rfl, rfl⟩ := H;obtain ⟨hcz25_0, hcz25_1, hcz25_2, hfz25_0, hfz25_1, hfz25_2⟩ := cz3 BK675;have p678 : 0 ≤ ((ji17) : Int) := dA;have q678 : (ji17) < (l0_2.length : Int) := dA;obtain ⟨ad678, e678, hx678_0, hx678_1⟩ := at_T48 HR0_2.out (ji17) p678 q678;cases e678;replace hx678_0 := (bc HB hx678_0 :);replace hx678_1 := (bc HB hx678_1 :);replace p678 := eq_true p678;replace q678 := eq_true q678
       go_wp2_with (first|((with_reducible refine gN 6 ?_);refine boxZ 6 #[.int .i64 0, .int .i64 0] 48 ?_;intro gb679 hg w26 hbox hb;have BK679 := Aside0.mk (hbox);have GW679 := gS hg;have GE679 := gS hg;replace HB := sB hb;have NB675_679 := nL hg BK675;have NB679_675 := nG hg BK675;replace BK675 := kB BK675 hb;clear hb hbox hg;have hnb27 := NB679_675.out;have hnc27 := NB675_679.out;obtain ⟨hcz28_0, hcz28_1, hfz28_0, hfz28_1⟩ := cz2 BK679))
       go_ret2
       exact ⟨by first | rfl | (simp [errW_none, errW_some] <;> rfl) | (simp only [← hji17]; first | rfl | (simp [errW_none, errW_some] <;> rfl)) | (simp [*, errW_none, errW_some] <;> rfl), cB⟩
def spec_l07Asks.f (a0_0 : Int) (a0_1 : Int) (a0_2 : Int) (a0_3 : Int) (a1 : Int) : Option (Bool) := if a0_0 = 3 then (some (a1 == a0_1)) else (if a0_0 = 4 then (some (decide (a1 > a0_1))) else (if a0_0 = 5 then (some (decide (a1 ≥ a0_1))) else (some ((Go.bits .and .i64 a1 a0_1) != 0))))
set_option maxHeartbeats 8000000 in
set_option maxRecDepth 100000 in
theorem spec_l07Asks.calls (a0_0 : Int) (a0_1 : Int) (a0_2 : Int) (a0_3 : Int) (a1 : Int) (r : Bool) (w : World) (h : spec_l07Asks.f a0_0 a0_1 a0_2 a0_3 a1 = some r) :
 Calls Try.prog 141 #[.agg #[.int .i64 a0_0, .int .i64 a0_1, .int .i64 a0_2, .int .i64 a0_3], .int .i64 a1] w fun e w' => e = .returned (.bool r) ∧ Below w.heap.size w w' := by
 have hu93 := Try.underlying93;have HB := Aside0.mk (Below.refl w.heap.size w);have H : (if a0_0 = 3 then (some (a1 == a0_1)) else (if a0_0 = 4 then (some (decide (a1 > a0_1))) else (if a0_0 = 5 then (some (decide (a1 ≥ a0_1))) else (some ((Go.bits .and .i64 a1 a0_1) != 0))))) = some r := h;clear h;by_cases c3 : a0_0 = 3
 ·rw [if_pos c3] at H;obtain ⟨c3b0, c3b1⟩ := eT c3;clear c3;obtain rfl := Option.some.inj H;go_enter Try.func141, Try.ntmps141
  go_wp2_with (first|((with_reducible refine gN 2 ?_);refine boxZ 2 #[.int .i64 a0_0, .int .i64 a0_1, .int .i64 a0_2, .int .i64 a0_3] 93 ?_;intro gb680 hg w4 hbox hb;have BK680 := Aside0.mk (hbox);have GW680 := gS hg;have GE680 := gS hg;replace HB := sB hb;clear hb hbox hg;obtain ⟨hcz5_0, hcz5_1, hcz5_2, hcz5_3, hfz5_0, hfz5_1, hfz5_2, hfz5_3⟩ := cz4 BK680))
  go_ret;exact ⟨rE, cB⟩
 ·rw [if_neg c3] at H;obtain ⟨c3b0, c3b1⟩ := eF c3;by_cases c6 : a0_0 = 4
  ·rw [if_pos c6] at H;obtain ⟨c6b0, c6b1⟩ := eT c6;clear c6;obtain rfl := Option.some.inj H;go_enter Try.func141, Try.ntmps141
   go_wp2_with (first|((with_reducible refine gN 2 ?_);refine boxZ 2 #[.int .i64 a0_0, .int .i64 a0_1, .int .i64 a0_2, .int .i64 a0_3] 93 ?_;intro gb680 hg w7 hbox hb;have BK680 := Aside0.mk (hbox);have GW680 := gS hg;have GE680 := gS hg;replace HB := sB hb;clear hb hbox hg;obtain ⟨hcz8_0, hcz8_1, hcz8_2, hcz8_3, hfz8_0, hfz8_1, hfz8_2, hfz8_3⟩ := cz4 BK680))
   go_ret;exact ⟨rE, cB⟩
  ·rw [if_neg c6] at H;obtain ⟨c6b0, c6b1⟩ := eF c6;by_cases c9 : a0_0 = 5
   ·rw [if_pos c9] at H;obtain ⟨c9b0, c9b1⟩ := eT c9;clear c9;obtain rfl := Option.some.inj H;go_enter Try.func141, Try.ntmps141
    go_wp2_with (first|((with_reducible refine gN 2 ?_);refine boxZ 2 #[.int .i64 a0_0, .int .i64 a0_1, .int .i64 a0_2, .int .i64 a0_3] 93 ?_;intro gb680 hg w10 hbox hb;have BK680 := Aside0.mk (hbox);have GW680 := gS hg;have GE680 := gS hg;replace HB := sB hb;clear hb hbox hg;obtain ⟨hcz11_0, hcz11_1, hcz11_2, hcz11_3, hfz11_0, hfz11_1, hfz11_2, hfz11_3⟩ := cz4 BK680))
    go_ret;exact ⟨rE, cB⟩
   ·rw [if_neg c9] at H;obtain ⟨c9b0, c9b1⟩ := eF c9;obtain rfl := Option.some.inj H;go_enter Try.func141, Try.ntmps141
    go_wp2_with (first|((with_reducible refine gN 2 ?_);refine boxZ 2 #[.int .i64 a0_0, .int .i64 a0_1, .int .i64 a0_2, .int .i64 a0_3] 93 ?_;intro gb680 hg w12 hbox hb;have BK680 := Aside0.mk (hbox);have GW680 := gS hg;have GE680 := gS hg;replace HB := sB hb;clear hb hbox hg;obtain ⟨hcz13_0, hcz13_1, hcz13_2, hcz13_3, hfz13_0, hfz13_1, hfz13_2, hfz13_3⟩ := cz4 BK680))
    go_ret;exact ⟨rE, cB⟩
end Go.Proofs.Ytlgndgjbfjefpaa.PFnCondLines
