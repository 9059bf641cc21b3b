import Derived.Test.YtfmilhpneelonaaPFnExactLayouty0
import Derived.Test.YtfmilhpneelonaaPFnExactLayouty8
namespace Go.Proofs.Ytfmilhpneelonaa.PFnExactLayout
open Go.RowKit Go.Proofs.YtfmilhpneelonaaW.PrintWords Go.Proofs.YtfmilhpneelonaaW.PrintLast Go.Proofs.YtfmilhpneelonaaW.PrintMore Go.Proofs.YtfmilhpneelonaaW.Z
attribute [local go_sem] max2_int min2_int max_two min_two max_three min_three max_four min_four
set_option linter.unusedVariables false
set_option linter.unusedSimpArgs false
def spec_l11At.l0 : Nat → List (S83) → ByteArray → Int → Option (Int)
  | 0, _, _, _ => none
  | k + 1, x0, x1, x5 => if x5 < (x0.length : Int) then (if 0 ≤ x5 then ((spec_l11Place.f ((rd_T83 x0 x5).f0) ((rd_T83 x0 x5).f1.f0) ((rd_T83 x0 x5).f1.f1) ((rd_T83 x0 x5).f1.f2) ((rd_T83 x0 x5).f1.f3) ((rd_T83 x0 x5).f2) ((rd_T83 x0 x5).f3)).bind fun t257 => (if t257 = true then (if ((rd_T83 x0 x5).f0).toList = x1.toList then (some x5) else (spec_l11At.l0 k x0 x1 (wrap64 (x5 + 1)))) else (spec_l11At.l0 k x0 x1 (wrap64 (x5 + 1))))) else (none)) else (some (-1))
def spec_l11At.f (k : Nat) (l0 : List (S83)) (a1 : ByteArray) : Option (Int) := spec_l11At.l0 k l0 a1 0
set_option maxHeartbeats 8000000 in
set_option maxRecDepth 100000 in
theorem spec_l11At.calls (k : Nat) (A0 : Option Addr) (c0 : Nat) (l0 : List (S83)) (a1 : ByteArray) (r : Int) (w : World) (hr0 : Kd.C k83 w A0 l0.length l0) (hc0 : l0.length ≤ c0) (h : spec_l11At.f k l0 a1 = some r) :
 Calls Try.prog 186 #[.slice A0 l0.length c0, .string a1] w fun e w' => e = .returned (.int .i64 r) ∧ Below w.heap.size w w' := by
 have hu83 := Try.underlying83;have HR0 := Aside0.mk hr0;have HC0 := Aside0.mk hc0;clear hr0 hc0;have HB := Aside0.mk (Below.refl w.heap.size w);have H : (spec_l11At.l0 k l0 a1 0) = some r := h;clear h;have H' := Aside0.mk H;clear H;go_enter Try.func186, Try.ntmps186;go_wp2
 go_loopg [5] k (fun kq v5 w' => ∃ (x5_1 : Int), v5 = .int .i64 x5_1 ∧ Aside0 (spec_l11At.l0 kq l0 a1 x5_1 = some r) ∧ Aside0 (kq ≤ k) ∧ Aside0 (Below w.heap.size w w'))
 case atStart => exact ⟨(0), rS, H', ⟨Nat.le_refl _⟩, ⟨cB⟩⟩
 case round =>
  clear H';obtain ⟨x5_1, rfl, HA, HK1, HB⟩ := hrel
  cases gk with
  | zero => exact absurd HA.out (by simp [spec_l11At.l0])
  | succ k1 =>
   have H := HA.out;clear HA;simp only [spec_l11At.l0] at H;by_cases c3 : x5_1 < (l0.length : Int)
   ·rw [if_pos c3] at H;have c3b0 := decide_eq_true c3;clear c3;replace H := gD H;obtain ⟨c4b0, H⟩ := H;replace H := bE H;obtain ⟨t257, A5, H⟩ := H;by_cases c6 : t257 = true
    ·subst c6;replace H := iT H;by_cases c7 : ((rd_T83 l0 x5_1).f0).toList = a1.toList
     ·rw [if_pos c7] at H;obtain ⟨c7b0, c7b1⟩ := eT c7;clear c7;obtain rfl := Option.some.inj H;have p256 : 0 ≤ (x5_1 : Int) := dA;have q256 : x5_1 < (l0.length : Int) := dA;obtain ⟨ad256, e256, hx256_0, hx256_1, hx256_2, hx256_3, hx256_4, hx256_5, hx256_6⟩ := at_T83 HR0.out x5_1 p256 q256;cases e256;replace hx256_0 := (bc HB hx256_0 :);replace hx256_1 := (bc HB hx256_1 :);replace hx256_2 := (bc HB hx256_2 :);replace hx256_3 := (bc HB hx256_3 :);replace hx256_4 := (bc HB hx256_4 :);replace hx256_5 := (bc HB hx256_5 :);replace hx256_6 := (bc HB hx256_6 :);replace p256 := eq_true p256;replace q256 := eq_true q256
      go_wp2_with (first|((with_reducible refine gF 146 ?_);refine goZ (some 16) Try.func146 #[.agg #[.string ((rd_T83 l0 x5_1).f0), .int .i64 ((rd_T83 l0 x5_1).f1.f0), .int .i64 ((rd_T83 l0 x5_1).f1.f1), .int .i64 ((rd_T83 l0 x5_1).f1.f2), .int .i64 ((rd_T83 l0 x5_1).f1.f3), .string ((rd_T83 l0 x5_1).f2), .string ((rd_T83 l0 x5_1).f3)]] ?_;(with_reducible refine (spec_l11Place.calls ((rd_T83 l0 x5_1).f0) ((rd_T83 l0 x5_1).f1.f0) ((rd_T83 l0 x5_1).f1.f1) ((rd_T83 l0 x5_1).f1.f2) ((rd_T83 l0 x5_1).f1.f3) ((rd_T83 l0 x5_1).f2) ((rd_T83 l0 x5_1).f3) true _ A5.out).mono ?_);rintro e w8 ⟨rfl, hb⟩;refine ⟨_, rfl, ?_⟩;replace HB := sB hb;(try clear hb);have p258 : 0 ≤ (x5_1 : Int) := dA;have q258 : x5_1 < (l0.length : Int) := dA;obtain ⟨ad258, e258, hx258_0, hx258_1, hx258_2, hx258_3, hx258_4, hx258_5, hx258_6⟩ := at_T83 HR0.out x5_1 p258 q258;obtain rfl : ad256 = ad258 := (by injection e258);replace hx258_0 := (bc HB hx258_0 :);replace hx258_1 := (bc HB hx258_1 :);replace hx258_2 := (bc HB hx258_2 :);replace hx258_3 := (bc HB hx258_3 :);replace hx258_4 := (bc HB hx258_4 :);replace hx258_5 := (bc HB hx258_5 :);replace hx258_6 := (bc HB hx258_6 :);replace p258 := eq_true p258;replace q258 := eq_true q258))
      go_ret;exact ⟨rE, cB⟩
     ·rw [if_neg c7] at H;obtain ⟨c7b0, c7b1⟩ := eF c7;have H' := Aside0.mk H;clear H;have p256 : 0 ≤ (x5_1 : Int) := dA;have q256 : x5_1 < (l0.length : Int) := dA;obtain ⟨ad256, e256, hx256_0, hx256_1, hx256_2, hx256_3, hx256_4, hx256_5, hx256_6⟩ := at_T83 HR0.out x5_1 p256 q256;cases e256;replace hx256_0 := (bc HB hx256_0 :);replace hx256_1 := (bc HB hx256_1 :);replace hx256_2 := (bc HB hx256_2 :);replace hx256_3 := (bc HB hx256_3 :);replace hx256_4 := (bc HB hx256_4 :);replace hx256_5 := (bc HB hx256_5 :);replace hx256_6 := (bc HB hx256_6 :);replace p256 := eq_true p256;replace q256 := eq_true q256
      go_wp2_with (first|((with_reducible refine gF 146 ?_);refine goZ (some 16) Try.func146 #[.agg #[.string ((rd_T83 l0 x5_1).f0), .int .i64 ((rd_T83 l0 x5_1).f1.f0), .int .i64 ((rd_T83 l0 x5_1).f1.f1), .int .i64 ((rd_T83 l0 x5_1).f1.f2), .int .i64 ((rd_T83 l0 x5_1).f1.f3), .string ((rd_T83 l0 x5_1).f2), .string ((rd_T83 l0 x5_1).f3)]] ?_;(with_reducible refine (spec_l11Place.calls ((rd_T83 l0 x5_1).f0) ((rd_T83 l0 x5_1).f1.f0) ((rd_T83 l0 x5_1).f1.f1) ((rd_T83 l0 x5_1).f1.f2) ((rd_T83 l0 x5_1).f1.f3) ((rd_T83 l0 x5_1).f2) ((rd_T83 l0 x5_1).f3) true _ A5.out).mono ?_);rintro e w9 ⟨rfl, hb⟩;refine ⟨_, rfl, ?_⟩;replace HB := sB hb;(try clear hb);have p258 : 0 ≤ (x5_1 : Int) := dA;have q258 : x5_1 < (l0.length : Int) := dA;obtain ⟨ad258, e258, hx258_0, hx258_1, hx258_2, hx258_3, hx258_4, hx258_5, hx258_6⟩ := at_T83 HR0.out x5_1 p258 q258;obtain rfl : ad256 = ad258 := (by injection e258);replace hx258_0 := (bc HB hx258_0 :);replace hx258_1 := (bc HB hx258_1 :);replace hx258_2 := (bc HB hx258_2 :);replace hx258_3 := (bc HB hx258_3 :);replace hx258_4 := (bc HB hx258_4 :);replace hx258_5 := (bc HB hx258_5 :);replace hx258_6 := (bc HB hx258_6 :);replace p258 := eq_true p258;replace q258 := eq_true q258))
      go_roundg k1
      case measure => have := HK1.out; omega
      case rel => exact ⟨(wrap64 (x5_1 + 1)), rS, H', ⟨by have := HK1.out; omega⟩, ⟨cB⟩⟩
    ·replace c6 := Bool.eq_false_iff.mpr c6;subst c6;replace H := iF H;have H' := Aside0.mk H;clear H;have p256 : 0 ≤ (x5_1 : Int) := dA;have q256 : x5_1 < (l0.length : Int) := dA;obtain ⟨ad256, e256, hx256_0, hx256_1, hx256_2, hx256_3, hx256_4, hx256_5, hx256_6⟩ := at_T83 HR0.out x5_1 p256 q256;cases e256;replace hx256_0 := (bc HB hx256_0 :);replace hx256_1 := (bc HB hx256_1 :);replace hx256_2 := (bc HB hx256_2 :);replace hx256_3 := (bc HB hx256_3 :);replace hx256_4 := (bc HB hx256_4 :);replace hx256_5 := (bc HB hx256_5 :);replace hx256_6 := (bc HB hx256_6 :);replace p256 := eq_true p256;replace q256 := eq_true q256
     go_wp2_with (first|((with_reducible refine gF 146 ?_);refine goZ (some 16) Try.func146 #[.agg #[.string ((rd_T83 l0 x5_1).f0), .int .i64 ((rd_T83 l0 x5_1).f1.f0), .int .i64 ((rd_T83 l0 x5_1).f1.f1), .int .i64 ((rd_T83 l0 x5_1).f1.f2), .int .i64 ((rd_T83 l0 x5_1).f1.f3), .string ((rd_T83 l0 x5_1).f2), .string ((rd_T83 l0 x5_1).f3)]] ?_;(with_reducible refine (spec_l11Place.calls ((rd_T83 l0 x5_1).f0) ((rd_T83 l0 x5_1).f1.f0) ((rd_T83 l0 x5_1).f1.f1) ((rd_T83 l0 x5_1).f1.f2) ((rd_T83 l0 x5_1).f1.f3) ((rd_T83 l0 x5_1).f2) ((rd_T83 l0 x5_1).f3) false _ A5.out).mono ?_);rintro e w10 ⟨rfl, hb⟩;refine ⟨_, rfl, ?_⟩;replace HB := sB hb;(try clear hb)))
     go_roundg k1
     case measure => have := HK1.out; omega
     case rel => exact ⟨(wrap64 (x5_1 + 1)), rS, H', ⟨by have := HK1.out; omega⟩, ⟨cB⟩⟩
   ·rw [if_neg c3] at H;have c3b0 := decide_eq_false c3;clear c3;obtain rfl := Option.some.inj H;go_wp2;go_ret;exact ⟨rE, cB⟩
end Go.Proofs.Ytfmilhpneelonaa.PFnExactLayout
