import Derived.Test.YtiinjipfhmgheaaPFnExactLinesOky0
import Derived.Test.YtiinjipfhmgheaaPFnExactLinesOky5
namespace Go.Proofs.Ytiinjipfhmgheaa.PFnExactLinesOk
open Go.RowKit Go.Proofs.YtiinjipfhmgheaaW.PrintWords Go.Proofs.YtiinjipfhmgheaaW.PrintLast Go.Proofs.YtiinjipfhmgheaaW.PrintMore Go.Proofs.YtiinjipfhmgheaaW.Z
attribute [local go_sem] max2_int min2_int max_two min_two max_three min_three max_four min_four
set_option linter.unusedVariables false
set_option linter.unusedSimpArgs false
def impl_placeOf.l0 : Nat → List (S124) → ByteArray → Int → Option (Int)
  | 0, _, _, _ => none
  | k + 1, x0, x1, x7 => if x7 < (x0.length : Int) then (if 0 ≤ x7 then ((impl_Line_isPlace.f ((rd_T124 x0 x7).f0) ((rd_T124 x0 x7).f1.f0) ((rd_T124 x0 x7).f1.f1) ((rd_T124 x0 x7).f1.f2) ((rd_T124 x0 x7).f1.f3) ((rd_T124 x0 x7).f2) ((rd_T124 x0 x7).f3)).bind fun t175 => (if t175 = true then (if ((rd_T124 x0 x7).f0).toList = x1.toList then (some x7) else (impl_placeOf.l0 k x0 x1 (wrap64 (x7 + 1)))) else (impl_placeOf.l0 k x0 x1 (wrap64 (x7 + 1))))) else (none)) else (some (-1))
def impl_placeOf.f (k : Nat) (l0 : List (S124)) (a1 : ByteArray) (a2 : Int) : Option (Int) := impl_placeOf.l0 k l0 a1 (wrap64 (a2 + 1))
set_option maxHeartbeats 8000000 in
set_option maxRecDepth 100000 in
theorem impl_placeOf.calls (k : Nat) (A0 : Option Addr) (c0 : Nat) (l0 : List (S124)) (a1 : ByteArray) (a2 : Int) (r : Int) (w : World) (hr0 : Kd.C k124 w A0 l0.length l0) (hc0 : l0.length ≤ c0) (h : impl_placeOf.f k l0 a1 a2 = some r) :
 Calls Try.prog 150 #[.slice A0 l0.length c0, .string a1, .int .i64 a2] w fun e w' => e = .returned (.int .i64 r) ∧ Below w.heap.size w w' := by
 have hu124 := Try.underlying124;have HR0 := Aside0.mk hr0;have HC0 := Aside0.mk hc0;clear hr0 hc0;have HB := Aside0.mk (Below.refl w.heap.size w);have H : (impl_placeOf.l0 k l0 a1 (wrap64 (a2 + 1))) = some r := h;clear h;have H' := Aside0.mk H;clear H;go_enter Try.func150, Try.ntmps150;go_wp2
 go_loopg [7] k (fun kq v7 w' => ∃ (x7_1 : Int), v7 = .int .i64 x7_1 ∧ Aside0 (impl_placeOf.l0 kq l0 a1 x7_1 = some r) ∧ Aside0 (kq ≤ k) ∧ Aside0 (Below w.heap.size w w'))
 case atStart => exact ⟨(wrap64 (a2 + 1)), rS, H', ⟨Nat.le_refl _⟩, ⟨cB⟩⟩
 case round =>
  clear H';obtain ⟨x7_1, rfl, HA, HK1, HB⟩ := hrel
  cases gk with
  | zero => exact absurd HA.out (by simp [impl_placeOf.l0])
  | succ k1 =>
   have H := HA.out;clear HA;simp only [impl_placeOf.l0] at H;by_cases c4 : x7_1 < (l0.length : Int)
   ·rw [if_pos c4] at H;have c4b0 := decide_eq_true c4;clear c4;replace H := gD H;obtain ⟨c5b0, H⟩ := H;replace H := bE H;obtain ⟨t175, A6, H⟩ := H;by_cases c7 : t175 = true
    ·subst c7;replace H := iT H;by_cases c8 : ((rd_T124 l0 x7_1).f0).toList = a1.toList
     ·rw [if_pos c8] at H;obtain ⟨c8b0, c8b1⟩ := eT c8;clear c8;obtain rfl := Option.some.inj H;have p174 : 0 ≤ (x7_1 : Int) := dA;have q174 : x7_1 < (l0.length : Int) := dA;obtain ⟨ad174, e174, hx174_0, hx174_1, hx174_2, hx174_3, hx174_4, hx174_5, hx174_6⟩ := at_T124 HR0.out x7_1 p174 q174;cases e174;replace hx174_0 := bc HB hx174_0;replace hx174_1 := bc HB hx174_1;replace hx174_2 := bc HB hx174_2;replace hx174_3 := bc HB hx174_3;replace hx174_4 := bc HB hx174_4;replace hx174_5 := bc HB hx174_5;replace hx174_6 := bc HB hx174_6;replace p174 := eq_true p174;replace q174 := eq_true q174
      go_wp2_with (first|((with_reducible refine gF 149 ?_);refine goZ (some 20) Try.func149 #[.agg #[.string ((rd_T124 l0 x7_1).f0), .int .i64 ((rd_T124 l0 x7_1).f1.f0), .int .i64 ((rd_T124 l0 x7_1).f1.f1), .int .i64 ((rd_T124 l0 x7_1).f1.f2), .int .i64 ((rd_T124 l0 x7_1).f1.f3), .string ((rd_T124 l0 x7_1).f2), .string ((rd_T124 l0 x7_1).f3)]] ?_;(with_reducible refine (impl_Line_isPlace.calls ((rd_T124 l0 x7_1).f0) ((rd_T124 l0 x7_1).f1.f0) ((rd_T124 l0 x7_1).f1.f1) ((rd_T124 l0 x7_1).f1.f2) ((rd_T124 l0 x7_1).f1.f3) ((rd_T124 l0 x7_1).f2) ((rd_T124 l0 x7_1).f3) true _ A6.out).mono ?_);rintro e w9 ⟨rfl, hb⟩;refine ⟨_, rfl, ?_⟩;replace HB := sB hb;(try clear hb);have p176 : 0 ≤ (x7_1 : Int) := dA;have q176 : x7_1 < (l0.length : Int) := dA;obtain ⟨ad176, e176, hx176_0, hx176_1, hx176_2, hx176_3, hx176_4, hx176_5, hx176_6⟩ := at_T124 HR0.out x7_1 p176 q176;obtain rfl : ad174 = ad176 := (by injection e176);replace hx176_0 := bc HB hx176_0;replace hx176_1 := bc HB hx176_1;replace hx176_2 := bc HB hx176_2;replace hx176_3 := bc HB hx176_3;replace hx176_4 := bc HB hx176_4;replace hx176_5 := bc HB hx176_5;replace hx176_6 := bc HB hx176_6;replace p176 := eq_true p176;replace q176 := eq_true q176))
      go_ret;exact ⟨rE, cB⟩
     ·rw [if_neg c8] at H;obtain ⟨c8b0, c8b1⟩ := eF c8;have H' := Aside0.mk H;clear H;have p174 : 0 ≤ (x7_1 : Int) := dA;have q174 : x7_1 < (l0.length : Int) := dA;obtain ⟨ad174, e174, hx174_0, hx174_1, hx174_2, hx174_3, hx174_4, hx174_5, hx174_6⟩ := at_T124 HR0.out x7_1 p174 q174;cases e174;replace hx174_0 := bc HB hx174_0;replace hx174_1 := bc HB hx174_1;replace hx174_2 := bc HB hx174_2;replace hx174_3 := bc HB hx174_3;replace hx174_4 := bc HB hx174_4;replace hx174_5 := bc HB hx174_5;replace hx174_6 := bc HB hx174_6;replace p174 := eq_true p174;replace q174 := eq_true q174
      go_wp2_with (first|((with_reducible refine gF 149 ?_);refine goZ (some 20) Try.func149 #[.agg #[.string ((rd_T124 l0 x7_1).f0), .int .i64 ((rd_T124 l0 x7_1).f1.f0), .int .i64 ((rd_T124 l0 x7_1).f1.f1), .int .i64 ((rd_T124 l0 x7_1).f1.f2), .int .i64 ((rd_T124 l0 x7_1).f1.f3), .string ((rd_T124 l0 x7_1).f2), .string ((rd_T124 l0 x7_1).f3)]] ?_;(with_reducible refine (impl_Line_isPlace.calls ((rd_T124 l0 x7_1).f0) ((rd_T124 l0 x7_1).f1.f0) ((rd_T124 l0 x7_1).f1.f1) ((rd_T124 l0 x7_1).f1.f2) ((rd_T124 l0 x7_1).f1.f3) ((rd_T124 l0 x7_1).f2) ((rd_T124 l0 x7_1).f3) true _ A6.out).mono ?_);rintro e w10 ⟨rfl, hb⟩;refine ⟨_, rfl, ?_⟩;replace HB := sB hb;(try clear hb);have p176 : 0 ≤ (x7_1 : Int) := dA;have q176 : x7_1 < (l0.length : Int) := dA;obtain ⟨ad176, e176, hx176_0, hx176_1, hx176_2, hx176_3, hx176_4, hx176_5, hx176_6⟩ := at_T124 HR0.out x7_1 p176 q176;obtain rfl : ad174 = ad176 := (by injection e176);replace hx176_0 := bc HB hx176_0;replace hx176_1 := bc HB hx176_1;replace hx176_2 := bc HB hx176_2;replace hx176_3 := bc HB hx176_3;replace hx176_4 := bc HB hx176_4;replace hx176_5 := bc HB hx176_5;replace hx176_6 := bc HB hx176_6;replace p176 := eq_true p176;replace q176 := eq_true q176))
      go_roundg k1
      case measure => have := HK1.out; omega
      case rel => exact ⟨(wrap64 (x7_1 + 1)), rS, H', ⟨by have := HK1.out; omega⟩, ⟨cB⟩⟩
    ·replace c7 := Bool.eq_false_iff.mpr c7;subst c7;replace H := iF H;have H' := Aside0.mk H;clear H;have p174 : 0 ≤ (x7_1 : Int) := dA;have q174 : x7_1 < (l0.length : Int) := dA;obtain ⟨ad174, e174, hx174_0, hx174_1, hx174_2, hx174_3, hx174_4, hx174_5, hx174_6⟩ := at_T124 HR0.out x7_1 p174 q174;cases e174;replace hx174_0 := bc HB hx174_0;replace hx174_1 := bc HB hx174_1;replace hx174_2 := bc HB hx174_2;replace hx174_3 := bc HB hx174_3;replace hx174_4 := bc HB hx174_4;replace hx174_5 := bc HB hx174_5;replace hx174_6 := bc HB hx174_6;replace p174 := eq_true p174;replace q174 := eq_true q174
     go_wp2_with (first|((with_reducible refine gF 149 ?_);refine goZ (some 20) Try.func149 #[.agg #[.string ((rd_T124 l0 x7_1).f0), .int .i64 ((rd_T124 l0 x7_1).f1.f0), .int .i64 ((rd_T124 l0 x7_1).f1.f1), .int .i64 ((rd_T124 l0 x7_1).f1.f2), .int .i64 ((rd_T124 l0 x7_1).f1.f3), .string ((rd_T124 l0 x7_1).f2), .string ((rd_T124 l0 x7_1).f3)]] ?_;(with_reducible refine (impl_Line_isPlace.calls ((rd_T124 l0 x7_1).f0) ((rd_T124 l0 x7_1).f1.f0) ((rd_T124 l0 x7_1).f1.f1) ((rd_T124 l0 x7_1).f1.f2) ((rd_T124 l0 x7_1).f1.f3) ((rd_T124 l0 x7_1).f2) ((rd_T124 l0 x7_1).f3) false _ A6.out).mono ?_);rintro e w11 ⟨rfl, hb⟩;refine ⟨_, rfl, ?_⟩;replace HB := sB hb;(try clear hb)))
     go_roundg k1
     case measure => have := HK1.out; omega
     case rel => exact ⟨(wrap64 (x7_1 + 1)), rS, H', ⟨by have := HK1.out; omega⟩, ⟨cB⟩⟩
   ·rw [if_neg c4] at H;have c4b0 := decide_eq_false c4;clear c4;obtain rfl := Option.some.inj H;go_wp2;go_ret;exact ⟨rE, cB⟩
end Go.Proofs.Ytiinjipfhmgheaa.PFnExactLinesOk
