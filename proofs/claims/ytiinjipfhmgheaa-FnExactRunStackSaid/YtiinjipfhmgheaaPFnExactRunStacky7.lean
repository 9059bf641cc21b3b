import Derived.Test.YtiinjipfhmgheaaPFnExactRunStacky0
import Derived.Test.YtiinjipfhmgheaaPFnExactRunStacky6
namespace Go.Proofs.Ytiinjipfhmgheaa.PFnExactRunStack
open Go.RowKit Go.Proofs.YtiinjipfhmgheaaW.PrintWords Go.Proofs.YtiinjipfhmgheaaW.PrintLast Go.Proofs.YtiinjipfhmgheaaW.PrintMore Go.Proofs.YtiinjipfhmgheaaW.Z
attribute [local go_sem] max2_int min2_int max_two min_two max_three min_three max_four min_four
set_option linter.unusedVariables false
set_option linter.unusedSimpArgs false
def impl_InsOk.j0 : Nat → Bool → Int → Int → Int → Int → Option (Bool)
  | 0, _, _, _, _, _ => none
  | k + 1, x25, x214000, x214001, x214002, x214003 => if x25 = true then (some false) else (if x214000 = 1 then ((impl_within.f x214001 0 7).bind fun t218 => (some t218)) else (if x214000 = 7 then ((impl_within.f x214001 0 399).bind fun t219 => (some t219)) else (if x214000 = 2 then ((impl_HalfOk.f x214001).bind fun t220 => (some t220)) else (if x214000 = 8 then ((impl_HalfOk.f x214001).bind fun t221 => (some t221)) else (some false)))))
def impl_InsOk.f (k : Nat) (a0_0 : Int) (a0_1 : Int) (a0_2 : Int) (a0_3 : Int) : Option (Bool) := (impl_Ins_asks.f a0_0 a0_1 a0_2 a0_3).bind fun t214 => (if t214 = true then ((impl_HalfOk.f a0_1).bind fun t215 => (if t215 = true then ((impl_within.f a0_2 0 15).bind fun t216 => (if t216 = true then ((impl_within.f a0_3 0 15).bind fun t217 => (some t217)) else (some false))) else (some false))) else (if a0_2 = 0 then (impl_InsOk.j0 k (a0_3 != 0) a0_0 a0_1 a0_2 a0_3) else (impl_InsOk.j0 k true a0_0 a0_1 a0_2 a0_3)))
set_option maxHeartbeats 8000000 in
set_option maxRecDepth 100000 in
theorem impl_InsOk.calls (k : Nat) (a0_0 : Int) (a0_1 : Int) (a0_2 : Int) (a0_3 : Int) (r : Bool) (w : World) (h : impl_InsOk.f k a0_0 a0_1 a0_2 a0_3 = some r) :
 Calls Try.prog 138 #[.agg #[.int .i64 a0_0, .int .i64 a0_1, .int .i64 a0_2, .int .i64 a0_3]] w fun e w' => e = .returned (.bool r) ∧ Below w.heap.size w w' := by
 have hu118 := Try.underlying118;have HB := Aside0.mk (Below.refl w.heap.size w)
 have H : ((impl_Ins_asks.f a0_0 a0_1 a0_2 a0_3).bind fun t214 => (if t214 = true then ((impl_HalfOk.f a0_1).bind fun t215 => (if t215 = true then ((impl_within.f a0_2 0 15).bind fun t216 => (if t216 = true then ((impl_within.f a0_3 0 15).bind fun t217 => (some t217)) else (some false))) else (some false))) else (if a0_2 = 0 then (impl_InsOk.j0 k (a0_3 != 0) a0_0 a0_1 a0_2 a0_3) else (impl_InsOk.j0 k true a0_0 a0_1 a0_2 a0_3)))) = some r := h
 clear h;replace H := bE H;obtain ⟨t214, A2, H⟩ := H;by_cases c3 : t214 = true
 ·subst c3;replace H := iT H;replace H := bE H;obtain ⟨t215, A4, H⟩ := H;by_cases c5 : t215 = true
  ·subst c5;replace H := iT H;replace H := bE H;obtain ⟨t216, A6, H⟩ := H;by_cases c7 : t216 = true
   ·subst c7;replace H := iT H;replace H := bE H;obtain ⟨t217, A8, H⟩ := H;obtain rfl := Option.some.inj H;go_enter Try.func138, Try.ntmps138
    go_wp2_with (first|((with_reducible refine gN 1 ?_);refine boxZ 1 #[.int .i64 a0_0, .int .i64 a0_1, .int .i64 a0_2, .int .i64 a0_3] 118 ?_;intro gb213 hg w9 hbox hb;have BK213 := Aside0.mk (hbox);have GW213 := gS hg;have GE213 := gS hg;replace HB := sB hb;clear hb hbox hg;obtain ⟨hcz10_0, hcz10_1, hcz10_2, hcz10_3, hfz10_0, hfz10_1, hfz10_2, hfz10_3⟩ := cz4 BK213)|((with_reducible refine gF 121 ?_);refine goZ (some 4) Try.func121 #[.agg #[.int .i64 a0_0, .int .i64 a0_1, .int .i64 a0_2, .int .i64 a0_3]] ?_;(with_reducible refine (impl_Ins_asks.calls a0_0 a0_1 a0_2 a0_3 true _ A2.out).mono ?_);rintro e w11 ⟨rfl, hb⟩;refine ⟨_, rfl, ?_⟩;replace BK213 := kB BK213 hb;replace HB := sB hb;(try clear hb);obtain ⟨hcz12_0, hcz12_1, hcz12_2, hcz12_3, hfz12_0, hfz12_1, hfz12_2, hfz12_3⟩ := cz4 BK213)|((with_reducible refine gF 105 ?_);refine goZ (some 7) Try.func105 #[.int .i64 a0_1] ?_;(with_reducible refine (impl_HalfOk.calls a0_1 true _ A4.out).mono ?_);rintro e w' ⟨rfl, ⟨nd, rfl⟩⟩;refine ⟨_, rfl, ?_⟩)|(go_at_call 96;(with_reducible refine (impl_within.calls a0_2 0 15 true _ A6.out).mono ?_);rintro e w' ⟨rfl, ⟨nd, rfl⟩⟩)|(go_at_call 96;(with_reducible refine (impl_within.calls a0_3 0 15 t217 _ A8.out).mono ?_);rintro e w' ⟨rfl, ⟨nd, rfl⟩⟩))
    go_ret;exact ⟨rE, cB⟩
   ·replace c7 := Bool.eq_false_iff.mpr c7;subst c7;replace H := iF H;obtain rfl := Option.some.inj H;go_enter Try.func138, Try.ntmps138
    go_wp2_with (first|((with_reducible refine gN 1 ?_);refine boxZ 1 #[.int .i64 a0_0, .int .i64 a0_1, .int .i64 a0_2, .int .i64 a0_3] 118 ?_;intro gb213 hg w13 hbox hb;have BK213 := Aside0.mk (hbox);have GW213 := gS hg;have GE213 := gS hg;replace HB := sB hb;clear hb hbox hg;obtain ⟨hcz14_0, hcz14_1, hcz14_2, hcz14_3, hfz14_0, hfz14_1, hfz14_2, hfz14_3⟩ := cz4 BK213)|((with_reducible refine gF 121 ?_);refine goZ (some 4) Try.func121 #[.agg #[.int .i64 a0_0, .int .i64 a0_1, .int .i64 a0_2, .int .i64 a0_3]] ?_;(with_reducible refine (impl_Ins_asks.calls a0_0 a0_1 a0_2 a0_3 true _ A2.out).mono ?_);rintro e w15 ⟨rfl, hb⟩;refine ⟨_, rfl, ?_⟩;replace BK213 := kB BK213 hb;replace HB := sB hb;(try clear hb);obtain ⟨hcz16_0, hcz16_1, hcz16_2, hcz16_3, hfz16_0, hfz16_1, hfz16_2, hfz16_3⟩ := cz4 BK213)|((with_reducible refine gF 105 ?_);refine goZ (some 7) Try.func105 #[.int .i64 a0_1] ?_;(with_reducible refine (impl_HalfOk.calls a0_1 true _ A4.out).mono ?_);rintro e w' ⟨rfl, ⟨nd, rfl⟩⟩;refine ⟨_, rfl, ?_⟩)|(go_at_call 96;(with_reducible refine (impl_within.calls a0_2 0 15 false _ A6.out).mono ?_);rintro e w' ⟨rfl, ⟨nd, rfl⟩⟩))
    go_ret;exact ⟨rE, cB⟩
  ·replace c5 := Bool.eq_false_iff.mpr c5;subst c5;replace H := iF H;obtain rfl := Option.some.inj H;go_enter Try.func138, Try.ntmps138
   go_wp2_with (first|((with_reducible refine gN 1 ?_);refine boxZ 1 #[.int .i64 a0_0, .int .i64 a0_1, .int .i64 a0_2, .int .i64 a0_3] 118 ?_;intro gb213 hg w17 hbox hb;have BK213 := Aside0.mk (hbox);have GW213 := gS hg;have GE213 := gS hg;replace HB := sB hb;clear hb hbox hg;obtain ⟨hcz18_0, hcz18_1, hcz18_2, hcz18_3, hfz18_0, hfz18_1, hfz18_2, hfz18_3⟩ := cz4 BK213)|((with_reducible refine gF 121 ?_);refine goZ (some 4) Try.func121 #[.agg #[.int .i64 a0_0, .int .i64 a0_1, .int .i64 a0_2, .int .i64 a0_3]] ?_;(with_reducible refine (impl_Ins_asks.calls a0_0 a0_1 a0_2 a0_3 true _ A2.out).mono ?_);rintro e w19 ⟨rfl, hb⟩;refine ⟨_, rfl, ?_⟩;replace BK213 := kB BK213 hb;replace HB := sB hb;(try clear hb);obtain ⟨hcz20_0, hcz20_1, hcz20_2, hcz20_3, hfz20_0, hfz20_1, hfz20_2, hfz20_3⟩ := cz4 BK213)|((with_reducible refine gF 105 ?_);refine goZ (some 7) Try.func105 #[.int .i64 a0_1] ?_;(with_reducible refine (impl_HalfOk.calls a0_1 false _ A4.out).mono ?_);rintro e w' ⟨rfl, ⟨nd, rfl⟩⟩;refine ⟨_, rfl, ?_⟩))
   go_ret;exact ⟨rE, cB⟩
 ·replace c3 := Bool.eq_false_iff.mpr c3;subst c3;replace H := iF H;have HC21 := Aside0.mk H;clear H;go_enter Try.func138, Try.ntmps138
  go_upto_region 3 with (first|((with_reducible refine gN 1 ?_);refine boxZ 1 #[.int .i64 a0_0, .int .i64 a0_1, .int .i64 a0_2, .int .i64 a0_3] 118 ?_;intro gb213 hg w22 hbox hb;have BK213 := Aside0.mk (hbox);have GW213 := gS hg;have GE213 := gS hg;replace HB := sB hb;clear hb hbox hg;obtain ⟨hcz23_0, hcz23_1, hcz23_2, hcz23_3, hfz23_0, hfz23_1, hfz23_2, hfz23_3⟩ := cz4 BK213)|((with_reducible refine gF 121 ?_);refine goZ (some 4) Try.func121 #[.agg #[.int .i64 a0_0, .int .i64 a0_1, .int .i64 a0_2, .int .i64 a0_3]] ?_;(with_reducible refine (impl_Ins_asks.calls a0_0 a0_1 a0_2 a0_3 false _ A2.out).mono ?_);rintro e w24 ⟨rfl, hb⟩;refine ⟨_, rfl, ?_⟩;replace BK213 := kB BK213 hb;replace HB := sB hb;(try clear hb)))
  (try simp only [Act.put, List.setIfInBounds_toArray, List.set_cons_zero, List.set_cons_succ])
  go_cut [25] (fun v25 wc => ∃ (kq : Nat) (x25_20 : Bool), v25 = .bool x25_20 ∧ Aside0 (impl_InsOk.j0 kq x25_20 a0_0 a0_1 a0_2 a0_3 = some r) ∧ Aside0 (kq ≤ k) ∧ Aside0 (wc.heap[gb213]? = some (.cells #[.int .i64 a0_0, .int .i64 a0_1, .int .i64 a0_2, .int .i64 a0_3] 118 (0, 0))) ∧ Aside0 (Below w.heap.size w wc))
  case first =>
   have H := HC21.out;clear HC21;by_cases c25 : a0_2 = 0
   ·rw [if_pos c25] at H;obtain ⟨c25b0, c25b1⟩ := eT c25;clear c25
    (first | rw [c25b0] | (simp only [i64_w, i32_w]; rw [c25b0]) | skip)
    have H' := Aside0.mk H;clear H;obtain ⟨hcz26_0, hcz26_1, hcz26_2, hcz26_3, hfz26_0, hfz26_1, hfz26_2, hfz26_3⟩ := cz4 BK213;go_wp2;go_meet
    case rel => exact ⟨_, ((a0_3 != 0)), rS, H', ⟨oL⟩, ⟨mK BK213⟩, ⟨cB⟩⟩
   ·rw [if_neg c25] at H;obtain ⟨c25b0, c25b1⟩ := eF c25
    (first | rw [c25b0] | (simp only [i64_w, i32_w]; rw [c25b0]) | skip)
    have H' := Aside0.mk H;clear H;obtain ⟨hcz27_0, hcz27_1, hcz27_2, hcz27_3, hfz27_0, hfz27_1, hfz27_2, hfz27_3⟩ := cz4 BK213;go_wp2;go_meet
    case rel => exact ⟨_, (true), rS, H', ⟨oL⟩, ⟨mK BK213⟩, ⟨cB⟩⟩
  case rest =>
   clear HC21;(try clear c3);(try clear c5);(try clear c7);(try clear c25);(try clear c25b0);(try clear c25b1);(try clear hcz10_0);(try clear hcz10_1);(try clear hcz10_2);(try clear hcz10_3);(try clear hcz12_0);(try clear hcz12_1);(try clear hcz12_2);(try clear hcz12_3);(try clear hcz14_0);(try clear hcz14_1);(try clear hcz14_2);(try clear hcz14_3);(try clear hcz16_0);(try clear hcz16_1);(try clear hcz16_2);(try clear hcz16_3);(try clear hcz18_0);(try clear hcz18_1);(try clear hcz18_2);(try clear hcz18_3);(try clear hcz20_0);(try clear hcz20_1);(try clear hcz20_2);(try clear hcz20_3);(try clear hcz23_0);(try clear hcz23_1);(try clear hcz23_2);(try clear hcz23_3);(try clear hcz26_0);(try clear hcz26_1);(try clear hcz26_2);(try clear hcz26_3);(try clear hcz27_0);(try clear hcz27_1);(try clear hcz27_2);(try clear hcz27_3);(try clear hfz10_0);(try clear hfz10_1);(try clear hfz10_2);(try clear hfz10_3);(try clear hfz12_0);(try clear hfz12_1);(try clear hfz12_2);(try clear hfz12_3);(try clear hfz14_0);(try clear hfz14_1);(try clear hfz14_2);(try clear hfz14_3);(try clear hfz16_0);(try clear hfz16_1);(try clear hfz16_2);(try clear hfz16_3);(try clear hfz18_0);(try clear hfz18_1);(try clear hfz18_2);(try clear hfz18_3);(try clear hfz20_0);(try clear hfz20_1);(try clear hfz20_2);(try clear hfz20_3);(try clear hfz23_0);(try clear hfz23_1);(try clear hfz23_2);(try clear hfz23_3);(try clear hfz26_0);(try clear hfz26_1);(try clear hfz26_2);(try clear hfz26_3);(try clear hfz27_0);(try clear hfz27_1);(try clear hfz27_2);(try clear hfz27_3);obtain ⟨kq, x25_20, rfl, HA, HJ20, BK213, HB⟩ := hcut
   cases kq with
   | zero => exact absurd HA.out (by simp [impl_InsOk.j0])
   | succ kj20 =>
    have H := HA.out;clear HA;simp only [impl_InsOk.j0] at H;by_cases c28 : x25_20 = true
    ·subst c28;replace H := iT H;obtain rfl := Option.some.inj H;go_wp2;go_ret;exact ⟨rE, cB⟩
    ·replace c28 := Bool.eq_false_iff.mpr c28;subst c28;replace H := iF H;by_cases c29 : a0_0 = 1
     ·rw [if_pos c29] at H;obtain ⟨c29b0, c29b1⟩ := eT c29;clear c29;replace H := bE H;obtain ⟨t218, A30, H⟩ := H;obtain rfl := Option.some.inj H;obtain ⟨hcz31_0, hcz31_1, hcz31_2, hcz31_3, hfz31_0, hfz31_1, hfz31_2, hfz31_3⟩ := cz4 BK213
      go_wp2_with (first|((with_reducible refine gF 96 ?_);refine goZ (some 32) Try.func96 #[.int .i64 a0_1, .int .i64 0, .int .i64 7] ?_;(with_reducible refine (impl_within.calls a0_1 0 7 t218 _ A30.out).mono ?_);rintro e w' ⟨rfl, ⟨nd, rfl⟩⟩;refine ⟨_, rfl, ?_⟩))
      go_ret;exact ⟨rE, cB⟩
     ·rw [if_neg c29] at H;obtain ⟨c29b0, c29b1⟩ := eF c29;by_cases c32 : a0_0 = 7
      ·rw [if_pos c32] at H;obtain ⟨c32b0, c32b1⟩ := eT c32;clear c32;replace H := bE H;obtain ⟨t219, A33, H⟩ := H;obtain rfl := Option.some.inj H;obtain ⟨hcz34_0, hcz34_1, hcz34_2, hcz34_3, hfz34_0, hfz34_1, hfz34_2, hfz34_3⟩ := cz4 BK213
       go_wp2_with (first|((with_reducible refine gF 96 ?_);refine goZ (some 37) Try.func96 #[.int .i64 a0_1, .int .i64 0, .int .i64 399] ?_;(with_reducible refine (impl_within.calls a0_1 0 399 t219 _ A33.out).mono ?_);rintro e w' ⟨rfl, ⟨nd, rfl⟩⟩;refine ⟨_, rfl, ?_⟩))
       go_ret;exact ⟨rE, cB⟩
      ·rw [if_neg c32] at H;obtain ⟨c32b0, c32b1⟩ := eF c32;by_cases c35 : a0_0 = 2
       ·rw [if_pos c35] at H;obtain ⟨c35b0, c35b1⟩ := eT c35;clear c35;replace H := bE H;obtain ⟨t220, A36, H⟩ := H;obtain rfl := Option.some.inj H;obtain ⟨hcz37_0, hcz37_1, hcz37_2, hcz37_3, hfz37_0, hfz37_1, hfz37_2, hfz37_3⟩ := cz4 BK213
        go_wp2_with (first|((with_reducible refine gF 105 ?_);refine goZ (some 43) Try.func105 #[.int .i64 a0_1] ?_;(with_reducible refine (impl_HalfOk.calls a0_1 t220 _ A36.out).mono ?_);rintro e w' ⟨rfl, ⟨nd, rfl⟩⟩;refine ⟨_, rfl, ?_⟩))
        go_ret;exact ⟨rE, cB⟩
       ·rw [if_neg c35] at H;obtain ⟨c35b0, c35b1⟩ := eF c35;by_cases c38 : a0_0 = 8
        ·rw [if_pos c38] at H;obtain ⟨c38b0, c38b1⟩ := eT c38;clear c38;replace H := bE H;obtain ⟨t221, A39, H⟩ := H;obtain rfl := Option.some.inj H;obtain ⟨hcz40_0, hcz40_1, hcz40_2, hcz40_3, hfz40_0, hfz40_1, hfz40_2, hfz40_3⟩ := cz4 BK213
         go_wp2_with (first|((with_reducible refine gF 105 ?_);refine goZ (some 43) Try.func105 #[.int .i64 a0_1] ?_;(with_reducible refine (impl_HalfOk.calls a0_1 t221 _ A39.out).mono ?_);rintro e w' ⟨rfl, ⟨nd, rfl⟩⟩;refine ⟨_, rfl, ?_⟩))
         go_ret;exact ⟨rE, cB⟩
        ·rw [if_neg c38] at H;obtain ⟨c38b0, c38b1⟩ := eF c38;obtain rfl := Option.some.inj H;obtain ⟨hcz41_0, hcz41_1, hcz41_2, hcz41_3, hfz41_0, hfz41_1, hfz41_2, hfz41_3⟩ := cz4 BK213;go_wp2;go_ret;exact ⟨rE, cB⟩
def impl_farthest.f (a0_0 : Int) (a0_1 : Int) (a0_2 : Int) (a0_3 : Int) (a1 : Int) : Option (Int) := (impl_Ins_asks.f a0_0 a0_1 a0_2 a0_3).bind fun t223 => (if t223 = true then (some (wrap64 ((wrap64 (a1 + 1)) + (mx a0_2 a0_3)))) else (if a0_0 = 7 then (some (wrap64 ((wrap64 (a1 + 1)) + a0_1))) else (some a1)))
set_option maxHeartbeats 8000000 in
set_option maxRecDepth 100000 in
theorem impl_farthest.calls (a0_0 : Int) (a0_1 : Int) (a0_2 : Int) (a0_3 : Int) (a1 : Int) (r : Int) (w : World) (h : impl_farthest.f a0_0 a0_1 a0_2 a0_3 a1 = some r) :
 Calls Try.prog 139 #[.agg #[.int .i64 a0_0, .int .i64 a0_1, .int .i64 a0_2, .int .i64 a0_3], .int .i64 a1] w fun e w' => e = .returned (.int .i64 r) ∧ Below w.heap.size w w' := by
 have hu118 := Try.underlying118;have HB := Aside0.mk (Below.refl w.heap.size w)
 have H : ((impl_Ins_asks.f a0_0 a0_1 a0_2 a0_3).bind fun t223 => (if t223 = true then (some (wrap64 ((wrap64 (a1 + 1)) + (mx a0_2 a0_3)))) else (if a0_0 = 7 then (some (wrap64 ((wrap64 (a1 + 1)) + a0_1))) else (some a1)))) = some r := h
 clear h;replace H := bE H;obtain ⟨t223, A3, H⟩ := H;by_cases c4 : t223 = true
 ·subst c4;replace H := iT H;obtain ⟨ji5, hji5⟩ : ∃ j_ : Int, (mx a0_2 a0_3) = j_ := ⟨_, rfl⟩
  (first|rw [hji5] at H|simp only [hji5] at H)
  (try rw [hji5] at A3);have hji5_ : (if a0_2 < a0_3 then a0_3 else a0_2) = ji5 := hji5;obtain rfl := Option.some.inj H;go_enter Try.func139, Try.ntmps139
  go_wp2_with (first|((with_reducible refine gN 2 ?_);refine boxZ 2 #[.int .i64 a0_0, .int .i64 a0_1, .int .i64 a0_2, .int .i64 a0_3] 118 ?_;intro gb222 hg w6 hbox hb;have BK222 := Aside0.mk (hbox);have GW222 := gS hg;have GE222 := gS hg;replace HB := sB hb;clear hb hbox hg;obtain ⟨hcz7_0, hcz7_1, hcz7_2, hcz7_3, hfz7_0, hfz7_1, hfz7_2, hfz7_3⟩ := cz4 BK222)|((with_reducible refine gF 121 ?_);refine goZ (some 7) Try.func121 #[.agg #[.int .i64 a0_0, .int .i64 a0_1, .int .i64 a0_2, .int .i64 a0_3]] ?_;(with_reducible refine (impl_Ins_asks.calls a0_0 a0_1 a0_2 a0_3 true _ A3.out).mono ?_);rintro e w8 ⟨rfl, hb⟩;refine ⟨_, rfl, ?_⟩;replace BK222 := kB BK222 hb;replace HB := sB hb;(try clear hb);obtain ⟨hcz9_0, hcz9_1, hcz9_2, hcz9_3, hfz9_0, hfz9_1, hfz9_2, hfz9_3⟩ := cz4 BK222))
  go_ret
  exact ⟨by first | rfl | (simp [errW_none, errW_some] <;> rfl) | (simp only [← hji5]; first | rfl | (simp [errW_none, errW_some] <;> rfl)) | (simp [*, errW_none, errW_some] <;> rfl), cB⟩
 ·replace c4 := Bool.eq_false_iff.mpr c4;subst c4;replace H := iF H;by_cases c10 : a0_0 = 7
  ·rw [if_pos c10] at H;obtain ⟨c10b0, c10b1⟩ := eT c10;clear c10;obtain rfl := Option.some.inj H;go_enter Try.func139, Try.ntmps139
   go_wp2_with (first|((with_reducible refine gN 2 ?_);refine boxZ 2 #[.int .i64 a0_0, .int .i64 a0_1, .int .i64 a0_2, .int .i64 a0_3] 118 ?_;intro gb222 hg w11 hbox hb;have BK222 := Aside0.mk (hbox);have GW222 := gS hg;have GE222 := gS hg;replace HB := sB hb;clear hb hbox hg;obtain ⟨hcz12_0, hcz12_1, hcz12_2, hcz12_3, hfz12_0, hfz12_1, hfz12_2, hfz12_3⟩ := cz4 BK222)|((with_reducible refine gF 121 ?_);refine goZ (some 7) Try.func121 #[.agg #[.int .i64 a0_0, .int .i64 a0_1, .int .i64 a0_2, .int .i64 a0_3]] ?_;(with_reducible refine (impl_Ins_asks.calls a0_0 a0_1 a0_2 a0_3 false _ A3.out).mono ?_);rintro e w13 ⟨rfl, hb⟩;refine ⟨_, rfl, ?_⟩;replace BK222 := kB BK222 hb;replace HB := sB hb;(try clear hb);obtain ⟨hcz14_0, hcz14_1, hcz14_2, hcz14_3, hfz14_0, hfz14_1, hfz14_2, hfz14_3⟩ := cz4 BK222))
   go_ret;exact ⟨rE, cB⟩
  ·rw [if_neg c10] at H;obtain ⟨c10b0, c10b1⟩ := eF c10;obtain rfl := Option.some.inj H;go_enter Try.func139, Try.ntmps139
   go_wp2_with (first|((with_reducible refine gN 2 ?_);refine boxZ 2 #[.int .i64 a0_0, .int .i64 a0_1, .int .i64 a0_2, .int .i64 a0_3] 118 ?_;intro gb222 hg w15 hbox hb;have BK222 := Aside0.mk (hbox);have GW222 := gS hg;have GE222 := gS hg;replace HB := sB hb;clear hb hbox hg;obtain ⟨hcz16_0, hcz16_1, hcz16_2, hcz16_3, hfz16_0, hfz16_1, hfz16_2, hfz16_3⟩ := cz4 BK222)|((with_reducible refine gF 121 ?_);refine goZ (some 7) Try.func121 #[.agg #[.int .i64 a0_0, .int .i64 a0_1, .int .i64 a0_2, .int .i64 a0_3]] ?_;(with_reducible refine (impl_Ins_asks.calls a0_0 a0_1 a0_2 a0_3 false _ A3.out).mono ?_);rintro e w17 ⟨rfl, hb⟩;refine ⟨_, rfl, ?_⟩;replace BK222 := kB BK222 hb;replace HB := sB hb;(try clear hb);obtain ⟨hcz18_0, hcz18_1, hcz18_2, hcz18_3, hfz18_0, hfz18_1, hfz18_2, hfz18_3⟩ := cz4 BK222))
   go_ret;exact ⟨rE, cB⟩
mutual
def impl_CheckProgram.j0 : Nat → List (S118) → Int → Bool → Option (Bool)
  | 0, _, _, _ => none
  | k + 1, x0, x3, x19 => if x19 = true then (some false) else (impl_CheckProgram.l0 k x3 x0 (x0.length : Int) 0)
def impl_CheckProgram.l0 : Nat → Int → List (S118) → Int → Int → Option (Bool)
  | 0, _, _, _, _ => none
  | k + 1, x3, x20, x21, x22 => if x22 < x21 then (if 0 ≤ x22 then (if x22 < (x20.length : Int) then ((impl_InsOk.f k ((rd_T118 x20 x22).f0) ((rd_T118 x20 x22).f1) ((rd_T118 x20 x22).f2) ((rd_T118 x20 x22).f3)).bind fun t228 => (if t228 = true then ((impl_farthest.f ((rd_T118 x20 x22).f0) ((rd_T118 x20 x22).f1) ((rd_T118 x20 x22).f2) ((rd_T118 x20 x22).f3) x22).bind fun t229 => (if t229 ≥ x3 then (some false) else (impl_CheckProgram.l0 k x3 x20 x21 (wrap64 (x22 + 1))))) else (some false))) else (none)) else (none)) else (some true)
end
def impl_CheckProgram.f (k : Nat) (l0 : List (S118)) : Option (Bool) := (impl_within.f (l0.length : Int) 1 400).bind fun t224 => (if t224 = true then (if 0 ≤ (wrap64 ((l0.length : Int) - 1)) then (if (wrap64 ((l0.length : Int) - 1)) < (l0.length : Int) then (impl_CheckProgram.j0 k l0 (l0.length : Int) (((rd_T118 l0 (wrap64 ((l0.length : Int) - 1))).f0) != 8)) else (none)) else (none)) else (impl_CheckProgram.j0 k l0 (l0.length : Int) true))
set_option maxHeartbeats 8000000 in
set_option maxRecDepth 100000 in
theorem impl_CheckProgram.calls (k : Nat) (A0 : Option Addr) (c0 : Nat) (l0 : List (S118)) (r : Bool) (w : World) (hr0 : Kd.C k118 w A0 l0.length l0) (hc0 : l0.length ≤ c0) (h : impl_CheckProgram.f k l0 = some r) :
 Calls Try.prog 70 #[.slice A0 l0.length c0] w fun e w' => e = .returned (.bool r) ∧ Below w.heap.size w w' := by
 have hu118 := Try.underlying118;have HR0 := Aside0.mk hr0;have HC0 := Aside0.mk hc0;clear hr0 hc0;have HB := Aside0.mk (Below.refl w.heap.size w)
 have H : ((impl_within.f (l0.length : Int) 1 400).bind fun t224 => (if t224 = true then (if 0 ≤ (wrap64 ((l0.length : Int) - 1)) then (if (wrap64 ((l0.length : Int) - 1)) < (l0.length : Int) then (impl_CheckProgram.j0 k l0 (l0.length : Int) (((rd_T118 l0 (wrap64 ((l0.length : Int) - 1))).f0) != 8)) else (none)) else (none)) else (impl_CheckProgram.j0 k l0 (l0.length : Int) true))) = some r := h
 clear h;have HC2 := Aside0.mk H;clear H;go_enter Try.func70, Try.ntmps70
 go_upto_region 2 with (fail)
 go_cut [19] (fun v19 wc => ∃ (kq : Nat) (x19_1 : Bool), v19 = .bool x19_1 ∧ Aside0 (impl_CheckProgram.j0 kq l0 (l0.length : Int) x19_1 = some r) ∧ Aside0 (kq ≤ k) ∧ Aside0 (Below w.heap.size w wc))
 case first =>
  have H := HC2.out;clear HC2;replace H := bE H;obtain ⟨t224, A3, H⟩ := H;by_cases c4 : t224 = true
  ·subst c4;replace H := iT H;obtain ⟨ji5, hji5⟩ : ∃ j_ : Int, (wrap64 ((l0.length : Int) - 1)) = j_ := ⟨_, rfl⟩
   (first|rw [hji5] at H|simp only [hji5] at H)
   (try rw [hji5] at A3);have hji5w : (IntKind.i64.wrap ((l0.length : Int) - 1)) = ji5 := (i64_w _).trans hji5;replace H := gD H;obtain ⟨c6b0, H⟩ := H
   (first | rw [c6b0] | (simp only [i64_w, i32_w]; rw [c6b0]) | skip)
   replace H := gD H;obtain ⟨c7b0, H⟩ := H;have H' := Aside0.mk H;clear H
   go_wp2_with (first|((with_reducible refine gF 96 ?_);refine goZ (some 9) Try.func96 #[.int .i64 (l0.length : Int), .int .i64 1, .int .i64 400] ?_;(with_reducible refine (impl_within.calls (l0.length : Int) 1 400 true _ A3.out).mono ?_);rintro e w' ⟨rfl, ⟨nd, rfl⟩⟩;refine ⟨_, rfl, ?_⟩;have p225 : 0 ≤ ((ji5) : Int) := dA;have q225 : (ji5) < (l0.length : Int) := dA;obtain ⟨ad225, e225, hx225_0, hx225_1, hx225_2, hx225_3⟩ := at_T118 HR0.out (ji5) p225 q225;cases e225;replace hx225_0 := (bc HB hx225_0 :);replace hx225_1 := (bc HB hx225_1 :);replace hx225_2 := (bc HB hx225_2 :);replace hx225_3 := (bc HB hx225_3 :);replace p225 := eq_true p225;replace q225 := eq_true q225))
   go_meet
   case rel => exact ⟨_, ((((rd_T118 l0 (ji5)).f0) != 8)), (by first | rfl | (simp; done) | (simp only [← hji5] <;> (first | rfl | simp)) | (simp [*]; done)), H', ⟨oL⟩, ⟨cB⟩⟩
  ·replace c4 := Bool.eq_false_iff.mpr c4;subst c4;replace H := iF H;have H' := Aside0.mk H;clear H
   go_wp2_with (first|((with_reducible refine gF 96 ?_);refine goZ (some 9) Try.func96 #[.int .i64 (l0.length : Int), .int .i64 1, .int .i64 400] ?_;(with_reducible refine (impl_within.calls (l0.length : Int) 1 400 false _ A3.out).mono ?_);rintro e w' ⟨rfl, ⟨nd, rfl⟩⟩;refine ⟨_, rfl, ?_⟩))
   go_meet
   case rel => exact ⟨_, (true), rS, H', ⟨oL⟩, ⟨cB⟩⟩
 case rest =>
  clear HC2;(try clear c4);(try clear c6);(try clear c6b0);(try clear c7);(try clear c7b0);(try clear hx225_0);(try clear hx225_1);(try clear hx225_2);(try clear hx225_3);(try clear p225);(try clear q225);obtain ⟨kq, x19_1, rfl, HA, HJ1, HB⟩ := hcut
  cases kq with
  | zero => exact absurd HA.out (by simp [impl_CheckProgram.j0])
  | succ kj1 =>
   have H := HA.out;clear HA;simp only [impl_CheckProgram.j0] at H;by_cases c8 : x19_1 = true
   ·subst c8;replace H := iT H;obtain rfl := Option.some.inj H;go_wp2;go_ret;exact ⟨rE, cB⟩
   ·replace c8 := Bool.eq_false_iff.mpr c8;subst c8;replace H := iF H;have H' := Aside0.mk H;clear H;go_wp2
    go_loopg [22] kj1 (fun kq v22 w' => ∃ (x22_2 : Int), v22 = .int .i64 x22_2 ∧ Aside0 (impl_CheckProgram.l0 kq (l0.length : Int) l0 (l0.length : Int) x22_2 = some r) ∧ Aside0 (kq ≤ kj1) ∧ Aside0 (Below w.heap.size w w'))
    case atStart => exact ⟨(0), rS, H', ⟨Nat.le_refl _⟩, ⟨cB⟩⟩
    case round =>
     clear H';(try clear c4);(try clear c6);(try clear c6b0);(try clear c7);(try clear c7b0);(try clear c8);(try clear hx225_0);(try clear hx225_1);(try clear hx225_2);(try clear hx225_3);(try clear p225);(try clear q225);obtain ⟨x22_2, rfl, HA, HK2, HB⟩ := hrel
     cases gk with
     | zero => exact absurd HA.out (by simp [impl_CheckProgram.l0])
     | succ k2 =>
      have H := HA.out;clear HA;simp only [impl_CheckProgram.l0] at H;by_cases c9 : x22_2 < (l0.length : Int)
      ·rw [if_pos c9] at H;have c9b0 := decide_eq_true c9;clear c9;replace H := gD H;obtain ⟨c10b0, H⟩ := H;replace H := gD H;obtain ⟨c11b0, H⟩ := H;replace H := bE H;obtain ⟨t228, A12, H⟩ := H;by_cases c13 : t228 = true
       ·subst c13;replace H := iT H;replace H := bE H;obtain ⟨t229, A14, H⟩ := H;by_cases c15 : t229 ≥ (l0.length : Int)
        ·rw [if_pos c15] at H;have c15b0 : decide ((l0.length : Int) ≤ t229) = true := decide_eq_true c15;clear c15;obtain rfl := Option.some.inj H;have p226 : 0 ≤ (x22_2 : Int) := dA;have q226 : x22_2 < (l0.length : Int) := dA;obtain ⟨ad226, e226, hx226_0, hx226_1, hx226_2, hx226_3⟩ := at_T118 HR0.out x22_2 p226 q226;cases e226;replace hx226_0 := (bc HB hx226_0 :);replace hx226_1 := (bc HB hx226_1 :);replace hx226_2 := (bc HB hx226_2 :);replace hx226_3 := (bc HB hx226_3 :);replace p226 := eq_true p226;replace q226 := eq_true q226
         go_wp2_with (first|((with_reducible refine gN 5 ?_);refine boxZ 5 #[.int .i64 0, .int .i64 0, .int .i64 0, .int .i64 0] 118 ?_;intro gb227 hg w16 hbox hb;have BK227 := Aside0.mk (hbox);have GW227 := gS hg;have GE227 := gS hg;replace HB := sB hb;clear hb hbox hg;obtain ⟨hcz17_0, hcz17_1, hcz17_2, hcz17_3, hfz17_0, hfz17_1, hfz17_2, hfz17_3⟩ := cz4 BK227)|((with_reducible refine gF 138 ?_);refine goZ (some 28) Try.func138 #[.agg #[.int .i64 ((rd_T118 l0 x22_2).f0), .int .i64 ((rd_T118 l0 x22_2).f1), .int .i64 ((rd_T118 l0 x22_2).f2), .int .i64 ((rd_T118 l0 x22_2).f3)]] ?_;(with_reducible refine (impl_InsOk.calls k2 ((rd_T118 l0 x22_2).f0) ((rd_T118 l0 x22_2).f1) ((rd_T118 l0 x22_2).f2) ((rd_T118 l0 x22_2).f3) true _ A12.out).mono ?_);rintro e w18 ⟨rfl, hb⟩;refine ⟨_, rfl, ?_⟩;replace BK227 := kP BK227 hb (.cells #[.int .i64 ((rd_T118 l0 x22_2).f0), .int .i64 ((rd_T118 l0 x22_2).f1), .int .i64 ((rd_T118 l0 x22_2).f2), .int .i64 ((rd_T118 l0 x22_2).f3)] 118 (0, 0));replace HB := sB hb;(try clear hb);obtain ⟨hcz19_0, hcz19_1, hcz19_2, hcz19_3, hfz19_0, hfz19_1, hfz19_2, hfz19_3⟩ := cz4 BK227)|(go_at_call 139;(with_reducible refine (impl_farthest.calls ((rd_T118 l0 x22_2).f0) ((rd_T118 l0 x22_2).f1) ((rd_T118 l0 x22_2).f2) ((rd_T118 l0 x22_2).f3) x22_2 t229 _ A14.out).mono ?_);rintro e w20 ⟨rfl, hb⟩;replace BK227 := kB BK227 hb;replace HB := sB hb;(try clear hb)))
         go_ret;exact ⟨rE, cB⟩
        ·rw [if_neg c15] at H;have c15b0 : decide ((l0.length : Int) ≤ t229) = false := decide_eq_false c15;clear c15;have H' := Aside0.mk H;clear H;have p226 : 0 ≤ (x22_2 : Int) := dA;have q226 : x22_2 < (l0.length : Int) := dA;obtain ⟨ad226, e226, hx226_0, hx226_1, hx226_2, hx226_3⟩ := at_T118 HR0.out x22_2 p226 q226;cases e226;replace hx226_0 := (bc HB hx226_0 :);replace hx226_1 := (bc HB hx226_1 :);replace hx226_2 := (bc HB hx226_2 :);replace hx226_3 := (bc HB hx226_3 :);replace p226 := eq_true p226;replace q226 := eq_true q226
         go_wp2_with (first|((with_reducible refine gN 5 ?_);refine boxZ 5 #[.int .i64 0, .int .i64 0, .int .i64 0, .int .i64 0] 118 ?_;intro gb227 hg w21 hbox hb;have BK227 := Aside0.mk (hbox);have GW227 := gS hg;have GE227 := gS hg;replace HB := sB hb;clear hb hbox hg;obtain ⟨hcz22_0, hcz22_1, hcz22_2, hcz22_3, hfz22_0, hfz22_1, hfz22_2, hfz22_3⟩ := cz4 BK227)|((with_reducible refine gF 138 ?_);refine goZ (some 28) Try.func138 #[.agg #[.int .i64 ((rd_T118 l0 x22_2).f0), .int .i64 ((rd_T118 l0 x22_2).f1), .int .i64 ((rd_T118 l0 x22_2).f2), .int .i64 ((rd_T118 l0 x22_2).f3)]] ?_;(with_reducible refine (impl_InsOk.calls k2 ((rd_T118 l0 x22_2).f0) ((rd_T118 l0 x22_2).f1) ((rd_T118 l0 x22_2).f2) ((rd_T118 l0 x22_2).f3) true _ A12.out).mono ?_);rintro e w23 ⟨rfl, hb⟩;refine ⟨_, rfl, ?_⟩;replace BK227 := kP BK227 hb (.cells #[.int .i64 ((rd_T118 l0 x22_2).f0), .int .i64 ((rd_T118 l0 x22_2).f1), .int .i64 ((rd_T118 l0 x22_2).f2), .int .i64 ((rd_T118 l0 x22_2).f3)] 118 (0, 0));replace HB := sB hb;(try clear hb);obtain ⟨hcz24_0, hcz24_1, hcz24_2, hcz24_3, hfz24_0, hfz24_1, hfz24_2, hfz24_3⟩ := cz4 BK227)|(go_at_call 139;(with_reducible refine (impl_farthest.calls ((rd_T118 l0 x22_2).f0) ((rd_T118 l0 x22_2).f1) ((rd_T118 l0 x22_2).f2) ((rd_T118 l0 x22_2).f3) x22_2 t229 _ A14.out).mono ?_);rintro e w25 ⟨rfl, hb⟩;replace BK227 := kB BK227 hb;replace HB := sB hb;(try clear hb)))
         go_roundg k2
         case measure => have := HJ1.out; have := HK2.out; omega
         case rel => exact ⟨(wrap64 (x22_2 + 1)), rS, H', ⟨by have := HJ1.out; have := HK2.out; omega⟩, ⟨cB⟩⟩
       ·replace c13 := Bool.eq_false_iff.mpr c13;subst c13;replace H := iF H;obtain rfl := Option.some.inj H;have p226 : 0 ≤ (x22_2 : Int) := dA;have q226 : x22_2 < (l0.length : Int) := dA;obtain ⟨ad226, e226, hx226_0, hx226_1, hx226_2, hx226_3⟩ := at_T118 HR0.out x22_2 p226 q226;cases e226;replace hx226_0 := (bc HB hx226_0 :);replace hx226_1 := (bc HB hx226_1 :);replace hx226_2 := (bc HB hx226_2 :);replace hx226_3 := (bc HB hx226_3 :);replace p226 := eq_true p226;replace q226 := eq_true q226
        go_wp2_with (first|((with_reducible refine gN 5 ?_);refine boxZ 5 #[.int .i64 0, .int .i64 0, .int .i64 0, .int .i64 0] 118 ?_;intro gb227 hg w26 hbox hb;have BK227 := Aside0.mk (hbox);have GW227 := gS hg;have GE227 := gS hg;replace HB := sB hb;clear hb hbox hg;obtain ⟨hcz27_0, hcz27_1, hcz27_2, hcz27_3, hfz27_0, hfz27_1, hfz27_2, hfz27_3⟩ := cz4 BK227)|((with_reducible refine gF 138 ?_);refine goZ (some 28) Try.func138 #[.agg #[.int .i64 ((rd_T118 l0 x22_2).f0), .int .i64 ((rd_T118 l0 x22_2).f1), .int .i64 ((rd_T118 l0 x22_2).f2), .int .i64 ((rd_T118 l0 x22_2).f3)]] ?_;(with_reducible refine (impl_InsOk.calls k2 ((rd_T118 l0 x22_2).f0) ((rd_T118 l0 x22_2).f1) ((rd_T118 l0 x22_2).f2) ((rd_T118 l0 x22_2).f3) false _ A12.out).mono ?_);rintro e w28 ⟨rfl, hb⟩;refine ⟨_, rfl, ?_⟩;replace BK227 := kP BK227 hb (.cells #[.int .i64 ((rd_T118 l0 x22_2).f0), .int .i64 ((rd_T118 l0 x22_2).f1), .int .i64 ((rd_T118 l0 x22_2).f2), .int .i64 ((rd_T118 l0 x22_2).f3)] 118 (0, 0));replace HB := sB hb;(try clear hb)))
        go_ret;exact ⟨rE, cB⟩
      ·rw [if_neg c9] at H;have c9b0 := decide_eq_false c9;clear c9;obtain rfl := Option.some.inj H;go_wp2;go_ret;exact ⟨rE, cB⟩
def impl_StackOk.l0 : Nat → List (List (S118)) → List (List (S118)) → Int → Int → Option (Bool)
  | 0, _, _, _, _ => none
  | k + 1, x0, x5, x6, x7 => if x7 < x6 then (if 0 ≤ x7 then (if x7 < (x5.length : Int) then ((impl_CheckProgram.f k (rd_L4 x5 x7)).bind fun t231 => (if t231 = true then (impl_StackOk.l0 k x0 x5 x6 (wrap64 (x7 + 1))) else (some false))) else (none)) else (none)) else (some (decide ((x0.length : Int) ≤ 3)))
def impl_StackOk.f (k : Nat) (l0 : List (List (S118))) : Option (Bool) := impl_StackOk.l0 k l0 l0 (l0.length : Int) 0
set_option maxHeartbeats 8000000 in
set_option maxRecDepth 100000 in
theorem impl_StackOk.calls (k : Nat) (A0 : Option Addr) (c0 : Nat) (l0 : List (List (S118))) (r : Bool) (w : World) (hr0 : Kd.C (Kd.slice 118 k118) w A0 l0.length l0) (hc0 : l0.length ≤ c0) (h : impl_StackOk.f k l0 = some r) :
 Calls Try.prog 18 #[.slice A0 l0.length c0] w fun e w' => e = .returned (.bool r) ∧ Below w.heap.size w w' := by
 have HR0 := Aside0.mk hr0;have HC0 := Aside0.mk hc0;clear hr0 hc0;have HB := Aside0.mk (Below.refl w.heap.size w);have H : (impl_StackOk.l0 k l0 l0 (l0.length : Int) 0) = some r := h;clear h;have H' := Aside0.mk H;clear H;go_enter Try.func18, Try.ntmps18;go_wp2
 go_loopg [7] k (fun kq v7 w' => ∃ (x7_1 : Int), v7 = .int .i64 x7_1 ∧ Aside0 (impl_StackOk.l0 kq l0 l0 (l0.length : Int) x7_1 = some r) ∧ Aside0 (kq ≤ k) ∧ Aside0 (Below w.heap.size w w'))
 case atStart => exact ⟨(0), rS, H', ⟨Nat.le_refl _⟩, ⟨cB⟩⟩
 case round =>
  clear H';obtain ⟨x7_1, rfl, HA, HK1, HB⟩ := hrel
  cases gk with
  | zero => exact absurd HA.out (by simp [impl_StackOk.l0])
  | succ k1 =>
   have H := HA.out;clear HA;simp only [impl_StackOk.l0] at H;by_cases c2 : x7_1 < (l0.length : Int)
   ·rw [if_pos c2] at H;have c2b0 := decide_eq_true c2;clear c2;replace H := gD H;obtain ⟨c3b0, H⟩ := H;replace H := gD H;obtain ⟨c4b0, H⟩ := H;replace H := bE H;obtain ⟨t231, A5, H⟩ := H;by_cases c6 : t231 = true
    ·subst c6;replace H := iT H;have H' := Aside0.mk H;clear H;have p230 : 0 ≤ (x7_1 : Int) := dA;have q230 : x7_1 < (l0.length : Int) := dA;obtain ⟨ad230, A230_0, c230_0, e230, hx230_0, hl230_0, hi230_0⟩ := at_L4 HR0.out x7_1 p230 q230;cases e230;replace hx230_0 := (bc HB hx230_0 :);have HR230_0 := Aside0.mk hi230_0;have HC230_0 := Aside0.mk hl230_0;clear hi230_0 hl230_0;replace p230 := eq_true p230;replace q230 := eq_true q230
     go_wp2_with (first|((with_reducible refine gF 70 ?_);refine goZ (some 12) Try.func70 #[.slice A230_0 (rd_L4 l0 x7_1).length c230_0] ?_;(with_reducible refine (impl_CheckProgram.calls k1 _ _ (rd_L4 l0 x7_1) true _ ?side1 ?side2 A5.out).mono ?_);(case side1 => exact cC (Kd.C_below HR230_0.out HB.out));(case side2 => exact HC230_0.out);rintro e w7 ⟨rfl, hb⟩;refine ⟨_, rfl, ?_⟩;replace HB := sB hb;(try clear hb)))
     go_roundg k1
     case measure => have := HK1.out; omega
     case rel => exact ⟨(wrap64 (x7_1 + 1)), rS, H', ⟨by have := HK1.out; omega⟩, ⟨cB⟩⟩
    ·replace c6 := Bool.eq_false_iff.mpr c6;subst c6;replace H := iF H;obtain rfl := Option.some.inj H;have p230 : 0 ≤ (x7_1 : Int) := dA;have q230 : x7_1 < (l0.length : Int) := dA;obtain ⟨ad230, A230_0, c230_0, e230, hx230_0, hl230_0, hi230_0⟩ := at_L4 HR0.out x7_1 p230 q230;cases e230;replace hx230_0 := (bc HB hx230_0 :);have HR230_0 := Aside0.mk hi230_0;have HC230_0 := Aside0.mk hl230_0;clear hi230_0 hl230_0;replace p230 := eq_true p230;replace q230 := eq_true q230
     go_wp2_with (first|((with_reducible refine gF 70 ?_);refine goZ (some 12) Try.func70 #[.slice A230_0 (rd_L4 l0 x7_1).length c230_0] ?_;(with_reducible refine (impl_CheckProgram.calls k1 _ _ (rd_L4 l0 x7_1) false _ ?side1 ?side2 A5.out).mono ?_);(case side1 => exact cC (Kd.C_below HR230_0.out HB.out));(case side2 => exact HC230_0.out);rintro e w8 ⟨rfl, hb⟩;refine ⟨_, rfl, ?_⟩;replace HB := sB hb;(try clear hb)))
     go_ret;exact ⟨rE, cB⟩
   ·rw [if_neg c2] at H;have c2b0 := decide_eq_false c2;clear c2;obtain rfl := Option.some.inj H;go_wp2;go_ret;exact ⟨rE, cB⟩
end Go.Proofs.Ytiinjipfhmgheaa.PFnExactRunStack
