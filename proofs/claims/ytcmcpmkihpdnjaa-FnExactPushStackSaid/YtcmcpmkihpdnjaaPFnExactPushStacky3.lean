import Derived.Test.YtcmcpmkihpdnjaaPFnExactPushStacky0
import Derived.Test.YtcmcpmkihpdnjaaPFnExactPushStacky2
namespace Go.Proofs.Ytcmcpmkihpdnjaa.PFnExactPushStack
open Go.RowKit Go.Proofs.YtcmcpmkihpdnjaaW.PrintWords Go.Proofs.YtcmcpmkihpdnjaaW.PrintLast Go.Proofs.YtcmcpmkihpdnjaaW.PrintMore Go.Proofs.YtcmcpmkihpdnjaaW.Z
attribute [local go_sem] isS max2_int min2_int max_two min_two max_three min_three max_four min_four
set_option linter.unusedVariables false
set_option linter.unusedSimpArgs false
def impl_HalfOk.f (a0 : Int) : Option (Bool) := (impl_within.f a0 0 4294967295).bind fun t183 => (some t183)
set_option maxHeartbeats 8000000 in
set_option maxRecDepth 100000 in
theorem impl_HalfOk.calls (a0 : Int) (r : Bool) (w : World) (h : impl_HalfOk.f a0 = some r) :
 Calls Try.prog 125 #[.int .i64 a0] w fun e w' => e = .returned (.bool r) ∧ Drawn0 w w' := by
 have H : ((impl_within.f a0 0 4294967295).bind fun t183 => (some t183)) = some r := h
 clear h;replace H := bE H;obtain ⟨t183, A2, H⟩ := H;obtain rfl := Option.some.inj H;go_enter Try.func125, Try.ntmps125
 go_wp2_with (first|((with_reducible refine gF 127 ?_);refine goZ (some 4) Try.func127 #[.int .i64 a0, .int .i64 0, .int .i64 4294967295] ?_;(with_reducible refine (impl_within.calls a0 0 4294967295 t183 _ A2.out).mono ?_);rintro e w' ⟨rfl, ⟨nd, rfl⟩⟩;refine ⟨_, rfl, ?_⟩))
 go_ret
 exact ⟨by first | rfl | (simp; done) | (simp [*]; done), by repeat (first | exact Drawn0.refl _ | apply Drawn0.step)⟩
def impl_Ins_asks.f (a0_0 : Int) (a0_1 : Int) (a0_2 : Int) (a0_3 : Int) : Option (Bool) := (impl_within.f a0_0 3 6).bind fun t185 => (some t185)
set_option maxHeartbeats 8000000 in
set_option maxRecDepth 100000 in
theorem impl_Ins_asks.calls (a0_0 : Int) (a0_1 : Int) (a0_2 : Int) (a0_3 : Int) (r : Bool) (w : World) (h : impl_Ins_asks.f a0_0 a0_1 a0_2 a0_3 = some r) :
 Calls Try.prog 180 #[.agg #[.int .i64 a0_0, .int .i64 a0_1, .int .i64 a0_2, .int .i64 a0_3]] w fun e w' => e = .returned (.bool r) ∧ Below w.heap.size w w' := by
 have hu75 := Try.underlying75;have HB := Aside0.mk (Below.refl w.heap.size w)
 have H : ((impl_within.f a0_0 3 6).bind fun t185 => (some t185)) = some r := h
 clear h;replace H := bE H;obtain ⟨t185, A2, H⟩ := H;obtain rfl := Option.some.inj H;go_enter Try.func180, Try.ntmps180
 go_wp2_with (first|((with_reducible refine gN 1 ?_);refine boxZ 1 #[.int .i64 a0_0, .int .i64 a0_1, .int .i64 a0_2, .int .i64 a0_3] 75 ?_;intro gb184 hg w3 hbox hb;have BK184 := Aside0.mk (hbox);have GW184 := gS hg;have GE184 := gS hg;replace HB := sB hb;clear hb hbox hg;obtain ⟨hcz4_0, hcz4_1, hcz4_2, hcz4_3, hfz4_0, hfz4_1, hfz4_2, hfz4_3⟩ := cz4 BK184)|((with_reducible refine gF 127 ?_);refine goZ (some 5) Try.func127 #[.int .i64 a0_0, .int .i64 3, .int .i64 6] ?_;(with_reducible refine (impl_within.calls a0_0 3 6 t185 _ A2.out).mono ?_);rintro e w' ⟨rfl, ⟨nd, rfl⟩⟩;refine ⟨_, rfl, ?_⟩))
 go_ret;exact ⟨rE, cB⟩
def impl_InsOk.j0 : Nat → Bool → Int → Int → Int → Int → Option (Bool)
  | 0, _, _, _, _, _ => none
  | k + 1, x25, x187000, x187001, x187002, x187003 => if x25 = true then (some false) else (if x187000 = 1 then ((impl_within.f x187001 0 7).bind fun t191 => (some t191)) else (if x187000 = 7 then ((impl_within.f x187001 0 399).bind fun t192 => (some t192)) else (if x187000 = 2 then ((impl_HalfOk.f x187001).bind fun t193 => (some t193)) else (if x187000 = 8 then ((impl_HalfOk.f x187001).bind fun t194 => (some t194)) else (some false)))))
def impl_InsOk.f (k : Nat) (a0_0 : Int) (a0_1 : Int) (a0_2 : Int) (a0_3 : Int) : Option (Bool) := (impl_Ins_asks.f a0_0 a0_1 a0_2 a0_3).bind fun t187 => (if t187 = true then ((impl_HalfOk.f a0_1).bind fun t188 => (if t188 = true then ((impl_within.f a0_2 0 15).bind fun t189 => (if t189 = true then ((impl_within.f a0_3 0 15).bind fun t190 => (some t190)) else (some false))) else (some false))) else (if a0_2 = 0 then (impl_InsOk.j0 k (a0_3 != 0) a0_0 a0_1 a0_2 a0_3) else (impl_InsOk.j0 k true a0_0 a0_1 a0_2 a0_3)))
set_option maxHeartbeats 8000000 in
set_option maxRecDepth 100000 in
theorem impl_InsOk.calls (k : Nat) (a0_0 : Int) (a0_1 : Int) (a0_2 : Int) (a0_3 : Int) (r : Bool) (w : World) (h : impl_InsOk.f k a0_0 a0_1 a0_2 a0_3 = some r) :
 Calls Try.prog 150 #[.agg #[.int .i64 a0_0, .int .i64 a0_1, .int .i64 a0_2, .int .i64 a0_3]] w fun e w' => e = .returned (.bool r) ∧ Below w.heap.size w w' := by
 have hu75 := Try.underlying75;have HB := Aside0.mk (Below.refl w.heap.size w)
 have H : ((impl_Ins_asks.f a0_0 a0_1 a0_2 a0_3).bind fun t187 => (if t187 = true then ((impl_HalfOk.f a0_1).bind fun t188 => (if t188 = true then ((impl_within.f a0_2 0 15).bind fun t189 => (if t189 = true then ((impl_within.f a0_3 0 15).bind fun t190 => (some t190)) else (some false))) else (some false))) else (if a0_2 = 0 then (impl_InsOk.j0 k (a0_3 != 0) a0_0 a0_1 a0_2 a0_3) else (impl_InsOk.j0 k true a0_0 a0_1 a0_2 a0_3)))) = some r := h
 clear h;replace H := bE H;obtain ⟨t187, A2, H⟩ := H;by_cases c3 : t187 = true
 ·subst c3;replace H := iT H;replace H := bE H;obtain ⟨t188, A4, H⟩ := H;by_cases c5 : t188 = true
  ·subst c5;replace H := iT H;replace H := bE H;obtain ⟨t189, A6, H⟩ := H;by_cases c7 : t189 = true
   ·subst c7;replace H := iT H;replace H := bE H;obtain ⟨t190, A8, H⟩ := H;obtain rfl := Option.some.inj H;go_enter Try.func150, Try.ntmps150
    go_wp2_with (first|((with_reducible refine gN 1 ?_);refine boxZ 1 #[.int .i64 a0_0, .int .i64 a0_1, .int .i64 a0_2, .int .i64 a0_3] 75 ?_;intro gb186 hg w9 hbox hb;have BK186 := Aside0.mk (hbox);have GW186 := gS hg;have GE186 := gS hg;replace HB := sB hb;clear hb hbox hg;obtain ⟨hcz10_0, hcz10_1, hcz10_2, hcz10_3, hfz10_0, hfz10_1, hfz10_2, hfz10_3⟩ := cz4 BK186)|((with_reducible refine gF 180 ?_);refine goZ (some 4) Try.func180 #[.agg #[.int .i64 a0_0, .int .i64 a0_1, .int .i64 a0_2, .int .i64 a0_3]] ?_;(with_reducible refine (impl_Ins_asks.calls a0_0 a0_1 a0_2 a0_3 true _ A2.out).mono ?_);rintro e w11 ⟨rfl, hb⟩;refine ⟨_, rfl, ?_⟩;replace BK186 := kB BK186 hb;replace HB := sB hb;(try clear hb);obtain ⟨hcz12_0, hcz12_1, hcz12_2, hcz12_3, hfz12_0, hfz12_1, hfz12_2, hfz12_3⟩ := cz4 BK186)|((with_reducible refine gF 125 ?_);refine goZ (some 7) Try.func125 #[.int .i64 a0_1] ?_;(with_reducible refine (impl_HalfOk.calls a0_1 true _ A4.out).mono ?_);rintro e w' ⟨rfl, ⟨nd, rfl⟩⟩;refine ⟨_, rfl, ?_⟩)|(go_at_call 127;(with_reducible refine (impl_within.calls a0_2 0 15 true _ A6.out).mono ?_);rintro e w' ⟨rfl, ⟨nd, rfl⟩⟩)|(go_at_call 127;(with_reducible refine (impl_within.calls a0_3 0 15 t190 _ A8.out).mono ?_);rintro e w' ⟨rfl, ⟨nd, rfl⟩⟩))
    go_ret;exact ⟨rE, cB⟩
   ·replace c7 := Bool.eq_false_iff.mpr c7;subst c7;replace H := iF H;obtain rfl := Option.some.inj H;go_enter Try.func150, Try.ntmps150
    go_wp2_with (first|((with_reducible refine gN 1 ?_);refine boxZ 1 #[.int .i64 a0_0, .int .i64 a0_1, .int .i64 a0_2, .int .i64 a0_3] 75 ?_;intro gb186 hg w13 hbox hb;have BK186 := Aside0.mk (hbox);have GW186 := gS hg;have GE186 := gS hg;replace HB := sB hb;clear hb hbox hg;obtain ⟨hcz14_0, hcz14_1, hcz14_2, hcz14_3, hfz14_0, hfz14_1, hfz14_2, hfz14_3⟩ := cz4 BK186)|((with_reducible refine gF 180 ?_);refine goZ (some 4) Try.func180 #[.agg #[.int .i64 a0_0, .int .i64 a0_1, .int .i64 a0_2, .int .i64 a0_3]] ?_;(with_reducible refine (impl_Ins_asks.calls a0_0 a0_1 a0_2 a0_3 true _ A2.out).mono ?_);rintro e w15 ⟨rfl, hb⟩;refine ⟨_, rfl, ?_⟩;replace BK186 := kB BK186 hb;replace HB := sB hb;(try clear hb);obtain ⟨hcz16_0, hcz16_1, hcz16_2, hcz16_3, hfz16_0, hfz16_1, hfz16_2, hfz16_3⟩ := cz4 BK186)|((with_reducible refine gF 125 ?_);refine goZ (some 7) Try.func125 #[.int .i64 a0_1] ?_;(with_reducible refine (impl_HalfOk.calls a0_1 true _ A4.out).mono ?_);rintro e w' ⟨rfl, ⟨nd, rfl⟩⟩;refine ⟨_, rfl, ?_⟩)|(go_at_call 127;(with_reducible refine (impl_within.calls a0_2 0 15 false _ A6.out).mono ?_);rintro e w' ⟨rfl, ⟨nd, rfl⟩⟩))
    go_ret;exact ⟨rE, cB⟩
  ·replace c5 := Bool.eq_false_iff.mpr c5;subst c5;replace H := iF H;obtain rfl := Option.some.inj H;go_enter Try.func150, Try.ntmps150
   go_wp2_with (first|((with_reducible refine gN 1 ?_);refine boxZ 1 #[.int .i64 a0_0, .int .i64 a0_1, .int .i64 a0_2, .int .i64 a0_3] 75 ?_;intro gb186 hg w17 hbox hb;have BK186 := Aside0.mk (hbox);have GW186 := gS hg;have GE186 := gS hg;replace HB := sB hb;clear hb hbox hg;obtain ⟨hcz18_0, hcz18_1, hcz18_2, hcz18_3, hfz18_0, hfz18_1, hfz18_2, hfz18_3⟩ := cz4 BK186)|((with_reducible refine gF 180 ?_);refine goZ (some 4) Try.func180 #[.agg #[.int .i64 a0_0, .int .i64 a0_1, .int .i64 a0_2, .int .i64 a0_3]] ?_;(with_reducible refine (impl_Ins_asks.calls a0_0 a0_1 a0_2 a0_3 true _ A2.out).mono ?_);rintro e w19 ⟨rfl, hb⟩;refine ⟨_, rfl, ?_⟩;replace BK186 := kB BK186 hb;replace HB := sB hb;(try clear hb);obtain ⟨hcz20_0, hcz20_1, hcz20_2, hcz20_3, hfz20_0, hfz20_1, hfz20_2, hfz20_3⟩ := cz4 BK186)|((with_reducible refine gF 125 ?_);refine goZ (some 7) Try.func125 #[.int .i64 a0_1] ?_;(with_reducible refine (impl_HalfOk.calls a0_1 false _ A4.out).mono ?_);rintro e w' ⟨rfl, ⟨nd, rfl⟩⟩;refine ⟨_, rfl, ?_⟩))
   go_ret;exact ⟨rE, cB⟩
 ·replace c3 := Bool.eq_false_iff.mpr c3;subst c3;replace H := iF H;have HC21 := Aside0.mk H;clear H;go_enter Try.func150, Try.ntmps150
  go_upto_region 3 with (first|((with_reducible refine gN 1 ?_);refine boxZ 1 #[.int .i64 a0_0, .int .i64 a0_1, .int .i64 a0_2, .int .i64 a0_3] 75 ?_;intro gb186 hg w22 hbox hb;have BK186 := Aside0.mk (hbox);have GW186 := gS hg;have GE186 := gS hg;replace HB := sB hb;clear hb hbox hg;obtain ⟨hcz23_0, hcz23_1, hcz23_2, hcz23_3, hfz23_0, hfz23_1, hfz23_2, hfz23_3⟩ := cz4 BK186)|((with_reducible refine gF 180 ?_);refine goZ (some 4) Try.func180 #[.agg #[.int .i64 a0_0, .int .i64 a0_1, .int .i64 a0_2, .int .i64 a0_3]] ?_;(with_reducible refine (impl_Ins_asks.calls a0_0 a0_1 a0_2 a0_3 false _ A2.out).mono ?_);rintro e w24 ⟨rfl, hb⟩;refine ⟨_, rfl, ?_⟩;replace BK186 := kB BK186 hb;replace HB := sB hb;(try clear hb)))
  (try simp only [Act.put, List.setIfInBounds_toArray, List.set_cons_zero, List.set_cons_succ])
  go_cut [25] (fun v25 wc => ∃ (kq : Nat) (x25_20 : Bool), v25 = .bool x25_20 ∧ Aside0 (impl_InsOk.j0 kq x25_20 a0_0 a0_1 a0_2 a0_3 = some r) ∧ Aside0 (kq ≤ k) ∧ Aside0 (wc.heap[gb186]? = some (.cells #[.int .i64 a0_0, .int .i64 a0_1, .int .i64 a0_2, .int .i64 a0_3] 75 (0, 0))) ∧ Aside0 (Below w.heap.size w wc))
  case first =>
   have H := HC21.out;clear HC21;by_cases c25 : a0_2 = 0
   ·rw [if_pos c25] at H;obtain ⟨c25b0, c25b1⟩ := eT c25;clear c25
    (first | rw [c25b0] | (simp only [i64_w, i32_w]; rw [c25b0]) | skip)
    have H' := Aside0.mk H;clear H;obtain ⟨hcz26_0, hcz26_1, hcz26_2, hcz26_3, hfz26_0, hfz26_1, hfz26_2, hfz26_3⟩ := cz4 BK186;go_wp2;go_meet
    case rel => exact ⟨_, ((a0_3 != 0)), rS, H', ⟨oL⟩, ⟨mK BK186⟩, ⟨cB⟩⟩
   ·rw [if_neg c25] at H;obtain ⟨c25b0, c25b1⟩ := eF c25
    (first | rw [c25b0] | (simp only [i64_w, i32_w]; rw [c25b0]) | skip)
    have H' := Aside0.mk H;clear H;obtain ⟨hcz27_0, hcz27_1, hcz27_2, hcz27_3, hfz27_0, hfz27_1, hfz27_2, hfz27_3⟩ := cz4 BK186;go_wp2;go_meet
    case rel => exact ⟨_, (true), rS, H', ⟨oL⟩, ⟨mK BK186⟩, ⟨cB⟩⟩
  case rest =>
   clear HC21;(try clear c3);(try clear c5);(try clear c7);(try clear c25);(try clear c25b0);(try clear c25b1);(try clear hcz10_0);(try clear hcz10_1);(try clear hcz10_2);(try clear hcz10_3);(try clear hcz12_0);(try clear hcz12_1);(try clear hcz12_2);(try clear hcz12_3);(try clear hcz14_0);(try clear hcz14_1);(try clear hcz14_2);(try clear hcz14_3);(try clear hcz16_0);(try clear hcz16_1);(try clear hcz16_2);(try clear hcz16_3);(try clear hcz18_0);(try clear hcz18_1);(try clear hcz18_2);(try clear hcz18_3);(try clear hcz20_0);(try clear hcz20_1);(try clear hcz20_2);(try clear hcz20_3);(try clear hcz23_0);(try clear hcz23_1);(try clear hcz23_2);(try clear hcz23_3);(try clear hcz26_0);(try clear hcz26_1);(try clear hcz26_2);(try clear hcz26_3);(try clear hcz27_0);(try clear hcz27_1);(try clear hcz27_2);(try clear hcz27_3);(try clear hfz10_0);(try clear hfz10_1);(try clear hfz10_2);(try clear hfz10_3);(try clear hfz12_0);(try clear hfz12_1);(try clear hfz12_2);(try clear hfz12_3);(try clear hfz14_0);(try clear hfz14_1);(try clear hfz14_2);(try clear hfz14_3);(try clear hfz16_0);(try clear hfz16_1);(try clear hfz16_2);(try clear hfz16_3);(try clear hfz18_0);(try clear hfz18_1);(try clear hfz18_2);(try clear hfz18_3);(try clear hfz20_0);(try clear hfz20_1);(try clear hfz20_2);(try clear hfz20_3);(try clear hfz23_0);(try clear hfz23_1);(try clear hfz23_2);(try clear hfz23_3);(try clear hfz26_0);(try clear hfz26_1);(try clear hfz26_2);(try clear hfz26_3);(try clear hfz27_0);(try clear hfz27_1);(try clear hfz27_2);(try clear hfz27_3);obtain ⟨kq, x25_20, rfl, HA, HJ20, BK186, HB⟩ := hcut
   cases kq with
   | zero => exact absurd HA.out (by simp [impl_InsOk.j0])
   | succ kj20 =>
    have H := HA.out;clear HA;simp only [impl_InsOk.j0] at H;by_cases c28 : x25_20 = true
    ·subst c28;replace H := iT H;obtain rfl := Option.some.inj H;go_wp2;go_ret;exact ⟨rE, cB⟩
    ·replace c28 := Bool.eq_false_iff.mpr c28;subst c28;replace H := iF H;by_cases c29 : a0_0 = 1
     ·rw [if_pos c29] at H;obtain ⟨c29b0, c29b1⟩ := eT c29;clear c29;replace H := bE H;obtain ⟨t191, A30, H⟩ := H;obtain rfl := Option.some.inj H;obtain ⟨hcz31_0, hcz31_1, hcz31_2, hcz31_3, hfz31_0, hfz31_1, hfz31_2, hfz31_3⟩ := cz4 BK186
      go_wp2_with (first|((with_reducible refine gF 127 ?_);refine goZ (some 32) Try.func127 #[.int .i64 a0_1, .int .i64 0, .int .i64 7] ?_;(with_reducible refine (impl_within.calls a0_1 0 7 t191 _ A30.out).mono ?_);rintro e w' ⟨rfl, ⟨nd, rfl⟩⟩;refine ⟨_, rfl, ?_⟩))
      go_ret;exact ⟨rE, cB⟩
     ·rw [if_neg c29] at H;obtain ⟨c29b0, c29b1⟩ := eF c29;by_cases c32 : a0_0 = 7
      ·rw [if_pos c32] at H;obtain ⟨c32b0, c32b1⟩ := eT c32;clear c32;replace H := bE H;obtain ⟨t192, A33, H⟩ := H;obtain rfl := Option.some.inj H;obtain ⟨hcz34_0, hcz34_1, hcz34_2, hcz34_3, hfz34_0, hfz34_1, hfz34_2, hfz34_3⟩ := cz4 BK186
       go_wp2_with (first|((with_reducible refine gF 127 ?_);refine goZ (some 37) Try.func127 #[.int .i64 a0_1, .int .i64 0, .int .i64 399] ?_;(with_reducible refine (impl_within.calls a0_1 0 399 t192 _ A33.out).mono ?_);rintro e w' ⟨rfl, ⟨nd, rfl⟩⟩;refine ⟨_, rfl, ?_⟩))
       go_ret;exact ⟨rE, cB⟩
      ·rw [if_neg c32] at H;obtain ⟨c32b0, c32b1⟩ := eF c32;by_cases c35 : a0_0 = 2
       ·rw [if_pos c35] at H;obtain ⟨c35b0, c35b1⟩ := eT c35;clear c35;replace H := bE H;obtain ⟨t193, A36, H⟩ := H;obtain rfl := Option.some.inj H;obtain ⟨hcz37_0, hcz37_1, hcz37_2, hcz37_3, hfz37_0, hfz37_1, hfz37_2, hfz37_3⟩ := cz4 BK186
        go_wp2_with (first|((with_reducible refine gF 125 ?_);refine goZ (some 43) Try.func125 #[.int .i64 a0_1] ?_;(with_reducible refine (impl_HalfOk.calls a0_1 t193 _ A36.out).mono ?_);rintro e w' ⟨rfl, ⟨nd, rfl⟩⟩;refine ⟨_, rfl, ?_⟩))
        go_ret;exact ⟨rE, cB⟩
       ·rw [if_neg c35] at H;obtain ⟨c35b0, c35b1⟩ := eF c35;by_cases c38 : a0_0 = 8
        ·rw [if_pos c38] at H;obtain ⟨c38b0, c38b1⟩ := eT c38;clear c38;replace H := bE H;obtain ⟨t194, A39, H⟩ := H;obtain rfl := Option.some.inj H;obtain ⟨hcz40_0, hcz40_1, hcz40_2, hcz40_3, hfz40_0, hfz40_1, hfz40_2, hfz40_3⟩ := cz4 BK186
         go_wp2_with (first|((with_reducible refine gF 125 ?_);refine goZ (some 43) Try.func125 #[.int .i64 a0_1] ?_;(with_reducible refine (impl_HalfOk.calls a0_1 t194 _ A39.out).mono ?_);rintro e w' ⟨rfl, ⟨nd, rfl⟩⟩;refine ⟨_, rfl, ?_⟩))
         go_ret;exact ⟨rE, cB⟩
        ·rw [if_neg c38] at H;obtain ⟨c38b0, c38b1⟩ := eF c38;obtain rfl := Option.some.inj H;obtain ⟨hcz41_0, hcz41_1, hcz41_2, hcz41_3, hfz41_0, hfz41_1, hfz41_2, hfz41_3⟩ := cz4 BK186;go_wp2;go_ret;exact ⟨rE, cB⟩
def impl_farthest.f (a0_0 : Int) (a0_1 : Int) (a0_2 : Int) (a0_3 : Int) (a1 : Int) : Option (Int) := (impl_Ins_asks.f a0_0 a0_1 a0_2 a0_3).bind fun t196 => (if t196 = true then (some (wrap64 ((wrap64 (a1 + 1)) + (mx a0_2 a0_3)))) else (if a0_0 = 7 then (some (wrap64 ((wrap64 (a1 + 1)) + a0_1))) else (some a1)))
set_option maxHeartbeats 8000000 in
set_option maxRecDepth 100000 in
theorem impl_farthest.calls (a0_0 : Int) (a0_1 : Int) (a0_2 : Int) (a0_3 : Int) (a1 : Int) (r : Int) (w : World) (h : impl_farthest.f a0_0 a0_1 a0_2 a0_3 a1 = some r) :
 Calls Try.prog 151 #[.agg #[.int .i64 a0_0, .int .i64 a0_1, .int .i64 a0_2, .int .i64 a0_3], .int .i64 a1] w fun e w' => e = .returned (.int .i64 r) ∧ Below w.heap.size w w' := by
 have hu75 := Try.underlying75;have HB := Aside0.mk (Below.refl w.heap.size w)
 have H : ((impl_Ins_asks.f a0_0 a0_1 a0_2 a0_3).bind fun t196 => (if t196 = true then (some (wrap64 ((wrap64 (a1 + 1)) + (mx a0_2 a0_3)))) else (if a0_0 = 7 then (some (wrap64 ((wrap64 (a1 + 1)) + a0_1))) else (some a1)))) = some r := h
 clear h;replace H := bE H;obtain ⟨t196, A3, H⟩ := H;by_cases c4 : t196 = true
 ·subst c4;replace H := iT H;obtain ⟨ji5, hji5⟩ : ∃ j_ : Int, (mx a0_2 a0_3) = j_ := ⟨_, rfl⟩
  (first|rw [hji5] at H|simp only [hji5] at H)
  (try rw [hji5] at A3);have hji5_ : (if a0_2 < a0_3 then a0_3 else a0_2) = ji5 := hji5;obtain rfl := Option.some.inj H;go_enter Try.func151, Try.ntmps151
  go_wp2_with (first|((with_reducible refine gN 2 ?_);refine boxZ 2 #[.int .i64 a0_0, .int .i64 a0_1, .int .i64 a0_2, .int .i64 a0_3] 75 ?_;intro gb195 hg w6 hbox hb;have BK195 := Aside0.mk (hbox);have GW195 := gS hg;have GE195 := gS hg;replace HB := sB hb;clear hb hbox hg;obtain ⟨hcz7_0, hcz7_1, hcz7_2, hcz7_3, hfz7_0, hfz7_1, hfz7_2, hfz7_3⟩ := cz4 BK195)|((with_reducible refine gF 180 ?_);refine goZ (some 7) Try.func180 #[.agg #[.int .i64 a0_0, .int .i64 a0_1, .int .i64 a0_2, .int .i64 a0_3]] ?_;(with_reducible refine (impl_Ins_asks.calls a0_0 a0_1 a0_2 a0_3 true _ A3.out).mono ?_);rintro e w8 ⟨rfl, hb⟩;refine ⟨_, rfl, ?_⟩;replace BK195 := kB BK195 hb;replace HB := sB hb;(try clear hb);obtain ⟨hcz9_0, hcz9_1, hcz9_2, hcz9_3, hfz9_0, hfz9_1, hfz9_2, hfz9_3⟩ := cz4 BK195))
  go_ret
  exact ⟨by first | rfl | (simp [errW_none, errW_some] <;> rfl) | (simp only [← hji5]; first | rfl | (simp [errW_none, errW_some] <;> rfl)) | (simp [*, errW_none, errW_some] <;> rfl), cB⟩
 ·replace c4 := Bool.eq_false_iff.mpr c4;subst c4;replace H := iF H;by_cases c10 : a0_0 = 7
  ·rw [if_pos c10] at H;obtain ⟨c10b0, c10b1⟩ := eT c10;clear c10;obtain rfl := Option.some.inj H;go_enter Try.func151, Try.ntmps151
   go_wp2_with (first|((with_reducible refine gN 2 ?_);refine boxZ 2 #[.int .i64 a0_0, .int .i64 a0_1, .int .i64 a0_2, .int .i64 a0_3] 75 ?_;intro gb195 hg w11 hbox hb;have BK195 := Aside0.mk (hbox);have GW195 := gS hg;have GE195 := gS hg;replace HB := sB hb;clear hb hbox hg;obtain ⟨hcz12_0, hcz12_1, hcz12_2, hcz12_3, hfz12_0, hfz12_1, hfz12_2, hfz12_3⟩ := cz4 BK195)|((with_reducible refine gF 180 ?_);refine goZ (some 7) Try.func180 #[.agg #[.int .i64 a0_0, .int .i64 a0_1, .int .i64 a0_2, .int .i64 a0_3]] ?_;(with_reducible refine (impl_Ins_asks.calls a0_0 a0_1 a0_2 a0_3 false _ A3.out).mono ?_);rintro e w13 ⟨rfl, hb⟩;refine ⟨_, rfl, ?_⟩;replace BK195 := kB BK195 hb;replace HB := sB hb;(try clear hb);obtain ⟨hcz14_0, hcz14_1, hcz14_2, hcz14_3, hfz14_0, hfz14_1, hfz14_2, hfz14_3⟩ := cz4 BK195))
   go_ret;exact ⟨rE, cB⟩
  ·rw [if_neg c10] at H;obtain ⟨c10b0, c10b1⟩ := eF c10;obtain rfl := Option.some.inj H;go_enter Try.func151, Try.ntmps151
   go_wp2_with (first|((with_reducible refine gN 2 ?_);refine boxZ 2 #[.int .i64 a0_0, .int .i64 a0_1, .int .i64 a0_2, .int .i64 a0_3] 75 ?_;intro gb195 hg w15 hbox hb;have BK195 := Aside0.mk (hbox);have GW195 := gS hg;have GE195 := gS hg;replace HB := sB hb;clear hb hbox hg;obtain ⟨hcz16_0, hcz16_1, hcz16_2, hcz16_3, hfz16_0, hfz16_1, hfz16_2, hfz16_3⟩ := cz4 BK195)|((with_reducible refine gF 180 ?_);refine goZ (some 7) Try.func180 #[.agg #[.int .i64 a0_0, .int .i64 a0_1, .int .i64 a0_2, .int .i64 a0_3]] ?_;(with_reducible refine (impl_Ins_asks.calls a0_0 a0_1 a0_2 a0_3 false _ A3.out).mono ?_);rintro e w17 ⟨rfl, hb⟩;refine ⟨_, rfl, ?_⟩;replace BK195 := kB BK195 hb;replace HB := sB hb;(try clear hb);obtain ⟨hcz18_0, hcz18_1, hcz18_2, hcz18_3, hfz18_0, hfz18_1, hfz18_2, hfz18_3⟩ := cz4 BK195))
   go_ret;exact ⟨rE, cB⟩
mutual
def impl_CheckProgram.j0 : Nat → List (S75) → Int → Bool → Option (Bool)
  | 0, _, _, _ => none
  | k + 1, x0, x3, x19 => if x19 = true then (some false) else (impl_CheckProgram.l0 k x3 x0 (x0.length : Int) 0)
def impl_CheckProgram.l0 : Nat → Int → List (S75) → Int → Int → Option (Bool)
  | 0, _, _, _, _ => none
  | k + 1, x3, x20, x21, x22 => if x22 < x21 then (if 0 ≤ x22 then (if x22 < (x20.length : Int) then ((impl_InsOk.f k ((rd_T75 x20 x22).f0) ((rd_T75 x20 x22).f1) ((rd_T75 x20 x22).f2) ((rd_T75 x20 x22).f3)).bind fun t201 => (if t201 = true then ((impl_farthest.f ((rd_T75 x20 x22).f0) ((rd_T75 x20 x22).f1) ((rd_T75 x20 x22).f2) ((rd_T75 x20 x22).f3) x22).bind fun t202 => (if t202 ≥ x3 then (some false) else (impl_CheckProgram.l0 k x3 x20 x21 (wrap64 (x22 + 1))))) else (some false))) else (none)) else (none)) else (some true)
end
def impl_CheckProgram.f (k : Nat) (l0 : List (S75)) : Option (Bool) := (impl_within.f (l0.length : Int) 1 400).bind fun t197 => (if t197 = true then (if 0 ≤ (wrap64 ((l0.length : Int) - 1)) then (if (wrap64 ((l0.length : Int) - 1)) < (l0.length : Int) then (impl_CheckProgram.j0 k l0 (l0.length : Int) (((rd_T75 l0 (wrap64 ((l0.length : Int) - 1))).f0) != 8)) else (none)) else (none)) else (impl_CheckProgram.j0 k l0 (l0.length : Int) true))
set_option maxHeartbeats 8000000 in
set_option maxRecDepth 100000 in
theorem impl_CheckProgram.calls (k : Nat) (A0 : Option Addr) (c0 : Nat) (l0 : List (S75)) (r : Bool) (w : World) (hr0 : Kd.C k75 w A0 l0.length l0) (hc0 : l0.length ≤ c0) (h : impl_CheckProgram.f k l0 = some r) :
 Calls Try.prog 111 #[.slice A0 l0.length c0] w fun e w' => e = .returned (.bool r) ∧ Below w.heap.size w w' := by
 have hu75 := Try.underlying75;have HR0 := Aside0.mk hr0;have HC0 := Aside0.mk hc0;clear hr0 hc0;have HB := Aside0.mk (Below.refl w.heap.size w)
 have H : ((impl_within.f (l0.length : Int) 1 400).bind fun t197 => (if t197 = true then (if 0 ≤ (wrap64 ((l0.length : Int) - 1)) then (if (wrap64 ((l0.length : Int) - 1)) < (l0.length : Int) then (impl_CheckProgram.j0 k l0 (l0.length : Int) (((rd_T75 l0 (wrap64 ((l0.length : Int) - 1))).f0) != 8)) else (none)) else (none)) else (impl_CheckProgram.j0 k l0 (l0.length : Int) true))) = some r := h
 clear h;have HC2 := Aside0.mk H;clear H;go_enter Try.func111, Try.ntmps111
 go_upto_region 2 with (fail)
 go_cut [19] (fun v19 wc => ∃ (kq : Nat) (x19_1 : Bool), v19 = .bool x19_1 ∧ Aside0 (impl_CheckProgram.j0 kq l0 (l0.length : Int) x19_1 = some r) ∧ Aside0 (kq ≤ k) ∧ Aside0 (Below w.heap.size w wc))
 case first =>
  have H := HC2.out;clear HC2;replace H := bE H;obtain ⟨t197, A3, H⟩ := H;by_cases c4 : t197 = true
  ·subst c4;replace H := iT H;obtain ⟨ji5, hji5⟩ : ∃ j_ : Int, (wrap64 ((l0.length : Int) - 1)) = j_ := ⟨_, rfl⟩
   (first|rw [hji5] at H|simp only [hji5] at H)
   (try rw [hji5] at A3);have hji5w : (IntKind.i64.wrap ((l0.length : Int) - 1)) = ji5 := (i64_w _).trans hji5;replace H := gD H;obtain ⟨c6b0, H⟩ := H
   (first | rw [c6b0] | (simp only [i64_w, i32_w]; rw [c6b0]) | skip)
   replace H := gD H;obtain ⟨c7b0, H⟩ := H;have H' := Aside0.mk H;clear H
   go_wp2_with (first|((with_reducible refine gF 127 ?_);refine goZ (some 9) Try.func127 #[.int .i64 (l0.length : Int), .int .i64 1, .int .i64 400] ?_;(with_reducible refine (impl_within.calls (l0.length : Int) 1 400 true _ A3.out).mono ?_);rintro e w' ⟨rfl, ⟨nd, rfl⟩⟩;refine ⟨_, rfl, ?_⟩;have p198 : 0 ≤ ((ji5) : Int) := dA;have q198 : (ji5) < (l0.length : Int) := dA;obtain ⟨ad198, e198, hx198_0, hx198_1, hx198_2, hx198_3⟩ := at_T75 HR0.out (ji5) p198 q198;cases e198;replace hx198_0 := (bc HB hx198_0 :);replace hx198_1 := (bc HB hx198_1 :);replace hx198_2 := (bc HB hx198_2 :);replace hx198_3 := (bc HB hx198_3 :);replace p198 := eq_true p198;replace q198 := eq_true q198))
   go_meet
   case rel => exact ⟨_, ((((rd_T75 l0 (ji5)).f0) != 8)), (by first | rfl | (simp; done) | (simp only [← hji5] <;> (first | rfl | simp)) | (simp [*]; done)), H', ⟨oL⟩, ⟨cB⟩⟩
  ·replace c4 := Bool.eq_false_iff.mpr c4;subst c4;replace H := iF H;have H' := Aside0.mk H;clear H
   go_wp2_with (first|((with_reducible refine gF 127 ?_);refine goZ (some 9) Try.func127 #[.int .i64 (l0.length : Int), .int .i64 1, .int .i64 400] ?_;(with_reducible refine (impl_within.calls (l0.length : Int) 1 400 false _ A3.out).mono ?_);rintro e w' ⟨rfl, ⟨nd, rfl⟩⟩;refine ⟨_, rfl, ?_⟩))
   go_meet
   case rel => exact ⟨_, (true), rS, H', ⟨oL⟩, ⟨cB⟩⟩
 case rest =>
  clear HC2;(try clear c4);(try clear c6);(try clear c6b0);(try clear c7);(try clear c7b0);(try clear hx198_0);(try clear hx198_1);(try clear hx198_2);(try clear hx198_3);(try clear p198);(try clear q198);obtain ⟨kq, x19_1, rfl, HA, HJ1, HB⟩ := hcut
  cases kq with
  | zero => exact absurd HA.out (by simp [impl_CheckProgram.j0])
  | succ kj1 =>
   have H := HA.out;clear HA;simp only [impl_CheckProgram.j0] at H;by_cases c8 : x19_1 = true
   ·subst c8;replace H := iT H;obtain rfl := Option.some.inj H;go_wp2;go_ret;exact ⟨rE, cB⟩
   ·replace c8 := Bool.eq_false_iff.mpr c8;subst c8;replace H := iF H;have H' := Aside0.mk H;clear H;go_wp2
    go_loopg [22] kj1 (fun kq v22 w' => ∃ (x22_2 : Int), v22 = .int .i64 x22_2 ∧ Aside0 (impl_CheckProgram.l0 kq (l0.length : Int) l0 (l0.length : Int) x22_2 = some r) ∧ Aside0 (kq ≤ kj1) ∧ Aside0 (Below w.heap.size w w'))
    case atStart => exact ⟨(0), rS, H', ⟨Nat.le_refl _⟩, ⟨cB⟩⟩
    case round =>
     clear H';(try clear c4);(try clear c6);(try clear c6b0);(try clear c7);(try clear c7b0);(try clear c8);(try clear hx198_0);(try clear hx198_1);(try clear hx198_2);(try clear hx198_3);(try clear p198);(try clear q198);obtain ⟨x22_2, rfl, HA, HK2, HB⟩ := hrel
     cases gk with
     | zero => exact absurd HA.out (by simp [impl_CheckProgram.l0])
     | succ k2 =>
      have H := HA.out;clear HA;simp only [impl_CheckProgram.l0] at H;by_cases c9 : x22_2 < (l0.length : Int)
      ·rw [if_pos c9] at H;have c9b0 := decide_eq_true c9;clear c9;replace H := gD H;obtain ⟨c10b0, H⟩ := H;replace H := gD H;obtain ⟨c11b0, H⟩ := H;replace H := bE H;obtain ⟨t201, A12, H⟩ := H;by_cases c13 : t201 = true
       ·subst c13;replace H := iT H;replace H := bE H;obtain ⟨t202, A14, H⟩ := H;by_cases c15 : t202 ≥ (l0.length : Int)
        ·rw [if_pos c15] at H;have c15b0 : decide ((l0.length : Int) ≤ t202) = true := decide_eq_true c15;clear c15;obtain rfl := Option.some.inj H;have p199 : 0 ≤ (x22_2 : Int) := dA;have q199 : x22_2 < (l0.length : Int) := dA;obtain ⟨ad199, e199, hx199_0, hx199_1, hx199_2, hx199_3⟩ := at_T75 HR0.out x22_2 p199 q199;cases e199;replace hx199_0 := (bc HB hx199_0 :);replace hx199_1 := (bc HB hx199_1 :);replace hx199_2 := (bc HB hx199_2 :);replace hx199_3 := (bc HB hx199_3 :);replace p199 := eq_true p199;replace q199 := eq_true q199
         go_wp2_with (first|((with_reducible refine gN 5 ?_);refine boxZ 5 #[.int .i64 0, .int .i64 0, .int .i64 0, .int .i64 0] 75 ?_;intro gb200 hg w16 hbox hb;have BK200 := Aside0.mk (hbox);have GW200 := gS hg;have GE200 := gS hg;replace HB := sB hb;clear hb hbox hg;obtain ⟨hcz17_0, hcz17_1, hcz17_2, hcz17_3, hfz17_0, hfz17_1, hfz17_2, hfz17_3⟩ := cz4 BK200)|((with_reducible refine gF 150 ?_);refine goZ (some 28) Try.func150 #[.agg #[.int .i64 ((rd_T75 l0 x22_2).f0), .int .i64 ((rd_T75 l0 x22_2).f1), .int .i64 ((rd_T75 l0 x22_2).f2), .int .i64 ((rd_T75 l0 x22_2).f3)]] ?_;(with_reducible refine (impl_InsOk.calls k2 ((rd_T75 l0 x22_2).f0) ((rd_T75 l0 x22_2).f1) ((rd_T75 l0 x22_2).f2) ((rd_T75 l0 x22_2).f3) true _ A12.out).mono ?_);rintro e w18 ⟨rfl, hb⟩;refine ⟨_, rfl, ?_⟩;replace BK200 := kP BK200 hb (.cells #[.int .i64 ((rd_T75 l0 x22_2).f0), .int .i64 ((rd_T75 l0 x22_2).f1), .int .i64 ((rd_T75 l0 x22_2).f2), .int .i64 ((rd_T75 l0 x22_2).f3)] 75 (0, 0));replace HB := sB hb;(try clear hb);obtain ⟨hcz19_0, hcz19_1, hcz19_2, hcz19_3, hfz19_0, hfz19_1, hfz19_2, hfz19_3⟩ := cz4 BK200)|(go_at_call 151;(with_reducible refine (impl_farthest.calls ((rd_T75 l0 x22_2).f0) ((rd_T75 l0 x22_2).f1) ((rd_T75 l0 x22_2).f2) ((rd_T75 l0 x22_2).f3) x22_2 t202 _ A14.out).mono ?_);rintro e w20 ⟨rfl, hb⟩;replace BK200 := kB BK200 hb;replace HB := sB hb;(try clear hb)))
         go_ret;exact ⟨rE, cB⟩
        ·rw [if_neg c15] at H;have c15b0 : decide ((l0.length : Int) ≤ t202) = false := decide_eq_false c15;clear c15;have H' := Aside0.mk H;clear H;have p199 : 0 ≤ (x22_2 : Int) := dA;have q199 : x22_2 < (l0.length : Int) := dA;obtain ⟨ad199, e199, hx199_0, hx199_1, hx199_2, hx199_3⟩ := at_T75 HR0.out x22_2 p199 q199;cases e199;replace hx199_0 := (bc HB hx199_0 :);replace hx199_1 := (bc HB hx199_1 :);replace hx199_2 := (bc HB hx199_2 :);replace hx199_3 := (bc HB hx199_3 :);replace p199 := eq_true p199;replace q199 := eq_true q199
         go_wp2_with (first|((with_reducible refine gN 5 ?_);refine boxZ 5 #[.int .i64 0, .int .i64 0, .int .i64 0, .int .i64 0] 75 ?_;intro gb200 hg w21 hbox hb;have BK200 := Aside0.mk (hbox);have GW200 := gS hg;have GE200 := gS hg;replace HB := sB hb;clear hb hbox hg;obtain ⟨hcz22_0, hcz22_1, hcz22_2, hcz22_3, hfz22_0, hfz22_1, hfz22_2, hfz22_3⟩ := cz4 BK200)|((with_reducible refine gF 150 ?_);refine goZ (some 28) Try.func150 #[.agg #[.int .i64 ((rd_T75 l0 x22_2).f0), .int .i64 ((rd_T75 l0 x22_2).f1), .int .i64 ((rd_T75 l0 x22_2).f2), .int .i64 ((rd_T75 l0 x22_2).f3)]] ?_;(with_reducible refine (impl_InsOk.calls k2 ((rd_T75 l0 x22_2).f0) ((rd_T75 l0 x22_2).f1) ((rd_T75 l0 x22_2).f2) ((rd_T75 l0 x22_2).f3) true _ A12.out).mono ?_);rintro e w23 ⟨rfl, hb⟩;refine ⟨_, rfl, ?_⟩;replace BK200 := kP BK200 hb (.cells #[.int .i64 ((rd_T75 l0 x22_2).f0), .int .i64 ((rd_T75 l0 x22_2).f1), .int .i64 ((rd_T75 l0 x22_2).f2), .int .i64 ((rd_T75 l0 x22_2).f3)] 75 (0, 0));replace HB := sB hb;(try clear hb);obtain ⟨hcz24_0, hcz24_1, hcz24_2, hcz24_3, hfz24_0, hfz24_1, hfz24_2, hfz24_3⟩ := cz4 BK200)|(go_at_call 151;(with_reducible refine (impl_farthest.calls ((rd_T75 l0 x22_2).f0) ((rd_T75 l0 x22_2).f1) ((rd_T75 l0 x22_2).f2) ((rd_T75 l0 x22_2).f3) x22_2 t202 _ A14.out).mono ?_);rintro e w25 ⟨rfl, hb⟩;replace BK200 := kB BK200 hb;replace HB := sB hb;(try clear hb)))
         go_roundg k2
         case measure => have := HJ1.out; have := HK2.out; omega
         case rel => exact ⟨(wrap64 (x22_2 + 1)), rS, H', ⟨by have := HJ1.out; have := HK2.out; omega⟩, ⟨cB⟩⟩
       ·replace c13 := Bool.eq_false_iff.mpr c13;subst c13;replace H := iF H;obtain rfl := Option.some.inj H;have p199 : 0 ≤ (x22_2 : Int) := dA;have q199 : x22_2 < (l0.length : Int) := dA;obtain ⟨ad199, e199, hx199_0, hx199_1, hx199_2, hx199_3⟩ := at_T75 HR0.out x22_2 p199 q199;cases e199;replace hx199_0 := (bc HB hx199_0 :);replace hx199_1 := (bc HB hx199_1 :);replace hx199_2 := (bc HB hx199_2 :);replace hx199_3 := (bc HB hx199_3 :);replace p199 := eq_true p199;replace q199 := eq_true q199
        go_wp2_with (first|((with_reducible refine gN 5 ?_);refine boxZ 5 #[.int .i64 0, .int .i64 0, .int .i64 0, .int .i64 0] 75 ?_;intro gb200 hg w26 hbox hb;have BK200 := Aside0.mk (hbox);have GW200 := gS hg;have GE200 := gS hg;replace HB := sB hb;clear hb hbox hg;obtain ⟨hcz27_0, hcz27_1, hcz27_2, hcz27_3, hfz27_0, hfz27_1, hfz27_2, hfz27_3⟩ := cz4 BK200)|((with_reducible refine gF 150 ?_);refine goZ (some 28) Try.func150 #[.agg #[.int .i64 ((rd_T75 l0 x22_2).f0), .int .i64 ((rd_T75 l0 x22_2).f1), .int .i64 ((rd_T75 l0 x22_2).f2), .int .i64 ((rd_T75 l0 x22_2).f3)]] ?_;(with_reducible refine (impl_InsOk.calls k2 ((rd_T75 l0 x22_2).f0) ((rd_T75 l0 x22_2).f1) ((rd_T75 l0 x22_2).f2) ((rd_T75 l0 x22_2).f3) false _ A12.out).mono ?_);rintro e w28 ⟨rfl, hb⟩;refine ⟨_, rfl, ?_⟩;replace BK200 := kP BK200 hb (.cells #[.int .i64 ((rd_T75 l0 x22_2).f0), .int .i64 ((rd_T75 l0 x22_2).f1), .int .i64 ((rd_T75 l0 x22_2).f2), .int .i64 ((rd_T75 l0 x22_2).f3)] 75 (0, 0));replace HB := sB hb;(try clear hb)))
        go_ret;exact ⟨rE, cB⟩
      ·rw [if_neg c9] at H;have c9b0 := decide_eq_false c9;clear c9;obtain rfl := Option.some.inj H;go_wp2;go_ret;exact ⟨rE, cB⟩
end Go.Proofs.Ytcmcpmkihpdnjaa.PFnExactPushStack
