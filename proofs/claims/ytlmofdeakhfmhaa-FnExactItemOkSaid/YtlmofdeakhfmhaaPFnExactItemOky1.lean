import Derived.Test.YtlmofdeakhfmhaaPFnExactItemOky0
namespace Go.Proofs.Ytlmofdeakhfmhaa.PFnExactItemOk
open Go.RowKit Go.Proofs.YtlmofdeakhfmhaaW.PrintWords Go.Proofs.YtlmofdeakhfmhaaW.PrintLast Go.Proofs.YtlmofdeakhfmhaaW.PrintMore Go.Proofs.YtlmofdeakhfmhaaW.Z
attribute [local go_sem] max2_int min2_int max_two min_two max_three min_three max_four min_four
set_option linter.unusedVariables false
set_option linter.unusedSimpArgs false
def spec_l01In.f (a0 : Int) (a1 : Int) (a2 : Int) : Option (Bool) := if a0 ≥ a1 then (some (decide (a0 ≤ a2))) else (some false)
set_option maxHeartbeats 8000000 in
set_option maxRecDepth 100000 in
theorem spec_l01In.calls (a0 : Int) (a1 : Int) (a2 : Int) (r : Bool) (w : World) (h : spec_l01In.f a0 a1 a2 = some r) :
 Calls Try.prog 63 #[.int .i64 a0, .int .i64 a1, .int .i64 a2] w fun e w' => e = .returned (.bool r) ∧ Drawn0 w w' := by
 have H : (if a0 ≥ a1 then (some (decide (a0 ≤ a2))) else (some false)) = some r := h;clear h;by_cases c4 : a0 ≥ a1
 ·rw [if_pos c4] at H;have c4b0 : decide (a1 ≤ a0) = true := decide_eq_true c4;clear c4;obtain rfl := Option.some.inj H;go_enter Try.func63, Try.ntmps63;go_wp2;go_ret
  exact ⟨by first | rfl | (simp; done) | (simp [*]; done), by repeat (first | exact Drawn0.refl _ | apply Drawn0.step)⟩
 ·rw [if_neg c4] at H;have c4b0 : decide (a1 ≤ a0) = false := decide_eq_false c4;clear c4;obtain rfl := Option.some.inj H;go_enter Try.func63, Try.ntmps63;go_wp2;go_ret
  exact ⟨by first | rfl | (simp; done) | (simp [*]; done), by repeat (first | exact Drawn0.refl _ | apply Drawn0.step)⟩
def spec_HalfOk.f (a0 : Int) : Option (Bool) := (spec_l01In.f a0 0 4294967295).bind fun t101 => (some t101)
set_option maxHeartbeats 8000000 in
set_option maxRecDepth 100000 in
theorem spec_HalfOk.calls (a0 : Int) (r : Bool) (w : World) (h : spec_HalfOk.f a0 = some r) :
 Calls Try.prog 68 #[.int .i64 a0] w fun e w' => e = .returned (.bool r) ∧ Drawn0 w w' := by
 have H : ((spec_l01In.f a0 0 4294967295).bind fun t101 => (some t101)) = some r := h
 clear h;replace H := bE H;obtain ⟨t101, A2, H⟩ := H;obtain rfl := Option.some.inj H;go_enter Try.func68, Try.ntmps68
 go_wp2_with (first|((with_reducible refine gF 63 ?_);refine goZ (some 4) Try.func63 #[.int .i64 a0, .int .i64 0, .int .i64 4294967295] ?_;(with_reducible refine (spec_l01In.calls a0 0 4294967295 t101 _ A2.out).mono ?_);rintro e w' ⟨rfl, ⟨nd, rfl⟩⟩;refine ⟨_, rfl, ?_⟩))
 go_ret
 exact ⟨by first | rfl | (simp; done) | (simp [*]; done), by repeat (first | exact Drawn0.refl _ | apply Drawn0.step)⟩
def spec_ItemOk.f (a0_0 : Int) (a0_1 : Int) (a0_2 : Int) (a0_3 : Int) : Option (Bool) := if a0_0 = 1 then ((spec_HalfOk.f a0_1).bind fun t103 => (if t103 = true then ((spec_HalfOk.f a0_2).bind fun t104 => (if t104 = true then (some (a0_3 == 0)) else (some false))) else (some false))) else (if a0_0 = 2 then ((spec_l01In.f a0_3 1 1000000000).bind fun t105 => (if t105 = true then (if a0_1 = 0 then (some (a0_2 == 0)) else (some false)) else (some false))) else (some false))
set_option maxHeartbeats 8000000 in
set_option maxRecDepth 100000 in
theorem spec_ItemOk.calls (a0_0 : Int) (a0_1 : Int) (a0_2 : Int) (a0_3 : Int) (r : Bool) (w : World) (h : spec_ItemOk.f a0_0 a0_1 a0_2 a0_3 = some r) :
 Calls Try.prog 18 #[.agg #[.int .i64 a0_0, .int .i64 a0_1, .int .i64 a0_2, .int .i64 a0_3]] w fun e w' => e = .returned (.bool r) ∧ Below w.heap.size w w' := by
 have hu35 := Try.underlying35;have HB := Aside0.mk (Below.refl w.heap.size w)
 have H : (if a0_0 = 1 then ((spec_HalfOk.f a0_1).bind fun t103 => (if t103 = true then ((spec_HalfOk.f a0_2).bind fun t104 => (if t104 = true then (some (a0_3 == 0)) else (some false))) else (some false))) else (if a0_0 = 2 then ((spec_l01In.f a0_3 1 1000000000).bind fun t105 => (if t105 = true then (if a0_1 = 0 then (some (a0_2 == 0)) else (some false)) else (some false))) else (some false))) = some r := h
 clear h;by_cases c2 : a0_0 = 1
 ·rw [if_pos c2] at H;obtain ⟨c2b0, c2b1⟩ := eT c2;clear c2;replace H := bE H;obtain ⟨t103, A3, H⟩ := H;by_cases c4 : t103 = true
  ·subst c4;replace H := iT H;replace H := bE H;obtain ⟨t104, A5, H⟩ := H;by_cases c6 : t104 = true
   ·subst c6;replace H := iT H;obtain rfl := Option.some.inj H;go_enter Try.func18, Try.ntmps18
    go_wp2_with (first|((with_reducible refine gN 1 ?_);refine boxZ 1 #[.int .i64 a0_0, .int .i64 a0_1, .int .i64 a0_2, .int .i64 a0_3] 35 ?_;intro gb102 hg w7 hbox hb;have BK102 := Aside0.mk (hbox);have GW102 := gS hg;have GE102 := gS hg;replace HB := sB hb;clear hb hbox hg;obtain ⟨hcz8_0, hcz8_1, hcz8_2, hcz8_3, hfz8_0, hfz8_1, hfz8_2, hfz8_3⟩ := cz4 BK102)|((with_reducible refine gF 68 ?_);refine goZ (some 8) Try.func68 #[.int .i64 a0_1] ?_;(with_reducible refine (spec_HalfOk.calls a0_1 true _ A3.out).mono ?_);rintro e w' ⟨rfl, ⟨nd, rfl⟩⟩;refine ⟨_, rfl, ?_⟩)|(go_at_call 68;(with_reducible refine (spec_HalfOk.calls a0_2 true _ A5.out).mono ?_);rintro e w' ⟨rfl, ⟨nd, rfl⟩⟩))
    go_ret;exact ⟨rE, cB⟩
   ·replace c6 := Bool.eq_false_iff.mpr c6;subst c6;replace H := iF H;obtain rfl := Option.some.inj H;go_enter Try.func18, Try.ntmps18
    go_wp2_with (first|((with_reducible refine gN 1 ?_);refine boxZ 1 #[.int .i64 a0_0, .int .i64 a0_1, .int .i64 a0_2, .int .i64 a0_3] 35 ?_;intro gb102 hg w9 hbox hb;have BK102 := Aside0.mk (hbox);have GW102 := gS hg;have GE102 := gS hg;replace HB := sB hb;clear hb hbox hg;obtain ⟨hcz10_0, hcz10_1, hcz10_2, hcz10_3, hfz10_0, hfz10_1, hfz10_2, hfz10_3⟩ := cz4 BK102)|((with_reducible refine gF 68 ?_);refine goZ (some 8) Try.func68 #[.int .i64 a0_1] ?_;(with_reducible refine (spec_HalfOk.calls a0_1 true _ A3.out).mono ?_);rintro e w' ⟨rfl, ⟨nd, rfl⟩⟩;refine ⟨_, rfl, ?_⟩)|(go_at_call 68;(with_reducible refine (spec_HalfOk.calls a0_2 false _ A5.out).mono ?_);rintro e w' ⟨rfl, ⟨nd, rfl⟩⟩))
    go_ret;exact ⟨rE, cB⟩
  ·replace c4 := Bool.eq_false_iff.mpr c4;subst c4;replace H := iF H;obtain rfl := Option.some.inj H;go_enter Try.func18, Try.ntmps18
   go_wp2_with (first|((with_reducible refine gN 1 ?_);refine boxZ 1 #[.int .i64 a0_0, .int .i64 a0_1, .int .i64 a0_2, .int .i64 a0_3] 35 ?_;intro gb102 hg w11 hbox hb;have BK102 := Aside0.mk (hbox);have GW102 := gS hg;have GE102 := gS hg;replace HB := sB hb;clear hb hbox hg;obtain ⟨hcz12_0, hcz12_1, hcz12_2, hcz12_3, hfz12_0, hfz12_1, hfz12_2, hfz12_3⟩ := cz4 BK102)|((with_reducible refine gF 68 ?_);refine goZ (some 8) Try.func68 #[.int .i64 a0_1] ?_;(with_reducible refine (spec_HalfOk.calls a0_1 false _ A3.out).mono ?_);rintro e w' ⟨rfl, ⟨nd, rfl⟩⟩;refine ⟨_, rfl, ?_⟩))
   go_ret;exact ⟨rE, cB⟩
 ·rw [if_neg c2] at H;obtain ⟨c2b0, c2b1⟩ := eF c2;by_cases c13 : a0_0 = 2
  ·rw [if_pos c13] at H;obtain ⟨c13b0, c13b1⟩ := eT c13;clear c13;replace H := bE H;obtain ⟨t105, A14, H⟩ := H;by_cases c15 : t105 = true
   ·subst c15;replace H := iT H;by_cases c16 : a0_1 = 0
    ·rw [if_pos c16] at H;obtain ⟨c16b0, c16b1⟩ := eT c16;clear c16;obtain rfl := Option.some.inj H;go_enter Try.func18, Try.ntmps18
     go_wp2_with (first|((with_reducible refine gN 1 ?_);refine boxZ 1 #[.int .i64 a0_0, .int .i64 a0_1, .int .i64 a0_2, .int .i64 a0_3] 35 ?_;intro gb102 hg w17 hbox hb;have BK102 := Aside0.mk (hbox);have GW102 := gS hg;have GE102 := gS hg;replace HB := sB hb;clear hb hbox hg;obtain ⟨hcz18_0, hcz18_1, hcz18_2, hcz18_3, hfz18_0, hfz18_1, hfz18_2, hfz18_3⟩ := cz4 BK102)|(go_at_call 63;(with_reducible refine (spec_l01In.calls a0_3 1 1000000000 true _ A14.out).mono ?_);rintro e w' ⟨rfl, ⟨nd, rfl⟩⟩))
     go_ret;exact ⟨rE, cB⟩
    ·rw [if_neg c16] at H;obtain ⟨c16b0, c16b1⟩ := eF c16;obtain rfl := Option.some.inj H;go_enter Try.func18, Try.ntmps18
     go_wp2_with (first|((with_reducible refine gN 1 ?_);refine boxZ 1 #[.int .i64 a0_0, .int .i64 a0_1, .int .i64 a0_2, .int .i64 a0_3] 35 ?_;intro gb102 hg w19 hbox hb;have BK102 := Aside0.mk (hbox);have GW102 := gS hg;have GE102 := gS hg;replace HB := sB hb;clear hb hbox hg;obtain ⟨hcz20_0, hcz20_1, hcz20_2, hcz20_3, hfz20_0, hfz20_1, hfz20_2, hfz20_3⟩ := cz4 BK102)|(go_at_call 63;(with_reducible refine (spec_l01In.calls a0_3 1 1000000000 true _ A14.out).mono ?_);rintro e w' ⟨rfl, ⟨nd, rfl⟩⟩))
     go_ret;exact ⟨rE, cB⟩
   ·replace c15 := Bool.eq_false_iff.mpr c15;subst c15;replace H := iF H;obtain rfl := Option.some.inj H;go_enter Try.func18, Try.ntmps18
    go_wp2_with (first|((with_reducible refine gN 1 ?_);refine boxZ 1 #[.int .i64 a0_0, .int .i64 a0_1, .int .i64 a0_2, .int .i64 a0_3] 35 ?_;intro gb102 hg w21 hbox hb;have BK102 := Aside0.mk (hbox);have GW102 := gS hg;have GE102 := gS hg;replace HB := sB hb;clear hb hbox hg;obtain ⟨hcz22_0, hcz22_1, hcz22_2, hcz22_3, hfz22_0, hfz22_1, hfz22_2, hfz22_3⟩ := cz4 BK102)|(go_at_call 63;(with_reducible refine (spec_l01In.calls a0_3 1 1000000000 false _ A14.out).mono ?_);rintro e w' ⟨rfl, ⟨nd, rfl⟩⟩))
    go_ret;exact ⟨rE, cB⟩
  ·rw [if_neg c13] at H;obtain ⟨c13b0, c13b1⟩ := eF c13;obtain rfl := Option.some.inj H;go_enter Try.func18, Try.ntmps18
   go_wp2_with (first|((with_reducible refine gN 1 ?_);refine boxZ 1 #[.int .i64 a0_0, .int .i64 a0_1, .int .i64 a0_2, .int .i64 a0_3] 35 ?_;intro gb102 hg w23 hbox hb;have BK102 := Aside0.mk (hbox);have GW102 := gS hg;have GE102 := gS hg;replace HB := sB hb;clear hb hbox hg;obtain ⟨hcz24_0, hcz24_1, hcz24_2, hcz24_3, hfz24_0, hfz24_1, hfz24_2, hfz24_3⟩ := cz4 BK102))
   go_ret;exact ⟨rE, cB⟩
def laws_toItem.f (a0_0 : Int) (a0_1 : Int) (a0_2 : Int) (a0_3 : Int) : Option (Int × Int × Int × Int) := some (a0_0, a0_1, a0_2, a0_3)
set_option maxHeartbeats 8000000 in
set_option maxRecDepth 100000 in
theorem laws_toItem.calls (a0_0 : Int) (a0_1 : Int) (a0_2 : Int) (a0_3 : Int) (r1 : Int) (r2 : Int) (r3 : Int) (r4 : Int) (w : World) (h : laws_toItem.f a0_0 a0_1 a0_2 a0_3 = some (r1, r2, r3, r4)) :
 Calls Try.prog 19 #[.agg #[.int .i64 a0_0, .int .i64 a0_1, .int .i64 a0_2, .int .i64 a0_3]] w fun e w' => e = .returned (.agg #[.int .i64 r1, .int .i64 r2, .int .i64 r3, .int .i64 r4]) ∧ Below w.heap.size w w' := by
 have hu33 := Try.underlying33;have hu35 := Try.underlying35;have HB := Aside0.mk (Below.refl w.heap.size w);have H : (some (a0_0, a0_1, a0_2, a0_3)) = some (r1, r2, r3, r4) := h;clear h;simp only [Option.some.injEq, Prod.mk.injEq] at H;obtain ⟨rfl, rfl, rfl, rfl⟩ := H;go_enter Try.func19, Try.ntmps19
 go_wp2_with (first|((with_reducible refine gN 1 ?_);refine boxZ 1 #[.int .i64 a0_0, .int .i64 a0_1, .int .i64 a0_2, .int .i64 a0_3] 33 ?_;intro gb106 hg w2 hbox hb;have BK106 := Aside0.mk (hbox);have GW106 := gS hg;have GE106 := gS hg;replace HB := sB hb;clear hb hbox hg)|((with_reducible refine gN 2 ?_);refine boxZ 2 #[.int .i64 0, .int .i64 0, .int .i64 0, .int .i64 0] 35 ?_;intro gb107 hg w3 hbox hb;have BK107 := Aside0.mk (hbox);have GW107 := gS hg;have GE107 := gS hg;replace HB := sB hb;have NB106_107 := nL hg BK106;have NB107_106 := nG hg BK106;replace BK106 := kB BK106 hb;clear hb hbox hg)|((with_reducible refine gN 3 ?_);refine boxZ 3 #[.int .i64 0, .int .i64 0, .int .i64 0, .int .i64 0] 35 ?_;intro gb108 hg w4 hbox hb;have BK108 := Aside0.mk (hbox);have GW108 := gS hg;have GE108 := gS hg;replace HB := sB hb;have NB106_108 := nL hg BK106;have NB108_106 := nG hg BK106;replace BK106 := kB BK106 hb;have NB107_108 := nL hg BK107;have NB108_107 := nG hg BK107;replace BK107 := kB BK107 hb;clear hb hbox hg;have hnb5 := NB106_107.out;have hnc5 := NB107_106.out;have hnb6 := NB106_108.out;have hnc6 := NB108_106.out;obtain ⟨hcz7_0, hcz7_1, hcz7_2, hcz7_3, hfz7_0, hfz7_1, hfz7_2, hfz7_3⟩ := cz4 BK106;have hnb8 := NB108_107.out;have hnc8 := NB107_108.out;obtain ⟨hcz9_0, hcz9_1, hcz9_2, hcz9_3, hfz9_0, hfz9_1, hfz9_2, hfz9_3⟩ := cz4 BK108;obtain ⟨hcz10_0, hcz10_1, hcz10_2, hcz10_3, hfz10_0, hfz10_1, hfz10_2, hfz10_3⟩ := cz4 BK107))
 refine bodyPost_ret (results_cell_row rfl _ _ gb107 35 #[.int .i64 a0_0, .int .i64 a0_1, .int .i64 a0_2, .int .i64 a0_3] (0, 0) _ rfl (by (with_reducible repeat (first | refine blk_drewN ?_ _ | refine blk_drew ?_ | refine blk_alloc ?_ _)); refine blk_put (cs := #[.int .i64 a0_0, .int .i64 a0_1, .int .i64 a0_2, .int .i64 0]) ?_ 3 _ rfl; (with_reducible repeat (first | refine blk_drewN ?_ _ | refine blk_drew ?_ | refine blk_alloc ?_ _)); refine blk_put (cs := #[.int .i64 a0_0, .int .i64 a0_1, .int .i64 0, .int .i64 0]) ?_ 2 _ rfl; (with_reducible repeat (first | refine blk_drewN ?_ _ | refine blk_drew ?_ | refine blk_alloc ?_ _)); refine blk_put (cs := #[.int .i64 a0_0, .int .i64 0, .int .i64 0, .int .i64 0]) ?_ 1 _ rfl; (with_reducible repeat (first | refine blk_drewN ?_ _ | refine blk_drew ?_ | refine blk_alloc ?_ _)); refine blk_put (cs := #[.int .i64 0, .int .i64 0, .int .i64 0, .int .i64 0]) ?_ 0 _ rfl; (with_reducible repeat (first | refine blk_drewN ?_ _ | refine blk_drew ?_ | refine blk_alloc ?_ _)); refine blk_far ?_ NB107_108.out _; (with_reducible repeat (first | refine blk_drewN ?_ _ | refine blk_drew ?_ | refine blk_alloc ?_ _)); refine blk_far ?_ NB107_108.out _; (with_reducible repeat (first | refine blk_drewN ?_ _ | refine blk_drew ?_ | refine blk_alloc ?_ _)); refine blk_far ?_ NB107_108.out _; (with_reducible repeat (first | refine blk_drewN ?_ _ | refine blk_drew ?_ | refine blk_alloc ?_ _)); refine blk_far ?_ NB107_108.out _; (with_reducible repeat (first | refine blk_drewN ?_ _ | refine blk_drew ?_ | refine blk_alloc ?_ _)); exact BK107.out) Try.underlying35 rfl (by kernel_rfl)) rfl ?_
 exact ⟨rE, cB⟩
def impl_within.f (a0 : Int) (a1 : Int) (a2 : Int) : Option (Bool) := if a0 ≥ a1 then (some (decide (a0 ≤ a2))) else (some false)
set_option maxHeartbeats 8000000 in
set_option maxRecDepth 100000 in
theorem impl_within.calls (a0 : Int) (a1 : Int) (a2 : Int) (r : Bool) (w : World) (h : impl_within.f a0 a1 a2 = some r) :
 Calls Try.prog 66 #[.int .i64 a0, .int .i64 a1, .int .i64 a2] w fun e w' => e = .returned (.bool r) ∧ Drawn0 w w' := by
 have H : (if a0 ≥ a1 then (some (decide (a0 ≤ a2))) else (some false)) = some r := h;clear h;by_cases c4 : a0 ≥ a1
 ·rw [if_pos c4] at H;have c4b0 : decide (a1 ≤ a0) = true := decide_eq_true c4;clear c4;obtain rfl := Option.some.inj H;go_enter Try.func66, Try.ntmps66;go_wp2;go_ret
  exact ⟨by first | rfl | (simp; done) | (simp [*]; done), by repeat (first | exact Drawn0.refl _ | apply Drawn0.step)⟩
 ·rw [if_neg c4] at H;have c4b0 : decide (a1 ≤ a0) = false := decide_eq_false c4;clear c4;obtain rfl := Option.some.inj H;go_enter Try.func66, Try.ntmps66;go_wp2;go_ret
  exact ⟨by first | rfl | (simp; done) | (simp [*]; done), by repeat (first | exact Drawn0.refl _ | apply Drawn0.step)⟩
def impl_HalfOk.f (a0 : Int) : Option (Bool) := (impl_within.f a0 0 4294967295).bind fun t109 => (some t109)
set_option maxHeartbeats 8000000 in
set_option maxRecDepth 100000 in
theorem impl_HalfOk.calls (a0 : Int) (r : Bool) (w : World) (h : impl_HalfOk.f a0 = some r) :
 Calls Try.prog 69 #[.int .i64 a0] w fun e w' => e = .returned (.bool r) ∧ Drawn0 w w' := by
 have H : ((impl_within.f a0 0 4294967295).bind fun t109 => (some t109)) = some r := h
 clear h;replace H := bE H;obtain ⟨t109, A2, H⟩ := H;obtain rfl := Option.some.inj H;go_enter Try.func69, Try.ntmps69
 go_wp2_with (first|((with_reducible refine gF 66 ?_);refine goZ (some 4) Try.func66 #[.int .i64 a0, .int .i64 0, .int .i64 4294967295] ?_;(with_reducible refine (impl_within.calls a0 0 4294967295 t109 _ A2.out).mono ?_);rintro e w' ⟨rfl, ⟨nd, rfl⟩⟩;refine ⟨_, rfl, ?_⟩))
 go_ret
 exact ⟨by first | rfl | (simp; done) | (simp [*]; done), by repeat (first | exact Drawn0.refl _ | apply Drawn0.step)⟩
def impl_ItemOk.f (a0_0 : Int) (a0_1 : Int) (a0_2 : Int) (a0_3 : Int) : Option (Bool) := if a0_0 = 1 then ((impl_HalfOk.f a0_1).bind fun t111 => (if t111 = true then ((impl_HalfOk.f a0_2).bind fun t112 => (if t112 = true then (some (a0_3 == 0)) else (some false))) else (some false))) else (if a0_0 = 2 then ((impl_within.f a0_3 1 1000000000).bind fun t113 => (if t113 = true then (if a0_1 = 0 then (some (a0_2 == 0)) else (some false)) else (some false))) else (some false))
set_option maxHeartbeats 8000000 in
set_option maxRecDepth 100000 in
theorem impl_ItemOk.calls (a0_0 : Int) (a0_1 : Int) (a0_2 : Int) (a0_3 : Int) (r : Bool) (w : World) (h : impl_ItemOk.f a0_0 a0_1 a0_2 a0_3 = some r) :
 Calls Try.prog 20 #[.agg #[.int .i64 a0_0, .int .i64 a0_1, .int .i64 a0_2, .int .i64 a0_3]] w fun e w' => e = .returned (.bool r) ∧ Below w.heap.size w w' := by
 have hu35 := Try.underlying35;have HB := Aside0.mk (Below.refl w.heap.size w)
 have H : (if a0_0 = 1 then ((impl_HalfOk.f a0_1).bind fun t111 => (if t111 = true then ((impl_HalfOk.f a0_2).bind fun t112 => (if t112 = true then (some (a0_3 == 0)) else (some false))) else (some false))) else (if a0_0 = 2 then ((impl_within.f a0_3 1 1000000000).bind fun t113 => (if t113 = true then (if a0_1 = 0 then (some (a0_2 == 0)) else (some false)) else (some false))) else (some false))) = some r := h
 clear h;by_cases c2 : a0_0 = 1
 ·rw [if_pos c2] at H;obtain ⟨c2b0, c2b1⟩ := eT c2;clear c2;replace H := bE H;obtain ⟨t111, A3, H⟩ := H;by_cases c4 : t111 = true
  ·subst c4;replace H := iT H;replace H := bE H;obtain ⟨t112, A5, H⟩ := H;by_cases c6 : t112 = true
   ·subst c6;replace H := iT H;obtain rfl := Option.some.inj H;go_enter Try.func20, Try.ntmps20
    go_wp2_with (first|((with_reducible refine gN 1 ?_);refine boxZ 1 #[.int .i64 a0_0, .int .i64 a0_1, .int .i64 a0_2, .int .i64 a0_3] 35 ?_;intro gb110 hg w7 hbox hb;have BK110 := Aside0.mk (hbox);have GW110 := gS hg;have GE110 := gS hg;replace HB := sB hb;clear hb hbox hg;obtain ⟨hcz8_0, hcz8_1, hcz8_2, hcz8_3, hfz8_0, hfz8_1, hfz8_2, hfz8_3⟩ := cz4 BK110)|((with_reducible refine gF 69 ?_);refine goZ (some 9) Try.func69 #[.int .i64 a0_1] ?_;(with_reducible refine (impl_HalfOk.calls a0_1 true _ A3.out).mono ?_);rintro e w' ⟨rfl, ⟨nd, rfl⟩⟩;refine ⟨_, rfl, ?_⟩)|(go_at_call 69;(with_reducible refine (impl_HalfOk.calls a0_2 true _ A5.out).mono ?_);rintro e w' ⟨rfl, ⟨nd, rfl⟩⟩))
    go_ret;exact ⟨rE, cB⟩
   ·replace c6 := Bool.eq_false_iff.mpr c6;subst c6;replace H := iF H;obtain rfl := Option.some.inj H;go_enter Try.func20, Try.ntmps20
    go_wp2_with (first|((with_reducible refine gN 1 ?_);refine boxZ 1 #[.int .i64 a0_0, .int .i64 a0_1, .int .i64 a0_2, .int .i64 a0_3] 35 ?_;intro gb110 hg w9 hbox hb;have BK110 := Aside0.mk (hbox);have GW110 := gS hg;have GE110 := gS hg;replace HB := sB hb;clear hb hbox hg;obtain ⟨hcz10_0, hcz10_1, hcz10_2, hcz10_3, hfz10_0, hfz10_1, hfz10_2, hfz10_3⟩ := cz4 BK110)|((with_reducible refine gF 69 ?_);refine goZ (some 9) Try.func69 #[.int .i64 a0_1] ?_;(with_reducible refine (impl_HalfOk.calls a0_1 true _ A3.out).mono ?_);rintro e w' ⟨rfl, ⟨nd, rfl⟩⟩;refine ⟨_, rfl, ?_⟩)|(go_at_call 69;(with_reducible refine (impl_HalfOk.calls a0_2 false _ A5.out).mono ?_);rintro e w' ⟨rfl, ⟨nd, rfl⟩⟩))
    go_ret;exact ⟨rE, cB⟩
  ·replace c4 := Bool.eq_false_iff.mpr c4;subst c4;replace H := iF H;obtain rfl := Option.some.inj H;go_enter Try.func20, Try.ntmps20
   go_wp2_with (first|((with_reducible refine gN 1 ?_);refine boxZ 1 #[.int .i64 a0_0, .int .i64 a0_1, .int .i64 a0_2, .int .i64 a0_3] 35 ?_;intro gb110 hg w11 hbox hb;have BK110 := Aside0.mk (hbox);have GW110 := gS hg;have GE110 := gS hg;replace HB := sB hb;clear hb hbox hg;obtain ⟨hcz12_0, hcz12_1, hcz12_2, hcz12_3, hfz12_0, hfz12_1, hfz12_2, hfz12_3⟩ := cz4 BK110)|((with_reducible refine gF 69 ?_);refine goZ (some 9) Try.func69 #[.int .i64 a0_1] ?_;(with_reducible refine (impl_HalfOk.calls a0_1 false _ A3.out).mono ?_);rintro e w' ⟨rfl, ⟨nd, rfl⟩⟩;refine ⟨_, rfl, ?_⟩))
   go_ret;exact ⟨rE, cB⟩
 ·rw [if_neg c2] at H;obtain ⟨c2b0, c2b1⟩ := eF c2;by_cases c13 : a0_0 = 2
  ·rw [if_pos c13] at H;obtain ⟨c13b0, c13b1⟩ := eT c13;clear c13;replace H := bE H;obtain ⟨t113, A14, H⟩ := H;by_cases c15 : t113 = true
   ·subst c15;replace H := iT H;by_cases c16 : a0_1 = 0
    ·rw [if_pos c16] at H;obtain ⟨c16b0, c16b1⟩ := eT c16;clear c16;obtain rfl := Option.some.inj H;go_enter Try.func20, Try.ntmps20
     go_wp2_with (first|((with_reducible refine gN 1 ?_);refine boxZ 1 #[.int .i64 a0_0, .int .i64 a0_1, .int .i64 a0_2, .int .i64 a0_3] 35 ?_;intro gb110 hg w17 hbox hb;have BK110 := Aside0.mk (hbox);have GW110 := gS hg;have GE110 := gS hg;replace HB := sB hb;clear hb hbox hg;obtain ⟨hcz18_0, hcz18_1, hcz18_2, hcz18_3, hfz18_0, hfz18_1, hfz18_2, hfz18_3⟩ := cz4 BK110)|((with_reducible refine gF 66 ?_);refine goZ (some 24) Try.func66 #[.int .i64 a0_3, .int .i64 1, .int .i64 1000000000] ?_;(with_reducible refine (impl_within.calls a0_3 1 1000000000 true _ A14.out).mono ?_);rintro e w' ⟨rfl, ⟨nd, rfl⟩⟩;refine ⟨_, rfl, ?_⟩))
     go_ret;exact ⟨rE, cB⟩
    ·rw [if_neg c16] at H;obtain ⟨c16b0, c16b1⟩ := eF c16;obtain rfl := Option.some.inj H;go_enter Try.func20, Try.ntmps20
     go_wp2_with (first|((with_reducible refine gN 1 ?_);refine boxZ 1 #[.int .i64 a0_0, .int .i64 a0_1, .int .i64 a0_2, .int .i64 a0_3] 35 ?_;intro gb110 hg w19 hbox hb;have BK110 := Aside0.mk (hbox);have GW110 := gS hg;have GE110 := gS hg;replace HB := sB hb;clear hb hbox hg;obtain ⟨hcz20_0, hcz20_1, hcz20_2, hcz20_3, hfz20_0, hfz20_1, hfz20_2, hfz20_3⟩ := cz4 BK110)|((with_reducible refine gF 66 ?_);refine goZ (some 24) Try.func66 #[.int .i64 a0_3, .int .i64 1, .int .i64 1000000000] ?_;(with_reducible refine (impl_within.calls a0_3 1 1000000000 true _ A14.out).mono ?_);rintro e w' ⟨rfl, ⟨nd, rfl⟩⟩;refine ⟨_, rfl, ?_⟩))
     go_ret;exact ⟨rE, cB⟩
   ·replace c15 := Bool.eq_false_iff.mpr c15;subst c15;replace H := iF H;obtain rfl := Option.some.inj H;go_enter Try.func20, Try.ntmps20
    go_wp2_with (first|((with_reducible refine gN 1 ?_);refine boxZ 1 #[.int .i64 a0_0, .int .i64 a0_1, .int .i64 a0_2, .int .i64 a0_3] 35 ?_;intro gb110 hg w21 hbox hb;have BK110 := Aside0.mk (hbox);have GW110 := gS hg;have GE110 := gS hg;replace HB := sB hb;clear hb hbox hg;obtain ⟨hcz22_0, hcz22_1, hcz22_2, hcz22_3, hfz22_0, hfz22_1, hfz22_2, hfz22_3⟩ := cz4 BK110)|((with_reducible refine gF 66 ?_);refine goZ (some 24) Try.func66 #[.int .i64 a0_3, .int .i64 1, .int .i64 1000000000] ?_;(with_reducible refine (impl_within.calls a0_3 1 1000000000 false _ A14.out).mono ?_);rintro e w' ⟨rfl, ⟨nd, rfl⟩⟩;refine ⟨_, rfl, ?_⟩))
    go_ret;exact ⟨rE, cB⟩
  ·rw [if_neg c13] at H;obtain ⟨c13b0, c13b1⟩ := eF c13;obtain rfl := Option.some.inj H;go_enter Try.func20, Try.ntmps20
   go_wp2_with (first|((with_reducible refine gN 1 ?_);refine boxZ 1 #[.int .i64 a0_0, .int .i64 a0_1, .int .i64 a0_2, .int .i64 a0_3] 35 ?_;intro gb110 hg w23 hbox hb;have BK110 := Aside0.mk (hbox);have GW110 := gS hg;have GE110 := gS hg;replace HB := sB hb;clear hb hbox hg;obtain ⟨hcz24_0, hcz24_1, hcz24_2, hcz24_3, hfz24_0, hfz24_1, hfz24_2, hfz24_3⟩ := cz4 BK110))
   go_ret;exact ⟨rE, cB⟩
def laws_FnExactItemOk.f (a0_0 : Int) (a0_1 : Int) (a0_2 : Int) (a0_3 : Int) : Option (Bool) := (laws_toItem.f a0_0 a0_1 a0_2 a0_3).bind fun bt115 => ((spec_ItemOk.f bt115.1 bt115.2.1 bt115.2.2.1 bt115.2.2.2).bind fun t119 => ((laws_toItem.f a0_0 a0_1 a0_2 a0_3).bind fun bt120 => ((impl_ItemOk.f bt120.1 bt120.2.1 bt120.2.2.1 bt120.2.2.2).bind fun t124 => (if (t124 != t119) = true then (some false) else (some true)))))
set_option maxHeartbeats 8000000 in
set_option maxRecDepth 100000 in
theorem laws_FnExactItemOk.calls (a0_0 : Int) (a0_1 : Int) (a0_2 : Int) (a0_3 : Int) (r : Bool) (w : World) (h : laws_FnExactItemOk.f a0_0 a0_1 a0_2 a0_3 = some r) :
 Calls Try.prog 4 #[.agg #[.int .i64 a0_0, .int .i64 a0_1, .int .i64 a0_2, .int .i64 a0_3]] w fun e w' => e = .returned (.bool r) ∧ Below w.heap.size w w' := by
 have hu33 := Try.underlying33;have HB := Aside0.mk (Below.refl w.heap.size w)
 have H : ((laws_toItem.f a0_0 a0_1 a0_2 a0_3).bind fun bt115 => ((spec_ItemOk.f bt115.1 bt115.2.1 bt115.2.2.1 bt115.2.2.2).bind fun t119 => ((laws_toItem.f a0_0 a0_1 a0_2 a0_3).bind fun bt120 => ((impl_ItemOk.f bt120.1 bt120.2.1 bt120.2.2.1 bt120.2.2.2).bind fun t124 => (if (t124 != t119) = true then (some false) else (some true)))))) = some r := h
 clear h;replace H := bE H;obtain ⟨⟨t115, t116, t117, t118⟩, A2, H⟩ := H;replace H := bE H;obtain ⟨t119, A3, H⟩ := H;replace H := bE H;obtain ⟨⟨t120, t121, t122, t123⟩, A4, H⟩ := H;replace H := bE H;obtain ⟨t124, A5, H⟩ := H;by_cases c6 : (t124 != t119) = true
 ·rw [if_pos c6] at H;have c6b0 : (t124 != t119) = true := c6
  (try (have c6b1 : decide (t124 = t119) = false := by simpa using c6))
  (try (have c6b2 : (t124 == t119) = false := by simpa using c6))
  (try (have c6b3 : ¬ (t124 = t119) := by simpa using c6))
  clear c6;obtain rfl := Option.some.inj H;go_enter Try.func4, Try.ntmps4
  go_wp2_with (first|((with_reducible refine gN 1 ?_);refine boxZ 1 #[.int .i64 a0_0, .int .i64 a0_1, .int .i64 a0_2, .int .i64 a0_3] 33 ?_;intro gb114 hg w7 hbox hb;have BK114 := Aside0.mk (hbox);have GW114 := gS hg;have GE114 := gS hg;replace HB := sB hb;clear hb hbox hg;obtain ⟨hcz8_0, hcz8_1, hcz8_2, hcz8_3, hfz8_0, hfz8_1, hfz8_2, hfz8_3⟩ := cz4 BK114)|((with_reducible refine gF 19 ?_);refine goZ (some 6) Try.func19 #[.agg #[.int .i64 a0_0, .int .i64 a0_1, .int .i64 a0_2, .int .i64 a0_3]] ?_;(with_reducible refine (laws_toItem.calls a0_0 a0_1 a0_2 a0_3 t115 t116 t117 t118 _ A2.out).mono ?_);rintro e w9 ⟨rfl, hb⟩;refine ⟨_, rfl, ?_⟩;replace BK114 := kB BK114 hb;replace HB := sB hb;(try clear hb))|((with_reducible refine gF 18 ?_);refine goZ (some 7) Try.func18 #[.agg #[.int .i64 t115, .int .i64 t116, .int .i64 t117, .int .i64 t118]] ?_;(with_reducible refine (spec_ItemOk.calls t115 t116 t117 t118 t119 _ A3.out).mono ?_);rintro e w10 ⟨rfl, hb⟩;refine ⟨_, rfl, ?_⟩;replace BK114 := kB BK114 hb;replace HB := sB hb;(try clear hb);obtain ⟨hcz11_0, hcz11_1, hcz11_2, hcz11_3, hfz11_0, hfz11_1, hfz11_2, hfz11_3⟩ := cz4 BK114)|((with_reducible refine gF 19 ?_);refine goZ (some 9) Try.func19 #[.agg #[.int .i64 a0_0, .int .i64 a0_1, .int .i64 a0_2, .int .i64 a0_3]] ?_;(with_reducible refine (laws_toItem.calls a0_0 a0_1 a0_2 a0_3 t120 t121 t122 t123 _ A4.out).mono ?_);rintro e w12 ⟨rfl, hb⟩;refine ⟨_, rfl, ?_⟩;replace BK114 := kB BK114 hb;replace HB := sB hb;(try clear hb))|((with_reducible refine gF 20 ?_);refine goZ (some 10) Try.func20 #[.agg #[.int .i64 t120, .int .i64 t121, .int .i64 t122, .int .i64 t123]] ?_;(with_reducible refine (impl_ItemOk.calls t120 t121 t122 t123 t124 _ A5.out).mono ?_);rintro e w13 ⟨rfl, hb⟩;refine ⟨_, rfl, ?_⟩;replace BK114 := kB BK114 hb;replace HB := sB hb;(try clear hb)))
  go_ret;exact ⟨rE, cB⟩
 ·rw [if_neg c6] at H
  have c6b0 : (t124 != t119) = false := by simpa using c6
  (try (have c6b1 : decide (t124 = t119) = true := by simpa using c6))
  (try (have c6b2 : (t124 == t119) = true := by simpa using c6))
  clear c6;obtain rfl := Option.some.inj H;go_enter Try.func4, Try.ntmps4
  go_wp2_with (first|((with_reducible refine gN 1 ?_);refine boxZ 1 #[.int .i64 a0_0, .int .i64 a0_1, .int .i64 a0_2, .int .i64 a0_3] 33 ?_;intro gb114 hg w14 hbox hb;have BK114 := Aside0.mk (hbox);have GW114 := gS hg;have GE114 := gS hg;replace HB := sB hb;clear hb hbox hg;obtain ⟨hcz15_0, hcz15_1, hcz15_2, hcz15_3, hfz15_0, hfz15_1, hfz15_2, hfz15_3⟩ := cz4 BK114)|((with_reducible refine gF 19 ?_);refine goZ (some 6) Try.func19 #[.agg #[.int .i64 a0_0, .int .i64 a0_1, .int .i64 a0_2, .int .i64 a0_3]] ?_;(with_reducible refine (laws_toItem.calls a0_0 a0_1 a0_2 a0_3 t115 t116 t117 t118 _ A2.out).mono ?_);rintro e w16 ⟨rfl, hb⟩;refine ⟨_, rfl, ?_⟩;replace BK114 := kB BK114 hb;replace HB := sB hb;(try clear hb))|((with_reducible refine gF 18 ?_);refine goZ (some 7) Try.func18 #[.agg #[.int .i64 t115, .int .i64 t116, .int .i64 t117, .int .i64 t118]] ?_;(with_reducible refine (spec_ItemOk.calls t115 t116 t117 t118 t119 _ A3.out).mono ?_);rintro e w17 ⟨rfl, hb⟩;refine ⟨_, rfl, ?_⟩;replace BK114 := kB BK114 hb;replace HB := sB hb;(try clear hb);obtain ⟨hcz18_0, hcz18_1, hcz18_2, hcz18_3, hfz18_0, hfz18_1, hfz18_2, hfz18_3⟩ := cz4 BK114)|((with_reducible refine gF 19 ?_);refine goZ (some 9) Try.func19 #[.agg #[.int .i64 a0_0, .int .i64 a0_1, .int .i64 a0_2, .int .i64 a0_3]] ?_;(with_reducible refine (laws_toItem.calls a0_0 a0_1 a0_2 a0_3 t120 t121 t122 t123 _ A4.out).mono ?_);rintro e w19 ⟨rfl, hb⟩;refine ⟨_, rfl, ?_⟩;replace BK114 := kB BK114 hb;replace HB := sB hb;(try clear hb))|((with_reducible refine gF 20 ?_);refine goZ (some 10) Try.func20 #[.agg #[.int .i64 t120, .int .i64 t121, .int .i64 t122, .int .i64 t123]] ?_;(with_reducible refine (impl_ItemOk.calls t120 t121 t122 t123 t124 _ A5.out).mono ?_);rintro e w20 ⟨rfl, hb⟩;refine ⟨_, rfl, ?_⟩;replace BK114 := kB BK114 hb;replace HB := sB hb;(try clear hb)))
  go_ret;exact ⟨rE, cB⟩
end Go.Proofs.Ytlmofdeakhfmhaa.PFnExactItemOk
