import Derived.Test.YtgpmmmidplkhnaaPFnExactFrameTexty0
import Derived.Test.YtgpmmmidplkhnaaPFnExactFrameTexty1
namespace Go.Proofs.Ytgpmmmidplkhnaa.PFnExactFrameText
open Go.RowKit Go.Proofs.YtgpmmmidplkhnaaW.PrintWords Go.Proofs.YtgpmmmidplkhnaaW.PrintLast Go.Proofs.YtgpmmmidplkhnaaW.PrintMore Go.Proofs.YtgpmmmidplkhnaaW.Z
attribute [local go_sem] isS max2_int min2_int max_two min_two max_three min_three max_four min_four
set_option linter.unusedVariables false
set_option linter.unusedSimpArgs false
attribute [local go_sem high] eqA35
def laws_toItem.f (a0_0 : Int) (a0_1 : Int) (a0_2 : Int) (a0_3 : Int) : Option (Int × Int × Int × Int) := some (a0_0, a0_1, a0_2, a0_3)
set_option maxHeartbeats 8000000 in
set_option maxRecDepth 100000 in
theorem laws_toItem.calls (a0_0 : Int) (a0_1 : Int) (a0_2 : Int) (a0_3 : Int) (r1 : Int) (r2 : Int) (r3 : Int) (r4 : Int) (w : World) (h : laws_toItem.f a0_0 a0_1 a0_2 a0_3 = some (r1, r2, r3, r4)) :
 Calls Try.prog 34 #[.agg #[.int .i64 a0_0, .int .i64 a0_1, .int .i64 a0_2, .int .i64 a0_3]] w fun e w' => e = .returned (.agg #[.int .i64 r1, .int .i64 r2, .int .i64 r3, .int .i64 r4]) ∧ Below w.heap.size w w' := by
 have hu30 := Try.underlying30;have hu35 := Try.underlying35;have HB := Aside0.mk (Below.refl w.heap.size w);have H : (some (a0_0, a0_1, a0_2, a0_3)) = some (r1, r2, r3, r4) := h;clear h;simp only [Option.some.injEq, Prod.mk.injEq] at H;obtain ⟨rfl, rfl, rfl, rfl⟩ := H;go_enter Try.func34, Try.ntmps34
 go_wp2_with (first|((with_reducible refine gN 1 ?_);refine boxZ 1 #[.int .i64 a0_0, .int .i64 a0_1, .int .i64 a0_2, .int .i64 a0_3] 30 ?_;intro gb143 hg w2 hbox hb;have BK143 := Aside0.mk (hbox);have GW143 := gS hg;have GE143 := gS hg;replace HB := sB hb;clear hb hbox hg)|((with_reducible refine gN 2 ?_);refine boxZ 2 #[.int .i64 0, .int .i64 0, .int .i64 0, .int .i64 0] 35 ?_;intro gb144 hg w3 hbox hb;have BK144 := Aside0.mk (hbox);have GW144 := gS hg;have GE144 := gS hg;replace HB := sB hb;have NB143_144 := nL hg BK143;have NB144_143 := nG hg BK143;replace BK143 := kB BK143 hb;clear hb hbox hg)|((with_reducible refine gN 3 ?_);refine boxZ 3 #[.int .i64 0, .int .i64 0, .int .i64 0, .int .i64 0] 35 ?_;intro gb145 hg w4 hbox hb;have BK145 := Aside0.mk (hbox);have GW145 := gS hg;have GE145 := gS hg;replace HB := sB hb;have NB143_145 := nL hg BK143;have NB145_143 := nG hg BK143;replace BK143 := kB BK143 hb;have NB144_145 := nL hg BK144;have NB145_144 := nG hg BK144;replace BK144 := kB BK144 hb;clear hb hbox hg;have hnb5 := NB143_144.out;have hnc5 := NB144_143.out;have hnb6 := NB143_145.out;have hnc6 := NB145_143.out;obtain ⟨hcz7_0, hcz7_1, hcz7_2, hcz7_3, hfz7_0, hfz7_1, hfz7_2, hfz7_3⟩ := cz4 BK143;have hnb8 := NB145_144.out;have hnc8 := NB144_145.out;obtain ⟨hcz9_0, hcz9_1, hcz9_2, hcz9_3, hfz9_0, hfz9_1, hfz9_2, hfz9_3⟩ := cz4 BK145;obtain ⟨hcz10_0, hcz10_1, hcz10_2, hcz10_3, hfz10_0, hfz10_1, hfz10_2, hfz10_3⟩ := cz4 BK144))
 refine bodyPost_ret (results_cell_row rfl _ _ gb144 35 #[.int .i64 a0_0, .int .i64 a0_1, .int .i64 a0_2, .int .i64 a0_3] (0, 0) _ rfl (kS BK144 _) Try.underlying35 rfl (by kernel_rfl)) rfl ?_
 exact ⟨rE, cB⟩
def laws_toFrame.f (a0_0 : Int) (a0_1 : Int) (a0_2 : Int) (a0_3 : Int) (a0_4 : Int) (a0_5 : Int) (a0_6 : Int) : Option (Int × Int × Int × Int × Int × Int × Int) := (laws_toItem.f a0_3 a0_4 a0_5 a0_6).bind fun bt149 => (some (a0_0, a0_1, a0_2, bt149.1, bt149.2.1, bt149.2.2.1, bt149.2.2.2))
set_option maxHeartbeats 8000000 in
set_option maxRecDepth 100000 in
theorem laws_toFrame.calls (a0_0 : Int) (a0_1 : Int) (a0_2 : Int) (a0_3 : Int) (a0_4 : Int) (a0_5 : Int) (a0_6 : Int) (r1 : Int) (r2 : Int) (r3 : Int) (r4 : Int) (r5 : Int) (r6 : Int) (r7 : Int) (w : World) (h : laws_toFrame.f a0_0 a0_1 a0_2 a0_3 a0_4 a0_5 a0_6 = some (r1, r2, r3, r4, r5, r6, r7)) :
 Calls Try.prog 13 #[.agg #[.int .i64 a0_0, .int .i64 a0_1, .int .i64 a0_2, .int .i64 a0_3, .int .i64 a0_4, .int .i64 a0_5, .int .i64 a0_6]] w fun e w' => e = .returned (.agg #[.int .i64 r1, .int .i64 r2, .int .i64 r3, .int .i64 r4, .int .i64 r5, .int .i64 r6, .int .i64 r7]) ∧ Below w.heap.size w w' := by
 have hu32 := Try.underlying32;have hu37 := Try.underlying37;have hu30 := Try.underlying30;have hu35 := Try.underlying35;have HB := Aside0.mk (Below.refl w.heap.size w)
 have H : ((laws_toItem.f a0_3 a0_4 a0_5 a0_6).bind fun bt149 => (some (a0_0, a0_1, a0_2, bt149.1, bt149.2.1, bt149.2.2.1, bt149.2.2.2))) = some (r1, r2, r3, r4, r5, r6, r7) := h
 clear h;replace H := bE H;obtain ⟨⟨t149, t150, t151, t152⟩, A2, H⟩ := H;(try dsimp only at H);simp only [Option.some.injEq, Prod.mk.injEq] at H;obtain ⟨rfl, rfl, rfl, rfl, rfl, rfl, rfl⟩ := H;go_enter Try.func13, Try.ntmps13
 go_wp2_with (first|((with_reducible refine gN 1 ?_);refine boxZ 1 #[.int .i64 a0_0, .int .i64 a0_1, .int .i64 a0_2, .int .i64 a0_3, .int .i64 a0_4, .int .i64 a0_5, .int .i64 a0_6] 32 ?_;intro gb146 hg w3 hbox hb;have BK146 := Aside0.mk (hbox);have GW146 := gS hg;have GE146 := gS hg;replace HB := sB hb;clear hb hbox hg)|((with_reducible refine gN 2 ?_);refine boxZ 2 #[.int .i64 0, .int .i64 0, .int .i64 0, .int .i64 0, .int .i64 0, .int .i64 0, .int .i64 0] 37 ?_;intro gb147 hg w4 hbox hb;have BK147 := Aside0.mk (hbox);have GW147 := gS hg;have GE147 := gS hg;replace HB := sB hb;have NB146_147 := nL hg BK146;have NB147_146 := nG hg BK146;replace BK146 := kB BK146 hb;clear hb hbox hg)|((with_reducible refine gN 3 ?_);refine boxZ 3 #[.int .i64 0, .int .i64 0, .int .i64 0, .int .i64 0, .int .i64 0, .int .i64 0, .int .i64 0] 37 ?_;intro gb148 hg w5 hbox hb;have BK148 := Aside0.mk (hbox);have GW148 := gS hg;have GE148 := gS hg;replace HB := sB hb;have NB146_148 := nL hg BK146;have NB148_146 := nG hg BK146;replace BK146 := kB BK146 hb;have NB147_148 := nL hg BK147;have NB148_147 := nG hg BK147;replace BK147 := kB BK147 hb;clear hb hbox hg;have hnb6 := NB146_147.out;have hnc6 := NB147_146.out;have hnb7 := NB146_148.out;have hnc7 := NB148_146.out;obtain ⟨hcz8_0, hcz8_1, hcz8_2, hcz8_3, hcz8_4, hcz8_5, hcz8_6, hfz8_0, hfz8_1, hfz8_2, hfz8_3, hfz8_4, hfz8_5, hfz8_6⟩ := cz7 BK146;have hnb9 := NB148_147.out;have hnc9 := NB147_148.out;obtain ⟨hcz10_0, hcz10_1, hcz10_2, hcz10_3, hcz10_4, hcz10_5, hcz10_6, hfz10_0, hfz10_1, hfz10_2, hfz10_3, hfz10_4, hfz10_5, hfz10_6⟩ := cz7 BK148)|((with_reducible refine gF 34 ?_);refine goZ (some 15) Try.func34 #[.agg #[.int .i64 a0_3, .int .i64 a0_4, .int .i64 a0_5, .int .i64 a0_6]] ?_;(with_reducible refine (laws_toItem.calls a0_3 a0_4 a0_5 a0_6 t149 t150 t151 t152 _ A2.out).mono ?_);rintro e w11 ⟨rfl, hb⟩;refine ⟨_, rfl, ?_⟩;replace BK146 := kB BK146 hb;replace BK147 := kB BK147 hb;replace BK148 := kP BK148 hb (.cells #[.int .i64 a0_0, .int .i64 a0_1, .int .i64 a0_2, .int .i64 0, .int .i64 0, .int .i64 0, .int .i64 0] 37 (0, 0));replace HB := sB hb;(try clear hb);obtain ⟨hcz12_0, hcz12_1, hcz12_2, hcz12_3, hcz12_4, hcz12_5, hcz12_6, hfz12_0, hfz12_1, hfz12_2, hfz12_3, hfz12_4, hfz12_5, hfz12_6⟩ := cz7 BK148;obtain ⟨hcz13_0, hcz13_1, hcz13_2, hcz13_3, hcz13_4, hcz13_5, hcz13_6, hfz13_0, hfz13_1, hfz13_2, hfz13_3, hfz13_4, hfz13_5, hfz13_6⟩ := cz7 BK147))
 refine bodyPost_ret (results_cell_row rfl _ _ gb147 37 #[.int .i64 a0_0, .int .i64 a0_1, .int .i64 a0_2, .int .i64 t149, .int .i64 t150, .int .i64 t151, .int .i64 t152] (0, 0) _ rfl (kS BK147 _) Try.underlying37 rfl (by kernel_rfl)) rfl ?_
 exact ⟨rE, cB⟩
def impl_within.f (a0 : Int) (a1 : Int) (a2 : Int) : Option (Bool) := if a0 ≥ a1 then (some (decide (a0 ≤ a2))) else (some false)
set_option maxHeartbeats 8000000 in
set_option maxRecDepth 100000 in
theorem impl_within.calls (a0 : Int) (a1 : Int) (a2 : Int) (r : Bool) (w : World) (h : impl_within.f a0 a1 a2 = some r) :
 Calls Try.prog 52 #[.int .i64 a0, .int .i64 a1, .int .i64 a2] w fun e w' => e = .returned (.bool r) ∧ Drawn0 w w' := by
 have H : (if a0 ≥ a1 then (some (decide (a0 ≤ a2))) else (some false)) = some r := h;clear h;by_cases c4 : a0 ≥ a1
 ·rw [if_pos c4] at H;have c4b0 : decide (a1 ≤ a0) = true := decide_eq_true c4;clear c4;obtain rfl := Option.some.inj H;go_enter Try.func52, Try.ntmps52;go_wp2;go_ret
  exact ⟨by first | rfl | (simp; done) | (simp [*]; done), by repeat (first | exact Drawn0.refl _ | apply Drawn0.step)⟩
 ·rw [if_neg c4] at H;have c4b0 : decide (a1 ≤ a0) = false := decide_eq_false c4;clear c4;obtain rfl := Option.some.inj H;go_enter Try.func52, Try.ntmps52;go_wp2;go_ret
  exact ⟨by first | rfl | (simp; done) | (simp [*]; done), by repeat (first | exact Drawn0.refl _ | apply Drawn0.step)⟩
def impl_isPid.f (a0 : Int) : Option (Bool) := (impl_within.f a0 0 2).bind fun t153 => (some t153)
set_option maxHeartbeats 8000000 in
set_option maxRecDepth 100000 in
theorem impl_isPid.calls (a0 : Int) (r : Bool) (w : World) (h : impl_isPid.f a0 = some r) :
 Calls Try.prog 51 #[.int .i64 a0] w fun e w' => e = .returned (.bool r) ∧ Drawn0 w w' := by
 have H : ((impl_within.f a0 0 2).bind fun t153 => (some t153)) = some r := h
 clear h;replace H := bE H;obtain ⟨t153, A2, H⟩ := H;obtain rfl := Option.some.inj H;go_enter Try.func51, Try.ntmps51
 go_wp2_with (first|((with_reducible refine gF 52 ?_);refine goZ (some 4) Try.func52 #[.int .i64 a0, .int .i64 0, .int .i64 2] ?_;(with_reducible refine (impl_within.calls a0 0 2 t153 _ A2.out).mono ?_);rintro e w' ⟨rfl, ⟨nd, rfl⟩⟩;refine ⟨_, rfl, ?_⟩))
 go_ret
 exact ⟨by first | rfl | (simp; done) | (simp [*]; done), by repeat (first | exact Drawn0.refl _ | apply Drawn0.step)⟩
def impl_HalfOk.f (a0 : Int) : Option (Bool) := (impl_within.f a0 0 4294967295).bind fun t154 => (some t154)
set_option maxHeartbeats 8000000 in
set_option maxRecDepth 100000 in
theorem impl_HalfOk.calls (a0 : Int) (r : Bool) (w : World) (h : impl_HalfOk.f a0 = some r) :
 Calls Try.prog 57 #[.int .i64 a0] w fun e w' => e = .returned (.bool r) ∧ Drawn0 w w' := by
 have H : ((impl_within.f a0 0 4294967295).bind fun t154 => (some t154)) = some r := h
 clear h;replace H := bE H;obtain ⟨t154, A2, H⟩ := H;obtain rfl := Option.some.inj H;go_enter Try.func57, Try.ntmps57
 go_wp2_with (first|((with_reducible refine gF 52 ?_);refine goZ (some 4) Try.func52 #[.int .i64 a0, .int .i64 0, .int .i64 4294967295] ?_;(with_reducible refine (impl_within.calls a0 0 4294967295 t154 _ A2.out).mono ?_);rintro e w' ⟨rfl, ⟨nd, rfl⟩⟩;refine ⟨_, rfl, ?_⟩))
 go_ret
 exact ⟨by first | rfl | (simp; done) | (simp [*]; done), by repeat (first | exact Drawn0.refl _ | apply Drawn0.step)⟩
def impl_ItemOk.f (a0_0 : Int) (a0_1 : Int) (a0_2 : Int) (a0_3 : Int) : Option (Bool) := if a0_0 = 1 then ((impl_HalfOk.f a0_1).bind fun t156 => (if t156 = true then ((impl_HalfOk.f a0_2).bind fun t157 => (if t157 = true then (some (a0_3 == 0)) else (some false))) else (some false))) else (if a0_0 = 2 then ((impl_within.f a0_3 1 1000000000).bind fun t158 => (if t158 = true then (if a0_1 = 0 then (some (a0_2 == 0)) else (some false)) else (some false))) else (some false))
set_option maxHeartbeats 8000000 in
set_option maxRecDepth 100000 in
theorem impl_ItemOk.calls (a0_0 : Int) (a0_1 : Int) (a0_2 : Int) (a0_3 : Int) (r : Bool) (w : World) (h : impl_ItemOk.f a0_0 a0_1 a0_2 a0_3 = some r) :
 Calls Try.prog 53 #[.agg #[.int .i64 a0_0, .int .i64 a0_1, .int .i64 a0_2, .int .i64 a0_3]] w fun e w' => e = .returned (.bool r) ∧ Below w.heap.size w w' := by
 have hu35 := Try.underlying35;have HB := Aside0.mk (Below.refl w.heap.size w)
 have H : (if a0_0 = 1 then ((impl_HalfOk.f a0_1).bind fun t156 => (if t156 = true then ((impl_HalfOk.f a0_2).bind fun t157 => (if t157 = true then (some (a0_3 == 0)) else (some false))) else (some false))) else (if a0_0 = 2 then ((impl_within.f a0_3 1 1000000000).bind fun t158 => (if t158 = true then (if a0_1 = 0 then (some (a0_2 == 0)) else (some false)) else (some false))) else (some false))) = some r := h
 clear h;by_cases c2 : a0_0 = 1
 ·rw [if_pos c2] at H;obtain ⟨c2b0, c2b1⟩ := eT c2;clear c2;replace H := bE H;obtain ⟨t156, A3, H⟩ := H;by_cases c4 : t156 = true
  ·subst c4;replace H := iT H;replace H := bE H;obtain ⟨t157, A5, H⟩ := H;by_cases c6 : t157 = true
   ·subst c6;replace H := iT H;obtain rfl := Option.some.inj H;go_enter Try.func53, Try.ntmps53
    go_wp2_with (first|((with_reducible refine gN 1 ?_);refine boxZ 1 #[.int .i64 a0_0, .int .i64 a0_1, .int .i64 a0_2, .int .i64 a0_3] 35 ?_;intro gb155 hg w7 hbox hb;have BK155 := Aside0.mk (hbox);have GW155 := gS hg;have GE155 := gS hg;replace HB := sB hb;clear hb hbox hg;obtain ⟨hcz8_0, hcz8_1, hcz8_2, hcz8_3, hfz8_0, hfz8_1, hfz8_2, hfz8_3⟩ := cz4 BK155)|((with_reducible refine gF 57 ?_);refine goZ (some 9) Try.func57 #[.int .i64 a0_1] ?_;(with_reducible refine (impl_HalfOk.calls a0_1 true _ A3.out).mono ?_);rintro e w' ⟨rfl, ⟨nd, rfl⟩⟩;refine ⟨_, rfl, ?_⟩)|(go_at_call 57;(with_reducible refine (impl_HalfOk.calls a0_2 true _ A5.out).mono ?_);rintro e w' ⟨rfl, ⟨nd, rfl⟩⟩))
    go_ret;exact ⟨rE, cB⟩
   ·replace c6 := Bool.eq_false_iff.mpr c6;subst c6;replace H := iF H;obtain rfl := Option.some.inj H;go_enter Try.func53, Try.ntmps53
    go_wp2_with (first|((with_reducible refine gN 1 ?_);refine boxZ 1 #[.int .i64 a0_0, .int .i64 a0_1, .int .i64 a0_2, .int .i64 a0_3] 35 ?_;intro gb155 hg w9 hbox hb;have BK155 := Aside0.mk (hbox);have GW155 := gS hg;have GE155 := gS hg;replace HB := sB hb;clear hb hbox hg;obtain ⟨hcz10_0, hcz10_1, hcz10_2, hcz10_3, hfz10_0, hfz10_1, hfz10_2, hfz10_3⟩ := cz4 BK155)|((with_reducible refine gF 57 ?_);refine goZ (some 9) Try.func57 #[.int .i64 a0_1] ?_;(with_reducible refine (impl_HalfOk.calls a0_1 true _ A3.out).mono ?_);rintro e w' ⟨rfl, ⟨nd, rfl⟩⟩;refine ⟨_, rfl, ?_⟩)|(go_at_call 57;(with_reducible refine (impl_HalfOk.calls a0_2 false _ A5.out).mono ?_);rintro e w' ⟨rfl, ⟨nd, rfl⟩⟩))
    go_ret;exact ⟨rE, cB⟩
  ·replace c4 := Bool.eq_false_iff.mpr c4;subst c4;replace H := iF H;obtain rfl := Option.some.inj H;go_enter Try.func53, Try.ntmps53
   go_wp2_with (first|((with_reducible refine gN 1 ?_);refine boxZ 1 #[.int .i64 a0_0, .int .i64 a0_1, .int .i64 a0_2, .int .i64 a0_3] 35 ?_;intro gb155 hg w11 hbox hb;have BK155 := Aside0.mk (hbox);have GW155 := gS hg;have GE155 := gS hg;replace HB := sB hb;clear hb hbox hg;obtain ⟨hcz12_0, hcz12_1, hcz12_2, hcz12_3, hfz12_0, hfz12_1, hfz12_2, hfz12_3⟩ := cz4 BK155)|((with_reducible refine gF 57 ?_);refine goZ (some 9) Try.func57 #[.int .i64 a0_1] ?_;(with_reducible refine (impl_HalfOk.calls a0_1 false _ A3.out).mono ?_);rintro e w' ⟨rfl, ⟨nd, rfl⟩⟩;refine ⟨_, rfl, ?_⟩))
   go_ret;exact ⟨rE, cB⟩
 ·rw [if_neg c2] at H;obtain ⟨c2b0, c2b1⟩ := eF c2;by_cases c13 : a0_0 = 2
  ·rw [if_pos c13] at H;obtain ⟨c13b0, c13b1⟩ := eT c13;clear c13;replace H := bE H;obtain ⟨t158, A14, H⟩ := H;by_cases c15 : t158 = true
   ·subst c15;replace H := iT H;by_cases c16 : a0_1 = 0
    ·rw [if_pos c16] at H;obtain ⟨c16b0, c16b1⟩ := eT c16;clear c16;obtain rfl := Option.some.inj H;go_enter Try.func53, Try.ntmps53
     go_wp2_with (first|((with_reducible refine gN 1 ?_);refine boxZ 1 #[.int .i64 a0_0, .int .i64 a0_1, .int .i64 a0_2, .int .i64 a0_3] 35 ?_;intro gb155 hg w17 hbox hb;have BK155 := Aside0.mk (hbox);have GW155 := gS hg;have GE155 := gS hg;replace HB := sB hb;clear hb hbox hg;obtain ⟨hcz18_0, hcz18_1, hcz18_2, hcz18_3, hfz18_0, hfz18_1, hfz18_2, hfz18_3⟩ := cz4 BK155)|((with_reducible refine gF 52 ?_);refine goZ (some 24) Try.func52 #[.int .i64 a0_3, .int .i64 1, .int .i64 1000000000] ?_;(with_reducible refine (impl_within.calls a0_3 1 1000000000 true _ A14.out).mono ?_);rintro e w' ⟨rfl, ⟨nd, rfl⟩⟩;refine ⟨_, rfl, ?_⟩))
     go_ret;exact ⟨rE, cB⟩
    ·rw [if_neg c16] at H;obtain ⟨c16b0, c16b1⟩ := eF c16;obtain rfl := Option.some.inj H;go_enter Try.func53, Try.ntmps53
     go_wp2_with (first|((with_reducible refine gN 1 ?_);refine boxZ 1 #[.int .i64 a0_0, .int .i64 a0_1, .int .i64 a0_2, .int .i64 a0_3] 35 ?_;intro gb155 hg w19 hbox hb;have BK155 := Aside0.mk (hbox);have GW155 := gS hg;have GE155 := gS hg;replace HB := sB hb;clear hb hbox hg;obtain ⟨hcz20_0, hcz20_1, hcz20_2, hcz20_3, hfz20_0, hfz20_1, hfz20_2, hfz20_3⟩ := cz4 BK155)|((with_reducible refine gF 52 ?_);refine goZ (some 24) Try.func52 #[.int .i64 a0_3, .int .i64 1, .int .i64 1000000000] ?_;(with_reducible refine (impl_within.calls a0_3 1 1000000000 true _ A14.out).mono ?_);rintro e w' ⟨rfl, ⟨nd, rfl⟩⟩;refine ⟨_, rfl, ?_⟩))
     go_ret;exact ⟨rE, cB⟩
   ·replace c15 := Bool.eq_false_iff.mpr c15;subst c15;replace H := iF H;obtain rfl := Option.some.inj H;go_enter Try.func53, Try.ntmps53
    go_wp2_with (first|((with_reducible refine gN 1 ?_);refine boxZ 1 #[.int .i64 a0_0, .int .i64 a0_1, .int .i64 a0_2, .int .i64 a0_3] 35 ?_;intro gb155 hg w21 hbox hb;have BK155 := Aside0.mk (hbox);have GW155 := gS hg;have GE155 := gS hg;replace HB := sB hb;clear hb hbox hg;obtain ⟨hcz22_0, hcz22_1, hcz22_2, hcz22_3, hfz22_0, hfz22_1, hfz22_2, hfz22_3⟩ := cz4 BK155)|((with_reducible refine gF 52 ?_);refine goZ (some 24) Try.func52 #[.int .i64 a0_3, .int .i64 1, .int .i64 1000000000] ?_;(with_reducible refine (impl_within.calls a0_3 1 1000000000 false _ A14.out).mono ?_);rintro e w' ⟨rfl, ⟨nd, rfl⟩⟩;refine ⟨_, rfl, ?_⟩))
    go_ret;exact ⟨rE, cB⟩
  ·rw [if_neg c13] at H;obtain ⟨c13b0, c13b1⟩ := eF c13;obtain rfl := Option.some.inj H;go_enter Try.func53, Try.ntmps53
   go_wp2_with (first|((with_reducible refine gN 1 ?_);refine boxZ 1 #[.int .i64 a0_0, .int .i64 a0_1, .int .i64 a0_2, .int .i64 a0_3] 35 ?_;intro gb155 hg w23 hbox hb;have BK155 := Aside0.mk (hbox);have GW155 := gS hg;have GE155 := gS hg;replace HB := sB hb;clear hb hbox hg;obtain ⟨hcz24_0, hcz24_1, hcz24_2, hcz24_3, hfz24_0, hfz24_1, hfz24_2, hfz24_3⟩ := cz4 BK155))
   go_ret;exact ⟨rE, cB⟩
def impl_FrameOk.j0 : Nat → Bool → Int → Int → Int → Int → Int → Int → Int → Option (Bool)
  | 0, _, _, _, _, _, _, _, _ => none
  | k + 1, x12, x160000, x160001, x160002, x160003, x160004, x160005, x160006 => if x12 = true then (some false) else (if x160000 = 1 then ((impl_ItemOk.f x160003 x160004 x160005 x160006).bind fun t162 => (some t162)) else (if x160000 = 2 then (some (x160003 == 0 && (x160004 == 0 && (x160005 == 0 && (x160006 == 0))))) else (some false)))
def impl_FrameOk.f (k : Nat) (a0_0 : Int) (a0_1 : Int) (a0_2 : Int) (a0_3 : Int) (a0_4 : Int) (a0_5 : Int) (a0_6 : Int) : Option (Bool) := (impl_isPid.f a0_1).bind fun t160 => (if t160 = true then ((impl_within.f a0_2 1 1000000000).bind fun t161 => (impl_FrameOk.j0 k (!t161) a0_0 a0_1 a0_2 a0_3 a0_4 a0_5 a0_6)) else (impl_FrameOk.j0 k true a0_0 a0_1 a0_2 a0_3 a0_4 a0_5 a0_6))
set_option maxHeartbeats 8000000 in
set_option maxRecDepth 100000 in
theorem impl_FrameOk.calls (k : Nat) (a0_0 : Int) (a0_1 : Int) (a0_2 : Int) (a0_3 : Int) (a0_4 : Int) (a0_5 : Int) (a0_6 : Int) (r : Bool) (w : World) (h : impl_FrameOk.f k a0_0 a0_1 a0_2 a0_3 a0_4 a0_5 a0_6 = some r) :
 Calls Try.prog 35 #[.agg #[.int .i64 a0_0, .int .i64 a0_1, .int .i64 a0_2, .int .i64 a0_3, .int .i64 a0_4, .int .i64 a0_5, .int .i64 a0_6]] w fun e w' => e = .returned (.bool r) ∧ Below w.heap.size w w' := by
 have hu37 := Try.underlying37;have hu35 := Try.underlying35;have HB := Aside0.mk (Below.refl w.heap.size w)
 have H : ((impl_isPid.f a0_1).bind fun t160 => (if t160 = true then ((impl_within.f a0_2 1 1000000000).bind fun t161 => (impl_FrameOk.j0 k (!t161) a0_0 a0_1 a0_2 a0_3 a0_4 a0_5 a0_6)) else (impl_FrameOk.j0 k true a0_0 a0_1 a0_2 a0_3 a0_4 a0_5 a0_6))) = some r := h
 clear h;have HC2 := Aside0.mk H;clear H;go_enter Try.func35, Try.ntmps35
 go_upto_region 1 with (first|((with_reducible refine gN 1 ?_);refine boxZ 1 #[.int .i64 a0_0, .int .i64 a0_1, .int .i64 a0_2, .int .i64 a0_3, .int .i64 a0_4, .int .i64 a0_5, .int .i64 a0_6] 37 ?_;intro gb159 hg w3 hbox hb;have BK159 := Aside0.mk (hbox);have GW159 := gS hg;have GE159 := gS hg;replace HB := sB hb;clear hb hbox hg))
 (try simp only [Act.put, List.setIfInBounds_toArray, List.set_cons_zero, List.set_cons_succ])
 go_cut [12] (fun v12 wc => ∃ (kq : Nat) (x12_1 : Bool), v12 = .bool x12_1 ∧ Aside0 (impl_FrameOk.j0 kq x12_1 a0_0 a0_1 a0_2 a0_3 a0_4 a0_5 a0_6 = some r) ∧ Aside0 (kq ≤ k) ∧ Aside0 (wc.heap[gb159]? = some (.cells #[.int .i64 a0_0, .int .i64 a0_1, .int .i64 a0_2, .int .i64 a0_3, .int .i64 a0_4, .int .i64 a0_5, .int .i64 a0_6] 37 (0, 0))) ∧ Aside0 (Below w.heap.size w wc))
 case first =>
  have H := HC2.out;clear HC2;replace H := bE H;obtain ⟨t160, A4, H⟩ := H;by_cases c5 : t160 = true
  ·subst c5;replace H := iT H;replace H := bE H;obtain ⟨t161, A6, H⟩ := H;have H' := Aside0.mk H;clear H;obtain ⟨hcz7_0, hcz7_1, hcz7_2, hcz7_3, hcz7_4, hcz7_5, hcz7_6, hfz7_0, hfz7_1, hfz7_2, hfz7_3, hfz7_4, hfz7_5, hfz7_6⟩ := cz7 BK159
   go_wp2_with (first|((with_reducible refine gF 51 ?_);refine goZ (some 5) Try.func51 #[.int .i64 a0_1] ?_;(with_reducible refine (impl_isPid.calls a0_1 true _ A4.out).mono ?_);rintro e w' ⟨rfl, ⟨nd, rfl⟩⟩;refine ⟨_, rfl, ?_⟩)|(go_at_call 52;(with_reducible refine (impl_within.calls a0_2 1 1000000000 t161 _ A6.out).mono ?_);rintro e w' ⟨rfl, ⟨nd, rfl⟩⟩))
   go_meet
   case rel => exact ⟨_, (!t161), rS, H', ⟨oL⟩, ⟨mK BK159⟩, ⟨cB⟩⟩
  ·replace c5 := Bool.eq_false_iff.mpr c5;subst c5;replace H := iF H;have H' := Aside0.mk H;clear H;obtain ⟨hcz8_0, hcz8_1, hcz8_2, hcz8_3, hcz8_4, hcz8_5, hcz8_6, hfz8_0, hfz8_1, hfz8_2, hfz8_3, hfz8_4, hfz8_5, hfz8_6⟩ := cz7 BK159
   go_wp2_with (first|((with_reducible refine gF 51 ?_);refine goZ (some 5) Try.func51 #[.int .i64 a0_1] ?_;(with_reducible refine (impl_isPid.calls a0_1 false _ A4.out).mono ?_);rintro e w' ⟨rfl, ⟨nd, rfl⟩⟩;refine ⟨_, rfl, ?_⟩))
   go_meet
   case rel => exact ⟨_, (true), rS, H', ⟨oL⟩, ⟨mK BK159⟩, ⟨cB⟩⟩
 case rest =>
  clear HC2;(try clear c5);(try clear hcz7_0);(try clear hcz7_1);(try clear hcz7_2);(try clear hcz7_3);(try clear hcz7_4);(try clear hcz7_5);(try clear hcz7_6);(try clear hcz8_0);(try clear hcz8_1);(try clear hcz8_2);(try clear hcz8_3);(try clear hcz8_4);(try clear hcz8_5);(try clear hcz8_6);(try clear hfz7_0);(try clear hfz7_1);(try clear hfz7_2);(try clear hfz7_3);(try clear hfz7_4);(try clear hfz7_5);(try clear hfz7_6);(try clear hfz8_0);(try clear hfz8_1);(try clear hfz8_2);(try clear hfz8_3);(try clear hfz8_4);(try clear hfz8_5);(try clear hfz8_6);obtain ⟨kq, x12_1, rfl, HA, HJ1, BK159, HB⟩ := hcut
  cases kq with
  | zero => exact absurd HA.out (by simp [impl_FrameOk.j0])
  | succ kj1 =>
   have H := HA.out;clear HA;simp only [impl_FrameOk.j0] at H;by_cases c9 : x12_1 = true
   ·subst c9;replace H := iT H;obtain rfl := Option.some.inj H;go_wp2;go_ret;exact ⟨rE, cB⟩
   ·replace c9 := Bool.eq_false_iff.mpr c9;subst c9;replace H := iF H;by_cases c10 : a0_0 = 1
    ·rw [if_pos c10] at H;obtain ⟨c10b0, c10b1⟩ := eT c10;clear c10;replace H := bE H;obtain ⟨t162, A11, H⟩ := H;obtain rfl := Option.some.inj H;obtain ⟨hcz12_0, hcz12_1, hcz12_2, hcz12_3, hcz12_4, hcz12_5, hcz12_6, hfz12_0, hfz12_1, hfz12_2, hfz12_3, hfz12_4, hfz12_5, hfz12_6⟩ := cz7 BK159
     go_wp2_with (first|((with_reducible refine gF 53 ?_);refine goZ (some 19) Try.func53 #[.agg #[.int .i64 a0_3, .int .i64 a0_4, .int .i64 a0_5, .int .i64 a0_6]] ?_;(with_reducible refine (impl_ItemOk.calls a0_3 a0_4 a0_5 a0_6 t162 _ A11.out).mono ?_);rintro e w13 ⟨rfl, hb⟩;refine ⟨_, rfl, ?_⟩;replace BK159 := kB BK159 hb;replace HB := sB hb;(try clear hb)))
     go_ret;exact ⟨rE, cB⟩
    ·rw [if_neg c10] at H;obtain ⟨c10b0, c10b1⟩ := eF c10;by_cases c14 : a0_0 = 2
     ·rw [if_pos c14] at H;obtain ⟨c14b0, c14b1⟩ := eT c14;clear c14;obtain rfl := Option.some.inj H;obtain ⟨hcz15_0, hcz15_1, hcz15_2, hcz15_3, hcz15_4, hcz15_5, hcz15_6, hfz15_0, hfz15_1, hfz15_2, hfz15_3, hfz15_4, hfz15_5, hfz15_6⟩ := cz7 BK159;go_wp2;go_ret;exact ⟨rE, cB⟩
     ·rw [if_neg c14] at H;obtain ⟨c14b0, c14b1⟩ := eF c14;obtain rfl := Option.some.inj H;obtain ⟨hcz16_0, hcz16_1, hcz16_2, hcz16_3, hcz16_4, hcz16_5, hcz16_6, hfz16_0, hfz16_1, hfz16_2, hfz16_3, hfz16_4, hfz16_5, hfz16_6⟩ := cz7 BK159;go_wp2;go_ret;exact ⟨rE, cB⟩
def impl_VarText.l0 : Nat → Int → List Int → Option (ByteArray × Bool)
  | 0, _, _ => none
  | k + 1, x0, x4 => if x0 > 127 then (if x4.length < 140737488355328 then (impl_VarText.l0 k (x0 / 128) (x4 ++ [(Go.bits .or .i64 (Go.bits .and .i64 x0 127) 128) % 256])) else (none)) else (if x4.length < 140737488355328 then (some (strOfNums (x4 ++ [(x0) % 256]), true)) else (none))
def impl_VarText.f (k : Nat) (a0 : Int) : Option (ByteArray × Bool) := (impl_within.f a0 0 1000000000).bind fun t163 => (if t163 = true then (impl_VarText.l0 k a0 (([] : List Int))) else (some ((⟨#[]⟩ : ByteArray), false)))
set_option maxHeartbeats 8000000 in
set_option maxRecDepth 100000 in
theorem impl_VarText.calls (k : Nat) (a0 : Int) (r1 : ByteArray) (r2 : Bool) (w : World) (h : impl_VarText.f k a0 = some (r1, r2)) :
 Calls Try.prog 36 #[.int .i64 a0] w fun e w' => e = .returned (.tuple #[.string r1, .bool r2]) ∧ Below w.heap.size w w' := by
 have HB := Aside0.mk (Below.refl w.heap.size w)
 have H : ((impl_within.f a0 0 1000000000).bind fun t163 => (if t163 = true then (impl_VarText.l0 k a0 (([] : List Int))) else (some ((⟨#[]⟩ : ByteArray), false)))) = some (r1, r2) := h
 clear h;replace H := bE H;obtain ⟨t163, A2, H⟩ := H;by_cases c3 : t163 = true
 ·subst c3;replace H := iT H;obtain ⟨y164, Ny164⟩ : ∃ y_ : List Int, Aside0 (y_ = (([] : List Int))) := ⟨_, ⟨rfl⟩⟩;rw [← Ny164.out] at H;have H' := Aside0.mk H;clear H;go_enter Try.func36, Try.ntmps36
  go_wp2_with (first|((with_reducible refine gF 52 ?_);refine goZ (some 6) Try.func52 #[.int .i64 a0, .int .i64 0, .int .i64 1000000000] ?_;(with_reducible refine (impl_within.calls a0 0 1000000000 true _ A2.out).mono ?_);rintro e w' ⟨rfl, ⟨nd, rfl⟩⟩;refine ⟨_, rfl, ?_⟩)|((with_reducible refine gN 8 ?_);refine Kd.R_lit (Kd.int .u8) _ 5 ?hg (N := 8) ?hd (xs := ([] : List Int)) (inner := []) (ok := fun _ => True) (okp := fun _ => True) ?hr ?hp (fun _ hk => hk) trivial (Below.refl _ _) (Nat.le_refl _) (by simp) ?_;(case hd => rfl);(case hg => rfl);(case hr => exact rG);(case hp => exact (Reps.none _ _));intro v165 w4 ho5 hb hg_ hnew_;clear hg_ hnew_;(first | rw [← Ny164.out] at ho5 | (simp only [Int.reduceToNat] at ho5; rw [← Ny164.out] at ho5));have HO166 := Aside0.mk (Kd.R_lower ho5 (below_size cB));replace HB := sB hb;clear hb ho5))
  go_loopg [0, 4] k (fun kq v0 v4 w' => ∃ (x0_1 : Int) (x4_1 : List Int), v0 = .int .i64 x0_1 ∧ Aside0 (impl_VarText.l0 kq x0_1 x4_1 = some (r1, r2)) ∧ Aside0 (kq ≤ k) ∧ Aside0 (Kd.R (Kd.int .u8) 5 w' w.heap.size (fun _ => True) v4 x4_1) ∧ Aside0 (Below w.heap.size w w'))
  case atStart => exact ⟨(a0), (y164), rS, H', ⟨Nat.le_refl _⟩, ⟨mR HO166⟩, ⟨cB⟩⟩
  case round =>
   clear H';(try clear c3);obtain ⟨x0_1, x4_1, rfl, HA, HK1, HO_4, HB⟩ := hrel
   cases gk with
   | zero => exact absurd HA.out (by simp [impl_VarText.l0])
   | succ k1 =>
    have H := HA.out;clear HA;simp only [impl_VarText.l0] at H;by_cases c6 : x0_1 > 127
    ·rw [if_pos c6] at H;have c6b0 : decide (127 < x0_1) = true := decide_eq_true c6;clear c6;replace H := gC H;obtain ⟨c7, H⟩ := H;have LMc7 := Aside0.mk c7;clear c7;obtain ⟨y167, Ny167⟩ : ∃ y_ : List Int, Aside0 (y_ = (x4_1 ++ [(Go.bits .or .i64 (Go.bits .and .i64 x0_1 127) 128) % 256])) := ⟨_, ⟨rfl⟩⟩;rw [← Ny167.out] at H;have H' := Aside0.mk H;clear H
     go_wp2_with (first|((with_reducible refine gA 11 16 ?_);at_builtin;refine Kd.R_append (Kd.int .u8) (w0 := w) w.heap.size rfl (.tmp 11) (.tmp 16) 65 5 (.int .u8 0) 1 rfl Try.underlying65 info5 rfl (by decide) (by omega) u4 x4_1 ((Go.bits .or .i64 (Go.bits .and .i64 x0_1 127) 128) % 256) [.int .u8 ((Go.bits .or .i64 (Go.bits .and .i64 x0_1 127) 128) % 256)] (fun _ => True) (fun _ => False) rfl rfl ?aP (fun _ hk => hk.elim) ?aF ?aO ?aB ?aS ?aL ?_;(case aP => exact rfl);(case aB => exact cB);(case aF => exact (fun _ _ => trivial));(case aO => exact (mR HO_4));(case aS => exact (below_size cB));(case aL => have := LMc7.out; omega);intro v168 w8 ho hb hg hat;rw [← Ny167.out] at ho;replace HB := Aside0.mk (hb);have HO169 := Aside0.mk (ho);clear HO_4 ho hb hg hat))
     go_roundg k1
     case measure => have := HK1.out; omega
     case rel => exact ⟨(x0_1 / 128), (y167), rS, H', ⟨by have := HK1.out; omega⟩, ⟨mR HO169⟩, ⟨cB⟩⟩
    ·rw [if_neg c6] at H;have c6b0 : decide (127 < x0_1) = false := decide_eq_false c6;clear c6;replace H := gC H;obtain ⟨c9, H⟩ := H;have LMc9 := Aside0.mk c9;clear c9;obtain ⟨y170, Ny170⟩ : ∃ y_ : List Int, Aside0 (y_ = (x4_1 ++ [(x0_1) % 256])) := ⟨_, ⟨rfl⟩⟩;rw [← Ny170.out] at H;simp only [Option.some.injEq, Prod.mk.injEq] at H;obtain ⟨rfl, rfl⟩ := H
     go_wp2_with (first|((with_reducible refine gA 20 23 ?_);at_builtin;refine Kd.R_append (Kd.int .u8) (w0 := w) w.heap.size rfl (.tmp 20) (.tmp 23) 65 5 (.int .u8 0) 1 rfl Try.underlying65 info5 rfl (by decide) (by omega) u4 x4_1 ((x0_1) % 256) [.int .u8 ((x0_1) % 256)] (fun _ => True) (fun _ => False) rfl rfl ?aP (fun _ hk => hk.elim) ?aF ?aO ?aB ?aS ?aL ?_;(case aP => exact rfl);(case aB => exact cB);(case aF => exact (fun _ _ => trivial));(case aO => exact (mR HO_4));(case aS => exact (below_size cB));(case aL => have := LMc9.out; omega);intro v171 w10 ho hb hg hat;rw [← Ny170.out] at ho;replace HB := Aside0.mk (hb);have HO172 := Aside0.mk (ho);clear HO_4 ho hb hg hat;have hcv11 := own_string (P := Try.prog) Try.underlying65 Try.underlying5 Try.underlying9 (Kd.own_of_R HO172.out)))
     go_ret2;exact ⟨rE, cB⟩
 ·replace c3 := Bool.eq_false_iff.mpr c3;subst c3;replace H := iF H;simp only [Option.some.injEq, Prod.mk.injEq] at H;obtain ⟨rfl, rfl⟩ := H;go_enter Try.func36, Try.ntmps36
  go_wp2_with (first|((with_reducible refine gF 52 ?_);refine goZ (some 6) Try.func52 #[.int .i64 a0, .int .i64 0, .int .i64 1000000000] ?_;(with_reducible refine (impl_within.calls a0 0 1000000000 false _ A2.out).mono ?_);rintro e w' ⟨rfl, ⟨nd, rfl⟩⟩;refine ⟨_, rfl, ?_⟩))
  go_ret2;exact ⟨rE, cB⟩
def impl_four.f (a0 : Int) : Option (ByteArray) := some (strOfNums (([(a0 / 16777216) % 256, (a0 / 65536) % 256, (a0 / 256) % 256, (a0) % 256] : List Int)))
set_option maxHeartbeats 8000000 in
set_option maxRecDepth 100000 in
theorem impl_four.calls (a0 : Int) (r : ByteArray) (w : World) (h : impl_four.f a0 = some r) :
 Calls Try.prog 38 #[.int .i64 a0] w fun e w' => e = .returned (.string r) ∧ Below w.heap.size w w' := by
 have HB := Aside0.mk (Below.refl w.heap.size w);have H : (some (strOfNums (([(a0 / 16777216) % 256, (a0 / 65536) % 256, (a0 / 256) % 256, (a0) % 256] : List Int)))) = some r := h;clear h;obtain ⟨y173, Ny173⟩ : ∃ y_ : List Int, Aside0 (y_ = (([(a0 / 16777216) % 256, (a0 / 65536) % 256, (a0 / 256) % 256, (a0) % 256] : List Int))) := ⟨_, ⟨rfl⟩⟩;rw [← Ny173.out] at H;obtain rfl := Option.some.inj H;go_enter Try.func38, Try.ntmps38
 go_wp2_with (first|((with_reducible refine gN 14 ?_);refine Kd.R_lit (Kd.int .u8) _ 5 ?hg (N := 14) ?hd (xs := ([(a0 / 16777216) % 256, (a0 / 65536) % 256, (a0 / 256) % 256, (a0) % 256] : List Int)) (inner := [.int .u8 ((a0 / 16777216) % 256), .int .u8 ((a0 / 65536) % 256), .int .u8 ((a0 / 256) % 256), .int .u8 ((a0) % 256)]) (ok := fun _ => True) (okp := fun _ => True) ?hr ?hp (fun _ hk => hk) trivial (Below.refl _ _) (Nat.le_refl _) (by simp) ?_;(case hd => rfl);(case hg => rfl);(case hr => exact rG);(case hp => exact (Reps.one (show Kd.M (Kd.int .u8) _ _ _ ((a0 / 16777216) % 256) [.int .u8 ((a0 / 16777216) % 256)] from rfl) (Reps.one (show Kd.M (Kd.int .u8) _ _ _ ((a0 / 65536) % 256) [.int .u8 ((a0 / 65536) % 256)] from rfl) (Reps.one (show Kd.M (Kd.int .u8) _ _ _ ((a0 / 256) % 256) [.int .u8 ((a0 / 256) % 256)] from rfl) (Reps.one (show Kd.M (Kd.int .u8) _ _ _ ((a0) % 256) [.int .u8 ((a0) % 256)] from rfl) (Reps.none _ _))))));intro v174 w2 ho3 hb hg_ hnew_;clear hg_ hnew_;(first | rw [← Ny173.out] at ho3 | (simp only [Int.reduceToNat] at ho3; rw [← Ny173.out] at ho3));have HO175 := Aside0.mk (Kd.R_lower ho3 (below_size cB));replace HB := sB hb;clear hb ho3;have hcv4 := own_string (P := Try.prog) Try.underlying65 Try.underlying5 Try.underlying9 (Kd.own_of_R HO175.out)))
 go_ret;exact ⟨rE, cB⟩
mutual
def impl_SumMore.l0 : Nat → Int → ByteArray → Int → Option (Int)
  | 0, _, _, _ => none
  | k + 1, x0, x1, x5 => if x5 < (x1.size : Int) then (if 0 ≤ x5 then (impl_SumMore.l1 k (Go.bits .xor .u32 x0 ((bt x1 x5) % 4294967296)) x1 x5 0) else (none)) else (some x0)
def impl_SumMore.l1 : Nat → Int → ByteArray → Int → Int → Option (Int)
  | 0, _, _, _, _ => none
  | k + 1, x0, x1, x5, x19 => if x19 < 8 then (if (Go.bits .and .u32 x0 1) = 1 then (impl_SumMore.l1 k (Go.bits .xor .u32 (x0 / 2) 3558460437) x1 x5 (wrap64 (x19 + 1))) else (impl_SumMore.l1 k (x0 / 2) x1 x5 (wrap64 (x19 + 1)))) else (impl_SumMore.l0 k x0 x1 (wrap64 (x5 + 1)))
end
def impl_SumMore.f (k : Nat) (a0 : Int) (a1 : ByteArray) : Option (Int) := impl_SumMore.l0 k a0 a1 0
set_option maxHeartbeats 8000000 in
set_option maxRecDepth 100000 in
theorem impl_SumMore.calls (k : Nat) (a0 : Int) (a1 : ByteArray) (r : Int) (w : World) (h : impl_SumMore.f k a0 a1 = some r) :
 Calls Try.prog 58 #[.int .u32 a0, .string a1] w fun e w' => e = .returned (.int .u32 r) ∧ Drawn0 w w' := by
 have H : (impl_SumMore.l0 k a0 a1 0) = some r := h;clear h;have H' := Aside0.mk H;clear H;go_enter Try.func58, Try.ntmps58;go_wp2
 go_loopg [0, 5] k (fun kq v0 v5 w' => ∃ (x0_1 : Int) (x5_1 : Int), v0 = .int .u32 x0_1 ∧ v5 = .int .i64 x5_1 ∧ Aside0 (impl_SumMore.l0 kq x0_1 a1 x5_1 = some r) ∧ Aside0 (kq ≤ k) ∧ Drawn0 w w')
 case atStart => exact ⟨(a0), (0), rS, rS, H', ⟨Nat.le_refl _⟩, by repeat (first | exact Drawn0.refl _ | apply Drawn0.step)⟩
 case round =>
  clear H';obtain ⟨x0_1, x5_1, rfl, rfl, HA, HK1, ⟨m1, rfl⟩⟩ := hrel
  cases gk with
  | zero => exact absurd HA.out (by simp [impl_SumMore.l0])
  | succ k1 =>
   have H := HA.out;clear HA;simp only [impl_SumMore.l0] at H;by_cases c3 : x5_1 < (a1.size : Int)
   ·rw [if_pos c3] at H;have c3b0 := decide_eq_true c3;clear c3;replace H := gD H;obtain ⟨c4b0, H⟩ := H;have H' := Aside0.mk H;clear H;have p5 : 0 ≤ (x5_1 : Int) := dA;have q5 : x5_1 < (a1.size : Int) := dA;have hx5 := bt_at a1 x5_1;replace p5 := eq_true p5;replace q5 := eq_true q5;go_wp2
    go_loopg [0, 19] k1 (fun kq v0 v19 w' => ∃ (x0_2 : Int) (x19_2 : Int), v0 = .int .u32 x0_2 ∧ v19 = .int .i64 x19_2 ∧ Aside0 (impl_SumMore.l1 kq x0_2 a1 x5_1 x19_2 = some r) ∧ Aside0 (kq ≤ k1) ∧ Drawn0 w w')
    case atStart => exact ⟨(Go.bits .xor .u32 x0_1 ((bt a1 x5_1) % 4294967296)), (0), rS, rS, H', ⟨Nat.le_refl _⟩, by repeat (first | exact Drawn0.refl _ | apply Drawn0.step)⟩
    case round =>
     clear H';(try clear c3);(try clear c3b0);(try clear c4);(try clear c4b0);(try clear p5);(try clear q5);(try clear hx5);obtain ⟨x0_2, x19_2, rfl, rfl, HA, HK2, ⟨m2, rfl⟩⟩ := hrel
     cases gk with
     | zero => exact absurd HA.out (by simp [impl_SumMore.l1])
     | succ k2 =>
      have H := HA.out;clear HA;simp only [impl_SumMore.l1] at H;by_cases c6 : x19_2 < 8
      ·rw [if_pos c6] at H;have c6b0 := decide_eq_true c6;clear c6;by_cases c7 : (Go.bits .and .u32 x0_2 1) = 1
       ·rw [if_pos c7] at H;obtain ⟨c7b0, c7b1⟩ := eT c7;clear c7;have H' := Aside0.mk H;clear H;go_wp2;go_roundg k2
        case measure => have := HK1.out; have := HK2.out; omega
        case rel => exact ⟨(Go.bits .xor .u32 (x0_2 / 2) 3558460437), (wrap64 (x19_2 + 1)), rS, rS, H', ⟨by have := HK1.out; have := HK2.out; omega⟩, by repeat (first | exact Drawn0.refl _ | apply Drawn0.step)⟩
       ·rw [if_neg c7] at H;obtain ⟨c7b0, c7b1⟩ := eF c7;have H' := Aside0.mk H;clear H;go_wp2;go_roundg k2
        case measure => have := HK1.out; have := HK2.out; omega
        case rel => exact ⟨(x0_2 / 2), (wrap64 (x19_2 + 1)), rS, rS, H', ⟨by have := HK1.out; have := HK2.out; omega⟩, by repeat (first | exact Drawn0.refl _ | apply Drawn0.step)⟩
      ·rw [if_neg c6] at H;have c6b0 := decide_eq_false c6;clear c6;have H' := Aside0.mk H;clear H;go_wp2;go_roundg k2
       case measure => have := HK1.out; have := HK2.out; omega
       case rel => exact ⟨(x0_2), (wrap64 (x5_1 + 1)), rS, rS, H', ⟨by have := HK1.out; have := HK2.out; omega⟩, by repeat (first | exact Drawn0.refl _ | apply Drawn0.step)⟩
   ·rw [if_neg c3] at H;have c3b0 := decide_eq_false c3;clear c3;obtain rfl := Option.some.inj H;go_wp2;go_ret
    exact ⟨by first | rfl | (simp; done) | (simp [*]; done), by repeat (first | exact Drawn0.refl _ | apply Drawn0.step)⟩
def impl_SumOf.f (k : Nat) (a0 : ByteArray) : Option (Int) := (impl_SumMore.f k 4294967295 a0).bind fun t176 => (some t176)
set_option maxHeartbeats 8000000 in
set_option maxRecDepth 100000 in
theorem impl_SumOf.calls (k : Nat) (a0 : ByteArray) (r : Int) (w : World) (h : impl_SumOf.f k a0 = some r) :
 Calls Try.prog 54 #[.string a0] w fun e w' => e = .returned (.int .u32 r) ∧ Drawn0 w w' := by
 have H : ((impl_SumMore.f k 4294967295 a0).bind fun t176 => (some t176)) = some r := h
 clear h;replace H := bE H;obtain ⟨t176, A2, H⟩ := H;obtain rfl := Option.some.inj H;go_enter Try.func54, Try.ntmps54
 go_wp2_with (first|((with_reducible refine gF 58 ?_);refine goZ (some 4) Try.func58 #[.int .u32 4294967295, .string a0] ?_;(with_reducible refine (impl_SumMore.calls k 4294967295 a0 t176 _ A2.out).mono ?_);rintro e w' ⟨rfl, ⟨nd, rfl⟩⟩;refine ⟨_, rfl, ?_⟩))
 go_ret
 exact ⟨by first | rfl | (simp; done) | (simp [*]; done), by repeat (first | exact Drawn0.refl _ | apply Drawn0.step)⟩
def impl_Sealed.f (k : Nat) (a0 : ByteArray) : Option (ByteArray × Bool) := if (a0.size : Int) > 20000 then (some ((⟨#[]⟩ : ByteArray), false)) else ((impl_SumOf.f k a0).bind fun t177 => ((impl_four.f (wrap64 (t177))).bind fun t178 => (if a0.size + t178.size ≤ 9223372036854775807 then (some (a0 ++ t178, true)) else (none))))
set_option maxHeartbeats 8000000 in
set_option maxRecDepth 100000 in
theorem impl_Sealed.calls (k : Nat) (a0 : ByteArray) (r1 : ByteArray) (r2 : Bool) (w : World) (h : impl_Sealed.f k a0 = some (r1, r2)) :
 Calls Try.prog 37 #[.string a0] w fun e w' => e = .returned (.tuple #[.string r1, .bool r2]) ∧ Below w.heap.size w w' := by
 have HB := Aside0.mk (Below.refl w.heap.size w)
 have H : (if (a0.size : Int) > 20000 then (some ((⟨#[]⟩ : ByteArray), false)) else ((impl_SumOf.f k a0).bind fun t177 => ((impl_four.f (wrap64 (t177))).bind fun t178 => (if a0.size + t178.size ≤ 9223372036854775807 then (some (a0 ++ t178, true)) else (none))))) = some (r1, r2) := h
 clear h;by_cases c2 : (a0.size : Int) > 20000
 ·rw [if_pos c2] at H;have c2b0 : decide (20000 < (a0.size : Int)) = true := decide_eq_true c2
  have c2b1 : decide (20000 < a0.size) = true := decide_eq_true (by omega)
  clear c2;simp only [Option.some.injEq, Prod.mk.injEq] at H;obtain ⟨rfl, rfl⟩ := H;go_enter Try.func37, Try.ntmps37;go_wp2;go_ret2;exact ⟨rE, cB⟩
 ·rw [if_neg c2] at H;have c2b0 : decide (20000 < (a0.size : Int)) = false := decide_eq_false c2
  have c2b1 : decide (20000 < a0.size) = false := decide_eq_false (by omega)
  clear c2;replace H := bE H;obtain ⟨t177, A3, H⟩ := H;replace H := bE H;obtain ⟨t178, A4, H⟩ := H;replace H := gC H;obtain ⟨c5, H⟩ := H;have c5b0 := eq_true c5;have c5b1 : decide (a0.size + t178.size ≤ 9223372036854775807) = true := decide_eq_true c5
  try have c5b2 : (9223372036854775807 < a0.size + t178.size) = False := eq_false (Nat.not_lt.2 c5)
  simp only [Option.some.injEq, Prod.mk.injEq] at H;obtain ⟨rfl, rfl⟩ := H;go_enter Try.func37, Try.ntmps37
  go_wp2_with (first|((with_reducible refine gF 54 ?_);refine goZ (some 9) Try.func54 #[.string a0] ?_;(with_reducible refine (impl_SumOf.calls k a0 t177 _ A3.out).mono ?_);rintro e w' ⟨rfl, ⟨nd, rfl⟩⟩;refine ⟨_, rfl, ?_⟩)|((with_reducible refine gF 38 ?_);refine goZ (some 11) Try.func38 #[.int .i64 (wrap64 (t177))] ?_;(with_reducible refine (impl_four.calls (wrap64 (t177)) t178 _ A4.out).mono ?_);rintro e w6 ⟨rfl, hb⟩;refine ⟨_, rfl, ?_⟩;replace HB := sB hb;(try clear hb)))
  go_ret2;exact ⟨rE, cB⟩
end Go.Proofs.Ytgpmmmidplkhnaa.PFnExactFrameText
