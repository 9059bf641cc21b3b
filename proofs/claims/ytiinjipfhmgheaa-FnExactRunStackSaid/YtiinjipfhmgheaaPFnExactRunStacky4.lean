import Derived.Test.YtiinjipfhmgheaaPFnExactRunStacky0
import Derived.Test.YtiinjipfhmgheaaPFnExactRunStacky3
namespace Go.Proofs.Ytiinjipfhmgheaa.PFnExactRunStack
open Go.RowKit Go.Proofs.YtiinjipfhmgheaaW.PrintWords Go.Proofs.YtiinjipfhmgheaaW.PrintLast Go.Proofs.YtiinjipfhmgheaaW.PrintMore Go.Proofs.YtiinjipfhmgheaaW.Z
attribute [local go_sem] max2_int min2_int max_two min_two max_three min_three max_four min_four
set_option linter.unusedVariables false
set_option linter.unusedSimpArgs false
mutual
def spec_InsOk.j0 : Nat → Bool → Int → Int → Int → Int → Option (Bool)
  | 0, _, _, _, _, _ => none
  | k + 1, x24, x160000, x160001, x160002, x160003 => if x24 = true then (some false) else ((spec_l06Ask.f x160000).bind fun t164 => (if t164 = true then (spec_InsOk.j1 k false x160000 x160001 x160002 x160003) else (if x160002 = 0 then (spec_InsOk.j1 k (x160003 != 0) x160000 x160001 x160002 x160003) else (spec_InsOk.j1 k true x160000 x160001 x160002 x160003))))
def spec_InsOk.j1 : Nat → Bool → Int → Int → Int → Int → Option (Bool)
  | 0, _, _, _, _, _ => none
  | k + 1, x38, x160000, x160001, x160002, x160003 => if x38 = true then (some false) else (if x160000 = 1 then (some (decide (x160001 < 8))) else (if x160000 = 7 then (some (decide (x160001 < 400))) else (some true)))
end
def spec_InsOk.f (k : Nat) (a0_0 : Int) (a0_1 : Int) (a0_2 : Int) (a0_3 : Int) : Option (Bool) := (spec_l01In.f a0_0 1 8).bind fun t160 => (if t160 = true then ((spec_HalfOk.f a0_1).bind fun t161 => (if t161 = true then ((spec_l01In.f a0_2 0 15).bind fun t162 => (if t162 = true then ((spec_l01In.f a0_3 0 15).bind fun t163 => (spec_InsOk.j0 k (!t163) a0_0 a0_1 a0_2 a0_3)) else (spec_InsOk.j0 k true a0_0 a0_1 a0_2 a0_3))) else (spec_InsOk.j0 k true a0_0 a0_1 a0_2 a0_3))) else (spec_InsOk.j0 k true a0_0 a0_1 a0_2 a0_3))
set_option maxHeartbeats 8000000 in
set_option maxRecDepth 100000 in
theorem spec_InsOk.calls (k : Nat) (a0_0 : Int) (a0_1 : Int) (a0_2 : Int) (a0_3 : Int) (r : Bool) (w : World) (h : spec_InsOk.f k a0_0 a0_1 a0_2 a0_3 = some r) :
 Calls Try.prog 136 #[.agg #[.int .i64 a0_0, .int .i64 a0_1, .int .i64 a0_2, .int .i64 a0_3]] w fun e w' => e = .returned (.bool r) ∧ Below w.heap.size w w' := by
 have hu118 := Try.underlying118;have HB := Aside0.mk (Below.refl w.heap.size w)
 have H : ((spec_l01In.f a0_0 1 8).bind fun t160 => (if t160 = true then ((spec_HalfOk.f a0_1).bind fun t161 => (if t161 = true then ((spec_l01In.f a0_2 0 15).bind fun t162 => (if t162 = true then ((spec_l01In.f a0_3 0 15).bind fun t163 => (spec_InsOk.j0 k (!t163) a0_0 a0_1 a0_2 a0_3)) else (spec_InsOk.j0 k true a0_0 a0_1 a0_2 a0_3))) else (spec_InsOk.j0 k true a0_0 a0_1 a0_2 a0_3))) else (spec_InsOk.j0 k true a0_0 a0_1 a0_2 a0_3))) = some r := h
 clear h;have HC2 := Aside0.mk H;clear H;go_enter Try.func136, Try.ntmps136
 go_upto_region 1 with (first|((with_reducible refine gN 1 ?_);refine boxZ 1 #[.int .i64 a0_0, .int .i64 a0_1, .int .i64 a0_2, .int .i64 a0_3] 118 ?_;intro gb159 hg w3 hbox hb;have BK159 := Aside0.mk (hbox);have GW159 := gS hg;have GE159 := gS hg;replace HB := sB hb;clear hb hbox hg))
 (try simp only [Act.put, List.setIfInBounds_toArray, List.set_cons_zero, List.set_cons_succ])
 go_cut [24] (fun v24 wc => ∃ (kq : Nat) (x24_1 : Bool), v24 = .bool x24_1 ∧ Aside0 (spec_InsOk.j0 kq x24_1 a0_0 a0_1 a0_2 a0_3 = some r) ∧ Aside0 (kq ≤ k) ∧ Aside0 (wc.heap[gb159]? = some (.cells #[.int .i64 a0_0, .int .i64 a0_1, .int .i64 a0_2, .int .i64 a0_3] 118 (0, 0))) ∧ Aside0 (Below w.heap.size w wc))
 case first =>
  have H := HC2.out;clear HC2;replace H := bE H;obtain ⟨t160, A4, H⟩ := H;by_cases c5 : t160 = true
  ·subst c5;replace H := iT H;replace H := bE H;obtain ⟨t161, A6, H⟩ := H;by_cases c7 : t161 = true
   ·subst c7;replace H := iT H;replace H := bE H;obtain ⟨t162, A8, H⟩ := H;by_cases c9 : t162 = true
    ·subst c9;replace H := iT H;replace H := bE H;obtain ⟨t163, A10, H⟩ := H;have H' := Aside0.mk H;clear H;obtain ⟨hcz11_0, hcz11_1, hcz11_2, hcz11_3, hfz11_0, hfz11_1, hfz11_2, hfz11_3⟩ := cz4 BK159
     go_wp2_with (first|((with_reducible refine gF 93 ?_);refine goZ (some 5) Try.func93 #[.int .i64 a0_0, .int .i64 1, .int .i64 8] ?_;(with_reducible refine (spec_l01In.calls a0_0 1 8 true _ A4.out).mono ?_);rintro e w' ⟨rfl, ⟨nd, rfl⟩⟩;refine ⟨_, rfl, ?_⟩)|(go_at_call 101;(with_reducible refine (spec_HalfOk.calls a0_1 true _ A6.out).mono ?_);rintro e w' ⟨rfl, ⟨nd, rfl⟩⟩)|(go_at_call 93;(with_reducible refine (spec_l01In.calls a0_2 0 15 true _ A8.out).mono ?_);rintro e w' ⟨rfl, ⟨nd, rfl⟩⟩)|(go_at_call 93;(with_reducible refine (spec_l01In.calls a0_3 0 15 t163 _ A10.out).mono ?_);rintro e w' ⟨rfl, ⟨nd, rfl⟩⟩))
     go_meet
     case rel => exact ⟨_, (!t163), rS, H', ⟨oL⟩, ⟨mK BK159⟩, ⟨cB⟩⟩
    ·replace c9 := Bool.eq_false_iff.mpr c9;subst c9;replace H := iF H;have H' := Aside0.mk H;clear H;obtain ⟨hcz12_0, hcz12_1, hcz12_2, hcz12_3, hfz12_0, hfz12_1, hfz12_2, hfz12_3⟩ := cz4 BK159
     go_wp2_with (first|((with_reducible refine gF 93 ?_);refine goZ (some 5) Try.func93 #[.int .i64 a0_0, .int .i64 1, .int .i64 8] ?_;(with_reducible refine (spec_l01In.calls a0_0 1 8 true _ A4.out).mono ?_);rintro e w' ⟨rfl, ⟨nd, rfl⟩⟩;refine ⟨_, rfl, ?_⟩)|(go_at_call 101;(with_reducible refine (spec_HalfOk.calls a0_1 true _ A6.out).mono ?_);rintro e w' ⟨rfl, ⟨nd, rfl⟩⟩)|(go_at_call 93;(with_reducible refine (spec_l01In.calls a0_2 0 15 false _ A8.out).mono ?_);rintro e w' ⟨rfl, ⟨nd, rfl⟩⟩))
     go_meet
     case rel => exact ⟨_, (true), rS, H', ⟨oL⟩, ⟨mK BK159⟩, ⟨cB⟩⟩
   ·replace c7 := Bool.eq_false_iff.mpr c7;subst c7;replace H := iF H;have H' := Aside0.mk H;clear H;obtain ⟨hcz13_0, hcz13_1, hcz13_2, hcz13_3, hfz13_0, hfz13_1, hfz13_2, hfz13_3⟩ := cz4 BK159
    go_wp2_with (first|((with_reducible refine gF 93 ?_);refine goZ (some 5) Try.func93 #[.int .i64 a0_0, .int .i64 1, .int .i64 8] ?_;(with_reducible refine (spec_l01In.calls a0_0 1 8 true _ A4.out).mono ?_);rintro e w' ⟨rfl, ⟨nd, rfl⟩⟩;refine ⟨_, rfl, ?_⟩)|(go_at_call 101;(with_reducible refine (spec_HalfOk.calls a0_1 false _ A6.out).mono ?_);rintro e w' ⟨rfl, ⟨nd, rfl⟩⟩))
    go_meet
    case rel => exact ⟨_, (true), rS, H', ⟨oL⟩, ⟨mK BK159⟩, ⟨cB⟩⟩
  ·replace c5 := Bool.eq_false_iff.mpr c5;subst c5;replace H := iF H;have H' := Aside0.mk H;clear H;obtain ⟨hcz14_0, hcz14_1, hcz14_2, hcz14_3, hfz14_0, hfz14_1, hfz14_2, hfz14_3⟩ := cz4 BK159
   go_wp2_with (first|((with_reducible refine gF 93 ?_);refine goZ (some 5) Try.func93 #[.int .i64 a0_0, .int .i64 1, .int .i64 8] ?_;(with_reducible refine (spec_l01In.calls a0_0 1 8 false _ A4.out).mono ?_);rintro e w' ⟨rfl, ⟨nd, rfl⟩⟩;refine ⟨_, rfl, ?_⟩))
   go_meet
   case rel => exact ⟨_, (true), rS, H', ⟨oL⟩, ⟨mK BK159⟩, ⟨cB⟩⟩
 case rest =>
  clear HC2;(try clear c5);(try clear c7);(try clear c9);(try clear hcz11_0);(try clear hcz11_1);(try clear hcz11_2);(try clear hcz11_3);(try clear hcz12_0);(try clear hcz12_1);(try clear hcz12_2);(try clear hcz12_3);(try clear hcz13_0);(try clear hcz13_1);(try clear hcz13_2);(try clear hcz13_3);(try clear hcz14_0);(try clear hcz14_1);(try clear hcz14_2);(try clear hcz14_3);(try clear hfz11_0);(try clear hfz11_1);(try clear hfz11_2);(try clear hfz11_3);(try clear hfz12_0);(try clear hfz12_1);(try clear hfz12_2);(try clear hfz12_3);(try clear hfz13_0);(try clear hfz13_1);(try clear hfz13_2);(try clear hfz13_3);(try clear hfz14_0);(try clear hfz14_1);(try clear hfz14_2);(try clear hfz14_3);obtain ⟨kq, x24_1, rfl, HA, HJ1, BK159, HB⟩ := hcut
  cases kq with
  | zero => exact absurd HA.out (by simp [spec_InsOk.j0])
  | succ kj1 =>
   have H := HA.out;clear HA;simp only [spec_InsOk.j0] at H;by_cases c15 : x24_1 = true
   ·subst c15;replace H := iT H;obtain rfl := Option.some.inj H;go_wp2;go_ret;exact ⟨rE, cB⟩
   ·replace c15 := Bool.eq_false_iff.mpr c15;subst c15;replace H := iF H;have HC16 := Aside0.mk H;clear H
    go_upto_region 3 with (fail)
    go_cut [38] (fun v38 wc => ∃ (kq : Nat) (x38_15 : Bool), v38 = .bool x38_15 ∧ Aside0 (spec_InsOk.j1 kq x38_15 a0_0 a0_1 a0_2 a0_3 = some r) ∧ Aside0 (kq ≤ kj1) ∧ Aside0 (wc.heap[gb159]? = some (.cells #[.int .i64 a0_0, .int .i64 a0_1, .int .i64 a0_2, .int .i64 a0_3] 118 (0, 0))) ∧ Aside0 (Below w.heap.size w wc))
    case first =>
     have H := HC16.out;clear HC16;replace H := bE H;obtain ⟨t164, A17, H⟩ := H;by_cases c18 : t164 = true
     ·subst c18;replace H := iT H;have H' := Aside0.mk H;clear H;obtain ⟨hcz19_0, hcz19_1, hcz19_2, hcz19_3, hfz19_0, hfz19_1, hfz19_2, hfz19_3⟩ := cz4 BK159
      go_wp2_with (first|((with_reducible refine gF 119 ?_);refine goZ (some 27) Try.func119 #[.int .i64 a0_0] ?_;(with_reducible refine (spec_l06Ask.calls a0_0 true _ A17.out).mono ?_);rintro e w' ⟨rfl, ⟨nd, rfl⟩⟩;refine ⟨_, rfl, ?_⟩))
      go_meet
      case rel => exact ⟨_, (false), rS, H', ⟨by have := HJ1.out; first | omega | exact Nat.le_refl _⟩, ⟨mK BK159⟩, ⟨cB⟩⟩
     ·replace c18 := Bool.eq_false_iff.mpr c18;subst c18;replace H := iF H;by_cases c20 : a0_2 = 0
      ·rw [if_pos c20] at H;obtain ⟨c20b0, c20b1⟩ := eT c20;clear c20
       (first | rw [c20b0] | (simp only [i64_w, i32_w]; rw [c20b0]) | skip)
       have H' := Aside0.mk H;clear H;obtain ⟨hcz21_0, hcz21_1, hcz21_2, hcz21_3, hfz21_0, hfz21_1, hfz21_2, hfz21_3⟩ := cz4 BK159
       go_wp2_with (first|((with_reducible refine gF 119 ?_);refine goZ (some 27) Try.func119 #[.int .i64 a0_0] ?_;(with_reducible refine (spec_l06Ask.calls a0_0 false _ A17.out).mono ?_);rintro e w' ⟨rfl, ⟨nd, rfl⟩⟩;refine ⟨_, rfl, ?_⟩))
       go_meet
       case rel => exact ⟨_, ((a0_3 != 0)), rS, H', ⟨by have := HJ1.out; first | omega | exact Nat.le_refl _⟩, ⟨mK BK159⟩, ⟨cB⟩⟩
      ·rw [if_neg c20] at H;obtain ⟨c20b0, c20b1⟩ := eF c20
       (first | rw [c20b0] | (simp only [i64_w, i32_w]; rw [c20b0]) | skip)
       have H' := Aside0.mk H;clear H;obtain ⟨hcz22_0, hcz22_1, hcz22_2, hcz22_3, hfz22_0, hfz22_1, hfz22_2, hfz22_3⟩ := cz4 BK159
       go_wp2_with (first|((with_reducible refine gF 119 ?_);refine goZ (some 27) Try.func119 #[.int .i64 a0_0] ?_;(with_reducible refine (spec_l06Ask.calls a0_0 false _ A17.out).mono ?_);rintro e w' ⟨rfl, ⟨nd, rfl⟩⟩;refine ⟨_, rfl, ?_⟩))
       go_meet
       case rel => exact ⟨_, (true), rS, H', ⟨by have := HJ1.out; first | omega | exact Nat.le_refl _⟩, ⟨mK BK159⟩, ⟨cB⟩⟩
    case rest =>
     clear HC16;(try clear c5);(try clear c7);(try clear c9);(try clear c15);(try clear c18);(try clear c20);(try clear c20b0);(try clear c20b1);(try clear hcz11_0);(try clear hcz11_1);(try clear hcz11_2);(try clear hcz11_3);(try clear hcz12_0);(try clear hcz12_1);(try clear hcz12_2);(try clear hcz12_3);(try clear hcz13_0);(try clear hcz13_1);(try clear hcz13_2);(try clear hcz13_3);(try clear hcz14_0);(try clear hcz14_1);(try clear hcz14_2);(try clear hcz14_3);(try clear hcz19_0);(try clear hcz19_1);(try clear hcz19_2);(try clear hcz19_3);(try clear hcz21_0);(try clear hcz21_1);(try clear hcz21_2);(try clear hcz21_3);(try clear hcz22_0);(try clear hcz22_1);(try clear hcz22_2);(try clear hcz22_3);(try clear hfz11_0);(try clear hfz11_1);(try clear hfz11_2);(try clear hfz11_3);(try clear hfz12_0);(try clear hfz12_1);(try clear hfz12_2);(try clear hfz12_3);(try clear hfz13_0);(try clear hfz13_1);(try clear hfz13_2);(try clear hfz13_3);(try clear hfz14_0);(try clear hfz14_1);(try clear hfz14_2);(try clear hfz14_3);(try clear hfz19_0);(try clear hfz19_1);(try clear hfz19_2);(try clear hfz19_3);(try clear hfz21_0);(try clear hfz21_1);(try clear hfz21_2);(try clear hfz21_3);(try clear hfz22_0);(try clear hfz22_1);(try clear hfz22_2);(try clear hfz22_3);obtain ⟨kq, x38_15, rfl, HA, HJ15, BK159, HB⟩ := hcut
     cases kq with
     | zero => exact absurd HA.out (by simp [spec_InsOk.j1])
     | succ kj15 =>
      have H := HA.out;clear HA;simp only [spec_InsOk.j1] at H;by_cases c23 : x38_15 = true
      ·subst c23;replace H := iT H;obtain rfl := Option.some.inj H;go_wp2;go_ret;exact ⟨rE, cB⟩
      ·replace c23 := Bool.eq_false_iff.mpr c23;subst c23;replace H := iF H;by_cases c24 : a0_0 = 1
       ·rw [if_pos c24] at H;obtain ⟨c24b0, c24b1⟩ := eT c24;clear c24;obtain rfl := Option.some.inj H;obtain ⟨hcz25_0, hcz25_1, hcz25_2, hcz25_3, hfz25_0, hfz25_1, hfz25_2, hfz25_3⟩ := cz4 BK159;go_wp2;go_ret;exact ⟨rE, cB⟩
       ·rw [if_neg c24] at H;obtain ⟨c24b0, c24b1⟩ := eF c24;by_cases c26 : a0_0 = 7
        ·rw [if_pos c26] at H;obtain ⟨c26b0, c26b1⟩ := eT c26;clear c26;obtain rfl := Option.some.inj H;obtain ⟨hcz27_0, hcz27_1, hcz27_2, hcz27_3, hfz27_0, hfz27_1, hfz27_2, hfz27_3⟩ := cz4 BK159;go_wp2;go_ret;exact ⟨rE, cB⟩
        ·rw [if_neg c26] at H;obtain ⟨c26b0, c26b1⟩ := eF c26;obtain rfl := Option.some.inj H;obtain ⟨hcz28_0, hcz28_1, hcz28_2, hcz28_3, hfz28_0, hfz28_1, hfz28_2, hfz28_3⟩ := cz4 BK159;go_wp2;go_ret;exact ⟨rE, cB⟩
def spec_l07Far.f (a0_0 : Int) (a0_1 : Int) (a0_2 : Int) (a0_3 : Int) : Option (Int) := if a0_0 = 7 then (some a0_1) else (if a0_2 > a0_3 then (some a0_2) else (some a0_3))
set_option maxHeartbeats 8000000 in
set_option maxRecDepth 100000 in
theorem spec_l07Far.calls (a0_0 : Int) (a0_1 : Int) (a0_2 : Int) (a0_3 : Int) (r : Int) (w : World) (h : spec_l07Far.f a0_0 a0_1 a0_2 a0_3 = some r) :
 Calls Try.prog 137 #[.agg #[.int .i64 a0_0, .int .i64 a0_1, .int .i64 a0_2, .int .i64 a0_3]] w fun e w' => e = .returned (.int .i64 r) ∧ Below w.heap.size w w' := by
 have hu118 := Try.underlying118;have HB := Aside0.mk (Below.refl w.heap.size w);have H : (if a0_0 = 7 then (some a0_1) else (if a0_2 > a0_3 then (some a0_2) else (some a0_3))) = some r := h;clear h;by_cases c2 : a0_0 = 7
 ·rw [if_pos c2] at H;obtain ⟨c2b0, c2b1⟩ := eT c2;clear c2;obtain rfl := Option.some.inj H;go_enter Try.func137, Try.ntmps137
  go_wp2_with (first|((with_reducible refine gN 1 ?_);refine boxZ 1 #[.int .i64 a0_0, .int .i64 a0_1, .int .i64 a0_2, .int .i64 a0_3] 118 ?_;intro gb165 hg w3 hbox hb;have BK165 := Aside0.mk (hbox);have GW165 := gS hg;have GE165 := gS hg;replace HB := sB hb;clear hb hbox hg;obtain ⟨hcz4_0, hcz4_1, hcz4_2, hcz4_3, hfz4_0, hfz4_1, hfz4_2, hfz4_3⟩ := cz4 BK165))
  go_ret;exact ⟨rE, cB⟩
 ·rw [if_neg c2] at H;obtain ⟨c2b0, c2b1⟩ := eF c2;by_cases c5 : a0_2 > a0_3
  ·rw [if_pos c5] at H;have c5b0 : decide (a0_3 < a0_2) = true := decide_eq_true c5;clear c5;obtain rfl := Option.some.inj H;go_enter Try.func137, Try.ntmps137
   go_wp2_with (first|((with_reducible refine gN 1 ?_);refine boxZ 1 #[.int .i64 a0_0, .int .i64 a0_1, .int .i64 a0_2, .int .i64 a0_3] 118 ?_;intro gb165 hg w6 hbox hb;have BK165 := Aside0.mk (hbox);have GW165 := gS hg;have GE165 := gS hg;replace HB := sB hb;clear hb hbox hg;obtain ⟨hcz7_0, hcz7_1, hcz7_2, hcz7_3, hfz7_0, hfz7_1, hfz7_2, hfz7_3⟩ := cz4 BK165))
   go_ret;exact ⟨rE, cB⟩
  ·rw [if_neg c5] at H;have c5b0 : decide (a0_3 < a0_2) = false := decide_eq_false c5;clear c5;obtain rfl := Option.some.inj H;go_enter Try.func137, Try.ntmps137
   go_wp2_with (first|((with_reducible refine gN 1 ?_);refine boxZ 1 #[.int .i64 a0_0, .int .i64 a0_1, .int .i64 a0_2, .int .i64 a0_3] 118 ?_;intro gb165 hg w8 hbox hb;have BK165 := Aside0.mk (hbox);have GW165 := gS hg;have GE165 := gS hg;replace HB := sB hb;clear hb hbox hg;obtain ⟨hcz9_0, hcz9_1, hcz9_2, hcz9_3, hfz9_0, hfz9_1, hfz9_2, hfz9_3⟩ := cz4 BK165))
   go_ret;exact ⟨rE, cB⟩
def spec_CheckProgram.l0 : Nat → List (S118) → Int → Option (Bool)
  | 0, _, _ => none
  | k + 1, x0, x3 => if x3 < (x0.length : Int) then (if 0 ≤ x3 then ((spec_InsOk.f k ((rd_T118 x0 x3).f0) ((rd_T118 x0 x3).f1) ((rd_T118 x0 x3).f2) ((rd_T118 x0 x3).f3)).bind fun t169 => (if t169 = true then (if ((rd_T118 x0 x3).f0) = 8 then (spec_CheckProgram.l0 k x0 (wrap64 (x3 + 1))) else ((spec_l07Far.f ((rd_T118 x0 x3).f0) ((rd_T118 x0 x3).f1) ((rd_T118 x0 x3).f2) ((rd_T118 x0 x3).f3)).bind fun t172 => (if (wrap64 ((wrap64 (x3 + 1)) + t172)) ≥ (x0.length : Int) then (some false) else (spec_CheckProgram.l0 k x0 (wrap64 (x3 + 1)))))) else (some false))) else (none)) else (if 0 ≤ (wrap64 ((x0.length : Int) - 1)) then (if (wrap64 ((x0.length : Int) - 1)) < (x0.length : Int) then (some (((rd_T118 x0 (wrap64 ((x0.length : Int) - 1))).f0) == 8)) else (none)) else (none))
def spec_CheckProgram.f (k : Nat) (l0 : List (S118)) : Option (Bool) := (spec_l01In.f (l0.length : Int) 1 400).bind fun t166 => (if t166 = true then (spec_CheckProgram.l0 k l0 0) else (some false))
set_option maxHeartbeats 8000000 in
set_option maxRecDepth 100000 in
theorem spec_CheckProgram.calls (k : Nat) (A0 : Option Addr) (c0 : Nat) (l0 : List (S118)) (r : Bool) (w : World) (hr0 : Kd.C k118 w A0 l0.length l0) (hc0 : l0.length ≤ c0) (h : spec_CheckProgram.f k l0 = some r) :
 Calls Try.prog 69 #[.slice A0 l0.length c0] w fun e w' => e = .returned (.bool r) ∧ Below w.heap.size w w' := by
 have hu118 := Try.underlying118;have HR0 := Aside0.mk hr0;have HC0 := Aside0.mk hc0;clear hr0 hc0;have HB := Aside0.mk (Below.refl w.heap.size w)
 have H : ((spec_l01In.f (l0.length : Int) 1 400).bind fun t166 => (if t166 = true then (spec_CheckProgram.l0 k l0 0) else (some false))) = some r := h
 clear h;replace H := bE H;obtain ⟨t166, A2, H⟩ := H;by_cases c3 : t166 = true
 ·subst c3;replace H := iT H;have H' := Aside0.mk H;clear H;go_enter Try.func69, Try.ntmps69
  go_wp2_with (first|((with_reducible refine gF 93 ?_);refine goZ (some 6) Try.func93 #[.int .i64 (l0.length : Int), .int .i64 1, .int .i64 400] ?_;(with_reducible refine (spec_l01In.calls (l0.length : Int) 1 400 true _ A2.out).mono ?_);rintro e w' ⟨rfl, ⟨nd, rfl⟩⟩;refine ⟨_, rfl, ?_⟩))
  go_loopg [3] k (fun kq v3 w' => ∃ (x3_1 : Int), v3 = .int .i64 x3_1 ∧ Aside0 (spec_CheckProgram.l0 kq l0 x3_1 = some r) ∧ Aside0 (kq ≤ k) ∧ Aside0 (Below w.heap.size w w'))
  case atStart => exact ⟨(0), rS, H', ⟨Nat.le_refl _⟩, ⟨cB⟩⟩
  case round =>
   clear H';(try clear c3);obtain ⟨x3_1, rfl, HA, HK1, HB⟩ := hrel
   cases gk with
   | zero => exact absurd HA.out (by simp [spec_CheckProgram.l0])
   | succ k1 =>
    have H := HA.out;clear HA;simp only [spec_CheckProgram.l0] at H;by_cases c4 : x3_1 < (l0.length : Int)
    ·rw [if_pos c4] at H;have c4b0 := decide_eq_true c4;clear c4;replace H := gD H;obtain ⟨c5b0, H⟩ := H;replace H := bE H;obtain ⟨t169, A6, H⟩ := H;by_cases c7 : t169 = true
     ·subst c7;replace H := iT H;by_cases c8 : ((rd_T118 l0 x3_1).f0) = 8
      ·rw [if_pos c8] at H;obtain ⟨c8b0, c8b1⟩ := eT c8;clear c8;have H' := Aside0.mk H;clear H;have p168 : 0 ≤ (x3_1 : Int) := dA;have q168 : x3_1 < (l0.length : Int) := dA;obtain ⟨ad168, e168, hx168_0, hx168_1, hx168_2, hx168_3⟩ := at_T118 HR0.out x3_1 p168 q168;cases e168;replace hx168_0 := (bc HB hx168_0 :);replace hx168_1 := (bc HB hx168_1 :);replace hx168_2 := (bc HB hx168_2 :);replace hx168_3 := (bc HB hx168_3 :);replace p168 := eq_true p168;replace q168 := eq_true q168
       go_wp2_with (first|((with_reducible refine gF 136 ?_);refine goZ (some 18) Try.func136 #[.agg #[.int .i64 ((rd_T118 l0 x3_1).f0), .int .i64 ((rd_T118 l0 x3_1).f1), .int .i64 ((rd_T118 l0 x3_1).f2), .int .i64 ((rd_T118 l0 x3_1).f3)]] ?_;(with_reducible refine (spec_InsOk.calls k1 ((rd_T118 l0 x3_1).f0) ((rd_T118 l0 x3_1).f1) ((rd_T118 l0 x3_1).f2) ((rd_T118 l0 x3_1).f3) true _ A6.out).mono ?_);rintro e w9 ⟨rfl, hb⟩;refine ⟨_, rfl, ?_⟩;replace HB := sB hb;(try clear hb);have p170 : 0 ≤ (x3_1 : Int) := dA;have q170 : x3_1 < (l0.length : Int) := dA;obtain ⟨ad170, e170, hx170_0, hx170_1, hx170_2, hx170_3⟩ := at_T118 HR0.out x3_1 p170 q170;obtain rfl : ad168 = ad170 := (by injection e170);replace hx170_0 := (bc HB hx170_0 :);replace hx170_1 := (bc HB hx170_1 :);replace hx170_2 := (bc HB hx170_2 :);replace hx170_3 := (bc HB hx170_3 :);replace p170 := eq_true p170;replace q170 := eq_true q170))
       go_roundg k1
       case measure => have := HK1.out; omega
       case rel => exact ⟨(wrap64 (x3_1 + 1)), rS, H', ⟨by have := HK1.out; omega⟩, ⟨cB⟩⟩
      ·rw [if_neg c8] at H;obtain ⟨c8b0, c8b1⟩ := eF c8;replace H := bE H;obtain ⟨t172, A10, H⟩ := H;by_cases c11 : (wrap64 ((wrap64 (x3_1 + 1)) + t172)) ≥ (l0.length : Int)
       ·rw [if_pos c11] at H;have c11b0 : decide ((l0.length : Int) ≤ (wrap64 ((wrap64 (x3_1 + 1)) + t172))) = true := decide_eq_true c11;clear c11;obtain rfl := Option.some.inj H;have p168 : 0 ≤ (x3_1 : Int) := dA;have q168 : x3_1 < (l0.length : Int) := dA;obtain ⟨ad168, e168, hx168_0, hx168_1, hx168_2, hx168_3⟩ := at_T118 HR0.out x3_1 p168 q168;cases e168;replace hx168_0 := (bc HB hx168_0 :);replace hx168_1 := (bc HB hx168_1 :);replace hx168_2 := (bc HB hx168_2 :);replace hx168_3 := (bc HB hx168_3 :);replace p168 := eq_true p168;replace q168 := eq_true q168
        go_wp2_with (first|((with_reducible refine gF 136 ?_);refine goZ (some 18) Try.func136 #[.agg #[.int .i64 ((rd_T118 l0 x3_1).f0), .int .i64 ((rd_T118 l0 x3_1).f1), .int .i64 ((rd_T118 l0 x3_1).f2), .int .i64 ((rd_T118 l0 x3_1).f3)]] ?_;(with_reducible refine (spec_InsOk.calls k1 ((rd_T118 l0 x3_1).f0) ((rd_T118 l0 x3_1).f1) ((rd_T118 l0 x3_1).f2) ((rd_T118 l0 x3_1).f3) true _ A6.out).mono ?_);rintro e w12 ⟨rfl, hb⟩;refine ⟨_, rfl, ?_⟩;replace HB := sB hb;(try clear hb);have p170 : 0 ≤ (x3_1 : Int) := dA;have q170 : x3_1 < (l0.length : Int) := dA;obtain ⟨ad170, e170, hx170_0, hx170_1, hx170_2, hx170_3⟩ := at_T118 HR0.out x3_1 p170 q170;obtain rfl : ad168 = ad170 := (by injection e170);replace hx170_0 := (bc HB hx170_0 :);replace hx170_1 := (bc HB hx170_1 :);replace hx170_2 := (bc HB hx170_2 :);replace hx170_3 := (bc HB hx170_3 :);replace p170 := eq_true p170;replace q170 := eq_true q170;have p171 : 0 ≤ (x3_1 : Int) := dA;have q171 : x3_1 < (l0.length : Int) := dA;obtain ⟨ad171, e171, hx171_0, hx171_1, hx171_2, hx171_3⟩ := at_T118 HR0.out x3_1 p171 q171;obtain rfl : ad168 = ad171 := (by injection e171);replace hx171_0 := (bc HB hx171_0 :);replace hx171_1 := (bc HB hx171_1 :);replace hx171_2 := (bc HB hx171_2 :);replace hx171_3 := (bc HB hx171_3 :);replace p171 := eq_true p171;replace q171 := eq_true q171)|(go_at_call 137;(with_reducible refine (spec_l07Far.calls ((rd_T118 l0 x3_1).f0) ((rd_T118 l0 x3_1).f1) ((rd_T118 l0 x3_1).f2) ((rd_T118 l0 x3_1).f3) t172 _ A10.out).mono ?_);rintro e w13 ⟨rfl, hb⟩;replace HB := sB hb;(try clear hb)))
        go_ret;exact ⟨rE, cB⟩
       ·rw [if_neg c11] at H;have c11b0 : decide ((l0.length : Int) ≤ (wrap64 ((wrap64 (x3_1 + 1)) + t172))) = false := decide_eq_false c11;clear c11;have H' := Aside0.mk H;clear H;have p168 : 0 ≤ (x3_1 : Int) := dA;have q168 : x3_1 < (l0.length : Int) := dA;obtain ⟨ad168, e168, hx168_0, hx168_1, hx168_2, hx168_3⟩ := at_T118 HR0.out x3_1 p168 q168;cases e168;replace hx168_0 := (bc HB hx168_0 :);replace hx168_1 := (bc HB hx168_1 :);replace hx168_2 := (bc HB hx168_2 :);replace hx168_3 := (bc HB hx168_3 :);replace p168 := eq_true p168;replace q168 := eq_true q168
        go_wp2_with (first|((with_reducible refine gF 136 ?_);refine goZ (some 18) Try.func136 #[.agg #[.int .i64 ((rd_T118 l0 x3_1).f0), .int .i64 ((rd_T118 l0 x3_1).f1), .int .i64 ((rd_T118 l0 x3_1).f2), .int .i64 ((rd_T118 l0 x3_1).f3)]] ?_;(with_reducible refine (spec_InsOk.calls k1 ((rd_T118 l0 x3_1).f0) ((rd_T118 l0 x3_1).f1) ((rd_T118 l0 x3_1).f2) ((rd_T118 l0 x3_1).f3) true _ A6.out).mono ?_);rintro e w14 ⟨rfl, hb⟩;refine ⟨_, rfl, ?_⟩;replace HB := sB hb;(try clear hb);have p170 : 0 ≤ (x3_1 : Int) := dA;have q170 : x3_1 < (l0.length : Int) := dA;obtain ⟨ad170, e170, hx170_0, hx170_1, hx170_2, hx170_3⟩ := at_T118 HR0.out x3_1 p170 q170;obtain rfl : ad168 = ad170 := (by injection e170);replace hx170_0 := (bc HB hx170_0 :);replace hx170_1 := (bc HB hx170_1 :);replace hx170_2 := (bc HB hx170_2 :);replace hx170_3 := (bc HB hx170_3 :);replace p170 := eq_true p170;replace q170 := eq_true q170;have p171 : 0 ≤ (x3_1 : Int) := dA;have q171 : x3_1 < (l0.length : Int) := dA;obtain ⟨ad171, e171, hx171_0, hx171_1, hx171_2, hx171_3⟩ := at_T118 HR0.out x3_1 p171 q171;obtain rfl : ad168 = ad171 := (by injection e171);replace hx171_0 := (bc HB hx171_0 :);replace hx171_1 := (bc HB hx171_1 :);replace hx171_2 := (bc HB hx171_2 :);replace hx171_3 := (bc HB hx171_3 :);replace p171 := eq_true p171;replace q171 := eq_true q171)|(go_at_call 137;(with_reducible refine (spec_l07Far.calls ((rd_T118 l0 x3_1).f0) ((rd_T118 l0 x3_1).f1) ((rd_T118 l0 x3_1).f2) ((rd_T118 l0 x3_1).f3) t172 _ A10.out).mono ?_);rintro e w15 ⟨rfl, hb⟩;replace HB := sB hb;(try clear hb)))
        go_roundg k1
        case measure => have := HK1.out; omega
        case rel => exact ⟨(wrap64 (x3_1 + 1)), rS, H', ⟨by have := HK1.out; omega⟩, ⟨cB⟩⟩
     ·replace c7 := Bool.eq_false_iff.mpr c7;subst c7;replace H := iF H;obtain rfl := Option.some.inj H;have p168 : 0 ≤ (x3_1 : Int) := dA;have q168 : x3_1 < (l0.length : Int) := dA;obtain ⟨ad168, e168, hx168_0, hx168_1, hx168_2, hx168_3⟩ := at_T118 HR0.out x3_1 p168 q168;cases e168;replace hx168_0 := (bc HB hx168_0 :);replace hx168_1 := (bc HB hx168_1 :);replace hx168_2 := (bc HB hx168_2 :);replace hx168_3 := (bc HB hx168_3 :);replace p168 := eq_true p168;replace q168 := eq_true q168
      go_wp2_with (first|((with_reducible refine gF 136 ?_);refine goZ (some 18) Try.func136 #[.agg #[.int .i64 ((rd_T118 l0 x3_1).f0), .int .i64 ((rd_T118 l0 x3_1).f1), .int .i64 ((rd_T118 l0 x3_1).f2), .int .i64 ((rd_T118 l0 x3_1).f3)]] ?_;(with_reducible refine (spec_InsOk.calls k1 ((rd_T118 l0 x3_1).f0) ((rd_T118 l0 x3_1).f1) ((rd_T118 l0 x3_1).f2) ((rd_T118 l0 x3_1).f3) false _ A6.out).mono ?_);rintro e w16 ⟨rfl, hb⟩;refine ⟨_, rfl, ?_⟩;replace HB := sB hb;(try clear hb)))
      go_ret;exact ⟨rE, cB⟩
    ·rw [if_neg c4] at H;have c4b0 := decide_eq_false c4;clear c4;obtain ⟨ji17, hji17⟩ : ∃ j_ : Int, (wrap64 ((l0.length : Int) - 1)) = j_ := ⟨_, rfl⟩
     (first|rw [hji17] at H|simp only [hji17] at H)
     have hji17w : (IntKind.i64.wrap ((l0.length : Int) - 1)) = ji17 := (i64_w _).trans hji17;replace H := gD H;obtain ⟨c18b0, H⟩ := H;replace H := gD H;obtain ⟨c19b0, H⟩ := H;obtain rfl := Option.some.inj H;have p167 : 0 ≤ ((ji17) : Int) := dA;have q167 : (ji17) < (l0.length : Int) := dA;obtain ⟨ad167, e167, hx167_0, hx167_1, hx167_2, hx167_3⟩ := at_T118 HR0.out (ji17) p167 q167;cases e167;replace hx167_0 := (bc HB hx167_0 :);replace hx167_1 := (bc HB hx167_1 :);replace hx167_2 := (bc HB hx167_2 :);replace hx167_3 := (bc HB hx167_3 :);replace p167 := eq_true p167;replace q167 := eq_true q167;go_wp2;go_ret
     exact ⟨by first | rfl | (simp [errW_none, errW_some] <;> rfl) | (simp only [← hji17]; first | rfl | (simp [errW_none, errW_some] <;> rfl)) | (simp [*, errW_none, errW_some] <;> rfl), cB⟩
 ·replace c3 := Bool.eq_false_iff.mpr c3;subst c3;replace H := iF H;obtain rfl := Option.some.inj H;go_enter Try.func69, Try.ntmps69
  go_wp2_with (first|((with_reducible refine gF 93 ?_);refine goZ (some 6) Try.func93 #[.int .i64 (l0.length : Int), .int .i64 1, .int .i64 400] ?_;(with_reducible refine (spec_l01In.calls (l0.length : Int) 1 400 false _ A2.out).mono ?_);rintro e w' ⟨rfl, ⟨nd, rfl⟩⟩;refine ⟨_, rfl, ?_⟩))
  go_ret;exact ⟨rE, cB⟩
def spec_StackOk.l0 : Nat → List (List (S118)) → Int → Option (Bool)
  | 0, _, _ => none
  | k + 1, x0, x3 => if x3 < (x0.length : Int) then (if 0 ≤ x3 then ((spec_CheckProgram.f k (rd_L4 x0 x3)).bind fun t174 => (if t174 = true then (spec_StackOk.l0 k x0 (wrap64 (x3 + 1))) else (some false))) else (none)) else (some (decide ((x0.length : Int) ≤ 3)))
def spec_StackOk.f (k : Nat) (l0 : List (List (S118))) : Option (Bool) := spec_StackOk.l0 k l0 0
set_option maxHeartbeats 8000000 in
set_option maxRecDepth 100000 in
theorem spec_StackOk.calls (k : Nat) (A0 : Option Addr) (c0 : Nat) (l0 : List (List (S118))) (r : Bool) (w : World) (hr0 : Kd.C (Kd.slice 118 k118) w A0 l0.length l0) (hc0 : l0.length ≤ c0) (h : spec_StackOk.f k l0 = some r) :
 Calls Try.prog 16 #[.slice A0 l0.length c0] w fun e w' => e = .returned (.bool r) ∧ Below w.heap.size w w' := by
 have HR0 := Aside0.mk hr0;have HC0 := Aside0.mk hc0;clear hr0 hc0;have HB := Aside0.mk (Below.refl w.heap.size w);have H : (spec_StackOk.l0 k l0 0) = some r := h;clear h;have H' := Aside0.mk H;clear H;go_enter Try.func16, Try.ntmps16;go_wp2
 go_loopg [3] k (fun kq v3 w' => ∃ (x3_1 : Int), v3 = .int .i64 x3_1 ∧ Aside0 (spec_StackOk.l0 kq l0 x3_1 = some r) ∧ Aside0 (kq ≤ k) ∧ Aside0 (Below w.heap.size w w'))
 case atStart => exact ⟨(0), rS, H', ⟨Nat.le_refl _⟩, ⟨cB⟩⟩
 case round =>
  clear H';obtain ⟨x3_1, rfl, HA, HK1, HB⟩ := hrel
  cases gk with
  | zero => exact absurd HA.out (by simp [spec_StackOk.l0])
  | succ k1 =>
   have H := HA.out;clear HA;simp only [spec_StackOk.l0] at H;by_cases c2 : x3_1 < (l0.length : Int)
   ·rw [if_pos c2] at H;have c2b0 := decide_eq_true c2;clear c2;replace H := gD H;obtain ⟨c3b0, H⟩ := H;replace H := bE H;obtain ⟨t174, A4, H⟩ := H;by_cases c5 : t174 = true
    ·subst c5;replace H := iT H;have H' := Aside0.mk H;clear H;have p173 : 0 ≤ (x3_1 : Int) := dA;have q173 : x3_1 < (l0.length : Int) := dA;obtain ⟨ad173, A173_0, c173_0, e173, hx173_0, hl173_0, hi173_0⟩ := at_L4 HR0.out x3_1 p173 q173;cases e173;replace hx173_0 := (bc HB hx173_0 :);have HR173_0 := Aside0.mk hi173_0;have HC173_0 := Aside0.mk hl173_0;clear hi173_0 hl173_0;replace p173 := eq_true p173;replace q173 := eq_true q173
     go_wp2_with (first|((with_reducible refine gF 69 ?_);refine goZ (some 14) Try.func69 #[.slice A173_0 (rd_L4 l0 x3_1).length c173_0] ?_;(with_reducible refine (spec_CheckProgram.calls k1 _ _ (rd_L4 l0 x3_1) true _ ?side1 ?side2 A4.out).mono ?_);(case side1 => exact cC (Kd.C_below HR173_0.out HB.out));(case side2 => exact HC173_0.out);rintro e w6 ⟨rfl, hb⟩;refine ⟨_, rfl, ?_⟩;replace HB := sB hb;(try clear hb)))
     go_roundg k1
     case measure => have := HK1.out; omega
     case rel => exact ⟨(wrap64 (x3_1 + 1)), rS, H', ⟨by have := HK1.out; omega⟩, ⟨cB⟩⟩
    ·replace c5 := Bool.eq_false_iff.mpr c5;subst c5;replace H := iF H;obtain rfl := Option.some.inj H;have p173 : 0 ≤ (x3_1 : Int) := dA;have q173 : x3_1 < (l0.length : Int) := dA;obtain ⟨ad173, A173_0, c173_0, e173, hx173_0, hl173_0, hi173_0⟩ := at_L4 HR0.out x3_1 p173 q173;cases e173;replace hx173_0 := (bc HB hx173_0 :);have HR173_0 := Aside0.mk hi173_0;have HC173_0 := Aside0.mk hl173_0;clear hi173_0 hl173_0;replace p173 := eq_true p173;replace q173 := eq_true q173
     go_wp2_with (first|((with_reducible refine gF 69 ?_);refine goZ (some 14) Try.func69 #[.slice A173_0 (rd_L4 l0 x3_1).length c173_0] ?_;(with_reducible refine (spec_CheckProgram.calls k1 _ _ (rd_L4 l0 x3_1) false _ ?side1 ?side2 A4.out).mono ?_);(case side1 => exact cC (Kd.C_below HR173_0.out HB.out));(case side2 => exact HC173_0.out);rintro e w7 ⟨rfl, hb⟩;refine ⟨_, rfl, ?_⟩;replace HB := sB hb;(try clear hb)))
     go_ret;exact ⟨rE, cB⟩
   ·rw [if_neg c2] at H;have c2b0 := decide_eq_false c2;clear c2;obtain rfl := Option.some.inj H;go_wp2;go_ret;exact ⟨rE, cB⟩
end Go.Proofs.Ytiinjipfhmgheaa.PFnExactRunStack
