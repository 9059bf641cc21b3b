import Derived.Test.YtlgndgjbfjefpaaPFnLayoutsy0
import Derived.Test.YtlgndgjbfjefpaaPFnLayoutsy7
import Derived.Test.YtlgndgjbfjefpaaPFnLayoutsy8
namespace Go.Proofs.Ytlgndgjbfjefpaa.PFnLayouts
open Go.RowKit Go.Proofs.YtlgndgjbfjefpaaW.PrintWords Go.Proofs.YtlgndgjbfjefpaaW.PrintLast Go.Proofs.YtlgndgjbfjefpaaW.PrintMore Go.Proofs.YtlgndgjbfjefpaaW.Z
attribute [local go_sem] isS max2_int min2_int max_two min_two max_three min_three max_four min_four
set_option linter.unusedVariables false
set_option linter.unusedSimpArgs false
mutual
def spec_InsOk.j0 : Nat → Bool → Int → Int → Int → Int → Option (Bool)
  | 0, _, _, _, _, _ => none
  | k + 1, x24, x417000, x417001, x417002, x417003 => if x24 = true then (some false) else ((spec_l06Ask.f x417000).bind fun t421 => (if t421 = true then (spec_InsOk.j1 k false x417000 x417001 x417002 x417003) else (if x417002 = 0 then (spec_InsOk.j1 k (x417003 != 0) x417000 x417001 x417002 x417003) else (spec_InsOk.j1 k true x417000 x417001 x417002 x417003))))
def spec_InsOk.j1 : Nat → Bool → Int → Int → Int → Int → Option (Bool)
  | 0, _, _, _, _, _ => none
  | k + 1, x38, x417000, x417001, x417002, x417003 => if x38 = true then (some false) else (if x417000 = 1 then (some (decide (x417001 < 8))) else (if x417000 = 7 then (some (decide (x417001 < 400))) else (some true)))
end
def spec_InsOk.f (k : Nat) (a0_0 : Int) (a0_1 : Int) (a0_2 : Int) (a0_3 : Int) : Option (Bool) := (spec_l01In.f a0_0 1 8).bind fun t417 => (if t417 = true then ((spec_HalfOk.f a0_1).bind fun t418 => (if t418 = true then ((spec_l01In.f a0_2 0 15).bind fun t419 => (if t419 = true then ((spec_l01In.f a0_3 0 15).bind fun t420 => (spec_InsOk.j0 k (!t420) a0_0 a0_1 a0_2 a0_3)) else (spec_InsOk.j0 k true a0_0 a0_1 a0_2 a0_3))) else (spec_InsOk.j0 k true a0_0 a0_1 a0_2 a0_3))) else (spec_InsOk.j0 k true a0_0 a0_1 a0_2 a0_3))
set_option maxHeartbeats 8000000 in
set_option maxRecDepth 100000 in
theorem spec_InsOk.calls (k : Nat) (a0_0 : Int) (a0_1 : Int) (a0_2 : Int) (a0_3 : Int) (r : Bool) (w : World) (h : spec_InsOk.f k a0_0 a0_1 a0_2 a0_3 = some r) :
 Calls Try.prog 139 #[.agg #[.int .i64 a0_0, .int .i64 a0_1, .int .i64 a0_2, .int .i64 a0_3]] w fun e w' => e = .returned (.bool r) ∧ Below w.heap.size w w' := by
 have hu93 := Try.underlying93;have HB := Aside0.mk (Below.refl w.heap.size w)
 have H : ((spec_l01In.f a0_0 1 8).bind fun t417 => (if t417 = true then ((spec_HalfOk.f a0_1).bind fun t418 => (if t418 = true then ((spec_l01In.f a0_2 0 15).bind fun t419 => (if t419 = true then ((spec_l01In.f a0_3 0 15).bind fun t420 => (spec_InsOk.j0 k (!t420) a0_0 a0_1 a0_2 a0_3)) else (spec_InsOk.j0 k true a0_0 a0_1 a0_2 a0_3))) else (spec_InsOk.j0 k true a0_0 a0_1 a0_2 a0_3))) else (spec_InsOk.j0 k true a0_0 a0_1 a0_2 a0_3))) = some r := h
 clear h;have HC2 := Aside0.mk H;clear H;go_enter Try.func139, Try.ntmps139
 go_upto_region 1 with (first|((with_reducible refine gN 1 ?_);refine boxZ 1 #[.int .i64 a0_0, .int .i64 a0_1, .int .i64 a0_2, .int .i64 a0_3] 93 ?_;intro gb416 hg w3 hbox hb;have BK416 := Aside0.mk (hbox);have GW416 := gS hg;have GE416 := gS hg;replace HB := sB hb;clear hb hbox hg))
 (try simp only [Act.put, List.setIfInBounds_toArray, List.set_cons_zero, List.set_cons_succ])
 go_cut [24] (fun v24 wc => ∃ (kq : Nat) (x24_1 : Bool), v24 = .bool x24_1 ∧ Aside0 (spec_InsOk.j0 kq x24_1 a0_0 a0_1 a0_2 a0_3 = some r) ∧ Aside0 (kq ≤ k) ∧ Aside0 (wc.heap[gb416]? = some (.cells #[.int .i64 a0_0, .int .i64 a0_1, .int .i64 a0_2, .int .i64 a0_3] 93 (0, 0))) ∧ Aside0 (Below w.heap.size w wc))
 case first =>
  have H := HC2.out;clear HC2;replace H := bE H;obtain ⟨t417, A4, H⟩ := H;by_cases c5 : t417 = true
  ·subst c5;replace H := iT H;replace H := bE H;obtain ⟨t418, A6, H⟩ := H;by_cases c7 : t418 = true
   ·subst c7;replace H := iT H;replace H := bE H;obtain ⟨t419, A8, H⟩ := H;by_cases c9 : t419 = true
    ·subst c9;replace H := iT H;replace H := bE H;obtain ⟨t420, A10, H⟩ := H;have H' := Aside0.mk H;clear H;obtain ⟨hcz11_0, hcz11_1, hcz11_2, hcz11_3, hfz11_0, hfz11_1, hfz11_2, hfz11_3⟩ := cz4 BK416
     go_wp2_with (first|((with_reducible refine gF 100 ?_);refine goZ (some 5) Try.func100 #[.int .i64 a0_0, .int .i64 1, .int .i64 8] ?_;(with_reducible refine (spec_l01In.calls a0_0 1 8 true _ A4.out).mono ?_);rintro e w' ⟨rfl, ⟨nd, rfl⟩⟩;refine ⟨_, rfl, ?_⟩)|(go_at_call 96;(with_reducible refine (spec_HalfOk.calls a0_1 true _ A6.out).mono ?_);rintro e w' ⟨rfl, ⟨nd, rfl⟩⟩)|(go_at_call 100;(with_reducible refine (spec_l01In.calls a0_2 0 15 true _ A8.out).mono ?_);rintro e w' ⟨rfl, ⟨nd, rfl⟩⟩)|(go_at_call 100;(with_reducible refine (spec_l01In.calls a0_3 0 15 t420 _ A10.out).mono ?_);rintro e w' ⟨rfl, ⟨nd, rfl⟩⟩))
     go_meet
     case rel => exact ⟨_, (!t420), rS, H', ⟨oL⟩, ⟨mK BK416⟩, ⟨cB⟩⟩
    ·replace c9 := Bool.eq_false_iff.mpr c9;subst c9;replace H := iF H;have H' := Aside0.mk H;clear H;obtain ⟨hcz12_0, hcz12_1, hcz12_2, hcz12_3, hfz12_0, hfz12_1, hfz12_2, hfz12_3⟩ := cz4 BK416
     go_wp2_with (first|((with_reducible refine gF 100 ?_);refine goZ (some 5) Try.func100 #[.int .i64 a0_0, .int .i64 1, .int .i64 8] ?_;(with_reducible refine (spec_l01In.calls a0_0 1 8 true _ A4.out).mono ?_);rintro e w' ⟨rfl, ⟨nd, rfl⟩⟩;refine ⟨_, rfl, ?_⟩)|(go_at_call 96;(with_reducible refine (spec_HalfOk.calls a0_1 true _ A6.out).mono ?_);rintro e w' ⟨rfl, ⟨nd, rfl⟩⟩)|(go_at_call 100;(with_reducible refine (spec_l01In.calls a0_2 0 15 false _ A8.out).mono ?_);rintro e w' ⟨rfl, ⟨nd, rfl⟩⟩))
     go_meet
     case rel => exact ⟨_, (true), rS, H', ⟨oL⟩, ⟨mK BK416⟩, ⟨cB⟩⟩
   ·replace c7 := Bool.eq_false_iff.mpr c7;subst c7;replace H := iF H;have H' := Aside0.mk H;clear H;obtain ⟨hcz13_0, hcz13_1, hcz13_2, hcz13_3, hfz13_0, hfz13_1, hfz13_2, hfz13_3⟩ := cz4 BK416
    go_wp2_with (first|((with_reducible refine gF 100 ?_);refine goZ (some 5) Try.func100 #[.int .i64 a0_0, .int .i64 1, .int .i64 8] ?_;(with_reducible refine (spec_l01In.calls a0_0 1 8 true _ A4.out).mono ?_);rintro e w' ⟨rfl, ⟨nd, rfl⟩⟩;refine ⟨_, rfl, ?_⟩)|(go_at_call 96;(with_reducible refine (spec_HalfOk.calls a0_1 false _ A6.out).mono ?_);rintro e w' ⟨rfl, ⟨nd, rfl⟩⟩))
    go_meet
    case rel => exact ⟨_, (true), rS, H', ⟨oL⟩, ⟨mK BK416⟩, ⟨cB⟩⟩
  ·replace c5 := Bool.eq_false_iff.mpr c5;subst c5;replace H := iF H;have H' := Aside0.mk H;clear H;obtain ⟨hcz14_0, hcz14_1, hcz14_2, hcz14_3, hfz14_0, hfz14_1, hfz14_2, hfz14_3⟩ := cz4 BK416
   go_wp2_with (first|((with_reducible refine gF 100 ?_);refine goZ (some 5) Try.func100 #[.int .i64 a0_0, .int .i64 1, .int .i64 8] ?_;(with_reducible refine (spec_l01In.calls a0_0 1 8 false _ A4.out).mono ?_);rintro e w' ⟨rfl, ⟨nd, rfl⟩⟩;refine ⟨_, rfl, ?_⟩))
   go_meet
   case rel => exact ⟨_, (true), rS, H', ⟨oL⟩, ⟨mK BK416⟩, ⟨cB⟩⟩
 case rest =>
  clear HC2;(try clear c5);(try clear c7);(try clear c9);(try clear hcz11_0);(try clear hcz11_1);(try clear hcz11_2);(try clear hcz11_3);(try clear hcz12_0);(try clear hcz12_1);(try clear hcz12_2);(try clear hcz12_3);(try clear hcz13_0);(try clear hcz13_1);(try clear hcz13_2);(try clear hcz13_3);(try clear hcz14_0);(try clear hcz14_1);(try clear hcz14_2);(try clear hcz14_3);(try clear hfz11_0);(try clear hfz11_1);(try clear hfz11_2);(try clear hfz11_3);(try clear hfz12_0);(try clear hfz12_1);(try clear hfz12_2);(try clear hfz12_3);(try clear hfz13_0);(try clear hfz13_1);(try clear hfz13_2);(try clear hfz13_3);(try clear hfz14_0);(try clear hfz14_1);(try clear hfz14_2);(try clear hfz14_3);obtain ⟨kq, x24_1, rfl, HA, HJ1, BK416, HB⟩ := hcut
  cases kq with
  | zero => exact absurd HA.out (by simp [spec_InsOk.j0])
  | succ kj1 =>
   have H := HA.out;clear HA;simp only [spec_InsOk.j0] at H;by_cases c15 : x24_1 = true
   ·subst c15;replace H := iT H;obtain rfl := Option.some.inj H;go_wp2;go_ret;exact ⟨rE, cB⟩
   ·replace c15 := Bool.eq_false_iff.mpr c15;subst c15;replace H := iF H;have HC16 := Aside0.mk H;clear H
    go_upto_region 3 with (fail)
    go_cut [38] (fun v38 wc => ∃ (kq : Nat) (x38_15 : Bool), v38 = .bool x38_15 ∧ Aside0 (spec_InsOk.j1 kq x38_15 a0_0 a0_1 a0_2 a0_3 = some r) ∧ Aside0 (kq ≤ kj1) ∧ Aside0 (wc.heap[gb416]? = some (.cells #[.int .i64 a0_0, .int .i64 a0_1, .int .i64 a0_2, .int .i64 a0_3] 93 (0, 0))) ∧ Aside0 (Below w.heap.size w wc))
    case first =>
     have H := HC16.out;clear HC16;replace H := bE H;obtain ⟨t421, A17, H⟩ := H;by_cases c18 : t421 = true
     ·subst c18;replace H := iT H;have H' := Aside0.mk H;clear H;obtain ⟨hcz19_0, hcz19_1, hcz19_2, hcz19_3, hfz19_0, hfz19_1, hfz19_2, hfz19_3⟩ := cz4 BK416
      go_wp2_with (first|((with_reducible refine gF 134 ?_);refine goZ (some 27) Try.func134 #[.int .i64 a0_0] ?_;(with_reducible refine (spec_l06Ask.calls a0_0 true _ A17.out).mono ?_);rintro e w' ⟨rfl, ⟨nd, rfl⟩⟩;refine ⟨_, rfl, ?_⟩))
      go_meet
      case rel => exact ⟨_, (false), rS, H', ⟨by have := HJ1.out; first | omega | exact Nat.le_refl _⟩, ⟨mK BK416⟩, ⟨cB⟩⟩
     ·replace c18 := Bool.eq_false_iff.mpr c18;subst c18;replace H := iF H;by_cases c20 : a0_2 = 0
      ·rw [if_pos c20] at H;obtain ⟨c20b0, c20b1⟩ := eT c20;clear c20
       (first | rw [c20b0] | (simp only [i64_w, i32_w]; rw [c20b0]) | skip)
       have H' := Aside0.mk H;clear H;obtain ⟨hcz21_0, hcz21_1, hcz21_2, hcz21_3, hfz21_0, hfz21_1, hfz21_2, hfz21_3⟩ := cz4 BK416
       go_wp2_with (first|((with_reducible refine gF 134 ?_);refine goZ (some 27) Try.func134 #[.int .i64 a0_0] ?_;(with_reducible refine (spec_l06Ask.calls a0_0 false _ A17.out).mono ?_);rintro e w' ⟨rfl, ⟨nd, rfl⟩⟩;refine ⟨_, rfl, ?_⟩))
       go_meet
       case rel => exact ⟨_, ((a0_3 != 0)), rS, H', ⟨by have := HJ1.out; first | omega | exact Nat.le_refl _⟩, ⟨mK BK416⟩, ⟨cB⟩⟩
      ·rw [if_neg c20] at H;obtain ⟨c20b0, c20b1⟩ := eF c20
       (first | rw [c20b0] | (simp only [i64_w, i32_w]; rw [c20b0]) | skip)
       have H' := Aside0.mk H;clear H;obtain ⟨hcz22_0, hcz22_1, hcz22_2, hcz22_3, hfz22_0, hfz22_1, hfz22_2, hfz22_3⟩ := cz4 BK416
       go_wp2_with (first|((with_reducible refine gF 134 ?_);refine goZ (some 27) Try.func134 #[.int .i64 a0_0] ?_;(with_reducible refine (spec_l06Ask.calls a0_0 false _ A17.out).mono ?_);rintro e w' ⟨rfl, ⟨nd, rfl⟩⟩;refine ⟨_, rfl, ?_⟩))
       go_meet
       case rel => exact ⟨_, (true), rS, H', ⟨by have := HJ1.out; first | omega | exact Nat.le_refl _⟩, ⟨mK BK416⟩, ⟨cB⟩⟩
    case rest =>
     clear HC16;(try clear c5);(try clear c7);(try clear c9);(try clear c15);(try clear c18);(try clear c20);(try clear c20b0);(try clear c20b1);(try clear hcz11_0);(try clear hcz11_1);(try clear hcz11_2);(try clear hcz11_3);(try clear hcz12_0);(try clear hcz12_1);(try clear hcz12_2);(try clear hcz12_3);(try clear hcz13_0);(try clear hcz13_1);(try clear hcz13_2);(try clear hcz13_3);(try clear hcz14_0);(try clear hcz14_1);(try clear hcz14_2);(try clear hcz14_3);(try clear hcz19_0);(try clear hcz19_1);(try clear hcz19_2);(try clear hcz19_3);(try clear hcz21_0);(try clear hcz21_1);(try clear hcz21_2);(try clear hcz21_3);(try clear hcz22_0);(try clear hcz22_1);(try clear hcz22_2);(try clear hcz22_3);(try clear hfz11_0);(try clear hfz11_1);(try clear hfz11_2);(try clear hfz11_3);(try clear hfz12_0);(try clear hfz12_1);(try clear hfz12_2);(try clear hfz12_3);(try clear hfz13_0);(try clear hfz13_1);(try clear hfz13_2);(try clear hfz13_3);(try clear hfz14_0);(try clear hfz14_1);(try clear hfz14_2);(try clear hfz14_3);(try clear hfz19_0);(try clear hfz19_1);(try clear hfz19_2);(try clear hfz19_3);(try clear hfz21_0);(try clear hfz21_1);(try clear hfz21_2);(try clear hfz21_3);(try clear hfz22_0);(try clear hfz22_1);(try clear hfz22_2);(try clear hfz22_3);obtain ⟨kq, x38_15, rfl, HA, HJ15, BK416, HB⟩ := hcut
     cases kq with
     | zero => exact absurd HA.out (by simp [spec_InsOk.j1])
     | succ kj15 =>
      have H := HA.out;clear HA;simp only [spec_InsOk.j1] at H;by_cases c23 : x38_15 = true
      ·subst c23;replace H := iT H;obtain rfl := Option.some.inj H;go_wp2;go_ret;exact ⟨rE, cB⟩
      ·replace c23 := Bool.eq_false_iff.mpr c23;subst c23;replace H := iF H;by_cases c24 : a0_0 = 1
       ·rw [if_pos c24] at H;obtain ⟨c24b0, c24b1⟩ := eT c24;clear c24;obtain rfl := Option.some.inj H;obtain ⟨hcz25_0, hcz25_1, hcz25_2, hcz25_3, hfz25_0, hfz25_1, hfz25_2, hfz25_3⟩ := cz4 BK416;go_wp2;go_ret;exact ⟨rE, cB⟩
       ·rw [if_neg c24] at H;obtain ⟨c24b0, c24b1⟩ := eF c24;by_cases c26 : a0_0 = 7
        ·rw [if_pos c26] at H;obtain ⟨c26b0, c26b1⟩ := eT c26;clear c26;obtain rfl := Option.some.inj H;obtain ⟨hcz27_0, hcz27_1, hcz27_2, hcz27_3, hfz27_0, hfz27_1, hfz27_2, hfz27_3⟩ := cz4 BK416;go_wp2;go_ret;exact ⟨rE, cB⟩
        ·rw [if_neg c26] at H;obtain ⟨c26b0, c26b1⟩ := eF c26;obtain rfl := Option.some.inj H;obtain ⟨hcz28_0, hcz28_1, hcz28_2, hcz28_3, hfz28_0, hfz28_1, hfz28_2, hfz28_3⟩ := cz4 BK416;go_wp2;go_ret;exact ⟨rE, cB⟩
def spec_l07Far.f (a0_0 : Int) (a0_1 : Int) (a0_2 : Int) (a0_3 : Int) : Option (Int) := if a0_0 = 7 then (some a0_1) else (if a0_2 > a0_3 then (some a0_2) else (some a0_3))
set_option maxHeartbeats 8000000 in
set_option maxRecDepth 100000 in
theorem spec_l07Far.calls (a0_0 : Int) (a0_1 : Int) (a0_2 : Int) (a0_3 : Int) (r : Int) (w : World) (h : spec_l07Far.f a0_0 a0_1 a0_2 a0_3 = some r) :
 Calls Try.prog 140 #[.agg #[.int .i64 a0_0, .int .i64 a0_1, .int .i64 a0_2, .int .i64 a0_3]] w fun e w' => e = .returned (.int .i64 r) ∧ Below w.heap.size w w' := by
 have hu93 := Try.underlying93;have HB := Aside0.mk (Below.refl w.heap.size w);have H : (if a0_0 = 7 then (some a0_1) else (if a0_2 > a0_3 then (some a0_2) else (some a0_3))) = some r := h;clear h;by_cases c2 : a0_0 = 7
 ·rw [if_pos c2] at H;obtain ⟨c2b0, c2b1⟩ := eT c2;clear c2;obtain rfl := Option.some.inj H;go_enter Try.func140, Try.ntmps140
  go_wp2_with (first|((with_reducible refine gN 1 ?_);refine boxZ 1 #[.int .i64 a0_0, .int .i64 a0_1, .int .i64 a0_2, .int .i64 a0_3] 93 ?_;intro gb422 hg w3 hbox hb;have BK422 := Aside0.mk (hbox);have GW422 := gS hg;have GE422 := gS hg;replace HB := sB hb;clear hb hbox hg;obtain ⟨hcz4_0, hcz4_1, hcz4_2, hcz4_3, hfz4_0, hfz4_1, hfz4_2, hfz4_3⟩ := cz4 BK422))
  go_ret;exact ⟨rE, cB⟩
 ·rw [if_neg c2] at H;obtain ⟨c2b0, c2b1⟩ := eF c2;by_cases c5 : a0_2 > a0_3
  ·rw [if_pos c5] at H;have c5b0 : decide (a0_3 < a0_2) = true := decide_eq_true c5;clear c5;obtain rfl := Option.some.inj H;go_enter Try.func140, Try.ntmps140
   go_wp2_with (first|((with_reducible refine gN 1 ?_);refine boxZ 1 #[.int .i64 a0_0, .int .i64 a0_1, .int .i64 a0_2, .int .i64 a0_3] 93 ?_;intro gb422 hg w6 hbox hb;have BK422 := Aside0.mk (hbox);have GW422 := gS hg;have GE422 := gS hg;replace HB := sB hb;clear hb hbox hg;obtain ⟨hcz7_0, hcz7_1, hcz7_2, hcz7_3, hfz7_0, hfz7_1, hfz7_2, hfz7_3⟩ := cz4 BK422))
   go_ret;exact ⟨rE, cB⟩
  ·rw [if_neg c5] at H;have c5b0 : decide (a0_3 < a0_2) = false := decide_eq_false c5;clear c5;obtain rfl := Option.some.inj H;go_enter Try.func140, Try.ntmps140
   go_wp2_with (first|((with_reducible refine gN 1 ?_);refine boxZ 1 #[.int .i64 a0_0, .int .i64 a0_1, .int .i64 a0_2, .int .i64 a0_3] 93 ?_;intro gb422 hg w8 hbox hb;have BK422 := Aside0.mk (hbox);have GW422 := gS hg;have GE422 := gS hg;replace HB := sB hb;clear hb hbox hg;obtain ⟨hcz9_0, hcz9_1, hcz9_2, hcz9_3, hfz9_0, hfz9_1, hfz9_2, hfz9_3⟩ := cz4 BK422))
   go_ret;exact ⟨rE, cB⟩
def spec_CheckProgram.l0 : Nat → List (S93) → Int → Option (Bool)
  | 0, _, _ => none
  | k + 1, x0, x3 => if x3 < (x0.length : Int) then (if 0 ≤ x3 then ((spec_InsOk.f k ((rd_T93 x0 x3).f0) ((rd_T93 x0 x3).f1) ((rd_T93 x0 x3).f2) ((rd_T93 x0 x3).f3)).bind fun t426 => (if t426 = true then (if ((rd_T93 x0 x3).f0) = 8 then (spec_CheckProgram.l0 k x0 (wrap64 (x3 + 1))) else ((spec_l07Far.f ((rd_T93 x0 x3).f0) ((rd_T93 x0 x3).f1) ((rd_T93 x0 x3).f2) ((rd_T93 x0 x3).f3)).bind fun t429 => (if (wrap64 ((wrap64 (x3 + 1)) + t429)) ≥ (x0.length : Int) then (some false) else (spec_CheckProgram.l0 k x0 (wrap64 (x3 + 1)))))) else (some false))) else (none)) else (if 0 ≤ (wrap64 ((x0.length : Int) - 1)) then (if (wrap64 ((x0.length : Int) - 1)) < (x0.length : Int) then (some (((rd_T93 x0 (wrap64 ((x0.length : Int) - 1))).f0) == 8)) else (none)) else (none))
def spec_CheckProgram.f (k : Nat) (l0 : List (S93)) : Option (Bool) := (spec_l01In.f (l0.length : Int) 1 400).bind fun t423 => (if t423 = true then (spec_CheckProgram.l0 k l0 0) else (some false))
set_option maxHeartbeats 8000000 in
set_option maxRecDepth 100000 in
theorem spec_CheckProgram.calls (k : Nat) (A0 : Option Addr) (c0 : Nat) (l0 : List (S93)) (r : Bool) (w : World) (hr0 : Kd.C k93 w A0 l0.length l0) (hc0 : l0.length ≤ c0) (h : spec_CheckProgram.f k l0 = some r) :
 Calls Try.prog 70 #[.slice A0 l0.length c0] w fun e w' => e = .returned (.bool r) ∧ Below w.heap.size w w' := by
 have hu93 := Try.underlying93;have HR0 := Aside0.mk hr0;have HC0 := Aside0.mk hc0;clear hr0 hc0;have HB := Aside0.mk (Below.refl w.heap.size w)
 have H : ((spec_l01In.f (l0.length : Int) 1 400).bind fun t423 => (if t423 = true then (spec_CheckProgram.l0 k l0 0) else (some false))) = some r := h
 clear h;replace H := bE H;obtain ⟨t423, A2, H⟩ := H;by_cases c3 : t423 = true
 ·subst c3;replace H := iT H;have H' := Aside0.mk H;clear H;go_enter Try.func70, Try.ntmps70
  go_wp2_with (first|((with_reducible refine gF 100 ?_);refine goZ (some 6) Try.func100 #[.int .i64 (l0.length : Int), .int .i64 1, .int .i64 400] ?_;(with_reducible refine (spec_l01In.calls (l0.length : Int) 1 400 true _ A2.out).mono ?_);rintro e w' ⟨rfl, ⟨nd, rfl⟩⟩;refine ⟨_, rfl, ?_⟩))
  go_loopg [3] k (fun kq v3 w' => ∃ (x3_1 : Int), v3 = .int .i64 x3_1 ∧ Aside0 (spec_CheckProgram.l0 kq l0 x3_1 = some r) ∧ Aside0 (kq ≤ k) ∧ Aside0 (Below w.heap.size w w'))
  case atStart => exact ⟨(0), rS, H', ⟨Nat.le_refl _⟩, ⟨cB⟩⟩
  case round =>
   clear H';(try clear c3);obtain ⟨x3_1, rfl, HA, HK1, HB⟩ := hrel
   cases gk with
   | zero => exact absurd HA.out (by simp [spec_CheckProgram.l0])
   | succ k1 =>
    have H := HA.out;clear HA;simp only [spec_CheckProgram.l0] at H;by_cases c4 : x3_1 < (l0.length : Int)
    ·rw [if_pos c4] at H;have c4b0 := decide_eq_true c4;clear c4;replace H := gD H;obtain ⟨c5b0, H⟩ := H;replace H := bE H;obtain ⟨t426, A6, H⟩ := H;by_cases c7 : t426 = true
     ·subst c7;replace H := iT H;by_cases c8 : ((rd_T93 l0 x3_1).f0) = 8
      ·rw [if_pos c8] at H;obtain ⟨c8b0, c8b1⟩ := eT c8;clear c8;have H' := Aside0.mk H;clear H;have p425 : 0 ≤ (x3_1 : Int) := dA;have q425 : x3_1 < (l0.length : Int) := dA;obtain ⟨ad425, e425, hx425_0, hx425_1, hx425_2, hx425_3⟩ := at_T93 HR0.out x3_1 p425 q425;cases e425;replace hx425_0 := (bc HB hx425_0 :);replace hx425_1 := (bc HB hx425_1 :);replace hx425_2 := (bc HB hx425_2 :);replace hx425_3 := (bc HB hx425_3 :);replace p425 := eq_true p425;replace q425 := eq_true q425
       go_wp2_with (first|((with_reducible refine gF 139 ?_);refine goZ (some 18) Try.func139 #[.agg #[.int .i64 ((rd_T93 l0 x3_1).f0), .int .i64 ((rd_T93 l0 x3_1).f1), .int .i64 ((rd_T93 l0 x3_1).f2), .int .i64 ((rd_T93 l0 x3_1).f3)]] ?_;(with_reducible refine (spec_InsOk.calls k1 ((rd_T93 l0 x3_1).f0) ((rd_T93 l0 x3_1).f1) ((rd_T93 l0 x3_1).f2) ((rd_T93 l0 x3_1).f3) true _ A6.out).mono ?_);rintro e w9 ⟨rfl, hb⟩;refine ⟨_, rfl, ?_⟩;replace HB := sB hb;(try clear hb);have p427 : 0 ≤ (x3_1 : Int) := dA;have q427 : x3_1 < (l0.length : Int) := dA;obtain ⟨ad427, e427, hx427_0, hx427_1, hx427_2, hx427_3⟩ := at_T93 HR0.out x3_1 p427 q427;obtain rfl : ad425 = ad427 := (by injection e427);replace hx427_0 := (bc HB hx427_0 :);replace hx427_1 := (bc HB hx427_1 :);replace hx427_2 := (bc HB hx427_2 :);replace hx427_3 := (bc HB hx427_3 :);replace p427 := eq_true p427;replace q427 := eq_true q427))
       go_roundg k1
       case measure => have := HK1.out; omega
       case rel => exact ⟨(wrap64 (x3_1 + 1)), rS, H', ⟨by have := HK1.out; omega⟩, ⟨cB⟩⟩
      ·rw [if_neg c8] at H;obtain ⟨c8b0, c8b1⟩ := eF c8;replace H := bE H;obtain ⟨t429, A10, H⟩ := H;by_cases c11 : (wrap64 ((wrap64 (x3_1 + 1)) + t429)) ≥ (l0.length : Int)
       ·rw [if_pos c11] at H;have c11b0 : decide ((l0.length : Int) ≤ (wrap64 ((wrap64 (x3_1 + 1)) + t429))) = true := decide_eq_true c11;clear c11;obtain rfl := Option.some.inj H;have p425 : 0 ≤ (x3_1 : Int) := dA;have q425 : x3_1 < (l0.length : Int) := dA;obtain ⟨ad425, e425, hx425_0, hx425_1, hx425_2, hx425_3⟩ := at_T93 HR0.out x3_1 p425 q425;cases e425;replace hx425_0 := (bc HB hx425_0 :);replace hx425_1 := (bc HB hx425_1 :);replace hx425_2 := (bc HB hx425_2 :);replace hx425_3 := (bc HB hx425_3 :);replace p425 := eq_true p425;replace q425 := eq_true q425
        go_wp2_with (first|((with_reducible refine gF 139 ?_);refine goZ (some 18) Try.func139 #[.agg #[.int .i64 ((rd_T93 l0 x3_1).f0), .int .i64 ((rd_T93 l0 x3_1).f1), .int .i64 ((rd_T93 l0 x3_1).f2), .int .i64 ((rd_T93 l0 x3_1).f3)]] ?_;(with_reducible refine (spec_InsOk.calls k1 ((rd_T93 l0 x3_1).f0) ((rd_T93 l0 x3_1).f1) ((rd_T93 l0 x3_1).f2) ((rd_T93 l0 x3_1).f3) true _ A6.out).mono ?_);rintro e w12 ⟨rfl, hb⟩;refine ⟨_, rfl, ?_⟩;replace HB := sB hb;(try clear hb);have p427 : 0 ≤ (x3_1 : Int) := dA;have q427 : x3_1 < (l0.length : Int) := dA;obtain ⟨ad427, e427, hx427_0, hx427_1, hx427_2, hx427_3⟩ := at_T93 HR0.out x3_1 p427 q427;obtain rfl : ad425 = ad427 := (by injection e427);replace hx427_0 := (bc HB hx427_0 :);replace hx427_1 := (bc HB hx427_1 :);replace hx427_2 := (bc HB hx427_2 :);replace hx427_3 := (bc HB hx427_3 :);replace p427 := eq_true p427;replace q427 := eq_true q427;have p428 : 0 ≤ (x3_1 : Int) := dA;have q428 : x3_1 < (l0.length : Int) := dA;obtain ⟨ad428, e428, hx428_0, hx428_1, hx428_2, hx428_3⟩ := at_T93 HR0.out x3_1 p428 q428;obtain rfl : ad425 = ad428 := (by injection e428);replace hx428_0 := (bc HB hx428_0 :);replace hx428_1 := (bc HB hx428_1 :);replace hx428_2 := (bc HB hx428_2 :);replace hx428_3 := (bc HB hx428_3 :);replace p428 := eq_true p428;replace q428 := eq_true q428)|(go_at_call 140;(with_reducible refine (spec_l07Far.calls ((rd_T93 l0 x3_1).f0) ((rd_T93 l0 x3_1).f1) ((rd_T93 l0 x3_1).f2) ((rd_T93 l0 x3_1).f3) t429 _ A10.out).mono ?_);rintro e w13 ⟨rfl, hb⟩;replace HB := sB hb;(try clear hb)))
        go_ret;exact ⟨rE, cB⟩
       ·rw [if_neg c11] at H;have c11b0 : decide ((l0.length : Int) ≤ (wrap64 ((wrap64 (x3_1 + 1)) + t429))) = false := decide_eq_false c11;clear c11;have H' := Aside0.mk H;clear H;have p425 : 0 ≤ (x3_1 : Int) := dA;have q425 : x3_1 < (l0.length : Int) := dA;obtain ⟨ad425, e425, hx425_0, hx425_1, hx425_2, hx425_3⟩ := at_T93 HR0.out x3_1 p425 q425;cases e425;replace hx425_0 := (bc HB hx425_0 :);replace hx425_1 := (bc HB hx425_1 :);replace hx425_2 := (bc HB hx425_2 :);replace hx425_3 := (bc HB hx425_3 :);replace p425 := eq_true p425;replace q425 := eq_true q425
        go_wp2_with (first|((with_reducible refine gF 139 ?_);refine goZ (some 18) Try.func139 #[.agg #[.int .i64 ((rd_T93 l0 x3_1).f0), .int .i64 ((rd_T93 l0 x3_1).f1), .int .i64 ((rd_T93 l0 x3_1).f2), .int .i64 ((rd_T93 l0 x3_1).f3)]] ?_;(with_reducible refine (spec_InsOk.calls k1 ((rd_T93 l0 x3_1).f0) ((rd_T93 l0 x3_1).f1) ((rd_T93 l0 x3_1).f2) ((rd_T93 l0 x3_1).f3) true _ A6.out).mono ?_);rintro e w14 ⟨rfl, hb⟩;refine ⟨_, rfl, ?_⟩;replace HB := sB hb;(try clear hb);have p427 : 0 ≤ (x3_1 : Int) := dA;have q427 : x3_1 < (l0.length : Int) := dA;obtain ⟨ad427, e427, hx427_0, hx427_1, hx427_2, hx427_3⟩ := at_T93 HR0.out x3_1 p427 q427;obtain rfl : ad425 = ad427 := (by injection e427);replace hx427_0 := (bc HB hx427_0 :);replace hx427_1 := (bc HB hx427_1 :);replace hx427_2 := (bc HB hx427_2 :);replace hx427_3 := (bc HB hx427_3 :);replace p427 := eq_true p427;replace q427 := eq_true q427;have p428 : 0 ≤ (x3_1 : Int) := dA;have q428 : x3_1 < (l0.length : Int) := dA;obtain ⟨ad428, e428, hx428_0, hx428_1, hx428_2, hx428_3⟩ := at_T93 HR0.out x3_1 p428 q428;obtain rfl : ad425 = ad428 := (by injection e428);replace hx428_0 := (bc HB hx428_0 :);replace hx428_1 := (bc HB hx428_1 :);replace hx428_2 := (bc HB hx428_2 :);replace hx428_3 := (bc HB hx428_3 :);replace p428 := eq_true p428;replace q428 := eq_true q428)|(go_at_call 140;(with_reducible refine (spec_l07Far.calls ((rd_T93 l0 x3_1).f0) ((rd_T93 l0 x3_1).f1) ((rd_T93 l0 x3_1).f2) ((rd_T93 l0 x3_1).f3) t429 _ A10.out).mono ?_);rintro e w15 ⟨rfl, hb⟩;replace HB := sB hb;(try clear hb)))
        go_roundg k1
        case measure => have := HK1.out; omega
        case rel => exact ⟨(wrap64 (x3_1 + 1)), rS, H', ⟨by have := HK1.out; omega⟩, ⟨cB⟩⟩
     ·replace c7 := Bool.eq_false_iff.mpr c7;subst c7;replace H := iF H;obtain rfl := Option.some.inj H;have p425 : 0 ≤ (x3_1 : Int) := dA;have q425 : x3_1 < (l0.length : Int) := dA;obtain ⟨ad425, e425, hx425_0, hx425_1, hx425_2, hx425_3⟩ := at_T93 HR0.out x3_1 p425 q425;cases e425;replace hx425_0 := (bc HB hx425_0 :);replace hx425_1 := (bc HB hx425_1 :);replace hx425_2 := (bc HB hx425_2 :);replace hx425_3 := (bc HB hx425_3 :);replace p425 := eq_true p425;replace q425 := eq_true q425
      go_wp2_with (first|((with_reducible refine gF 139 ?_);refine goZ (some 18) Try.func139 #[.agg #[.int .i64 ((rd_T93 l0 x3_1).f0), .int .i64 ((rd_T93 l0 x3_1).f1), .int .i64 ((rd_T93 l0 x3_1).f2), .int .i64 ((rd_T93 l0 x3_1).f3)]] ?_;(with_reducible refine (spec_InsOk.calls k1 ((rd_T93 l0 x3_1).f0) ((rd_T93 l0 x3_1).f1) ((rd_T93 l0 x3_1).f2) ((rd_T93 l0 x3_1).f3) false _ A6.out).mono ?_);rintro e w16 ⟨rfl, hb⟩;refine ⟨_, rfl, ?_⟩;replace HB := sB hb;(try clear hb)))
      go_ret;exact ⟨rE, cB⟩
    ·rw [if_neg c4] at H;have c4b0 := decide_eq_false c4;clear c4;obtain ⟨ji17, hji17⟩ : ∃ j_ : Int, (wrap64 ((l0.length : Int) - 1)) = j_ := ⟨_, rfl⟩
     (first|rw [hji17] at H|simp only [hji17] at H)
     have hji17w : (IntKind.i64.wrap ((l0.length : Int) - 1)) = ji17 := (i64_w _).trans hji17;replace H := gD H;obtain ⟨c18b0, H⟩ := H;replace H := gD H;obtain ⟨c19b0, H⟩ := H;obtain rfl := Option.some.inj H;have p424 : 0 ≤ ((ji17) : Int) := dA;have q424 : (ji17) < (l0.length : Int) := dA;obtain ⟨ad424, e424, hx424_0, hx424_1, hx424_2, hx424_3⟩ := at_T93 HR0.out (ji17) p424 q424;cases e424;replace hx424_0 := (bc HB hx424_0 :);replace hx424_1 := (bc HB hx424_1 :);replace hx424_2 := (bc HB hx424_2 :);replace hx424_3 := (bc HB hx424_3 :);replace p424 := eq_true p424;replace q424 := eq_true q424;go_wp2;go_ret
     exact ⟨by first | rfl | (simp [errW_none, errW_some] <;> rfl) | (simp only [← hji17]; first | rfl | (simp [errW_none, errW_some] <;> rfl)) | (simp [*, errW_none, errW_some] <;> rfl), cB⟩
 ·replace c3 := Bool.eq_false_iff.mpr c3;subst c3;replace H := iF H;obtain rfl := Option.some.inj H;go_enter Try.func70, Try.ntmps70
  go_wp2_with (first|((with_reducible refine gF 100 ?_);refine goZ (some 6) Try.func100 #[.int .i64 (l0.length : Int), .int .i64 1, .int .i64 400] ?_;(with_reducible refine (spec_l01In.calls (l0.length : Int) 1 400 false _ A2.out).mono ?_);rintro e w' ⟨rfl, ⟨nd, rfl⟩⟩;refine ⟨_, rfl, ?_⟩))
  go_ret;exact ⟨rE, cB⟩
def spec_WideOk.f (a0_0 : Int) (a0_1 : Int) : Option (Bool) := (spec_HalfOk.f a0_0).bind fun t431 => (if t431 = true then ((spec_HalfOk.f a0_1).bind fun t432 => (some t432)) else (some false))
set_option maxHeartbeats 8000000 in
set_option maxRecDepth 100000 in
theorem spec_WideOk.calls (a0_0 : Int) (a0_1 : Int) (r : Bool) (w : World) (h : spec_WideOk.f a0_0 a0_1 = some r) :
 Calls Try.prog 104 #[.agg #[.int .i64 a0_0, .int .i64 a0_1]] w fun e w' => e = .returned (.bool r) ∧ Below w.heap.size w w' := by
 have hu48 := Try.underlying48;have HB := Aside0.mk (Below.refl w.heap.size w)
 have H : ((spec_HalfOk.f a0_0).bind fun t431 => (if t431 = true then ((spec_HalfOk.f a0_1).bind fun t432 => (some t432)) else (some false))) = some r := h
 clear h;replace H := bE H;obtain ⟨t431, A2, H⟩ := H;by_cases c3 : t431 = true
 ·subst c3;replace H := iT H;replace H := bE H;obtain ⟨t432, A4, H⟩ := H;obtain rfl := Option.some.inj H;go_enter Try.func104, Try.ntmps104
  go_wp2_with (first|((with_reducible refine gN 1 ?_);refine boxZ 1 #[.int .i64 a0_0, .int .i64 a0_1] 48 ?_;intro gb430 hg w5 hbox hb;have BK430 := Aside0.mk (hbox);have GW430 := gS hg;have GE430 := gS hg;replace HB := sB hb;clear hb hbox hg;obtain ⟨hcz6_0, hcz6_1, hfz6_0, hfz6_1⟩ := cz2 BK430)|((with_reducible refine gF 96 ?_);refine goZ (some 5) Try.func96 #[.int .i64 a0_0] ?_;(with_reducible refine (spec_HalfOk.calls a0_0 true _ A2.out).mono ?_);rintro e w' ⟨rfl, ⟨nd, rfl⟩⟩;refine ⟨_, rfl, ?_⟩)|(go_at_call 96;(with_reducible refine (spec_HalfOk.calls a0_1 t432 _ A4.out).mono ?_);rintro e w' ⟨rfl, ⟨nd, rfl⟩⟩))
  go_ret;exact ⟨rE, cB⟩
 ·replace c3 := Bool.eq_false_iff.mpr c3;subst c3;replace H := iF H;obtain rfl := Option.some.inj H;go_enter Try.func104, Try.ntmps104
  go_wp2_with (first|((with_reducible refine gN 1 ?_);refine boxZ 1 #[.int .i64 a0_0, .int .i64 a0_1] 48 ?_;intro gb430 hg w7 hbox hb;have BK430 := Aside0.mk (hbox);have GW430 := gS hg;have GE430 := gS hg;replace HB := sB hb;clear hb hbox hg;obtain ⟨hcz8_0, hcz8_1, hfz8_0, hfz8_1⟩ := cz2 BK430)|((with_reducible refine gF 96 ?_);refine goZ (some 5) Try.func96 #[.int .i64 a0_0] ?_;(with_reducible refine (spec_HalfOk.calls a0_0 false _ A2.out).mono ?_);rintro e w' ⟨rfl, ⟨nd, rfl⟩⟩;refine ⟨_, rfl, ?_⟩))
  go_ret;exact ⟨rE, cB⟩
end Go.Proofs.Ytlgndgjbfjefpaa.PFnLayouts
