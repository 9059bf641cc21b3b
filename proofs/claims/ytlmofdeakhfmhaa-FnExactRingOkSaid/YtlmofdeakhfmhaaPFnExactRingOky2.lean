import Derived.Test.YtlmofdeakhfmhaaPFnExactRingOky0
import Derived.Test.YtlmofdeakhfmhaaPFnExactRingOky1
namespace Go.Proofs.Ytlmofdeakhfmhaa.PFnExactRingOk
open Go.RowKit Go.Proofs.YtlmofdeakhfmhaaW.PrintWords Go.Proofs.YtlmofdeakhfmhaaW.PrintLast Go.Proofs.YtlmofdeakhfmhaaW.PrintMore Go.Proofs.YtlmofdeakhfmhaaW.Z
attribute [local go_sem] max2_int min2_int max_two min_two max_three min_three max_four min_four
set_option linter.unusedVariables false
set_option linter.unusedSimpArgs false
mutual
def impl_RingOk.j0 : Nat → Bool → List (S35) → Int → Int → Int → Option (Bool)
  | 0, _, _, _, _, _ => none
  | k + 1, x33, x118000, x118001, x118002, x118003 => if x33 = true then (some false) else (impl_RingOk.l0 k x118002 x118000 (x118000.length : Int) 0 x118000 x118001 x118002 x118003)
def impl_RingOk.l0 : Nat → Int → List (S35) → Int → Int → List (S35) → Int → Int → Int → Option (Bool)
  | 0, _, _, _, _, _, _, _, _ => none
  | k + 1, x3, x37, x38, x39, x118000, x118001, x118002, x118003 => if x39 < x38 then (if 0 ≤ x39 then (if x39 < (x37.length : Int) then (if ((rd_T35 x37 x39).f0) = 1 then (impl_RingOk.l0 k (wrap64 (x3 + 1)) x37 x38 (wrap64 (x39 + 1)) x118000 x118001 x118002 x118003) else (impl_RingOk.l0 k (wrap64 (x3 + ((rd_T35 x37 x39).f3))) x37 x38 (wrap64 (x39 + 1)) x118000 x118001 x118002 x118003)) else (none)) else (none)) else (some (decide (x3 ≤ x118003)))
end
def impl_RingOk.f (k : Nat) (l0_0 : List (S35)) (a0_1 : Int) (a0_2 : Int) (a0_3 : Int) : Option (Bool) := if (l0_0.length : Int) > 4 then (impl_RingOk.j0 k true l0_0 a0_1 a0_2 a0_3) else ((impl_areItems.f k l0_0).bind fun t118 => (if t118 = true then ((impl_within.f a0_1 0 5).bind fun t119 => (if t119 = true then ((impl_within.f a0_2 0 1000000000).bind fun t120 => (if t120 = true then ((impl_within.f a0_3 0 1000000000).bind fun t121 => (impl_RingOk.j0 k (!t121) l0_0 a0_1 a0_2 a0_3)) else (impl_RingOk.j0 k true l0_0 a0_1 a0_2 a0_3))) else (impl_RingOk.j0 k true l0_0 a0_1 a0_2 a0_3))) else (impl_RingOk.j0 k true l0_0 a0_1 a0_2 a0_3)))
set_option maxHeartbeats 8000000 in
set_option maxRecDepth 100000 in
theorem impl_RingOk.calls (k : Nat) (A0_0 : Option Addr) (c0_0 : Nat) (l0_0 : List (S35)) (a0_1 : Int) (a0_2 : Int) (a0_3 : Int) (r : Bool) (w : World) (hr0_0 : Kd.C k35 w A0_0 l0_0.length l0_0) (hc0_0 : l0_0.length ≤ c0_0) (h : impl_RingOk.f k l0_0 a0_1 a0_2 a0_3 = some r) :
 Calls Try.prog 54 #[.agg #[.slice A0_0 l0_0.length c0_0, .int .i64 a0_1, .int .i64 a0_2, .int .i64 a0_3]] w fun e w' => e = .returned (.bool r) ∧ Below w.heap.size w w' := by
 have hu52 := Try.underlying52;have hu35 := Try.underlying35;have HR0_0 := Aside0.mk hr0_0;have HC0_0 := Aside0.mk hc0_0;clear hr0_0 hc0_0;have HB := Aside0.mk (Below.refl w.heap.size w)
 have H : (if (l0_0.length : Int) > 4 then (impl_RingOk.j0 k true l0_0 a0_1 a0_2 a0_3) else ((impl_areItems.f k l0_0).bind fun t118 => (if t118 = true then ((impl_within.f a0_1 0 5).bind fun t119 => (if t119 = true then ((impl_within.f a0_2 0 1000000000).bind fun t120 => (if t120 = true then ((impl_within.f a0_3 0 1000000000).bind fun t121 => (impl_RingOk.j0 k (!t121) l0_0 a0_1 a0_2 a0_3)) else (impl_RingOk.j0 k true l0_0 a0_1 a0_2 a0_3))) else (impl_RingOk.j0 k true l0_0 a0_1 a0_2 a0_3))) else (impl_RingOk.j0 k true l0_0 a0_1 a0_2 a0_3)))) = some r := h
 clear h;have HC2 := Aside0.mk H;clear H;go_enter Try.func54, Try.ntmps54
 go_upto_region 1 with (first|((with_reducible refine gN 1 ?_);refine boxZ 1 #[.slice A0_0 l0_0.length c0_0, .int .i64 a0_1, .int .i64 a0_2, .int .i64 a0_3] 52 ?_;intro gb117 hg w3 hbox hb;have BK117 := Aside0.mk (hbox);have GW117 := gS hg;have GE117 := gS hg;replace HB := sB hb;clear hb hbox hg))
 (try simp only [Act.put, List.setIfInBounds_toArray, List.set_cons_zero, List.set_cons_succ])
 go_cut [33] (fun v33 wc => ∃ (kq : Nat) (x33_1 : Bool), v33 = .bool x33_1 ∧ Aside0 (impl_RingOk.j0 kq x33_1 l0_0 a0_1 a0_2 a0_3 = some r) ∧ Aside0 (kq ≤ k) ∧ Aside0 (wc.heap[gb117]? = some (.cells #[(.slice A0_0 l0_0.length c0_0), .int .i64 a0_1, .int .i64 a0_2, .int .i64 a0_3] 52 (0, 0))) ∧ Aside0 (Below w.heap.size w wc))
 case first =>
  have H := HC2.out;clear HC2;by_cases c4 : (l0_0.length : Int) > 4
  ·rw [if_pos c4] at H;have c4b0 : decide (4 < (l0_0.length : Int)) = true := decide_eq_true c4
   have c4b1 : decide (4 < l0_0.length) = true := decide_eq_true (by omega)
   clear c4
   (first | rw [c4b0] | (simp only [i64_w, i32_w]; rw [c4b0]) | skip)
   have H' := Aside0.mk H;clear H;obtain ⟨hcz5_0, hcz5_1, hcz5_2, hcz5_3, hfz5_0, hfz5_1, hfz5_2, hfz5_3⟩ := cz4 BK117;go_wp2;go_meet
   case rel => exact ⟨_, (true), rS, H', ⟨oL⟩, ⟨mK BK117⟩, ⟨cB⟩⟩
  ·rw [if_neg c4] at H;have c4b0 : decide (4 < (l0_0.length : Int)) = false := decide_eq_false c4
   have c4b1 : decide (4 < l0_0.length) = false := decide_eq_false (by omega)
   clear c4
   (first | rw [c4b0] | (simp only [i64_w, i32_w]; rw [c4b0]) | skip)
   replace H := bE H;obtain ⟨t118, A6, H⟩ := H;by_cases c7 : t118 = true
   ·subst c7;replace H := iT H;replace H := bE H;obtain ⟨t119, A8, H⟩ := H;by_cases c9 : t119 = true
    ·subst c9;replace H := iT H;replace H := bE H;obtain ⟨t120, A10, H⟩ := H;by_cases c11 : t120 = true
     ·subst c11;replace H := iT H;replace H := bE H;obtain ⟨t121, A12, H⟩ := H;have H' := Aside0.mk H;clear H;obtain ⟨hcz13_0, hcz13_1, hcz13_2, hcz13_3, hfz13_0, hfz13_1, hfz13_2, hfz13_3⟩ := cz4 BK117
      go_wp2_with (first|(go_at_call 97;(with_reducible refine (impl_areItems.calls k _ _ l0_0 true _ ?side1 ?side2 A6.out).mono ?_);(case side1 => exact cC (Kd.C_below HR0_0.out HB.out));(case side2 => exact HC0_0.out);rintro e w14 ⟨rfl, hb⟩;replace BK117 := kB BK117 hb;replace HB := sB hb;(try clear hb);obtain ⟨hcz15_0, hcz15_1, hcz15_2, hcz15_3, hfz15_0, hfz15_1, hfz15_2, hfz15_3⟩ := cz4 BK117)|(go_at_call 66;(with_reducible refine (impl_within.calls a0_1 0 5 true _ A8.out).mono ?_);rintro e w' ⟨rfl, ⟨nd, rfl⟩⟩)|(go_at_call 66;(with_reducible refine (impl_within.calls a0_2 0 1000000000 true _ A10.out).mono ?_);rintro e w' ⟨rfl, ⟨nd, rfl⟩⟩)|(go_at_call 66;(with_reducible refine (impl_within.calls a0_3 0 1000000000 t121 _ A12.out).mono ?_);rintro e w' ⟨rfl, ⟨nd, rfl⟩⟩))
      go_meet
      case rel => exact ⟨_, (!t121), rS, H', ⟨oL⟩, ⟨mK BK117⟩, ⟨cB⟩⟩
     ·replace c11 := Bool.eq_false_iff.mpr c11;subst c11;replace H := iF H;have H' := Aside0.mk H;clear H;obtain ⟨hcz16_0, hcz16_1, hcz16_2, hcz16_3, hfz16_0, hfz16_1, hfz16_2, hfz16_3⟩ := cz4 BK117
      go_wp2_with (first|(go_at_call 97;(with_reducible refine (impl_areItems.calls k _ _ l0_0 true _ ?side1 ?side2 A6.out).mono ?_);(case side1 => exact cC (Kd.C_below HR0_0.out HB.out));(case side2 => exact HC0_0.out);rintro e w17 ⟨rfl, hb⟩;replace BK117 := kB BK117 hb;replace HB := sB hb;(try clear hb);obtain ⟨hcz18_0, hcz18_1, hcz18_2, hcz18_3, hfz18_0, hfz18_1, hfz18_2, hfz18_3⟩ := cz4 BK117)|(go_at_call 66;(with_reducible refine (impl_within.calls a0_1 0 5 true _ A8.out).mono ?_);rintro e w' ⟨rfl, ⟨nd, rfl⟩⟩)|(go_at_call 66;(with_reducible refine (impl_within.calls a0_2 0 1000000000 false _ A10.out).mono ?_);rintro e w' ⟨rfl, ⟨nd, rfl⟩⟩))
      go_meet
      case rel => exact ⟨_, (true), rS, H', ⟨oL⟩, ⟨mK BK117⟩, ⟨cB⟩⟩
    ·replace c9 := Bool.eq_false_iff.mpr c9;subst c9;replace H := iF H;have H' := Aside0.mk H;clear H;obtain ⟨hcz19_0, hcz19_1, hcz19_2, hcz19_3, hfz19_0, hfz19_1, hfz19_2, hfz19_3⟩ := cz4 BK117
     go_wp2_with (first|(go_at_call 97;(with_reducible refine (impl_areItems.calls k _ _ l0_0 true _ ?side1 ?side2 A6.out).mono ?_);(case side1 => exact cC (Kd.C_below HR0_0.out HB.out));(case side2 => exact HC0_0.out);rintro e w20 ⟨rfl, hb⟩;replace BK117 := kB BK117 hb;replace HB := sB hb;(try clear hb);obtain ⟨hcz21_0, hcz21_1, hcz21_2, hcz21_3, hfz21_0, hfz21_1, hfz21_2, hfz21_3⟩ := cz4 BK117)|(go_at_call 66;(with_reducible refine (impl_within.calls a0_1 0 5 false _ A8.out).mono ?_);rintro e w' ⟨rfl, ⟨nd, rfl⟩⟩))
     go_meet
     case rel => exact ⟨_, (true), rS, H', ⟨oL⟩, ⟨mK BK117⟩, ⟨cB⟩⟩
   ·replace c7 := Bool.eq_false_iff.mpr c7;subst c7;replace H := iF H;have H' := Aside0.mk H;clear H;obtain ⟨hcz22_0, hcz22_1, hcz22_2, hcz22_3, hfz22_0, hfz22_1, hfz22_2, hfz22_3⟩ := cz4 BK117
    go_wp2_with (first|(go_at_call 97;(with_reducible refine (impl_areItems.calls k _ _ l0_0 false _ ?side1 ?side2 A6.out).mono ?_);(case side1 => exact cC (Kd.C_below HR0_0.out HB.out));(case side2 => exact HC0_0.out);rintro e w23 ⟨rfl, hb⟩;replace BK117 := kB BK117 hb;replace HB := sB hb;(try clear hb)))
    go_meet
    case rel => exact ⟨_, (true), rS, H', ⟨oL⟩, ⟨mK BK117⟩, ⟨cB⟩⟩
 case rest =>
  clear HC2;(try clear c4);(try clear c4b0);(try clear c4b1);(try clear c7);(try clear c9);(try clear c11);(try clear hcz13_0);(try clear hcz13_1);(try clear hcz13_2);(try clear hcz13_3);(try clear hcz15_0);(try clear hcz15_1);(try clear hcz15_2);(try clear hcz15_3);(try clear hcz16_0);(try clear hcz16_1);(try clear hcz16_2);(try clear hcz16_3);(try clear hcz18_0);(try clear hcz18_1);(try clear hcz18_2);(try clear hcz18_3);(try clear hcz19_0);(try clear hcz19_1);(try clear hcz19_2);(try clear hcz19_3);(try clear hcz21_0);(try clear hcz21_1);(try clear hcz21_2);(try clear hcz21_3);(try clear hcz22_0);(try clear hcz22_1);(try clear hcz22_2);(try clear hcz22_3);(try clear hcz5_0);(try clear hcz5_1);(try clear hcz5_2);(try clear hcz5_3);(try clear hfz13_0);(try clear hfz13_1);(try clear hfz13_2);(try clear hfz13_3);(try clear hfz15_0);(try clear hfz15_1);(try clear hfz15_2);(try clear hfz15_3);(try clear hfz16_0);(try clear hfz16_1);(try clear hfz16_2);(try clear hfz16_3);(try clear hfz18_0);(try clear hfz18_1);(try clear hfz18_2);(try clear hfz18_3);(try clear hfz19_0);(try clear hfz19_1);(try clear hfz19_2);(try clear hfz19_3);(try clear hfz21_0);(try clear hfz21_1);(try clear hfz21_2);(try clear hfz21_3);(try clear hfz22_0);(try clear hfz22_1);(try clear hfz22_2);(try clear hfz22_3);(try clear hfz5_0);(try clear hfz5_1);(try clear hfz5_2);(try clear hfz5_3);obtain ⟨kq, x33_1, rfl, HA, HJ1, BK117, HB⟩ := hcut
  cases kq with
  | zero => exact absurd HA.out (by simp [impl_RingOk.j0])
  | succ kj1 =>
   have H := HA.out;clear HA;simp only [impl_RingOk.j0] at H;by_cases c24 : x33_1 = true
   ·subst c24;replace H := iT H;obtain rfl := Option.some.inj H;go_wp2;go_ret;exact ⟨rE, cB⟩
   ·replace c24 := Bool.eq_false_iff.mpr c24;subst c24;replace H := iF H;have H' := Aside0.mk H;clear H;obtain ⟨hcz25_0, hcz25_1, hcz25_2, hcz25_3, hfz25_0, hfz25_1, hfz25_2, hfz25_3⟩ := cz4 BK117;go_wp2
    go_loopg [3, 39] kj1 (fun kq v3 v39 w' => ∃ (x3_2 : Int) (x39_2 : Int), v3 = .int .i64 x3_2 ∧ v39 = .int .i64 x39_2 ∧ Aside0 (impl_RingOk.l0 kq x3_2 l0_0 (l0_0.length : Int) x39_2 l0_0 a0_1 a0_2 a0_3 = some r) ∧ Aside0 (kq ≤ kj1) ∧ Aside0 (w'.heap[gb117]? = some (.cells #[(.slice A0_0 l0_0.length c0_0), .int .i64 a0_1, .int .i64 a0_2, .int .i64 a0_3] 52 (0, 0))) ∧ Aside0 (Below w.heap.size w w'))
    case atStart => exact ⟨(a0_2), (0), rS, rS, H', ⟨Nat.le_refl _⟩, ⟨mK BK117⟩, ⟨cB⟩⟩
    case round =>
     clear H';(try clear c4);(try clear c4b0);(try clear c4b1);(try clear c7);(try clear c9);(try clear c11);(try clear c24);(try clear hcz13_0);(try clear hcz13_1);(try clear hcz13_2);(try clear hcz13_3);(try clear hcz15_0);(try clear hcz15_1);(try clear hcz15_2);(try clear hcz15_3);(try clear hcz16_0);(try clear hcz16_1);(try clear hcz16_2);(try clear hcz16_3);(try clear hcz18_0);(try clear hcz18_1);(try clear hcz18_2);(try clear hcz18_3);(try clear hcz19_0);(try clear hcz19_1);(try clear hcz19_2);(try clear hcz19_3);(try clear hcz21_0);(try clear hcz21_1);(try clear hcz21_2);(try clear hcz21_3);(try clear hcz22_0);(try clear hcz22_1);(try clear hcz22_2);(try clear hcz22_3);(try clear hcz25_0);(try clear hcz25_1);(try clear hcz25_2);(try clear hcz25_3);(try clear hcz5_0);(try clear hcz5_1);(try clear hcz5_2);(try clear hcz5_3);(try clear hfz13_0);(try clear hfz13_1);(try clear hfz13_2);(try clear hfz13_3);(try clear hfz15_0);(try clear hfz15_1);(try clear hfz15_2);(try clear hfz15_3);(try clear hfz16_0);(try clear hfz16_1);(try clear hfz16_2);(try clear hfz16_3);(try clear hfz18_0);(try clear hfz18_1);(try clear hfz18_2);(try clear hfz18_3);(try clear hfz19_0);(try clear hfz19_1);(try clear hfz19_2);(try clear hfz19_3);(try clear hfz21_0);(try clear hfz21_1);(try clear hfz21_2);(try clear hfz21_3);(try clear hfz22_0);(try clear hfz22_1);(try clear hfz22_2);(try clear hfz22_3);(try clear hfz25_0);(try clear hfz25_1);(try clear hfz25_2);(try clear hfz25_3);(try clear hfz5_0);(try clear hfz5_1);(try clear hfz5_2);(try clear hfz5_3);obtain ⟨x3_2, x39_2, rfl, rfl, HA, HK2, BK117, HB⟩ := hrel
     cases gk with
     | zero => exact absurd HA.out (by simp [impl_RingOk.l0])
     | succ k2 =>
      have H := HA.out;clear HA;simp only [impl_RingOk.l0] at H;by_cases c26 : x39_2 < (l0_0.length : Int)
      ·rw [if_pos c26] at H;have c26b0 := decide_eq_true c26;clear c26;replace H := gD H;obtain ⟨c27b0, H⟩ := H;replace H := gD H;obtain ⟨c28b0, H⟩ := H;by_cases c29 : ((rd_T35 l0_0 x39_2).f0) = 1
       ·rw [if_pos c29] at H;obtain ⟨c29b0, c29b1⟩ := eT c29;clear c29;have H' := Aside0.mk H;clear H;have p122 : 0 ≤ (x39_2 : Int) := dA;have q122 : x39_2 < (l0_0.length : Int) := dA;obtain ⟨ad122, e122, hx122_0, hx122_1, hx122_2, hx122_3⟩ := at_T35 HR0_0.out x39_2 p122 q122;cases e122;replace hx122_0 := bc HB hx122_0;replace hx122_1 := bc HB hx122_1;replace hx122_2 := bc HB hx122_2;replace hx122_3 := bc HB hx122_3;replace p122 := eq_true p122;replace q122 := eq_true q122
        go_wp2_with (first|((with_reducible refine gN 5 ?_);refine boxZ 5 #[.int .i64 0, .int .i64 0, .int .i64 0, .int .i64 0] 35 ?_;intro gb123 hg w30 hbox hb;have BK123 := Aside0.mk (hbox);have GW123 := gS hg;have GE123 := gS hg;replace HB := sB hb;have NB117_123 := nL hg BK117;have NB123_117 := nG hg BK117;replace BK117 := kB BK117 hb;clear hb hbox hg;have hnb31 := NB123_117.out;have hnc31 := NB117_123.out;obtain ⟨hcz32_0, hcz32_1, hcz32_2, hcz32_3, hfz32_0, hfz32_1, hfz32_2, hfz32_3⟩ := cz4 BK123))
        go_roundg k2
        case measure => have := HJ1.out; have := HK2.out; omega
        case rel => exact ⟨(wrap64 (x3_2 + 1)), (wrap64 (x39_2 + 1)), rS, rS, H', ⟨by have := HJ1.out; have := HK2.out; omega⟩, ⟨mK BK117⟩, ⟨cB⟩⟩
       ·rw [if_neg c29] at H;obtain ⟨c29b0, c29b1⟩ := eF c29;have H' := Aside0.mk H;clear H;have p122 : 0 ≤ (x39_2 : Int) := dA;have q122 : x39_2 < (l0_0.length : Int) := dA;obtain ⟨ad122, e122, hx122_0, hx122_1, hx122_2, hx122_3⟩ := at_T35 HR0_0.out x39_2 p122 q122;cases e122;replace hx122_0 := bc HB hx122_0;replace hx122_1 := bc HB hx122_1;replace hx122_2 := bc HB hx122_2;replace hx122_3 := bc HB hx122_3;replace p122 := eq_true p122;replace q122 := eq_true q122
        go_wp2_with (first|((with_reducible refine gN 5 ?_);refine boxZ 5 #[.int .i64 0, .int .i64 0, .int .i64 0, .int .i64 0] 35 ?_;intro gb123 hg w33 hbox hb;have BK123 := Aside0.mk (hbox);have GW123 := gS hg;have GE123 := gS hg;replace HB := sB hb;have NB117_123 := nL hg BK117;have NB123_117 := nG hg BK117;replace BK117 := kB BK117 hb;clear hb hbox hg;have hnb34 := NB123_117.out;have hnc34 := NB117_123.out;obtain ⟨hcz35_0, hcz35_1, hcz35_2, hcz35_3, hfz35_0, hfz35_1, hfz35_2, hfz35_3⟩ := cz4 BK123))
        go_roundg k2
        case measure => have := HJ1.out; have := HK2.out; omega
        case rel => exact ⟨(wrap64 (x3_2 + ((rd_T35 l0_0 x39_2).f3))), (wrap64 (x39_2 + 1)), rS, rS, H', ⟨by have := HJ1.out; have := HK2.out; omega⟩, ⟨mK BK117⟩, ⟨cB⟩⟩
      ·rw [if_neg c26] at H;have c26b0 := decide_eq_false c26;clear c26;obtain rfl := Option.some.inj H;obtain ⟨hcz36_0, hcz36_1, hcz36_2, hcz36_3, hfz36_0, hfz36_1, hfz36_2, hfz36_3⟩ := cz4 BK117;go_wp2;go_ret;exact ⟨rE, cB⟩
def laws_szItemS.f (l0 : List (S33)) (a1 : Int) : Option (Int) := if (wrap64 (a1 - (l0.length : Int))) < 0 then (some (-1)) else (some (wrap64 (a1 - (l0.length : Int))))
set_option maxHeartbeats 8000000 in
set_option maxRecDepth 100000 in
theorem laws_szItemS.calls (A0 : Option Addr) (c0 : Nat) (l0 : List (S33)) (a1 : Int) (r : Int) (w : World) (hr0 : Kd.C k33 w A0 l0.length l0) (hc0 : l0.length ≤ c0) (h : laws_szItemS.f l0 a1 = some r) :
 Calls Try.prog 98 #[.slice A0 l0.length c0, .int .i64 a1] w fun e w' => e = .returned (.int .i64 r) ∧ Drawn0 w w' := by
 have HR0 := Aside0.mk hr0;have HC0 := Aside0.mk hc0;clear hr0 hc0;have H : (if (wrap64 (a1 - (l0.length : Int))) < 0 then (some (-1)) else (some (wrap64 (a1 - (l0.length : Int))))) = some r := h;clear h;by_cases c3 : (wrap64 (a1 - (l0.length : Int))) < 0
 ·rw [if_pos c3] at H;have c3b0 := decide_eq_true c3;clear c3;obtain rfl := Option.some.inj H;go_enter Try.func98, Try.ntmps98;go_wp2;go_ret
  exact ⟨by first | rfl | (simp; done) | (simp [*]; done), by repeat (first | exact Drawn0.refl _ | apply Drawn0.step)⟩
 ·rw [if_neg c3] at H;have c3b0 := decide_eq_false c3;clear c3;obtain rfl := Option.some.inj H;go_enter Try.func98, Try.ntmps98;go_wp2;go_ret
  exact ⟨by first | rfl | (simp; done) | (simp [*]; done), by repeat (first | exact Drawn0.refl _ | apply Drawn0.step)⟩
def laws_szRing.f (l0_0 : List (S33)) (a0_1 : Int) (a0_2 : Int) (a0_3 : Int) (a1 : Int) : Option (Int) := (laws_szItemS.f l0_0 a1).bind fun t125 => (if t125 < 0 then (some (-1)) else (some t125))
set_option maxHeartbeats 8000000 in
set_option maxRecDepth 100000 in
theorem laws_szRing.calls (A0_0 : Option Addr) (c0_0 : Nat) (l0_0 : List (S33)) (a0_1 : Int) (a0_2 : Int) (a0_3 : Int) (a1 : Int) (r : Int) (w : World) (hr0_0 : Kd.C k33 w A0_0 l0_0.length l0_0) (hc0_0 : l0_0.length ≤ c0_0) (h : laws_szRing.f l0_0 a0_1 a0_2 a0_3 a1 = some r) :
 Calls Try.prog 55 #[.agg #[.slice A0_0 l0_0.length c0_0, .int .i64 a0_1, .int .i64 a0_2, .int .i64 a0_3], .int .i64 a1] w fun e w' => e = .returned (.int .i64 r) ∧ Below w.heap.size w w' := by
 have hu90 := Try.underlying90;have HR0_0 := Aside0.mk hr0_0;have HC0_0 := Aside0.mk hc0_0;clear hr0_0 hc0_0;have HB := Aside0.mk (Below.refl w.heap.size w)
 have H : ((laws_szItemS.f l0_0 a1).bind fun t125 => (if t125 < 0 then (some (-1)) else (some t125))) = some r := h
 clear h;replace H := bE H;obtain ⟨t125, A3, H⟩ := H;by_cases c4 : t125 < 0
 ·rw [if_pos c4] at H;have c4b0 := decide_eq_true c4;clear c4;obtain rfl := Option.some.inj H;go_enter Try.func55, Try.ntmps55
  go_wp2_with (first|((with_reducible refine gN 2 ?_);refine boxZ 2 #[.slice A0_0 l0_0.length c0_0, .int .i64 a0_1, .int .i64 a0_2, .int .i64 a0_3] 90 ?_;intro gb124 hg w5 hbox hb;have BK124 := Aside0.mk (hbox);have GW124 := gS hg;have GE124 := gS hg;replace HB := sB hb;clear hb hbox hg;obtain ⟨hcz6_0, hcz6_1, hcz6_2, hcz6_3, hfz6_0, hfz6_1, hfz6_2, hfz6_3⟩ := cz4 BK124)|((with_reducible refine gF 98 ?_);refine goZ (some 8) Try.func98 #[.slice A0_0 l0_0.length c0_0, .int .i64 a1] ?_;(with_reducible refine (laws_szItemS.calls _ _ l0_0 a1 t125 _ ?side1 ?side2 A3.out).mono ?_);(case side1 => exact cC (Kd.C_below HR0_0.out HB.out));(case side2 => exact HC0_0.out);rintro e w' ⟨rfl, ⟨nd, rfl⟩⟩;refine ⟨_, rfl, ?_⟩))
  go_ret;exact ⟨rE, cB⟩
 ·rw [if_neg c4] at H;have c4b0 := decide_eq_false c4;clear c4;obtain rfl := Option.some.inj H;go_enter Try.func55, Try.ntmps55
  go_wp2_with (first|((with_reducible refine gN 2 ?_);refine boxZ 2 #[.slice A0_0 l0_0.length c0_0, .int .i64 a0_1, .int .i64 a0_2, .int .i64 a0_3] 90 ?_;intro gb124 hg w7 hbox hb;have BK124 := Aside0.mk (hbox);have GW124 := gS hg;have GE124 := gS hg;replace HB := sB hb;clear hb hbox hg;obtain ⟨hcz8_0, hcz8_1, hcz8_2, hcz8_3, hfz8_0, hfz8_1, hfz8_2, hfz8_3⟩ := cz4 BK124)|((with_reducible refine gF 98 ?_);refine goZ (some 8) Try.func98 #[.slice A0_0 l0_0.length c0_0, .int .i64 a1] ?_;(with_reducible refine (laws_szItemS.calls _ _ l0_0 a1 t125 _ ?side1 ?side2 A3.out).mono ?_);(case side1 => exact cC (Kd.C_below HR0_0.out HB.out));(case side2 => exact HC0_0.out);rintro e w' ⟨rfl, ⟨nd, rfl⟩⟩;refine ⟨_, rfl, ?_⟩))
  go_ret;exact ⟨rE, cB⟩
def spec_l01In.f (a0 : Int) (a1 : Int) (a2 : Int) : Option (Bool) := if a0 ≥ a1 then (some (decide (a0 ≤ a2))) else (some false)
set_option maxHeartbeats 8000000 in
set_option maxRecDepth 100000 in
theorem spec_l01In.calls (a0 : Int) (a1 : Int) (a2 : Int) (r : Bool) (w : World) (h : spec_l01In.f a0 a1 a2 = some r) :
 Calls Try.prog 63 #[.int .i64 a0, .int .i64 a1, .int .i64 a2] w fun e w' => e = .returned (.bool r) ∧ Drawn0 w w' := by
 have H : (if a0 ≥ a1 then (some (decide (a0 ≤ a2))) else (some false)) = some r := h;clear h;by_cases c4 : a0 ≥ a1
 ·rw [if_pos c4] at H;have c4b0 : decide (a1 ≤ a0) = true := decide_eq_true c4;clear c4;obtain rfl := Option.some.inj H;go_enter Try.func63, Try.ntmps63;go_wp2;go_ret
  exact ⟨by first | rfl | (simp; done) | (simp [*]; done), by repeat (first | exact Drawn0.refl _ | apply Drawn0.step)⟩
 ·rw [if_neg c4] at H;have c4b0 : decide (a1 ≤ a0) = false := decide_eq_false c4;clear c4;obtain rfl := Option.some.inj H;go_enter Try.func63, Try.ntmps63;go_wp2;go_ret
  exact ⟨by first | rfl | (simp; done) | (simp [*]; done), by repeat (first | exact Drawn0.refl _ | apply Drawn0.step)⟩
def spec_HalfOk.f (a0 : Int) : Option (Bool) := (spec_l01In.f a0 0 4294967295).bind fun t126 => (some t126)
set_option maxHeartbeats 8000000 in
set_option maxRecDepth 100000 in
theorem spec_HalfOk.calls (a0 : Int) (r : Bool) (w : World) (h : spec_HalfOk.f a0 = some r) :
 Calls Try.prog 68 #[.int .i64 a0] w fun e w' => e = .returned (.bool r) ∧ Drawn0 w w' := by
 have H : ((spec_l01In.f a0 0 4294967295).bind fun t126 => (some t126)) = some r := h
 clear h;replace H := bE H;obtain ⟨t126, A2, H⟩ := H;obtain rfl := Option.some.inj H;go_enter Try.func68, Try.ntmps68
 go_wp2_with (first|((with_reducible refine gF 63 ?_);refine goZ (some 4) Try.func63 #[.int .i64 a0, .int .i64 0, .int .i64 4294967295] ?_;(with_reducible refine (spec_l01In.calls a0 0 4294967295 t126 _ A2.out).mono ?_);rintro e w' ⟨rfl, ⟨nd, rfl⟩⟩;refine ⟨_, rfl, ?_⟩))
 go_ret
 exact ⟨by first | rfl | (simp; done) | (simp [*]; done), by repeat (first | exact Drawn0.refl _ | apply Drawn0.step)⟩
def spec_ItemOk.f (a0_0 : Int) (a0_1 : Int) (a0_2 : Int) (a0_3 : Int) : Option (Bool) := if a0_0 = 1 then ((spec_HalfOk.f a0_1).bind fun t128 => (if t128 = true then ((spec_HalfOk.f a0_2).bind fun t129 => (if t129 = true then (some (a0_3 == 0)) else (some false))) else (some false))) else (if a0_0 = 2 then ((spec_l01In.f a0_3 1 1000000000).bind fun t130 => (if t130 = true then (if a0_1 = 0 then (some (a0_2 == 0)) else (some false)) else (some false))) else (some false))
set_option maxHeartbeats 8000000 in
set_option maxRecDepth 100000 in
theorem spec_ItemOk.calls (a0_0 : Int) (a0_1 : Int) (a0_2 : Int) (a0_3 : Int) (r : Bool) (w : World) (h : spec_ItemOk.f a0_0 a0_1 a0_2 a0_3 = some r) :
 Calls Try.prog 18 #[.agg #[.int .i64 a0_0, .int .i64 a0_1, .int .i64 a0_2, .int .i64 a0_3]] w fun e w' => e = .returned (.bool r) ∧ Below w.heap.size w w' := by
 have hu35 := Try.underlying35;have HB := Aside0.mk (Below.refl w.heap.size w)
 have H : (if a0_0 = 1 then ((spec_HalfOk.f a0_1).bind fun t128 => (if t128 = true then ((spec_HalfOk.f a0_2).bind fun t129 => (if t129 = true then (some (a0_3 == 0)) else (some false))) else (some false))) else (if a0_0 = 2 then ((spec_l01In.f a0_3 1 1000000000).bind fun t130 => (if t130 = true then (if a0_1 = 0 then (some (a0_2 == 0)) else (some false)) else (some false))) else (some false))) = some r := h
 clear h;by_cases c2 : a0_0 = 1
 ·rw [if_pos c2] at H;obtain ⟨c2b0, c2b1⟩ := eT c2;clear c2;replace H := bE H;obtain ⟨t128, A3, H⟩ := H;by_cases c4 : t128 = true
  ·subst c4;replace H := iT H;replace H := bE H;obtain ⟨t129, A5, H⟩ := H;by_cases c6 : t129 = true
   ·subst c6;replace H := iT H;obtain rfl := Option.some.inj H;go_enter Try.func18, Try.ntmps18
    go_wp2_with (first|((with_reducible refine gN 1 ?_);refine boxZ 1 #[.int .i64 a0_0, .int .i64 a0_1, .int .i64 a0_2, .int .i64 a0_3] 35 ?_;intro gb127 hg w7 hbox hb;have BK127 := Aside0.mk (hbox);have GW127 := gS hg;have GE127 := gS hg;replace HB := sB hb;clear hb hbox hg;obtain ⟨hcz8_0, hcz8_1, hcz8_2, hcz8_3, hfz8_0, hfz8_1, hfz8_2, hfz8_3⟩ := cz4 BK127)|((with_reducible refine gF 68 ?_);refine goZ (some 8) Try.func68 #[.int .i64 a0_1] ?_;(with_reducible refine (spec_HalfOk.calls a0_1 true _ A3.out).mono ?_);rintro e w' ⟨rfl, ⟨nd, rfl⟩⟩;refine ⟨_, rfl, ?_⟩)|(go_at_call 68;(with_reducible refine (spec_HalfOk.calls a0_2 true _ A5.out).mono ?_);rintro e w' ⟨rfl, ⟨nd, rfl⟩⟩))
    go_ret;exact ⟨rE, cB⟩
   ·replace c6 := Bool.eq_false_iff.mpr c6;subst c6;replace H := iF H;obtain rfl := Option.some.inj H;go_enter Try.func18, Try.ntmps18
    go_wp2_with (first|((with_reducible refine gN 1 ?_);refine boxZ 1 #[.int .i64 a0_0, .int .i64 a0_1, .int .i64 a0_2, .int .i64 a0_3] 35 ?_;intro gb127 hg w9 hbox hb;have BK127 := Aside0.mk (hbox);have GW127 := gS hg;have GE127 := gS hg;replace HB := sB hb;clear hb hbox hg;obtain ⟨hcz10_0, hcz10_1, hcz10_2, hcz10_3, hfz10_0, hfz10_1, hfz10_2, hfz10_3⟩ := cz4 BK127)|((with_reducible refine gF 68 ?_);refine goZ (some 8) Try.func68 #[.int .i64 a0_1] ?_;(with_reducible refine (spec_HalfOk.calls a0_1 true _ A3.out).mono ?_);rintro e w' ⟨rfl, ⟨nd, rfl⟩⟩;refine ⟨_, rfl, ?_⟩)|(go_at_call 68;(with_reducible refine (spec_HalfOk.calls a0_2 false _ A5.out).mono ?_);rintro e w' ⟨rfl, ⟨nd, rfl⟩⟩))
    go_ret;exact ⟨rE, cB⟩
  ·replace c4 := Bool.eq_false_iff.mpr c4;subst c4;replace H := iF H;obtain rfl := Option.some.inj H;go_enter Try.func18, Try.ntmps18
   go_wp2_with (first|((with_reducible refine gN 1 ?_);refine boxZ 1 #[.int .i64 a0_0, .int .i64 a0_1, .int .i64 a0_2, .int .i64 a0_3] 35 ?_;intro gb127 hg w11 hbox hb;have BK127 := Aside0.mk (hbox);have GW127 := gS hg;have GE127 := gS hg;replace HB := sB hb;clear hb hbox hg;obtain ⟨hcz12_0, hcz12_1, hcz12_2, hcz12_3, hfz12_0, hfz12_1, hfz12_2, hfz12_3⟩ := cz4 BK127)|((with_reducible refine gF 68 ?_);refine goZ (some 8) Try.func68 #[.int .i64 a0_1] ?_;(with_reducible refine (spec_HalfOk.calls a0_1 false _ A3.out).mono ?_);rintro e w' ⟨rfl, ⟨nd, rfl⟩⟩;refine ⟨_, rfl, ?_⟩))
   go_ret;exact ⟨rE, cB⟩
 ·rw [if_neg c2] at H;obtain ⟨c2b0, c2b1⟩ := eF c2;by_cases c13 : a0_0 = 2
  ·rw [if_pos c13] at H;obtain ⟨c13b0, c13b1⟩ := eT c13;clear c13;replace H := bE H;obtain ⟨t130, A14, H⟩ := H;by_cases c15 : t130 = true
   ·subst c15;replace H := iT H;by_cases c16 : a0_1 = 0
    ·rw [if_pos c16] at H;obtain ⟨c16b0, c16b1⟩ := eT c16;clear c16;obtain rfl := Option.some.inj H;go_enter Try.func18, Try.ntmps18
     go_wp2_with (first|((with_reducible refine gN 1 ?_);refine boxZ 1 #[.int .i64 a0_0, .int .i64 a0_1, .int .i64 a0_2, .int .i64 a0_3] 35 ?_;intro gb127 hg w17 hbox hb;have BK127 := Aside0.mk (hbox);have GW127 := gS hg;have GE127 := gS hg;replace HB := sB hb;clear hb hbox hg;obtain ⟨hcz18_0, hcz18_1, hcz18_2, hcz18_3, hfz18_0, hfz18_1, hfz18_2, hfz18_3⟩ := cz4 BK127)|(go_at_call 63;(with_reducible refine (spec_l01In.calls a0_3 1 1000000000 true _ A14.out).mono ?_);rintro e w' ⟨rfl, ⟨nd, rfl⟩⟩))
     go_ret;exact ⟨rE, cB⟩
    ·rw [if_neg c16] at H;obtain ⟨c16b0, c16b1⟩ := eF c16;obtain rfl := Option.some.inj H;go_enter Try.func18, Try.ntmps18
     go_wp2_with (first|((with_reducible refine gN 1 ?_);refine boxZ 1 #[.int .i64 a0_0, .int .i64 a0_1, .int .i64 a0_2, .int .i64 a0_3] 35 ?_;intro gb127 hg w19 hbox hb;have BK127 := Aside0.mk (hbox);have GW127 := gS hg;have GE127 := gS hg;replace HB := sB hb;clear hb hbox hg;obtain ⟨hcz20_0, hcz20_1, hcz20_2, hcz20_3, hfz20_0, hfz20_1, hfz20_2, hfz20_3⟩ := cz4 BK127)|(go_at_call 63;(with_reducible refine (spec_l01In.calls a0_3 1 1000000000 true _ A14.out).mono ?_);rintro e w' ⟨rfl, ⟨nd, rfl⟩⟩))
     go_ret;exact ⟨rE, cB⟩
   ·replace c15 := Bool.eq_false_iff.mpr c15;subst c15;replace H := iF H;obtain rfl := Option.some.inj H;go_enter Try.func18, Try.ntmps18
    go_wp2_with (first|((with_reducible refine gN 1 ?_);refine boxZ 1 #[.int .i64 a0_0, .int .i64 a0_1, .int .i64 a0_2, .int .i64 a0_3] 35 ?_;intro gb127 hg w21 hbox hb;have BK127 := Aside0.mk (hbox);have GW127 := gS hg;have GE127 := gS hg;replace HB := sB hb;clear hb hbox hg;obtain ⟨hcz22_0, hcz22_1, hcz22_2, hcz22_3, hfz22_0, hfz22_1, hfz22_2, hfz22_3⟩ := cz4 BK127)|(go_at_call 63;(with_reducible refine (spec_l01In.calls a0_3 1 1000000000 false _ A14.out).mono ?_);rintro e w' ⟨rfl, ⟨nd, rfl⟩⟩))
    go_ret;exact ⟨rE, cB⟩
  ·rw [if_neg c13] at H;obtain ⟨c13b0, c13b1⟩ := eF c13;obtain rfl := Option.some.inj H;go_enter Try.func18, Try.ntmps18
   go_wp2_with (first|((with_reducible refine gN 1 ?_);refine boxZ 1 #[.int .i64 a0_0, .int .i64 a0_1, .int .i64 a0_2, .int .i64 a0_3] 35 ?_;intro gb127 hg w23 hbox hb;have BK127 := Aside0.mk (hbox);have GW127 := gS hg;have GE127 := gS hg;replace HB := sB hb;clear hb hbox hg;obtain ⟨hcz24_0, hcz24_1, hcz24_2, hcz24_3, hfz24_0, hfz24_1, hfz24_2, hfz24_3⟩ := cz4 BK127))
   go_ret;exact ⟨rE, cB⟩
def spec_l16Length.f (a0_0 : Int) (a0_1 : Int) (a0_2 : Int) (a0_3 : Int) : Option (Int) := if a0_0 = 2 then (some a0_3) else (some 1)
set_option maxHeartbeats 8000000 in
set_option maxRecDepth 100000 in
theorem spec_l16Length.calls (a0_0 : Int) (a0_1 : Int) (a0_2 : Int) (a0_3 : Int) (r : Int) (w : World) (h : spec_l16Length.f a0_0 a0_1 a0_2 a0_3 = some r) :
 Calls Try.prog 99 #[.agg #[.int .i64 a0_0, .int .i64 a0_1, .int .i64 a0_2, .int .i64 a0_3]] w fun e w' => e = .returned (.int .i64 r) ∧ Below w.heap.size w w' := by
 have hu35 := Try.underlying35;have HB := Aside0.mk (Below.refl w.heap.size w);have H : (if a0_0 = 2 then (some a0_3) else (some 1)) = some r := h;clear h;by_cases c2 : a0_0 = 2
 ·rw [if_pos c2] at H;obtain ⟨c2b0, c2b1⟩ := eT c2;clear c2;obtain rfl := Option.some.inj H;go_enter Try.func99, Try.ntmps99
  go_wp2_with (first|((with_reducible refine gN 1 ?_);refine boxZ 1 #[.int .i64 a0_0, .int .i64 a0_1, .int .i64 a0_2, .int .i64 a0_3] 35 ?_;intro gb131 hg w3 hbox hb;have BK131 := Aside0.mk (hbox);have GW131 := gS hg;have GE131 := gS hg;replace HB := sB hb;clear hb hbox hg;obtain ⟨hcz4_0, hcz4_1, hcz4_2, hcz4_3, hfz4_0, hfz4_1, hfz4_2, hfz4_3⟩ := cz4 BK131))
  go_ret;exact ⟨rE, cB⟩
 ·rw [if_neg c2] at H;obtain ⟨c2b0, c2b1⟩ := eF c2;obtain rfl := Option.some.inj H;go_enter Try.func99, Try.ntmps99
  go_wp2_with (first|((with_reducible refine gN 1 ?_);refine boxZ 1 #[.int .i64 a0_0, .int .i64 a0_1, .int .i64 a0_2, .int .i64 a0_3] 35 ?_;intro gb131 hg w5 hbox hb;have BK131 := Aside0.mk (hbox);have GW131 := gS hg;have GE131 := gS hg;replace HB := sB hb;clear hb hbox hg;obtain ⟨hcz6_0, hcz6_1, hcz6_2, hcz6_3, hfz6_0, hfz6_1, hfz6_2, hfz6_3⟩ := cz4 BK131))
  go_ret;exact ⟨rE, cB⟩
end Go.Proofs.Ytlmofdeakhfmhaa.PFnExactRingOk
