import Derived.Test.YtlgndgjbfjefpaaPFnCondLinesy0
import Derived.Test.YtlgndgjbfjefpaaPFnCondLinesy2
import Derived.Test.YtlgndgjbfjefpaaPFnCondLinesy9
namespace Go.Proofs.Ytlgndgjbfjefpaa.PFnCondLines
open Go.RowKit Go.Proofs.YtlgndgjbfjefpaaW.PrintWords Go.Proofs.YtlgndgjbfjefpaaW.PrintLast Go.Proofs.YtlgndgjbfjefpaaW.PrintMore Go.Proofs.YtlgndgjbfjefpaaW.Z
attribute [local go_sem] isS max2_int min2_int max_two min_two max_three min_three max_four min_four
set_option linter.unusedVariables false
set_option linter.unusedSimpArgs false
mutual
def spec_InsOk.j0 : Nat → Bool → Int → Int → Int → Int → Option (Bool)
  | 0, _, _, _, _, _ => none
  | k + 1, x24, x513000, x513001, x513002, x513003 => if x24 = true then (some false) else ((spec_l06Ask.f x513000).bind fun t517 => (if t517 = true then (spec_InsOk.j1 k false x513000 x513001 x513002 x513003) else (if x513002 = 0 then (spec_InsOk.j1 k (x513003 != 0) x513000 x513001 x513002 x513003) else (spec_InsOk.j1 k true x513000 x513001 x513002 x513003))))
def spec_InsOk.j1 : Nat → Bool → Int → Int → Int → Int → Option (Bool)
  | 0, _, _, _, _, _ => none
  | k + 1, x38, x513000, x513001, x513002, x513003 => if x38 = true then (some false) else (if x513000 = 1 then (some (decide (x513001 < 8))) else (if x513000 = 7 then (some (decide (x513001 < 400))) else (some true)))
end
def spec_InsOk.f (k : Nat) (a0_0 : Int) (a0_1 : Int) (a0_2 : Int) (a0_3 : Int) : Option (Bool) := (spec_l01In.f a0_0 1 8).bind fun t513 => (if t513 = true then ((spec_HalfOk.f a0_1).bind fun t514 => (if t514 = true then ((spec_l01In.f a0_2 0 15).bind fun t515 => (if t515 = true then ((spec_l01In.f a0_3 0 15).bind fun t516 => (spec_InsOk.j0 k (!t516) a0_0 a0_1 a0_2 a0_3)) else (spec_InsOk.j0 k true a0_0 a0_1 a0_2 a0_3))) else (spec_InsOk.j0 k true a0_0 a0_1 a0_2 a0_3))) else (spec_InsOk.j0 k true a0_0 a0_1 a0_2 a0_3))
set_option maxHeartbeats 8000000 in
set_option maxRecDepth 100000 in
theorem spec_InsOk.calls (k : Nat) (a0_0 : Int) (a0_1 : Int) (a0_2 : Int) (a0_3 : Int) (r : Bool) (w : World) (h : spec_InsOk.f k a0_0 a0_1 a0_2 a0_3 = some r) :
 Calls Try.prog 139 #[.agg #[.int .i64 a0_0, .int .i64 a0_1, .int .i64 a0_2, .int .i64 a0_3]] w fun e w' => e = .returned (.bool r) ∧ Below w.heap.size w w' := by
 have hu93 := Try.underlying93;have HB := Aside0.mk (Below.refl w.heap.size w)
 have H : ((spec_l01In.f a0_0 1 8).bind fun t513 => (if t513 = true then ((spec_HalfOk.f a0_1).bind fun t514 => (if t514 = true then ((spec_l01In.f a0_2 0 15).bind fun t515 => (if t515 = true then ((spec_l01In.f a0_3 0 15).bind fun t516 => (spec_InsOk.j0 k (!t516) a0_0 a0_1 a0_2 a0_3)) else (spec_InsOk.j0 k true a0_0 a0_1 a0_2 a0_3))) else (spec_InsOk.j0 k true a0_0 a0_1 a0_2 a0_3))) else (spec_InsOk.j0 k true a0_0 a0_1 a0_2 a0_3))) = some r := h
 clear h;have HC2 := Aside0.mk H;clear H;go_enter Try.func139, Try.ntmps139
 go_upto_region 1 with (first|((with_reducible refine gN 1 ?_);refine boxZ 1 #[.int .i64 a0_0, .int .i64 a0_1, .int .i64 a0_2, .int .i64 a0_3] 93 ?_;intro gb512 hg w3 hbox hb;have BK512 := Aside0.mk (hbox);have GW512 := gS hg;have GE512 := gS hg;replace HB := sB hb;clear hb hbox hg))
 (try simp only [Act.put, List.setIfInBounds_toArray, List.set_cons_zero, List.set_cons_succ])
 go_cut [24] (fun v24 wc => ∃ (kq : Nat) (x24_1 : Bool), v24 = .bool x24_1 ∧ Aside0 (spec_InsOk.j0 kq x24_1 a0_0 a0_1 a0_2 a0_3 = some r) ∧ Aside0 (kq ≤ k) ∧ Aside0 (wc.heap[gb512]? = some (.cells #[.int .i64 a0_0, .int .i64 a0_1, .int .i64 a0_2, .int .i64 a0_3] 93 (0, 0))) ∧ Aside0 (Below w.heap.size w wc))
 case first =>
  have H := HC2.out;clear HC2;replace H := bE H;obtain ⟨t513, A4, H⟩ := H;by_cases c5 : t513 = true
  ·subst c5;replace H := iT H;replace H := bE H;obtain ⟨t514, A6, H⟩ := H;by_cases c7 : t514 = true
   ·subst c7;replace H := iT H;replace H := bE H;obtain ⟨t515, A8, H⟩ := H;by_cases c9 : t515 = true
    ·subst c9;replace H := iT H;replace H := bE H;obtain ⟨t516, A10, H⟩ := H;have H' := Aside0.mk H;clear H;obtain ⟨hcz11_0, hcz11_1, hcz11_2, hcz11_3, hfz11_0, hfz11_1, hfz11_2, hfz11_3⟩ := cz4 BK512
     go_wp2_with (first|((with_reducible refine gF 100 ?_);refine goZ (some 5) Try.func100 #[.int .i64 a0_0, .int .i64 1, .int .i64 8] ?_;(with_reducible refine (spec_l01In.calls a0_0 1 8 true _ A4.out).mono ?_);rintro e w' ⟨rfl, ⟨nd, rfl⟩⟩;refine ⟨_, rfl, ?_⟩)|(go_at_call 96;(with_reducible refine (spec_HalfOk.calls a0_1 true _ A6.out).mono ?_);rintro e w' ⟨rfl, ⟨nd, rfl⟩⟩)|(go_at_call 100;(with_reducible refine (spec_l01In.calls a0_2 0 15 true _ A8.out).mono ?_);rintro e w' ⟨rfl, ⟨nd, rfl⟩⟩)|(go_at_call 100;(with_reducible refine (spec_l01In.calls a0_3 0 15 t516 _ A10.out).mono ?_);rintro e w' ⟨rfl, ⟨nd, rfl⟩⟩))
     go_meet
     case rel => exact ⟨_, (!t516), rS, H', ⟨oL⟩, ⟨mK BK512⟩, ⟨cB⟩⟩
    ·replace c9 := Bool.eq_false_iff.mpr c9;subst c9;replace H := iF H;have H' := Aside0.mk H;clear H;obtain ⟨hcz12_0, hcz12_1, hcz12_2, hcz12_3, hfz12_0, hfz12_1, hfz12_2, hfz12_3⟩ := cz4 BK512
     go_wp2_with (first|((with_reducible refine gF 100 ?_);refine goZ (some 5) Try.func100 #[.int .i64 a0_0, .int .i64 1, .int .i64 8] ?_;(with_reducible refine (spec_l01In.calls a0_0 1 8 true _ A4.out).mono ?_);rintro e w' ⟨rfl, ⟨nd, rfl⟩⟩;refine ⟨_, rfl, ?_⟩)|(go_at_call 96;(with_reducible refine (spec_HalfOk.calls a0_1 true _ A6.out).mono ?_);rintro e w' ⟨rfl, ⟨nd, rfl⟩⟩)|(go_at_call 100;(with_reducible refine (spec_l01In.calls a0_2 0 15 false _ A8.out).mono ?_);rintro e w' ⟨rfl, ⟨nd, rfl⟩⟩))
     go_meet
     case rel => exact ⟨_, (true), rS, H', ⟨oL⟩, ⟨mK BK512⟩, ⟨cB⟩⟩
   ·replace c7 := Bool.eq_false_iff.mpr c7;subst c7;replace H := iF H;have H' := Aside0.mk H;clear H;obtain ⟨hcz13_0, hcz13_1, hcz13_2, hcz13_3, hfz13_0, hfz13_1, hfz13_2, hfz13_3⟩ := cz4 BK512
    go_wp2_with (first|((with_reducible refine gF 100 ?_);refine goZ (some 5) Try.func100 #[.int .i64 a0_0, .int .i64 1, .int .i64 8] ?_;(with_reducible refine (spec_l01In.calls a0_0 1 8 true _ A4.out).mono ?_);rintro e w' ⟨rfl, ⟨nd, rfl⟩⟩;refine ⟨_, rfl, ?_⟩)|(go_at_call 96;(with_reducible refine (spec_HalfOk.calls a0_1 false _ A6.out).mono ?_);rintro e w' ⟨rfl, ⟨nd, rfl⟩⟩))
    go_meet
    case rel => exact ⟨_, (true), rS, H', ⟨oL⟩, ⟨mK BK512⟩, ⟨cB⟩⟩
  ·replace c5 := Bool.eq_false_iff.mpr c5;subst c5;replace H := iF H;have H' := Aside0.mk H;clear H;obtain ⟨hcz14_0, hcz14_1, hcz14_2, hcz14_3, hfz14_0, hfz14_1, hfz14_2, hfz14_3⟩ := cz4 BK512
   go_wp2_with (first|((with_reducible refine gF 100 ?_);refine goZ (some 5) Try.func100 #[.int .i64 a0_0, .int .i64 1, .int .i64 8] ?_;(with_reducible refine (spec_l01In.calls a0_0 1 8 false _ A4.out).mono ?_);rintro e w' ⟨rfl, ⟨nd, rfl⟩⟩;refine ⟨_, rfl, ?_⟩))
   go_meet
   case rel => exact ⟨_, (true), rS, H', ⟨oL⟩, ⟨mK BK512⟩, ⟨cB⟩⟩
 case rest =>
  clear HC2;(try clear c5);(try clear c7);(try clear c9);(try clear hcz11_0);(try clear hcz11_1);(try clear hcz11_2);(try clear hcz11_3);(try clear hcz12_0);(try clear hcz12_1);(try clear hcz12_2);(try clear hcz12_3);(try clear hcz13_0);(try clear hcz13_1);(try clear hcz13_2);(try clear hcz13_3);(try clear hcz14_0);(try clear hcz14_1);(try clear hcz14_2);(try clear hcz14_3);(try clear hfz11_0);(try clear hfz11_1);(try clear hfz11_2);(try clear hfz11_3);(try clear hfz12_0);(try clear hfz12_1);(try clear hfz12_2);(try clear hfz12_3);(try clear hfz13_0);(try clear hfz13_1);(try clear hfz13_2);(try clear hfz13_3);(try clear hfz14_0);(try clear hfz14_1);(try clear hfz14_2);(try clear hfz14_3);obtain ⟨kq, x24_1, rfl, HA, HJ1, BK512, HB⟩ := hcut
  cases kq with
  | zero => exact absurd HA.out (by simp [spec_InsOk.j0])
  | succ kj1 =>
   have H := HA.out;clear HA;simp only [spec_InsOk.j0] at H;by_cases c15 : x24_1 = true
   ·subst c15;replace H := iT H;obtain rfl := Option.some.inj H;go_wp2;go_ret;exact ⟨rE, cB⟩
   ·replace c15 := Bool.eq_false_iff.mpr c15;subst c15;replace H := iF H;have HC16 := Aside0.mk H;clear H
    go_upto_region 3 with (fail)
    go_cut [38] (fun v38 wc => ∃ (kq : Nat) (x38_15 : Bool), v38 = .bool x38_15 ∧ Aside0 (spec_InsOk.j1 kq x38_15 a0_0 a0_1 a0_2 a0_3 = some r) ∧ Aside0 (kq ≤ kj1) ∧ Aside0 (wc.heap[gb512]? = some (.cells #[.int .i64 a0_0, .int .i64 a0_1, .int .i64 a0_2, .int .i64 a0_3] 93 (0, 0))) ∧ Aside0 (Below w.heap.size w wc))
    case first =>
     have H := HC16.out;clear HC16;replace H := bE H;obtain ⟨t517, A17, H⟩ := H;by_cases c18 : t517 = true
     ·subst c18;replace H := iT H;have H' := Aside0.mk H;clear H;obtain ⟨hcz19_0, hcz19_1, hcz19_2, hcz19_3, hfz19_0, hfz19_1, hfz19_2, hfz19_3⟩ := cz4 BK512
      go_wp2_with (first|((with_reducible refine gF 134 ?_);refine goZ (some 27) Try.func134 #[.int .i64 a0_0] ?_;(with_reducible refine (spec_l06Ask.calls a0_0 true _ A17.out).mono ?_);rintro e w' ⟨rfl, ⟨nd, rfl⟩⟩;refine ⟨_, rfl, ?_⟩))
      go_meet
      case rel => exact ⟨_, (false), rS, H', ⟨by have := HJ1.out; first | omega | exact Nat.le_refl _⟩, ⟨mK BK512⟩, ⟨cB⟩⟩
     ·replace c18 := Bool.eq_false_iff.mpr c18;subst c18;replace H := iF H;by_cases c20 : a0_2 = 0
      ·rw [if_pos c20] at H;obtain ⟨c20b0, c20b1⟩ := eT c20;clear c20
       (first | rw [c20b0] | (simp only [i64_w, i32_w]; rw [c20b0]) | skip)
       have H' := Aside0.mk H;clear H;obtain ⟨hcz21_0, hcz21_1, hcz21_2, hcz21_3, hfz21_0, hfz21_1, hfz21_2, hfz21_3⟩ := cz4 BK512
       go_wp2_with (first|((with_reducible refine gF 134 ?_);refine goZ (some 27) Try.func134 #[.int .i64 a0_0] ?_;(with_reducible refine (spec_l06Ask.calls a0_0 false _ A17.out).mono ?_);rintro e w' ⟨rfl, ⟨nd, rfl⟩⟩;refine ⟨_, rfl, ?_⟩))
       go_meet
       case rel => exact ⟨_, ((a0_3 != 0)), rS, H', ⟨by have := HJ1.out; first | omega | exact Nat.le_refl _⟩, ⟨mK BK512⟩, ⟨cB⟩⟩
      ·rw [if_neg c20] at H;obtain ⟨c20b0, c20b1⟩ := eF c20
       (first | rw [c20b0] | (simp only [i64_w, i32_w]; rw [c20b0]) | skip)
       have H' := Aside0.mk H;clear H;obtain ⟨hcz22_0, hcz22_1, hcz22_2, hcz22_3, hfz22_0, hfz22_1, hfz22_2, hfz22_3⟩ := cz4 BK512
       go_wp2_with (first|((with_reducible refine gF 134 ?_);refine goZ (some 27) Try.func134 #[.int .i64 a0_0] ?_;(with_reducible refine (spec_l06Ask.calls a0_0 false _ A17.out).mono ?_);rintro e w' ⟨rfl, ⟨nd, rfl⟩⟩;refine ⟨_, rfl, ?_⟩))
       go_meet
       case rel => exact ⟨_, (true), rS, H', ⟨by have := HJ1.out; first | omega | exact Nat.le_refl _⟩, ⟨mK BK512⟩, ⟨cB⟩⟩
    case rest =>
     clear HC16;(try clear c5);(try clear c7);(try clear c9);(try clear c15);(try clear c18);(try clear c20);(try clear c20b0);(try clear c20b1);(try clear hcz11_0);(try clear hcz11_1);(try clear hcz11_2);(try clear hcz11_3);(try clear hcz12_0);(try clear hcz12_1);(try clear hcz12_2);(try clear hcz12_3);(try clear hcz13_0);(try clear hcz13_1);(try clear hcz13_2);(try clear hcz13_3);(try clear hcz14_0);(try clear hcz14_1);(try clear hcz14_2);(try clear hcz14_3);(try clear hcz19_0);(try clear hcz19_1);(try clear hcz19_2);(try clear hcz19_3);(try clear hcz21_0);(try clear hcz21_1);(try clear hcz21_2);(try clear hcz21_3);(try clear hcz22_0);(try clear hcz22_1);(try clear hcz22_2);(try clear hcz22_3);(try clear hfz11_0);(try clear hfz11_1);(try clear hfz11_2);(try clear hfz11_3);(try clear hfz12_0);(try clear hfz12_1);(try clear hfz12_2);(try clear hfz12_3);(try clear hfz13_0);(try clear hfz13_1);(try clear hfz13_2);(try clear hfz13_3);(try clear hfz14_0);(try clear hfz14_1);(try clear hfz14_2);(try clear hfz14_3);(try clear hfz19_0);(try clear hfz19_1);(try clear hfz19_2);(try clear hfz19_3);(try clear hfz21_0);(try clear hfz21_1);(try clear hfz21_2);(try clear hfz21_3);(try clear hfz22_0);(try clear hfz22_1);(try clear hfz22_2);(try clear hfz22_3);obtain ⟨kq, x38_15, rfl, HA, HJ15, BK512, HB⟩ := hcut
     cases kq with
     | zero => exact absurd HA.out (by simp [spec_InsOk.j1])
     | succ kj15 =>
      have H := HA.out;clear HA;simp only [spec_InsOk.j1] at H;by_cases c23 : x38_15 = true
      ·subst c23;replace H := iT H;obtain rfl := Option.some.inj H;go_wp2;go_ret;exact ⟨rE, cB⟩
      ·replace c23 := Bool.eq_false_iff.mpr c23;subst c23;replace H := iF H;by_cases c24 : a0_0 = 1
       ·rw [if_pos c24] at H;obtain ⟨c24b0, c24b1⟩ := eT c24;clear c24;obtain rfl := Option.some.inj H;obtain ⟨hcz25_0, hcz25_1, hcz25_2, hcz25_3, hfz25_0, hfz25_1, hfz25_2, hfz25_3⟩ := cz4 BK512;go_wp2;go_ret;exact ⟨rE, cB⟩
       ·rw [if_neg c24] at H;obtain ⟨c24b0, c24b1⟩ := eF c24;by_cases c26 : a0_0 = 7
        ·rw [if_pos c26] at H;obtain ⟨c26b0, c26b1⟩ := eT c26;clear c26;obtain rfl := Option.some.inj H;obtain ⟨hcz27_0, hcz27_1, hcz27_2, hcz27_3, hfz27_0, hfz27_1, hfz27_2, hfz27_3⟩ := cz4 BK512;go_wp2;go_ret;exact ⟨rE, cB⟩
        ·rw [if_neg c26] at H;obtain ⟨c26b0, c26b1⟩ := eF c26;obtain rfl := Option.some.inj H;obtain ⟨hcz28_0, hcz28_1, hcz28_2, hcz28_3, hfz28_0, hfz28_1, hfz28_2, hfz28_3⟩ := cz4 BK512;go_wp2;go_ret;exact ⟨rE, cB⟩
def spec_l11At.l0 : Nat → List (S95) → ByteArray → Int → Option (Int)
  | 0, _, _, _ => none
  | k + 1, x0, x1, x5 => if x5 < (x0.length : Int) then (if 0 ≤ x5 then ((spec_l11Place.f ((rd_T95 x0 x5).f0) ((rd_T95 x0 x5).f1.f0) ((rd_T95 x0 x5).f1.f1) ((rd_T95 x0 x5).f1.f2) ((rd_T95 x0 x5).f1.f3) ((rd_T95 x0 x5).f2) ((rd_T95 x0 x5).f3)).bind fun t519 => (if t519 = true then (if ((rd_T95 x0 x5).f0).toList = x1.toList then (some x5) else (spec_l11At.l0 k x0 x1 (wrap64 (x5 + 1)))) else (spec_l11At.l0 k x0 x1 (wrap64 (x5 + 1))))) else (none)) else (some (-1))
def spec_l11At.f (k : Nat) (l0 : List (S95)) (a1 : ByteArray) : Option (Int) := spec_l11At.l0 k l0 a1 0
set_option maxHeartbeats 8000000 in
set_option maxRecDepth 100000 in
theorem spec_l11At.calls (k : Nat) (A0 : Option Addr) (c0 : Nat) (l0 : List (S95)) (a1 : ByteArray) (r : Int) (w : World) (hr0 : Kd.C k95 w A0 l0.length l0) (hc0 : l0.length ≤ c0) (h : spec_l11At.f k l0 a1 = some r) :
 Calls Try.prog 163 #[.slice A0 l0.length c0, .string a1] w fun e w' => e = .returned (.int .i64 r) ∧ Below w.heap.size w w' := by
 have hu95 := Try.underlying95;have HR0 := Aside0.mk hr0;have HC0 := Aside0.mk hc0;clear hr0 hc0;have HB := Aside0.mk (Below.refl w.heap.size w);have H : (spec_l11At.l0 k l0 a1 0) = some r := h;clear h;have H' := Aside0.mk H;clear H;go_enter Try.func163, Try.ntmps163;go_wp2
 go_loopg [5] k (fun kq v5 w' => ∃ (x5_1 : Int), v5 = .int .i64 x5_1 ∧ Aside0 (spec_l11At.l0 kq l0 a1 x5_1 = some r) ∧ Aside0 (kq ≤ k) ∧ Aside0 (Below w.heap.size w w'))
 case atStart => exact ⟨(0), rS, H', ⟨Nat.le_refl _⟩, ⟨cB⟩⟩
 case round =>
  clear H';obtain ⟨x5_1, rfl, HA, HK1, HB⟩ := hrel
  cases gk with
  | zero => exact absurd HA.out (by simp [spec_l11At.l0])
  | succ k1 =>
   have H := HA.out;clear HA;simp only [spec_l11At.l0] at H;by_cases c3 : x5_1 < (l0.length : Int)
   ·rw [if_pos c3] at H;have c3b0 := decide_eq_true c3;clear c3;replace H := gD H;obtain ⟨c4b0, H⟩ := H;replace H := bE H;obtain ⟨t519, A5, H⟩ := H;by_cases c6 : t519 = true
    ·subst c6;replace H := iT H;by_cases c7 : ((rd_T95 l0 x5_1).f0).toList = a1.toList
     ·rw [if_pos c7] at H;obtain ⟨c7b0, c7b1⟩ := eT c7;clear c7;obtain rfl := Option.some.inj H;have p518 : 0 ≤ (x5_1 : Int) := dA;have q518 : x5_1 < (l0.length : Int) := dA;obtain ⟨ad518, e518, hx518_0, hx518_1, hx518_2, hx518_3, hx518_4, hx518_5, hx518_6⟩ := at_T95 HR0.out x5_1 p518 q518;cases e518;replace hx518_0 := (bc HB hx518_0 :);replace hx518_1 := (bc HB hx518_1 :);replace hx518_2 := (bc HB hx518_2 :);replace hx518_3 := (bc HB hx518_3 :);replace hx518_4 := (bc HB hx518_4 :);replace hx518_5 := (bc HB hx518_5 :);replace hx518_6 := (bc HB hx518_6 :);replace p518 := eq_true p518;replace q518 := eq_true q518
      go_wp2_with (first|((with_reducible refine gF 137 ?_);refine goZ (some 16) Try.func137 #[.agg #[.string ((rd_T95 l0 x5_1).f0), .int .i64 ((rd_T95 l0 x5_1).f1.f0), .int .i64 ((rd_T95 l0 x5_1).f1.f1), .int .i64 ((rd_T95 l0 x5_1).f1.f2), .int .i64 ((rd_T95 l0 x5_1).f1.f3), .string ((rd_T95 l0 x5_1).f2), .string ((rd_T95 l0 x5_1).f3)]] ?_;(with_reducible refine (spec_l11Place.calls ((rd_T95 l0 x5_1).f0) ((rd_T95 l0 x5_1).f1.f0) ((rd_T95 l0 x5_1).f1.f1) ((rd_T95 l0 x5_1).f1.f2) ((rd_T95 l0 x5_1).f1.f3) ((rd_T95 l0 x5_1).f2) ((rd_T95 l0 x5_1).f3) true _ A5.out).mono ?_);rintro e w8 ⟨rfl, hb⟩;refine ⟨_, rfl, ?_⟩;replace HB := sB hb;(try clear hb);have p520 : 0 ≤ (x5_1 : Int) := dA;have q520 : x5_1 < (l0.length : Int) := dA;obtain ⟨ad520, e520, hx520_0, hx520_1, hx520_2, hx520_3, hx520_4, hx520_5, hx520_6⟩ := at_T95 HR0.out x5_1 p520 q520;obtain rfl : ad518 = ad520 := (by injection e520);replace hx520_0 := (bc HB hx520_0 :);replace hx520_1 := (bc HB hx520_1 :);replace hx520_2 := (bc HB hx520_2 :);replace hx520_3 := (bc HB hx520_3 :);replace hx520_4 := (bc HB hx520_4 :);replace hx520_5 := (bc HB hx520_5 :);replace hx520_6 := (bc HB hx520_6 :);replace p520 := eq_true p520;replace q520 := eq_true q520))
      go_ret;exact ⟨rE, cB⟩
     ·rw [if_neg c7] at H;obtain ⟨c7b0, c7b1⟩ := eF c7;have H' := Aside0.mk H;clear H;have p518 : 0 ≤ (x5_1 : Int) := dA;have q518 : x5_1 < (l0.length : Int) := dA;obtain ⟨ad518, e518, hx518_0, hx518_1, hx518_2, hx518_3, hx518_4, hx518_5, hx518_6⟩ := at_T95 HR0.out x5_1 p518 q518;cases e518;replace hx518_0 := (bc HB hx518_0 :);replace hx518_1 := (bc HB hx518_1 :);replace hx518_2 := (bc HB hx518_2 :);replace hx518_3 := (bc HB hx518_3 :);replace hx518_4 := (bc HB hx518_4 :);replace hx518_5 := (bc HB hx518_5 :);replace hx518_6 := (bc HB hx518_6 :);replace p518 := eq_true p518;replace q518 := eq_true q518
      go_wp2_with (first|((with_reducible refine gF 137 ?_);refine goZ (some 16) Try.func137 #[.agg #[.string ((rd_T95 l0 x5_1).f0), .int .i64 ((rd_T95 l0 x5_1).f1.f0), .int .i64 ((rd_T95 l0 x5_1).f1.f1), .int .i64 ((rd_T95 l0 x5_1).f1.f2), .int .i64 ((rd_T95 l0 x5_1).f1.f3), .string ((rd_T95 l0 x5_1).f2), .string ((rd_T95 l0 x5_1).f3)]] ?_;(with_reducible refine (spec_l11Place.calls ((rd_T95 l0 x5_1).f0) ((rd_T95 l0 x5_1).f1.f0) ((rd_T95 l0 x5_1).f1.f1) ((rd_T95 l0 x5_1).f1.f2) ((rd_T95 l0 x5_1).f1.f3) ((rd_T95 l0 x5_1).f2) ((rd_T95 l0 x5_1).f3) true _ A5.out).mono ?_);rintro e w9 ⟨rfl, hb⟩;refine ⟨_, rfl, ?_⟩;replace HB := sB hb;(try clear hb);have p520 : 0 ≤ (x5_1 : Int) := dA;have q520 : x5_1 < (l0.length : Int) := dA;obtain ⟨ad520, e520, hx520_0, hx520_1, hx520_2, hx520_3, hx520_4, hx520_5, hx520_6⟩ := at_T95 HR0.out x5_1 p520 q520;obtain rfl : ad518 = ad520 := (by injection e520);replace hx520_0 := (bc HB hx520_0 :);replace hx520_1 := (bc HB hx520_1 :);replace hx520_2 := (bc HB hx520_2 :);replace hx520_3 := (bc HB hx520_3 :);replace hx520_4 := (bc HB hx520_4 :);replace hx520_5 := (bc HB hx520_5 :);replace hx520_6 := (bc HB hx520_6 :);replace p520 := eq_true p520;replace q520 := eq_true q520))
      go_roundg k1
      case measure => have := HK1.out; omega
      case rel => exact ⟨(wrap64 (x5_1 + 1)), rS, H', ⟨by have := HK1.out; omega⟩, ⟨cB⟩⟩
    ·replace c6 := Bool.eq_false_iff.mpr c6;subst c6;replace H := iF H;have H' := Aside0.mk H;clear H;have p518 : 0 ≤ (x5_1 : Int) := dA;have q518 : x5_1 < (l0.length : Int) := dA;obtain ⟨ad518, e518, hx518_0, hx518_1, hx518_2, hx518_3, hx518_4, hx518_5, hx518_6⟩ := at_T95 HR0.out x5_1 p518 q518;cases e518;replace hx518_0 := (bc HB hx518_0 :);replace hx518_1 := (bc HB hx518_1 :);replace hx518_2 := (bc HB hx518_2 :);replace hx518_3 := (bc HB hx518_3 :);replace hx518_4 := (bc HB hx518_4 :);replace hx518_5 := (bc HB hx518_5 :);replace hx518_6 := (bc HB hx518_6 :);replace p518 := eq_true p518;replace q518 := eq_true q518
     go_wp2_with (first|((with_reducible refine gF 137 ?_);refine goZ (some 16) Try.func137 #[.agg #[.string ((rd_T95 l0 x5_1).f0), .int .i64 ((rd_T95 l0 x5_1).f1.f0), .int .i64 ((rd_T95 l0 x5_1).f1.f1), .int .i64 ((rd_T95 l0 x5_1).f1.f2), .int .i64 ((rd_T95 l0 x5_1).f1.f3), .string ((rd_T95 l0 x5_1).f2), .string ((rd_T95 l0 x5_1).f3)]] ?_;(with_reducible refine (spec_l11Place.calls ((rd_T95 l0 x5_1).f0) ((rd_T95 l0 x5_1).f1.f0) ((rd_T95 l0 x5_1).f1.f1) ((rd_T95 l0 x5_1).f1.f2) ((rd_T95 l0 x5_1).f1.f3) ((rd_T95 l0 x5_1).f2) ((rd_T95 l0 x5_1).f3) false _ A5.out).mono ?_);rintro e w10 ⟨rfl, hb⟩;refine ⟨_, rfl, ?_⟩;replace HB := sB hb;(try clear hb)))
     go_roundg k1
     case measure => have := HK1.out; omega
     case rel => exact ⟨(wrap64 (x5_1 + 1)), rS, H', ⟨by have := HK1.out; omega⟩, ⟨cB⟩⟩
   ·rw [if_neg c3] at H;have c3b0 := decide_eq_false c3;clear c3;obtain rfl := Option.some.inj H;go_wp2;go_ret;exact ⟨rE, cB⟩
end Go.Proofs.Ytlgndgjbfjefpaa.PFnCondLines
