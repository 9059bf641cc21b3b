import Derived.Test.YtlgndgjbfjefpaaPFnCondLinesy0
import Derived.Test.YtlgndgjbfjefpaaPFnCondLinesy2
namespace Go.Proofs.Ytlgndgjbfjefpaa.PFnCondLines
open Go.RowKit Go.Proofs.YtlgndgjbfjefpaaW.PrintWords Go.Proofs.YtlgndgjbfjefpaaW.PrintLast Go.Proofs.YtlgndgjbfjefpaaW.PrintMore Go.Proofs.YtlgndgjbfjefpaaW.Z
attribute [local go_sem] isS max2_int min2_int max_two min_two max_three min_three max_four min_four
set_option linter.unusedVariables false
set_option linter.unusedSimpArgs false
def spec_CondOk.f (a0_0 : Int) (a0_1 : Int) (a0_2 : Int) (a0_3 : Int) (a0_4 : Int) (a0_5 : Int) : Option (Bool) := (spec_l01In.f a0_0 0 2).bind fun t292 => (if t292 = true then ((spec_WideOk.f a0_1 a0_2).bind fun t293 => (if t293 = true then ((spec_WideOk.f a0_4 a0_5).bind fun t294 => (if t294 = true then ((spec_l01In.f a0_3 1 6).bind fun t295 => (some t295)) else (some false))) else (some false))) else (some false))
set_option maxHeartbeats 8000000 in
set_option maxRecDepth 100000 in
theorem spec_CondOk.calls (a0_0 : Int) (a0_1 : Int) (a0_2 : Int) (a0_3 : Int) (a0_4 : Int) (a0_5 : Int) (r : Bool) (w : World) (h : spec_CondOk.f a0_0 a0_1 a0_2 a0_3 a0_4 a0_5 = some r) :
 Calls Try.prog 41 #[.agg #[.int .i64 a0_0, .int .i64 a0_1, .int .i64 a0_2, .int .i64 a0_3, .int .i64 a0_4, .int .i64 a0_5]] w fun e w' => e = .returned (.bool r) ∧ Below w.heap.size w w' := by
 have hu50 := Try.underlying50;have hu48 := Try.underlying48;have HB := Aside0.mk (Below.refl w.heap.size w)
 have H : ((spec_l01In.f a0_0 0 2).bind fun t292 => (if t292 = true then ((spec_WideOk.f a0_1 a0_2).bind fun t293 => (if t293 = true then ((spec_WideOk.f a0_4 a0_5).bind fun t294 => (if t294 = true then ((spec_l01In.f a0_3 1 6).bind fun t295 => (some t295)) else (some false))) else (some false))) else (some false))) = some r := h
 clear h;replace H := bE H;obtain ⟨t292, A2, H⟩ := H;by_cases c3 : t292 = true
 ·subst c3;replace H := iT H;replace H := bE H;obtain ⟨t293, A4, H⟩ := H;by_cases c5 : t293 = true
  ·subst c5;replace H := iT H;replace H := bE H;obtain ⟨t294, A6, H⟩ := H;by_cases c7 : t294 = true
   ·subst c7;replace H := iT H;replace H := bE H;obtain ⟨t295, A8, H⟩ := H;obtain rfl := Option.some.inj H;go_enter Try.func41, Try.ntmps41
    go_wp2_with (first|((with_reducible refine gN 1 ?_);refine boxZ 1 #[.int .i64 a0_0, .int .i64 a0_1, .int .i64 a0_2, .int .i64 a0_3, .int .i64 a0_4, .int .i64 a0_5] 50 ?_;intro gb291 hg w9 hbox hb;have BK291 := Aside0.mk (hbox);have GW291 := gS hg;have GE291 := gS hg;replace HB := sB hb;clear hb hbox hg;obtain ⟨hcz10_0, hcz10_1, hcz10_2, hcz10_3, hcz10_4, hcz10_5, hfz10_0, hfz10_1, hfz10_2, hfz10_3, hfz10_4, hfz10_5⟩ := cz6 BK291)|((with_reducible refine gF 100 ?_);refine goZ (some 5) Try.func100 #[.int .i64 a0_0, .int .i64 0, .int .i64 2] ?_;(with_reducible refine (spec_l01In.calls a0_0 0 2 true _ A2.out).mono ?_);rintro e w' ⟨rfl, ⟨nd, rfl⟩⟩;refine ⟨_, rfl, ?_⟩)|(go_at_call 104;(with_reducible refine (spec_WideOk.calls a0_1 a0_2 true _ A4.out).mono ?_);rintro e w11 ⟨rfl, hb⟩;replace BK291 := kB BK291 hb;replace HB := sB hb;(try clear hb);obtain ⟨hcz12_0, hcz12_1, hcz12_2, hcz12_3, hcz12_4, hcz12_5, hfz12_0, hfz12_1, hfz12_2, hfz12_3, hfz12_4, hfz12_5⟩ := cz6 BK291)|(go_at_call 104;(with_reducible refine (spec_WideOk.calls a0_4 a0_5 true _ A6.out).mono ?_);rintro e w13 ⟨rfl, hb⟩;replace BK291 := kB BK291 hb;replace HB := sB hb;(try clear hb);obtain ⟨hcz14_0, hcz14_1, hcz14_2, hcz14_3, hcz14_4, hcz14_5, hfz14_0, hfz14_1, hfz14_2, hfz14_3, hfz14_4, hfz14_5⟩ := cz6 BK291)|(go_at_call 100;(with_reducible refine (spec_l01In.calls a0_3 1 6 t295 _ A8.out).mono ?_);rintro e w' ⟨rfl, ⟨nd, rfl⟩⟩))
    go_ret;exact ⟨rE, cB⟩
   ·replace c7 := Bool.eq_false_iff.mpr c7;subst c7;replace H := iF H;obtain rfl := Option.some.inj H;go_enter Try.func41, Try.ntmps41
    go_wp2_with (first|((with_reducible refine gN 1 ?_);refine boxZ 1 #[.int .i64 a0_0, .int .i64 a0_1, .int .i64 a0_2, .int .i64 a0_3, .int .i64 a0_4, .int .i64 a0_5] 50 ?_;intro gb291 hg w15 hbox hb;have BK291 := Aside0.mk (hbox);have GW291 := gS hg;have GE291 := gS hg;replace HB := sB hb;clear hb hbox hg;obtain ⟨hcz16_0, hcz16_1, hcz16_2, hcz16_3, hcz16_4, hcz16_5, hfz16_0, hfz16_1, hfz16_2, hfz16_3, hfz16_4, hfz16_5⟩ := cz6 BK291)|((with_reducible refine gF 100 ?_);refine goZ (some 5) Try.func100 #[.int .i64 a0_0, .int .i64 0, .int .i64 2] ?_;(with_reducible refine (spec_l01In.calls a0_0 0 2 true _ A2.out).mono ?_);rintro e w' ⟨rfl, ⟨nd, rfl⟩⟩;refine ⟨_, rfl, ?_⟩)|(go_at_call 104;(with_reducible refine (spec_WideOk.calls a0_1 a0_2 true _ A4.out).mono ?_);rintro e w17 ⟨rfl, hb⟩;replace BK291 := kB BK291 hb;replace HB := sB hb;(try clear hb);obtain ⟨hcz18_0, hcz18_1, hcz18_2, hcz18_3, hcz18_4, hcz18_5, hfz18_0, hfz18_1, hfz18_2, hfz18_3, hfz18_4, hfz18_5⟩ := cz6 BK291)|(go_at_call 104;(with_reducible refine (spec_WideOk.calls a0_4 a0_5 false _ A6.out).mono ?_);rintro e w19 ⟨rfl, hb⟩;replace BK291 := kB BK291 hb;replace HB := sB hb;(try clear hb)))
    go_ret;exact ⟨rE, cB⟩
  ·replace c5 := Bool.eq_false_iff.mpr c5;subst c5;replace H := iF H;obtain rfl := Option.some.inj H;go_enter Try.func41, Try.ntmps41
   go_wp2_with (first|((with_reducible refine gN 1 ?_);refine boxZ 1 #[.int .i64 a0_0, .int .i64 a0_1, .int .i64 a0_2, .int .i64 a0_3, .int .i64 a0_4, .int .i64 a0_5] 50 ?_;intro gb291 hg w20 hbox hb;have BK291 := Aside0.mk (hbox);have GW291 := gS hg;have GE291 := gS hg;replace HB := sB hb;clear hb hbox hg;obtain ⟨hcz21_0, hcz21_1, hcz21_2, hcz21_3, hcz21_4, hcz21_5, hfz21_0, hfz21_1, hfz21_2, hfz21_3, hfz21_4, hfz21_5⟩ := cz6 BK291)|((with_reducible refine gF 100 ?_);refine goZ (some 5) Try.func100 #[.int .i64 a0_0, .int .i64 0, .int .i64 2] ?_;(with_reducible refine (spec_l01In.calls a0_0 0 2 true _ A2.out).mono ?_);rintro e w' ⟨rfl, ⟨nd, rfl⟩⟩;refine ⟨_, rfl, ?_⟩)|(go_at_call 104;(with_reducible refine (spec_WideOk.calls a0_1 a0_2 false _ A4.out).mono ?_);rintro e w22 ⟨rfl, hb⟩;replace BK291 := kB BK291 hb;replace HB := sB hb;(try clear hb)))
   go_ret;exact ⟨rE, cB⟩
 ·replace c3 := Bool.eq_false_iff.mpr c3;subst c3;replace H := iF H;obtain rfl := Option.some.inj H;go_enter Try.func41, Try.ntmps41
  go_wp2_with (first|((with_reducible refine gN 1 ?_);refine boxZ 1 #[.int .i64 a0_0, .int .i64 a0_1, .int .i64 a0_2, .int .i64 a0_3, .int .i64 a0_4, .int .i64 a0_5] 50 ?_;intro gb291 hg w23 hbox hb;have BK291 := Aside0.mk (hbox);have GW291 := gS hg;have GE291 := gS hg;replace HB := sB hb;clear hb hbox hg;obtain ⟨hcz24_0, hcz24_1, hcz24_2, hcz24_3, hcz24_4, hcz24_5, hfz24_0, hfz24_1, hfz24_2, hfz24_3, hfz24_4, hfz24_5⟩ := cz6 BK291)|((with_reducible refine gF 100 ?_);refine goZ (some 5) Try.func100 #[.int .i64 a0_0, .int .i64 0, .int .i64 2] ?_;(with_reducible refine (spec_l01In.calls a0_0 0 2 false _ A2.out).mono ?_);rintro e w' ⟨rfl, ⟨nd, rfl⟩⟩;refine ⟨_, rfl, ?_⟩))
  go_ret;exact ⟨rE, cB⟩
def spec_CallOk.l0 : Nat → Int → Int → Int → List (S48) → Option (Bool)
  | 0, _, _, _, _ => none
  | k + 1, x3, x297000, x297001, x297002 => if x3 < (x297002.length : Int) then (if 0 ≤ x3 then ((spec_WideOk.f ((rd_T48 x297002 x3).f0) ((rd_T48 x297002 x3).f1)).bind fun t298 => (if t298 = true then (spec_CallOk.l0 k (wrap64 (x3 + 1)) x297000 x297001 x297002) else (some false))) else (none)) else ((spec_HalfOk.f x297000).bind fun t299 => (if t299 = true then ((spec_HalfOk.f x297001).bind fun t300 => (if t300 = true then (some ((x297002.length : Int) == 3)) else (some false))) else (some false)))
def spec_CallOk.f (k : Nat) (a0_0 : Int) (a0_1 : Int) (l0_2 : List (S48)) : Option (Bool) := spec_CallOk.l0 k 0 a0_0 a0_1 l0_2
set_option maxHeartbeats 8000000 in
set_option maxRecDepth 100000 in
theorem spec_CallOk.calls (k : Nat) (a0_0 : Int) (a0_1 : Int) (A0_2 : Option Addr) (c0_2 : Nat) (l0_2 : List (S48)) (r : Bool) (w : World) (hr0_2 : Kd.C k48 w A0_2 l0_2.length l0_2) (hc0_2 : l0_2.length ≤ c0_2) (h : spec_CallOk.f k a0_0 a0_1 l0_2 = some r) :
 Calls Try.prog 111 #[.agg #[.int .i64 a0_0, .int .i64 a0_1, .slice A0_2 l0_2.length c0_2]] w fun e w' => e = .returned (.bool r) ∧ Below w.heap.size w w' := by
 have hu53 := Try.underlying53;have hu48 := Try.underlying48;have HR0_2 := Aside0.mk hr0_2;have HC0_2 := Aside0.mk hc0_2;clear hr0_2 hc0_2;have HB := Aside0.mk (Below.refl w.heap.size w);have H : (spec_CallOk.l0 k 0 a0_0 a0_1 l0_2) = some r := h;clear h;have H' := Aside0.mk H;clear H;go_enter Try.func111, Try.ntmps111
 go_wp2_with (first|((with_reducible refine gN 1 ?_);(try (refine gate_guard (by rfl) ?_; dsimp only));refine boxZ 1 #[.int .i64 a0_0, .int .i64 a0_1, .slice A0_2 l0_2.length c0_2] 53 ?_;intro gb296 hg w2 hbox hb;have BK296 := Aside0.mk (hbox);have GW296 := gS hg;have GE296 := gS hg;replace HB := sB hb;clear hb hbox hg))
 go_loopg [3] k (fun kq v3 w' => ∃ (x3_1 : Int), v3 = .int .i64 x3_1 ∧ Aside0 (spec_CallOk.l0 kq x3_1 a0_0 a0_1 l0_2 = some r) ∧ Aside0 (kq ≤ k) ∧ Aside0 (w'.heap[gb296]? = some (.cells #[.int .i64 a0_0, .int .i64 a0_1, (.slice A0_2 l0_2.length c0_2)] 53 (0, 0))) ∧ Aside0 (Below w.heap.size w w'))
 case atStart => exact ⟨(0), rS, H', ⟨Nat.le_refl _⟩, ⟨mK BK296⟩, ⟨cB⟩⟩
 case round =>
  clear H';obtain ⟨x3_1, rfl, HA, HK1, BK296, HB⟩ := hrel
  cases gk with
  | zero => exact absurd HA.out (by simp [spec_CallOk.l0])
  | succ k1 =>
   have H := HA.out;clear HA;simp only [spec_CallOk.l0] at H;by_cases c3 : x3_1 < (l0_2.length : Int)
   ·rw [if_pos c3] at H;have c3b0 := decide_eq_true c3;clear c3;replace H := gD H;obtain ⟨c4b0, H⟩ := H;replace H := bE H;obtain ⟨t298, A5, H⟩ := H;by_cases c6 : t298 = true
    ·subst c6;replace H := iT H;have H' := Aside0.mk H;clear H;obtain ⟨hcz7_0, hcz7_1, hcz7_2, hfz7_0, hfz7_1, hfz7_2⟩ := cz3 BK296;have p297 : 0 ≤ (x3_1 : Int) := dA;have q297 : x3_1 < (l0_2.length : Int) := dA;obtain ⟨ad297, e297, hx297_0, hx297_1⟩ := at_T48 HR0_2.out x3_1 p297 q297;cases e297;replace hx297_0 := (bc HB hx297_0 :);replace hx297_1 := (bc HB hx297_1 :);replace p297 := eq_true p297;replace q297 := eq_true q297
     go_wp2_with (first|((with_reducible refine gF 104 ?_);refine goZ (some 16) Try.func104 #[.agg #[.int .i64 ((rd_T48 l0_2 x3_1).f0), .int .i64 ((rd_T48 l0_2 x3_1).f1)]] ?_;(with_reducible refine (spec_WideOk.calls ((rd_T48 l0_2 x3_1).f0) ((rd_T48 l0_2 x3_1).f1) true _ A5.out).mono ?_);rintro e w8 ⟨rfl, hb⟩;refine ⟨_, rfl, ?_⟩;replace BK296 := kB BK296 hb;replace HB := sB hb;(try clear hb)))
     go_roundg k1
     case measure => have := HK1.out; omega
     case rel => exact ⟨(wrap64 (x3_1 + 1)), rS, H', ⟨by have := HK1.out; omega⟩, ⟨mK BK296⟩, ⟨cB⟩⟩
    ·replace c6 := Bool.eq_false_iff.mpr c6;subst c6;replace H := iF H;obtain rfl := Option.some.inj H;obtain ⟨hcz9_0, hcz9_1, hcz9_2, hfz9_0, hfz9_1, hfz9_2⟩ := cz3 BK296;have p297 : 0 ≤ (x3_1 : Int) := dA;have q297 : x3_1 < (l0_2.length : Int) := dA;obtain ⟨ad297, e297, hx297_0, hx297_1⟩ := at_T48 HR0_2.out x3_1 p297 q297;cases e297;replace hx297_0 := (bc HB hx297_0 :);replace hx297_1 := (bc HB hx297_1 :);replace p297 := eq_true p297;replace q297 := eq_true q297
     go_wp2_with (first|((with_reducible refine gF 104 ?_);refine goZ (some 16) Try.func104 #[.agg #[.int .i64 ((rd_T48 l0_2 x3_1).f0), .int .i64 ((rd_T48 l0_2 x3_1).f1)]] ?_;(with_reducible refine (spec_WideOk.calls ((rd_T48 l0_2 x3_1).f0) ((rd_T48 l0_2 x3_1).f1) false _ A5.out).mono ?_);rintro e w10 ⟨rfl, hb⟩;refine ⟨_, rfl, ?_⟩;replace BK296 := kB BK296 hb;replace HB := sB hb;(try clear hb)))
     go_ret;exact ⟨rE, cB⟩
   ·rw [if_neg c3] at H;have c3b0 := decide_eq_false c3;clear c3;replace H := bE H;obtain ⟨t299, A11, H⟩ := H;by_cases c12 : t299 = true
    ·subst c12;replace H := iT H;replace H := bE H;obtain ⟨t300, A13, H⟩ := H;by_cases c14 : t300 = true
     ·subst c14;replace H := iT H;obtain rfl := Option.some.inj H;obtain ⟨hcz15_0, hcz15_1, hcz15_2, hfz15_0, hfz15_1, hfz15_2⟩ := cz3 BK296
      go_wp2_with (first|((with_reducible refine gF 96 ?_);refine goZ (some 20) Try.func96 #[.int .i64 a0_0] ?_;(with_reducible refine (spec_HalfOk.calls a0_0 true _ A11.out).mono ?_);rintro e w' ⟨rfl, ⟨nd, rfl⟩⟩;refine ⟨_, rfl, ?_⟩)|(go_at_call 96;(with_reducible refine (spec_HalfOk.calls a0_1 true _ A13.out).mono ?_);rintro e w' ⟨rfl, ⟨nd, rfl⟩⟩))
      go_ret;exact ⟨rE, cB⟩
     ·replace c14 := Bool.eq_false_iff.mpr c14;subst c14;replace H := iF H;obtain rfl := Option.some.inj H;obtain ⟨hcz16_0, hcz16_1, hcz16_2, hfz16_0, hfz16_1, hfz16_2⟩ := cz3 BK296
      go_wp2_with (first|((with_reducible refine gF 96 ?_);refine goZ (some 20) Try.func96 #[.int .i64 a0_0] ?_;(with_reducible refine (spec_HalfOk.calls a0_0 true _ A11.out).mono ?_);rintro e w' ⟨rfl, ⟨nd, rfl⟩⟩;refine ⟨_, rfl, ?_⟩)|(go_at_call 96;(with_reducible refine (spec_HalfOk.calls a0_1 false _ A13.out).mono ?_);rintro e w' ⟨rfl, ⟨nd, rfl⟩⟩))
      go_ret;exact ⟨rE, cB⟩
    ·replace c12 := Bool.eq_false_iff.mpr c12;subst c12;replace H := iF H;obtain rfl := Option.some.inj H;obtain ⟨hcz17_0, hcz17_1, hcz17_2, hfz17_0, hfz17_1, hfz17_2⟩ := cz3 BK296
     go_wp2_with (first|((with_reducible refine gF 96 ?_);refine goZ (some 20) Try.func96 #[.int .i64 a0_0] ?_;(with_reducible refine (spec_HalfOk.calls a0_0 false _ A11.out).mono ?_);rintro e w' ⟨rfl, ⟨nd, rfl⟩⟩;refine ⟨_, rfl, ?_⟩))
     go_ret;exact ⟨rE, cB⟩
end Go.Proofs.Ytlgndgjbfjefpaa.PFnCondLines
