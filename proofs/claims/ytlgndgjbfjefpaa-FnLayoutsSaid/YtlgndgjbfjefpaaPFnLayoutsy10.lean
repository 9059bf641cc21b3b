import Derived.Test.YtlgndgjbfjefpaaPFnLayoutsy0
import Derived.Test.YtlgndgjbfjefpaaPFnLayoutsy7
import Derived.Test.YtlgndgjbfjefpaaPFnLayoutsy8
import Derived.Test.YtlgndgjbfjefpaaPFnLayoutsy9
namespace Go.Proofs.Ytlgndgjbfjefpaa.PFnLayouts
open Go.RowKit Go.Proofs.YtlgndgjbfjefpaaW.PrintWords Go.Proofs.YtlgndgjbfjefpaaW.PrintLast Go.Proofs.YtlgndgjbfjefpaaW.PrintMore Go.Proofs.YtlgndgjbfjefpaaW.Z
attribute [local go_sem] isS max2_int min2_int max_two min_two max_three min_three max_four min_four
set_option linter.unusedVariables false
set_option linter.unusedSimpArgs false
def spec_CallOk.l0 : Nat → Int → Int → Int → List (S48) → Option (Bool)
  | 0, _, _, _, _ => none
  | k + 1, x3, x434000, x434001, x434002 => if x3 < (x434002.length : Int) then (if 0 ≤ x3 then ((spec_WideOk.f ((rd_T48 x434002 x3).f0) ((rd_T48 x434002 x3).f1)).bind fun t435 => (if t435 = true then (spec_CallOk.l0 k (wrap64 (x3 + 1)) x434000 x434001 x434002) else (some false))) else (none)) else ((spec_HalfOk.f x434000).bind fun t436 => (if t436 = true then ((spec_HalfOk.f x434001).bind fun t437 => (if t437 = true then (some ((x434002.length : Int) == 3)) else (some false))) else (some false)))
def spec_CallOk.f (k : Nat) (a0_0 : Int) (a0_1 : Int) (l0_2 : List (S48)) : Option (Bool) := spec_CallOk.l0 k 0 a0_0 a0_1 l0_2
set_option maxHeartbeats 8000000 in
set_option maxRecDepth 100000 in
theorem spec_CallOk.calls (k : Nat) (a0_0 : Int) (a0_1 : Int) (A0_2 : Option Addr) (c0_2 : Nat) (l0_2 : List (S48)) (r : Bool) (w : World) (hr0_2 : Kd.C k48 w A0_2 l0_2.length l0_2) (hc0_2 : l0_2.length ≤ c0_2) (h : spec_CallOk.f k a0_0 a0_1 l0_2 = some r) :
 Calls Try.prog 111 #[.agg #[.int .i64 a0_0, .int .i64 a0_1, .slice A0_2 l0_2.length c0_2]] w fun e w' => e = .returned (.bool r) ∧ Below w.heap.size w w' := by
 have hu53 := Try.underlying53;have hu48 := Try.underlying48;have HR0_2 := Aside0.mk hr0_2;have HC0_2 := Aside0.mk hc0_2;clear hr0_2 hc0_2;have HB := Aside0.mk (Below.refl w.heap.size w);have H : (spec_CallOk.l0 k 0 a0_0 a0_1 l0_2) = some r := h;clear h;have H' := Aside0.mk H;clear H;go_enter Try.func111, Try.ntmps111
 go_wp2_with (first|((with_reducible refine gN 1 ?_);(try (refine gate_guard (by rfl) ?_; dsimp only));refine boxZ 1 #[.int .i64 a0_0, .int .i64 a0_1, .slice A0_2 l0_2.length c0_2] 53 ?_;intro gb433 hg w2 hbox hb;have BK433 := Aside0.mk (hbox);have GW433 := gS hg;have GE433 := gS hg;replace HB := sB hb;clear hb hbox hg))
 go_loopg [3] k (fun kq v3 w' => ∃ (x3_1 : Int), v3 = .int .i64 x3_1 ∧ Aside0 (spec_CallOk.l0 kq x3_1 a0_0 a0_1 l0_2 = some r) ∧ Aside0 (kq ≤ k) ∧ Aside0 (w'.heap[gb433]? = some (.cells #[.int .i64 a0_0, .int .i64 a0_1, (.slice A0_2 l0_2.length c0_2)] 53 (0, 0))) ∧ Aside0 (Below w.heap.size w w'))
 case atStart => exact ⟨(0), rS, H', ⟨Nat.le_refl _⟩, ⟨mK BK433⟩, ⟨cB⟩⟩
 case round =>
  clear H';obtain ⟨x3_1, rfl, HA, HK1, BK433, HB⟩ := hrel
  cases gk with
  | zero => exact absurd HA.out (by simp [spec_CallOk.l0])
  | succ k1 =>
   have H := HA.out;clear HA;simp only [spec_CallOk.l0] at H;by_cases c3 : x3_1 < (l0_2.length : Int)
   ·rw [if_pos c3] at H;have c3b0 := decide_eq_true c3;clear c3;replace H := gD H;obtain ⟨c4b0, H⟩ := H;replace H := bE H;obtain ⟨t435, A5, H⟩ := H;by_cases c6 : t435 = true
    ·subst c6;replace H := iT H;have H' := Aside0.mk H;clear H;obtain ⟨hcz7_0, hcz7_1, hcz7_2, hfz7_0, hfz7_1, hfz7_2⟩ := cz3 BK433;have p434 : 0 ≤ (x3_1 : Int) := dA;have q434 : x3_1 < (l0_2.length : Int) := dA;obtain ⟨ad434, e434, hx434_0, hx434_1⟩ := at_T48 HR0_2.out x3_1 p434 q434;cases e434;replace hx434_0 := (bc HB hx434_0 :);replace hx434_1 := (bc HB hx434_1 :);replace p434 := eq_true p434;replace q434 := eq_true q434
     go_wp2_with (first|((with_reducible refine gF 104 ?_);refine goZ (some 16) Try.func104 #[.agg #[.int .i64 ((rd_T48 l0_2 x3_1).f0), .int .i64 ((rd_T48 l0_2 x3_1).f1)]] ?_;(with_reducible refine (spec_WideOk.calls ((rd_T48 l0_2 x3_1).f0) ((rd_T48 l0_2 x3_1).f1) true _ A5.out).mono ?_);rintro e w8 ⟨rfl, hb⟩;refine ⟨_, rfl, ?_⟩;replace BK433 := kB BK433 hb;replace HB := sB hb;(try clear hb)))
     go_roundg k1
     case measure => have := HK1.out; omega
     case rel => exact ⟨(wrap64 (x3_1 + 1)), rS, H', ⟨by have := HK1.out; omega⟩, ⟨mK BK433⟩, ⟨cB⟩⟩
    ·replace c6 := Bool.eq_false_iff.mpr c6;subst c6;replace H := iF H;obtain rfl := Option.some.inj H;obtain ⟨hcz9_0, hcz9_1, hcz9_2, hfz9_0, hfz9_1, hfz9_2⟩ := cz3 BK433;have p434 : 0 ≤ (x3_1 : Int) := dA;have q434 : x3_1 < (l0_2.length : Int) := dA;obtain ⟨ad434, e434, hx434_0, hx434_1⟩ := at_T48 HR0_2.out x3_1 p434 q434;cases e434;replace hx434_0 := (bc HB hx434_0 :);replace hx434_1 := (bc HB hx434_1 :);replace p434 := eq_true p434;replace q434 := eq_true q434
     go_wp2_with (first|((with_reducible refine gF 104 ?_);refine goZ (some 16) Try.func104 #[.agg #[.int .i64 ((rd_T48 l0_2 x3_1).f0), .int .i64 ((rd_T48 l0_2 x3_1).f1)]] ?_;(with_reducible refine (spec_WideOk.calls ((rd_T48 l0_2 x3_1).f0) ((rd_T48 l0_2 x3_1).f1) false _ A5.out).mono ?_);rintro e w10 ⟨rfl, hb⟩;refine ⟨_, rfl, ?_⟩;replace BK433 := kB BK433 hb;replace HB := sB hb;(try clear hb)))
     go_ret;exact ⟨rE, cB⟩
   ·rw [if_neg c3] at H;have c3b0 := decide_eq_false c3;clear c3;replace H := bE H;obtain ⟨t436, A11, H⟩ := H;by_cases c12 : t436 = true
    ·subst c12;replace H := iT H;replace H := bE H;obtain ⟨t437, A13, H⟩ := H;by_cases c14 : t437 = true
     ·subst c14;replace H := iT H;obtain rfl := Option.some.inj H;obtain ⟨hcz15_0, hcz15_1, hcz15_2, hfz15_0, hfz15_1, hfz15_2⟩ := cz3 BK433
      go_wp2_with (first|((with_reducible refine gF 96 ?_);refine goZ (some 20) Try.func96 #[.int .i64 a0_0] ?_;(with_reducible refine (spec_HalfOk.calls a0_0 true _ A11.out).mono ?_);rintro e w' ⟨rfl, ⟨nd, rfl⟩⟩;refine ⟨_, rfl, ?_⟩)|(go_at_call 96;(with_reducible refine (spec_HalfOk.calls a0_1 true _ A13.out).mono ?_);rintro e w' ⟨rfl, ⟨nd, rfl⟩⟩))
      go_ret;exact ⟨rE, cB⟩
     ·replace c14 := Bool.eq_false_iff.mpr c14;subst c14;replace H := iF H;obtain rfl := Option.some.inj H;obtain ⟨hcz16_0, hcz16_1, hcz16_2, hfz16_0, hfz16_1, hfz16_2⟩ := cz3 BK433
      go_wp2_with (first|((with_reducible refine gF 96 ?_);refine goZ (some 20) Try.func96 #[.int .i64 a0_0] ?_;(with_reducible refine (spec_HalfOk.calls a0_0 true _ A11.out).mono ?_);rintro e w' ⟨rfl, ⟨nd, rfl⟩⟩;refine ⟨_, rfl, ?_⟩)|(go_at_call 96;(with_reducible refine (spec_HalfOk.calls a0_1 false _ A13.out).mono ?_);rintro e w' ⟨rfl, ⟨nd, rfl⟩⟩))
      go_ret;exact ⟨rE, cB⟩
    ·replace c12 := Bool.eq_false_iff.mpr c12;subst c12;replace H := iF H;obtain rfl := Option.some.inj H;obtain ⟨hcz17_0, hcz17_1, hcz17_2, hfz17_0, hfz17_1, hfz17_2⟩ := cz3 BK433
     go_wp2_with (first|((with_reducible refine gF 96 ?_);refine goZ (some 20) Try.func96 #[.int .i64 a0_0] ?_;(with_reducible refine (spec_HalfOk.calls a0_0 false _ A11.out).mono ?_);rintro e w' ⟨rfl, ⟨nd, rfl⟩⟩;refine ⟨_, rfl, ?_⟩))
     go_ret;exact ⟨rE, cB⟩
def spec_FieldAt.j0 : Nat → Int → Bool → Int → Int → List (S48) → Option (Int × Bool)
  | 0, _, _, _, _, _ => none
  | k + 1, x1, x14, x439000, x439001, x439002 => if x14 = true then (some (0, false)) else (if x1 = 0 then (some (x439001, true)) else (if x1 = 1 then (some (x439000, true)) else (if 0 ≤ (wrap64 (Int.tdiv (wrap64 (x1 - 2)) 2)) then (if (wrap64 (Int.tdiv (wrap64 (x1 - 2)) 2)) < (x439002.length : Int) then (if (Int.tmod x1 2) = 0 then (some ((rd_T48 x439002 (wrap64 (Int.tdiv (wrap64 (x1 - 2)) 2))).f1, true)) else (some ((rd_T48 x439002 (wrap64 (Int.tdiv (wrap64 (x1 - 2)) 2))).f0, true))) else (none)) else (none))))
def spec_FieldAt.f (k : Nat) (a0_0 : Int) (a0_1 : Int) (l0_2 : List (S48)) (a1 : Int) : Option (Int × Bool) := (spec_CallOk.f k a0_0 a0_1 l0_2).bind fun t439 => (if t439 = true then ((spec_l01In.f a1 0 7).bind fun t440 => (spec_FieldAt.j0 k a1 (!t440) a0_0 a0_1 l0_2)) else (spec_FieldAt.j0 k a1 true a0_0 a0_1 l0_2))
set_option maxHeartbeats 8000000 in
set_option maxRecDepth 100000 in
theorem spec_FieldAt.calls (k : Nat) (a0_0 : Int) (a0_1 : Int) (A0_2 : Option Addr) (c0_2 : Nat) (l0_2 : List (S48)) (a1 : Int) (r1 : Int) (r2 : Bool) (w : World) (hr0_2 : Kd.C k48 w A0_2 l0_2.length l0_2) (hc0_2 : l0_2.length ≤ c0_2) (h : spec_FieldAt.f k a0_0 a0_1 l0_2 a1 = some (r1, r2)) :
 Calls Try.prog 71 #[.agg #[.int .i64 a0_0, .int .i64 a0_1, .slice A0_2 l0_2.length c0_2], .int .i64 a1] w fun e w' => e = .returned (.tuple #[.int .i64 r1, .bool r2]) ∧ Below w.heap.size w w' := by
 have hu53 := Try.underlying53;have hu48 := Try.underlying48;have HR0_2 := Aside0.mk hr0_2;have HC0_2 := Aside0.mk hc0_2;clear hr0_2 hc0_2;have HB := Aside0.mk (Below.refl w.heap.size w)
 have H : ((spec_CallOk.f k a0_0 a0_1 l0_2).bind fun t439 => (if t439 = true then ((spec_l01In.f a1 0 7).bind fun t440 => (spec_FieldAt.j0 k a1 (!t440) a0_0 a0_1 l0_2)) else (spec_FieldAt.j0 k a1 true a0_0 a0_1 l0_2))) = some (r1, r2) := h
 clear h;have HC3 := Aside0.mk H;clear H;go_enter Try.func71, Try.ntmps71
 go_upto_region 1 with (first|((with_reducible refine gN 2 ?_);refine boxZ 2 #[.int .i64 a0_0, .int .i64 a0_1, .slice A0_2 l0_2.length c0_2] 53 ?_;intro gb438 hg w4 hbox hb;have BK438 := Aside0.mk (hbox);have GW438 := gS hg;have GE438 := gS hg;replace HB := sB hb;clear hb hbox hg))
 (try simp only [Act.put, List.setIfInBounds_toArray, List.set_cons_zero, List.set_cons_succ])
 go_cut [14] (fun v14 wc => ∃ (kq : Nat) (x14_2 : Bool), v14 = .bool x14_2 ∧ Aside0 (spec_FieldAt.j0 kq a1 x14_2 a0_0 a0_1 l0_2 = some (r1, r2)) ∧ Aside0 (kq ≤ k) ∧ Aside0 (wc.heap[gb438]? = some (.cells #[.int .i64 a0_0, .int .i64 a0_1, (.slice A0_2 l0_2.length c0_2)] 53 (0, 0))) ∧ Aside0 (Below w.heap.size w wc))
 case first =>
  have H := HC3.out;clear HC3;replace H := bE H;obtain ⟨t439, A5, H⟩ := H;by_cases c6 : t439 = true
  ·subst c6;replace H := iT H;replace H := bE H;obtain ⟨t440, A7, H⟩ := H;have H' := Aside0.mk H;clear H;obtain ⟨hcz8_0, hcz8_1, hcz8_2, hfz8_0, hfz8_1, hfz8_2⟩ := cz3 BK438
   go_wp2_with (first|((with_reducible refine gF 111 ?_);refine goZ (some 8) Try.func111 #[.agg #[.int .i64 a0_0, .int .i64 a0_1, .slice A0_2 l0_2.length c0_2]] ?_;(with_reducible refine (spec_CallOk.calls k a0_0 a0_1 _ _ l0_2 true _ ?side1 ?side2 A5.out).mono ?_);(case side1 => exact cC (Kd.C_below HR0_2.out HB.out));(case side2 => exact HC0_2.out);rintro e w9 ⟨rfl, hb⟩;refine ⟨_, rfl, ?_⟩;replace BK438 := kB BK438 hb;replace HB := sB hb;(try clear hb))|(go_at_call 100;(with_reducible refine (spec_l01In.calls a1 0 7 t440 _ A7.out).mono ?_);rintro e w' ⟨rfl, ⟨nd, rfl⟩⟩))
   go_meet
   case rel => exact ⟨_, (!t440), rS, H', ⟨oL⟩, ⟨mK BK438⟩, ⟨cB⟩⟩
  ·replace c6 := Bool.eq_false_iff.mpr c6;subst c6;replace H := iF H;have H' := Aside0.mk H;clear H;obtain ⟨hcz10_0, hcz10_1, hcz10_2, hfz10_0, hfz10_1, hfz10_2⟩ := cz3 BK438
   go_wp2_with (first|((with_reducible refine gF 111 ?_);refine goZ (some 8) Try.func111 #[.agg #[.int .i64 a0_0, .int .i64 a0_1, .slice A0_2 l0_2.length c0_2]] ?_;(with_reducible refine (spec_CallOk.calls k a0_0 a0_1 _ _ l0_2 false _ ?side1 ?side2 A5.out).mono ?_);(case side1 => exact cC (Kd.C_below HR0_2.out HB.out));(case side2 => exact HC0_2.out);rintro e w11 ⟨rfl, hb⟩;refine ⟨_, rfl, ?_⟩;replace BK438 := kB BK438 hb;replace HB := sB hb;(try clear hb)))
   go_meet
   case rel => exact ⟨_, (true), rS, H', ⟨oL⟩, ⟨mK BK438⟩, ⟨cB⟩⟩
 case rest =>
  clear HC3;(try clear c6);(try clear hcz10_0);(try clear hcz10_1);(try clear hcz10_2);(try clear hcz8_0);(try clear hcz8_1);(try clear hcz8_2);(try clear hfz10_0);(try clear hfz10_1);(try clear hfz10_2);(try clear hfz8_0);(try clear hfz8_1);(try clear hfz8_2);obtain ⟨kq, x14_2, rfl, HA, HJ2, BK438, HB⟩ := hcut
  cases kq with
  | zero => exact absurd HA.out (by simp [spec_FieldAt.j0])
  | succ kj2 =>
   have H := HA.out;clear HA;simp only [spec_FieldAt.j0] at H;by_cases c12 : x14_2 = true
   ·subst c12;replace H := iT H;simp only [Option.some.injEq, Prod.mk.injEq] at H;obtain ⟨rfl, rfl⟩ := H;go_wp2;go_ret2;exact ⟨rE, cB⟩
   ·replace c12 := Bool.eq_false_iff.mpr c12;subst c12;replace H := iF H;by_cases c13 : a1 = 0
    ·rw [if_pos c13] at H;obtain ⟨c13b0, c13b1⟩ := eT c13;clear c13;simp only [Option.some.injEq, Prod.mk.injEq] at H;obtain ⟨rfl, rfl⟩ := H;obtain ⟨hcz14_0, hcz14_1, hcz14_2, hfz14_0, hfz14_1, hfz14_2⟩ := cz3 BK438;go_wp2;go_ret2;exact ⟨rE, cB⟩
    ·rw [if_neg c13] at H;obtain ⟨c13b0, c13b1⟩ := eF c13;by_cases c15 : a1 = 1
     ·rw [if_pos c15] at H;obtain ⟨c15b0, c15b1⟩ := eT c15;clear c15;simp only [Option.some.injEq, Prod.mk.injEq] at H;obtain ⟨rfl, rfl⟩ := H;obtain ⟨hcz16_0, hcz16_1, hcz16_2, hfz16_0, hfz16_1, hfz16_2⟩ := cz3 BK438;go_wp2;go_ret2;exact ⟨rE, cB⟩
     ·rw [if_neg c15] at H;obtain ⟨c15b0, c15b1⟩ := eF c15;obtain ⟨ji17, hji17⟩ : ∃ j_ : Int, (wrap64 (Int.tdiv (wrap64 (a1 - 2)) 2)) = j_ := ⟨_, rfl⟩
      (first|rw [hji17] at H|simp only [hji17] at H)
      have hji17w : (IntKind.i64.wrap (Int.tdiv (wrap64 (a1 - 2)) 2)) = ji17 := (i64_w _).trans hji17;replace H := gD H;obtain ⟨c18b0, H⟩ := H;replace H := gD H;obtain ⟨c19b0, H⟩ := H;by_cases c20 : (Int.tmod a1 2) = 0
      ·rw [if_pos c20] at H;obtain ⟨c20b0, c20b1⟩ := eT c20;clear c20;simp only [Option.some.injEq, Prod.mk.injEq] at H;obtain ⟨rfl, rfl⟩ := H;obtain ⟨hcz21_0, hcz21_1, hcz21_2, hfz21_0, hfz21_1, hfz21_2⟩ := cz3 BK438;have p441 : 0 ≤ ((ji17) : Int) := dA;have q441 : (ji17) < (l0_2.length : Int) := dA;obtain ⟨ad441, e441, hx441_0, hx441_1⟩ := at_T48 HR0_2.out (ji17) p441 q441;cases e441;replace hx441_0 := (bc HB hx441_0 :);replace hx441_1 := (bc HB hx441_1 :);replace p441 := eq_true p441;replace q441 := eq_true q441
       go_wp2_with (first|((with_reducible refine gN 6 ?_);refine boxZ 6 #[.int .i64 0, .int .i64 0] 48 ?_;intro gb442 hg w22 hbox hb;have BK442 := Aside0.mk (hbox);have GW442 := gS hg;have GE442 := gS hg;replace HB := sB hb;have NB438_442 := nL hg BK438;have NB442_438 := nG hg BK438;replace BK438 := kB BK438 hb;clear hb hbox hg;have hnb23 := NB442_438.out;have hnc23 := NB438_442.out;obtain ⟨hcz24_0, hcz24_1, hfz24_0, hfz24_1⟩ := cz2 BK442))
       go_ret2
       exact ⟨by first | rfl | (simp [errW_none, errW_some] <;> rfl) | (simp only [← hji17]; first | rfl | (simp [errW_none, errW_some] <;> rfl)) | (simp [*, errW_none, errW_some] <;> rfl), cB⟩
      ·rw [if_neg c20] at H;obtain ⟨c20b0, c20b1⟩ := eF c20;simp only [Option.some.injEq, Prod.mk.injEq] at H;obtain ⟨rfl, rfl⟩ := H;obtain ⟨hcz25_0, hcz25_1, hcz25_2, hfz25_0, hfz25_1, hfz25_2⟩ := cz3 BK438;have p441 : 0 ≤ ((ji17) : Int) := dA;have q441 : (ji17) < (l0_2.length : Int) := dA;obtain ⟨ad441, e441, hx441_0, hx441_1⟩ := at_T48 HR0_2.out (ji17) p441 q441;cases e441;replace hx441_0 := (bc HB hx441_0 :);replace hx441_1 := (bc HB hx441_1 :);replace p441 := eq_true p441;replace q441 := eq_true q441
       go_wp2_with (first|((with_reducible refine gN 6 ?_);refine boxZ 6 #[.int .i64 0, .int .i64 0] 48 ?_;intro gb442 hg w26 hbox hb;have BK442 := Aside0.mk (hbox);have GW442 := gS hg;have GE442 := gS hg;replace HB := sB hb;have NB438_442 := nL hg BK438;have NB442_438 := nG hg BK438;replace BK438 := kB BK438 hb;clear hb hbox hg;have hnb27 := NB442_438.out;have hnc27 := NB438_442.out;obtain ⟨hcz28_0, hcz28_1, hfz28_0, hfz28_1⟩ := cz2 BK442))
       go_ret2
       exact ⟨by first | rfl | (simp [errW_none, errW_some] <;> rfl) | (simp only [← hji17]; first | rfl | (simp [errW_none, errW_some] <;> rfl)) | (simp [*, errW_none, errW_some] <;> rfl), cB⟩
def spec_l07Asks.f (a0_0 : Int) (a0_1 : Int) (a0_2 : Int) (a0_3 : Int) (a1 : Int) : Option (Bool) := if a0_0 = 3 then (some (a1 == a0_1)) else (if a0_0 = 4 then (some (decide (a1 > a0_1))) else (if a0_0 = 5 then (some (decide (a1 ≥ a0_1))) else (some ((Go.bits .and .i64 a1 a0_1) != 0))))
set_option maxHeartbeats 8000000 in
set_option maxRecDepth 100000 in
theorem spec_l07Asks.calls (a0_0 : Int) (a0_1 : Int) (a0_2 : Int) (a0_3 : Int) (a1 : Int) (r : Bool) (w : World) (h : spec_l07Asks.f a0_0 a0_1 a0_2 a0_3 a1 = some r) :
 Calls Try.prog 141 #[.agg #[.int .i64 a0_0, .int .i64 a0_1, .int .i64 a0_2, .int .i64 a0_3], .int .i64 a1] w fun e w' => e = .returned (.bool r) ∧ Below w.heap.size w w' := by
 have hu93 := Try.underlying93;have HB := Aside0.mk (Below.refl w.heap.size w);have H : (if a0_0 = 3 then (some (a1 == a0_1)) else (if a0_0 = 4 then (some (decide (a1 > a0_1))) else (if a0_0 = 5 then (some (decide (a1 ≥ a0_1))) else (some ((Go.bits .and .i64 a1 a0_1) != 0))))) = some r := h;clear h;by_cases c3 : a0_0 = 3
 ·rw [if_pos c3] at H;obtain ⟨c3b0, c3b1⟩ := eT c3;clear c3;obtain rfl := Option.some.inj H;go_enter Try.func141, Try.ntmps141
  go_wp2_with (first|((with_reducible refine gN 2 ?_);refine boxZ 2 #[.int .i64 a0_0, .int .i64 a0_1, .int .i64 a0_2, .int .i64 a0_3] 93 ?_;intro gb443 hg w4 hbox hb;have BK443 := Aside0.mk (hbox);have GW443 := gS hg;have GE443 := gS hg;replace HB := sB hb;clear hb hbox hg;obtain ⟨hcz5_0, hcz5_1, hcz5_2, hcz5_3, hfz5_0, hfz5_1, hfz5_2, hfz5_3⟩ := cz4 BK443))
  go_ret;exact ⟨rE, cB⟩
 ·rw [if_neg c3] at H;obtain ⟨c3b0, c3b1⟩ := eF c3;by_cases c6 : a0_0 = 4
  ·rw [if_pos c6] at H;obtain ⟨c6b0, c6b1⟩ := eT c6;clear c6;obtain rfl := Option.some.inj H;go_enter Try.func141, Try.ntmps141
   go_wp2_with (first|((with_reducible refine gN 2 ?_);refine boxZ 2 #[.int .i64 a0_0, .int .i64 a0_1, .int .i64 a0_2, .int .i64 a0_3] 93 ?_;intro gb443 hg w7 hbox hb;have BK443 := Aside0.mk (hbox);have GW443 := gS hg;have GE443 := gS hg;replace HB := sB hb;clear hb hbox hg;obtain ⟨hcz8_0, hcz8_1, hcz8_2, hcz8_3, hfz8_0, hfz8_1, hfz8_2, hfz8_3⟩ := cz4 BK443))
   go_ret;exact ⟨rE, cB⟩
  ·rw [if_neg c6] at H;obtain ⟨c6b0, c6b1⟩ := eF c6;by_cases c9 : a0_0 = 5
   ·rw [if_pos c9] at H;obtain ⟨c9b0, c9b1⟩ := eT c9;clear c9;obtain rfl := Option.some.inj H;go_enter Try.func141, Try.ntmps141
    go_wp2_with (first|((with_reducible refine gN 2 ?_);refine boxZ 2 #[.int .i64 a0_0, .int .i64 a0_1, .int .i64 a0_2, .int .i64 a0_3] 93 ?_;intro gb443 hg w10 hbox hb;have BK443 := Aside0.mk (hbox);have GW443 := gS hg;have GE443 := gS hg;replace HB := sB hb;clear hb hbox hg;obtain ⟨hcz11_0, hcz11_1, hcz11_2, hcz11_3, hfz11_0, hfz11_1, hfz11_2, hfz11_3⟩ := cz4 BK443))
    go_ret;exact ⟨rE, cB⟩
   ·rw [if_neg c9] at H;obtain ⟨c9b0, c9b1⟩ := eF c9;obtain rfl := Option.some.inj H;go_enter Try.func141, Try.ntmps141
    go_wp2_with (first|((with_reducible refine gN 2 ?_);refine boxZ 2 #[.int .i64 a0_0, .int .i64 a0_1, .int .i64 a0_2, .int .i64 a0_3] 93 ?_;intro gb443 hg w12 hbox hb;have BK443 := Aside0.mk (hbox);have GW443 := gS hg;have GE443 := gS hg;replace HB := sB hb;clear hb hbox hg;obtain ⟨hcz13_0, hcz13_1, hcz13_2, hcz13_3, hfz13_0, hfz13_1, hfz13_2, hfz13_3⟩ := cz4 BK443))
    go_ret;exact ⟨rE, cB⟩
mutual
def spec_Run.j0 : Nat → List (S93) → Bool → Int → Int → List (S48) → Option (Int × Int)
  | 0, _, _, _, _, _ => none
  | k + 1, x0, x17, x445000, x445001, x445002 => if x17 = true then (some (0, 0)) else (spec_Run.l0 k x0 0 0 0 x445000 x445001 x445002)
def spec_Run.l0 : Nat → List (S93) → Int → Int → Int → Int → Int → List (S48) → Option (Int × Int)
  | 0, _, _, _, _, _, _, _ => none
  | k + 1, x0, x6, x7, x8, x445000, x445001, x445002 => if x8 < (x0.length : Int) then (if 0 ≤ x8 then (if ((rd_T93 x0 x8).f0) = 1 then ((spec_FieldAt.f k x445000 x445001 x445002 ((rd_T93 x0 x8).f1)).bind fun bt449 => (spec_Run.l0 k x0 bt449.1 (wrap64 (x7 + 1)) (wrap64 (x8 + 1)) x445000 x445001 x445002)) else (if ((rd_T93 x0 x8).f0) = 2 then (spec_Run.l0 k x0 (Go.bits .and .i64 x6 ((rd_T93 x0 x8).f1)) (wrap64 (x7 + 1)) (wrap64 (x8 + 1)) x445000 x445001 x445002) else (if ((rd_T93 x0 x8).f0) = 7 then (spec_Run.l0 k x0 x6 (wrap64 (x7 + 1)) (wrap64 ((wrap64 (x8 + ((rd_T93 x0 x8).f1))) + 1)) x445000 x445001 x445002) else (if ((rd_T93 x0 x8).f0) = 8 then (some ((rd_T93 x0 x8).f1, wrap64 (x7 + 1))) else ((spec_l07Asks.f ((rd_T93 x0 x8).f0) ((rd_T93 x0 x8).f1) ((rd_T93 x0 x8).f2) ((rd_T93 x0 x8).f3) x6).bind fun t451 => (if t451 = true then (spec_Run.l0 k x0 x6 (wrap64 (x7 + 1)) (wrap64 ((wrap64 (x8 + ((rd_T93 x0 x8).f2))) + 1)) x445000 x445001 x445002) else (spec_Run.l0 k x0 x6 (wrap64 (x7 + 1)) (wrap64 ((wrap64 (x8 + ((rd_T93 x0 x8).f3))) + 1)) x445000 x445001 x445002))))))) else (none)) else (some (0, 0))
end
def spec_Run.f (k : Nat) (l0 : List (S93)) (a1_0 : Int) (a1_1 : Int) (l1_2 : List (S48)) : Option (Int × Int) := (spec_CheckProgram.f k l0).bind fun t445 => (if t445 = true then ((spec_CallOk.f k a1_0 a1_1 l1_2).bind fun t446 => (spec_Run.j0 k l0 (!t446) a1_0 a1_1 l1_2)) else (spec_Run.j0 k l0 true a1_0 a1_1 l1_2))
set_option maxHeartbeats 8000000 in
set_option maxRecDepth 100000 in
theorem spec_Run.calls (k : Nat) (A0 : Option Addr) (c0 : Nat) (l0 : List (S93)) (a1_0 : Int) (a1_1 : Int) (A1_2 : Option Addr) (c1_2 : Nat) (l1_2 : List (S48)) (r1 : Int) (r2 : Int) (w : World) (hr0 : Kd.C k93 w A0 l0.length l0) (hc0 : l0.length ≤ c0) (hr1_2 : Kd.C k48 w A1_2 l1_2.length l1_2) (hc1_2 : l1_2.length ≤ c1_2) (h : spec_Run.f k l0 a1_0 a1_1 l1_2 = some (r1, r2)) :
 Calls Try.prog 72 #[.slice A0 l0.length c0, .agg #[.int .i64 a1_0, .int .i64 a1_1, .slice A1_2 l1_2.length c1_2]] w fun e w' => e = .returned (.tuple #[.int .i64 r1, .int .i64 r2]) ∧ Below w.heap.size w w' := by
 have hu53 := Try.underlying53;have hu93 := Try.underlying93;have HR0 := Aside0.mk hr0;have HC0 := Aside0.mk hc0;clear hr0 hc0;have HR1_2 := Aside0.mk hr1_2;have HC1_2 := Aside0.mk hc1_2;clear hr1_2 hc1_2;have HB := Aside0.mk (Below.refl w.heap.size w)
 have H : ((spec_CheckProgram.f k l0).bind fun t445 => (if t445 = true then ((spec_CallOk.f k a1_0 a1_1 l1_2).bind fun t446 => (spec_Run.j0 k l0 (!t446) a1_0 a1_1 l1_2)) else (spec_Run.j0 k l0 true a1_0 a1_1 l1_2))) = some (r1, r2) := h
 clear h;have HC3 := Aside0.mk H;clear H;go_enter Try.func72, Try.ntmps72
 go_upto_region 1 with (first|((with_reducible refine gN 3 ?_);refine boxZ 3 #[.int .i64 a1_0, .int .i64 a1_1, .slice A1_2 l1_2.length c1_2] 53 ?_;intro gb444 hg w4 hbox hb;have BK444 := Aside0.mk (hbox);have GW444 := gS hg;have GE444 := gS hg;replace HB := sB hb;clear hb hbox hg))
 (try simp only [Act.put, List.setIfInBounds_toArray, List.set_cons_zero, List.set_cons_succ])
 go_cut [17] (fun v17 wc => ∃ (kq : Nat) (x17_2 : Bool), v17 = .bool x17_2 ∧ Aside0 (spec_Run.j0 kq l0 x17_2 a1_0 a1_1 l1_2 = some (r1, r2)) ∧ Aside0 (kq ≤ k) ∧ Aside0 (wc.heap[gb444]? = some (.cells #[.int .i64 a1_0, .int .i64 a1_1, (.slice A1_2 l1_2.length c1_2)] 53 (0, 0))) ∧ Aside0 (Below w.heap.size w wc))
 case first =>
  have H := HC3.out;clear HC3;replace H := bE H;obtain ⟨t445, A5, H⟩ := H;by_cases c6 : t445 = true
  ·subst c6;replace H := iT H;replace H := bE H;obtain ⟨t446, A7, H⟩ := H;have H' := Aside0.mk H;clear H
   go_wp2_with (first|((with_reducible refine gF 70 ?_);refine goZ (some 11) Try.func70 #[.slice A0 l0.length c0] ?_;(with_reducible refine (spec_CheckProgram.calls k _ _ l0 true _ ?side1 ?side2 A5.out).mono ?_);(case side1 => exact cC (Kd.C_below HR0.out HB.out));(case side2 => exact HC0.out);rintro e w8 ⟨rfl, hb⟩;refine ⟨_, rfl, ?_⟩;replace BK444 := kB BK444 hb;replace HB := sB hb;(try clear hb);obtain ⟨hcz9_0, hcz9_1, hcz9_2, hfz9_0, hfz9_1, hfz9_2⟩ := cz3 BK444)|(go_at_call 111;(with_reducible refine (spec_CallOk.calls k a1_0 a1_1 _ _ l1_2 t446 _ ?side1 ?side2 A7.out).mono ?_);(case side1 => exact cC (Kd.C_below HR1_2.out HB.out));(case side2 => exact HC1_2.out);rintro e w10 ⟨rfl, hb⟩;replace BK444 := kB BK444 hb;replace HB := sB hb;(try clear hb)))
   go_meet
   case rel => exact ⟨_, (!t446), rS, H', ⟨oL⟩, ⟨mK BK444⟩, ⟨cB⟩⟩
  ·replace c6 := Bool.eq_false_iff.mpr c6;subst c6;replace H := iF H;have H' := Aside0.mk H;clear H
   go_wp2_with (first|((with_reducible refine gF 70 ?_);refine goZ (some 11) Try.func70 #[.slice A0 l0.length c0] ?_;(with_reducible refine (spec_CheckProgram.calls k _ _ l0 false _ ?side1 ?side2 A5.out).mono ?_);(case side1 => exact cC (Kd.C_below HR0.out HB.out));(case side2 => exact HC0.out);rintro e w11 ⟨rfl, hb⟩;refine ⟨_, rfl, ?_⟩;replace BK444 := kB BK444 hb;replace HB := sB hb;(try clear hb)))
   go_meet
   case rel => exact ⟨_, (true), rS, H', ⟨oL⟩, ⟨mK BK444⟩, ⟨cB⟩⟩
 case rest =>
  clear HC3;(try clear c6);(try clear hcz9_0);(try clear hcz9_1);(try clear hcz9_2);(try clear hfz9_0);(try clear hfz9_1);(try clear hfz9_2);obtain ⟨kq, x17_2, rfl, HA, HJ2, BK444, HB⟩ := hcut
  cases kq with
  | zero => exact absurd HA.out (by simp [spec_Run.j0])
  | succ kj2 =>
   have H := HA.out;clear HA;simp only [spec_Run.j0] at H;by_cases c12 : x17_2 = true
   ·subst c12;replace H := iT H;simp only [Option.some.injEq, Prod.mk.injEq] at H;obtain ⟨rfl, rfl⟩ := H;go_wp2;go_ret2;exact ⟨rE, cB⟩
   ·replace c12 := Bool.eq_false_iff.mpr c12;subst c12;replace H := iF H;have H' := Aside0.mk H;clear H;go_wp2
    go_loopg [6, 7, 8] kj2 (fun kq v6 v7 v8 w' => ∃ (x6_2 : Int) (x7_2 : Int) (x8_2 : Int), v6 = .int .i64 x6_2 ∧ v7 = .int .i64 x7_2 ∧ v8 = .int .i64 x8_2 ∧ Aside0 (spec_Run.l0 kq l0 x6_2 x7_2 x8_2 a1_0 a1_1 l1_2 = some (r1, r2)) ∧ Aside0 (kq ≤ kj2) ∧ Aside0 (w'.heap[gb444]? = some (.cells #[.int .i64 a1_0, .int .i64 a1_1, (.slice A1_2 l1_2.length c1_2)] 53 (0, 0))) ∧ Aside0 (Below w.heap.size w w'))
    case atStart => exact ⟨(0), (0), (0), rS, rS, rS, H', ⟨Nat.le_refl _⟩, ⟨mK BK444⟩, ⟨cB⟩⟩
    case round =>
     clear H';(try clear c6);(try clear c12);(try clear hcz9_0);(try clear hcz9_1);(try clear hcz9_2);(try clear hfz9_0);(try clear hfz9_1);(try clear hfz9_2);obtain ⟨x6_2, x7_2, x8_2, rfl, rfl, rfl, HA, HK2, BK444, HB⟩ := hrel
     cases gk with
     | zero => exact absurd HA.out (by simp [spec_Run.l0])
     | succ k2 =>
      have H := HA.out;clear HA;simp only [spec_Run.l0] at H;by_cases c13 : x8_2 < (l0.length : Int)
      ·rw [if_pos c13] at H;have c13b0 := decide_eq_true c13;clear c13;replace H := gD H;obtain ⟨c14b0, H⟩ := H;by_cases c15 : ((rd_T93 l0 x8_2).f0) = 1
       ·rw [if_pos c15] at H;obtain ⟨c15b0, c15b1⟩ := eT c15;clear c15;replace H := bE H;obtain ⟨⟨t449, t450⟩, A16, H⟩ := H;(try dsimp only at H);have H' := Aside0.mk H;clear H;have p447 : 0 ≤ (x8_2 : Int) := dA;have q447 : x8_2 < (l0.length : Int) := dA;obtain ⟨ad447, e447, hx447_0, hx447_1, hx447_2, hx447_3⟩ := at_T93 HR0.out x8_2 p447 q447;cases e447;replace hx447_0 := (bc HB hx447_0 :);replace hx447_1 := (bc HB hx447_1 :);replace hx447_2 := (bc HB hx447_2 :);replace hx447_3 := (bc HB hx447_3 :);replace p447 := eq_true p447;replace q447 := eq_true q447
        go_wp2_with (first|((with_reducible refine gN 9 ?_);refine boxZ 9 #[.int .i64 0, .int .i64 0, .int .i64 0, .int .i64 0] 93 ?_;intro gb448 hg w17 hbox hb;have BK448 := Aside0.mk (hbox);have GW448 := gS hg;have GE448 := gS hg;replace HB := sB hb;have NB444_448 := nL hg BK444;have NB448_444 := nG hg BK444;replace BK444 := kB BK444 hb;clear hb hbox hg;have hnb18 := NB448_444.out;have hnc18 := NB444_448.out;obtain ⟨hcz19_0, hcz19_1, hcz19_2, hcz19_3, hfz19_0, hfz19_1, hfz19_2, hfz19_3⟩ := cz4 BK448;obtain ⟨hcz20_0, hcz20_1, hcz20_2, hfz20_0, hfz20_1, hfz20_2⟩ := cz3 BK444)|((with_reducible refine gF 71 ?_);refine goZ (some 49) Try.func71 #[.agg #[.int .i64 a1_0, .int .i64 a1_1, .slice A1_2 l1_2.length c1_2], .int .i64 ((rd_T93 l0 x8_2).f1)] ?_;(with_reducible refine (spec_FieldAt.calls k2 a1_0 a1_1 _ _ l1_2 ((rd_T93 l0 x8_2).f1) t449 t450 _ ?side1 ?side2 A16.out).mono ?_);(case side1 => exact Kd.C_below HR1_2.out cB);(case side2 => exact HC1_2.out);rintro e w21 ⟨rfl, hb⟩;refine ⟨_, rfl, ?_⟩;replace BK444 := kB BK444 hb;replace BK448 := kP BK448 hb (.cells #[.int .i64 ((rd_T93 l0 x8_2).f0), .int .i64 ((rd_T93 l0 x8_2).f1), .int .i64 ((rd_T93 l0 x8_2).f2), .int .i64 ((rd_T93 l0 x8_2).f3)] 93 (0, 0));replace HB := sB hb;(try clear hb)))
        go_roundg k2
        case measure => have := HJ2.out; have := HK2.out; omega
        case rel => exact ⟨(t449), (wrap64 (x7_2 + 1)), (wrap64 (x8_2 + 1)), rS, rS, rS, H', ⟨by have := HJ2.out; have := HK2.out; omega⟩, ⟨mK BK444⟩, ⟨cB⟩⟩
       ·rw [if_neg c15] at H;obtain ⟨c15b0, c15b1⟩ := eF c15;by_cases c22 : ((rd_T93 l0 x8_2).f0) = 2
        ·rw [if_pos c22] at H;obtain ⟨c22b0, c22b1⟩ := eT c22;clear c22;have H' := Aside0.mk H;clear H;have p447 : 0 ≤ (x8_2 : Int) := dA;have q447 : x8_2 < (l0.length : Int) := dA;obtain ⟨ad447, e447, hx447_0, hx447_1, hx447_2, hx447_3⟩ := at_T93 HR0.out x8_2 p447 q447;cases e447;replace hx447_0 := (bc HB hx447_0 :);replace hx447_1 := (bc HB hx447_1 :);replace hx447_2 := (bc HB hx447_2 :);replace hx447_3 := (bc HB hx447_3 :);replace p447 := eq_true p447;replace q447 := eq_true q447
         go_wp2_with (first|((with_reducible refine gN 9 ?_);refine boxZ 9 #[.int .i64 0, .int .i64 0, .int .i64 0, .int .i64 0] 93 ?_;intro gb448 hg w23 hbox hb;have BK448 := Aside0.mk (hbox);have GW448 := gS hg;have GE448 := gS hg;replace HB := sB hb;have NB444_448 := nL hg BK444;have NB448_444 := nG hg BK444;replace BK444 := kB BK444 hb;clear hb hbox hg;have hnb24 := NB448_444.out;have hnc24 := NB444_448.out;obtain ⟨hcz25_0, hcz25_1, hcz25_2, hcz25_3, hfz25_0, hfz25_1, hfz25_2, hfz25_3⟩ := cz4 BK448))
         go_roundg k2
         case measure => have := HJ2.out; have := HK2.out; omega
         case rel => exact ⟨(Go.bits .and .i64 x6_2 ((rd_T93 l0 x8_2).f1)), (wrap64 (x7_2 + 1)), (wrap64 (x8_2 + 1)), rS, rS, rS, H', ⟨by have := HJ2.out; have := HK2.out; omega⟩, ⟨mK BK444⟩, ⟨cB⟩⟩
        ·rw [if_neg c22] at H;obtain ⟨c22b0, c22b1⟩ := eF c22;by_cases c26 : ((rd_T93 l0 x8_2).f0) = 7
         ·rw [if_pos c26] at H;obtain ⟨c26b0, c26b1⟩ := eT c26;clear c26;have H' := Aside0.mk H;clear H;have p447 : 0 ≤ (x8_2 : Int) := dA;have q447 : x8_2 < (l0.length : Int) := dA;obtain ⟨ad447, e447, hx447_0, hx447_1, hx447_2, hx447_3⟩ := at_T93 HR0.out x8_2 p447 q447;cases e447;replace hx447_0 := (bc HB hx447_0 :);replace hx447_1 := (bc HB hx447_1 :);replace hx447_2 := (bc HB hx447_2 :);replace hx447_3 := (bc HB hx447_3 :);replace p447 := eq_true p447;replace q447 := eq_true q447
          go_wp2_with (first|((with_reducible refine gN 9 ?_);refine boxZ 9 #[.int .i64 0, .int .i64 0, .int .i64 0, .int .i64 0] 93 ?_;intro gb448 hg w27 hbox hb;have BK448 := Aside0.mk (hbox);have GW448 := gS hg;have GE448 := gS hg;replace HB := sB hb;have NB444_448 := nL hg BK444;have NB448_444 := nG hg BK444;replace BK444 := kB BK444 hb;clear hb hbox hg;have hnb28 := NB448_444.out;have hnc28 := NB444_448.out;obtain ⟨hcz29_0, hcz29_1, hcz29_2, hcz29_3, hfz29_0, hfz29_1, hfz29_2, hfz29_3⟩ := cz4 BK448))
          go_roundg k2
          case measure => have := HJ2.out; have := HK2.out; omega
          case rel => exact ⟨(x6_2), (wrap64 (x7_2 + 1)), (wrap64 ((wrap64 (x8_2 + ((rd_T93 l0 x8_2).f1))) + 1)), rS, rS, rS, H', ⟨by have := HJ2.out; have := HK2.out; omega⟩, ⟨mK BK444⟩, ⟨cB⟩⟩
         ·rw [if_neg c26] at H;obtain ⟨c26b0, c26b1⟩ := eF c26;by_cases c30 : ((rd_T93 l0 x8_2).f0) = 8
          ·rw [if_pos c30] at H;obtain ⟨c30b0, c30b1⟩ := eT c30;clear c30;simp only [Option.some.injEq, Prod.mk.injEq] at H;obtain ⟨rfl, rfl⟩ := H;have p447 : 0 ≤ (x8_2 : Int) := dA;have q447 : x8_2 < (l0.length : Int) := dA;obtain ⟨ad447, e447, hx447_0, hx447_1, hx447_2, hx447_3⟩ := at_T93 HR0.out x8_2 p447 q447;cases e447;replace hx447_0 := (bc HB hx447_0 :);replace hx447_1 := (bc HB hx447_1 :);replace hx447_2 := (bc HB hx447_2 :);replace hx447_3 := (bc HB hx447_3 :);replace p447 := eq_true p447;replace q447 := eq_true q447
           go_wp2_with (first|((with_reducible refine gN 9 ?_);refine boxZ 9 #[.int .i64 0, .int .i64 0, .int .i64 0, .int .i64 0] 93 ?_;intro gb448 hg w31 hbox hb;have BK448 := Aside0.mk (hbox);have GW448 := gS hg;have GE448 := gS hg;replace HB := sB hb;have NB444_448 := nL hg BK444;have NB448_444 := nG hg BK444;replace BK444 := kB BK444 hb;clear hb hbox hg;have hnb32 := NB448_444.out;have hnc32 := NB444_448.out;obtain ⟨hcz33_0, hcz33_1, hcz33_2, hcz33_3, hfz33_0, hfz33_1, hfz33_2, hfz33_3⟩ := cz4 BK448))
           go_ret2;exact ⟨rE, cB⟩
          ·rw [if_neg c30] at H;obtain ⟨c30b0, c30b1⟩ := eF c30;replace H := bE H;obtain ⟨t451, A34, H⟩ := H;by_cases c35 : t451 = true
           ·subst c35;replace H := iT H;have H' := Aside0.mk H;clear H;have p447 : 0 ≤ (x8_2 : Int) := dA;have q447 : x8_2 < (l0.length : Int) := dA;obtain ⟨ad447, e447, hx447_0, hx447_1, hx447_2, hx447_3⟩ := at_T93 HR0.out x8_2 p447 q447;cases e447;replace hx447_0 := (bc HB hx447_0 :);replace hx447_1 := (bc HB hx447_1 :);replace hx447_2 := (bc HB hx447_2 :);replace hx447_3 := (bc HB hx447_3 :);replace p447 := eq_true p447;replace q447 := eq_true q447
            go_wp2_with (first|((with_reducible refine gN 9 ?_);refine boxZ 9 #[.int .i64 0, .int .i64 0, .int .i64 0, .int .i64 0] 93 ?_;intro gb448 hg w36 hbox hb;have BK448 := Aside0.mk (hbox);have GW448 := gS hg;have GE448 := gS hg;replace HB := sB hb;have NB444_448 := nL hg BK444;have NB448_444 := nG hg BK444;replace BK444 := kB BK444 hb;clear hb hbox hg;have hnb37 := NB448_444.out;have hnc37 := NB444_448.out;obtain ⟨hcz38_0, hcz38_1, hcz38_2, hcz38_3, hfz38_0, hfz38_1, hfz38_2, hfz38_3⟩ := cz4 BK448)|((with_reducible refine gF 141 ?_);refine goZ (some 34) Try.func141 #[.agg #[.int .i64 ((rd_T93 l0 x8_2).f0), .int .i64 ((rd_T93 l0 x8_2).f1), .int .i64 ((rd_T93 l0 x8_2).f2), .int .i64 ((rd_T93 l0 x8_2).f3)], .int .i64 x6_2] ?_;(with_reducible refine (spec_l07Asks.calls ((rd_T93 l0 x8_2).f0) ((rd_T93 l0 x8_2).f1) ((rd_T93 l0 x8_2).f2) ((rd_T93 l0 x8_2).f3) x6_2 true _ A34.out).mono ?_);rintro e w39 ⟨rfl, hb⟩;refine ⟨_, rfl, ?_⟩;replace BK444 := kB BK444 hb;replace BK448 := kP BK448 hb (.cells #[.int .i64 ((rd_T93 l0 x8_2).f0), .int .i64 ((rd_T93 l0 x8_2).f1), .int .i64 ((rd_T93 l0 x8_2).f2), .int .i64 ((rd_T93 l0 x8_2).f3)] 93 (0, 0));replace HB := sB hb;(try clear hb);obtain ⟨hcz40_0, hcz40_1, hcz40_2, hcz40_3, hfz40_0, hfz40_1, hfz40_2, hfz40_3⟩ := cz4 BK448))
            go_roundg k2
            case measure => have := HJ2.out; have := HK2.out; omega
            case rel => exact ⟨(x6_2), (wrap64 (x7_2 + 1)), (wrap64 ((wrap64 (x8_2 + ((rd_T93 l0 x8_2).f2))) + 1)), rS, rS, rS, H', ⟨by have := HJ2.out; have := HK2.out; omega⟩, ⟨mK BK444⟩, ⟨cB⟩⟩
           ·replace c35 := Bool.eq_false_iff.mpr c35;subst c35;replace H := iF H;have H' := Aside0.mk H;clear H;have p447 : 0 ≤ (x8_2 : Int) := dA;have q447 : x8_2 < (l0.length : Int) := dA;obtain ⟨ad447, e447, hx447_0, hx447_1, hx447_2, hx447_3⟩ := at_T93 HR0.out x8_2 p447 q447;cases e447;replace hx447_0 := (bc HB hx447_0 :);replace hx447_1 := (bc HB hx447_1 :);replace hx447_2 := (bc HB hx447_2 :);replace hx447_3 := (bc HB hx447_3 :);replace p447 := eq_true p447;replace q447 := eq_true q447
            go_wp2_with (first|((with_reducible refine gN 9 ?_);refine boxZ 9 #[.int .i64 0, .int .i64 0, .int .i64 0, .int .i64 0] 93 ?_;intro gb448 hg w41 hbox hb;have BK448 := Aside0.mk (hbox);have GW448 := gS hg;have GE448 := gS hg;replace HB := sB hb;have NB444_448 := nL hg BK444;have NB448_444 := nG hg BK444;replace BK444 := kB BK444 hb;clear hb hbox hg;have hnb42 := NB448_444.out;have hnc42 := NB444_448.out;obtain ⟨hcz43_0, hcz43_1, hcz43_2, hcz43_3, hfz43_0, hfz43_1, hfz43_2, hfz43_3⟩ := cz4 BK448)|((with_reducible refine gF 141 ?_);refine goZ (some 34) Try.func141 #[.agg #[.int .i64 ((rd_T93 l0 x8_2).f0), .int .i64 ((rd_T93 l0 x8_2).f1), .int .i64 ((rd_T93 l0 x8_2).f2), .int .i64 ((rd_T93 l0 x8_2).f3)], .int .i64 x6_2] ?_;(with_reducible refine (spec_l07Asks.calls ((rd_T93 l0 x8_2).f0) ((rd_T93 l0 x8_2).f1) ((rd_T93 l0 x8_2).f2) ((rd_T93 l0 x8_2).f3) x6_2 false _ A34.out).mono ?_);rintro e w44 ⟨rfl, hb⟩;refine ⟨_, rfl, ?_⟩;replace BK444 := kB BK444 hb;replace BK448 := kP BK448 hb (.cells #[.int .i64 ((rd_T93 l0 x8_2).f0), .int .i64 ((rd_T93 l0 x8_2).f1), .int .i64 ((rd_T93 l0 x8_2).f2), .int .i64 ((rd_T93 l0 x8_2).f3)] 93 (0, 0));replace HB := sB hb;(try clear hb);obtain ⟨hcz45_0, hcz45_1, hcz45_2, hcz45_3, hfz45_0, hfz45_1, hfz45_2, hfz45_3⟩ := cz4 BK448))
            go_roundg k2
            case measure => have := HJ2.out; have := HK2.out; omega
            case rel => exact ⟨(x6_2), (wrap64 (x7_2 + 1)), (wrap64 ((wrap64 (x8_2 + ((rd_T93 l0 x8_2).f3))) + 1)), rS, rS, rS, H', ⟨by have := HJ2.out; have := HK2.out; omega⟩, ⟨mK BK444⟩, ⟨cB⟩⟩
      ·rw [if_neg c13] at H;have c13b0 := decide_eq_false c13;clear c13;simp only [Option.some.injEq, Prod.mk.injEq] at H;obtain ⟨rfl, rfl⟩ := H;go_wp2;go_ret2;exact ⟨rE, cB⟩
end Go.Proofs.Ytlgndgjbfjefpaa.PFnLayouts
