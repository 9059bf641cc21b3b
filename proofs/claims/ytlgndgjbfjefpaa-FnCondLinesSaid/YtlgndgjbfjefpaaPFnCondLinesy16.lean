import Derived.Test.YtlgndgjbfjefpaaPFnCondLinesy0
import Derived.Test.YtlgndgjbfjefpaaPFnCondLinesy5
import Derived.Test.YtlgndgjbfjefpaaPFnCondLinesy15
namespace Go.Proofs.Ytlgndgjbfjefpaa.PFnCondLines
open Go.RowKit Go.Proofs.YtlgndgjbfjefpaaW.PrintWords Go.Proofs.YtlgndgjbfjefpaaW.PrintLast Go.Proofs.YtlgndgjbfjefpaaW.PrintMore Go.Proofs.YtlgndgjbfjefpaaW.Z
attribute [local go_sem] isS max2_int min2_int max_two min_two max_three min_three max_four min_four
set_option linter.unusedVariables false
set_option linter.unusedSimpArgs false
mutual
def spec_Run.j0 : Nat → List (S93) → Bool → Int → Int → List (S48) → Option (Int × Int)
  | 0, _, _, _, _, _ => none
  | k + 1, x0, x17, x682000, x682001, x682002 => if x17 = true then (some (0, 0)) else (spec_Run.l0 k x0 0 0 0 x682000 x682001 x682002)
def spec_Run.l0 : Nat → List (S93) → Int → Int → Int → Int → Int → List (S48) → Option (Int × Int)
  | 0, _, _, _, _, _, _, _ => none
  | k + 1, x0, x6, x7, x8, x682000, x682001, x682002 => if x8 < (x0.length : Int) then (if 0 ≤ x8 then (if ((rd_T93 x0 x8).f0) = 1 then ((spec_FieldAt.f k x682000 x682001 x682002 ((rd_T93 x0 x8).f1)).bind fun bt686 => (spec_Run.l0 k x0 bt686.1 (wrap64 (x7 + 1)) (wrap64 (x8 + 1)) x682000 x682001 x682002)) else (if ((rd_T93 x0 x8).f0) = 2 then (spec_Run.l0 k x0 (Go.bits .and .i64 x6 ((rd_T93 x0 x8).f1)) (wrap64 (x7 + 1)) (wrap64 (x8 + 1)) x682000 x682001 x682002) else (if ((rd_T93 x0 x8).f0) = 7 then (spec_Run.l0 k x0 x6 (wrap64 (x7 + 1)) (wrap64 ((wrap64 (x8 + ((rd_T93 x0 x8).f1))) + 1)) x682000 x682001 x682002) else (if ((rd_T93 x0 x8).f0) = 8 then (some ((rd_T93 x0 x8).f1, wrap64 (x7 + 1))) else ((spec_l07Asks.f ((rd_T93 x0 x8).f0) ((rd_T93 x0 x8).f1) ((rd_T93 x0 x8).f2) ((rd_T93 x0 x8).f3) x6).bind fun t688 => (if t688 = true then (spec_Run.l0 k x0 x6 (wrap64 (x7 + 1)) (wrap64 ((wrap64 (x8 + ((rd_T93 x0 x8).f2))) + 1)) x682000 x682001 x682002) else (spec_Run.l0 k x0 x6 (wrap64 (x7 + 1)) (wrap64 ((wrap64 (x8 + ((rd_T93 x0 x8).f3))) + 1)) x682000 x682001 x682002))))))) else (none)) else (some (0, 0))
end
def spec_Run.f (k : Nat) (l0 : List (S93)) (a1_0 : Int) (a1_1 : Int) (l1_2 : List (S48)) : Option (Int × Int) := (spec_CheckProgram.f k l0).bind fun t682 => (if t682 = true then ((spec_CallOk.f k a1_0 a1_1 l1_2).bind fun t683 => (spec_Run.j0 k l0 (!t683) a1_0 a1_1 l1_2)) else (spec_Run.j0 k l0 true a1_0 a1_1 l1_2))
set_option maxHeartbeats 8000000 in
set_option maxRecDepth 100000 in
theorem spec_Run.calls (k : Nat) (A0 : Option Addr) (c0 : Nat) (l0 : List (S93)) (a1_0 : Int) (a1_1 : Int) (A1_2 : Option Addr) (c1_2 : Nat) (l1_2 : List (S48)) (r1 : Int) (r2 : Int) (w : World) (hr0 : Kd.C k93 w A0 l0.length l0) (hc0 : l0.length ≤ c0) (hr1_2 : Kd.C k48 w A1_2 l1_2.length l1_2) (hc1_2 : l1_2.length ≤ c1_2) (h : spec_Run.f k l0 a1_0 a1_1 l1_2 = some (r1, r2)) :
 Calls Try.prog 72 #[.slice A0 l0.length c0, .agg #[.int .i64 a1_0, .int .i64 a1_1, .slice A1_2 l1_2.length c1_2]] w fun e w' => e = .returned (.tuple #[.int .i64 r1, .int .i64 r2]) ∧ Below w.heap.size w w' := by
 have hu53 := Try.underlying53;have hu93 := Try.underlying93;have HR0 := Aside0.mk hr0;have HC0 := Aside0.mk hc0;clear hr0 hc0;have HR1_2 := Aside0.mk hr1_2;have HC1_2 := Aside0.mk hc1_2;clear hr1_2 hc1_2;have HB := Aside0.mk (Below.refl w.heap.size w)
 have H : ((spec_CheckProgram.f k l0).bind fun t682 => (if t682 = true then ((spec_CallOk.f k a1_0 a1_1 l1_2).bind fun t683 => (spec_Run.j0 k l0 (!t683) a1_0 a1_1 l1_2)) else (spec_Run.j0 k l0 true a1_0 a1_1 l1_2))) = some (r1, r2) := h
 clear h;have HC3 := Aside0.mk H;clear H;go_enter Try.func72, Try.ntmps72
 go_upto_region 1 with (first|((with_reducible refine gN 3 ?_);refine boxZ 3 #[.int .i64 a1_0, .int .i64 a1_1, .slice A1_2 l1_2.length c1_2] 53 ?_;intro gb681 hg w4 hbox hb;have BK681 := Aside0.mk (hbox);have GW681 := gS hg;have GE681 := gS hg;replace HB := sB hb;clear hb hbox hg))
 (try simp only [Act.put, List.setIfInBounds_toArray, List.set_cons_zero, List.set_cons_succ])
 go_cut [17] (fun v17 wc => ∃ (kq : Nat) (x17_2 : Bool), v17 = .bool x17_2 ∧ Aside0 (spec_Run.j0 kq l0 x17_2 a1_0 a1_1 l1_2 = some (r1, r2)) ∧ Aside0 (kq ≤ k) ∧ Aside0 (wc.heap[gb681]? = some (.cells #[.int .i64 a1_0, .int .i64 a1_1, (.slice A1_2 l1_2.length c1_2)] 53 (0, 0))) ∧ Aside0 (Below w.heap.size w wc))
 case first =>
  have H := HC3.out;clear HC3;replace H := bE H;obtain ⟨t682, A5, H⟩ := H;by_cases c6 : t682 = true
  ·subst c6;replace H := iT H;replace H := bE H;obtain ⟨t683, A7, H⟩ := H;have H' := Aside0.mk H;clear H
   go_wp2_with (first|((with_reducible refine gF 70 ?_);refine goZ (some 11) Try.func70 #[.slice A0 l0.length c0] ?_;(with_reducible refine (spec_CheckProgram.calls k _ _ l0 true _ ?side1 ?side2 A5.out).mono ?_);(case side1 => exact cC (Kd.C_below HR0.out HB.out));(case side2 => exact HC0.out);rintro e w8 ⟨rfl, hb⟩;refine ⟨_, rfl, ?_⟩;replace BK681 := kB BK681 hb;replace HB := sB hb;(try clear hb);obtain ⟨hcz9_0, hcz9_1, hcz9_2, hfz9_0, hfz9_1, hfz9_2⟩ := cz3 BK681)|(go_at_call 111;(with_reducible refine (spec_CallOk.calls k a1_0 a1_1 _ _ l1_2 t683 _ ?side1 ?side2 A7.out).mono ?_);(case side1 => exact cC (Kd.C_below HR1_2.out HB.out));(case side2 => exact HC1_2.out);rintro e w10 ⟨rfl, hb⟩;replace BK681 := kB BK681 hb;replace HB := sB hb;(try clear hb)))
   go_meet
   case rel => exact ⟨_, (!t683), rS, H', ⟨oL⟩, ⟨mK BK681⟩, ⟨cB⟩⟩
  ·replace c6 := Bool.eq_false_iff.mpr c6;subst c6;replace H := iF H;have H' := Aside0.mk H;clear H
   go_wp2_with (first|((with_reducible refine gF 70 ?_);refine goZ (some 11) Try.func70 #[.slice A0 l0.length c0] ?_;(with_reducible refine (spec_CheckProgram.calls k _ _ l0 false _ ?side1 ?side2 A5.out).mono ?_);(case side1 => exact cC (Kd.C_below HR0.out HB.out));(case side2 => exact HC0.out);rintro e w11 ⟨rfl, hb⟩;refine ⟨_, rfl, ?_⟩;replace BK681 := kB BK681 hb;replace HB := sB hb;(try clear hb)))
   go_meet
   case rel => exact ⟨_, (true), rS, H', ⟨oL⟩, ⟨mK BK681⟩, ⟨cB⟩⟩
 case rest =>
  clear HC3;(try clear c6);(try clear hcz9_0);(try clear hcz9_1);(try clear hcz9_2);(try clear hfz9_0);(try clear hfz9_1);(try clear hfz9_2);obtain ⟨kq, x17_2, rfl, HA, HJ2, BK681, HB⟩ := hcut
  cases kq with
  | zero => exact absurd HA.out (by simp [spec_Run.j0])
  | succ kj2 =>
   have H := HA.out;clear HA;simp only [spec_Run.j0] at H;by_cases c12 : x17_2 = true
   ·subst c12;replace H := iT H;simp only [Option.some.injEq, Prod.mk.injEq] at H;obtain ⟨rfl, rfl⟩ := H;go_wp2;go_ret2;exact ⟨rE, cB⟩
   ·replace c12 := Bool.eq_false_iff.mpr c12;subst c12;replace H := iF H;have H' := Aside0.mk H;clear H;go_wp2
    go_loopg [6, 7, 8] kj2 (fun kq v6 v7 v8 w' => ∃ (x6_2 : Int) (x7_2 : Int) (x8_2 : Int), v6 = .int .i64 x6_2 ∧ v7 = .int .i64 x7_2 ∧ v8 = .int .i64 x8_2 ∧ Aside0 (spec_Run.l0 kq l0 x6_2 x7_2 x8_2 a1_0 a1_1 l1_2 = some (r1, r2)) ∧ Aside0 (kq ≤ kj2) ∧ Aside0 (w'.heap[gb681]? = some (.cells #[.int .i64 a1_0, .int .i64 a1_1, (.slice A1_2 l1_2.length c1_2)] 53 (0, 0))) ∧ Aside0 (Below w.heap.size w w'))
    case atStart => exact ⟨(0), (0), (0), rS, rS, rS, H', ⟨Nat.le_refl _⟩, ⟨mK BK681⟩, ⟨cB⟩⟩
    case round =>
     clear H';(try clear c6);(try clear c12);(try clear hcz9_0);(try clear hcz9_1);(try clear hcz9_2);(try clear hfz9_0);(try clear hfz9_1);(try clear hfz9_2);obtain ⟨x6_2, x7_2, x8_2, rfl, rfl, rfl, HA, HK2, BK681, HB⟩ := hrel
     cases gk with
     | zero => exact absurd HA.out (by simp [spec_Run.l0])
     | succ k2 =>
      have H := HA.out;clear HA;simp only [spec_Run.l0] at H;by_cases c13 : x8_2 < (l0.length : Int)
      ·rw [if_pos c13] at H;have c13b0 := decide_eq_true c13;clear c13;replace H := gD H;obtain ⟨c14b0, H⟩ := H;by_cases c15 : ((rd_T93 l0 x8_2).f0) = 1
       ·rw [if_pos c15] at H;obtain ⟨c15b0, c15b1⟩ := eT c15;clear c15;replace H := bE H;obtain ⟨⟨t686, t687⟩, A16, H⟩ := H;(try dsimp only at H);have H' := Aside0.mk H;clear H;have p684 : 0 ≤ (x8_2 : Int) := dA;have q684 : x8_2 < (l0.length : Int) := dA;obtain ⟨ad684, e684, hx684_0, hx684_1, hx684_2, hx684_3⟩ := at_T93 HR0.out x8_2 p684 q684;cases e684;replace hx684_0 := (bc HB hx684_0 :);replace hx684_1 := (bc HB hx684_1 :);replace hx684_2 := (bc HB hx684_2 :);replace hx684_3 := (bc HB hx684_3 :);replace p684 := eq_true p684;replace q684 := eq_true q684
        go_wp2_with (first|((with_reducible refine gN 9 ?_);refine boxZ 9 #[.int .i64 0, .int .i64 0, .int .i64 0, .int .i64 0] 93 ?_;intro gb685 hg w17 hbox hb;have BK685 := Aside0.mk (hbox);have GW685 := gS hg;have GE685 := gS hg;replace HB := sB hb;have NB681_685 := nL hg BK681;have NB685_681 := nG hg BK681;replace BK681 := kB BK681 hb;clear hb hbox hg;have hnb18 := NB685_681.out;have hnc18 := NB681_685.out;obtain ⟨hcz19_0, hcz19_1, hcz19_2, hcz19_3, hfz19_0, hfz19_1, hfz19_2, hfz19_3⟩ := cz4 BK685;obtain ⟨hcz20_0, hcz20_1, hcz20_2, hfz20_0, hfz20_1, hfz20_2⟩ := cz3 BK681)|((with_reducible refine gF 71 ?_);refine goZ (some 49) Try.func71 #[.agg #[.int .i64 a1_0, .int .i64 a1_1, .slice A1_2 l1_2.length c1_2], .int .i64 ((rd_T93 l0 x8_2).f1)] ?_;(with_reducible refine (spec_FieldAt.calls k2 a1_0 a1_1 _ _ l1_2 ((rd_T93 l0 x8_2).f1) t686 t687 _ ?side1 ?side2 A16.out).mono ?_);(case side1 => exact Kd.C_below HR1_2.out cB);(case side2 => exact HC1_2.out);rintro e w21 ⟨rfl, hb⟩;refine ⟨_, rfl, ?_⟩;replace BK681 := kB BK681 hb;replace BK685 := kP BK685 hb (.cells #[.int .i64 ((rd_T93 l0 x8_2).f0), .int .i64 ((rd_T93 l0 x8_2).f1), .int .i64 ((rd_T93 l0 x8_2).f2), .int .i64 ((rd_T93 l0 x8_2).f3)] 93 (0, 0));replace HB := sB hb;(try clear hb)))
        go_roundg k2
        case measure => have := HJ2.out; have := HK2.out; omega
        case rel => exact ⟨(t686), (wrap64 (x7_2 + 1)), (wrap64 (x8_2 + 1)), rS, rS, rS, H', ⟨by have := HJ2.out; have := HK2.out; omega⟩, ⟨mK BK681⟩, ⟨cB⟩⟩
       ·rw [if_neg c15] at H;obtain ⟨c15b0, c15b1⟩ := eF c15;by_cases c22 : ((rd_T93 l0 x8_2).f0) = 2
        ·rw [if_pos c22] at H;obtain ⟨c22b0, c22b1⟩ := eT c22;clear c22;have H' := Aside0.mk H;clear H;have p684 : 0 ≤ (x8_2 : Int) := dA;have q684 : x8_2 < (l0.length : Int) := dA;obtain ⟨ad684, e684, hx684_0, hx684_1, hx684_2, hx684_3⟩ := at_T93 HR0.out x8_2 p684 q684;cases e684;replace hx684_0 := (bc HB hx684_0 :);replace hx684_1 := (bc HB hx684_1 :);replace hx684_2 := (bc HB hx684_2 :);replace hx684_3 := (bc HB hx684_3 :);replace p684 := eq_true p684;replace q684 := eq_true q684
         go_wp2_with (first|((with_reducible refine gN 9 ?_);refine boxZ 9 #[.int .i64 0, .int .i64 0, .int .i64 0, .int .i64 0] 93 ?_;intro gb685 hg w23 hbox hb;have BK685 := Aside0.mk (hbox);have GW685 := gS hg;have GE685 := gS hg;replace HB := sB hb;have NB681_685 := nL hg BK681;have NB685_681 := nG hg BK681;replace BK681 := kB BK681 hb;clear hb hbox hg;have hnb24 := NB685_681.out;have hnc24 := NB681_685.out;obtain ⟨hcz25_0, hcz25_1, hcz25_2, hcz25_3, hfz25_0, hfz25_1, hfz25_2, hfz25_3⟩ := cz4 BK685))
         go_roundg k2
         case measure => have := HJ2.out; have := HK2.out; omega
         case rel => exact ⟨(Go.bits .and .i64 x6_2 ((rd_T93 l0 x8_2).f1)), (wrap64 (x7_2 + 1)), (wrap64 (x8_2 + 1)), rS, rS, rS, H', ⟨by have := HJ2.out; have := HK2.out; omega⟩, ⟨mK BK681⟩, ⟨cB⟩⟩
        ·rw [if_neg c22] at H;obtain ⟨c22b0, c22b1⟩ := eF c22;by_cases c26 : ((rd_T93 l0 x8_2).f0) = 7
         ·rw [if_pos c26] at H;obtain ⟨c26b0, c26b1⟩ := eT c26;clear c26;have H' := Aside0.mk H;clear H;have p684 : 0 ≤ (x8_2 : Int) := dA;have q684 : x8_2 < (l0.length : Int) := dA;obtain ⟨ad684, e684, hx684_0, hx684_1, hx684_2, hx684_3⟩ := at_T93 HR0.out x8_2 p684 q684;cases e684;replace hx684_0 := (bc HB hx684_0 :);replace hx684_1 := (bc HB hx684_1 :);replace hx684_2 := (bc HB hx684_2 :);replace hx684_3 := (bc HB hx684_3 :);replace p684 := eq_true p684;replace q684 := eq_true q684
          go_wp2_with (first|((with_reducible refine gN 9 ?_);refine boxZ 9 #[.int .i64 0, .int .i64 0, .int .i64 0, .int .i64 0] 93 ?_;intro gb685 hg w27 hbox hb;have BK685 := Aside0.mk (hbox);have GW685 := gS hg;have GE685 := gS hg;replace HB := sB hb;have NB681_685 := nL hg BK681;have NB685_681 := nG hg BK681;replace BK681 := kB BK681 hb;clear hb hbox hg;have hnb28 := NB685_681.out;have hnc28 := NB681_685.out;obtain ⟨hcz29_0, hcz29_1, hcz29_2, hcz29_3, hfz29_0, hfz29_1, hfz29_2, hfz29_3⟩ := cz4 BK685))
          go_roundg k2
          case measure => have := HJ2.out; have := HK2.out; omega
          case rel => exact ⟨(x6_2), (wrap64 (x7_2 + 1)), (wrap64 ((wrap64 (x8_2 + ((rd_T93 l0 x8_2).f1))) + 1)), rS, rS, rS, H', ⟨by have := HJ2.out; have := HK2.out; omega⟩, ⟨mK BK681⟩, ⟨cB⟩⟩
         ·rw [if_neg c26] at H;obtain ⟨c26b0, c26b1⟩ := eF c26;by_cases c30 : ((rd_T93 l0 x8_2).f0) = 8
          ·rw [if_pos c30] at H;obtain ⟨c30b0, c30b1⟩ := eT c30;clear c30;simp only [Option.some.injEq, Prod.mk.injEq] at H;obtain ⟨rfl, rfl⟩ := H;have p684 : 0 ≤ (x8_2 : Int) := dA;have q684 : x8_2 < (l0.length : Int) := dA;obtain ⟨ad684, e684, hx684_0, hx684_1, hx684_2, hx684_3⟩ := at_T93 HR0.out x8_2 p684 q684;cases e684;replace hx684_0 := (bc HB hx684_0 :);replace hx684_1 := (bc HB hx684_1 :);replace hx684_2 := (bc HB hx684_2 :);replace hx684_3 := (bc HB hx684_3 :);replace p684 := eq_true p684;replace q684 := eq_true q684
           go_wp2_with (first|((with_reducible refine gN 9 ?_);refine boxZ 9 #[.int .i64 0, .int .i64 0, .int .i64 0, .int .i64 0] 93 ?_;intro gb685 hg w31 hbox hb;have BK685 := Aside0.mk (hbox);have GW685 := gS hg;have GE685 := gS hg;replace HB := sB hb;have NB681_685 := nL hg BK681;have NB685_681 := nG hg BK681;replace BK681 := kB BK681 hb;clear hb hbox hg;have hnb32 := NB685_681.out;have hnc32 := NB681_685.out;obtain ⟨hcz33_0, hcz33_1, hcz33_2, hcz33_3, hfz33_0, hfz33_1, hfz33_2, hfz33_3⟩ := cz4 BK685))
           go_ret2;exact ⟨rE, cB⟩
          ·rw [if_neg c30] at H;obtain ⟨c30b0, c30b1⟩ := eF c30;replace H := bE H;obtain ⟨t688, A34, H⟩ := H;by_cases c35 : t688 = true
           ·subst c35;replace H := iT H;have H' := Aside0.mk H;clear H;have p684 : 0 ≤ (x8_2 : Int) := dA;have q684 : x8_2 < (l0.length : Int) := dA;obtain ⟨ad684, e684, hx684_0, hx684_1, hx684_2, hx684_3⟩ := at_T93 HR0.out x8_2 p684 q684;cases e684;replace hx684_0 := (bc HB hx684_0 :);replace hx684_1 := (bc HB hx684_1 :);replace hx684_2 := (bc HB hx684_2 :);replace hx684_3 := (bc HB hx684_3 :);replace p684 := eq_true p684;replace q684 := eq_true q684
            go_wp2_with (first|((with_reducible refine gN 9 ?_);refine boxZ 9 #[.int .i64 0, .int .i64 0, .int .i64 0, .int .i64 0] 93 ?_;intro gb685 hg w36 hbox hb;have BK685 := Aside0.mk (hbox);have GW685 := gS hg;have GE685 := gS hg;replace HB := sB hb;have NB681_685 := nL hg BK681;have NB685_681 := nG hg BK681;replace BK681 := kB BK681 hb;clear hb hbox hg;have hnb37 := NB685_681.out;have hnc37 := NB681_685.out;obtain ⟨hcz38_0, hcz38_1, hcz38_2, hcz38_3, hfz38_0, hfz38_1, hfz38_2, hfz38_3⟩ := cz4 BK685)|((with_reducible refine gF 141 ?_);refine goZ (some 34) Try.func141 #[.agg #[.int .i64 ((rd_T93 l0 x8_2).f0), .int .i64 ((rd_T93 l0 x8_2).f1), .int .i64 ((rd_T93 l0 x8_2).f2), .int .i64 ((rd_T93 l0 x8_2).f3)], .int .i64 x6_2] ?_;(with_reducible refine (spec_l07Asks.calls ((rd_T93 l0 x8_2).f0) ((rd_T93 l0 x8_2).f1) ((rd_T93 l0 x8_2).f2) ((rd_T93 l0 x8_2).f3) x6_2 true _ A34.out).mono ?_);rintro e w39 ⟨rfl, hb⟩;refine ⟨_, rfl, ?_⟩;replace BK681 := kB BK681 hb;replace BK685 := kP BK685 hb (.cells #[.int .i64 ((rd_T93 l0 x8_2).f0), .int .i64 ((rd_T93 l0 x8_2).f1), .int .i64 ((rd_T93 l0 x8_2).f2), .int .i64 ((rd_T93 l0 x8_2).f3)] 93 (0, 0));replace HB := sB hb;(try clear hb);obtain ⟨hcz40_0, hcz40_1, hcz40_2, hcz40_3, hfz40_0, hfz40_1, hfz40_2, hfz40_3⟩ := cz4 BK685))
            go_roundg k2
            case measure => have := HJ2.out; have := HK2.out; omega
            case rel => exact ⟨(x6_2), (wrap64 (x7_2 + 1)), (wrap64 ((wrap64 (x8_2 + ((rd_T93 l0 x8_2).f2))) + 1)), rS, rS, rS, H', ⟨by have := HJ2.out; have := HK2.out; omega⟩, ⟨mK BK681⟩, ⟨cB⟩⟩
           ·replace c35 := Bool.eq_false_iff.mpr c35;subst c35;replace H := iF H;have H' := Aside0.mk H;clear H;have p684 : 0 ≤ (x8_2 : Int) := dA;have q684 : x8_2 < (l0.length : Int) := dA;obtain ⟨ad684, e684, hx684_0, hx684_1, hx684_2, hx684_3⟩ := at_T93 HR0.out x8_2 p684 q684;cases e684;replace hx684_0 := (bc HB hx684_0 :);replace hx684_1 := (bc HB hx684_1 :);replace hx684_2 := (bc HB hx684_2 :);replace hx684_3 := (bc HB hx684_3 :);replace p684 := eq_true p684;replace q684 := eq_true q684
            go_wp2_with (first|((with_reducible refine gN 9 ?_);refine boxZ 9 #[.int .i64 0, .int .i64 0, .int .i64 0, .int .i64 0] 93 ?_;intro gb685 hg w41 hbox hb;have BK685 := Aside0.mk (hbox);have GW685 := gS hg;have GE685 := gS hg;replace HB := sB hb;have NB681_685 := nL hg BK681;have NB685_681 := nG hg BK681;replace BK681 := kB BK681 hb;clear hb hbox hg;have hnb42 := NB685_681.out;have hnc42 := NB681_685.out;obtain ⟨hcz43_0, hcz43_1, hcz43_2, hcz43_3, hfz43_0, hfz43_1, hfz43_2, hfz43_3⟩ := cz4 BK685)|((with_reducible refine gF 141 ?_);refine goZ (some 34) Try.func141 #[.agg #[.int .i64 ((rd_T93 l0 x8_2).f0), .int .i64 ((rd_T93 l0 x8_2).f1), .int .i64 ((rd_T93 l0 x8_2).f2), .int .i64 ((rd_T93 l0 x8_2).f3)], .int .i64 x6_2] ?_;(with_reducible refine (spec_l07Asks.calls ((rd_T93 l0 x8_2).f0) ((rd_T93 l0 x8_2).f1) ((rd_T93 l0 x8_2).f2) ((rd_T93 l0 x8_2).f3) x6_2 false _ A34.out).mono ?_);rintro e w44 ⟨rfl, hb⟩;refine ⟨_, rfl, ?_⟩;replace BK681 := kB BK681 hb;replace BK685 := kP BK685 hb (.cells #[.int .i64 ((rd_T93 l0 x8_2).f0), .int .i64 ((rd_T93 l0 x8_2).f1), .int .i64 ((rd_T93 l0 x8_2).f2), .int .i64 ((rd_T93 l0 x8_2).f3)] 93 (0, 0));replace HB := sB hb;(try clear hb);obtain ⟨hcz45_0, hcz45_1, hcz45_2, hcz45_3, hfz45_0, hfz45_1, hfz45_2, hfz45_3⟩ := cz4 BK685))
            go_roundg k2
            case measure => have := HJ2.out; have := HK2.out; omega
            case rel => exact ⟨(x6_2), (wrap64 (x7_2 + 1)), (wrap64 ((wrap64 (x8_2 + ((rd_T93 l0 x8_2).f3))) + 1)), rS, rS, rS, H', ⟨by have := HJ2.out; have := HK2.out; omega⟩, ⟨mK BK681⟩, ⟨cB⟩⟩
      ·rw [if_neg c13] at H;have c13b0 := decide_eq_false c13;clear c13;simp only [Option.some.injEq, Prod.mk.injEq] at H;obtain ⟨rfl, rfl⟩ := H;go_wp2;go_ret2;exact ⟨rE, cB⟩
def spec_l09In.l0 : Nat → List Int → Int → Int → Option (Bool)
  | 0, _, _, _ => none
  | k + 1, x0, x1, x5 => if x5 < (x0.length : Int) then (if 0 ≤ x5 then (if (rd x0 x5) = x1 then (some true) else (spec_l09In.l0 k x0 x1 (wrap64 (x5 + 1)))) else (none)) else (some false)
def spec_l09In.f (k : Nat) (l0 : List Int) (a1 : Int) : Option (Bool) := spec_l09In.l0 k l0 a1 0
set_option maxHeartbeats 8000000 in
set_option maxRecDepth 100000 in
theorem spec_l09In.calls (k : Nat) (A0 : Option Addr) (c0 : Nat) (l0 : List Int) (a1 : Int) (r : Bool) (w : World) (hr0 : Kd.C (Kd.int .i64) w A0 l0.length l0) (hc0 : l0.length ≤ c0) (h : spec_l09In.f k l0 a1 = some r) :
 Calls Try.prog 142 #[.slice A0 l0.length c0, .int .i64 a1] w fun e w' => e = .returned (.bool r) ∧ Drawn0 w w' := by
 have HR0 := Aside0.mk hr0;have HC0 := Aside0.mk hc0;clear hr0 hc0;have H : (spec_l09In.l0 k l0 a1 0) = some r := h;clear h;have H' := Aside0.mk H;clear H;go_enter Try.func142, Try.ntmps142;go_wp2
 go_loopg [5] k (fun kq v5 w' => ∃ (x5_1 : Int), v5 = .int .i64 x5_1 ∧ Aside0 (spec_l09In.l0 kq l0 a1 x5_1 = some r) ∧ Aside0 (kq ≤ k) ∧ Drawn0 w w')
 case atStart => exact ⟨(0), rS, H', ⟨Nat.le_refl _⟩, by repeat (first | exact Drawn0.refl _ | apply Drawn0.step)⟩
 case round =>
  clear H';obtain ⟨x5_1, rfl, HA, HK1, ⟨m1, rfl⟩⟩ := hrel
  cases gk with
  | zero => exact absurd HA.out (by simp [spec_l09In.l0])
  | succ k1 =>
   have H := HA.out;clear HA;simp only [spec_l09In.l0] at H;by_cases c3 : x5_1 < (l0.length : Int)
   ·rw [if_pos c3] at H;have c3b0 := decide_eq_true c3;clear c3;replace H := gD H;obtain ⟨c4b0, H⟩ := H;by_cases c5 : (rd l0 x5_1) = a1
    ·rw [if_pos c5] at H;obtain ⟨c5b0, c5b1⟩ := eT c5;clear c5;obtain rfl := Option.some.inj H;have p689 : 0 ≤ (x5_1 : Int) := dA;have q689 : x5_1 < (l0.length : Int) := dA;obtain ⟨ad689, e689, hx689_0⟩ := Kd.at_int HR0.out x5_1 p689 q689;cases e689;replace p689 := eq_true p689;replace q689 := eq_true q689;go_wp2;go_ret
     exact ⟨by first | rfl | (simp; done) | (simp [*]; done), by repeat (first | exact Drawn0.refl _ | apply Drawn0.step)⟩
    ·rw [if_neg c5] at H;obtain ⟨c5b0, c5b1⟩ := eF c5;have H' := Aside0.mk H;clear H;have p689 : 0 ≤ (x5_1 : Int) := dA;have q689 : x5_1 < (l0.length : Int) := dA;obtain ⟨ad689, e689, hx689_0⟩ := Kd.at_int HR0.out x5_1 p689 q689;cases e689;replace p689 := eq_true p689;replace q689 := eq_true q689;go_wp2;go_roundg k1
     case measure => have := HK1.out; omega
     case rel => exact ⟨(wrap64 (x5_1 + 1)), rS, H', ⟨by have := HK1.out; omega⟩, by repeat (first | exact Drawn0.refl _ | apply Drawn0.step)⟩
   ·rw [if_neg c3] at H;have c3b0 := decide_eq_false c3;clear c3;obtain rfl := Option.some.inj H;go_wp2;go_ret
    exact ⟨by first | rfl | (simp; done) | (simp [*]; done), by repeat (first | exact Drawn0.refl _ | apply Drawn0.step)⟩
end Go.Proofs.Ytlgndgjbfjefpaa.PFnCondLines
