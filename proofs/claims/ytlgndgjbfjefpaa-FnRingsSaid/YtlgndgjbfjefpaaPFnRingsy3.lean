import Derived.Test.YtlgndgjbfjefpaaPFnRingsy0
import Derived.Test.YtlgndgjbfjefpaaPFnRingsy2
namespace Go.Proofs.Ytlgndgjbfjefpaa.PFnRings
open Go.RowKit Go.Proofs.YtlgndgjbfjefpaaW.PrintWords Go.Proofs.YtlgndgjbfjefpaaW.PrintLast Go.Proofs.YtlgndgjbfjefpaaW.PrintMore Go.Proofs.YtlgndgjbfjefpaaW.Z
attribute [local go_sem] isS max2_int min2_int max_two min_two max_three min_three max_four min_four
set_option linter.unusedVariables false
set_option linter.unusedSimpArgs false
mutual
def impl_RingOk.j0 : Nat → Bool → List (S33) → Int → Int → Int → Option (Bool)
  | 0, _, _, _, _, _ => none
  | k + 1, x33, x186000, x186001, x186002, x186003 => if x33 = true then (some false) else (impl_RingOk.l0 k x186002 x186000 (x186000.length : Int) 0 x186000 x186001 x186002 x186003)
def impl_RingOk.l0 : Nat → Int → List (S33) → Int → Int → List (S33) → Int → Int → Int → Option (Bool)
  | 0, _, _, _, _, _, _, _, _ => none
  | k + 1, x3, x37, x38, x39, x186000, x186001, x186002, x186003 => if x39 < x38 then (if 0 ≤ x39 then (if x39 < (x37.length : Int) then (if ((rd_T33 x37 x39).f0) = 1 then (impl_RingOk.l0 k (wrap64 (x3 + 1)) x37 x38 (wrap64 (x39 + 1)) x186000 x186001 x186002 x186003) else (impl_RingOk.l0 k (wrap64 (x3 + ((rd_T33 x37 x39).f3))) x37 x38 (wrap64 (x39 + 1)) x186000 x186001 x186002 x186003)) else (none)) else (none)) else (some (decide (x3 ≤ x186003)))
end
def impl_RingOk.f (k : Nat) (l0_0 : List (S33)) (a0_1 : Int) (a0_2 : Int) (a0_3 : Int) : Option (Bool) := if (l0_0.length : Int) > 4 then (impl_RingOk.j0 k true l0_0 a0_1 a0_2 a0_3) else ((impl_areItems.f k l0_0).bind fun t186 => (if t186 = true then ((impl_within.f a0_1 0 5).bind fun t187 => (if t187 = true then ((impl_within.f a0_2 0 1000000000).bind fun t188 => (if t188 = true then ((impl_within.f a0_3 0 1000000000).bind fun t189 => (impl_RingOk.j0 k (!t189) l0_0 a0_1 a0_2 a0_3)) else (impl_RingOk.j0 k true l0_0 a0_1 a0_2 a0_3))) else (impl_RingOk.j0 k true l0_0 a0_1 a0_2 a0_3))) else (impl_RingOk.j0 k true l0_0 a0_1 a0_2 a0_3)))
set_option maxHeartbeats 8000000 in
set_option maxRecDepth 100000 in
theorem impl_RingOk.calls (k : Nat) (A0_0 : Option Addr) (c0_0 : Nat) (l0_0 : List (S33)) (a0_1 : Int) (a0_2 : Int) (a0_3 : Int) (r : Bool) (w : World) (hr0_0 : Kd.C k33 w A0_0 l0_0.length l0_0) (hc0_0 : l0_0.length ≤ c0_0) (h : impl_RingOk.f k l0_0 a0_1 a0_2 a0_3 = some r) :
 Calls Try.prog 18 #[.agg #[.slice A0_0 l0_0.length c0_0, .int .i64 a0_1, .int .i64 a0_2, .int .i64 a0_3]] w fun e w' => e = .returned (.bool r) ∧ Below w.heap.size w w' := by
 have hu28 := Try.underlying28;have hu33 := Try.underlying33;have HR0_0 := Aside0.mk hr0_0;have HC0_0 := Aside0.mk hc0_0;clear hr0_0 hc0_0;have HB := Aside0.mk (Below.refl w.heap.size w)
 have H : (if (l0_0.length : Int) > 4 then (impl_RingOk.j0 k true l0_0 a0_1 a0_2 a0_3) else ((impl_areItems.f k l0_0).bind fun t186 => (if t186 = true then ((impl_within.f a0_1 0 5).bind fun t187 => (if t187 = true then ((impl_within.f a0_2 0 1000000000).bind fun t188 => (if t188 = true then ((impl_within.f a0_3 0 1000000000).bind fun t189 => (impl_RingOk.j0 k (!t189) l0_0 a0_1 a0_2 a0_3)) else (impl_RingOk.j0 k true l0_0 a0_1 a0_2 a0_3))) else (impl_RingOk.j0 k true l0_0 a0_1 a0_2 a0_3))) else (impl_RingOk.j0 k true l0_0 a0_1 a0_2 a0_3)))) = some r := h
 clear h;have HC2 := Aside0.mk H;clear H;go_enter Try.func18, Try.ntmps18
 go_upto_region 1 with (first|((with_reducible refine gN 1 ?_);refine boxZ 1 #[.slice A0_0 l0_0.length c0_0, .int .i64 a0_1, .int .i64 a0_2, .int .i64 a0_3] 28 ?_;intro gb185 hg w3 hbox hb;have BK185 := Aside0.mk (hbox);have GW185 := gS hg;have GE185 := gS hg;replace HB := sB hb;clear hb hbox hg))
 (try simp only [Act.put, List.setIfInBounds_toArray, List.set_cons_zero, List.set_cons_succ])
 go_cut [33] (fun v33 wc => ∃ (kq : Nat) (x33_1 : Bool), v33 = .bool x33_1 ∧ Aside0 (impl_RingOk.j0 kq x33_1 l0_0 a0_1 a0_2 a0_3 = some r) ∧ Aside0 (kq ≤ k) ∧ Aside0 (wc.heap[gb185]? = some (.cells #[(.slice A0_0 l0_0.length c0_0), .int .i64 a0_1, .int .i64 a0_2, .int .i64 a0_3] 28 (0, 0))) ∧ Aside0 (Below w.heap.size w wc))
 case first =>
  have H := HC2.out;clear HC2;by_cases c4 : (l0_0.length : Int) > 4
  ·rw [if_pos c4] at H;have c4b0 : decide (4 < (l0_0.length : Int)) = true := decide_eq_true c4
   have c4b1 : decide (4 < l0_0.length) = true := decide_eq_true (by omega)
   clear c4
   (first | rw [c4b0] | (simp only [i64_w, i32_w]; rw [c4b0]) | skip)
   have H' := Aside0.mk H;clear H;obtain ⟨hcz5_0, hcz5_1, hcz5_2, hcz5_3, hfz5_0, hfz5_1, hfz5_2, hfz5_3⟩ := cz4 BK185;go_wp2;go_meet
   case rel => exact ⟨_, (true), rS, H', ⟨oL⟩, ⟨mK BK185⟩, ⟨cB⟩⟩
  ·rw [if_neg c4] at H;have c4b0 : decide (4 < (l0_0.length : Int)) = false := decide_eq_false c4
   have c4b1 : decide (4 < l0_0.length) = false := decide_eq_false (by omega)
   clear c4
   (first | rw [c4b0] | (simp only [i64_w, i32_w]; rw [c4b0]) | skip)
   replace H := bE H;obtain ⟨t186, A6, H⟩ := H;by_cases c7 : t186 = true
   ·subst c7;replace H := iT H;replace H := bE H;obtain ⟨t187, A8, H⟩ := H;by_cases c9 : t187 = true
    ·subst c9;replace H := iT H;replace H := bE H;obtain ⟨t188, A10, H⟩ := H;by_cases c11 : t188 = true
     ·subst c11;replace H := iT H;replace H := bE H;obtain ⟨t189, A12, H⟩ := H;have H' := Aside0.mk H;clear H;obtain ⟨hcz13_0, hcz13_1, hcz13_2, hcz13_3, hfz13_0, hfz13_1, hfz13_2, hfz13_3⟩ := cz4 BK185
      go_wp2_with (first|(go_at_call 91;(with_reducible refine (impl_areItems.calls k _ _ l0_0 true _ ?side1 ?side2 A6.out).mono ?_);(case side1 => exact cC (Kd.C_below HR0_0.out HB.out));(case side2 => exact HC0_0.out);rintro e w14 ⟨rfl, hb⟩;replace BK185 := kB BK185 hb;replace HB := sB hb;(try clear hb);obtain ⟨hcz15_0, hcz15_1, hcz15_2, hcz15_3, hfz15_0, hfz15_1, hfz15_2, hfz15_3⟩ := cz4 BK185)|(go_at_call 92;(with_reducible refine (impl_within.calls a0_1 0 5 true _ A8.out).mono ?_);rintro e w' ⟨rfl, ⟨nd, rfl⟩⟩)|(go_at_call 92;(with_reducible refine (impl_within.calls a0_2 0 1000000000 true _ A10.out).mono ?_);rintro e w' ⟨rfl, ⟨nd, rfl⟩⟩)|(go_at_call 92;(with_reducible refine (impl_within.calls a0_3 0 1000000000 t189 _ A12.out).mono ?_);rintro e w' ⟨rfl, ⟨nd, rfl⟩⟩))
      go_meet
      case rel => exact ⟨_, (!t189), rS, H', ⟨oL⟩, ⟨mK BK185⟩, ⟨cB⟩⟩
     ·replace c11 := Bool.eq_false_iff.mpr c11;subst c11;replace H := iF H;have H' := Aside0.mk H;clear H;obtain ⟨hcz16_0, hcz16_1, hcz16_2, hcz16_3, hfz16_0, hfz16_1, hfz16_2, hfz16_3⟩ := cz4 BK185
      go_wp2_with (first|(go_at_call 91;(with_reducible refine (impl_areItems.calls k _ _ l0_0 true _ ?side1 ?side2 A6.out).mono ?_);(case side1 => exact cC (Kd.C_below HR0_0.out HB.out));(case side2 => exact HC0_0.out);rintro e w17 ⟨rfl, hb⟩;replace BK185 := kB BK185 hb;replace HB := sB hb;(try clear hb);obtain ⟨hcz18_0, hcz18_1, hcz18_2, hcz18_3, hfz18_0, hfz18_1, hfz18_2, hfz18_3⟩ := cz4 BK185)|(go_at_call 92;(with_reducible refine (impl_within.calls a0_1 0 5 true _ A8.out).mono ?_);rintro e w' ⟨rfl, ⟨nd, rfl⟩⟩)|(go_at_call 92;(with_reducible refine (impl_within.calls a0_2 0 1000000000 false _ A10.out).mono ?_);rintro e w' ⟨rfl, ⟨nd, rfl⟩⟩))
      go_meet
      case rel => exact ⟨_, (true), rS, H', ⟨oL⟩, ⟨mK BK185⟩, ⟨cB⟩⟩
    ·replace c9 := Bool.eq_false_iff.mpr c9;subst c9;replace H := iF H;have H' := Aside0.mk H;clear H;obtain ⟨hcz19_0, hcz19_1, hcz19_2, hcz19_3, hfz19_0, hfz19_1, hfz19_2, hfz19_3⟩ := cz4 BK185
     go_wp2_with (first|(go_at_call 91;(with_reducible refine (impl_areItems.calls k _ _ l0_0 true _ ?side1 ?side2 A6.out).mono ?_);(case side1 => exact cC (Kd.C_below HR0_0.out HB.out));(case side2 => exact HC0_0.out);rintro e w20 ⟨rfl, hb⟩;replace BK185 := kB BK185 hb;replace HB := sB hb;(try clear hb);obtain ⟨hcz21_0, hcz21_1, hcz21_2, hcz21_3, hfz21_0, hfz21_1, hfz21_2, hfz21_3⟩ := cz4 BK185)|(go_at_call 92;(with_reducible refine (impl_within.calls a0_1 0 5 false _ A8.out).mono ?_);rintro e w' ⟨rfl, ⟨nd, rfl⟩⟩))
     go_meet
     case rel => exact ⟨_, (true), rS, H', ⟨oL⟩, ⟨mK BK185⟩, ⟨cB⟩⟩
   ·replace c7 := Bool.eq_false_iff.mpr c7;subst c7;replace H := iF H;have H' := Aside0.mk H;clear H;obtain ⟨hcz22_0, hcz22_1, hcz22_2, hcz22_3, hfz22_0, hfz22_1, hfz22_2, hfz22_3⟩ := cz4 BK185
    go_wp2_with (first|(go_at_call 91;(with_reducible refine (impl_areItems.calls k _ _ l0_0 false _ ?side1 ?side2 A6.out).mono ?_);(case side1 => exact cC (Kd.C_below HR0_0.out HB.out));(case side2 => exact HC0_0.out);rintro e w23 ⟨rfl, hb⟩;replace BK185 := kB BK185 hb;replace HB := sB hb;(try clear hb)))
    go_meet
    case rel => exact ⟨_, (true), rS, H', ⟨oL⟩, ⟨mK BK185⟩, ⟨cB⟩⟩
 case rest =>
  clear HC2;(try clear c4);(try clear c4b0);(try clear c4b1);(try clear c7);(try clear c9);(try clear c11);(try clear hcz13_0);(try clear hcz13_1);(try clear hcz13_2);(try clear hcz13_3);(try clear hcz15_0);(try clear hcz15_1);(try clear hcz15_2);(try clear hcz15_3);(try clear hcz16_0);(try clear hcz16_1);(try clear hcz16_2);(try clear hcz16_3);(try clear hcz18_0);(try clear hcz18_1);(try clear hcz18_2);(try clear hcz18_3);(try clear hcz19_0);(try clear hcz19_1);(try clear hcz19_2);(try clear hcz19_3);(try clear hcz21_0);(try clear hcz21_1);(try clear hcz21_2);(try clear hcz21_3);(try clear hcz22_0);(try clear hcz22_1);(try clear hcz22_2);(try clear hcz22_3);(try clear hcz5_0);(try clear hcz5_1);(try clear hcz5_2);(try clear hcz5_3);(try clear hfz13_0);(try clear hfz13_1);(try clear hfz13_2);(try clear hfz13_3);(try clear hfz15_0);(try clear hfz15_1);(try clear hfz15_2);(try clear hfz15_3);(try clear hfz16_0);(try clear hfz16_1);(try clear hfz16_2);(try clear hfz16_3);(try clear hfz18_0);(try clear hfz18_1);(try clear hfz18_2);(try clear hfz18_3);(try clear hfz19_0);(try clear hfz19_1);(try clear hfz19_2);(try clear hfz19_3);(try clear hfz21_0);(try clear hfz21_1);(try clear hfz21_2);(try clear hfz21_3);(try clear hfz22_0);(try clear hfz22_1);(try clear hfz22_2);(try clear hfz22_3);(try clear hfz5_0);(try clear hfz5_1);(try clear hfz5_2);(try clear hfz5_3);obtain ⟨kq, x33_1, rfl, HA, HJ1, BK185, HB⟩ := hcut
  cases kq with
  | zero => exact absurd HA.out (by simp [impl_RingOk.j0])
  | succ kj1 =>
   have H := HA.out;clear HA;simp only [impl_RingOk.j0] at H;by_cases c24 : x33_1 = true
   ·subst c24;replace H := iT H;obtain rfl := Option.some.inj H;go_wp2;go_ret;exact ⟨rE, cB⟩
   ·replace c24 := Bool.eq_false_iff.mpr c24;subst c24;replace H := iF H;have H' := Aside0.mk H;clear H;obtain ⟨hcz25_0, hcz25_1, hcz25_2, hcz25_3, hfz25_0, hfz25_1, hfz25_2, hfz25_3⟩ := cz4 BK185;go_wp2
    go_loopg [3, 39] kj1 (fun kq v3 v39 w' => ∃ (x3_2 : Int) (x39_2 : Int), v3 = .int .i64 x3_2 ∧ v39 = .int .i64 x39_2 ∧ Aside0 (impl_RingOk.l0 kq x3_2 l0_0 (l0_0.length : Int) x39_2 l0_0 a0_1 a0_2 a0_3 = some r) ∧ Aside0 (kq ≤ kj1) ∧ Aside0 (w'.heap[gb185]? = some (.cells #[(.slice A0_0 l0_0.length c0_0), .int .i64 a0_1, .int .i64 a0_2, .int .i64 a0_3] 28 (0, 0))) ∧ Aside0 (Below w.heap.size w w'))
    case atStart => exact ⟨(a0_2), (0), rS, rS, H', ⟨Nat.le_refl _⟩, ⟨mK BK185⟩, ⟨cB⟩⟩
    case round =>
     clear H';(try clear c4);(try clear c4b0);(try clear c4b1);(try clear c7);(try clear c9);(try clear c11);(try clear c24);(try clear hcz13_0);(try clear hcz13_1);(try clear hcz13_2);(try clear hcz13_3);(try clear hcz15_0);(try clear hcz15_1);(try clear hcz15_2);(try clear hcz15_3);(try clear hcz16_0);(try clear hcz16_1);(try clear hcz16_2);(try clear hcz16_3);(try clear hcz18_0);(try clear hcz18_1);(try clear hcz18_2);(try clear hcz18_3);(try clear hcz19_0);(try clear hcz19_1);(try clear hcz19_2);(try clear hcz19_3);(try clear hcz21_0);(try clear hcz21_1);(try clear hcz21_2);(try clear hcz21_3);(try clear hcz22_0);(try clear hcz22_1);(try clear hcz22_2);(try clear hcz22_3);(try clear hcz25_0);(try clear hcz25_1);(try clear hcz25_2);(try clear hcz25_3);(try clear hcz5_0);(try clear hcz5_1);(try clear hcz5_2);(try clear hcz5_3);(try clear hfz13_0);(try clear hfz13_1);(try clear hfz13_2);(try clear hfz13_3);(try clear hfz15_0);(try clear hfz15_1);(try clear hfz15_2);(try clear hfz15_3);(try clear hfz16_0);(try clear hfz16_1);(try clear hfz16_2);(try clear hfz16_3);(try clear hfz18_0);(try clear hfz18_1);(try clear hfz18_2);(try clear hfz18_3);(try clear hfz19_0);(try clear hfz19_1);(try clear hfz19_2);(try clear hfz19_3);(try clear hfz21_0);(try clear hfz21_1);(try clear hfz21_2);(try clear hfz21_3);(try clear hfz22_0);(try clear hfz22_1);(try clear hfz22_2);(try clear hfz22_3);(try clear hfz25_0);(try clear hfz25_1);(try clear hfz25_2);(try clear hfz25_3);(try clear hfz5_0);(try clear hfz5_1);(try clear hfz5_2);(try clear hfz5_3);obtain ⟨x3_2, x39_2, rfl, rfl, HA, HK2, BK185, HB⟩ := hrel
     cases gk with
     | zero => exact absurd HA.out (by simp [impl_RingOk.l0])
     | succ k2 =>
      have H := HA.out;clear HA;simp only [impl_RingOk.l0] at H;by_cases c26 : x39_2 < (l0_0.length : Int)
      ·rw [if_pos c26] at H;have c26b0 := decide_eq_true c26;clear c26;replace H := gD H;obtain ⟨c27b0, H⟩ := H;replace H := gD H;obtain ⟨c28b0, H⟩ := H;by_cases c29 : ((rd_T33 l0_0 x39_2).f0) = 1
       ·rw [if_pos c29] at H;obtain ⟨c29b0, c29b1⟩ := eT c29;clear c29;have H' := Aside0.mk H;clear H;have p190 : 0 ≤ (x39_2 : Int) := dA;have q190 : x39_2 < (l0_0.length : Int) := dA;obtain ⟨ad190, e190, hx190_0, hx190_1, hx190_2, hx190_3⟩ := at_T33 HR0_0.out x39_2 p190 q190;cases e190;replace hx190_0 := (bc HB hx190_0 :);replace hx190_1 := (bc HB hx190_1 :);replace hx190_2 := (bc HB hx190_2 :);replace hx190_3 := (bc HB hx190_3 :);replace p190 := eq_true p190;replace q190 := eq_true q190
        go_wp2_with (first|((with_reducible refine gN 5 ?_);refine boxZ 5 #[.int .i64 0, .int .i64 0, .int .i64 0, .int .i64 0] 33 ?_;intro gb191 hg w30 hbox hb;have BK191 := Aside0.mk (hbox);have GW191 := gS hg;have GE191 := gS hg;replace HB := sB hb;have NB185_191 := nL hg BK185;have NB191_185 := nG hg BK185;replace BK185 := kB BK185 hb;clear hb hbox hg;have hnb31 := NB191_185.out;have hnc31 := NB185_191.out;obtain ⟨hcz32_0, hcz32_1, hcz32_2, hcz32_3, hfz32_0, hfz32_1, hfz32_2, hfz32_3⟩ := cz4 BK191))
        go_roundg k2
        case measure => have := HJ1.out; have := HK2.out; omega
        case rel => exact ⟨(wrap64 (x3_2 + 1)), (wrap64 (x39_2 + 1)), rS, rS, H', ⟨by have := HJ1.out; have := HK2.out; omega⟩, ⟨mK BK185⟩, ⟨cB⟩⟩
       ·rw [if_neg c29] at H;obtain ⟨c29b0, c29b1⟩ := eF c29;have H' := Aside0.mk H;clear H;have p190 : 0 ≤ (x39_2 : Int) := dA;have q190 : x39_2 < (l0_0.length : Int) := dA;obtain ⟨ad190, e190, hx190_0, hx190_1, hx190_2, hx190_3⟩ := at_T33 HR0_0.out x39_2 p190 q190;cases e190;replace hx190_0 := (bc HB hx190_0 :);replace hx190_1 := (bc HB hx190_1 :);replace hx190_2 := (bc HB hx190_2 :);replace hx190_3 := (bc HB hx190_3 :);replace p190 := eq_true p190;replace q190 := eq_true q190
        go_wp2_with (first|((with_reducible refine gN 5 ?_);refine boxZ 5 #[.int .i64 0, .int .i64 0, .int .i64 0, .int .i64 0] 33 ?_;intro gb191 hg w33 hbox hb;have BK191 := Aside0.mk (hbox);have GW191 := gS hg;have GE191 := gS hg;replace HB := sB hb;have NB185_191 := nL hg BK185;have NB191_185 := nG hg BK185;replace BK185 := kB BK185 hb;clear hb hbox hg;have hnb34 := NB191_185.out;have hnc34 := NB185_191.out;obtain ⟨hcz35_0, hcz35_1, hcz35_2, hcz35_3, hfz35_0, hfz35_1, hfz35_2, hfz35_3⟩ := cz4 BK191))
        go_roundg k2
        case measure => have := HJ1.out; have := HK2.out; omega
        case rel => exact ⟨(wrap64 (x3_2 + ((rd_T33 l0_0 x39_2).f3))), (wrap64 (x39_2 + 1)), rS, rS, H', ⟨by have := HJ1.out; have := HK2.out; omega⟩, ⟨mK BK185⟩, ⟨cB⟩⟩
      ·rw [if_neg c26] at H;have c26b0 := decide_eq_false c26;clear c26;obtain rfl := Option.some.inj H;obtain ⟨hcz36_0, hcz36_1, hcz36_2, hcz36_3, hfz36_0, hfz36_1, hfz36_2, hfz36_3⟩ := cz4 BK185;go_wp2;go_ret;exact ⟨rE, cB⟩
end Go.Proofs.Ytlgndgjbfjefpaa.PFnRings
