import Derived.Test.YtfmilhpneelonaaPFnExactDecidey0
import Derived.Test.YtfmilhpneelonaaPFnExactDecidey5
import Derived.Test.YtfmilhpneelonaaPFnExactDecidey6
import Derived.Test.YtfmilhpneelonaaPFnExactDecidey8
namespace Go.Proofs.Ytfmilhpneelonaa.PFnExactDecide
open Go.RowKit Go.Proofs.YtfmilhpneelonaaW.PrintWords Go.Proofs.YtfmilhpneelonaaW.PrintLast Go.Proofs.YtfmilhpneelonaaW.PrintMore Go.Proofs.YtfmilhpneelonaaW.Z
attribute [local go_sem] max2_int min2_int max_two min_two max_three min_three max_four min_four
set_option linter.unusedVariables false
set_option linter.unusedSimpArgs false
mutual
def spec_Decide.j0 : Nat → Bool → Int → Int → Int → List (S40) → Int → Int → List (S25) → Option (Int)
  | 0, _, _, _, _, _, _, _, _ => none
  | k + 1, x20, x224000, x224001, x224002, x224003, x225000, x225001, x225002 => if x20 = true then (some 0) else (spec_Decide.l0 k 0 x224000 x224001 x224002 x224003 x225000 x225001 x225002)
def spec_Decide.l0 : Nat → Int → Int → Int → Int → List (S40) → Int → Int → List (S25) → Option (Int)
  | 0, _, _, _, _, _, _, _, _ => none
  | k + 1, x5, x224000, x224001, x224002, x224003, x225000, x225001, x225002 => if x5 < (x224003.length : Int) then (if 0 ≤ x5 then ((spec_RuleHolds.f k ((rd_T40 x224003 x5).f0) ((rd_T40 x224003 x5).f1) ((rd_T40 x224003 x5).f2) ((rd_T40 x224003 x5).f3) x225000 x225001 x225002).bind fun t229 => (if t229 = true then ((spec_ResultOf.f ((rd_T40 x224003 x5).f2) ((rd_T40 x224003 x5).f3)).bind fun t232 => (some t232)) else (spec_Decide.l0 k (wrap64 (x5 + 1)) x224000 x224001 x224002 x224003 x225000 x225001 x225002))) else (none)) else ((spec_ResultOf.f x224001 x224002).bind fun t227 => (some t227))
end
def spec_Decide.f (k : Nat) (a0_0 : Int) (a0_1 : Int) (a0_2 : Int) (l0_3 : List (S40)) (a1_0 : Int) (a1_1 : Int) (l1_2 : List (S25)) : Option (Int) := (spec_PolicyOk.f k a0_0 a0_1 a0_2 l0_3).bind fun t225 => (if t225 = true then ((spec_CallOk.f k a1_0 a1_1 l1_2).bind fun t226 => (if t226 = true then (spec_Decide.j0 k (a1_0 != a0_0) a0_0 a0_1 a0_2 l0_3 a1_0 a1_1 l1_2) else (spec_Decide.j0 k true a0_0 a0_1 a0_2 l0_3 a1_0 a1_1 l1_2))) else (spec_Decide.j0 k true a0_0 a0_1 a0_2 l0_3 a1_0 a1_1 l1_2))
def spec_Decide.T7 : Bool × List (List Nat × List Nat) := (true, [([], []), ([0], [0]), ([], []), ([1, 2], [1, 2]), ([3], [3]), ([4], [4]), ([], []), ([6], [6]), ([], []), ([7, 8], [7, 8]), ([9], [9]), ([10], [10]), ([5, 11], [5, 11]), ([12, 12, 0, 1, 2, 3, 4, 5, 6, 7, 8, 9, 10, 11, 12], [12])])
def spec_Decide.B7 : List Nat := [0, 1, 0, 7, 15, 31, 0, 64, 0, 448, 960, 1984, 4095, 8191]
theorem spec_Decide.tab7 : rtab .any (opsOf Try.f72 7) = spec_Decide.T7 := by kernel_rfl
theorem spec_Decide.bits7 : waitsOk spec_Decide.T7.2 spec_Decide.B7 = true := by kernel_rfl
theorem q9x0 {P : Prop} (h : P := by 
 rintro w' ⟨s0, s1, s2, s3, s4, s5, s6, s7, s8, s9, s10, s11⟩
 go_simp
 with_reducible rfl) : P := h
set_option maxHeartbeats 8000000 in
set_option maxRecDepth 100000 in
theorem spec_Decide.calls (k : Nat) (a0_0 : Int) (a0_1 : Int) (a0_2 : Int) (A0_3 : Option Addr) (c0_3 : Nat) (l0_3 : List (S40)) (a1_0 : Int) (a1_1 : Int) (A1_2 : Option Addr) (c1_2 : Nat) (l1_2 : List (S25)) (r : Int) (w : World) (hr0_3 : Kd.C k40 w A0_3 l0_3.length l0_3) (hc0_3 : l0_3.length ≤ c0_3) (hr1_2 : Kd.C k25 w A1_2 l1_2.length l1_2) (hc1_2 : l1_2.length ≤ c1_2) (h : spec_Decide.f k a0_0 a0_1 a0_2 l0_3 a1_0 a1_1 l1_2 = some r) :
 Calls Try.prog 72 #[.agg #[.int .i64 a0_0, .int .i64 a0_1, .int .i64 a0_2, .slice A0_3 l0_3.length c0_3], .agg #[.int .i64 a1_0, .int .i64 a1_1, .slice A1_2 l1_2.length c1_2]] w fun e w' => e = .returned (.int .i64 r) ∧ Below w.heap.size w w' := by
 have hu99 := Try.underlying99;have hu30 := Try.underlying30;have hu40 := Try.underlying40;have HR0_3 := Aside0.mk hr0_3;have HC0_3 := Aside0.mk hc0_3;clear hr0_3 hc0_3;have HR1_2 := Aside0.mk hr1_2;have HC1_2 := Aside0.mk hc1_2;clear hr1_2 hc1_2;have HB := Aside0.mk (Below.refl w.heap.size w)
 have H : ((spec_PolicyOk.f k a0_0 a0_1 a0_2 l0_3).bind fun t225 => (if t225 = true then ((spec_CallOk.f k a1_0 a1_1 l1_2).bind fun t226 => (if t226 = true then (spec_Decide.j0 k (a1_0 != a0_0) a0_0 a0_1 a0_2 l0_3 a1_0 a1_1 l1_2) else (spec_Decide.j0 k true a0_0 a0_1 a0_2 l0_3 a1_0 a1_1 l1_2))) else (spec_Decide.j0 k true a0_0 a0_1 a0_2 l0_3 a1_0 a1_1 l1_2))) = some r := h
 clear h;have HC3 := Aside0.mk H;clear H;go_enter Try.func72, Try.ntmps72
 go_upto_region 1 with (first|((with_reducible refine gN 2 ?_);refine boxZ 2 #[.int .i64 a0_0, .int .i64 a0_1, .int .i64 a0_2, .slice A0_3 l0_3.length c0_3] 99 ?_;intro gb223 hg w4 hbox hb;have BK223 := Aside0.mk (hbox);have GW223 := gS hg;have GE223 := gS hg;replace HB := sB hb;clear hb hbox hg)|((with_reducible refine gN 3 ?_);refine boxZ 3 #[.int .i64 a1_0, .int .i64 a1_1, .slice A1_2 l1_2.length c1_2] 30 ?_;intro gb224 hg w5 hbox hb;have BK224 := Aside0.mk (hbox);have GW224 := gS hg;have GE224 := gS hg;replace HB := sB hb;have NB223_224 := nL hg BK223;have NB224_223 := nG hg BK223;replace BK223 := kB BK223 hb;clear hb hbox hg))
 (try simp only [Act.put, List.setIfInBounds_toArray, List.set_cons_zero, List.set_cons_succ])
 go_cut [20] (fun v20 wc => ∃ (kq : Nat) (x20_2 : Bool), v20 = .bool x20_2 ∧ Aside0 (spec_Decide.j0 kq x20_2 a0_0 a0_1 a0_2 l0_3 a1_0 a1_1 l1_2 = some r) ∧ Aside0 (kq ≤ k) ∧ Aside0 (wc.heap[gb223]? = some (.cells #[.int .i64 a0_0, .int .i64 a0_1, .int .i64 a0_2, (.slice A0_3 l0_3.length c0_3)] 99 (0, 0))) ∧ Aside0 (wc.heap[gb224]? = some (.cells #[.int .i64 a1_0, .int .i64 a1_1, (.slice A1_2 l1_2.length c1_2)] 30 (0, 0))) ∧ Aside0 (Below w.heap.size w wc))
 case first =>
  have H := HC3.out;clear HC3;replace H := bE H;obtain ⟨t225, A6, H⟩ := H;by_cases c7 : t225 = true
  ·subst c7;replace H := iT H;replace H := bE H;obtain ⟨t226, A8, H⟩ := H;by_cases c9 : t226 = true
   ·subst c9;replace H := iT H;have H' := Aside0.mk H;clear H;have hnb10 := NB223_224.out;have hnc10 := NB224_223.out;obtain ⟨hcz11_0, hcz11_1, hcz11_2, hcz11_3, hfz11_0, hfz11_1, hfz11_2, hfz11_3⟩ := cz4 BK223
    go_wp2_with (first|((with_reducible refine gF 74 ?_);refine goZ (some 7) Try.func74 #[.agg #[.int .i64 a0_0, .int .i64 a0_1, .int .i64 a0_2, .slice A0_3 l0_3.length c0_3]] ?_;(with_reducible refine (spec_PolicyOk.calls k a0_0 a0_1 a0_2 _ _ l0_3 true _ ?side1 ?side2 A6.out).mono ?_);(case side1 => exact cC (Kd.C_below HR0_3.out HB.out));(case side2 => exact HC0_3.out);rintro e w12 ⟨rfl, hb⟩;refine ⟨_, rfl, ?_⟩;replace BK223 := kB BK223 hb;replace BK224 := kB BK224 hb;replace HB := sB hb;(try clear hb);obtain ⟨hcz13_0, hcz13_1, hcz13_2, hfz13_0, hfz13_1, hfz13_2⟩ := cz3 BK224)|(go_at_call 112;(with_reducible refine (spec_CallOk.calls k a1_0 a1_1 _ _ l1_2 true _ ?side1 ?side2 A8.out).mono ?_);(case side1 => exact cC (Kd.C_below HR1_2.out HB.out));(case side2 => exact HC1_2.out);rintro e w14 ⟨rfl, hb⟩;replace BK223 := kB BK223 hb;replace BK224 := kB BK224 hb;replace HB := sB hb;(try clear hb);obtain ⟨hcz15_0, hcz15_1, hcz15_2, hfz15_0, hfz15_1, hfz15_2⟩ := cz3 BK224;obtain ⟨hcz16_0, hcz16_1, hcz16_2, hcz16_3, hfz16_0, hfz16_1, hfz16_2, hfz16_3⟩ := cz4 BK223))
    go_meet
    case rel => exact ⟨_, ((a1_0 != a0_0)), rS, H', ⟨oL⟩, ⟨mK BK223⟩, ⟨mK BK224⟩, ⟨cB⟩⟩
   ·replace c9 := Bool.eq_false_iff.mpr c9;subst c9;replace H := iF H;have H' := Aside0.mk H;clear H;have hnb17 := NB223_224.out;have hnc17 := NB224_223.out;obtain ⟨hcz18_0, hcz18_1, hcz18_2, hcz18_3, hfz18_0, hfz18_1, hfz18_2, hfz18_3⟩ := cz4 BK223
    go_wp2_with (first|((with_reducible refine gF 74 ?_);refine goZ (some 7) Try.func74 #[.agg #[.int .i64 a0_0, .int .i64 a0_1, .int .i64 a0_2, .slice A0_3 l0_3.length c0_3]] ?_;(with_reducible refine (spec_PolicyOk.calls k a0_0 a0_1 a0_2 _ _ l0_3 true _ ?side1 ?side2 A6.out).mono ?_);(case side1 => exact cC (Kd.C_below HR0_3.out HB.out));(case side2 => exact HC0_3.out);rintro e w19 ⟨rfl, hb⟩;refine ⟨_, rfl, ?_⟩;replace BK223 := kB BK223 hb;replace BK224 := kB BK224 hb;replace HB := sB hb;(try clear hb);obtain ⟨hcz20_0, hcz20_1, hcz20_2, hfz20_0, hfz20_1, hfz20_2⟩ := cz3 BK224)|(go_at_call 112;(with_reducible refine (spec_CallOk.calls k a1_0 a1_1 _ _ l1_2 false _ ?side1 ?side2 A8.out).mono ?_);(case side1 => exact cC (Kd.C_below HR1_2.out HB.out));(case side2 => exact HC1_2.out);rintro e w21 ⟨rfl, hb⟩;replace BK223 := kB BK223 hb;replace BK224 := kB BK224 hb;replace HB := sB hb;(try clear hb)))
    go_meet
    case rel => exact ⟨_, (true), rS, H', ⟨oL⟩, ⟨mK BK223⟩, ⟨mK BK224⟩, ⟨cB⟩⟩
  ·replace c7 := Bool.eq_false_iff.mpr c7;subst c7;replace H := iF H;have H' := Aside0.mk H;clear H;have hnb22 := NB223_224.out;have hnc22 := NB224_223.out;obtain ⟨hcz23_0, hcz23_1, hcz23_2, hcz23_3, hfz23_0, hfz23_1, hfz23_2, hfz23_3⟩ := cz4 BK223
   go_wp2_with (first|((with_reducible refine gF 74 ?_);refine goZ (some 7) Try.func74 #[.agg #[.int .i64 a0_0, .int .i64 a0_1, .int .i64 a0_2, .slice A0_3 l0_3.length c0_3]] ?_;(with_reducible refine (spec_PolicyOk.calls k a0_0 a0_1 a0_2 _ _ l0_3 false _ ?side1 ?side2 A6.out).mono ?_);(case side1 => exact cC (Kd.C_below HR0_3.out HB.out));(case side2 => exact HC0_3.out);rintro e w24 ⟨rfl, hb⟩;refine ⟨_, rfl, ?_⟩;replace BK223 := kB BK223 hb;replace BK224 := kB BK224 hb;replace HB := sB hb;(try clear hb)))
   go_meet
   case rel => exact ⟨_, (true), rS, H', ⟨oL⟩, ⟨mK BK223⟩, ⟨mK BK224⟩, ⟨cB⟩⟩
 case rest =>
  clear HC3;(try clear c7);(try clear c9);(try clear hcz11_0);(try clear hcz11_1);(try clear hcz11_2);(try clear hcz11_3);(try clear hcz13_0);(try clear hcz13_1);(try clear hcz13_2);(try clear hcz15_0);(try clear hcz15_1);(try clear hcz15_2);(try clear hcz16_0);(try clear hcz16_1);(try clear hcz16_2);(try clear hcz16_3);(try clear hcz18_0);(try clear hcz18_1);(try clear hcz18_2);(try clear hcz18_3);(try clear hcz20_0);(try clear hcz20_1);(try clear hcz20_2);(try clear hcz23_0);(try clear hcz23_1);(try clear hcz23_2);(try clear hcz23_3);(try clear hfz11_0);(try clear hfz11_1);(try clear hfz11_2);(try clear hfz11_3);(try clear hfz13_0);(try clear hfz13_1);(try clear hfz13_2);(try clear hfz15_0);(try clear hfz15_1);(try clear hfz15_2);(try clear hfz16_0);(try clear hfz16_1);(try clear hfz16_2);(try clear hfz16_3);(try clear hfz18_0);(try clear hfz18_1);(try clear hfz18_2);(try clear hfz18_3);(try clear hfz20_0);(try clear hfz20_1);(try clear hfz20_2);(try clear hfz23_0);(try clear hfz23_1);(try clear hfz23_2);(try clear hfz23_3);obtain ⟨kq, x20_2, rfl, HA, HJ2, BK223, BK224, HB⟩ := hcut
  cases kq with
  | zero => exact absurd HA.out (by simp [spec_Decide.j0])
  | succ kj2 =>
   have H := HA.out;clear HA;simp only [spec_Decide.j0] at H;by_cases c25 : x20_2 = true
   ·subst c25;replace H := iT H;obtain rfl := Option.some.inj H;go_wp2;go_ret;exact ⟨rE, cB⟩
   ·replace c25 := Bool.eq_false_iff.mpr c25;subst c25;replace H := iF H;have H' := Aside0.mk H;clear H;go_wp2
    go_loopg [5] kj2 (fun kq v5 w' => ∃ (x5_2 : Int), v5 = .int .i64 x5_2 ∧ Aside0 (spec_Decide.l0 kq x5_2 a0_0 a0_1 a0_2 l0_3 a1_0 a1_1 l1_2 = some r) ∧ Aside0 (kq ≤ kj2) ∧ Aside0 (w'.heap[gb223]? = some (.cells #[.int .i64 a0_0, .int .i64 a0_1, .int .i64 a0_2, (.slice A0_3 l0_3.length c0_3)] 99 (0, 0))) ∧ Aside0 (w'.heap[gb224]? = some (.cells #[.int .i64 a1_0, .int .i64 a1_1, (.slice A1_2 l1_2.length c1_2)] 30 (0, 0))) ∧ Aside0 (Below w.heap.size w w'))
    case atStart => exact ⟨(0), rS, H', ⟨Nat.le_refl _⟩, ⟨mK BK223⟩, ⟨mK BK224⟩, ⟨cB⟩⟩
    case round =>
     clear H';(try clear c7);(try clear c9);(try clear c25);(try clear hcz11_0);(try clear hcz11_1);(try clear hcz11_2);(try clear hcz11_3);(try clear hcz13_0);(try clear hcz13_1);(try clear hcz13_2);(try clear hcz15_0);(try clear hcz15_1);(try clear hcz15_2);(try clear hcz16_0);(try clear hcz16_1);(try clear hcz16_2);(try clear hcz16_3);(try clear hcz18_0);(try clear hcz18_1);(try clear hcz18_2);(try clear hcz18_3);(try clear hcz20_0);(try clear hcz20_1);(try clear hcz20_2);(try clear hcz23_0);(try clear hcz23_1);(try clear hcz23_2);(try clear hcz23_3);(try clear hfz11_0);(try clear hfz11_1);(try clear hfz11_2);(try clear hfz11_3);(try clear hfz13_0);(try clear hfz13_1);(try clear hfz13_2);(try clear hfz15_0);(try clear hfz15_1);(try clear hfz15_2);(try clear hfz16_0);(try clear hfz16_1);(try clear hfz16_2);(try clear hfz16_3);(try clear hfz18_0);(try clear hfz18_1);(try clear hfz18_2);(try clear hfz18_3);(try clear hfz20_0);(try clear hfz20_1);(try clear hfz20_2);(try clear hfz23_0);(try clear hfz23_1);(try clear hfz23_2);(try clear hfz23_3);obtain ⟨x5_2, rfl, HA, HK2, BK223, BK224, HB⟩ := hrel
     cases gk with
     | zero => exact absurd HA.out (by simp [spec_Decide.l0])
     | succ k2 =>
      have H := HA.out;clear HA;simp only [spec_Decide.l0] at H;by_cases c26 : x5_2 < (l0_3.length : Int)
      ·rw [if_pos c26] at H;have c26b0 := decide_eq_true c26;clear c26;replace H := gD H;obtain ⟨c27b0, H⟩ := H;replace H := bE H;obtain ⟨t229, A28, H⟩ := H;by_cases c29 : t229 = true
       ·subst c29;replace H := iT H;replace H := bE H;obtain ⟨t232, A30, H⟩ := H;obtain rfl := Option.some.inj H;have hnb31 := NB223_224.out;have hnc31 := NB224_223.out;obtain ⟨hcz32_0, hcz32_1, hcz32_2, hcz32_3, hfz32_0, hfz32_1, hfz32_2, hfz32_3⟩ := cz4 BK223
        try go_wp2
        have n0_ := Aside0.mk (blk_drew BK223.out);have n1_ := Aside0.mk (blk_drew BK224.out);have n2_ := Aside0.mk (below_drew1 HB.out);clear BK223 BK224 HB;have BK223 := n0_;have BK224 := n1_;have HB := n2_;clear n0_ n1_ n2_;have p228 : 0 ≤ (x5_2 : Int) := dA;have q228 : x5_2 < (l0_3.length : Int) := dA;obtain ⟨ad228, A228_0, c228_0, A228_1, c228_1, e228, hx228_0, hx228_1, hx228_2, hx228_3, hl228_0, hi228_0, hl228_1, hi228_1⟩ := at_T40 HR0_3.out x5_2 p228 q228;have hw228_3 := hx228_3;have hw228_2 := hx228_2;have hw228_1 := hx228_1;have hw228_0 := hx228_0;cases e228;replace hx228_0 := bc HB hx228_0;replace hx228_1 := bc HB hx228_1;replace hx228_2 := bc HB hx228_2;replace hx228_3 := bc HB hx228_3;have HR228_0 := Aside0.mk hi228_0;have HC228_0 := Aside0.mk hl228_0;clear hi228_0 hl228_0;have HR228_1 := Aside0.mk hi228_1;have HC228_1 := Aside0.mk hl228_1;clear hi228_1 hl228_1;replace p228 := eq_true p228;replace q228 := eq_true q228
        refine start_ (n := 7) (S := fun w' => w'.cell? ⟨gb223, 0, none⟩ = some (.int .i64 a0_0) ∧ w'.cell? ⟨gb223, 1, none⟩ = some (.int .i64 a0_1) ∧ w'.cell? ⟨gb223, 2, none⟩ = some (.int .i64 a0_2) ∧ w'.cell? ⟨gb223, 3, none⟩ = some (.slice (some ad228) l0_3.length c0_3) ∧ w'.cell? ⟨gb224, 0, none⟩ = some (.int .i64 a1_0) ∧ w'.cell? ⟨gb224, 1, none⟩ = some (.int .i64 a1_1) ∧ w'.cell? ⟨gb224, 2, none⟩ = some (.slice A1_2 l1_2.length c1_2) ∧ w'.cell? (ad228.add ((x5_2).toNat * 4)) = some (.slice A228_0 ((rd_T40 l0_3 x5_2).f0).length c228_0) ∧ w'.cell? ⟨(ad228.add ((x5_2).toNat * 4)).block, (ad228.add ((x5_2).toNat * 4)).off + 1, none⟩ = some (.slice A228_1 ((rd_T40 l0_3 x5_2).f1).length c228_1) ∧ w'.cell? ⟨(ad228.add ((x5_2).toNat * 4)).block, (ad228.add ((x5_2).toNat * 4)).off + 2, none⟩ = some (.int .i64 ((rd_T40 l0_3 x5_2).f2)) ∧ w'.cell? ⟨(ad228.add ((x5_2).toNat * 4)).block, (ad228.add ((x5_2).toNat * 4)).off + 3, none⟩ = some (.int .i64 ((rd_T40 l0_3 x5_2).f3))) (ds := []) #[false, false, false, false, false, false, false] (by kernel_rfl) rfl rfl ⟨(blk_cell BK223.out 0).trans rfl, (blk_cell BK223.out 1).trans rfl, (blk_cell BK223.out 2).trans rfl, (blk_cell BK223.out 3).trans rfl, (blk_cell BK224.out 0).trans rfl, (blk_cell BK224.out 1).trans rfl, (blk_cell BK224.out 2).trans rfl, (bc HB hw228_0 :), (bc HB hw228_1 :), (bc HB hw228_2 :), (bc HB hw228_3 :)⟩ (fun hHeld => ?_)
        generalize wr.drew = w33 at BK223 BK224 HB HR228_0 HR228_1 hx228_0 hx228_1 hx228_2 hx228_3 hHeld ⊢
        refine pure_ (i := 0) (N := some 28) (v := ?_) (a' := ?_) #[true, false, false, false, false, false, false] rfl rfl (by kernel_rfl) (fun _ _ _ h => h) (Or.inl ⟨by rfl, ?_⟩) ?_ ?_
        rotate_left
        ·intro w';go_simp;with_reducible rfl
        rotate_left
        ·simp only [Act.put, List.setIfInBounds_toArray, List.set_cons_zero, List.set_cons_succ, i64_w, i32_w];rfl
        refine pure_ (i := 2) (N := some 30) (v := ?_) (a' := ?_) #[true, false, true, false, false, false, false] rfl rfl (by kernel_rfl) (fun _ _ _ h => h) (Or.inl ⟨by rfl, ?_⟩) ?_ ?_
        rotate_left
        ·intro w';go_simp;with_reducible rfl
        rotate_left
        ·simp only [Act.put, List.setIfInBounds_toArray, List.set_cons_zero, List.set_cons_succ, i64_w, i32_w];rfl
        refine take_ (i := 1) (N := some 29) (v := ?_) (a' := ?_) #[true, true, true, false, false, false, false] rfl rfl (by kernel_rfl) (fun _ _ _ h => h) (Or.inl ⟨by rfl, ?_⟩) hHeld ?_ ?_
        rotate_left
        ·rintro w' ⟨s0, s1, s2, s3, s4, s5, s6, s7, s8, s9, s10⟩;go_simp;with_reducible rfl
        rotate_left
        ·simp only [Act.put, List.setIfInBounds_toArray, List.set_cons_zero, List.set_cons_succ, i64_w, i32_w];rfl
        refine pure_ (i := 3) (N := some 31) (v := ?_) (a' := ?_) #[true, true, true, true, false, false, false] rfl rfl (by kernel_rfl) (fun _ _ _ h => h) (Or.inl ⟨by rfl, ?_⟩) ?_ ?_
        rotate_left
        ·intro w';go_simp;with_reducible rfl
        rotate_left
        ·simp only [Act.put, List.setIfInBounds_toArray, List.set_cons_zero, List.set_cons_succ, i64_w, i32_w];rfl
        refine take_ (i := 4) (N := some 32) (v := ?_) (a' := ?_) #[true, true, true, true, true, false, false] rfl rfl (by kernel_rfl) (fun _ _ _ h => h) (Or.inl ⟨by rfl, ?_⟩) hHeld ?_ ?_
        rotate_left
        ·rintro w' ⟨s0, s1, s2, s3, s4, s5, s6, s7, s8, s9, s10⟩;go_simp;with_reducible rfl
        rotate_left
        ·simp only [Act.put, List.setIfInBounds_toArray, List.set_cons_zero, List.set_cons_succ, i64_w, i32_w];rfl
        refine take_ (i := 5) (N := some 33) (v := ?_) (a' := ?_) #[true, true, true, true, true, true, false] rfl rfl (by kernel_rfl) (fun _ _ _ h => h) (Or.inl ⟨by rfl, ?_⟩) hHeld ?_ ?_
        rotate_left
        ·rintro w' ⟨s0, s1, s2, s3, s4, s5, s6, s7, s8, s9, s10⟩;go_simp;with_reducible rfl
        rotate_left
        ·simp only [Act.put, List.setIfInBounds_toArray, List.set_cons_zero, List.set_cons_succ, i64_w, i32_w];rfl
        refine one_ (i := 6) (N := some 34) #[true, true, true, true, true, true, true] rfl rfl (by kernel_rfl) (by decide) (fun K hK => ?_)
        refine goes_ Try.func90 (by kernel_rfl) rfl #[.agg #[.slice A228_0 ((rd_T40 l0_3 x5_2).f0).length c228_0, .slice A228_1 ((rd_T40 l0_3 x5_2).f1).length c228_1, .int .i64 ((rd_T40 l0_3 x5_2).f2), .int .i64 ((rd_T40 l0_3 x5_2).f3)], .agg #[.int .i64 a1_0, .int .i64 a1_1, .slice A1_2 l1_2.length c1_2]] (by rfl) rfl rfl (by (try simp only [List.map_toArray, List.map_cons, List.map_nil]); first | done | rfl | (simp only [List.length_drop, List.length_take]; rfl)) ?_
        with_reducible refine (spec_RuleHolds.calls k2 _ _ ((rd_T40 l0_3 x5_2).f0) _ _ ((rd_T40 l0_3 x5_2).f1) ((rd_T40 l0_3 x5_2).f2) ((rd_T40 l0_3 x5_2).f3) a1_0 a1_1 _ _ l1_2 true _ ?side1 ?side2 ?side3 ?side4 ?side5 ?side6 A28.out).mono ?_
        (case side1 => exact cC (Kd.C_below HR228_0.out HB.out))
        (case side2 => exact HC228_0.out)
        (case side3 => exact cC (Kd.C_below HR228_1.out HB.out))
        (case side4 => exact HC228_1.out)
        (case side5 => exact cC (Kd.C_below HR1_2.out HB.out))
        (case side6 => exact HC1_2.out)
        rintro e w34 ⟨rfl, hb⟩;refine ⟨_, rfl, ?_⟩;have n0_ := kB BK223 hb;have n1_ := kB BK224 hb;have n2_ := sB hb;clear BK223 BK224 HB;have BK223 := n0_;have BK224 := n1_;have HB := n2_;clear n0_ n1_ n2_;(try clear hb)
        refine hK.out _ _ ⟨(blk_cell BK223.out 0).trans rfl, (blk_cell BK223.out 1).trans rfl, (blk_cell BK223.out 2).trans rfl, (blk_cell BK223.out 3).trans rfl, (blk_cell BK224.out 0).trans rfl, (blk_cell BK224.out 1).trans rfl, (blk_cell BK224.out 2).trans rfl, (bc HB hw228_0 :), (bc HB hw228_1 :), (bc HB hw228_2 :), (bc HB hw228_3 :)⟩ (fun hHeld => ?_)
        clear hK K;refine norm_ (a' := ?_) ?_ ?_;rotate_left
        ·show Act.put _ (some 34) _ = _;simp only [Act.put, List.setIfInBounds_toArray, List.set_cons_zero, List.set_cons_succ, i64_w, i32_w];rfl
        refine done_ (by kernel_rfl) ?_
        try go_wp2
        have n0_ := Aside0.mk (blk_drew BK223.out);have n1_ := Aside0.mk (blk_drew BK224.out);have n2_ := Aside0.mk (below_drew1 HB.out);clear BK223 BK224 HB;have BK223 := n0_;have BK224 := n1_;have HB := n2_;clear n0_ n1_ n2_;have p230 : 0 ≤ (x5_2 : Int) := dA;have q230 : x5_2 < (l0_3.length : Int) := dA;obtain ⟨ad230, A230_0, c230_0, A230_1, c230_1, e230, hx230_0, hx230_1, hx230_2, hx230_3, hl230_0, hi230_0, hl230_1, hi230_1⟩ := at_T40 HR0_3.out x5_2 p230 q230;have hw230_3 := hx230_3;have hw230_2 := hx230_2;have hw230_1 := hx230_1;have hw230_0 := hx230_0
        obtain rfl : ad228 = ad230 := (by injection e230)
        replace hx230_0 := bc HB hx230_0;replace hx230_1 := bc HB hx230_1;replace hx230_2 := bc HB hx230_2;replace hx230_3 := bc HB hx230_3;have HR230_0 := Aside0.mk hi230_0;have HC230_0 := Aside0.mk hl230_0;clear hi230_0 hl230_0;have HR230_1 := Aside0.mk hi230_1;have HC230_1 := Aside0.mk hl230_1;clear hi230_1 hl230_1;replace p230 := eq_true p230;replace q230 := eq_true q230;have p231 : 0 ≤ (x5_2 : Int) := dA;have q231 : x5_2 < (l0_3.length : Int) := dA;obtain ⟨ad231, A231_0, c231_0, A231_1, c231_1, e231, hx231_0, hx231_1, hx231_2, hx231_3, hl231_0, hi231_0, hl231_1, hi231_1⟩ := at_T40 HR0_3.out x5_2 p231 q231;have hw231_3 := hx231_3;have hw231_2 := hx231_2;have hw231_1 := hx231_1;have hw231_0 := hx231_0
        obtain rfl : ad228 = ad231 := (by injection e231)
        replace hx231_0 := bc HB hx231_0;replace hx231_1 := bc HB hx231_1;replace hx231_2 := bc HB hx231_2;replace hx231_3 := bc HB hx231_3;have HR231_0 := Aside0.mk hi231_0;have HC231_0 := Aside0.mk hl231_0;clear hi231_0 hl231_0;have HR231_1 := Aside0.mk hi231_1;have HC231_1 := Aside0.mk hl231_1;clear hi231_1 hl231_1;replace p231 := eq_true p231;replace q231 := eq_true q231;have ea_ := Option.some.inj (hx230_0.symm.trans hx231_0)
        injection ea_ with ea_ en_ ec_
        subst ea_;subst ec_;clear en_;have ea_ := Option.some.inj (hx230_1.symm.trans hx231_1)
        injection ea_ with ea_ en_ ec_
        subst ea_;subst ec_;clear en_
        refine start_ (n := 14) (S := fun w' => w'.cell? ⟨gb223, 0, none⟩ = some (.int .i64 a0_0) ∧ w'.cell? ⟨gb223, 1, none⟩ = some (.int .i64 a0_1) ∧ w'.cell? ⟨gb223, 2, none⟩ = some (.int .i64 a0_2) ∧ w'.cell? ⟨gb223, 3, none⟩ = some (.slice (some ad228) l0_3.length c0_3) ∧ w'.cell? (ad228.add ((x5_2).toNat * 4)) = some (.slice A230_0 ((rd_T40 l0_3 x5_2).f0).length c230_0) ∧ w'.cell? ⟨(ad228.add ((x5_2).toNat * 4)).block, (ad228.add ((x5_2).toNat * 4)).off + 1, none⟩ = some (.slice A230_1 ((rd_T40 l0_3 x5_2).f1).length c230_1) ∧ w'.cell? ⟨(ad228.add ((x5_2).toNat * 4)).block, (ad228.add ((x5_2).toNat * 4)).off + 2, none⟩ = some (.int .i64 ((rd_T40 l0_3 x5_2).f2)) ∧ w'.cell? ⟨(ad228.add ((x5_2).toNat * 4)).block, (ad228.add ((x5_2).toNat * 4)).off + 3, none⟩ = some (.int .i64 ((rd_T40 l0_3 x5_2).f3)) ∧ w'.cell? (ad228.add ((x5_2).toNat * 4)) = some (.slice A230_0 ((rd_T40 l0_3 x5_2).f0).length c230_0) ∧ w'.cell? ⟨(ad228.add ((x5_2).toNat * 4)).block, (ad228.add ((x5_2).toNat * 4)).off + 1, none⟩ = some (.slice A230_1 ((rd_T40 l0_3 x5_2).f1).length c230_1) ∧ w'.cell? ⟨(ad228.add ((x5_2).toNat * 4)).block, (ad228.add ((x5_2).toNat * 4)).off + 2, none⟩ = some (.int .i64 ((rd_T40 l0_3 x5_2).f2)) ∧ w'.cell? ⟨(ad228.add ((x5_2).toNat * 4)).block, (ad228.add ((x5_2).toNat * 4)).off + 3, none⟩ = some (.int .i64 ((rd_T40 l0_3 x5_2).f3))) (ds := []) #[false, false, false, false, false, false, false, false, false, false, false, false, false, false] (by kernel_rfl) rfl rfl ⟨(blk_cell BK223.out 0).trans rfl, (blk_cell BK223.out 1).trans rfl, (blk_cell BK223.out 2).trans rfl, (blk_cell BK223.out 3).trans rfl, (bc HB hw230_0 :), (bc HB hw230_1 :), (bc HB hw230_2 :), (bc HB hw230_3 :), (bc HB hw231_0 :), (bc HB hw231_1 :), (bc HB hw231_2 :), (bc HB hw231_3 :)⟩ (fun hHeld => ?_); refine with_tabW spec_Decide.tab7 spec_Decide.bits7 (fun HT_ HW_ => ?_)
        generalize w34.drew = w35 at BK223 BK224 HB HR230_0 HR230_1 HR231_0 HR231_1 hx230_0 hx230_1 hx230_2 hx230_3 hx231_0 hx231_1 hx231_2 hx231_3 hHeld ⊢;refine pureZ 0 (some 35) (msk 14 1) HT_.out ?_;refine pureZ 2 (some 37) (msk 14 5) HT_.out ?_;refine pureZ 6 (some 41) (msk 14 69) HT_.out ?_;refine pureZ 8 (some 43) (msk 14 325) HT_.out ?_;refine takeZ 1 (some 36) (msk 14 327) HT_.out HW_.out hHeld (hy := q9x0) (h := ?_);refine pureZ 3 (some 38) (msk 14 335) HT_.out ?_;refine pureZ 4 (some 39) (msk 14 351) HT_.out ?_;refine takeZ 5 (some 40) (msk 14 383) HT_.out HW_.out hHeld (hy := q9x0) (h := ?_);refine takeZ 7 (some 42) (msk 14 511) HT_.out HW_.out hHeld (hy := q9x0) (h := ?_);refine pureZ 9 (some 44) (msk 14 1023) HT_.out ?_;refine pureZ 10 (some 45) (msk 14 2047) HT_.out ?_;refine takeZ 11 (some 46) (msk 14 4095) HT_.out HW_.out hHeld (hy := q9x0) (h := ?_)
        refine one_Z 12 (some 47) (msk 14 8191) HT_.out fun K hK => ?_
        refine goes_ Try.func91 (by kernel_rfl) rfl #[.int .i64 ((rd_T40 l0_3 x5_2).f2), .int .i64 ((rd_T40 l0_3 x5_2).f3)] (by rfl) rfl rfl (by (try simp only [List.map_toArray, List.map_cons, List.map_nil]); first | done | rfl | (simp only [List.length_drop, List.length_take]; rfl)) ?_
        with_reducible refine (spec_ResultOf.calls ((rd_T40 l0_3 x5_2).f2) ((rd_T40 l0_3 x5_2).f3) t232 _ A30.out).mono ?_;rintro e w' ⟨rfl, ⟨nd, rfl⟩⟩;refine ⟨_, rfl, ?_⟩
        refine hK.out _ _ ⟨(blk_cell BK223.out 0).trans rfl, (blk_cell BK223.out 1).trans rfl, (blk_cell BK223.out 2).trans rfl, (blk_cell BK223.out 3).trans rfl, (bc HB hw230_0 :), (bc HB hw230_1 :), (bc HB hw230_2 :), (bc HB hw230_3 :), (bc HB hw231_0 :), (bc HB hw231_1 :), (bc HB hw231_2 :), (bc HB hw231_3 :)⟩ (fun hHeld => ?_)
        clear hK K;refine norm_ (a' := ?_) ?_ ?_;rotate_left
        ·show Act.put _ (some 47) _ = _;simp only [Act.put, List.setIfInBounds_toArray, List.set_cons_zero, List.set_cons_succ, i64_w, i32_w];rfl
        refine pureZ 13 (some 4) (msk 14 16383) HT_.out ?_
        refine done_ (done_of HT_.out (by kernel_rfl)) ?_
        try go_wp2
        go_ret;exact ⟨rE, cB⟩
       ·replace c29 := Bool.eq_false_iff.mpr c29;subst c29;replace H := iF H;have H' := Aside0.mk H;clear H;have hnb36 := NB223_224.out;have hnc36 := NB224_223.out;obtain ⟨hcz37_0, hcz37_1, hcz37_2, hcz37_3, hfz37_0, hfz37_1, hfz37_2, hfz37_3⟩ := cz4 BK223
        try go_wp2
        have n0_ := Aside0.mk (blk_drew BK223.out);have n1_ := Aside0.mk (blk_drew BK224.out);have n2_ := Aside0.mk (below_drew1 HB.out);clear BK223 BK224 HB;have BK223 := n0_;have BK224 := n1_;have HB := n2_;clear n0_ n1_ n2_;have p228 : 0 ≤ (x5_2 : Int) := dA;have q228 : x5_2 < (l0_3.length : Int) := dA;obtain ⟨ad228, A228_0, c228_0, A228_1, c228_1, e228, hx228_0, hx228_1, hx228_2, hx228_3, hl228_0, hi228_0, hl228_1, hi228_1⟩ := at_T40 HR0_3.out x5_2 p228 q228;have hw228_3 := hx228_3;have hw228_2 := hx228_2;have hw228_1 := hx228_1;have hw228_0 := hx228_0;cases e228;replace hx228_0 := bc HB hx228_0;replace hx228_1 := bc HB hx228_1;replace hx228_2 := bc HB hx228_2;replace hx228_3 := bc HB hx228_3;have HR228_0 := Aside0.mk hi228_0;have HC228_0 := Aside0.mk hl228_0;clear hi228_0 hl228_0;have HR228_1 := Aside0.mk hi228_1;have HC228_1 := Aside0.mk hl228_1;clear hi228_1 hl228_1;replace p228 := eq_true p228;replace q228 := eq_true q228
        refine start_ (n := 7) (S := fun w' => w'.cell? ⟨gb223, 0, none⟩ = some (.int .i64 a0_0) ∧ w'.cell? ⟨gb223, 1, none⟩ = some (.int .i64 a0_1) ∧ w'.cell? ⟨gb223, 2, none⟩ = some (.int .i64 a0_2) ∧ w'.cell? ⟨gb223, 3, none⟩ = some (.slice (some ad228) l0_3.length c0_3) ∧ w'.cell? ⟨gb224, 0, none⟩ = some (.int .i64 a1_0) ∧ w'.cell? ⟨gb224, 1, none⟩ = some (.int .i64 a1_1) ∧ w'.cell? ⟨gb224, 2, none⟩ = some (.slice A1_2 l1_2.length c1_2) ∧ w'.cell? (ad228.add ((x5_2).toNat * 4)) = some (.slice A228_0 ((rd_T40 l0_3 x5_2).f0).length c228_0) ∧ w'.cell? ⟨(ad228.add ((x5_2).toNat * 4)).block, (ad228.add ((x5_2).toNat * 4)).off + 1, none⟩ = some (.slice A228_1 ((rd_T40 l0_3 x5_2).f1).length c228_1) ∧ w'.cell? ⟨(ad228.add ((x5_2).toNat * 4)).block, (ad228.add ((x5_2).toNat * 4)).off + 2, none⟩ = some (.int .i64 ((rd_T40 l0_3 x5_2).f2)) ∧ w'.cell? ⟨(ad228.add ((x5_2).toNat * 4)).block, (ad228.add ((x5_2).toNat * 4)).off + 3, none⟩ = some (.int .i64 ((rd_T40 l0_3 x5_2).f3))) (ds := []) #[false, false, false, false, false, false, false] (by kernel_rfl) rfl rfl ⟨(blk_cell BK223.out 0).trans rfl, (blk_cell BK223.out 1).trans rfl, (blk_cell BK223.out 2).trans rfl, (blk_cell BK223.out 3).trans rfl, (blk_cell BK224.out 0).trans rfl, (blk_cell BK224.out 1).trans rfl, (blk_cell BK224.out 2).trans rfl, (bc HB hw228_0 :), (bc HB hw228_1 :), (bc HB hw228_2 :), (bc HB hw228_3 :)⟩ (fun hHeld => ?_)
        generalize wr.drew = w38 at BK223 BK224 HB HR228_0 HR228_1 hx228_0 hx228_1 hx228_2 hx228_3 hHeld ⊢
        refine pure_ (i := 0) (N := some 28) (v := ?_) (a' := ?_) #[true, false, false, false, false, false, false] rfl rfl (by kernel_rfl) (fun _ _ _ h => h) (Or.inl ⟨by rfl, ?_⟩) ?_ ?_
        rotate_left
        ·intro w';go_simp;with_reducible rfl
        rotate_left
        ·simp only [Act.put, List.setIfInBounds_toArray, List.set_cons_zero, List.set_cons_succ, i64_w, i32_w];rfl
        refine pure_ (i := 2) (N := some 30) (v := ?_) (a' := ?_) #[true, false, true, false, false, false, false] rfl rfl (by kernel_rfl) (fun _ _ _ h => h) (Or.inl ⟨by rfl, ?_⟩) ?_ ?_
        rotate_left
        ·intro w';go_simp;with_reducible rfl
        rotate_left
        ·simp only [Act.put, List.setIfInBounds_toArray, List.set_cons_zero, List.set_cons_succ, i64_w, i32_w];rfl
        refine take_ (i := 1) (N := some 29) (v := ?_) (a' := ?_) #[true, true, true, false, false, false, false] rfl rfl (by kernel_rfl) (fun _ _ _ h => h) (Or.inl ⟨by rfl, ?_⟩) hHeld ?_ ?_
        rotate_left
        ·rintro w' ⟨s0, s1, s2, s3, s4, s5, s6, s7, s8, s9, s10⟩;go_simp;with_reducible rfl
        rotate_left
        ·simp only [Act.put, List.setIfInBounds_toArray, List.set_cons_zero, List.set_cons_succ, i64_w, i32_w];rfl
        refine pure_ (i := 3) (N := some 31) (v := ?_) (a' := ?_) #[true, true, true, true, false, false, false] rfl rfl (by kernel_rfl) (fun _ _ _ h => h) (Or.inl ⟨by rfl, ?_⟩) ?_ ?_
        rotate_left
        ·intro w';go_simp;with_reducible rfl
        rotate_left
        ·simp only [Act.put, List.setIfInBounds_toArray, List.set_cons_zero, List.set_cons_succ, i64_w, i32_w];rfl
        refine take_ (i := 4) (N := some 32) (v := ?_) (a' := ?_) #[true, true, true, true, true, false, false] rfl rfl (by kernel_rfl) (fun _ _ _ h => h) (Or.inl ⟨by rfl, ?_⟩) hHeld ?_ ?_
        rotate_left
        ·rintro w' ⟨s0, s1, s2, s3, s4, s5, s6, s7, s8, s9, s10⟩;go_simp;with_reducible rfl
        rotate_left
        ·simp only [Act.put, List.setIfInBounds_toArray, List.set_cons_zero, List.set_cons_succ, i64_w, i32_w];rfl
        refine take_ (i := 5) (N := some 33) (v := ?_) (a' := ?_) #[true, true, true, true, true, true, false] rfl rfl (by kernel_rfl) (fun _ _ _ h => h) (Or.inl ⟨by rfl, ?_⟩) hHeld ?_ ?_
        rotate_left
        ·rintro w' ⟨s0, s1, s2, s3, s4, s5, s6, s7, s8, s9, s10⟩;go_simp;with_reducible rfl
        rotate_left
        ·simp only [Act.put, List.setIfInBounds_toArray, List.set_cons_zero, List.set_cons_succ, i64_w, i32_w];rfl
        refine one_ (i := 6) (N := some 34) #[true, true, true, true, true, true, true] rfl rfl (by kernel_rfl) (by decide) (fun K hK => ?_)
        refine goes_ Try.func90 (by kernel_rfl) rfl #[.agg #[.slice A228_0 ((rd_T40 l0_3 x5_2).f0).length c228_0, .slice A228_1 ((rd_T40 l0_3 x5_2).f1).length c228_1, .int .i64 ((rd_T40 l0_3 x5_2).f2), .int .i64 ((rd_T40 l0_3 x5_2).f3)], .agg #[.int .i64 a1_0, .int .i64 a1_1, .slice A1_2 l1_2.length c1_2]] (by rfl) rfl rfl (by (try simp only [List.map_toArray, List.map_cons, List.map_nil]); first | done | rfl | (simp only [List.length_drop, List.length_take]; rfl)) ?_
        with_reducible refine (spec_RuleHolds.calls k2 _ _ ((rd_T40 l0_3 x5_2).f0) _ _ ((rd_T40 l0_3 x5_2).f1) ((rd_T40 l0_3 x5_2).f2) ((rd_T40 l0_3 x5_2).f3) a1_0 a1_1 _ _ l1_2 false _ ?side1 ?side2 ?side3 ?side4 ?side5 ?side6 A28.out).mono ?_
        (case side1 => exact cC (Kd.C_below HR228_0.out HB.out))
        (case side2 => exact HC228_0.out)
        (case side3 => exact cC (Kd.C_below HR228_1.out HB.out))
        (case side4 => exact HC228_1.out)
        (case side5 => exact cC (Kd.C_below HR1_2.out HB.out))
        (case side6 => exact HC1_2.out)
        rintro e w39 ⟨rfl, hb⟩;refine ⟨_, rfl, ?_⟩;have n0_ := kB BK223 hb;have n1_ := kB BK224 hb;have n2_ := sB hb;clear BK223 BK224 HB;have BK223 := n0_;have BK224 := n1_;have HB := n2_;clear n0_ n1_ n2_;(try clear hb)
        refine hK.out _ _ ⟨(blk_cell BK223.out 0).trans rfl, (blk_cell BK223.out 1).trans rfl, (blk_cell BK223.out 2).trans rfl, (blk_cell BK223.out 3).trans rfl, (blk_cell BK224.out 0).trans rfl, (blk_cell BK224.out 1).trans rfl, (blk_cell BK224.out 2).trans rfl, (bc HB hw228_0 :), (bc HB hw228_1 :), (bc HB hw228_2 :), (bc HB hw228_3 :)⟩ (fun hHeld => ?_)
        clear hK K;refine norm_ (a' := ?_) ?_ ?_;rotate_left
        ·show Act.put _ (some 34) _ = _;simp only [Act.put, List.setIfInBounds_toArray, List.set_cons_zero, List.set_cons_succ, i64_w, i32_w];rfl
        refine done_ (by kernel_rfl) ?_
        try go_wp2
        go_roundg k2
        case measure => have := HJ2.out; have := HK2.out; omega
        case rel => exact ⟨(wrap64 (x5_2 + 1)), rS, H', ⟨by have := HJ2.out; have := HK2.out; omega⟩, ⟨mK BK223⟩, ⟨mK BK224⟩, ⟨cB⟩⟩
      ·rw [if_neg c26] at H;have c26b0 := decide_eq_false c26;clear c26;replace H := bE H;obtain ⟨t227, A40, H⟩ := H;obtain rfl := Option.some.inj H;have hnb41 := NB223_224.out;have hnc41 := NB224_223.out;obtain ⟨hcz42_0, hcz42_1, hcz42_2, hcz42_3, hfz42_0, hfz42_1, hfz42_2, hfz42_3⟩ := cz4 BK223
       go_wp2_with (first|((with_reducible refine gF 91 ?_);refine goZ (some 52) Try.func91 #[.int .i64 a0_1, .int .i64 a0_2] ?_;(with_reducible refine (spec_ResultOf.calls a0_1 a0_2 t227 _ A40.out).mono ?_);rintro e w' ⟨rfl, ⟨nd, rfl⟩⟩;refine ⟨_, rfl, ?_⟩))
       go_ret;exact ⟨rE, cB⟩
def laws_szIntS.f (l0 : List Int) (a1 : Int) : Option (Int) := if (wrap64 (a1 - (l0.length : Int))) < 0 then (some (-1)) else (some (wrap64 (a1 - (l0.length : Int))))
set_option maxHeartbeats 8000000 in
set_option maxRecDepth 100000 in
theorem laws_szIntS.calls (A0 : Option Addr) (c0 : Nat) (l0 : List Int) (a1 : Int) (r : Int) (w : World) (hr0 : Kd.C (Kd.int .i64) w A0 l0.length l0) (hc0 : l0.length ≤ c0) (h : laws_szIntS.f l0 a1 = some r) :
 Calls Try.prog 159 #[.slice A0 l0.length c0, .int .i64 a1] w fun e w' => e = .returned (.int .i64 r) ∧ Drawn0 w w' := by
 have HR0 := Aside0.mk hr0;have HC0 := Aside0.mk hc0;clear hr0 hc0;have H : (if (wrap64 (a1 - (l0.length : Int))) < 0 then (some (-1)) else (some (wrap64 (a1 - (l0.length : Int))))) = some r := h;clear h;by_cases c3 : (wrap64 (a1 - (l0.length : Int))) < 0
 ·rw [if_pos c3] at H;have c3b0 := decide_eq_true c3;clear c3;obtain rfl := Option.some.inj H;go_enter Try.func159, Try.ntmps159;go_wp2;go_ret
  exact ⟨by first | rfl | (simp; done) | (simp [*]; done), by repeat (first | exact Drawn0.refl _ | apply Drawn0.step)⟩
 ·rw [if_neg c3] at H;have c3b0 := decide_eq_false c3;clear c3;obtain rfl := Option.some.inj H;go_enter Try.func159, Try.ntmps159;go_wp2;go_ret
  exact ⟨by first | rfl | (simp; done) | (simp [*]; done), by repeat (first | exact Drawn0.refl _ | apply Drawn0.step)⟩
def laws_szCondS.f (l0 : List (S201)) (a1 : Int) : Option (Int) := if (wrap64 (a1 - (l0.length : Int))) < 0 then (some (-1)) else (some (wrap64 (a1 - (l0.length : Int))))
set_option maxHeartbeats 8000000 in
set_option maxRecDepth 100000 in
theorem laws_szCondS.calls (A0 : Option Addr) (c0 : Nat) (l0 : List (S201)) (a1 : Int) (r : Int) (w : World) (hr0 : Kd.C k201 w A0 l0.length l0) (hc0 : l0.length ≤ c0) (h : laws_szCondS.f l0 a1 = some r) :
 Calls Try.prog 160 #[.slice A0 l0.length c0, .int .i64 a1] w fun e w' => e = .returned (.int .i64 r) ∧ Drawn0 w w' := by
 have HR0 := Aside0.mk hr0;have HC0 := Aside0.mk hc0;clear hr0 hc0;have H : (if (wrap64 (a1 - (l0.length : Int))) < 0 then (some (-1)) else (some (wrap64 (a1 - (l0.length : Int))))) = some r := h;clear h;by_cases c3 : (wrap64 (a1 - (l0.length : Int))) < 0
 ·rw [if_pos c3] at H;have c3b0 := decide_eq_true c3;clear c3;obtain rfl := Option.some.inj H;go_enter Try.func160, Try.ntmps160;go_wp2;go_ret
  exact ⟨by first | rfl | (simp; done) | (simp [*]; done), by repeat (first | exact Drawn0.refl _ | apply Drawn0.step)⟩
 ·rw [if_neg c3] at H;have c3b0 := decide_eq_false c3;clear c3;obtain rfl := Option.some.inj H;go_enter Try.func160, Try.ntmps160;go_wp2;go_ret
  exact ⟨by first | rfl | (simp; done) | (simp [*]; done), by repeat (first | exact Drawn0.refl _ | apply Drawn0.step)⟩
end Go.Proofs.Ytfmilhpneelonaa.PFnExactDecide
