import Derived.Test.YtlgndgjbfjefpaaPFnDecidesy0
import Derived.Test.YtlgndgjbfjefpaaPFnDecidesy9
import Derived.Test.YtlgndgjbfjefpaaPFnDecidesy10
import Derived.Test.YtlgndgjbfjefpaaPFnDecidesy12
namespace Go.Proofs.Ytlgndgjbfjefpaa.PFnDecides
open Go.RowKit Go.Proofs.YtlgndgjbfjefpaaW.PrintWords Go.Proofs.YtlgndgjbfjefpaaW.PrintLast Go.Proofs.YtlgndgjbfjefpaaW.PrintMore Go.Proofs.YtlgndgjbfjefpaaW.Z
attribute [local go_sem] isS max2_int min2_int max_two min_two max_three min_three max_four min_four
set_option linter.unusedVariables false
set_option linter.unusedSimpArgs false
theorem qh13x0 {P : Prop} (h : P := by exact ⟨(blk_cell BK514.out 0).trans rfl, (blk_cell BK514.out 1).trans rfl, (blk_cell BK514.out 2).trans rfl, (blk_cell BK514.out 3).trans rfl, (blk_cell BK515.out 0).trans rfl, (blk_cell BK515.out 1).trans rfl, (blk_cell BK515.out 2).trans rfl, ((bc HB hw519_0 :)), ((bc HB hw519_1 :)), ((bc HB hw519_2 :)), ((bc HB hw519_3 :))⟩) : P := h
mutual
def spec_Decide.j0 : Nat → Bool → Int → Int → Int → List (S61) → Int → Int → List (S48) → Option (Int)
  | 0, _, _, _, _, _, _, _, _ => none
  | k + 1, x20, x515000, x515001, x515002, x515003, x516000, x516001, x516002 => if x20 = true then (some 0) else (spec_Decide.l0 k 0 x515000 x515001 x515002 x515003 x516000 x516001 x516002)
def spec_Decide.l0 : Nat → Int → Int → Int → Int → List (S61) → Int → Int → List (S48) → Option (Int)
  | 0, _, _, _, _, _, _, _, _ => none
  | k + 1, x5, x515000, x515001, x515002, x515003, x516000, x516001, x516002 => if x5 < (x515003.length : Int) then (if 0 ≤ x5 then ((spec_RuleHolds.f k ((rd_T61 x515003 x5).f0) ((rd_T61 x515003 x5).f1) ((rd_T61 x515003 x5).f2) ((rd_T61 x515003 x5).f3) x516000 x516001 x516002).bind fun t520 => (if t520 = true then ((spec_ResultOf.f ((rd_T61 x515003 x5).f2) ((rd_T61 x515003 x5).f3)).bind fun t523 => (some t523)) else (spec_Decide.l0 k (wrap64 (x5 + 1)) x515000 x515001 x515002 x515003 x516000 x516001 x516002))) else (none)) else ((spec_ResultOf.f x515001 x515002).bind fun t518 => (some t518))
end
def spec_Decide.f (k : Nat) (a0_0 : Int) (a0_1 : Int) (a0_2 : Int) (l0_3 : List (S61)) (a1_0 : Int) (a1_1 : Int) (l1_2 : List (S48)) : Option (Int) := (spec_PolicyOk.f k a0_0 a0_1 a0_2 l0_3).bind fun t516 => (if t516 = true then ((spec_CallOk.f k a1_0 a1_1 l1_2).bind fun t517 => (if t517 = true then (spec_Decide.j0 k (a1_0 != a0_0) a0_0 a0_1 a0_2 l0_3 a1_0 a1_1 l1_2) else (spec_Decide.j0 k true a0_0 a0_1 a0_2 l0_3 a1_0 a1_1 l1_2))) else (spec_Decide.j0 k true a0_0 a0_1 a0_2 l0_3 a1_0 a1_1 l1_2))
def spec_Decide.T7 : Bool × List (List Nat × List Nat) := (true, [([], []), ([0], [0]), ([], []), ([1, 2], [1, 2]), ([3], [3]), ([4], [4]), ([], []), ([6], [6]), ([], []), ([7, 8], [7, 8]), ([9], [9]), ([10], [10]), ([5, 11], [5, 11]), ([12, 12, 0, 1, 2, 3, 4, 5, 6, 7, 8, 9, 10, 11, 12], [12])])
def spec_Decide.B7 : List Nat := [0, 1, 0, 7, 15, 31, 0, 64, 0, 448, 960, 1984, 4095, 8191]
theorem spec_Decide.tab7 : rtab .any (opsOf Try.f54 7) = spec_Decide.T7 := by kernel_rfl
theorem spec_Decide.bits7 : waitsOk spec_Decide.T7.2 spec_Decide.B7 = true := by kernel_rfl
theorem q13x0 {P : Prop} (h : P := by 
 rintro w' ⟨s0, s1, s2, s3, s4, s5, s6, s7, s8, s9, s10, s11⟩
 go_simp
 with_reducible rfl) : P := h
set_option maxHeartbeats 8000000 in
set_option maxRecDepth 100000 in
theorem spec_Decide.calls (k : Nat) (a0_0 : Int) (a0_1 : Int) (a0_2 : Int) (A0_3 : Option Addr) (c0_3 : Nat) (l0_3 : List (S61)) (a1_0 : Int) (a1_1 : Int) (A1_2 : Option Addr) (c1_2 : Nat) (l1_2 : List (S48)) (r : Int) (w : World) (hr0_3 : Kd.C k61 w A0_3 l0_3.length l0_3) (hc0_3 : l0_3.length ≤ c0_3) (hr1_2 : Kd.C k48 w A1_2 l1_2.length l1_2) (hc1_2 : l1_2.length ≤ c1_2) (h : spec_Decide.f k a0_0 a0_1 a0_2 l0_3 a1_0 a1_1 l1_2 = some r) :
 Calls Try.prog 54 #[.agg #[.int .i64 a0_0, .int .i64 a0_1, .int .i64 a0_2, .slice A0_3 l0_3.length c0_3], .agg #[.int .i64 a1_0, .int .i64 a1_1, .slice A1_2 l1_2.length c1_2]] w fun e w' => e = .returned (.int .i64 r) ∧ Below w.heap.size w w' := by
 have hu77 := Try.underlying77;have hu53 := Try.underlying53;have hu61 := Try.underlying61;have HR0_3 := Aside0.mk hr0_3;have HC0_3 := Aside0.mk hc0_3;clear hr0_3 hc0_3;have HR1_2 := Aside0.mk hr1_2;have HC1_2 := Aside0.mk hc1_2;clear hr1_2 hc1_2;have HB := Aside0.mk (Below.refl w.heap.size w)
 have H : ((spec_PolicyOk.f k a0_0 a0_1 a0_2 l0_3).bind fun t516 => (if t516 = true then ((spec_CallOk.f k a1_0 a1_1 l1_2).bind fun t517 => (if t517 = true then (spec_Decide.j0 k (a1_0 != a0_0) a0_0 a0_1 a0_2 l0_3 a1_0 a1_1 l1_2) else (spec_Decide.j0 k true a0_0 a0_1 a0_2 l0_3 a1_0 a1_1 l1_2))) else (spec_Decide.j0 k true a0_0 a0_1 a0_2 l0_3 a1_0 a1_1 l1_2))) = some r := h
 clear h;have HC3 := Aside0.mk H;clear H;go_enter Try.func54, Try.ntmps54
 go_upto_region 1 with (first|((with_reducible refine gN 2 ?_);refine boxZ 2 #[.int .i64 a0_0, .int .i64 a0_1, .int .i64 a0_2, .slice A0_3 l0_3.length c0_3] 77 ?_;intro gb514 hg w4 hbox hb;have BK514 := Aside0.mk (hbox);have GW514 := gS hg;have GE514 := gS hg;replace HB := sB hb;clear hb hbox hg)|((with_reducible refine gN 3 ?_);refine boxZ 3 #[.int .i64 a1_0, .int .i64 a1_1, .slice A1_2 l1_2.length c1_2] 53 ?_;intro gb515 hg w5 hbox hb;have BK515 := Aside0.mk (hbox);have GW515 := gS hg;have GE515 := gS hg;replace HB := sB hb;have NB514_515 := nL hg BK514;have NB515_514 := nG hg BK514;replace BK514 := kB BK514 hb;clear hb hbox hg))
 (try simp only [Act.put, List.setIfInBounds_toArray, List.set_cons_zero, List.set_cons_succ])
 go_cut [20] (fun v20 wc => ∃ (kq : Nat) (x20_2 : Bool), v20 = .bool x20_2 ∧ Aside0 (spec_Decide.j0 kq x20_2 a0_0 a0_1 a0_2 l0_3 a1_0 a1_1 l1_2 = some r) ∧ Aside0 (kq ≤ k) ∧ Aside0 (wc.heap[gb514]? = some (.cells #[.int .i64 a0_0, .int .i64 a0_1, .int .i64 a0_2, (.slice A0_3 l0_3.length c0_3)] 77 (0, 0))) ∧ Aside0 (wc.heap[gb515]? = some (.cells #[.int .i64 a1_0, .int .i64 a1_1, (.slice A1_2 l1_2.length c1_2)] 53 (0, 0))) ∧ Aside0 (Below w.heap.size w wc))
 case first =>
  have H := HC3.out;clear HC3;replace H := bE H;obtain ⟨t516, A6, H⟩ := H;by_cases c7 : t516 = true
  ·subst c7;replace H := iT H;replace H := bE H;obtain ⟨t517, A8, H⟩ := H;by_cases c9 : t517 = true
   ·subst c9;replace H := iT H;have H' := Aside0.mk H;clear H;have hnb10 := NB514_515.out;have hnc10 := NB515_514.out;obtain ⟨hcz11_0, hcz11_1, hcz11_2, hcz11_3, hfz11_0, hfz11_1, hfz11_2, hfz11_3⟩ := cz4 BK514
    go_wp2_with (first|((with_reducible refine gF 56 ?_);refine goZ (some 7) Try.func56 #[.agg #[.int .i64 a0_0, .int .i64 a0_1, .int .i64 a0_2, .slice A0_3 l0_3.length c0_3]] ?_;(with_reducible refine (spec_PolicyOk.calls k a0_0 a0_1 a0_2 _ _ l0_3 true _ ?side1 ?side2 A6.out).mono ?_);(case side1 => exact cC (Kd.C_below HR0_3.out HB.out));(case side2 => exact HC0_3.out);rintro e w12 ⟨rfl, hb⟩;refine ⟨_, rfl, ?_⟩;replace BK514 := kB BK514 hb;replace BK515 := kB BK515 hb;replace HB := sB hb;(try clear hb);obtain ⟨hcz13_0, hcz13_1, hcz13_2, hfz13_0, hfz13_1, hfz13_2⟩ := cz3 BK515)|(go_at_call 111;(with_reducible refine (spec_CallOk.calls k a1_0 a1_1 _ _ l1_2 true _ ?side1 ?side2 A8.out).mono ?_);(case side1 => exact cC (Kd.C_below HR1_2.out HB.out));(case side2 => exact HC1_2.out);rintro e w14 ⟨rfl, hb⟩;replace BK514 := kB BK514 hb;replace BK515 := kB BK515 hb;replace HB := sB hb;(try clear hb);obtain ⟨hcz15_0, hcz15_1, hcz15_2, hfz15_0, hfz15_1, hfz15_2⟩ := cz3 BK515;obtain ⟨hcz16_0, hcz16_1, hcz16_2, hcz16_3, hfz16_0, hfz16_1, hfz16_2, hfz16_3⟩ := cz4 BK514))
    go_meet
    case rel => exact ⟨_, ((a1_0 != a0_0)), rS, H', ⟨oL⟩, ⟨mK BK514⟩, ⟨mK BK515⟩, ⟨cB⟩⟩
   ·replace c9 := Bool.eq_false_iff.mpr c9;subst c9;replace H := iF H;have H' := Aside0.mk H;clear H;have hnb17 := NB514_515.out;have hnc17 := NB515_514.out;obtain ⟨hcz18_0, hcz18_1, hcz18_2, hcz18_3, hfz18_0, hfz18_1, hfz18_2, hfz18_3⟩ := cz4 BK514
    go_wp2_with (first|((with_reducible refine gF 56 ?_);refine goZ (some 7) Try.func56 #[.agg #[.int .i64 a0_0, .int .i64 a0_1, .int .i64 a0_2, .slice A0_3 l0_3.length c0_3]] ?_;(with_reducible refine (spec_PolicyOk.calls k a0_0 a0_1 a0_2 _ _ l0_3 true _ ?side1 ?side2 A6.out).mono ?_);(case side1 => exact cC (Kd.C_below HR0_3.out HB.out));(case side2 => exact HC0_3.out);rintro e w19 ⟨rfl, hb⟩;refine ⟨_, rfl, ?_⟩;replace BK514 := kB BK514 hb;replace BK515 := kB BK515 hb;replace HB := sB hb;(try clear hb);obtain ⟨hcz20_0, hcz20_1, hcz20_2, hfz20_0, hfz20_1, hfz20_2⟩ := cz3 BK515)|(go_at_call 111;(with_reducible refine (spec_CallOk.calls k a1_0 a1_1 _ _ l1_2 false _ ?side1 ?side2 A8.out).mono ?_);(case side1 => exact cC (Kd.C_below HR1_2.out HB.out));(case side2 => exact HC1_2.out);rintro e w21 ⟨rfl, hb⟩;replace BK514 := kB BK514 hb;replace BK515 := kB BK515 hb;replace HB := sB hb;(try clear hb)))
    go_meet
    case rel => exact ⟨_, (true), rS, H', ⟨oL⟩, ⟨mK BK514⟩, ⟨mK BK515⟩, ⟨cB⟩⟩
  ·replace c7 := Bool.eq_false_iff.mpr c7;subst c7;replace H := iF H;have H' := Aside0.mk H;clear H;have hnb22 := NB514_515.out;have hnc22 := NB515_514.out;obtain ⟨hcz23_0, hcz23_1, hcz23_2, hcz23_3, hfz23_0, hfz23_1, hfz23_2, hfz23_3⟩ := cz4 BK514
   go_wp2_with (first|((with_reducible refine gF 56 ?_);refine goZ (some 7) Try.func56 #[.agg #[.int .i64 a0_0, .int .i64 a0_1, .int .i64 a0_2, .slice A0_3 l0_3.length c0_3]] ?_;(with_reducible refine (spec_PolicyOk.calls k a0_0 a0_1 a0_2 _ _ l0_3 false _ ?side1 ?side2 A6.out).mono ?_);(case side1 => exact cC (Kd.C_below HR0_3.out HB.out));(case side2 => exact HC0_3.out);rintro e w24 ⟨rfl, hb⟩;refine ⟨_, rfl, ?_⟩;replace BK514 := kB BK514 hb;replace BK515 := kB BK515 hb;replace HB := sB hb;(try clear hb)))
   go_meet
   case rel => exact ⟨_, (true), rS, H', ⟨oL⟩, ⟨mK BK514⟩, ⟨mK BK515⟩, ⟨cB⟩⟩
 case rest =>
  clear HC3;(try clear c7);(try clear c9);(try clear hcz11_0);(try clear hcz11_1);(try clear hcz11_2);(try clear hcz11_3);(try clear hcz13_0);(try clear hcz13_1);(try clear hcz13_2);(try clear hcz15_0);(try clear hcz15_1);(try clear hcz15_2);(try clear hcz16_0);(try clear hcz16_1);(try clear hcz16_2);(try clear hcz16_3);(try clear hcz18_0);(try clear hcz18_1);(try clear hcz18_2);(try clear hcz18_3);(try clear hcz20_0);(try clear hcz20_1);(try clear hcz20_2);(try clear hcz23_0);(try clear hcz23_1);(try clear hcz23_2);(try clear hcz23_3);(try clear hfz11_0);(try clear hfz11_1);(try clear hfz11_2);(try clear hfz11_3);(try clear hfz13_0);(try clear hfz13_1);(try clear hfz13_2);(try clear hfz15_0);(try clear hfz15_1);(try clear hfz15_2);(try clear hfz16_0);(try clear hfz16_1);(try clear hfz16_2);(try clear hfz16_3);(try clear hfz18_0);(try clear hfz18_1);(try clear hfz18_2);(try clear hfz18_3);(try clear hfz20_0);(try clear hfz20_1);(try clear hfz20_2);(try clear hfz23_0);(try clear hfz23_1);(try clear hfz23_2);(try clear hfz23_3);obtain ⟨kq, x20_2, rfl, HA, HJ2, BK514, BK515, HB⟩ := hcut
  cases kq with
  | zero => exact absurd HA.out (by simp [spec_Decide.j0])
  | succ kj2 =>
   have H := HA.out;clear HA;simp only [spec_Decide.j0] at H;by_cases c25 : x20_2 = true
   ·subst c25;replace H := iT H;obtain rfl := Option.some.inj H;go_wp2;go_ret;exact ⟨rE, cB⟩
   ·replace c25 := Bool.eq_false_iff.mpr c25;subst c25;replace H := iF H;have H' := Aside0.mk H;clear H;go_wp2
    go_loopg [5] kj2 (fun kq v5 w' => ∃ (x5_2 : Int), v5 = .int .i64 x5_2 ∧ Aside0 (spec_Decide.l0 kq x5_2 a0_0 a0_1 a0_2 l0_3 a1_0 a1_1 l1_2 = some r) ∧ Aside0 (kq ≤ kj2) ∧ Aside0 (w'.heap[gb514]? = some (.cells #[.int .i64 a0_0, .int .i64 a0_1, .int .i64 a0_2, (.slice A0_3 l0_3.length c0_3)] 77 (0, 0))) ∧ Aside0 (w'.heap[gb515]? = some (.cells #[.int .i64 a1_0, .int .i64 a1_1, (.slice A1_2 l1_2.length c1_2)] 53 (0, 0))) ∧ Aside0 (Below w.heap.size w w'))
    case atStart => exact ⟨(0), rS, H', ⟨Nat.le_refl _⟩, ⟨mK BK514⟩, ⟨mK BK515⟩, ⟨cB⟩⟩
    case round =>
     clear H';(try clear c7);(try clear c9);(try clear c25);(try clear hcz11_0);(try clear hcz11_1);(try clear hcz11_2);(try clear hcz11_3);(try clear hcz13_0);(try clear hcz13_1);(try clear hcz13_2);(try clear hcz15_0);(try clear hcz15_1);(try clear hcz15_2);(try clear hcz16_0);(try clear hcz16_1);(try clear hcz16_2);(try clear hcz16_3);(try clear hcz18_0);(try clear hcz18_1);(try clear hcz18_2);(try clear hcz18_3);(try clear hcz20_0);(try clear hcz20_1);(try clear hcz20_2);(try clear hcz23_0);(try clear hcz23_1);(try clear hcz23_2);(try clear hcz23_3);(try clear hfz11_0);(try clear hfz11_1);(try clear hfz11_2);(try clear hfz11_3);(try clear hfz13_0);(try clear hfz13_1);(try clear hfz13_2);(try clear hfz15_0);(try clear hfz15_1);(try clear hfz15_2);(try clear hfz16_0);(try clear hfz16_1);(try clear hfz16_2);(try clear hfz16_3);(try clear hfz18_0);(try clear hfz18_1);(try clear hfz18_2);(try clear hfz18_3);(try clear hfz20_0);(try clear hfz20_1);(try clear hfz20_2);(try clear hfz23_0);(try clear hfz23_1);(try clear hfz23_2);(try clear hfz23_3);obtain ⟨x5_2, rfl, HA, HK2, BK514, BK515, HB⟩ := hrel
     cases gk with
     | zero => exact absurd HA.out (by simp [spec_Decide.l0])
     | succ k2 =>
      have H := HA.out;clear HA;simp only [spec_Decide.l0] at H;by_cases c26 : x5_2 < (l0_3.length : Int)
      ·rw [if_pos c26] at H;have c26b0 := decide_eq_true c26;clear c26;replace H := gD H;obtain ⟨c27b0, H⟩ := H;replace H := bE H;obtain ⟨t520, A28, H⟩ := H;by_cases c29 : t520 = true
       ·subst c29;replace H := iT H;replace H := bE H;obtain ⟨t523, A30, H⟩ := H;obtain rfl := Option.some.inj H;have hnb31 := NB514_515.out;have hnc31 := NB515_514.out;obtain ⟨hcz32_0, hcz32_1, hcz32_2, hcz32_3, hfz32_0, hfz32_1, hfz32_2, hfz32_3⟩ := cz4 BK514
        try go_wp2
        replace BK514 := Aside0.mk (blk_drew BK514.out);replace BK515 := Aside0.mk (blk_drew BK515.out);replace HB := Aside0.mk (below_drew1 HB.out);have p519 : 0 ≤ (x5_2 : Int) := dA;have q519 : x5_2 < (l0_3.length : Int) := dA;obtain ⟨ad519, A519_0, c519_0, A519_1, c519_1, e519, hx519_0, hx519_1, hx519_2, hx519_3, hl519_0, hi519_0, hl519_1, hi519_1⟩ := at_T61 HR0_3.out x5_2 p519 q519;have hw519_3 := hx519_3;have hw519_2 := hx519_2;have hw519_1 := hx519_1;have hw519_0 := hx519_0;cases e519;replace hx519_0 := (bc HB hx519_0 :);replace hx519_1 := (bc HB hx519_1 :);replace hx519_2 := (bc HB hx519_2 :);replace hx519_3 := (bc HB hx519_3 :);have HR519_0 := Aside0.mk hi519_0;have HC519_0 := Aside0.mk hl519_0;clear hi519_0 hl519_0;have HR519_1 := Aside0.mk hi519_1;have HC519_1 := Aside0.mk hl519_1;clear hi519_1 hl519_1;replace p519 := eq_true p519;replace q519 := eq_true q519
        refine start_ (n := 7) (S := fun w' => w'.cell? ⟨gb514, 0, none⟩ = some (.int .i64 a0_0) ∧ w'.cell? ⟨gb514, 1, none⟩ = some (.int .i64 a0_1) ∧ w'.cell? ⟨gb514, 2, none⟩ = some (.int .i64 a0_2) ∧ w'.cell? ⟨gb514, 3, none⟩ = some (.slice (some ad519) l0_3.length c0_3) ∧ w'.cell? ⟨gb515, 0, none⟩ = some (.int .i64 a1_0) ∧ w'.cell? ⟨gb515, 1, none⟩ = some (.int .i64 a1_1) ∧ w'.cell? ⟨gb515, 2, none⟩ = some (.slice A1_2 l1_2.length c1_2) ∧ w'.cell? (ad519.add ((x5_2).toNat * 4)) = some (.slice A519_0 ((rd_T61 l0_3 x5_2).f0).length c519_0) ∧ w'.cell? ⟨(ad519.add ((x5_2).toNat * 4)).block, (ad519.add ((x5_2).toNat * 4)).off + 1, none⟩ = some (.slice A519_1 ((rd_T61 l0_3 x5_2).f1).length c519_1) ∧ w'.cell? ⟨(ad519.add ((x5_2).toNat * 4)).block, (ad519.add ((x5_2).toNat * 4)).off + 2, none⟩ = some (.int .i64 ((rd_T61 l0_3 x5_2).f2)) ∧ w'.cell? ⟨(ad519.add ((x5_2).toNat * 4)).block, (ad519.add ((x5_2).toNat * 4)).off + 3, none⟩ = some (.int .i64 ((rd_T61 l0_3 x5_2).f3))) (ds := []) #[false, false, false, false, false, false, false] (by kernel_rfl) rfl rfl ⟨(blk_cell BK514.out 0).trans rfl, (blk_cell BK514.out 1).trans rfl, (blk_cell BK514.out 2).trans rfl, (blk_cell BK514.out 3).trans rfl, (blk_cell BK515.out 0).trans rfl, (blk_cell BK515.out 1).trans rfl, (blk_cell BK515.out 2).trans rfl, ((bc HB hw519_0 :)), ((bc HB hw519_1 :)), ((bc HB hw519_2 :)), ((bc HB hw519_3 :))⟩ (fun hHeld => ?_)
        generalize wr.drew = w33 at BK514 BK515 HB HR519_0 HR519_1 hx519_0 hx519_1 hx519_2 hx519_3 hHeld ⊢
        refine pure_ (i := 0) (N := some 28) (v := ?_) (a' := ?_) #[true, false, false, false, false, false, false] rfl rfl (by kernel_rfl) (fun _ _ _ h => h) (Or.inl ⟨by rfl, ?_⟩) ?_ ?_
        rotate_left
        ·intro w';go_simp;with_reducible rfl
        rotate_left
        ·simp only [Act.put, List.setIfInBounds_toArray, List.set_cons_zero, List.set_cons_succ, i64_w, i32_w];rfl
        refine pure_ (i := 2) (N := some 30) (v := ?_) (a' := ?_) #[true, false, true, false, false, false, false] rfl rfl (by kernel_rfl) (fun _ _ _ h => h) (Or.inl ⟨by rfl, ?_⟩) ?_ ?_
        rotate_left
        ·intro w';go_simp;with_reducible rfl
        rotate_left
        ·simp only [Act.put, List.setIfInBounds_toArray, List.set_cons_zero, List.set_cons_succ, i64_w, i32_w];rfl
        refine take_ (i := 1) (N := some 29) (v := ?_) (a' := ?_) #[true, true, true, false, false, false, false] rfl rfl (by kernel_rfl) (fun _ _ _ h => h) (Or.inl ⟨by rfl, ?_⟩) hHeld ?_ ?_
        rotate_left
        ·rintro w' ⟨s0, s1, s2, s3, s4, s5, s6, s7, s8, s9, s10⟩;go_simp;with_reducible rfl
        rotate_left
        ·simp only [Act.put, List.setIfInBounds_toArray, List.set_cons_zero, List.set_cons_succ, i64_w, i32_w];rfl
        refine pure_ (i := 3) (N := some 31) (v := ?_) (a' := ?_) #[true, true, true, true, false, false, false] rfl rfl (by kernel_rfl) (fun _ _ _ h => h) (Or.inl ⟨by rfl, ?_⟩) ?_ ?_
        rotate_left
        ·intro w';go_simp;with_reducible rfl
        rotate_left
        ·simp only [Act.put, List.setIfInBounds_toArray, List.set_cons_zero, List.set_cons_succ, i64_w, i32_w];rfl
        refine take_ (i := 4) (N := some 32) (v := ?_) (a' := ?_) #[true, true, true, true, true, false, false] rfl rfl (by kernel_rfl) (fun _ _ _ h => h) (Or.inl ⟨by rfl, ?_⟩) hHeld ?_ ?_
        rotate_left
        ·rintro w' ⟨s0, s1, s2, s3, s4, s5, s6, s7, s8, s9, s10⟩;go_simp;with_reducible rfl
        rotate_left
        ·simp only [Act.put, List.setIfInBounds_toArray, List.set_cons_zero, List.set_cons_succ, i64_w, i32_w];rfl
        refine take_ (i := 5) (N := some 33) (v := ?_) (a' := ?_) #[true, true, true, true, true, true, false] rfl rfl (by kernel_rfl) (fun _ _ _ h => h) (Or.inl ⟨by rfl, ?_⟩) hHeld ?_ ?_
        rotate_left
        ·rintro w' ⟨s0, s1, s2, s3, s4, s5, s6, s7, s8, s9, s10⟩;go_simp;with_reducible rfl
        rotate_left
        ·simp only [Act.put, List.setIfInBounds_toArray, List.set_cons_zero, List.set_cons_succ, i64_w, i32_w];rfl
        refine one_ (i := 6) (N := some 34) #[true, true, true, true, true, true, true] rfl rfl (by kernel_rfl) (by decide) (fun K hK => ?_)
        refine goes_ Try.func73 (by kernel_rfl) rfl #[.agg #[.slice A519_0 ((rd_T61 l0_3 x5_2).f0).length c519_0, .slice A519_1 ((rd_T61 l0_3 x5_2).f1).length c519_1, .int .i64 ((rd_T61 l0_3 x5_2).f2), .int .i64 ((rd_T61 l0_3 x5_2).f3)], .agg #[.int .i64 a1_0, .int .i64 a1_1, .slice A1_2 l1_2.length c1_2]] (by rfl) rfl rfl (by (try simp only [List.map_toArray, List.map_cons, List.map_nil]); first | done | rfl | (simp only [List.length_drop, List.length_take]; rfl)) ?_
        with_reducible refine (spec_RuleHolds.calls k2 _ _ ((rd_T61 l0_3 x5_2).f0) _ _ ((rd_T61 l0_3 x5_2).f1) ((rd_T61 l0_3 x5_2).f2) ((rd_T61 l0_3 x5_2).f3) a1_0 a1_1 _ _ l1_2 true _ ?side1 ?side2 ?side3 ?side4 ?side5 ?side6 A28.out).mono ?_
        (case side1 => exact cC (Kd.C_below HR519_0.out HB.out))
        (case side2 => exact HC519_0.out)
        (case side3 => exact cC (Kd.C_below HR519_1.out HB.out))
        (case side4 => exact HC519_1.out)
        (case side5 => exact cC (Kd.C_below HR1_2.out HB.out))
        (case side6 => exact HC1_2.out)
        rintro e w34 ⟨rfl, hb⟩;refine ⟨_, rfl, ?_⟩;replace BK514 := kB BK514 hb;replace BK515 := kB BK515 hb;replace HB := sB hb;(try clear hb)
        refine hK.out _ _ qh13x0 (fun hHeld => ?_)
        clear hK K;refine normZ (some 34) ?_
        refine done_ (by kernel_rfl) ?_
        try go_wp2
        replace BK514 := Aside0.mk (blk_drew BK514.out);replace BK515 := Aside0.mk (blk_drew BK515.out);replace HB := Aside0.mk (below_drew1 HB.out);have p521 : 0 ≤ (x5_2 : Int) := dA;have q521 : x5_2 < (l0_3.length : Int) := dA;obtain ⟨ad521, A521_0, c521_0, A521_1, c521_1, e521, hx521_0, hx521_1, hx521_2, hx521_3, hl521_0, hi521_0, hl521_1, hi521_1⟩ := at_T61 HR0_3.out x5_2 p521 q521;have hw521_3 := hx521_3;have hw521_2 := hx521_2;have hw521_1 := hx521_1;have hw521_0 := hx521_0
        obtain rfl : ad519 = ad521 := (by injection e521)
        replace hx521_0 := (bc HB hx521_0 :);replace hx521_1 := (bc HB hx521_1 :);replace hx521_2 := (bc HB hx521_2 :);replace hx521_3 := (bc HB hx521_3 :);have HR521_0 := Aside0.mk hi521_0;have HC521_0 := Aside0.mk hl521_0;clear hi521_0 hl521_0;have HR521_1 := Aside0.mk hi521_1;have HC521_1 := Aside0.mk hl521_1;clear hi521_1 hl521_1;replace p521 := eq_true p521;replace q521 := eq_true q521;have p522 : 0 ≤ (x5_2 : Int) := dA;have q522 : x5_2 < (l0_3.length : Int) := dA;obtain ⟨ad522, A522_0, c522_0, A522_1, c522_1, e522, hx522_0, hx522_1, hx522_2, hx522_3, hl522_0, hi522_0, hl522_1, hi522_1⟩ := at_T61 HR0_3.out x5_2 p522 q522;have hw522_3 := hx522_3;have hw522_2 := hx522_2;have hw522_1 := hx522_1;have hw522_0 := hx522_0
        obtain rfl : ad519 = ad522 := (by injection e522)
        replace hx522_0 := (bc HB hx522_0 :);replace hx522_1 := (bc HB hx522_1 :);replace hx522_2 := (bc HB hx522_2 :);replace hx522_3 := (bc HB hx522_3 :);have HR522_0 := Aside0.mk hi522_0;have HC522_0 := Aside0.mk hl522_0;clear hi522_0 hl522_0;have HR522_1 := Aside0.mk hi522_1;have HC522_1 := Aside0.mk hl522_1;clear hi522_1 hl522_1;replace p522 := eq_true p522;replace q522 := eq_true q522;have ea_ := Option.some.inj (hx521_0.symm.trans hx522_0)
        injection ea_ with ea_ en_ ec_
        subst ea_;subst ec_;clear en_;have ea_ := Option.some.inj (hx521_1.symm.trans hx522_1)
        injection ea_ with ea_ en_ ec_
        subst ea_;subst ec_;clear en_
        refine start_ (n := 14) (S := fun w' => w'.cell? ⟨gb514, 0, none⟩ = some (.int .i64 a0_0) ∧ w'.cell? ⟨gb514, 1, none⟩ = some (.int .i64 a0_1) ∧ w'.cell? ⟨gb514, 2, none⟩ = some (.int .i64 a0_2) ∧ w'.cell? ⟨gb514, 3, none⟩ = some (.slice (some ad519) l0_3.length c0_3) ∧ w'.cell? (ad519.add ((x5_2).toNat * 4)) = some (.slice A521_0 ((rd_T61 l0_3 x5_2).f0).length c521_0) ∧ w'.cell? ⟨(ad519.add ((x5_2).toNat * 4)).block, (ad519.add ((x5_2).toNat * 4)).off + 1, none⟩ = some (.slice A521_1 ((rd_T61 l0_3 x5_2).f1).length c521_1) ∧ w'.cell? ⟨(ad519.add ((x5_2).toNat * 4)).block, (ad519.add ((x5_2).toNat * 4)).off + 2, none⟩ = some (.int .i64 ((rd_T61 l0_3 x5_2).f2)) ∧ w'.cell? ⟨(ad519.add ((x5_2).toNat * 4)).block, (ad519.add ((x5_2).toNat * 4)).off + 3, none⟩ = some (.int .i64 ((rd_T61 l0_3 x5_2).f3)) ∧ w'.cell? (ad519.add ((x5_2).toNat * 4)) = some (.slice A521_0 ((rd_T61 l0_3 x5_2).f0).length c521_0) ∧ w'.cell? ⟨(ad519.add ((x5_2).toNat * 4)).block, (ad519.add ((x5_2).toNat * 4)).off + 1, none⟩ = some (.slice A521_1 ((rd_T61 l0_3 x5_2).f1).length c521_1) ∧ w'.cell? ⟨(ad519.add ((x5_2).toNat * 4)).block, (ad519.add ((x5_2).toNat * 4)).off + 2, none⟩ = some (.int .i64 ((rd_T61 l0_3 x5_2).f2)) ∧ w'.cell? ⟨(ad519.add ((x5_2).toNat * 4)).block, (ad519.add ((x5_2).toNat * 4)).off + 3, none⟩ = some (.int .i64 ((rd_T61 l0_3 x5_2).f3))) (ds := []) #[false, false, false, false, false, false, false, false, false, false, false, false, false, false] (by kernel_rfl) rfl rfl ⟨(blk_cell BK514.out 0).trans rfl, (blk_cell BK514.out 1).trans rfl, (blk_cell BK514.out 2).trans rfl, (blk_cell BK514.out 3).trans rfl, ((bc HB hw521_0 :)), ((bc HB hw521_1 :)), ((bc HB hw521_2 :)), ((bc HB hw521_3 :)), ((bc HB hw522_0 :)), ((bc HB hw522_1 :)), ((bc HB hw522_2 :)), ((bc HB hw522_3 :))⟩ (fun hHeld => ?_); refine with_tabW spec_Decide.tab7 spec_Decide.bits7 (fun HT_ HW_ => ?_)
        generalize w34.drew = w35 at BK514 BK515 HB HR521_0 HR521_1 HR522_0 HR522_1 hx521_0 hx521_1 hx521_2 hx521_3 hx522_0 hx522_1 hx522_2 hx522_3 hHeld ⊢;refine pureZ 0 (some 35) (msk 14 1) HT_.out ?_;refine pureZ 2 (some 37) (msk 14 5) HT_.out ?_;refine pureZ 6 (some 41) (msk 14 69) HT_.out ?_;refine pureZ 8 (some 43) (msk 14 325) HT_.out ?_;refine takeZ 1 (some 36) (msk 14 327) HT_.out HW_.out hHeld (hy := q13x0) (h := ?_);refine pureZ 3 (some 38) (msk 14 335) HT_.out ?_;refine pureZ 4 (some 39) (msk 14 351) HT_.out ?_;refine takeZ 5 (some 40) (msk 14 383) HT_.out HW_.out hHeld (hy := q13x0) (h := ?_);refine takeZ 7 (some 42) (msk 14 511) HT_.out HW_.out hHeld (hy := q13x0) (h := ?_);refine pureZ 9 (some 44) (msk 14 1023) HT_.out ?_;refine pureZ 10 (some 45) (msk 14 2047) HT_.out ?_;refine takeZ 11 (some 46) (msk 14 4095) HT_.out HW_.out hHeld (hy := q13x0) (h := ?_)
        refine one_Z 12 (some 47) (msk 14 8191) HT_.out fun K hK => ?_
        refine goes_ Try.func74 (by kernel_rfl) rfl #[.int .i64 ((rd_T61 l0_3 x5_2).f2), .int .i64 ((rd_T61 l0_3 x5_2).f3)] (by rfl) rfl rfl (by (try simp only [List.map_toArray, List.map_cons, List.map_nil]); first | done | rfl | (simp only [List.length_drop, List.length_take]; rfl)) ?_
        with_reducible refine (spec_ResultOf.calls ((rd_T61 l0_3 x5_2).f2) ((rd_T61 l0_3 x5_2).f3) t523 _ A30.out).mono ?_;rintro e w' ⟨rfl, ⟨nd, rfl⟩⟩;refine ⟨_, rfl, ?_⟩
        refine hK.out _ _ ⟨(blk_cell BK514.out 0).trans rfl, (blk_cell BK514.out 1).trans rfl, (blk_cell BK514.out 2).trans rfl, (blk_cell BK514.out 3).trans rfl, ((bc HB hw521_0 :)), ((bc HB hw521_1 :)), ((bc HB hw521_2 :)), ((bc HB hw521_3 :)), ((bc HB hw522_0 :)), ((bc HB hw522_1 :)), ((bc HB hw522_2 :)), ((bc HB hw522_3 :))⟩ (fun hHeld => ?_)
        clear hK K;refine normZ (some 47) ?_
        refine pureZ 13 (some 4) (msk 14 16383) HT_.out ?_
        refine done_ (done_of HT_.out (by kernel_rfl)) ?_
        try go_wp2
        go_ret;exact ⟨rE, cB⟩
       ·replace c29 := Bool.eq_false_iff.mpr c29;subst c29;replace H := iF H;have H' := Aside0.mk H;clear H;have hnb36 := NB514_515.out;have hnc36 := NB515_514.out;obtain ⟨hcz37_0, hcz37_1, hcz37_2, hcz37_3, hfz37_0, hfz37_1, hfz37_2, hfz37_3⟩ := cz4 BK514
        try go_wp2
        replace BK514 := Aside0.mk (blk_drew BK514.out);replace BK515 := Aside0.mk (blk_drew BK515.out);replace HB := Aside0.mk (below_drew1 HB.out);have p519 : 0 ≤ (x5_2 : Int) := dA;have q519 : x5_2 < (l0_3.length : Int) := dA;obtain ⟨ad519, A519_0, c519_0, A519_1, c519_1, e519, hx519_0, hx519_1, hx519_2, hx519_3, hl519_0, hi519_0, hl519_1, hi519_1⟩ := at_T61 HR0_3.out x5_2 p519 q519;have hw519_3 := hx519_3;have hw519_2 := hx519_2;have hw519_1 := hx519_1;have hw519_0 := hx519_0;cases e519;replace hx519_0 := (bc HB hx519_0 :);replace hx519_1 := (bc HB hx519_1 :);replace hx519_2 := (bc HB hx519_2 :);replace hx519_3 := (bc HB hx519_3 :);have HR519_0 := Aside0.mk hi519_0;have HC519_0 := Aside0.mk hl519_0;clear hi519_0 hl519_0;have HR519_1 := Aside0.mk hi519_1;have HC519_1 := Aside0.mk hl519_1;clear hi519_1 hl519_1;replace p519 := eq_true p519;replace q519 := eq_true q519
        refine start_ (n := 7) (S := fun w' => w'.cell? ⟨gb514, 0, none⟩ = some (.int .i64 a0_0) ∧ w'.cell? ⟨gb514, 1, none⟩ = some (.int .i64 a0_1) ∧ w'.cell? ⟨gb514, 2, none⟩ = some (.int .i64 a0_2) ∧ w'.cell? ⟨gb514, 3, none⟩ = some (.slice (some ad519) l0_3.length c0_3) ∧ w'.cell? ⟨gb515, 0, none⟩ = some (.int .i64 a1_0) ∧ w'.cell? ⟨gb515, 1, none⟩ = some (.int .i64 a1_1) ∧ w'.cell? ⟨gb515, 2, none⟩ = some (.slice A1_2 l1_2.length c1_2) ∧ w'.cell? (ad519.add ((x5_2).toNat * 4)) = some (.slice A519_0 ((rd_T61 l0_3 x5_2).f0).length c519_0) ∧ w'.cell? ⟨(ad519.add ((x5_2).toNat * 4)).block, (ad519.add ((x5_2).toNat * 4)).off + 1, none⟩ = some (.slice A519_1 ((rd_T61 l0_3 x5_2).f1).length c519_1) ∧ w'.cell? ⟨(ad519.add ((x5_2).toNat * 4)).block, (ad519.add ((x5_2).toNat * 4)).off + 2, none⟩ = some (.int .i64 ((rd_T61 l0_3 x5_2).f2)) ∧ w'.cell? ⟨(ad519.add ((x5_2).toNat * 4)).block, (ad519.add ((x5_2).toNat * 4)).off + 3, none⟩ = some (.int .i64 ((rd_T61 l0_3 x5_2).f3))) (ds := []) #[false, false, false, false, false, false, false] (by kernel_rfl) rfl rfl ⟨(blk_cell BK514.out 0).trans rfl, (blk_cell BK514.out 1).trans rfl, (blk_cell BK514.out 2).trans rfl, (blk_cell BK514.out 3).trans rfl, (blk_cell BK515.out 0).trans rfl, (blk_cell BK515.out 1).trans rfl, (blk_cell BK515.out 2).trans rfl, ((bc HB hw519_0 :)), ((bc HB hw519_1 :)), ((bc HB hw519_2 :)), ((bc HB hw519_3 :))⟩ (fun hHeld => ?_)
        generalize wr.drew = w38 at BK514 BK515 HB HR519_0 HR519_1 hx519_0 hx519_1 hx519_2 hx519_3 hHeld ⊢
        refine pure_ (i := 0) (N := some 28) (v := ?_) (a' := ?_) #[true, false, false, false, false, false, false] rfl rfl (by kernel_rfl) (fun _ _ _ h => h) (Or.inl ⟨by rfl, ?_⟩) ?_ ?_
        rotate_left
        ·intro w';go_simp;with_reducible rfl
        rotate_left
        ·simp only [Act.put, List.setIfInBounds_toArray, List.set_cons_zero, List.set_cons_succ, i64_w, i32_w];rfl
        refine pure_ (i := 2) (N := some 30) (v := ?_) (a' := ?_) #[true, false, true, false, false, false, false] rfl rfl (by kernel_rfl) (fun _ _ _ h => h) (Or.inl ⟨by rfl, ?_⟩) ?_ ?_
        rotate_left
        ·intro w';go_simp;with_reducible rfl
        rotate_left
        ·simp only [Act.put, List.setIfInBounds_toArray, List.set_cons_zero, List.set_cons_succ, i64_w, i32_w];rfl
        refine take_ (i := 1) (N := some 29) (v := ?_) (a' := ?_) #[true, true, true, false, false, false, false] rfl rfl (by kernel_rfl) (fun _ _ _ h => h) (Or.inl ⟨by rfl, ?_⟩) hHeld ?_ ?_
        rotate_left
        ·rintro w' ⟨s0, s1, s2, s3, s4, s5, s6, s7, s8, s9, s10⟩;go_simp;with_reducible rfl
        rotate_left
        ·simp only [Act.put, List.setIfInBounds_toArray, List.set_cons_zero, List.set_cons_succ, i64_w, i32_w];rfl
        refine pure_ (i := 3) (N := some 31) (v := ?_) (a' := ?_) #[true, true, true, true, false, false, false] rfl rfl (by kernel_rfl) (fun _ _ _ h => h) (Or.inl ⟨by rfl, ?_⟩) ?_ ?_
        rotate_left
        ·intro w';go_simp;with_reducible rfl
        rotate_left
        ·simp only [Act.put, List.setIfInBounds_toArray, List.set_cons_zero, List.set_cons_succ, i64_w, i32_w];rfl
        refine take_ (i := 4) (N := some 32) (v := ?_) (a' := ?_) #[true, true, true, true, true, false, false] rfl rfl (by kernel_rfl) (fun _ _ _ h => h) (Or.inl ⟨by rfl, ?_⟩) hHeld ?_ ?_
        rotate_left
        ·rintro w' ⟨s0, s1, s2, s3, s4, s5, s6, s7, s8, s9, s10⟩;go_simp;with_reducible rfl
        rotate_left
        ·simp only [Act.put, List.setIfInBounds_toArray, List.set_cons_zero, List.set_cons_succ, i64_w, i32_w];rfl
        refine take_ (i := 5) (N := some 33) (v := ?_) (a' := ?_) #[true, true, true, true, true, true, false] rfl rfl (by kernel_rfl) (fun _ _ _ h => h) (Or.inl ⟨by rfl, ?_⟩) hHeld ?_ ?_
        rotate_left
        ·rintro w' ⟨s0, s1, s2, s3, s4, s5, s6, s7, s8, s9, s10⟩;go_simp;with_reducible rfl
        rotate_left
        ·simp only [Act.put, List.setIfInBounds_toArray, List.set_cons_zero, List.set_cons_succ, i64_w, i32_w];rfl
        refine one_ (i := 6) (N := some 34) #[true, true, true, true, true, true, true] rfl rfl (by kernel_rfl) (by decide) (fun K hK => ?_)
        refine goes_ Try.func73 (by kernel_rfl) rfl #[.agg #[.slice A519_0 ((rd_T61 l0_3 x5_2).f0).length c519_0, .slice A519_1 ((rd_T61 l0_3 x5_2).f1).length c519_1, .int .i64 ((rd_T61 l0_3 x5_2).f2), .int .i64 ((rd_T61 l0_3 x5_2).f3)], .agg #[.int .i64 a1_0, .int .i64 a1_1, .slice A1_2 l1_2.length c1_2]] (by rfl) rfl rfl (by (try simp only [List.map_toArray, List.map_cons, List.map_nil]); first | done | rfl | (simp only [List.length_drop, List.length_take]; rfl)) ?_
        with_reducible refine (spec_RuleHolds.calls k2 _ _ ((rd_T61 l0_3 x5_2).f0) _ _ ((rd_T61 l0_3 x5_2).f1) ((rd_T61 l0_3 x5_2).f2) ((rd_T61 l0_3 x5_2).f3) a1_0 a1_1 _ _ l1_2 false _ ?side1 ?side2 ?side3 ?side4 ?side5 ?side6 A28.out).mono ?_
        (case side1 => exact cC (Kd.C_below HR519_0.out HB.out))
        (case side2 => exact HC519_0.out)
        (case side3 => exact cC (Kd.C_below HR519_1.out HB.out))
        (case side4 => exact HC519_1.out)
        (case side5 => exact cC (Kd.C_below HR1_2.out HB.out))
        (case side6 => exact HC1_2.out)
        rintro e w39 ⟨rfl, hb⟩;refine ⟨_, rfl, ?_⟩;replace BK514 := kB BK514 hb;replace BK515 := kB BK515 hb;replace HB := sB hb;(try clear hb)
        refine hK.out _ _ qh13x0 (fun hHeld => ?_)
        clear hK K;refine normZ (some 34) ?_
        refine done_ (by kernel_rfl) ?_
        try go_wp2
        go_roundg k2
        case measure => have := HJ2.out; have := HK2.out; omega
        case rel => exact ⟨(wrap64 (x5_2 + 1)), rS, H', ⟨by have := HJ2.out; have := HK2.out; omega⟩, ⟨mK BK514⟩, ⟨mK BK515⟩, ⟨cB⟩⟩
      ·rw [if_neg c26] at H;have c26b0 := decide_eq_false c26;clear c26;replace H := bE H;obtain ⟨t518, A40, H⟩ := H;obtain rfl := Option.some.inj H;have hnb41 := NB514_515.out;have hnc41 := NB515_514.out;obtain ⟨hcz42_0, hcz42_1, hcz42_2, hcz42_3, hfz42_0, hfz42_1, hfz42_2, hfz42_3⟩ := cz4 BK514
       go_wp2_with (first|((with_reducible refine gF 74 ?_);refine goZ (some 52) Try.func74 #[.int .i64 a0_1, .int .i64 a0_2] ?_;(with_reducible refine (spec_ResultOf.calls a0_1 a0_2 t518 _ A40.out).mono ?_);rintro e w' ⟨rfl, ⟨nd, rfl⟩⟩;refine ⟨_, rfl, ?_⟩))
       go_ret;exact ⟨rE, cB⟩
end Go.Proofs.Ytlgndgjbfjefpaa.PFnDecides
