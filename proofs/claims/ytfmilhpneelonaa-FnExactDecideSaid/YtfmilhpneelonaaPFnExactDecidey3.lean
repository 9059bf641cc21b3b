import Derived.Test.YtfmilhpneelonaaPFnExactDecidey0
import Derived.Test.YtfmilhpneelonaaPFnExactDecidey1
import Derived.Test.YtfmilhpneelonaaPFnExactDecidey2
namespace Go.Proofs.Ytfmilhpneelonaa.PFnExactDecide
open Go.RowKit Go.Proofs.YtfmilhpneelonaaW.PrintWords Go.Proofs.YtfmilhpneelonaaW.PrintLast Go.Proofs.YtfmilhpneelonaaW.PrintMore Go.Proofs.YtfmilhpneelonaaW.Z
attribute [local go_sem] max2_int min2_int max_two min_two max_three min_three max_four min_four
set_option linter.unusedVariables false
set_option linter.unusedSimpArgs false
def slices_Index_int_int.l0 : Nat → List Int → Int → Int → Int → Option (Int)
  | 0, _, _, _, _ => none
  | k + 1, x0, x1, x7, x8 => if x8 < x7 then (if 0 ≤ x8 then (if x8 < (x0.length : Int) then (if x1 = (rd x0 x8) then (some x8) else (slices_Index_int_int.l0 k x0 x1 x7 (wrap64 (x8 + 1)))) else (none)) else (none)) else (some (-1))
def slices_Index_int_int.f (k : Nat) (l0 : List Int) (a1 : Int) : Option (Int) := slices_Index_int_int.l0 k l0 a1 (l0.length : Int) 0
set_option maxHeartbeats 8000000 in
set_option maxRecDepth 100000 in
theorem slices_Index_int_int.calls (k : Nat) (A0 : Option Addr) (c0 : Nat) (l0 : List Int) (a1 : Int) (r : Int) (w : World) (hr0 : Kd.C (Kd.int .i64) w A0 l0.length l0) (hc0 : l0.length ≤ c0) (h : slices_Index_int_int.f k l0 a1 = some r) :
 Calls Try.prog 179 #[.slice A0 l0.length c0, .int .i64 a1] w fun e w' => e = .returned (.int .i64 r) ∧ Drawn0 w w' := by
 have HR0 := Aside0.mk hr0;have HC0 := Aside0.mk hc0;clear hr0 hc0;have H : (slices_Index_int_int.l0 k l0 a1 (l0.length : Int) 0) = some r := h;clear h;have H' := Aside0.mk H;clear H;go_enter Try.func179, Try.ntmps179;go_wp2
 go_loopg [8] k (fun kq v8 w' => ∃ (x8_1 : Int), v8 = .int .i64 x8_1 ∧ Aside0 (slices_Index_int_int.l0 kq l0 a1 (l0.length : Int) x8_1 = some r) ∧ Aside0 (kq ≤ k) ∧ Drawn0 w w')
 case atStart => exact ⟨(0), rS, H', ⟨Nat.le_refl _⟩, by repeat (first | exact Drawn0.refl _ | apply Drawn0.step)⟩
 case round =>
  clear H';obtain ⟨x8_1, rfl, HA, HK1, ⟨m1, rfl⟩⟩ := hrel
  cases gk with
  | zero => exact absurd HA.out (by simp [slices_Index_int_int.l0])
  | succ k1 =>
   have H := HA.out;clear HA;simp only [slices_Index_int_int.l0] at H;by_cases c3 : x8_1 < (l0.length : Int)
   ·rw [if_pos c3] at H;have c3b0 := decide_eq_true c3;clear c3;replace H := gD H;obtain ⟨c4b0, H⟩ := H;replace H := gD H;obtain ⟨c5b0, H⟩ := H;by_cases c6 : a1 = (rd l0 x8_1)
    ·rw [if_pos c6] at H;obtain ⟨c6b0, c6b1⟩ := eT c6;clear c6;obtain rfl := Option.some.inj H;have p133 : 0 ≤ (x8_1 : Int) := dA;have q133 : x8_1 < (l0.length : Int) := dA;obtain ⟨ad133, e133, hx133_0⟩ := Kd.at_int HR0.out x8_1 p133 q133;cases e133;replace p133 := eq_true p133;replace q133 := eq_true q133;go_wp2;go_ret
     exact ⟨by first | rfl | (simp; done) | (simp [*]; done), by repeat (first | exact Drawn0.refl _ | apply Drawn0.step)⟩
    ·rw [if_neg c6] at H;obtain ⟨c6b0, c6b1⟩ := eF c6;have H' := Aside0.mk H;clear H;have p133 : 0 ≤ (x8_1 : Int) := dA;have q133 : x8_1 < (l0.length : Int) := dA;obtain ⟨ad133, e133, hx133_0⟩ := Kd.at_int HR0.out x8_1 p133 q133;cases e133;replace p133 := eq_true p133;replace q133 := eq_true q133;go_wp2;go_roundg k1
     case measure => have := HK1.out; omega
     case rel => exact ⟨(wrap64 (x8_1 + 1)), rS, H', ⟨by have := HK1.out; omega⟩, by repeat (first | exact Drawn0.refl _ | apply Drawn0.step)⟩
   ·rw [if_neg c3] at H;have c3b0 := decide_eq_false c3;clear c3;obtain rfl := Option.some.inj H;go_wp2;go_ret
    exact ⟨by first | rfl | (simp; done) | (simp [*]; done), by repeat (first | exact Drawn0.refl _ | apply Drawn0.step)⟩
def slices_Contains_int_int.f (k : Nat) (l0 : List Int) (a1 : Int) : Option (Bool) := (slices_Index_int_int.f k l0 a1).bind fun t134 => (some (decide (t134 ≥ 0)))
set_option maxHeartbeats 8000000 in
set_option maxRecDepth 100000 in
theorem slices_Contains_int_int.calls (k : Nat) (A0 : Option Addr) (c0 : Nat) (l0 : List Int) (a1 : Int) (r : Bool) (w : World) (hr0 : Kd.C (Kd.int .i64) w A0 l0.length l0) (hc0 : l0.length ≤ c0) (h : slices_Contains_int_int.f k l0 a1 = some r) :
 Calls Try.prog 114 #[.slice A0 l0.length c0, .int .i64 a1] w fun e w' => e = .returned (.bool r) ∧ Drawn0 w w' := by
 have HR0 := Aside0.mk hr0;have HC0 := Aside0.mk hc0;clear hr0 hc0
 have H : ((slices_Index_int_int.f k l0 a1).bind fun t134 => (some (decide (t134 ≥ 0)))) = some r := h
 clear h;replace H := bE H;obtain ⟨t134, A3, H⟩ := H;obtain rfl := Option.some.inj H;go_enter Try.func114, Try.ntmps114
 go_wp2_with (first|((with_reducible refine gF 179 ?_);refine goZ (some 7) Try.func179 #[.slice A0 l0.length c0, .int .i64 a1] ?_;(with_reducible refine (slices_Index_int_int.calls k _ _ l0 a1 t134 _ ?side1 ?side2 A3.out).mono ?_);(case side1 => exact cC HR0.out);(case side2 => exact HC0.out);rintro e w' ⟨rfl, ⟨nd, rfl⟩⟩;refine ⟨_, rfl, ?_⟩))
 go_ret
 exact ⟨by first | rfl | (simp; done) | (simp [*]; done), by repeat (first | exact Drawn0.refl _ | apply Drawn0.step)⟩
def impl_RuleHolds.l0 : Nat → List (S27) → Int → Int → List Int → List (S27) → Int → Int → Int → Int → List (S25) → Option (Bool)
  | 0, _, _, _, _, _, _, _, _, _, _ => none
  | k + 1, x8, x9, x10, x136000, x136001, x136002, x136003, x137000, x137001, x137002 => if x10 < x9 then (if 0 ≤ x10 then (if x10 < (x8.length : Int) then ((impl_CondHolds.f k ((rd_T27 x8 x10).f0) ((rd_T27 x8 x10).f1.f0) ((rd_T27 x8 x10).f1.f1) ((rd_T27 x8 x10).f2) ((rd_T27 x8 x10).f3.f0) ((rd_T27 x8 x10).f3.f1) x137000 x137001 x137002).bind fun t139 => (if t139 = true then (impl_RuleHolds.l0 k x8 x9 (wrap64 (x10 + 1)) x136000 x136001 x136002 x136003 x137000 x137001 x137002) else (some false))) else (none)) else (none)) else (if (x136000.length : Int) = 0 then (some true) else ((slices_Contains_int_int.f k x136000 x137001).bind fun t140 => (some t140)))
def impl_RuleHolds.f (k : Nat) (l0_0 : List Int) (l0_1 : List (S27)) (a0_2 : Int) (a0_3 : Int) (a1_0 : Int) (a1_1 : Int) (l1_2 : List (S25)) : Option (Bool) := impl_RuleHolds.l0 k l0_1 (l0_1.length : Int) 0 l0_0 l0_1 a0_2 a0_3 a1_0 a1_1 l1_2
set_option maxHeartbeats 8000000 in
set_option maxRecDepth 100000 in
theorem impl_RuleHolds.calls (k : Nat) (A0_0 : Option Addr) (c0_0 : Nat) (l0_0 : List Int) (A0_1 : Option Addr) (c0_1 : Nat) (l0_1 : List (S27)) (a0_2 : Int) (a0_3 : Int) (a1_0 : Int) (a1_1 : Int) (A1_2 : Option Addr) (c1_2 : Nat) (l1_2 : List (S25)) (r : Bool) (w : World) (hr0_0 : Kd.C (Kd.int .i64) w A0_0 l0_0.length l0_0) (hc0_0 : l0_0.length ≤ c0_0) (hr0_1 : Kd.C k27 w A0_1 l0_1.length l0_1) (hc0_1 : l0_1.length ≤ c0_1) (hr1_2 : Kd.C k25 w A1_2 l1_2.length l1_2) (hc1_2 : l1_2.length ≤ c1_2) (h : impl_RuleHolds.f k l0_0 l0_1 a0_2 a0_3 a1_0 a1_1 l1_2 = some r) :
 Calls Try.prog 23 #[.agg #[.slice A0_0 l0_0.length c0_0, .slice A0_1 l0_1.length c0_1, .int .i64 a0_2, .int .i64 a0_3], .agg #[.int .i64 a1_0, .int .i64 a1_1, .slice A1_2 l1_2.length c1_2]] w fun e w' => e = .returned (.bool r) ∧ Below w.heap.size w w' := by
 have hu40 := Try.underlying40;have hu30 := Try.underlying30;have hu27 := Try.underlying27;have HR0_0 := Aside0.mk hr0_0;have HC0_0 := Aside0.mk hc0_0;clear hr0_0 hc0_0;have HR0_1 := Aside0.mk hr0_1;have HC0_1 := Aside0.mk hc0_1;clear hr0_1 hc0_1;have HR1_2 := Aside0.mk hr1_2;have HC1_2 := Aside0.mk hc1_2;clear hr1_2 hc1_2;have HB := Aside0.mk (Below.refl w.heap.size w);have H : (impl_RuleHolds.l0 k l0_1 (l0_1.length : Int) 0 l0_0 l0_1 a0_2 a0_3 a1_0 a1_1 l1_2) = some r := h;clear h;have H' := Aside0.mk H;clear H;go_enter Try.func23, Try.ntmps23
 go_wp2_with (first|((with_reducible refine gN 2 ?_);refine boxZ 2 #[.slice A0_0 l0_0.length c0_0, .slice A0_1 l0_1.length c0_1, .int .i64 a0_2, .int .i64 a0_3] 40 ?_;intro gb135 hg w3 hbox hb;have BK135 := Aside0.mk (hbox);have GW135 := gS hg;have GE135 := gS hg;replace HB := sB hb;clear hb hbox hg)|((with_reducible refine gN 3 ?_);refine boxZ 3 #[.int .i64 a1_0, .int .i64 a1_1, .slice A1_2 l1_2.length c1_2] 30 ?_;intro gb136 hg w4 hbox hb;have BK136 := Aside0.mk (hbox);have GW136 := gS hg;have GE136 := gS hg;replace HB := sB hb;have NB135_136 := nL hg BK135;have NB136_135 := nG hg BK135;replace BK135 := kB BK135 hb;clear hb hbox hg;have hnb5 := NB135_136.out;have hnc5 := NB136_135.out;obtain ⟨hcz6_0, hcz6_1, hcz6_2, hcz6_3, hfz6_0, hfz6_1, hfz6_2, hfz6_3⟩ := cz4 BK135))
 go_loopg [10] k (fun kq v10 w' => ∃ (x10_1 : Int), v10 = .int .i64 x10_1 ∧ Aside0 (impl_RuleHolds.l0 kq l0_1 (l0_1.length : Int) x10_1 l0_0 l0_1 a0_2 a0_3 a1_0 a1_1 l1_2 = some r) ∧ Aside0 (kq ≤ k) ∧ Aside0 (w'.heap[gb135]? = some (.cells #[(.slice A0_0 l0_0.length c0_0), (.slice A0_1 l0_1.length c0_1), .int .i64 a0_2, .int .i64 a0_3] 40 (0, 0))) ∧ Aside0 (w'.heap[gb136]? = some (.cells #[.int .i64 a1_0, .int .i64 a1_1, (.slice A1_2 l1_2.length c1_2)] 30 (0, 0))) ∧ Aside0 (Below w.heap.size w w'))
 case atStart => exact ⟨(0), rS, H', ⟨Nat.le_refl _⟩, ⟨mK BK135⟩, ⟨mK BK136⟩, ⟨cB⟩⟩
 case round =>
  clear H';(try clear hcz6_0);(try clear hcz6_1);(try clear hcz6_2);(try clear hcz6_3);(try clear hfz6_0);(try clear hfz6_1);(try clear hfz6_2);(try clear hfz6_3);obtain ⟨x10_1, rfl, HA, HK1, BK135, BK136, HB⟩ := hrel
  cases gk with
  | zero => exact absurd HA.out (by simp [impl_RuleHolds.l0])
  | succ k1 =>
   have H := HA.out;clear HA;simp only [impl_RuleHolds.l0] at H;by_cases c7 : x10_1 < (l0_1.length : Int)
   ·rw [if_pos c7] at H;have c7b0 := decide_eq_true c7;clear c7;replace H := gD H;obtain ⟨c8b0, H⟩ := H;replace H := gD H;obtain ⟨c9b0, H⟩ := H;replace H := bE H;obtain ⟨t139, A10, H⟩ := H;by_cases c11 : t139 = true
    ·subst c11;replace H := iT H;have H' := Aside0.mk H;clear H;have p137 : 0 ≤ (x10_1 : Int) := dA;have q137 : x10_1 < (l0_1.length : Int) := dA;obtain ⟨ad137, e137, hx137_0, hx137_1, hx137_2, hx137_3, hx137_4, hx137_5⟩ := at_T27 HR0_1.out x10_1 p137 q137;cases e137;replace hx137_0 := bc HB hx137_0;replace hx137_1 := bc HB hx137_1;replace hx137_2 := bc HB hx137_2;replace hx137_3 := bc HB hx137_3;replace hx137_4 := bc HB hx137_4;replace hx137_5 := bc HB hx137_5;replace p137 := eq_true p137;replace q137 := eq_true q137
     go_wp2_with (first|((with_reducible refine gN 6 ?_);refine boxZ 6 #[.int .i64 0, .int .i64 0, .int .i64 0, .int .i64 0, .int .i64 0, .int .i64 0] 27 ?_;intro gb138 hg w12 hbox hb;have BK138 := Aside0.mk (hbox);have GW138 := gS hg;have GE138 := gS hg;replace HB := sB hb;have NB135_138 := nL hg BK135;have NB138_135 := nG hg BK135;replace BK135 := kB BK135 hb;have NB136_138 := nL hg BK136;have NB138_136 := nG hg BK136;replace BK136 := kB BK136 hb;clear hb hbox hg;have hnb13 := NB138_135.out;have hnc13 := NB135_138.out;have hnb14 := NB138_136.out;have hnc14 := NB136_138.out;obtain ⟨hcz15_0, hcz15_1, hcz15_2, hcz15_3, hcz15_4, hcz15_5, hfz15_0, hfz15_1, hfz15_2, hfz15_3, hfz15_4, hfz15_5⟩ := cz6 BK138;have hnb16 := NB136_135.out;have hnc16 := NB135_136.out;obtain ⟨hcz17_0, hcz17_1, hcz17_2, hfz17_0, hfz17_1, hfz17_2⟩ := cz3 BK136)|((with_reducible refine gF 19 ?_);refine goZ (some 16) Try.func19 #[.agg #[.int .i64 ((rd_T27 l0_1 x10_1).f0), .int .i64 ((rd_T27 l0_1 x10_1).f1.f0), .int .i64 ((rd_T27 l0_1 x10_1).f1.f1), .int .i64 ((rd_T27 l0_1 x10_1).f2), .int .i64 ((rd_T27 l0_1 x10_1).f3.f0), .int .i64 ((rd_T27 l0_1 x10_1).f3.f1)], .agg #[.int .i64 a1_0, .int .i64 a1_1, .slice A1_2 l1_2.length c1_2]] ?_;(with_reducible refine (impl_CondHolds.calls k1 ((rd_T27 l0_1 x10_1).f0) ((rd_T27 l0_1 x10_1).f1.f0) ((rd_T27 l0_1 x10_1).f1.f1) ((rd_T27 l0_1 x10_1).f2) ((rd_T27 l0_1 x10_1).f3.f0) ((rd_T27 l0_1 x10_1).f3.f1) a1_0 a1_1 _ _ l1_2 true _ ?side1 ?side2 A10.out).mono ?_);(case side1 => exact Kd.C_below HR1_2.out cB);(case side2 => exact HC1_2.out);rintro e w18 ⟨rfl, hb⟩;refine ⟨_, rfl, ?_⟩;replace BK135 := kB BK135 hb;replace BK136 := kB BK136 hb;replace BK138 := kP BK138 hb (.cells #[.int .i64 ((rd_T27 l0_1 x10_1).f0), .int .i64 ((rd_T27 l0_1 x10_1).f1.f0), .int .i64 ((rd_T27 l0_1 x10_1).f1.f1), .int .i64 ((rd_T27 l0_1 x10_1).f2), .int .i64 ((rd_T27 l0_1 x10_1).f3.f0), .int .i64 ((rd_T27 l0_1 x10_1).f3.f1)] 27 (0, 0));replace HB := sB hb;(try clear hb)))
     go_roundg k1
     case measure => have := HK1.out; omega
     case rel => exact ⟨(wrap64 (x10_1 + 1)), rS, H', ⟨by have := HK1.out; omega⟩, ⟨mK BK135⟩, ⟨mK BK136⟩, ⟨cB⟩⟩
    ·replace c11 := Bool.eq_false_iff.mpr c11;subst c11;replace H := iF H;obtain rfl := Option.some.inj H;have p137 : 0 ≤ (x10_1 : Int) := dA;have q137 : x10_1 < (l0_1.length : Int) := dA;obtain ⟨ad137, e137, hx137_0, hx137_1, hx137_2, hx137_3, hx137_4, hx137_5⟩ := at_T27 HR0_1.out x10_1 p137 q137;cases e137;replace hx137_0 := bc HB hx137_0;replace hx137_1 := bc HB hx137_1;replace hx137_2 := bc HB hx137_2;replace hx137_3 := bc HB hx137_3;replace hx137_4 := bc HB hx137_4;replace hx137_5 := bc HB hx137_5;replace p137 := eq_true p137;replace q137 := eq_true q137
     go_wp2_with (first|((with_reducible refine gN 6 ?_);refine boxZ 6 #[.int .i64 0, .int .i64 0, .int .i64 0, .int .i64 0, .int .i64 0, .int .i64 0] 27 ?_;intro gb138 hg w19 hbox hb;have BK138 := Aside0.mk (hbox);have GW138 := gS hg;have GE138 := gS hg;replace HB := sB hb;have NB135_138 := nL hg BK135;have NB138_135 := nG hg BK135;replace BK135 := kB BK135 hb;have NB136_138 := nL hg BK136;have NB138_136 := nG hg BK136;replace BK136 := kB BK136 hb;clear hb hbox hg;have hnb20 := NB138_135.out;have hnc20 := NB135_138.out;have hnb21 := NB138_136.out;have hnc21 := NB136_138.out;obtain ⟨hcz22_0, hcz22_1, hcz22_2, hcz22_3, hcz22_4, hcz22_5, hfz22_0, hfz22_1, hfz22_2, hfz22_3, hfz22_4, hfz22_5⟩ := cz6 BK138;have hnb23 := NB136_135.out;have hnc23 := NB135_136.out;obtain ⟨hcz24_0, hcz24_1, hcz24_2, hfz24_0, hfz24_1, hfz24_2⟩ := cz3 BK136)|((with_reducible refine gF 19 ?_);refine goZ (some 16) Try.func19 #[.agg #[.int .i64 ((rd_T27 l0_1 x10_1).f0), .int .i64 ((rd_T27 l0_1 x10_1).f1.f0), .int .i64 ((rd_T27 l0_1 x10_1).f1.f1), .int .i64 ((rd_T27 l0_1 x10_1).f2), .int .i64 ((rd_T27 l0_1 x10_1).f3.f0), .int .i64 ((rd_T27 l0_1 x10_1).f3.f1)], .agg #[.int .i64 a1_0, .int .i64 a1_1, .slice A1_2 l1_2.length c1_2]] ?_;(with_reducible refine (impl_CondHolds.calls k1 ((rd_T27 l0_1 x10_1).f0) ((rd_T27 l0_1 x10_1).f1.f0) ((rd_T27 l0_1 x10_1).f1.f1) ((rd_T27 l0_1 x10_1).f2) ((rd_T27 l0_1 x10_1).f3.f0) ((rd_T27 l0_1 x10_1).f3.f1) a1_0 a1_1 _ _ l1_2 false _ ?side1 ?side2 A10.out).mono ?_);(case side1 => exact Kd.C_below HR1_2.out cB);(case side2 => exact HC1_2.out);rintro e w25 ⟨rfl, hb⟩;refine ⟨_, rfl, ?_⟩;replace BK135 := kB BK135 hb;replace BK136 := kB BK136 hb;replace BK138 := kP BK138 hb (.cells #[.int .i64 ((rd_T27 l0_1 x10_1).f0), .int .i64 ((rd_T27 l0_1 x10_1).f1.f0), .int .i64 ((rd_T27 l0_1 x10_1).f1.f1), .int .i64 ((rd_T27 l0_1 x10_1).f2), .int .i64 ((rd_T27 l0_1 x10_1).f3.f0), .int .i64 ((rd_T27 l0_1 x10_1).f3.f1)] 27 (0, 0));replace HB := sB hb;(try clear hb)))
     go_ret;exact ⟨rE, cB⟩
   ·rw [if_neg c7] at H;have c7b0 := decide_eq_false c7;clear c7;by_cases c26 : (l0_0.length : Int) = 0
    ·rw [if_pos c26] at H;obtain ⟨c26b0, c26b1⟩ := eT c26;clear c26;obtain rfl := Option.some.inj H;have hnb27 := NB135_136.out;have hnc27 := NB136_135.out;obtain ⟨hcz28_0, hcz28_1, hcz28_2, hcz28_3, hfz28_0, hfz28_1, hfz28_2, hfz28_3⟩ := cz4 BK135;go_wp2;go_ret;exact ⟨rE, cB⟩
    ·rw [if_neg c26] at H;obtain ⟨c26b0, c26b1⟩ := eF c26
     have c26b2 : ¬ (l0_0 = []) := fun h_ => c26 (by rw [h_]; rfl)
     replace H := bE H;obtain ⟨t140, A29, H⟩ := H;obtain rfl := Option.some.inj H;have hnb30 := NB135_136.out;have hnc30 := NB136_135.out;obtain ⟨hcz31_0, hcz31_1, hcz31_2, hcz31_3, hfz31_0, hfz31_1, hfz31_2, hfz31_3⟩ := cz4 BK135;obtain ⟨hcz32_0, hcz32_1, hcz32_2, hfz32_0, hfz32_1, hfz32_2⟩ := cz3 BK136
     go_wp2_with (first|(go_at_call 114;(with_reducible refine (slices_Contains_int_int.calls k1 _ _ l0_0 a1_1 t140 _ ?side1 ?side2 A29.out).mono ?_);(case side1 => exact cC (Kd.C_below HR0_0.out HB.out));(case side2 => exact HC0_0.out);rintro e w' ⟨rfl, ⟨nd, rfl⟩⟩))
     go_ret;exact ⟨rE, cB⟩
def impl_ResultOf.f (a0 : Int) (a1 : Int) : Option (Int) := (impl_within.f a0 0 5).bind fun t141 => (if t141 = true then ((impl_within.f a1 0 65535).bind fun t142 => (if t142 = true then (some (wrap64 ((wrap64 (65536 * a0)) + a1))) else (some 0))) else (some 0))
set_option maxHeartbeats 8000000 in
set_option maxRecDepth 100000 in
theorem impl_ResultOf.calls (a0 : Int) (a1 : Int) (r : Int) (w : World) (h : impl_ResultOf.f a0 a1 = some r) :
 Calls Try.prog 68 #[.int .i64 a0, .int .i64 a1] w fun e w' => e = .returned (.int .i64 r) ∧ Drawn0 w w' := by
 have H : ((impl_within.f a0 0 5).bind fun t141 => (if t141 = true then ((impl_within.f a1 0 65535).bind fun t142 => (if t142 = true then (some (wrap64 ((wrap64 (65536 * a0)) + a1))) else (some 0))) else (some 0))) = some r := h
 clear h;replace H := bE H;obtain ⟨t141, A3, H⟩ := H;by_cases c4 : t141 = true
 ·subst c4;replace H := iT H;replace H := bE H;obtain ⟨t142, A5, H⟩ := H;by_cases c6 : t142 = true
  ·subst c6;replace H := iT H;obtain rfl := Option.some.inj H;go_enter Try.func68, Try.ntmps68
   go_wp2_with (first|((with_reducible refine gF 115 ?_);refine goZ (some 6) Try.func115 #[.int .i64 a0, .int .i64 0, .int .i64 5] ?_;(with_reducible refine (impl_within.calls a0 0 5 true _ A3.out).mono ?_);rintro e w' ⟨rfl, ⟨nd, rfl⟩⟩;refine ⟨_, rfl, ?_⟩)|(go_at_call 115;(with_reducible refine (impl_within.calls a1 0 65535 true _ A5.out).mono ?_);rintro e w' ⟨rfl, ⟨nd, rfl⟩⟩))
   go_ret
   exact ⟨by first | rfl | (simp; done) | (simp [*]; done), by repeat (first | exact Drawn0.refl _ | apply Drawn0.step)⟩
  ·replace c6 := Bool.eq_false_iff.mpr c6;subst c6;replace H := iF H;obtain rfl := Option.some.inj H;go_enter Try.func68, Try.ntmps68
   go_wp2_with (first|((with_reducible refine gF 115 ?_);refine goZ (some 6) Try.func115 #[.int .i64 a0, .int .i64 0, .int .i64 5] ?_;(with_reducible refine (impl_within.calls a0 0 5 true _ A3.out).mono ?_);rintro e w' ⟨rfl, ⟨nd, rfl⟩⟩;refine ⟨_, rfl, ?_⟩)|(go_at_call 115;(with_reducible refine (impl_within.calls a1 0 65535 false _ A5.out).mono ?_);rintro e w' ⟨rfl, ⟨nd, rfl⟩⟩))
   go_ret
   exact ⟨by first | rfl | (simp; done) | (simp [*]; done), by repeat (first | exact Drawn0.refl _ | apply Drawn0.step)⟩
 ·replace c4 := Bool.eq_false_iff.mpr c4;subst c4;replace H := iF H;obtain rfl := Option.some.inj H;go_enter Try.func68, Try.ntmps68
  go_wp2_with (first|((with_reducible refine gF 115 ?_);refine goZ (some 6) Try.func115 #[.int .i64 a0, .int .i64 0, .int .i64 5] ?_;(with_reducible refine (impl_within.calls a0 0 5 false _ A3.out).mono ?_);rintro e w' ⟨rfl, ⟨nd, rfl⟩⟩;refine ⟨_, rfl, ?_⟩))
  go_ret
  exact ⟨by first | rfl | (simp; done) | (simp [*]; done), by repeat (first | exact Drawn0.refl _ | apply Drawn0.step)⟩
def impl_actionOk.f (a0 : Int) (a1 : Int) : Option (Bool) := (impl_within.f a0 0 5).bind fun t143 => (if t143 = true then ((impl_within.f a1 0 65535).bind fun t144 => (some t144)) else (some false))
set_option maxHeartbeats 8000000 in
set_option maxRecDepth 100000 in
theorem impl_actionOk.calls (a0 : Int) (a1 : Int) (r : Bool) (w : World) (h : impl_actionOk.f a0 a1 = some r) :
 Calls Try.prog 156 #[.int .i64 a0, .int .i64 a1] w fun e w' => e = .returned (.bool r) ∧ Drawn0 w w' := by
 have H : ((impl_within.f a0 0 5).bind fun t143 => (if t143 = true then ((impl_within.f a1 0 65535).bind fun t144 => (some t144)) else (some false))) = some r := h
 clear h;replace H := bE H;obtain ⟨t143, A3, H⟩ := H;by_cases c4 : t143 = true
 ·subst c4;replace H := iT H;replace H := bE H;obtain ⟨t144, A5, H⟩ := H;obtain rfl := Option.some.inj H;go_enter Try.func156, Try.ntmps156
  go_wp2_with (first|((with_reducible refine gF 115 ?_);refine goZ (some 6) Try.func115 #[.int .i64 a0, .int .i64 0, .int .i64 5] ?_;(with_reducible refine (impl_within.calls a0 0 5 true _ A3.out).mono ?_);rintro e w' ⟨rfl, ⟨nd, rfl⟩⟩;refine ⟨_, rfl, ?_⟩)|(go_at_call 115;(with_reducible refine (impl_within.calls a1 0 65535 t144 _ A5.out).mono ?_);rintro e w' ⟨rfl, ⟨nd, rfl⟩⟩))
  go_ret
  exact ⟨by first | rfl | (simp; done) | (simp [*]; done), by repeat (first | exact Drawn0.refl _ | apply Drawn0.step)⟩
 ·replace c4 := Bool.eq_false_iff.mpr c4;subst c4;replace H := iF H;obtain rfl := Option.some.inj H;go_enter Try.func156, Try.ntmps156
  go_wp2_with (first|((with_reducible refine gF 115 ?_);refine goZ (some 6) Try.func115 #[.int .i64 a0, .int .i64 0, .int .i64 5] ?_;(with_reducible refine (impl_within.calls a0 0 5 false _ A3.out).mono ?_);rintro e w' ⟨rfl, ⟨nd, rfl⟩⟩;refine ⟨_, rfl, ?_⟩))
  go_ret
  exact ⟨by first | rfl | (simp; done) | (simp [*]; done), by repeat (first | exact Drawn0.refl _ | apply Drawn0.step)⟩
mutual
def impl_ruleOk.l0 : Nat → List Int → Int → Int → List Int → List (S27) → Int → Int → Option (Bool)
  | 0, _, _, _, _, _, _, _ => none
  | k + 1, x8, x9, x10, x146000, x146001, x146002, x146003 => if x10 < x9 then (if 0 ≤ x10 then (if x10 < (x8.length : Int) then ((impl_HalfOk.f (rd x8 x10)).bind fun t147 => (if t147 = true then (if x10 > 0 then (if 0 ≤ (wrap64 (x10 - 1)) then (if (wrap64 (x10 - 1)) < (x146000.length : Int) then (if (rd x146000 (wrap64 (x10 - 1))) ≥ (rd x8 x10) then (some false) else (impl_ruleOk.l0 k x8 x9 (wrap64 (x10 + 1)) x146000 x146001 x146002 x146003)) else (none)) else (none)) else (impl_ruleOk.l0 k x8 x9 (wrap64 (x10 + 1)) x146000 x146001 x146002 x146003)) else (some false))) else (none)) else (none)) else (impl_ruleOk.l1 k x146001 (x146001.length : Int) 0 x146000 x146001 x146002 x146003)
def impl_ruleOk.l1 : Nat → List (S27) → Int → Int → List Int → List (S27) → Int → Int → Option (Bool)
  | 0, _, _, _, _, _, _, _ => none
  | k + 1, x34, x35, x36, x146000, x146001, x146002, x146003 => if x36 < x35 then (if 0 ≤ x36 then (if x36 < (x34.length : Int) then ((impl_CondOk.f ((rd_T27 x34 x36).f0) ((rd_T27 x34 x36).f1.f0) ((rd_T27 x34 x36).f1.f1) ((rd_T27 x34 x36).f2) ((rd_T27 x34 x36).f3.f0) ((rd_T27 x34 x36).f3.f1)).bind fun t151 => (if t151 = true then (impl_ruleOk.l1 k x34 x35 (wrap64 (x36 + 1)) x146000 x146001 x146002 x146003) else (some false))) else (none)) else (none)) else (if (x146000.length : Int) ≤ 4 then (if (x146001.length : Int) ≤ 3 then ((impl_actionOk.f x146002 x146003).bind fun t152 => (some t152)) else (some false)) else (some false))
end
def impl_ruleOk.f (k : Nat) (l0_0 : List Int) (l0_1 : List (S27)) (a0_2 : Int) (a0_3 : Int) : Option (Bool) := impl_ruleOk.l0 k l0_0 (l0_0.length : Int) 0 l0_0 l0_1 a0_2 a0_3
set_option maxHeartbeats 8000000 in
set_option maxRecDepth 100000 in
theorem impl_ruleOk.calls (k : Nat) (A0_0 : Option Addr) (c0_0 : Nat) (l0_0 : List Int) (A0_1 : Option Addr) (c0_1 : Nat) (l0_1 : List (S27)) (a0_2 : Int) (a0_3 : Int) (r : Bool) (w : World) (hr0_0 : Kd.C (Kd.int .i64) w A0_0 l0_0.length l0_0) (hc0_0 : l0_0.length ≤ c0_0) (hr0_1 : Kd.C k27 w A0_1 l0_1.length l0_1) (hc0_1 : l0_1.length ≤ c0_1) (h : impl_ruleOk.f k l0_0 l0_1 a0_2 a0_3 = some r) :
 Calls Try.prog 155 #[.agg #[.slice A0_0 l0_0.length c0_0, .slice A0_1 l0_1.length c0_1, .int .i64 a0_2, .int .i64 a0_3]] w fun e w' => e = .returned (.bool r) ∧ Below w.heap.size w w' := by
 have hu40 := Try.underlying40;have hu27 := Try.underlying27;have HR0_0 := Aside0.mk hr0_0;have HC0_0 := Aside0.mk hc0_0;clear hr0_0 hc0_0;have HR0_1 := Aside0.mk hr0_1;have HC0_1 := Aside0.mk hc0_1;clear hr0_1 hc0_1;have HB := Aside0.mk (Below.refl w.heap.size w);have H : (impl_ruleOk.l0 k l0_0 (l0_0.length : Int) 0 l0_0 l0_1 a0_2 a0_3) = some r := h;clear h;have H' := Aside0.mk H;clear H;go_enter Try.func155, Try.ntmps155
 go_wp2_with (first|((with_reducible refine gN 1 ?_);(try (refine gate_guard (by rfl) ?_; dsimp only));refine boxZ 1 #[.slice A0_0 l0_0.length c0_0, .slice A0_1 l0_1.length c0_1, .int .i64 a0_2, .int .i64 a0_3] 40 ?_;intro gb145 hg w2 hbox hb;have BK145 := Aside0.mk (hbox);have GW145 := gS hg;have GE145 := gS hg;replace HB := sB hb;clear hb hbox hg;obtain ⟨hcz3_0, hcz3_1, hcz3_2, hcz3_3, hfz3_0, hfz3_1, hfz3_2, hfz3_3⟩ := cz4 BK145))
 go_loopg [10] k (fun kq v10 w' => ∃ (x10_1 : Int), v10 = .int .i64 x10_1 ∧ Aside0 (impl_ruleOk.l0 kq l0_0 (l0_0.length : Int) x10_1 l0_0 l0_1 a0_2 a0_3 = some r) ∧ Aside0 (kq ≤ k) ∧ Aside0 (w'.heap[gb145]? = some (.cells #[(.slice A0_0 l0_0.length c0_0), (.slice A0_1 l0_1.length c0_1), .int .i64 a0_2, .int .i64 a0_3] 40 (0, 0))) ∧ Aside0 (Below w.heap.size w w'))
 case atStart => exact ⟨(0), rS, H', ⟨Nat.le_refl _⟩, ⟨mK BK145⟩, ⟨cB⟩⟩
 case round =>
  clear H';(try clear hcz3_0);(try clear hcz3_1);(try clear hcz3_2);(try clear hcz3_3);(try clear hfz3_0);(try clear hfz3_1);(try clear hfz3_2);(try clear hfz3_3);obtain ⟨x10_1, rfl, HA, HK1, BK145, HB⟩ := hrel
  cases gk with
  | zero => exact absurd HA.out (by simp [impl_ruleOk.l0])
  | succ k1 =>
   have H := HA.out;clear HA;simp only [impl_ruleOk.l0] at H;by_cases c4 : x10_1 < (l0_0.length : Int)
   ·rw [if_pos c4] at H;have c4b0 := decide_eq_true c4;clear c4;replace H := gD H;obtain ⟨c5b0, H⟩ := H;replace H := gD H;obtain ⟨c6b0, H⟩ := H;replace H := bE H;obtain ⟨t147, A7, H⟩ := H;by_cases c8 : t147 = true
    ·subst c8;replace H := iT H;by_cases c9 : x10_1 > 0
     ·rw [if_pos c9] at H;have c9b0 : decide (0 < x10_1) = true := decide_eq_true c9;clear c9;obtain ⟨ji10, hji10⟩ : ∃ j_ : Int, (wrap64 (x10_1 - 1)) = j_ := ⟨_, rfl⟩
      (first|rw [hji10] at H|simp only [hji10] at H)
      (try rw [hji10] at A7);have hji10w : (IntKind.i64.wrap (x10_1 - 1)) = ji10 := (i64_w _).trans hji10;replace H := gD H;obtain ⟨c11b0, H⟩ := H;replace H := gD H;obtain ⟨c12b0, H⟩ := H;by_cases c13 : (rd l0_0 (ji10)) ≥ (rd l0_0 x10_1)
      ·rw [if_pos c13] at H;have c13b0 : decide ((rd l0_0 x10_1) ≤ (rd l0_0 (ji10))) = true := decide_eq_true c13;clear c13;obtain rfl := Option.some.inj H;have p146 : 0 ≤ (x10_1 : Int) := dA;have q146 : x10_1 < (l0_0.length : Int) := dA;obtain ⟨ad146, e146, hx146_0⟩ := Kd.at_int HR0_0.out x10_1 p146 q146;cases e146;replace hx146_0 := bc HB hx146_0;replace p146 := eq_true p146;replace q146 := eq_true q146
       go_wp2_with (first|((with_reducible refine gF 129 ?_);refine goZ (some 16) Try.func129 #[.int .i64 (rd l0_0 x10_1)] ?_;(with_reducible refine (impl_HalfOk.calls (rd l0_0 x10_1) true _ A7.out).mono ?_);rintro e w' ⟨rfl, ⟨nd, rfl⟩⟩;refine ⟨_, rfl, ?_⟩;obtain ⟨hcz14_0, hcz14_1, hcz14_2, hcz14_3, hfz14_0, hfz14_1, hfz14_2, hfz14_3⟩ := cz4 BK145;have p148 : 0 ≤ ((ji10) : Int) := dA;have q148 : (ji10) < (l0_0.length : Int) := dA;obtain ⟨ad148, e148, hx148_0⟩ := Kd.at_int HR0_0.out (ji10) p148 q148;obtain rfl : ad146 = ad148 := (by injection e148);replace hx148_0 := bc HB hx148_0;replace p148 := eq_true p148;replace q148 := eq_true q148))
       go_ret
       exact ⟨by first | rfl | (simp [errW_none, errW_some] <;> rfl) | (simp only [← hji10]; first | rfl | (simp [errW_none, errW_some] <;> rfl)) | (simp [*, errW_none, errW_some] <;> rfl), cB⟩
      ·rw [if_neg c13] at H;have c13b0 : decide ((rd l0_0 x10_1) ≤ (rd l0_0 (ji10))) = false := decide_eq_false c13;clear c13;have H' := Aside0.mk H;clear H;have p146 : 0 ≤ (x10_1 : Int) := dA;have q146 : x10_1 < (l0_0.length : Int) := dA;obtain ⟨ad146, e146, hx146_0⟩ := Kd.at_int HR0_0.out x10_1 p146 q146;cases e146;replace hx146_0 := bc HB hx146_0;replace p146 := eq_true p146;replace q146 := eq_true q146
       go_wp2_with (first|((with_reducible refine gF 129 ?_);refine goZ (some 16) Try.func129 #[.int .i64 (rd l0_0 x10_1)] ?_;(with_reducible refine (impl_HalfOk.calls (rd l0_0 x10_1) true _ A7.out).mono ?_);rintro e w' ⟨rfl, ⟨nd, rfl⟩⟩;refine ⟨_, rfl, ?_⟩;obtain ⟨hcz15_0, hcz15_1, hcz15_2, hcz15_3, hfz15_0, hfz15_1, hfz15_2, hfz15_3⟩ := cz4 BK145;have p148 : 0 ≤ ((ji10) : Int) := dA;have q148 : (ji10) < (l0_0.length : Int) := dA;obtain ⟨ad148, e148, hx148_0⟩ := Kd.at_int HR0_0.out (ji10) p148 q148;obtain rfl : ad146 = ad148 := (by injection e148);replace hx148_0 := bc HB hx148_0;replace p148 := eq_true p148;replace q148 := eq_true q148))
       go_roundg k1
       case measure => have := HK1.out; omega
       case rel => exact ⟨(wrap64 (x10_1 + 1)), rS, H', ⟨by have := HK1.out; omega⟩, ⟨mK BK145⟩, ⟨cB⟩⟩
     ·rw [if_neg c9] at H;have c9b0 : decide (0 < x10_1) = false := decide_eq_false c9;clear c9;have H' := Aside0.mk H;clear H;have p146 : 0 ≤ (x10_1 : Int) := dA;have q146 : x10_1 < (l0_0.length : Int) := dA;obtain ⟨ad146, e146, hx146_0⟩ := Kd.at_int HR0_0.out x10_1 p146 q146;cases e146;replace hx146_0 := bc HB hx146_0;replace p146 := eq_true p146;replace q146 := eq_true q146
      go_wp2_with (first|((with_reducible refine gF 129 ?_);refine goZ (some 16) Try.func129 #[.int .i64 (rd l0_0 x10_1)] ?_;(with_reducible refine (impl_HalfOk.calls (rd l0_0 x10_1) true _ A7.out).mono ?_);rintro e w' ⟨rfl, ⟨nd, rfl⟩⟩;refine ⟨_, rfl, ?_⟩))
      go_roundg k1
      case measure => have := HK1.out; omega
      case rel => exact ⟨(wrap64 (x10_1 + 1)), rS, H', ⟨by have := HK1.out; omega⟩, ⟨mK BK145⟩, ⟨cB⟩⟩
    ·replace c8 := Bool.eq_false_iff.mpr c8;subst c8;replace H := iF H;obtain rfl := Option.some.inj H;have p146 : 0 ≤ (x10_1 : Int) := dA;have q146 : x10_1 < (l0_0.length : Int) := dA;obtain ⟨ad146, e146, hx146_0⟩ := Kd.at_int HR0_0.out x10_1 p146 q146;cases e146;replace hx146_0 := bc HB hx146_0;replace p146 := eq_true p146;replace q146 := eq_true q146
     go_wp2_with (first|((with_reducible refine gF 129 ?_);refine goZ (some 16) Try.func129 #[.int .i64 (rd l0_0 x10_1)] ?_;(with_reducible refine (impl_HalfOk.calls (rd l0_0 x10_1) false _ A7.out).mono ?_);rintro e w' ⟨rfl, ⟨nd, rfl⟩⟩;refine ⟨_, rfl, ?_⟩))
     go_ret;exact ⟨rE, cB⟩
   ·rw [if_neg c4] at H;have c4b0 := decide_eq_false c4;clear c4;have H' := Aside0.mk H;clear H;obtain ⟨hcz16_0, hcz16_1, hcz16_2, hcz16_3, hfz16_0, hfz16_1, hfz16_2, hfz16_3⟩ := cz4 BK145;go_wp2
    go_loopg [36] k1 (fun kq v36 w' => ∃ (x36_2 : Int), v36 = .int .i64 x36_2 ∧ Aside0 (impl_ruleOk.l1 kq l0_1 (l0_1.length : Int) x36_2 l0_0 l0_1 a0_2 a0_3 = some r) ∧ Aside0 (kq ≤ k1) ∧ Aside0 (w'.heap[gb145]? = some (.cells #[(.slice A0_0 l0_0.length c0_0), (.slice A0_1 l0_1.length c0_1), .int .i64 a0_2, .int .i64 a0_3] 40 (0, 0))) ∧ Aside0 (Below w.heap.size w w'))
    case atStart => exact ⟨(0), rS, H', ⟨Nat.le_refl _⟩, ⟨mK BK145⟩, ⟨cB⟩⟩
    case round =>
     clear H';(try clear c4);(try clear c4b0);(try clear c5);(try clear c5b0);(try clear c6);(try clear c6b0);(try clear c8);(try clear c9);(try clear c9b0);(try clear c11);(try clear c11b0);(try clear c12);(try clear c12b0);(try clear c13);(try clear c13b0);(try clear hcz14_0);(try clear hcz14_1);(try clear hcz14_2);(try clear hcz14_3);(try clear hcz15_0);(try clear hcz15_1);(try clear hcz15_2);(try clear hcz15_3);(try clear hcz16_0);(try clear hcz16_1);(try clear hcz16_2);(try clear hcz16_3);(try clear hcz3_0);(try clear hcz3_1);(try clear hcz3_2);(try clear hcz3_3);(try clear hfz14_0);(try clear hfz14_1);(try clear hfz14_2);(try clear hfz14_3);(try clear hfz15_0);(try clear hfz15_1);(try clear hfz15_2);(try clear hfz15_3);(try clear hfz16_0);(try clear hfz16_1);(try clear hfz16_2);(try clear hfz16_3);(try clear hfz3_0);(try clear hfz3_1);(try clear hfz3_2);(try clear hfz3_3);(try clear hx146_0);(try clear hx148_0);(try clear p146);(try clear p148);(try clear q146);(try clear q148);obtain ⟨x36_2, rfl, HA, HK2, BK145, HB⟩ := hrel
     cases gk with
     | zero => exact absurd HA.out (by simp [impl_ruleOk.l1])
     | succ k2 =>
      have H := HA.out;clear HA;simp only [impl_ruleOk.l1] at H;by_cases c17 : x36_2 < (l0_1.length : Int)
      ·rw [if_pos c17] at H;have c17b0 := decide_eq_true c17;clear c17;replace H := gD H;obtain ⟨c18b0, H⟩ := H;replace H := gD H;obtain ⟨c19b0, H⟩ := H;replace H := bE H;obtain ⟨t151, A20, H⟩ := H;by_cases c21 : t151 = true
       ·subst c21;replace H := iT H;have H' := Aside0.mk H;clear H;have p149 : 0 ≤ (x36_2 : Int) := dA;have q149 : x36_2 < (l0_1.length : Int) := dA;obtain ⟨ad149, e149, hx149_0, hx149_1, hx149_2, hx149_3, hx149_4, hx149_5⟩ := at_T27 HR0_1.out x36_2 p149 q149;cases e149;replace hx149_0 := bc HB hx149_0;replace hx149_1 := bc HB hx149_1;replace hx149_2 := bc HB hx149_2;replace hx149_3 := bc HB hx149_3;replace hx149_4 := bc HB hx149_4;replace hx149_5 := bc HB hx149_5;replace p149 := eq_true p149;replace q149 := eq_true q149
        go_wp2_with (first|((with_reducible refine gN 6 ?_);(try (refine gate_guard (by rfl) ?_; dsimp only));refine boxZ 6 #[.int .i64 0, .int .i64 0, .int .i64 0, .int .i64 0, .int .i64 0, .int .i64 0] 27 ?_;intro gb150 hg w22 hbox hb;have BK150 := Aside0.mk (hbox);have GW150 := gS hg;have GE150 := gS hg;replace HB := sB hb;have NB145_150 := nL hg BK145;have NB150_145 := nG hg BK145;replace BK145 := kB BK145 hb;clear hb hbox hg;have hnb23 := NB150_145.out;have hnc23 := NB145_150.out;obtain ⟨hcz24_0, hcz24_1, hcz24_2, hcz24_3, hcz24_4, hcz24_5, hfz24_0, hfz24_1, hfz24_2, hfz24_3, hfz24_4, hfz24_5⟩ := cz6 BK150)|((with_reducible refine gF 25 ?_);refine goZ (some 41) Try.func25 #[.agg #[.int .i64 ((rd_T27 l0_1 x36_2).f0), .int .i64 ((rd_T27 l0_1 x36_2).f1.f0), .int .i64 ((rd_T27 l0_1 x36_2).f1.f1), .int .i64 ((rd_T27 l0_1 x36_2).f2), .int .i64 ((rd_T27 l0_1 x36_2).f3.f0), .int .i64 ((rd_T27 l0_1 x36_2).f3.f1)]] ?_;(with_reducible refine (impl_CondOk.calls ((rd_T27 l0_1 x36_2).f0) ((rd_T27 l0_1 x36_2).f1.f0) ((rd_T27 l0_1 x36_2).f1.f1) ((rd_T27 l0_1 x36_2).f2) ((rd_T27 l0_1 x36_2).f3.f0) ((rd_T27 l0_1 x36_2).f3.f1) true _ A20.out).mono ?_);rintro e w25 ⟨rfl, hb⟩;refine ⟨_, rfl, ?_⟩;replace BK145 := kB BK145 hb;replace BK150 := kP BK150 hb (.cells #[.int .i64 ((rd_T27 l0_1 x36_2).f0), .int .i64 ((rd_T27 l0_1 x36_2).f1.f0), .int .i64 ((rd_T27 l0_1 x36_2).f1.f1), .int .i64 ((rd_T27 l0_1 x36_2).f2), .int .i64 ((rd_T27 l0_1 x36_2).f3.f0), .int .i64 ((rd_T27 l0_1 x36_2).f3.f1)] 27 (0, 0));replace HB := sB hb;(try clear hb)))
        go_roundg k2
        case measure => have := HK1.out; have := HK2.out; omega
        case rel => exact ⟨(wrap64 (x36_2 + 1)), rS, H', ⟨by have := HK1.out; have := HK2.out; omega⟩, ⟨mK BK145⟩, ⟨cB⟩⟩
       ·replace c21 := Bool.eq_false_iff.mpr c21;subst c21;replace H := iF H;obtain rfl := Option.some.inj H;have p149 : 0 ≤ (x36_2 : Int) := dA;have q149 : x36_2 < (l0_1.length : Int) := dA;obtain ⟨ad149, e149, hx149_0, hx149_1, hx149_2, hx149_3, hx149_4, hx149_5⟩ := at_T27 HR0_1.out x36_2 p149 q149;cases e149;replace hx149_0 := bc HB hx149_0;replace hx149_1 := bc HB hx149_1;replace hx149_2 := bc HB hx149_2;replace hx149_3 := bc HB hx149_3;replace hx149_4 := bc HB hx149_4;replace hx149_5 := bc HB hx149_5;replace p149 := eq_true p149;replace q149 := eq_true q149
        go_wp2_with (first|((with_reducible refine gN 6 ?_);(try (refine gate_guard (by rfl) ?_; dsimp only));refine boxZ 6 #[.int .i64 0, .int .i64 0, .int .i64 0, .int .i64 0, .int .i64 0, .int .i64 0] 27 ?_;intro gb150 hg w26 hbox hb;have BK150 := Aside0.mk (hbox);have GW150 := gS hg;have GE150 := gS hg;replace HB := sB hb;have NB145_150 := nL hg BK145;have NB150_145 := nG hg BK145;replace BK145 := kB BK145 hb;clear hb hbox hg;have hnb27 := NB150_145.out;have hnc27 := NB145_150.out;obtain ⟨hcz28_0, hcz28_1, hcz28_2, hcz28_3, hcz28_4, hcz28_5, hfz28_0, hfz28_1, hfz28_2, hfz28_3, hfz28_4, hfz28_5⟩ := cz6 BK150)|((with_reducible refine gF 25 ?_);refine goZ (some 41) Try.func25 #[.agg #[.int .i64 ((rd_T27 l0_1 x36_2).f0), .int .i64 ((rd_T27 l0_1 x36_2).f1.f0), .int .i64 ((rd_T27 l0_1 x36_2).f1.f1), .int .i64 ((rd_T27 l0_1 x36_2).f2), .int .i64 ((rd_T27 l0_1 x36_2).f3.f0), .int .i64 ((rd_T27 l0_1 x36_2).f3.f1)]] ?_;(with_reducible refine (impl_CondOk.calls ((rd_T27 l0_1 x36_2).f0) ((rd_T27 l0_1 x36_2).f1.f0) ((rd_T27 l0_1 x36_2).f1.f1) ((rd_T27 l0_1 x36_2).f2) ((rd_T27 l0_1 x36_2).f3.f0) ((rd_T27 l0_1 x36_2).f3.f1) false _ A20.out).mono ?_);rintro e w29 ⟨rfl, hb⟩;refine ⟨_, rfl, ?_⟩;replace BK145 := kB BK145 hb;replace BK150 := kP BK150 hb (.cells #[.int .i64 ((rd_T27 l0_1 x36_2).f0), .int .i64 ((rd_T27 l0_1 x36_2).f1.f0), .int .i64 ((rd_T27 l0_1 x36_2).f1.f1), .int .i64 ((rd_T27 l0_1 x36_2).f2), .int .i64 ((rd_T27 l0_1 x36_2).f3.f0), .int .i64 ((rd_T27 l0_1 x36_2).f3.f1)] 27 (0, 0));replace HB := sB hb;(try clear hb)))
        go_ret;exact ⟨rE, cB⟩
      ·rw [if_neg c17] at H;have c17b0 := decide_eq_false c17;clear c17;by_cases c30 : (l0_0.length : Int) ≤ 4
       ·rw [if_pos c30] at H;have c30b0 := decide_eq_true c30
        have c30b1 : decide (l0_0.length ≤ 4) = true := decide_eq_true (by omega)
        clear c30;by_cases c31 : (l0_1.length : Int) ≤ 3
        ·rw [if_pos c31] at H;have c31b0 := decide_eq_true c31
         have c31b1 : decide (l0_1.length ≤ 3) = true := decide_eq_true (by omega)
         clear c31;replace H := bE H;obtain ⟨t152, A32, H⟩ := H;obtain rfl := Option.some.inj H;obtain ⟨hcz33_0, hcz33_1, hcz33_2, hcz33_3, hfz33_0, hfz33_1, hfz33_2, hfz33_3⟩ := cz4 BK145
         go_wp2_with (first|(go_at_call 156;(with_reducible refine (impl_actionOk.calls a0_2 a0_3 t152 _ A32.out).mono ?_);rintro e w' ⟨rfl, ⟨nd, rfl⟩⟩))
         go_ret;exact ⟨rE, cB⟩
        ·rw [if_neg c31] at H;have c31b0 := decide_eq_false c31
         have c31b1 : decide (l0_1.length ≤ 3) = false := decide_eq_false (by omega)
         clear c31;obtain rfl := Option.some.inj H;obtain ⟨hcz34_0, hcz34_1, hcz34_2, hcz34_3, hfz34_0, hfz34_1, hfz34_2, hfz34_3⟩ := cz4 BK145;go_wp2;go_ret;exact ⟨rE, cB⟩
       ·rw [if_neg c30] at H;have c30b0 := decide_eq_false c30
        have c30b1 : decide (l0_0.length ≤ 4) = false := decide_eq_false (by omega)
        clear c30;obtain rfl := Option.some.inj H;obtain ⟨hcz35_0, hcz35_1, hcz35_2, hcz35_3, hfz35_0, hfz35_1, hfz35_2, hfz35_3⟩ := cz4 BK145;go_wp2;go_ret;exact ⟨rE, cB⟩
end Go.Proofs.Ytfmilhpneelonaa.PFnExactDecide
