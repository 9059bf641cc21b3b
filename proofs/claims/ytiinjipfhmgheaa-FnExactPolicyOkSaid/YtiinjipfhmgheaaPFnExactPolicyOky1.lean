import Derived.Test.YtiinjipfhmgheaaPFnExactPolicyOky0
namespace Go.Proofs.Ytiinjipfhmgheaa.PFnExactPolicyOk
open Go.RowKit Go.Proofs.YtiinjipfhmgheaaW.PrintWords Go.Proofs.YtiinjipfhmgheaaW.PrintLast Go.Proofs.YtiinjipfhmgheaaW.PrintMore Go.Proofs.YtiinjipfhmgheaaW.Z
attribute [local go_sem] max2_int min2_int max_two min_two max_three min_three max_four min_four
set_option linter.unusedVariables false
set_option linter.unusedSimpArgs false
def laws_szIntS.f (l0 : List Int) (a1 : Int) : Option (Int) := if (wrap64 (a1 - (l0.length : Int))) < 0 then (some (-1)) else (some (wrap64 (a1 - (l0.length : Int))))
set_option maxHeartbeats 8000000 in
set_option maxRecDepth 100000 in
theorem laws_szIntS.calls (A0 : Option Addr) (c0 : Nat) (l0 : List Int) (a1 : Int) (r : Int) (w : World) (hr0 : Kd.C (Kd.int .i64) w A0 l0.length l0) (hc0 : l0.length ≤ c0) (h : laws_szIntS.f l0 a1 = some r) :
 Calls Try.prog 122 #[.slice A0 l0.length c0, .int .i64 a1] w fun e w' => e = .returned (.int .i64 r) ∧ Drawn0 w w' := by
 have HR0 := Aside0.mk hr0;have HC0 := Aside0.mk hc0;clear hr0 hc0;have H : (if (wrap64 (a1 - (l0.length : Int))) < 0 then (some (-1)) else (some (wrap64 (a1 - (l0.length : Int))))) = some r := h;clear h;by_cases c3 : (wrap64 (a1 - (l0.length : Int))) < 0
 ·rw [if_pos c3] at H;have c3b0 := decide_eq_true c3;clear c3;obtain rfl := Option.some.inj H;go_enter Try.func122, Try.ntmps122;go_wp2;go_ret
  exact ⟨by first | rfl | (simp; done) | (simp [*]; done), by repeat (first | exact Drawn0.refl _ | apply Drawn0.step)⟩
 ·rw [if_neg c3] at H;have c3b0 := decide_eq_false c3;clear c3;obtain rfl := Option.some.inj H;go_enter Try.func122, Try.ntmps122;go_wp2;go_ret
  exact ⟨by first | rfl | (simp; done) | (simp [*]; done), by repeat (first | exact Drawn0.refl _ | apply Drawn0.step)⟩
def laws_szCondS.f (l0 : List (S32)) (a1 : Int) : Option (Int) := if (wrap64 (a1 - (l0.length : Int))) < 0 then (some (-1)) else (some (wrap64 (a1 - (l0.length : Int))))
set_option maxHeartbeats 8000000 in
set_option maxRecDepth 100000 in
theorem laws_szCondS.calls (A0 : Option Addr) (c0 : Nat) (l0 : List (S32)) (a1 : Int) (r : Int) (w : World) (hr0 : Kd.C k32 w A0 l0.length l0) (hc0 : l0.length ≤ c0) (h : laws_szCondS.f l0 a1 = some r) :
 Calls Try.prog 123 #[.slice A0 l0.length c0, .int .i64 a1] w fun e w' => e = .returned (.int .i64 r) ∧ Drawn0 w w' := by
 have HR0 := Aside0.mk hr0;have HC0 := Aside0.mk hc0;clear hr0 hc0;have H : (if (wrap64 (a1 - (l0.length : Int))) < 0 then (some (-1)) else (some (wrap64 (a1 - (l0.length : Int))))) = some r := h;clear h;by_cases c3 : (wrap64 (a1 - (l0.length : Int))) < 0
 ·rw [if_pos c3] at H;have c3b0 := decide_eq_true c3;clear c3;obtain rfl := Option.some.inj H;go_enter Try.func123, Try.ntmps123;go_wp2;go_ret
  exact ⟨by first | rfl | (simp; done) | (simp [*]; done), by repeat (first | exact Drawn0.refl _ | apply Drawn0.step)⟩
 ·rw [if_neg c3] at H;have c3b0 := decide_eq_false c3;clear c3;obtain rfl := Option.some.inj H;go_enter Try.func123, Try.ntmps123;go_wp2;go_ret
  exact ⟨by first | rfl | (simp; done) | (simp [*]; done), by repeat (first | exact Drawn0.refl _ | apply Drawn0.step)⟩
def laws_szRule.f (l0_0 : List Int) (l0_1 : List (S32)) (a0_2 : Int) (a0_3 : Int) (a1 : Int) : Option (Int) := (laws_szIntS.f l0_0 a1).bind fun t102 => (if t102 < 0 then (some (-1)) else ((laws_szCondS.f l0_1 t102).bind fun t103 => (if t103 < 0 then (some (-1)) else (some t103))))
set_option maxHeartbeats 8000000 in
set_option maxRecDepth 100000 in
theorem laws_szRule.calls (A0_0 : Option Addr) (c0_0 : Nat) (l0_0 : List Int) (A0_1 : Option Addr) (c0_1 : Nat) (l0_1 : List (S32)) (a0_2 : Int) (a0_3 : Int) (a1 : Int) (r : Int) (w : World) (hr0_0 : Kd.C (Kd.int .i64) w A0_0 l0_0.length l0_0) (hc0_0 : l0_0.length ≤ c0_0) (hr0_1 : Kd.C k32 w A0_1 l0_1.length l0_1) (hc0_1 : l0_1.length ≤ c0_1) (h : laws_szRule.f l0_0 l0_1 a0_2 a0_3 a1 = some r) :
 Calls Try.prog 62 #[.agg #[.slice A0_0 l0_0.length c0_0, .slice A0_1 l0_1.length c0_1, .int .i64 a0_2, .int .i64 a0_3], .int .i64 a1] w fun e w' => e = .returned (.int .i64 r) ∧ Below w.heap.size w w' := by
 have hu97 := Try.underlying97;have HR0_0 := Aside0.mk hr0_0;have HC0_0 := Aside0.mk hc0_0;clear hr0_0 hc0_0;have HR0_1 := Aside0.mk hr0_1;have HC0_1 := Aside0.mk hc0_1;clear hr0_1 hc0_1;have HB := Aside0.mk (Below.refl w.heap.size w)
 have H : ((laws_szIntS.f l0_0 a1).bind fun t102 => (if t102 < 0 then (some (-1)) else ((laws_szCondS.f l0_1 t102).bind fun t103 => (if t103 < 0 then (some (-1)) else (some t103))))) = some r := h
 clear h;replace H := bE H;obtain ⟨t102, A3, H⟩ := H;by_cases c4 : t102 < 0
 ·rw [if_pos c4] at H;have c4b0 := decide_eq_true c4;clear c4;obtain rfl := Option.some.inj H;go_enter Try.func62, Try.ntmps62
  go_wp2_with (first|((with_reducible refine gN 2 ?_);refine boxZ 2 #[.slice A0_0 l0_0.length c0_0, .slice A0_1 l0_1.length c0_1, .int .i64 a0_2, .int .i64 a0_3] 97 ?_;intro gb101 hg w5 hbox hb;have BK101 := Aside0.mk (hbox);have GW101 := gS hg;have GE101 := gS hg;replace HB := sB hb;clear hb hbox hg;obtain ⟨hcz6_0, hcz6_1, hcz6_2, hcz6_3, hfz6_0, hfz6_1, hfz6_2, hfz6_3⟩ := cz4 BK101)|((with_reducible refine gF 122 ?_);refine goZ (some 8) Try.func122 #[.slice A0_0 l0_0.length c0_0, .int .i64 a1] ?_;(with_reducible refine (laws_szIntS.calls _ _ l0_0 a1 t102 _ ?side1 ?side2 A3.out).mono ?_);(case side1 => exact cC (Kd.C_below HR0_0.out HB.out));(case side2 => exact HC0_0.out);rintro e w' ⟨rfl, ⟨nd, rfl⟩⟩;refine ⟨_, rfl, ?_⟩))
  go_ret;exact ⟨rE, cB⟩
 ·rw [if_neg c4] at H;have c4b0 := decide_eq_false c4;clear c4;replace H := bE H;obtain ⟨t103, A7, H⟩ := H;by_cases c8 : t103 < 0
  ·rw [if_pos c8] at H;have c8b0 := decide_eq_true c8;clear c8;obtain rfl := Option.some.inj H;go_enter Try.func62, Try.ntmps62
   go_wp2_with (first|((with_reducible refine gN 2 ?_);refine boxZ 2 #[.slice A0_0 l0_0.length c0_0, .slice A0_1 l0_1.length c0_1, .int .i64 a0_2, .int .i64 a0_3] 97 ?_;intro gb101 hg w9 hbox hb;have BK101 := Aside0.mk (hbox);have GW101 := gS hg;have GE101 := gS hg;replace HB := sB hb;clear hb hbox hg;obtain ⟨hcz10_0, hcz10_1, hcz10_2, hcz10_3, hfz10_0, hfz10_1, hfz10_2, hfz10_3⟩ := cz4 BK101)|((with_reducible refine gF 122 ?_);refine goZ (some 8) Try.func122 #[.slice A0_0 l0_0.length c0_0, .int .i64 a1] ?_;(with_reducible refine (laws_szIntS.calls _ _ l0_0 a1 t102 _ ?side1 ?side2 A3.out).mono ?_);(case side1 => exact cC (Kd.C_below HR0_0.out HB.out));(case side2 => exact HC0_0.out);rintro e w' ⟨rfl, ⟨nd, rfl⟩⟩;refine ⟨_, rfl, ?_⟩)|((with_reducible refine gF 123 ?_);refine goZ (some 14) Try.func123 #[.slice A0_1 l0_1.length c0_1, .int .i64 t102] ?_;(with_reducible refine (laws_szCondS.calls _ _ l0_1 t102 t103 _ ?side1 ?side2 A7.out).mono ?_);(case side1 => exact cC (Kd.C_below HR0_1.out cB));(case side2 => exact HC0_1.out);rintro e w' ⟨rfl, ⟨nd, rfl⟩⟩;refine ⟨_, rfl, ?_⟩))
   go_ret;exact ⟨rE, cB⟩
  ·rw [if_neg c8] at H;have c8b0 := decide_eq_false c8;clear c8;obtain rfl := Option.some.inj H;go_enter Try.func62, Try.ntmps62
   go_wp2_with (first|((with_reducible refine gN 2 ?_);refine boxZ 2 #[.slice A0_0 l0_0.length c0_0, .slice A0_1 l0_1.length c0_1, .int .i64 a0_2, .int .i64 a0_3] 97 ?_;intro gb101 hg w11 hbox hb;have BK101 := Aside0.mk (hbox);have GW101 := gS hg;have GE101 := gS hg;replace HB := sB hb;clear hb hbox hg;obtain ⟨hcz12_0, hcz12_1, hcz12_2, hcz12_3, hfz12_0, hfz12_1, hfz12_2, hfz12_3⟩ := cz4 BK101)|((with_reducible refine gF 122 ?_);refine goZ (some 8) Try.func122 #[.slice A0_0 l0_0.length c0_0, .int .i64 a1] ?_;(with_reducible refine (laws_szIntS.calls _ _ l0_0 a1 t102 _ ?side1 ?side2 A3.out).mono ?_);(case side1 => exact cC (Kd.C_below HR0_0.out HB.out));(case side2 => exact HC0_0.out);rintro e w' ⟨rfl, ⟨nd, rfl⟩⟩;refine ⟨_, rfl, ?_⟩)|((with_reducible refine gF 123 ?_);refine goZ (some 14) Try.func123 #[.slice A0_1 l0_1.length c0_1, .int .i64 t102] ?_;(with_reducible refine (laws_szCondS.calls _ _ l0_1 t102 t103 _ ?side1 ?side2 A7.out).mono ?_);(case side1 => exact cC (Kd.C_below HR0_1.out cB));(case side2 => exact HC0_1.out);rintro e w' ⟨rfl, ⟨nd, rfl⟩⟩;refine ⟨_, rfl, ?_⟩))
   go_ret;exact ⟨rE, cB⟩
def laws_szRuleS.l0 : Nat → List (S97) → Int → Int → Option (Int)
  | 0, _, _, _ => none
  | k + 1, x0, x1, x5 => if x5 < (x0.length : Int) then (if 0 ≤ x5 then ((laws_szRule.f ((rd_T97 x0 x5).f0) ((rd_T97 x0 x5).f1) ((rd_T97 x0 x5).f2) ((rd_T97 x0 x5).f3) x1).bind fun t105 => (if t105 < 0 then (some (-1)) else (laws_szRuleS.l0 k x0 t105 (wrap64 (x5 + 1))))) else (none)) else (some x1)
def laws_szRuleS.f (k : Nat) (l0 : List (S97)) (a1 : Int) : Option (Int) := if (wrap64 (a1 - (l0.length : Int))) < 0 then (some (-1)) else (laws_szRuleS.l0 k l0 (wrap64 (a1 - (l0.length : Int))) 0)
set_option maxHeartbeats 8000000 in
set_option maxRecDepth 100000 in
theorem laws_szRuleS.calls (k : Nat) (A0 : Option Addr) (c0 : Nat) (l0 : List (S97)) (a1 : Int) (r : Int) (w : World) (hr0 : Kd.C k97 w A0 l0.length l0) (hc0 : l0.length ≤ c0) (h : laws_szRuleS.f k l0 a1 = some r) :
 Calls Try.prog 109 #[.slice A0 l0.length c0, .int .i64 a1] w fun e w' => e = .returned (.int .i64 r) ∧ Below w.heap.size w w' := by
 have hu97 := Try.underlying97;have HR0 := Aside0.mk hr0;have HC0 := Aside0.mk hc0;clear hr0 hc0;have HB := Aside0.mk (Below.refl w.heap.size w);have H : (if (wrap64 (a1 - (l0.length : Int))) < 0 then (some (-1)) else (laws_szRuleS.l0 k l0 (wrap64 (a1 - (l0.length : Int))) 0)) = some r := h;clear h;by_cases c3 : (wrap64 (a1 - (l0.length : Int))) < 0
 ·rw [if_pos c3] at H;have c3b0 := decide_eq_true c3;clear c3;obtain rfl := Option.some.inj H;go_enter Try.func109, Try.ntmps109;go_wp2;go_ret;exact ⟨rE, cB⟩
 ·rw [if_neg c3] at H;have c3b0 := decide_eq_false c3;clear c3;have H' := Aside0.mk H;clear H;go_enter Try.func109, Try.ntmps109;go_wp2
  go_loopg [1, 5] k (fun kq v1 v5 w' => ∃ (x1_1 : Int) (x5_1 : Int), v1 = .int .i64 x1_1 ∧ v5 = .int .i64 x5_1 ∧ Aside0 (laws_szRuleS.l0 kq l0 x1_1 x5_1 = some r) ∧ Aside0 (kq ≤ k) ∧ Aside0 (Below w.heap.size w w'))
  case atStart => exact ⟨(wrap64 (a1 - (l0.length : Int))), (0), rS, rS, H', ⟨Nat.le_refl _⟩, ⟨cB⟩⟩
  case round =>
   clear H';(try clear c3);(try clear c3b0);obtain ⟨x1_1, x5_1, rfl, rfl, HA, HK1, HB⟩ := hrel
   cases gk with
   | zero => exact absurd HA.out (by simp [laws_szRuleS.l0])
   | succ k1 =>
    have H := HA.out;clear HA;simp only [laws_szRuleS.l0] at H;by_cases c4 : x5_1 < (l0.length : Int)
    ·rw [if_pos c4] at H;have c4b0 := decide_eq_true c4;clear c4;replace H := gD H;obtain ⟨c5b0, H⟩ := H;replace H := bE H;obtain ⟨t105, A6, H⟩ := H;by_cases c7 : t105 < 0
     ·rw [if_pos c7] at H;have c7b0 := decide_eq_true c7;clear c7;obtain rfl := Option.some.inj H;have p104 : 0 ≤ (x5_1 : Int) := dA;have q104 : x5_1 < (l0.length : Int) := dA;obtain ⟨ad104, A104_0, c104_0, A104_1, c104_1, e104, hx104_0, hx104_1, hx104_2, hx104_3, hl104_0, hi104_0, hl104_1, hi104_1⟩ := at_T97 HR0.out x5_1 p104 q104;cases e104;replace hx104_0 := bc HB hx104_0;replace hx104_1 := bc HB hx104_1;replace hx104_2 := bc HB hx104_2;replace hx104_3 := bc HB hx104_3;have HR104_0 := Aside0.mk hi104_0;have HC104_0 := Aside0.mk hl104_0;clear hi104_0 hl104_0;have HR104_1 := Aside0.mk hi104_1;have HC104_1 := Aside0.mk hl104_1;clear hi104_1 hl104_1;replace p104 := eq_true p104;replace q104 := eq_true q104
      go_wp2_with (first|((with_reducible refine gF 62 ?_);refine goZ (some 23) Try.func62 #[.agg #[.slice A104_0 ((rd_T97 l0 x5_1).f0).length c104_0, .slice A104_1 ((rd_T97 l0 x5_1).f1).length c104_1, .int .i64 ((rd_T97 l0 x5_1).f2), .int .i64 ((rd_T97 l0 x5_1).f3)], .int .i64 x1_1] ?_;(with_reducible refine (laws_szRule.calls _ _ ((rd_T97 l0 x5_1).f0) _ _ ((rd_T97 l0 x5_1).f1) ((rd_T97 l0 x5_1).f2) ((rd_T97 l0 x5_1).f3) x1_1 t105 _ ?side1 ?side2 ?side3 ?side4 A6.out).mono ?_);(case side1 => exact cC (Kd.C_below HR104_0.out HB.out));(case side2 => exact HC104_0.out);(case side3 => exact cC (Kd.C_below HR104_1.out HB.out));(case side4 => exact HC104_1.out);rintro e w8 ⟨rfl, hb⟩;refine ⟨_, rfl, ?_⟩;replace HB := sB hb;(try clear hb)))
      go_ret;exact ⟨rE, cB⟩
     ·rw [if_neg c7] at H;have c7b0 := decide_eq_false c7;clear c7;have H' := Aside0.mk H;clear H;have p104 : 0 ≤ (x5_1 : Int) := dA;have q104 : x5_1 < (l0.length : Int) := dA;obtain ⟨ad104, A104_0, c104_0, A104_1, c104_1, e104, hx104_0, hx104_1, hx104_2, hx104_3, hl104_0, hi104_0, hl104_1, hi104_1⟩ := at_T97 HR0.out x5_1 p104 q104;cases e104;replace hx104_0 := bc HB hx104_0;replace hx104_1 := bc HB hx104_1;replace hx104_2 := bc HB hx104_2;replace hx104_3 := bc HB hx104_3;have HR104_0 := Aside0.mk hi104_0;have HC104_0 := Aside0.mk hl104_0;clear hi104_0 hl104_0;have HR104_1 := Aside0.mk hi104_1;have HC104_1 := Aside0.mk hl104_1;clear hi104_1 hl104_1;replace p104 := eq_true p104;replace q104 := eq_true q104
      go_wp2_with (first|((with_reducible refine gF 62 ?_);refine goZ (some 23) Try.func62 #[.agg #[.slice A104_0 ((rd_T97 l0 x5_1).f0).length c104_0, .slice A104_1 ((rd_T97 l0 x5_1).f1).length c104_1, .int .i64 ((rd_T97 l0 x5_1).f2), .int .i64 ((rd_T97 l0 x5_1).f3)], .int .i64 x1_1] ?_;(with_reducible refine (laws_szRule.calls _ _ ((rd_T97 l0 x5_1).f0) _ _ ((rd_T97 l0 x5_1).f1) ((rd_T97 l0 x5_1).f2) ((rd_T97 l0 x5_1).f3) x1_1 t105 _ ?side1 ?side2 ?side3 ?side4 A6.out).mono ?_);(case side1 => exact cC (Kd.C_below HR104_0.out HB.out));(case side2 => exact HC104_0.out);(case side3 => exact cC (Kd.C_below HR104_1.out HB.out));(case side4 => exact HC104_1.out);rintro e w9 ⟨rfl, hb⟩;refine ⟨_, rfl, ?_⟩;replace HB := sB hb;(try clear hb)))
      go_roundg k1
      case measure => have := HK1.out; omega
      case rel => exact ⟨(t105), (wrap64 (x5_1 + 1)), rS, rS, H', ⟨by have := HK1.out; omega⟩, ⟨cB⟩⟩
    ·rw [if_neg c4] at H;have c4b0 := decide_eq_false c4;clear c4;obtain rfl := Option.some.inj H;go_wp2;go_ret;exact ⟨rE, cB⟩
def laws_szPolicy.f (k : Nat) (a0_0 : Int) (a0_1 : Int) (a0_2 : Int) (l0_3 : List (S97)) (a1 : Int) : Option (Int) := (laws_szRuleS.f k l0_3 a1).bind fun t107 => (if t107 < 0 then (some (-1)) else (some t107))
set_option maxHeartbeats 8000000 in
set_option maxRecDepth 100000 in
theorem laws_szPolicy.calls (k : Nat) (a0_0 : Int) (a0_1 : Int) (a0_2 : Int) (A0_3 : Option Addr) (c0_3 : Nat) (l0_3 : List (S97)) (a1 : Int) (r : Int) (w : World) (hr0_3 : Kd.C k97 w A0_3 l0_3.length l0_3) (hc0_3 : l0_3.length ≤ c0_3) (h : laws_szPolicy.f k a0_0 a0_1 a0_2 l0_3 a1 = some r) :
 Calls Try.prog 49 #[.agg #[.int .i64 a0_0, .int .i64 a0_1, .int .i64 a0_2, .slice A0_3 l0_3.length c0_3], .int .i64 a1] w fun e w' => e = .returned (.int .i64 r) ∧ Below w.heap.size w w' := by
 have hu81 := Try.underlying81;have HR0_3 := Aside0.mk hr0_3;have HC0_3 := Aside0.mk hc0_3;clear hr0_3 hc0_3;have HB := Aside0.mk (Below.refl w.heap.size w)
 have H : ((laws_szRuleS.f k l0_3 a1).bind fun t107 => (if t107 < 0 then (some (-1)) else (some t107))) = some r := h
 clear h;replace H := bE H;obtain ⟨t107, A3, H⟩ := H;by_cases c4 : t107 < 0
 ·rw [if_pos c4] at H;have c4b0 := decide_eq_true c4;clear c4;obtain rfl := Option.some.inj H;go_enter Try.func49, Try.ntmps49
  go_wp2_with (first|((with_reducible refine gN 2 ?_);refine boxZ 2 #[.int .i64 a0_0, .int .i64 a0_1, .int .i64 a0_2, .slice A0_3 l0_3.length c0_3] 81 ?_;intro gb106 hg w5 hbox hb;have BK106 := Aside0.mk (hbox);have GW106 := gS hg;have GE106 := gS hg;replace HB := sB hb;clear hb hbox hg;obtain ⟨hcz6_0, hcz6_1, hcz6_2, hcz6_3, hfz6_0, hfz6_1, hfz6_2, hfz6_3⟩ := cz4 BK106)|((with_reducible refine gF 109 ?_);refine goZ (some 8) Try.func109 #[.slice A0_3 l0_3.length c0_3, .int .i64 a1] ?_;(with_reducible refine (laws_szRuleS.calls k _ _ l0_3 a1 t107 _ ?side1 ?side2 A3.out).mono ?_);(case side1 => exact cC (Kd.C_below HR0_3.out HB.out));(case side2 => exact HC0_3.out);rintro e w7 ⟨rfl, hb⟩;refine ⟨_, rfl, ?_⟩;replace BK106 := kB BK106 hb;replace HB := sB hb;(try clear hb)))
  go_ret;exact ⟨rE, cB⟩
 ·rw [if_neg c4] at H;have c4b0 := decide_eq_false c4;clear c4;obtain rfl := Option.some.inj H;go_enter Try.func49, Try.ntmps49
  go_wp2_with (first|((with_reducible refine gN 2 ?_);refine boxZ 2 #[.int .i64 a0_0, .int .i64 a0_1, .int .i64 a0_2, .slice A0_3 l0_3.length c0_3] 81 ?_;intro gb106 hg w8 hbox hb;have BK106 := Aside0.mk (hbox);have GW106 := gS hg;have GE106 := gS hg;replace HB := sB hb;clear hb hbox hg;obtain ⟨hcz9_0, hcz9_1, hcz9_2, hcz9_3, hfz9_0, hfz9_1, hfz9_2, hfz9_3⟩ := cz4 BK106)|((with_reducible refine gF 109 ?_);refine goZ (some 8) Try.func109 #[.slice A0_3 l0_3.length c0_3, .int .i64 a1] ?_;(with_reducible refine (laws_szRuleS.calls k _ _ l0_3 a1 t107 _ ?side1 ?side2 A3.out).mono ?_);(case side1 => exact cC (Kd.C_below HR0_3.out HB.out));(case side2 => exact HC0_3.out);rintro e w10 ⟨rfl, hb⟩;refine ⟨_, rfl, ?_⟩;replace BK106 := kB BK106 hb;replace HB := sB hb;(try clear hb)))
  go_ret;exact ⟨rE, cB⟩
def spec_l01In.f (a0 : Int) (a1 : Int) (a2 : Int) : Option (Bool) := if a0 ≥ a1 then (some (decide (a0 ≤ a2))) else (some false)
set_option maxHeartbeats 8000000 in
set_option maxRecDepth 100000 in
theorem spec_l01In.calls (a0 : Int) (a1 : Int) (a2 : Int) (r : Bool) (w : World) (h : spec_l01In.f a0 a1 a2 = some r) :
 Calls Try.prog 93 #[.int .i64 a0, .int .i64 a1, .int .i64 a2] w fun e w' => e = .returned (.bool r) ∧ Drawn0 w w' := by
 have H : (if a0 ≥ a1 then (some (decide (a0 ≤ a2))) else (some false)) = some r := h;clear h;by_cases c4 : a0 ≥ a1
 ·rw [if_pos c4] at H;have c4b0 : decide (a1 ≤ a0) = true := decide_eq_true c4;clear c4;obtain rfl := Option.some.inj H;go_enter Try.func93, Try.ntmps93;go_wp2;go_ret
  exact ⟨by first | rfl | (simp; done) | (simp [*]; done), by repeat (first | exact Drawn0.refl _ | apply Drawn0.step)⟩
 ·rw [if_neg c4] at H;have c4b0 : decide (a1 ≤ a0) = false := decide_eq_false c4;clear c4;obtain rfl := Option.some.inj H;go_enter Try.func93, Try.ntmps93;go_wp2;go_ret
  exact ⟨by first | rfl | (simp; done) | (simp [*]; done), by repeat (first | exact Drawn0.refl _ | apply Drawn0.step)⟩
def spec_HalfOk.f (a0 : Int) : Option (Bool) := (spec_l01In.f a0 0 4294967295).bind fun t108 => (some t108)
set_option maxHeartbeats 8000000 in
set_option maxRecDepth 100000 in
theorem spec_HalfOk.calls (a0 : Int) (r : Bool) (w : World) (h : spec_HalfOk.f a0 = some r) :
 Calls Try.prog 101 #[.int .i64 a0] w fun e w' => e = .returned (.bool r) ∧ Drawn0 w w' := by
 have H : ((spec_l01In.f a0 0 4294967295).bind fun t108 => (some t108)) = some r := h
 clear h;replace H := bE H;obtain ⟨t108, A2, H⟩ := H;obtain rfl := Option.some.inj H;go_enter Try.func101, Try.ntmps101
 go_wp2_with (first|((with_reducible refine gF 93 ?_);refine goZ (some 4) Try.func93 #[.int .i64 a0, .int .i64 0, .int .i64 4294967295] ?_;(with_reducible refine (spec_l01In.calls a0 0 4294967295 t108 _ A2.out).mono ?_);rintro e w' ⟨rfl, ⟨nd, rfl⟩⟩;refine ⟨_, rfl, ?_⟩))
 go_ret
 exact ⟨by first | rfl | (simp; done) | (simp [*]; done), by repeat (first | exact Drawn0.refl _ | apply Drawn0.step)⟩
def spec_WideOk.f (a0_0 : Int) (a0_1 : Int) : Option (Bool) := (spec_HalfOk.f a0_0).bind fun t110 => (if t110 = true then ((spec_HalfOk.f a0_1).bind fun t111 => (some t111)) else (some false))
set_option maxHeartbeats 8000000 in
set_option maxRecDepth 100000 in
theorem spec_WideOk.calls (a0_0 : Int) (a0_1 : Int) (r : Bool) (w : World) (h : spec_WideOk.f a0_0 a0_1 = some r) :
 Calls Try.prog 140 #[.agg #[.int .i64 a0_0, .int .i64 a0_1]] w fun e w' => e = .returned (.bool r) ∧ Below w.heap.size w w' := by
 have hu38 := Try.underlying38;have HB := Aside0.mk (Below.refl w.heap.size w)
 have H : ((spec_HalfOk.f a0_0).bind fun t110 => (if t110 = true then ((spec_HalfOk.f a0_1).bind fun t111 => (some t111)) else (some false))) = some r := h
 clear h;replace H := bE H;obtain ⟨t110, A2, H⟩ := H;by_cases c3 : t110 = true
 ·subst c3;replace H := iT H;replace H := bE H;obtain ⟨t111, A4, H⟩ := H;obtain rfl := Option.some.inj H;go_enter Try.func140, Try.ntmps140
  go_wp2_with (first|((with_reducible refine gN 1 ?_);refine boxZ 1 #[.int .i64 a0_0, .int .i64 a0_1] 38 ?_;intro gb109 hg w5 hbox hb;have BK109 := Aside0.mk (hbox);have GW109 := gS hg;have GE109 := gS hg;replace HB := sB hb;clear hb hbox hg;obtain ⟨hcz6_0, hcz6_1, hfz6_0, hfz6_1⟩ := cz2 BK109)|((with_reducible refine gF 101 ?_);refine goZ (some 5) Try.func101 #[.int .i64 a0_0] ?_;(with_reducible refine (spec_HalfOk.calls a0_0 true _ A2.out).mono ?_);rintro e w' ⟨rfl, ⟨nd, rfl⟩⟩;refine ⟨_, rfl, ?_⟩)|(go_at_call 101;(with_reducible refine (spec_HalfOk.calls a0_1 t111 _ A4.out).mono ?_);rintro e w' ⟨rfl, ⟨nd, rfl⟩⟩))
  go_ret;exact ⟨rE, cB⟩
 ·replace c3 := Bool.eq_false_iff.mpr c3;subst c3;replace H := iF H;obtain rfl := Option.some.inj H;go_enter Try.func140, Try.ntmps140
  go_wp2_with (first|((with_reducible refine gN 1 ?_);refine boxZ 1 #[.int .i64 a0_0, .int .i64 a0_1] 38 ?_;intro gb109 hg w7 hbox hb;have BK109 := Aside0.mk (hbox);have GW109 := gS hg;have GE109 := gS hg;replace HB := sB hb;clear hb hbox hg;obtain ⟨hcz8_0, hcz8_1, hfz8_0, hfz8_1⟩ := cz2 BK109)|((with_reducible refine gF 101 ?_);refine goZ (some 5) Try.func101 #[.int .i64 a0_0] ?_;(with_reducible refine (spec_HalfOk.calls a0_0 false _ A2.out).mono ?_);rintro e w' ⟨rfl, ⟨nd, rfl⟩⟩;refine ⟨_, rfl, ?_⟩))
  go_ret;exact ⟨rE, cB⟩
def spec_CondOk.f (a0_0 : Int) (a0_1 : Int) (a0_2 : Int) (a0_3 : Int) (a0_4 : Int) (a0_5 : Int) : Option (Bool) := (spec_l01In.f a0_0 0 2).bind fun t113 => (if t113 = true then ((spec_WideOk.f a0_1 a0_2).bind fun t114 => (if t114 = true then ((spec_WideOk.f a0_4 a0_5).bind fun t115 => (if t115 = true then ((spec_l01In.f a0_3 1 6).bind fun t116 => (some t116)) else (some false))) else (some false))) else (some false))
set_option maxHeartbeats 8000000 in
set_option maxRecDepth 100000 in
theorem spec_CondOk.calls (a0_0 : Int) (a0_1 : Int) (a0_2 : Int) (a0_3 : Int) (a0_4 : Int) (a0_5 : Int) (r : Bool) (w : World) (h : spec_CondOk.f a0_0 a0_1 a0_2 a0_3 a0_4 a0_5 = some r) :
 Calls Try.prog 72 #[.agg #[.int .i64 a0_0, .int .i64 a0_1, .int .i64 a0_2, .int .i64 a0_3, .int .i64 a0_4, .int .i64 a0_5]] w fun e w' => e = .returned (.bool r) ∧ Below w.heap.size w w' := by
 have hu40 := Try.underlying40;have hu38 := Try.underlying38;have HB := Aside0.mk (Below.refl w.heap.size w)
 have H : ((spec_l01In.f a0_0 0 2).bind fun t113 => (if t113 = true then ((spec_WideOk.f a0_1 a0_2).bind fun t114 => (if t114 = true then ((spec_WideOk.f a0_4 a0_5).bind fun t115 => (if t115 = true then ((spec_l01In.f a0_3 1 6).bind fun t116 => (some t116)) else (some false))) else (some false))) else (some false))) = some r := h
 clear h;replace H := bE H;obtain ⟨t113, A2, H⟩ := H;by_cases c3 : t113 = true
 ·subst c3;replace H := iT H;replace H := bE H;obtain ⟨t114, A4, H⟩ := H;by_cases c5 : t114 = true
  ·subst c5;replace H := iT H;replace H := bE H;obtain ⟨t115, A6, H⟩ := H;by_cases c7 : t115 = true
   ·subst c7;replace H := iT H;replace H := bE H;obtain ⟨t116, A8, H⟩ := H;obtain rfl := Option.some.inj H;go_enter Try.func72, Try.ntmps72
    go_wp2_with (first|((with_reducible refine gN 1 ?_);refine boxZ 1 #[.int .i64 a0_0, .int .i64 a0_1, .int .i64 a0_2, .int .i64 a0_3, .int .i64 a0_4, .int .i64 a0_5] 40 ?_;intro gb112 hg w9 hbox hb;have BK112 := Aside0.mk (hbox);have GW112 := gS hg;have GE112 := gS hg;replace HB := sB hb;clear hb hbox hg;obtain ⟨hcz10_0, hcz10_1, hcz10_2, hcz10_3, hcz10_4, hcz10_5, hfz10_0, hfz10_1, hfz10_2, hfz10_3, hfz10_4, hfz10_5⟩ := cz6 BK112)|((with_reducible refine gF 93 ?_);refine goZ (some 5) Try.func93 #[.int .i64 a0_0, .int .i64 0, .int .i64 2] ?_;(with_reducible refine (spec_l01In.calls a0_0 0 2 true _ A2.out).mono ?_);rintro e w' ⟨rfl, ⟨nd, rfl⟩⟩;refine ⟨_, rfl, ?_⟩)|(go_at_call 140;(with_reducible refine (spec_WideOk.calls a0_1 a0_2 true _ A4.out).mono ?_);rintro e w11 ⟨rfl, hb⟩;replace BK112 := kB BK112 hb;replace HB := sB hb;(try clear hb);obtain ⟨hcz12_0, hcz12_1, hcz12_2, hcz12_3, hcz12_4, hcz12_5, hfz12_0, hfz12_1, hfz12_2, hfz12_3, hfz12_4, hfz12_5⟩ := cz6 BK112)|(go_at_call 140;(with_reducible refine (spec_WideOk.calls a0_4 a0_5 true _ A6.out).mono ?_);rintro e w13 ⟨rfl, hb⟩;replace BK112 := kB BK112 hb;replace HB := sB hb;(try clear hb);obtain ⟨hcz14_0, hcz14_1, hcz14_2, hcz14_3, hcz14_4, hcz14_5, hfz14_0, hfz14_1, hfz14_2, hfz14_3, hfz14_4, hfz14_5⟩ := cz6 BK112)|(go_at_call 93;(with_reducible refine (spec_l01In.calls a0_3 1 6 t116 _ A8.out).mono ?_);rintro e w' ⟨rfl, ⟨nd, rfl⟩⟩))
    go_ret;exact ⟨rE, cB⟩
   ·replace c7 := Bool.eq_false_iff.mpr c7;subst c7;replace H := iF H;obtain rfl := Option.some.inj H;go_enter Try.func72, Try.ntmps72
    go_wp2_with (first|((with_reducible refine gN 1 ?_);refine boxZ 1 #[.int .i64 a0_0, .int .i64 a0_1, .int .i64 a0_2, .int .i64 a0_3, .int .i64 a0_4, .int .i64 a0_5] 40 ?_;intro gb112 hg w15 hbox hb;have BK112 := Aside0.mk (hbox);have GW112 := gS hg;have GE112 := gS hg;replace HB := sB hb;clear hb hbox hg;obtain ⟨hcz16_0, hcz16_1, hcz16_2, hcz16_3, hcz16_4, hcz16_5, hfz16_0, hfz16_1, hfz16_2, hfz16_3, hfz16_4, hfz16_5⟩ := cz6 BK112)|((with_reducible refine gF 93 ?_);refine goZ (some 5) Try.func93 #[.int .i64 a0_0, .int .i64 0, .int .i64 2] ?_;(with_reducible refine (spec_l01In.calls a0_0 0 2 true _ A2.out).mono ?_);rintro e w' ⟨rfl, ⟨nd, rfl⟩⟩;refine ⟨_, rfl, ?_⟩)|(go_at_call 140;(with_reducible refine (spec_WideOk.calls a0_1 a0_2 true _ A4.out).mono ?_);rintro e w17 ⟨rfl, hb⟩;replace BK112 := kB BK112 hb;replace HB := sB hb;(try clear hb);obtain ⟨hcz18_0, hcz18_1, hcz18_2, hcz18_3, hcz18_4, hcz18_5, hfz18_0, hfz18_1, hfz18_2, hfz18_3, hfz18_4, hfz18_5⟩ := cz6 BK112)|(go_at_call 140;(with_reducible refine (spec_WideOk.calls a0_4 a0_5 false _ A6.out).mono ?_);rintro e w19 ⟨rfl, hb⟩;replace BK112 := kB BK112 hb;replace HB := sB hb;(try clear hb)))
    go_ret;exact ⟨rE, cB⟩
  ·replace c5 := Bool.eq_false_iff.mpr c5;subst c5;replace H := iF H;obtain rfl := Option.some.inj H;go_enter Try.func72, Try.ntmps72
   go_wp2_with (first|((with_reducible refine gN 1 ?_);refine boxZ 1 #[.int .i64 a0_0, .int .i64 a0_1, .int .i64 a0_2, .int .i64 a0_3, .int .i64 a0_4, .int .i64 a0_5] 40 ?_;intro gb112 hg w20 hbox hb;have BK112 := Aside0.mk (hbox);have GW112 := gS hg;have GE112 := gS hg;replace HB := sB hb;clear hb hbox hg;obtain ⟨hcz21_0, hcz21_1, hcz21_2, hcz21_3, hcz21_4, hcz21_5, hfz21_0, hfz21_1, hfz21_2, hfz21_3, hfz21_4, hfz21_5⟩ := cz6 BK112)|((with_reducible refine gF 93 ?_);refine goZ (some 5) Try.func93 #[.int .i64 a0_0, .int .i64 0, .int .i64 2] ?_;(with_reducible refine (spec_l01In.calls a0_0 0 2 true _ A2.out).mono ?_);rintro e w' ⟨rfl, ⟨nd, rfl⟩⟩;refine ⟨_, rfl, ?_⟩)|(go_at_call 140;(with_reducible refine (spec_WideOk.calls a0_1 a0_2 false _ A4.out).mono ?_);rintro e w22 ⟨rfl, hb⟩;replace BK112 := kB BK112 hb;replace HB := sB hb;(try clear hb)))
   go_ret;exact ⟨rE, cB⟩
 ·replace c3 := Bool.eq_false_iff.mpr c3;subst c3;replace H := iF H;obtain rfl := Option.some.inj H;go_enter Try.func72, Try.ntmps72
  go_wp2_with (first|((with_reducible refine gN 1 ?_);refine boxZ 1 #[.int .i64 a0_0, .int .i64 a0_1, .int .i64 a0_2, .int .i64 a0_3, .int .i64 a0_4, .int .i64 a0_5] 40 ?_;intro gb112 hg w23 hbox hb;have BK112 := Aside0.mk (hbox);have GW112 := gS hg;have GE112 := gS hg;replace HB := sB hb;clear hb hbox hg;obtain ⟨hcz24_0, hcz24_1, hcz24_2, hcz24_3, hcz24_4, hcz24_5, hfz24_0, hfz24_1, hfz24_2, hfz24_3, hfz24_4, hfz24_5⟩ := cz6 BK112)|((with_reducible refine gF 93 ?_);refine goZ (some 5) Try.func93 #[.int .i64 a0_0, .int .i64 0, .int .i64 2] ?_;(with_reducible refine (spec_l01In.calls a0_0 0 2 false _ A2.out).mono ?_);rintro e w' ⟨rfl, ⟨nd, rfl⟩⟩;refine ⟨_, rfl, ?_⟩))
  go_ret;exact ⟨rE, cB⟩
def spec_l09Act.f (a0 : Int) (a1 : Int) : Option (Bool) := (spec_l01In.f a0 0 5).bind fun t117 => (if t117 = true then ((spec_l01In.f a1 0 65535).bind fun t118 => (some t118)) else (some false))
set_option maxHeartbeats 8000000 in
set_option maxRecDepth 100000 in
theorem spec_l09Act.calls (a0 : Int) (a1 : Int) (r : Bool) (w : World) (h : spec_l09Act.f a0 a1 = some r) :
 Calls Try.prog 111 #[.int .i64 a0, .int .i64 a1] w fun e w' => e = .returned (.bool r) ∧ Drawn0 w w' := by
 have H : ((spec_l01In.f a0 0 5).bind fun t117 => (if t117 = true then ((spec_l01In.f a1 0 65535).bind fun t118 => (some t118)) else (some false))) = some r := h
 clear h;replace H := bE H;obtain ⟨t117, A3, H⟩ := H;by_cases c4 : t117 = true
 ·subst c4;replace H := iT H;replace H := bE H;obtain ⟨t118, A5, H⟩ := H;obtain rfl := Option.some.inj H;go_enter Try.func111, Try.ntmps111
  go_wp2_with (first|((with_reducible refine gF 93 ?_);refine goZ (some 6) Try.func93 #[.int .i64 a0, .int .i64 0, .int .i64 5] ?_;(with_reducible refine (spec_l01In.calls a0 0 5 true _ A3.out).mono ?_);rintro e w' ⟨rfl, ⟨nd, rfl⟩⟩;refine ⟨_, rfl, ?_⟩)|(go_at_call 93;(with_reducible refine (spec_l01In.calls a1 0 65535 t118 _ A5.out).mono ?_);rintro e w' ⟨rfl, ⟨nd, rfl⟩⟩))
  go_ret
  exact ⟨by first | rfl | (simp; done) | (simp [*]; done), by repeat (first | exact Drawn0.refl _ | apply Drawn0.step)⟩
 ·replace c4 := Bool.eq_false_iff.mpr c4;subst c4;replace H := iF H;obtain rfl := Option.some.inj H;go_enter Try.func111, Try.ntmps111
  go_wp2_with (first|((with_reducible refine gF 93 ?_);refine goZ (some 6) Try.func93 #[.int .i64 a0, .int .i64 0, .int .i64 5] ?_;(with_reducible refine (spec_l01In.calls a0 0 5 false _ A3.out).mono ?_);rintro e w' ⟨rfl, ⟨nd, rfl⟩⟩;refine ⟨_, rfl, ?_⟩))
  go_ret
  exact ⟨by first | rfl | (simp; done) | (simp [*]; done), by repeat (first | exact Drawn0.refl _ | apply Drawn0.step)⟩
end Go.Proofs.Ytiinjipfhmgheaa.PFnExactPolicyOk
