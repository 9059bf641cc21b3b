import Derived.Test.YtiinjipfhmgheaaPFnExactOfferedy0
namespace Go.Proofs.Ytiinjipfhmgheaa.PFnExactOffered
open Go.RowKit Go.Proofs.YtiinjipfhmgheaaW.PrintWords Go.Proofs.YtiinjipfhmgheaaW.PrintLast Go.Proofs.YtiinjipfhmgheaaW.PrintMore Go.Proofs.YtiinjipfhmgheaaW.Z
attribute [local go_sem] max2_int min2_int max_two min_two max_three min_three max_four min_four
set_option linter.unusedVariables false
set_option linter.unusedSimpArgs false
def laws_szItemS.f (l0 : List (S177)) (a1 : Int) : Option (Int) := if (wrap64 (a1 - (l0.length : Int))) < 0 then (some (-1)) else (some (wrap64 (a1 - (l0.length : Int))))
set_option maxHeartbeats 8000000 in
set_option maxRecDepth 100000 in
theorem laws_szItemS.calls (A0 : Option Addr) (c0 : Nat) (l0 : List (S177)) (a1 : Int) (r : Int) (w : World) (hr0 : Kd.C k177 w A0 l0.length l0) (hc0 : l0.length ≤ c0) (h : laws_szItemS.f l0 a1 = some r) :
 Calls Try.prog 98 #[.slice A0 l0.length c0, .int .i64 a1] w fun e w' => e = .returned (.int .i64 r) ∧ Drawn0 w w' := by
 have HR0 := Aside0.mk hr0;have HC0 := Aside0.mk hc0;clear hr0 hc0;have H : (if (wrap64 (a1 - (l0.length : Int))) < 0 then (some (-1)) else (some (wrap64 (a1 - (l0.length : Int))))) = some r := h;clear h;by_cases c3 : (wrap64 (a1 - (l0.length : Int))) < 0
 ·rw [if_pos c3] at H;have c3b0 := decide_eq_true c3;clear c3;obtain rfl := Option.some.inj H;go_enter Try.func98, Try.ntmps98;go_wp2;go_ret
  exact ⟨by first | rfl | (simp; done) | (simp [*]; done), by repeat (first | exact Drawn0.refl _ | apply Drawn0.step)⟩
 ·rw [if_neg c3] at H;have c3b0 := decide_eq_false c3;clear c3;obtain rfl := Option.some.inj H;go_enter Try.func98, Try.ntmps98;go_wp2;go_ret
  exact ⟨by first | rfl | (simp; done) | (simp [*]; done), by repeat (first | exact Drawn0.refl _ | apply Drawn0.step)⟩
def laws_szRing.f (l0_0 : List (S177)) (a0_1 : Int) (a0_2 : Int) (a0_3 : Int) (a1 : Int) : Option (Int) := (laws_szItemS.f l0_0 a1).bind fun t102 => (if t102 < 0 then (some (-1)) else (some t102))
set_option maxHeartbeats 8000000 in
set_option maxRecDepth 100000 in
theorem laws_szRing.calls (A0_0 : Option Addr) (c0_0 : Nat) (l0_0 : List (S177)) (a0_1 : Int) (a0_2 : Int) (a0_3 : Int) (a1 : Int) (r : Int) (w : World) (hr0_0 : Kd.C k177 w A0_0 l0_0.length l0_0) (hc0_0 : l0_0.length ≤ c0_0) (h : laws_szRing.f l0_0 a0_1 a0_2 a0_3 a1 = some r) :
 Calls Try.prog 42 #[.agg #[.slice A0_0 l0_0.length c0_0, .int .i64 a0_1, .int .i64 a0_2, .int .i64 a0_3], .int .i64 a1] w fun e w' => e = .returned (.int .i64 r) ∧ Below w.heap.size w w' := by
 have hu68 := Try.underlying68;have HR0_0 := Aside0.mk hr0_0;have HC0_0 := Aside0.mk hc0_0;clear hr0_0 hc0_0;have HB := Aside0.mk (Below.refl w.heap.size w)
 have H : ((laws_szItemS.f l0_0 a1).bind fun t102 => (if t102 < 0 then (some (-1)) else (some t102))) = some r := h
 clear h;replace H := bE H;obtain ⟨t102, A3, H⟩ := H;by_cases c4 : t102 < 0
 ·rw [if_pos c4] at H;have c4b0 := decide_eq_true c4;clear c4;obtain rfl := Option.some.inj H;go_enter Try.func42, Try.ntmps42
  go_wp2_with (first|((with_reducible refine gN 2 ?_);refine boxZ 2 #[.slice A0_0 l0_0.length c0_0, .int .i64 a0_1, .int .i64 a0_2, .int .i64 a0_3] 68 ?_;intro gb101 hg w5 hbox hb;have BK101 := Aside0.mk (hbox);have GW101 := gS hg;have GE101 := gS hg;replace HB := sB hb;clear hb hbox hg;obtain ⟨hcz6_0, hcz6_1, hcz6_2, hcz6_3, hfz6_0, hfz6_1, hfz6_2, hfz6_3⟩ := cz4 BK101)|((with_reducible refine gF 98 ?_);refine goZ (some 8) Try.func98 #[.slice A0_0 l0_0.length c0_0, .int .i64 a1] ?_;(with_reducible refine (laws_szItemS.calls _ _ l0_0 a1 t102 _ ?side1 ?side2 A3.out).mono ?_);(case side1 => exact cC (Kd.C_below HR0_0.out HB.out));(case side2 => exact HC0_0.out);rintro e w' ⟨rfl, ⟨nd, rfl⟩⟩;refine ⟨_, rfl, ?_⟩))
  go_ret;exact ⟨rE, cB⟩
 ·rw [if_neg c4] at H;have c4b0 := decide_eq_false c4;clear c4;obtain rfl := Option.some.inj H;go_enter Try.func42, Try.ntmps42
  go_wp2_with (first|((with_reducible refine gN 2 ?_);refine boxZ 2 #[.slice A0_0 l0_0.length c0_0, .int .i64 a0_1, .int .i64 a0_2, .int .i64 a0_3] 68 ?_;intro gb101 hg w7 hbox hb;have BK101 := Aside0.mk (hbox);have GW101 := gS hg;have GE101 := gS hg;replace HB := sB hb;clear hb hbox hg;obtain ⟨hcz8_0, hcz8_1, hcz8_2, hcz8_3, hfz8_0, hfz8_1, hfz8_2, hfz8_3⟩ := cz4 BK101)|((with_reducible refine gF 98 ?_);refine goZ (some 8) Try.func98 #[.slice A0_0 l0_0.length c0_0, .int .i64 a1] ?_;(with_reducible refine (laws_szItemS.calls _ _ l0_0 a1 t102 _ ?side1 ?side2 A3.out).mono ?_);(case side1 => exact cC (Kd.C_below HR0_0.out HB.out));(case side2 => exact HC0_0.out);rintro e w' ⟨rfl, ⟨nd, rfl⟩⟩;refine ⟨_, rfl, ?_⟩))
  go_ret;exact ⟨rE, cB⟩
def spec_l16Copy.f (l0_0 : List (S141)) (a0_1 : Int) (a0_2 : Int) (a0_3 : Int) : Option ((List (S141)) × Int × Int × Int) := (some (([] : List (S141)) : List (S141))).bind fun y106 => (if y106.length + l0_0.length < 4398046511104 then (some ((y106 ++ l0_0), a0_1, a0_2, a0_3)) else (none))
set_option maxHeartbeats 8000000 in
set_option maxRecDepth 100000 in
theorem spec_l16Copy.calls (A0_0 : Option Addr) (c0_0 : Nat) (l0_0 : List (S141)) (a0_1 : Int) (a0_2 : Int) (a0_3 : Int) (r1 : List (S141)) (r2 : Int) (r3 : Int) (r4 : Int) (w : World) (hr0_0 : Kd.C k141 w A0_0 l0_0.length l0_0) (hc0_0 : l0_0.length ≤ c0_0) (h : spec_l16Copy.f l0_0 a0_1 a0_2 a0_3 = some (r1, r2, r3, r4)) :
 Calls Try.prog 99 #[.agg #[.slice A0_0 l0_0.length c0_0, .int .i64 a0_1, .int .i64 a0_2, .int .i64 a0_3]] w fun e w' => ∃ v0_ : Value, e = .returned (.agg #[v0_, .int .i64 r2, .int .i64 r3, .int .i64 r4]) ∧ Kd.R k141 141 w' w.heap.size (fun _ => True) v0_ r1 ∧ Below w.heap.size w w' := by
 have hu72 := Try.underlying72;have HR0_0 := Aside0.mk hr0_0;have HC0_0 := Aside0.mk hc0_0;clear hr0_0 hc0_0;have HB := Aside0.mk (Below.refl w.heap.size w)
 have H : ((some (([] : List (S141)) : List (S141))).bind fun y106 => (if y106.length + l0_0.length < 4398046511104 then (some ((y106 ++ l0_0), a0_1, a0_2, a0_3)) else (none))) = some (r1, r2, r3, r4) := h
 clear h;replace H := nE H;obtain ⟨y106, Ny106, H⟩ := H;replace H := gC H;obtain ⟨c2, H⟩ := H;have LMc2 := Aside0.mk c2;clear c2;obtain ⟨y109, Ny109⟩ : ∃ y_ : List (S141), Aside0 (y_ = (y106 ++ l0_0)) := ⟨_, ⟨rfl⟩⟩;rw [← Ny109.out] at H;simp only [Option.some.injEq, Prod.mk.injEq] at H;obtain ⟨rfl, rfl, rfl, rfl⟩ := H;go_enter Try.func99, Try.ntmps99
 go_wp2_with (first|((with_reducible refine gN 1 ?_);refine boxZ 1 #[.slice A0_0 l0_0.length c0_0, .int .i64 a0_1, .int .i64 a0_2, .int .i64 a0_3] 72 ?_;intro gb103 hg w3 hbox hb;have BK103 := Aside0.mk (hbox);have GW103 := gS hg;have GE103 := gS hg;replace HB := sB hb;clear hb hbox hg)|((with_reducible refine gN 2 ?_);refine boxZ 2 #[.slice none 0 0, .int .i64 0, .int .i64 0, .int .i64 0] 72 ?_;intro gb104 hg w4 hbox hb;have BK104 := Aside0.mk (hbox);have GW104 := gS hg;have GE104 := gS hg;replace HB := sB hb;have NB103_104 := nL hg BK103;have NB104_103 := nG hg BK103;replace BK103 := kB BK103 hb;clear hb hbox hg;have hnb5 := NB103_104.out;have hnc5 := NB104_103.out;obtain ⟨hcz6_0, hcz6_1, hcz6_2, hcz6_3, hfz6_0, hfz6_1, hfz6_2, hfz6_3⟩ := cz4 BK103)|((with_reducible refine gN 3 ?_);refine boxZ 3 #[.slice none 0 0, .int .i64 0, .int .i64 0, .int .i64 0] 72 ?_;intro gb105 hg w7 hbox hb;have BK105 := Aside0.mk (hbox);have GW105 := gS hg;have GE105 := gS hg;replace HB := sB hb;have NB103_105 := nL hg BK103;have NB105_103 := nG hg BK103;replace BK103 := kB BK103 hb;have NB104_105 := nL hg BK104;have NB105_104 := nG hg BK104;replace BK104 := kB BK104 hb;clear hb hbox hg;have hnb8 := NB105_103.out;have hnc8 := NB103_105.out;have hnb9 := NB105_104.out;have hnc9 := NB104_105.out;obtain ⟨hcz10_0, hcz10_1, hcz10_2, hcz10_3, hfz10_0, hfz10_1, hfz10_2, hfz10_3⟩ := cz4 BK105)|((with_reducible refine gN 5 ?_);refine Kd.R_lit k141 _ 141 ?hg (N := 5) ?hd (xs := ([] : List (S141))) (inner := []) (ok := fun _ => True) (okp := fun _ => True) ?hr ?hp (fun _ hk => hk) trivial (Below.refl _ _) (Nat.le_refl _) (by simp) ?_;(case hd => rfl);(case hg => rfl);(case hr => exact rG);(case hp => exact (Reps.none _ _));intro v107 w11 ho12 hb hg_ hnew_;clear hg_ hnew_;(first | rw [← Ny106.out] at ho12 | (simp only [Int.reduceToNat] at ho12; rw [← Ny106.out] at ho12));have HO108 := Aside0.mk (Kd.R_lower ho12 (below_size cB));replace BK103 := kB BK103 hb;replace BK104 := kB BK104 hb;replace BK105 := kP BK105 hb (.cells #[.slice A0_0 l0_0.length c0_0, .int .i64 a0_1, .int .i64 a0_2, .int .i64 a0_3] 72 (0, 0));replace HB := sB hb;clear hb ho12;obtain ⟨hcz13_0, hcz13_1, hcz13_2, hcz13_3, hfz13_0, hfz13_1, hfz13_2, hfz13_3⟩ := cz4 BK103)|((with_reducible refine gA 5 7 ?_);at_builtin;refine Kd.R_append_rows k141 (w0 := w) w.heap.size rfl (.tmp 5) (.tmp 7) 70 141 (.agg #[(.int .i64 0), (.int .i64 0), (.int .i64 0), (.int .i64 0)]) 32 rfl Try.underlying70 info141 rfl (by decide) (by omega) v107 y106 l0_0 _ _ _ (fun _ => True) (fun _ => False) rfl rfl ?aO ?aR (fun _ _ h => h) (fun _ h => h.elim) ?aF ?aB ?aS ?aL ?_;(case aR => exact cC (Kd.C_below HR0_0.out HB.out));(case aB => exact cB);(case aF => exact (fun _ _ => trivial));(case aO => exact (mR HO108));(case aS => exact (below_size cB));(case aL => have := LMc2.out; omega);intro v110 w14 ho hb hg hat;rw [← Ny109.out] at ho;replace BK103 := Aside0.mk (blk_grown (mK BK103) hg (Kd.R_ne HO108.out BK103.out (by decide)));replace BK104 := Aside0.mk (blk_grown (mK BK104) hg (Kd.R_ne HO108.out BK104.out (by decide)));replace BK105 := Aside0.mk (blk_grown (mK BK105) hg (Kd.R_ne HO108.out BK105.out (by decide)));replace HB := Aside0.mk (hb);have HO111 := Aside0.mk (ho);clear HO108 ho hb hg hat;obtain ⟨Ao15, co15, eo15⟩ := Kd.R_slice HO111.out;subst eo15;obtain ⟨hcz16_0, hcz16_1, hcz16_2, hcz16_3, hfz16_0, hfz16_1, hfz16_2, hfz16_3⟩ := cz4 BK105;obtain ⟨hcz17_0, hcz17_1, hcz17_2, hcz17_3, hfz17_0, hfz17_1, hfz17_2, hfz17_3⟩ := cz4 BK104))
 refine bodyPost_ret (results_cell_row rfl _ _ gb104 72 #[.slice Ao15 y109.length co15, .int .i64 a0_1, .int .i64 a0_2, .int .i64 a0_3] (0, 0) _ rfl (by (with_reducible repeat (first | refine blk_drewN ?_ _ | refine blk_drew ?_ | refine blk_alloc ?_ _)); refine blk_put (cs := #[.slice Ao15 y109.length co15, .int .i64 a0_1, .int .i64 a0_2, .int .i64 0]) ?_ 3 _ rfl; (with_reducible repeat (first | refine blk_drewN ?_ _ | refine blk_drew ?_ | refine blk_alloc ?_ _)); refine blk_put (cs := #[.slice Ao15 y109.length co15, .int .i64 a0_1, .int .i64 0, .int .i64 0]) ?_ 2 _ rfl; (with_reducible repeat (first | refine blk_drewN ?_ _ | refine blk_drew ?_ | refine blk_alloc ?_ _)); refine blk_put (cs := #[.slice Ao15 y109.length co15, .int .i64 0, .int .i64 0, .int .i64 0]) ?_ 1 _ rfl; (with_reducible repeat (first | refine blk_drewN ?_ _ | refine blk_drew ?_ | refine blk_alloc ?_ _)); refine blk_put (cs := #[.slice none 0 0, .int .i64 0, .int .i64 0, .int .i64 0]) ?_ 0 _ rfl; (with_reducible repeat (first | refine blk_drewN ?_ _ | refine blk_drew ?_ | refine blk_alloc ?_ _)); refine blk_far ?_ NB104_105.out _; (with_reducible repeat (first | refine blk_drewN ?_ _ | refine blk_drew ?_ | refine blk_alloc ?_ _)); exact BK104.out) Try.underlying72 rfl (by kernel_rfl)) rfl ?_
 exact ⟨_, rE, by (with_reducible repeat (first | apply Kd.R_alloc | apply Kd.R_drewN | apply Kd.R_drew)); exact Kd.R_mono (Kd.R_far (p := ⟨gb104, 3, none⟩) (Kd.R_far (p := ⟨gb104, 2, none⟩) (Kd.R_far (p := ⟨gb104, 1, none⟩) (Kd.R_far (p := ⟨gb104, 0, none⟩) (Kd.R_far (p := ⟨gb105, 0, none⟩) (Kd.R_types (Kd.R_types HO111.out BK105.out (by decide)) BK104.out (by decide)) (fun _ hk => hk.1.2) (.slice Ao15 y109.length co15)) (fun _ hk => hk.2) (.slice Ao15 y109.length co15)) (fun _ hk => hk.2) (.int .i64 a0_1)) (fun _ hk => hk.2) (.int .i64 a0_2)) (fun _ hk => hk.2) (.int .i64 a0_3)) (fun _ hk => trivial), cB⟩
def spec_l01In.f (a0 : Int) (a1 : Int) (a2 : Int) : Option (Bool) := if a0 ≥ a1 then (some (decide (a0 ≤ a2))) else (some false)
set_option maxHeartbeats 8000000 in
set_option maxRecDepth 100000 in
theorem spec_l01In.calls (a0 : Int) (a1 : Int) (a2 : Int) (r : Bool) (w : World) (h : spec_l01In.f a0 a1 a2 = some r) :
 Calls Try.prog 93 #[.int .i64 a0, .int .i64 a1, .int .i64 a2] w fun e w' => e = .returned (.bool r) ∧ Drawn0 w w' := by
 have H : (if a0 ≥ a1 then (some (decide (a0 ≤ a2))) else (some false)) = some r := h;clear h;by_cases c4 : a0 ≥ a1
 ·rw [if_pos c4] at H;have c4b0 : decide (a1 ≤ a0) = true := decide_eq_true c4;clear c4;obtain rfl := Option.some.inj H;go_enter Try.func93, Try.ntmps93;go_wp2;go_ret
  exact ⟨by first | rfl | (simp; done) | (simp [*]; done), by repeat (first | exact Drawn0.refl _ | apply Drawn0.step)⟩
 ·rw [if_neg c4] at H;have c4b0 : decide (a1 ≤ a0) = false := decide_eq_false c4;clear c4;obtain rfl := Option.some.inj H;go_enter Try.func93, Try.ntmps93;go_wp2;go_ret
  exact ⟨by first | rfl | (simp; done) | (simp [*]; done), by repeat (first | exact Drawn0.refl _ | apply Drawn0.step)⟩
def spec_HalfOk.f (a0 : Int) : Option (Bool) := (spec_l01In.f a0 0 4294967295).bind fun t112 => (some t112)
set_option maxHeartbeats 8000000 in
set_option maxRecDepth 100000 in
theorem spec_HalfOk.calls (a0 : Int) (r : Bool) (w : World) (h : spec_HalfOk.f a0 = some r) :
 Calls Try.prog 101 #[.int .i64 a0] w fun e w' => e = .returned (.bool r) ∧ Drawn0 w w' := by
 have H : ((spec_l01In.f a0 0 4294967295).bind fun t112 => (some t112)) = some r := h
 clear h;replace H := bE H;obtain ⟨t112, A2, H⟩ := H;obtain rfl := Option.some.inj H;go_enter Try.func101, Try.ntmps101
 go_wp2_with (first|((with_reducible refine gF 93 ?_);refine goZ (some 4) Try.func93 #[.int .i64 a0, .int .i64 0, .int .i64 4294967295] ?_;(with_reducible refine (spec_l01In.calls a0 0 4294967295 t112 _ A2.out).mono ?_);rintro e w' ⟨rfl, ⟨nd, rfl⟩⟩;refine ⟨_, rfl, ?_⟩))
 go_ret
 exact ⟨by first | rfl | (simp; done) | (simp [*]; done), by repeat (first | exact Drawn0.refl _ | apply Drawn0.step)⟩
def spec_ItemOk.f (a0_0 : Int) (a0_1 : Int) (a0_2 : Int) (a0_3 : Int) : Option (Bool) := if a0_0 = 1 then ((spec_HalfOk.f a0_1).bind fun t114 => (if t114 = true then ((spec_HalfOk.f a0_2).bind fun t115 => (if t115 = true then (some (a0_3 == 0)) else (some false))) else (some false))) else (if a0_0 = 2 then ((spec_l01In.f a0_3 1 1000000000).bind fun t116 => (if t116 = true then (if a0_1 = 0 then (some (a0_2 == 0)) else (some false)) else (some false))) else (some false))
set_option maxHeartbeats 8000000 in
set_option maxRecDepth 100000 in
theorem spec_ItemOk.calls (a0_0 : Int) (a0_1 : Int) (a0_2 : Int) (a0_3 : Int) (r : Bool) (w : World) (h : spec_ItemOk.f a0_0 a0_1 a0_2 a0_3 = some r) :
 Calls Try.prog 151 #[.agg #[.int .i64 a0_0, .int .i64 a0_1, .int .i64 a0_2, .int .i64 a0_3]] w fun e w' => e = .returned (.bool r) ∧ Below w.heap.size w w' := by
 have hu141 := Try.underlying141;have HB := Aside0.mk (Below.refl w.heap.size w)
 have H : (if a0_0 = 1 then ((spec_HalfOk.f a0_1).bind fun t114 => (if t114 = true then ((spec_HalfOk.f a0_2).bind fun t115 => (if t115 = true then (some (a0_3 == 0)) else (some false))) else (some false))) else (if a0_0 = 2 then ((spec_l01In.f a0_3 1 1000000000).bind fun t116 => (if t116 = true then (if a0_1 = 0 then (some (a0_2 == 0)) else (some false)) else (some false))) else (some false))) = some r := h
 clear h;by_cases c2 : a0_0 = 1
 ·rw [if_pos c2] at H;obtain ⟨c2b0, c2b1⟩ := eT c2;clear c2;replace H := bE H;obtain ⟨t114, A3, H⟩ := H;by_cases c4 : t114 = true
  ·subst c4;replace H := iT H;replace H := bE H;obtain ⟨t115, A5, H⟩ := H;by_cases c6 : t115 = true
   ·subst c6;replace H := iT H;obtain rfl := Option.some.inj H;go_enter Try.func151, Try.ntmps151
    go_wp2_with (first|((with_reducible refine gN 1 ?_);refine boxZ 1 #[.int .i64 a0_0, .int .i64 a0_1, .int .i64 a0_2, .int .i64 a0_3] 141 ?_;intro gb113 hg w7 hbox hb;have BK113 := Aside0.mk (hbox);have GW113 := gS hg;have GE113 := gS hg;replace HB := sB hb;clear hb hbox hg;obtain ⟨hcz8_0, hcz8_1, hcz8_2, hcz8_3, hfz8_0, hfz8_1, hfz8_2, hfz8_3⟩ := cz4 BK113)|((with_reducible refine gF 101 ?_);refine goZ (some 8) Try.func101 #[.int .i64 a0_1] ?_;(with_reducible refine (spec_HalfOk.calls a0_1 true _ A3.out).mono ?_);rintro e w' ⟨rfl, ⟨nd, rfl⟩⟩;refine ⟨_, rfl, ?_⟩)|(go_at_call 101;(with_reducible refine (spec_HalfOk.calls a0_2 true _ A5.out).mono ?_);rintro e w' ⟨rfl, ⟨nd, rfl⟩⟩))
    go_ret;exact ⟨rE, cB⟩
   ·replace c6 := Bool.eq_false_iff.mpr c6;subst c6;replace H := iF H;obtain rfl := Option.some.inj H;go_enter Try.func151, Try.ntmps151
    go_wp2_with (first|((with_reducible refine gN 1 ?_);refine boxZ 1 #[.int .i64 a0_0, .int .i64 a0_1, .int .i64 a0_2, .int .i64 a0_3] 141 ?_;intro gb113 hg w9 hbox hb;have BK113 := Aside0.mk (hbox);have GW113 := gS hg;have GE113 := gS hg;replace HB := sB hb;clear hb hbox hg;obtain ⟨hcz10_0, hcz10_1, hcz10_2, hcz10_3, hfz10_0, hfz10_1, hfz10_2, hfz10_3⟩ := cz4 BK113)|((with_reducible refine gF 101 ?_);refine goZ (some 8) Try.func101 #[.int .i64 a0_1] ?_;(with_reducible refine (spec_HalfOk.calls a0_1 true _ A3.out).mono ?_);rintro e w' ⟨rfl, ⟨nd, rfl⟩⟩;refine ⟨_, rfl, ?_⟩)|(go_at_call 101;(with_reducible refine (spec_HalfOk.calls a0_2 false _ A5.out).mono ?_);rintro e w' ⟨rfl, ⟨nd, rfl⟩⟩))
    go_ret;exact ⟨rE, cB⟩
  ·replace c4 := Bool.eq_false_iff.mpr c4;subst c4;replace H := iF H;obtain rfl := Option.some.inj H;go_enter Try.func151, Try.ntmps151
   go_wp2_with (first|((with_reducible refine gN 1 ?_);refine boxZ 1 #[.int .i64 a0_0, .int .i64 a0_1, .int .i64 a0_2, .int .i64 a0_3] 141 ?_;intro gb113 hg w11 hbox hb;have BK113 := Aside0.mk (hbox);have GW113 := gS hg;have GE113 := gS hg;replace HB := sB hb;clear hb hbox hg;obtain ⟨hcz12_0, hcz12_1, hcz12_2, hcz12_3, hfz12_0, hfz12_1, hfz12_2, hfz12_3⟩ := cz4 BK113)|((with_reducible refine gF 101 ?_);refine goZ (some 8) Try.func101 #[.int .i64 a0_1] ?_;(with_reducible refine (spec_HalfOk.calls a0_1 false _ A3.out).mono ?_);rintro e w' ⟨rfl, ⟨nd, rfl⟩⟩;refine ⟨_, rfl, ?_⟩))
   go_ret;exact ⟨rE, cB⟩
 ·rw [if_neg c2] at H;obtain ⟨c2b0, c2b1⟩ := eF c2;by_cases c13 : a0_0 = 2
  ·rw [if_pos c13] at H;obtain ⟨c13b0, c13b1⟩ := eT c13;clear c13;replace H := bE H;obtain ⟨t116, A14, H⟩ := H;by_cases c15 : t116 = true
   ·subst c15;replace H := iT H;by_cases c16 : a0_1 = 0
    ·rw [if_pos c16] at H;obtain ⟨c16b0, c16b1⟩ := eT c16;clear c16;obtain rfl := Option.some.inj H;go_enter Try.func151, Try.ntmps151
     go_wp2_with (first|((with_reducible refine gN 1 ?_);refine boxZ 1 #[.int .i64 a0_0, .int .i64 a0_1, .int .i64 a0_2, .int .i64 a0_3] 141 ?_;intro gb113 hg w17 hbox hb;have BK113 := Aside0.mk (hbox);have GW113 := gS hg;have GE113 := gS hg;replace HB := sB hb;clear hb hbox hg;obtain ⟨hcz18_0, hcz18_1, hcz18_2, hcz18_3, hfz18_0, hfz18_1, hfz18_2, hfz18_3⟩ := cz4 BK113)|(go_at_call 93;(with_reducible refine (spec_l01In.calls a0_3 1 1000000000 true _ A14.out).mono ?_);rintro e w' ⟨rfl, ⟨nd, rfl⟩⟩))
     go_ret;exact ⟨rE, cB⟩
    ·rw [if_neg c16] at H;obtain ⟨c16b0, c16b1⟩ := eF c16;obtain rfl := Option.some.inj H;go_enter Try.func151, Try.ntmps151
     go_wp2_with (first|((with_reducible refine gN 1 ?_);refine boxZ 1 #[.int .i64 a0_0, .int .i64 a0_1, .int .i64 a0_2, .int .i64 a0_3] 141 ?_;intro gb113 hg w19 hbox hb;have BK113 := Aside0.mk (hbox);have GW113 := gS hg;have GE113 := gS hg;replace HB := sB hb;clear hb hbox hg;obtain ⟨hcz20_0, hcz20_1, hcz20_2, hcz20_3, hfz20_0, hfz20_1, hfz20_2, hfz20_3⟩ := cz4 BK113)|(go_at_call 93;(with_reducible refine (spec_l01In.calls a0_3 1 1000000000 true _ A14.out).mono ?_);rintro e w' ⟨rfl, ⟨nd, rfl⟩⟩))
     go_ret;exact ⟨rE, cB⟩
   ·replace c15 := Bool.eq_false_iff.mpr c15;subst c15;replace H := iF H;obtain rfl := Option.some.inj H;go_enter Try.func151, Try.ntmps151
    go_wp2_with (first|((with_reducible refine gN 1 ?_);refine boxZ 1 #[.int .i64 a0_0, .int .i64 a0_1, .int .i64 a0_2, .int .i64 a0_3] 141 ?_;intro gb113 hg w21 hbox hb;have BK113 := Aside0.mk (hbox);have GW113 := gS hg;have GE113 := gS hg;replace HB := sB hb;clear hb hbox hg;obtain ⟨hcz22_0, hcz22_1, hcz22_2, hcz22_3, hfz22_0, hfz22_1, hfz22_2, hfz22_3⟩ := cz4 BK113)|(go_at_call 93;(with_reducible refine (spec_l01In.calls a0_3 1 1000000000 false _ A14.out).mono ?_);rintro e w' ⟨rfl, ⟨nd, rfl⟩⟩))
    go_ret;exact ⟨rE, cB⟩
  ·rw [if_neg c13] at H;obtain ⟨c13b0, c13b1⟩ := eF c13;obtain rfl := Option.some.inj H;go_enter Try.func151, Try.ntmps151
   go_wp2_with (first|((with_reducible refine gN 1 ?_);refine boxZ 1 #[.int .i64 a0_0, .int .i64 a0_1, .int .i64 a0_2, .int .i64 a0_3] 141 ?_;intro gb113 hg w23 hbox hb;have BK113 := Aside0.mk (hbox);have GW113 := gS hg;have GE113 := gS hg;replace HB := sB hb;clear hb hbox hg;obtain ⟨hcz24_0, hcz24_1, hcz24_2, hcz24_3, hfz24_0, hfz24_1, hfz24_2, hfz24_3⟩ := cz4 BK113))
   go_ret;exact ⟨rE, cB⟩
def spec_l16Length.f (a0_0 : Int) (a0_1 : Int) (a0_2 : Int) (a0_3 : Int) : Option (Int) := if a0_0 = 2 then (some a0_3) else (some 1)
set_option maxHeartbeats 8000000 in
set_option maxRecDepth 100000 in
theorem spec_l16Length.calls (a0_0 : Int) (a0_1 : Int) (a0_2 : Int) (a0_3 : Int) (r : Int) (w : World) (h : spec_l16Length.f a0_0 a0_1 a0_2 a0_3 = some r) :
 Calls Try.prog 152 #[.agg #[.int .i64 a0_0, .int .i64 a0_1, .int .i64 a0_2, .int .i64 a0_3]] w fun e w' => e = .returned (.int .i64 r) ∧ Below w.heap.size w w' := by
 have hu141 := Try.underlying141;have HB := Aside0.mk (Below.refl w.heap.size w);have H : (if a0_0 = 2 then (some a0_3) else (some 1)) = some r := h;clear h;by_cases c2 : a0_0 = 2
 ·rw [if_pos c2] at H;obtain ⟨c2b0, c2b1⟩ := eT c2;clear c2;obtain rfl := Option.some.inj H;go_enter Try.func152, Try.ntmps152
  go_wp2_with (first|((with_reducible refine gN 1 ?_);refine boxZ 1 #[.int .i64 a0_0, .int .i64 a0_1, .int .i64 a0_2, .int .i64 a0_3] 141 ?_;intro gb117 hg w3 hbox hb;have BK117 := Aside0.mk (hbox);have GW117 := gS hg;have GE117 := gS hg;replace HB := sB hb;clear hb hbox hg;obtain ⟨hcz4_0, hcz4_1, hcz4_2, hcz4_3, hfz4_0, hfz4_1, hfz4_2, hfz4_3⟩ := cz4 BK117))
  go_ret;exact ⟨rE, cB⟩
 ·rw [if_neg c2] at H;obtain ⟨c2b0, c2b1⟩ := eF c2;obtain rfl := Option.some.inj H;go_enter Try.func152, Try.ntmps152
  go_wp2_with (first|((with_reducible refine gN 1 ?_);refine boxZ 1 #[.int .i64 a0_0, .int .i64 a0_1, .int .i64 a0_2, .int .i64 a0_3] 141 ?_;intro gb117 hg w5 hbox hb;have BK117 := Aside0.mk (hbox);have GW117 := gS hg;have GE117 := gS hg;replace HB := sB hb;clear hb hbox hg;obtain ⟨hcz6_0, hcz6_1, hcz6_2, hcz6_3, hfz6_0, hfz6_1, hfz6_2, hfz6_3⟩ := cz4 BK117))
  go_ret;exact ⟨rE, cB⟩
mutual
def spec_RingOk.j0 : Nat → Bool → List (S141) → Int → Int → Int → Option (Bool)
  | 0, _, _, _, _, _ => none
  | k + 1, x26, x119000, x119001, x119002, x119003 => if x26 = true then (some false) else (spec_RingOk.l0 k x119002 0 x119000 x119001 x119002 x119003)
def spec_RingOk.l0 : Nat → Int → Int → List (S141) → Int → Int → Int → Option (Bool)
  | 0, _, _, _, _, _, _ => none
  | k + 1, x3, x4, x119000, x119001, x119002, x119003 => if x4 < (x119000.length : Int) then (if 0 ≤ x4 then ((spec_ItemOk.f ((rd_T141 x119000 x4).f0) ((rd_T141 x119000 x4).f1) ((rd_T141 x119000 x4).f2) ((rd_T141 x119000 x4).f3)).bind fun t123 => (if t123 = true then ((spec_l16Length.f ((rd_T141 x119000 x4).f0) ((rd_T141 x119000 x4).f1) ((rd_T141 x119000 x4).f2) ((rd_T141 x119000 x4).f3)).bind fun t125 => (spec_RingOk.l0 k (wrap64 (x3 + t125)) (wrap64 (x4 + 1)) x119000 x119001 x119002 x119003)) else (some false))) else (none)) else (some (decide (x3 ≤ x119003)))
end
def spec_RingOk.f (k : Nat) (l0_0 : List (S141)) (a0_1 : Int) (a0_2 : Int) (a0_3 : Int) : Option (Bool) := if (l0_0.length : Int) > 4 then (spec_RingOk.j0 k true l0_0 a0_1 a0_2 a0_3) else ((spec_l01In.f a0_1 0 5).bind fun t119 => (if t119 = true then ((spec_l01In.f a0_2 0 1000000000).bind fun t120 => (if t120 = true then ((spec_l01In.f a0_3 0 1000000000).bind fun t121 => (spec_RingOk.j0 k (!t121) l0_0 a0_1 a0_2 a0_3)) else (spec_RingOk.j0 k true l0_0 a0_1 a0_2 a0_3))) else (spec_RingOk.j0 k true l0_0 a0_1 a0_2 a0_3)))
set_option maxHeartbeats 8000000 in
set_option maxRecDepth 100000 in
theorem spec_RingOk.calls (k : Nat) (A0_0 : Option Addr) (c0_0 : Nat) (l0_0 : List (S141)) (a0_1 : Int) (a0_2 : Int) (a0_3 : Int) (r : Bool) (w : World) (hr0_0 : Kd.C k141 w A0_0 l0_0.length l0_0) (hc0_0 : l0_0.length ≤ c0_0) (h : spec_RingOk.f k l0_0 a0_1 a0_2 a0_3 = some r) :
 Calls Try.prog 100 #[.agg #[.slice A0_0 l0_0.length c0_0, .int .i64 a0_1, .int .i64 a0_2, .int .i64 a0_3]] w fun e w' => e = .returned (.bool r) ∧ Below w.heap.size w w' := by
 have hu72 := Try.underlying72;have hu141 := Try.underlying141;have HR0_0 := Aside0.mk hr0_0;have HC0_0 := Aside0.mk hc0_0;clear hr0_0 hc0_0;have HB := Aside0.mk (Below.refl w.heap.size w)
 have H : (if (l0_0.length : Int) > 4 then (spec_RingOk.j0 k true l0_0 a0_1 a0_2 a0_3) else ((spec_l01In.f a0_1 0 5).bind fun t119 => (if t119 = true then ((spec_l01In.f a0_2 0 1000000000).bind fun t120 => (if t120 = true then ((spec_l01In.f a0_3 0 1000000000).bind fun t121 => (spec_RingOk.j0 k (!t121) l0_0 a0_1 a0_2 a0_3)) else (spec_RingOk.j0 k true l0_0 a0_1 a0_2 a0_3))) else (spec_RingOk.j0 k true l0_0 a0_1 a0_2 a0_3)))) = some r := h
 clear h;have HC2 := Aside0.mk H;clear H;go_enter Try.func100, Try.ntmps100
 go_upto_region 1 with (first|((with_reducible refine gN 1 ?_);refine boxZ 1 #[.slice A0_0 l0_0.length c0_0, .int .i64 a0_1, .int .i64 a0_2, .int .i64 a0_3] 72 ?_;intro gb118 hg w3 hbox hb;have BK118 := Aside0.mk (hbox);have GW118 := gS hg;have GE118 := gS hg;replace HB := sB hb;clear hb hbox hg))
 (try simp only [Act.put, List.setIfInBounds_toArray, List.set_cons_zero, List.set_cons_succ])
 go_cut [26] (fun v26 wc => ∃ (kq : Nat) (x26_1 : Bool), v26 = .bool x26_1 ∧ Aside0 (spec_RingOk.j0 kq x26_1 l0_0 a0_1 a0_2 a0_3 = some r) ∧ Aside0 (kq ≤ k) ∧ Aside0 (wc.heap[gb118]? = some (.cells #[(.slice A0_0 l0_0.length c0_0), .int .i64 a0_1, .int .i64 a0_2, .int .i64 a0_3] 72 (0, 0))) ∧ Aside0 (Below w.heap.size w wc))
 case first =>
  have H := HC2.out;clear HC2;by_cases c4 : (l0_0.length : Int) > 4
  ·rw [if_pos c4] at H;have c4b0 : decide (4 < (l0_0.length : Int)) = true := decide_eq_true c4
   have c4b1 : decide (4 < l0_0.length) = true := decide_eq_true (by omega)
   clear c4
   (first | rw [c4b0] | (simp only [i64_w, i32_w]; rw [c4b0]) | skip)
   have H' := Aside0.mk H;clear H;obtain ⟨hcz5_0, hcz5_1, hcz5_2, hcz5_3, hfz5_0, hfz5_1, hfz5_2, hfz5_3⟩ := cz4 BK118;go_wp2;go_meet
   case rel => exact ⟨_, (true), rS, H', ⟨oL⟩, ⟨mK BK118⟩, ⟨cB⟩⟩
  ·rw [if_neg c4] at H;have c4b0 : decide (4 < (l0_0.length : Int)) = false := decide_eq_false c4
   have c4b1 : decide (4 < l0_0.length) = false := decide_eq_false (by omega)
   clear c4
   (first | rw [c4b0] | (simp only [i64_w, i32_w]; rw [c4b0]) | skip)
   replace H := bE H;obtain ⟨t119, A6, H⟩ := H;by_cases c7 : t119 = true
   ·subst c7;replace H := iT H;replace H := bE H;obtain ⟨t120, A8, H⟩ := H;by_cases c9 : t120 = true
    ·subst c9;replace H := iT H;replace H := bE H;obtain ⟨t121, A10, H⟩ := H;have H' := Aside0.mk H;clear H;obtain ⟨hcz11_0, hcz11_1, hcz11_2, hcz11_3, hfz11_0, hfz11_1, hfz11_2, hfz11_3⟩ := cz4 BK118
     go_wp2_with (first|(go_at_call 93;(with_reducible refine (spec_l01In.calls a0_1 0 5 true _ A6.out).mono ?_);rintro e w' ⟨rfl, ⟨nd, rfl⟩⟩)|(go_at_call 93;(with_reducible refine (spec_l01In.calls a0_2 0 1000000000 true _ A8.out).mono ?_);rintro e w' ⟨rfl, ⟨nd, rfl⟩⟩)|(go_at_call 93;(with_reducible refine (spec_l01In.calls a0_3 0 1000000000 t121 _ A10.out).mono ?_);rintro e w' ⟨rfl, ⟨nd, rfl⟩⟩))
     go_meet
     case rel => exact ⟨_, (!t121), rS, H', ⟨oL⟩, ⟨mK BK118⟩, ⟨cB⟩⟩
    ·replace c9 := Bool.eq_false_iff.mpr c9;subst c9;replace H := iF H;have H' := Aside0.mk H;clear H;obtain ⟨hcz12_0, hcz12_1, hcz12_2, hcz12_3, hfz12_0, hfz12_1, hfz12_2, hfz12_3⟩ := cz4 BK118
     go_wp2_with (first|(go_at_call 93;(with_reducible refine (spec_l01In.calls a0_1 0 5 true _ A6.out).mono ?_);rintro e w' ⟨rfl, ⟨nd, rfl⟩⟩)|(go_at_call 93;(with_reducible refine (spec_l01In.calls a0_2 0 1000000000 false _ A8.out).mono ?_);rintro e w' ⟨rfl, ⟨nd, rfl⟩⟩))
     go_meet
     case rel => exact ⟨_, (true), rS, H', ⟨oL⟩, ⟨mK BK118⟩, ⟨cB⟩⟩
   ·replace c7 := Bool.eq_false_iff.mpr c7;subst c7;replace H := iF H;have H' := Aside0.mk H;clear H;obtain ⟨hcz13_0, hcz13_1, hcz13_2, hcz13_3, hfz13_0, hfz13_1, hfz13_2, hfz13_3⟩ := cz4 BK118
    go_wp2_with (first|(go_at_call 93;(with_reducible refine (spec_l01In.calls a0_1 0 5 false _ A6.out).mono ?_);rintro e w' ⟨rfl, ⟨nd, rfl⟩⟩))
    go_meet
    case rel => exact ⟨_, (true), rS, H', ⟨oL⟩, ⟨mK BK118⟩, ⟨cB⟩⟩
 case rest =>
  clear HC2;(try clear c4);(try clear c4b0);(try clear c4b1);(try clear c7);(try clear c9);(try clear hcz11_0);(try clear hcz11_1);(try clear hcz11_2);(try clear hcz11_3);(try clear hcz12_0);(try clear hcz12_1);(try clear hcz12_2);(try clear hcz12_3);(try clear hcz13_0);(try clear hcz13_1);(try clear hcz13_2);(try clear hcz13_3);(try clear hcz5_0);(try clear hcz5_1);(try clear hcz5_2);(try clear hcz5_3);(try clear hfz11_0);(try clear hfz11_1);(try clear hfz11_2);(try clear hfz11_3);(try clear hfz12_0);(try clear hfz12_1);(try clear hfz12_2);(try clear hfz12_3);(try clear hfz13_0);(try clear hfz13_1);(try clear hfz13_2);(try clear hfz13_3);(try clear hfz5_0);(try clear hfz5_1);(try clear hfz5_2);(try clear hfz5_3);obtain ⟨kq, x26_1, rfl, HA, HJ1, BK118, HB⟩ := hcut
  cases kq with
  | zero => exact absurd HA.out (by simp [spec_RingOk.j0])
  | succ kj1 =>
   have H := HA.out;clear HA;simp only [spec_RingOk.j0] at H;by_cases c14 : x26_1 = true
   ·subst c14;replace H := iT H;obtain rfl := Option.some.inj H;go_wp2;go_ret;exact ⟨rE, cB⟩
   ·replace c14 := Bool.eq_false_iff.mpr c14;subst c14;replace H := iF H;have H' := Aside0.mk H;clear H;obtain ⟨hcz15_0, hcz15_1, hcz15_2, hcz15_3, hfz15_0, hfz15_1, hfz15_2, hfz15_3⟩ := cz4 BK118;go_wp2
    go_loopg [3, 4] kj1 (fun kq v3 v4 w' => ∃ (x3_2 : Int) (x4_2 : Int), v3 = .int .i64 x3_2 ∧ v4 = .int .i64 x4_2 ∧ Aside0 (spec_RingOk.l0 kq x3_2 x4_2 l0_0 a0_1 a0_2 a0_3 = some r) ∧ Aside0 (kq ≤ kj1) ∧ Aside0 (w'.heap[gb118]? = some (.cells #[(.slice A0_0 l0_0.length c0_0), .int .i64 a0_1, .int .i64 a0_2, .int .i64 a0_3] 72 (0, 0))) ∧ Aside0 (Below w.heap.size w w'))
    case atStart => exact ⟨(a0_2), (0), rS, rS, H', ⟨Nat.le_refl _⟩, ⟨mK BK118⟩, ⟨cB⟩⟩
    case round =>
     clear H';(try clear c4);(try clear c4b0);(try clear c4b1);(try clear c7);(try clear c9);(try clear c14);(try clear hcz11_0);(try clear hcz11_1);(try clear hcz11_2);(try clear hcz11_3);(try clear hcz12_0);(try clear hcz12_1);(try clear hcz12_2);(try clear hcz12_3);(try clear hcz13_0);(try clear hcz13_1);(try clear hcz13_2);(try clear hcz13_3);(try clear hcz15_0);(try clear hcz15_1);(try clear hcz15_2);(try clear hcz15_3);(try clear hcz5_0);(try clear hcz5_1);(try clear hcz5_2);(try clear hcz5_3);(try clear hfz11_0);(try clear hfz11_1);(try clear hfz11_2);(try clear hfz11_3);(try clear hfz12_0);(try clear hfz12_1);(try clear hfz12_2);(try clear hfz12_3);(try clear hfz13_0);(try clear hfz13_1);(try clear hfz13_2);(try clear hfz13_3);(try clear hfz15_0);(try clear hfz15_1);(try clear hfz15_2);(try clear hfz15_3);(try clear hfz5_0);(try clear hfz5_1);(try clear hfz5_2);(try clear hfz5_3);obtain ⟨x3_2, x4_2, rfl, rfl, HA, HK2, BK118, HB⟩ := hrel
     cases gk with
     | zero => exact absurd HA.out (by simp [spec_RingOk.l0])
     | succ k2 =>
      have H := HA.out;clear HA;simp only [spec_RingOk.l0] at H;by_cases c16 : x4_2 < (l0_0.length : Int)
      ·rw [if_pos c16] at H;have c16b0 := decide_eq_true c16;clear c16;replace H := gD H;obtain ⟨c17b0, H⟩ := H;replace H := bE H;obtain ⟨t123, A18, H⟩ := H;by_cases c19 : t123 = true
       ·subst c19;replace H := iT H;replace H := bE H;obtain ⟨t125, A20, H⟩ := H;have H' := Aside0.mk H;clear H;obtain ⟨hcz21_0, hcz21_1, hcz21_2, hcz21_3, hfz21_0, hfz21_1, hfz21_2, hfz21_3⟩ := cz4 BK118;have p122 : 0 ≤ (x4_2 : Int) := dA;have q122 : x4_2 < (l0_0.length : Int) := dA;obtain ⟨ad122, e122, hx122_0, hx122_1, hx122_2, hx122_3⟩ := at_T141 HR0_0.out x4_2 p122 q122;cases e122;replace hx122_0 := bc HB hx122_0;replace hx122_1 := bc HB hx122_1;replace hx122_2 := bc HB hx122_2;replace hx122_3 := bc HB hx122_3;replace p122 := eq_true p122;replace q122 := eq_true q122
        go_wp2_with (first|((with_reducible refine gF 151 ?_);refine goZ (some 41) Try.func151 #[.agg #[.int .i64 ((rd_T141 l0_0 x4_2).f0), .int .i64 ((rd_T141 l0_0 x4_2).f1), .int .i64 ((rd_T141 l0_0 x4_2).f2), .int .i64 ((rd_T141 l0_0 x4_2).f3)]] ?_;(with_reducible refine (spec_ItemOk.calls ((rd_T141 l0_0 x4_2).f0) ((rd_T141 l0_0 x4_2).f1) ((rd_T141 l0_0 x4_2).f2) ((rd_T141 l0_0 x4_2).f3) true _ A18.out).mono ?_);rintro e w22 ⟨rfl, hb⟩;refine ⟨_, rfl, ?_⟩;replace BK118 := kB BK118 hb;replace HB := sB hb;(try clear hb);obtain ⟨hcz23_0, hcz23_1, hcz23_2, hcz23_3, hfz23_0, hfz23_1, hfz23_2, hfz23_3⟩ := cz4 BK118;have p124 : 0 ≤ (x4_2 : Int) := dA;have q124 : x4_2 < (l0_0.length : Int) := dA;obtain ⟨ad124, e124, hx124_0, hx124_1, hx124_2, hx124_3⟩ := at_T141 HR0_0.out x4_2 p124 q124;obtain rfl : ad122 = ad124 := (by injection e124);replace hx124_0 := bc HB hx124_0;replace hx124_1 := bc HB hx124_1;replace hx124_2 := bc HB hx124_2;replace hx124_3 := bc HB hx124_3;replace p124 := eq_true p124;replace q124 := eq_true q124)|((with_reducible refine gF 152 ?_);refine goZ (some 49) Try.func152 #[.agg #[.int .i64 ((rd_T141 l0_0 x4_2).f0), .int .i64 ((rd_T141 l0_0 x4_2).f1), .int .i64 ((rd_T141 l0_0 x4_2).f2), .int .i64 ((rd_T141 l0_0 x4_2).f3)]] ?_;(with_reducible refine (spec_l16Length.calls ((rd_T141 l0_0 x4_2).f0) ((rd_T141 l0_0 x4_2).f1) ((rd_T141 l0_0 x4_2).f2) ((rd_T141 l0_0 x4_2).f3) t125 _ A20.out).mono ?_);rintro e w24 ⟨rfl, hb⟩;refine ⟨_, rfl, ?_⟩;replace BK118 := kB BK118 hb;replace HB := sB hb;(try clear hb)))
        go_roundg k2
        case measure => have := HJ1.out; have := HK2.out; omega
        case rel => exact ⟨(wrap64 (x3_2 + t125)), (wrap64 (x4_2 + 1)), rS, rS, H', ⟨by have := HJ1.out; have := HK2.out; omega⟩, ⟨mK BK118⟩, ⟨cB⟩⟩
       ·replace c19 := Bool.eq_false_iff.mpr c19;subst c19;replace H := iF H;obtain rfl := Option.some.inj H;obtain ⟨hcz25_0, hcz25_1, hcz25_2, hcz25_3, hfz25_0, hfz25_1, hfz25_2, hfz25_3⟩ := cz4 BK118;have p122 : 0 ≤ (x4_2 : Int) := dA;have q122 : x4_2 < (l0_0.length : Int) := dA;obtain ⟨ad122, e122, hx122_0, hx122_1, hx122_2, hx122_3⟩ := at_T141 HR0_0.out x4_2 p122 q122;cases e122;replace hx122_0 := bc HB hx122_0;replace hx122_1 := bc HB hx122_1;replace hx122_2 := bc HB hx122_2;replace hx122_3 := bc HB hx122_3;replace p122 := eq_true p122;replace q122 := eq_true q122
        go_wp2_with (first|((with_reducible refine gF 151 ?_);refine goZ (some 41) Try.func151 #[.agg #[.int .i64 ((rd_T141 l0_0 x4_2).f0), .int .i64 ((rd_T141 l0_0 x4_2).f1), .int .i64 ((rd_T141 l0_0 x4_2).f2), .int .i64 ((rd_T141 l0_0 x4_2).f3)]] ?_;(with_reducible refine (spec_ItemOk.calls ((rd_T141 l0_0 x4_2).f0) ((rd_T141 l0_0 x4_2).f1) ((rd_T141 l0_0 x4_2).f2) ((rd_T141 l0_0 x4_2).f3) false _ A18.out).mono ?_);rintro e w26 ⟨rfl, hb⟩;refine ⟨_, rfl, ?_⟩;replace BK118 := kB BK118 hb;replace HB := sB hb;(try clear hb)))
        go_ret;exact ⟨rE, cB⟩
      ·rw [if_neg c16] at H;have c16b0 := decide_eq_false c16;clear c16;obtain rfl := Option.some.inj H;obtain ⟨hcz27_0, hcz27_1, hcz27_2, hcz27_3, hfz27_0, hfz27_1, hfz27_2, hfz27_3⟩ := cz4 BK118;go_wp2;go_ret;exact ⟨rE, cB⟩
end Go.Proofs.Ytiinjipfhmgheaa.PFnExactOffered
