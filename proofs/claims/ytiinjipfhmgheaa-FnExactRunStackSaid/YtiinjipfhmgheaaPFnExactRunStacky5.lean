import Derived.Test.YtiinjipfhmgheaaPFnExactRunStacky0
import Derived.Test.YtiinjipfhmgheaaPFnExactRunStacky3
namespace Go.Proofs.Ytiinjipfhmgheaa.PFnExactRunStack
open Go.RowKit Go.Proofs.YtiinjipfhmgheaaW.PrintWords Go.Proofs.YtiinjipfhmgheaaW.PrintLast Go.Proofs.YtiinjipfhmgheaaW.PrintMore Go.Proofs.YtiinjipfhmgheaaW.Z
attribute [local go_sem] max2_int min2_int max_two min_two max_three min_three max_four min_four
set_option linter.unusedVariables false
set_option linter.unusedSimpArgs false
def spec_WideOk.f (a0_0 : Int) (a0_1 : Int) : Option (Bool) := (spec_HalfOk.f a0_0).bind fun t176 => (if t176 = true then ((spec_HalfOk.f a0_1).bind fun t177 => (some t177)) else (some false))
set_option maxHeartbeats 8000000 in
set_option maxRecDepth 100000 in
theorem spec_WideOk.calls (a0_0 : Int) (a0_1 : Int) (r : Bool) (w : World) (h : spec_WideOk.f a0_0 a0_1 = some r) :
 Calls Try.prog 140 #[.agg #[.int .i64 a0_0, .int .i64 a0_1]] w fun e w' => e = .returned (.bool r) ∧ Below w.heap.size w w' := by
 have hu38 := Try.underlying38;have HB := Aside0.mk (Below.refl w.heap.size w)
 have H : ((spec_HalfOk.f a0_0).bind fun t176 => (if t176 = true then ((spec_HalfOk.f a0_1).bind fun t177 => (some t177)) else (some false))) = some r := h
 clear h;replace H := bE H;obtain ⟨t176, A2, H⟩ := H;by_cases c3 : t176 = true
 ·subst c3;replace H := iT H;replace H := bE H;obtain ⟨t177, A4, H⟩ := H;obtain rfl := Option.some.inj H;go_enter Try.func140, Try.ntmps140
  go_wp2_with (first|((with_reducible refine gN 1 ?_);refine boxZ 1 #[.int .i64 a0_0, .int .i64 a0_1] 38 ?_;intro gb175 hg w5 hbox hb;have BK175 := Aside0.mk (hbox);have GW175 := gS hg;have GE175 := gS hg;replace HB := sB hb;clear hb hbox hg;obtain ⟨hcz6_0, hcz6_1, hfz6_0, hfz6_1⟩ := cz2 BK175)|((with_reducible refine gF 101 ?_);refine goZ (some 5) Try.func101 #[.int .i64 a0_0] ?_;(with_reducible refine (spec_HalfOk.calls a0_0 true _ A2.out).mono ?_);rintro e w' ⟨rfl, ⟨nd, rfl⟩⟩;refine ⟨_, rfl, ?_⟩)|(go_at_call 101;(with_reducible refine (spec_HalfOk.calls a0_1 t177 _ A4.out).mono ?_);rintro e w' ⟨rfl, ⟨nd, rfl⟩⟩))
  go_ret;exact ⟨rE, cB⟩
 ·replace c3 := Bool.eq_false_iff.mpr c3;subst c3;replace H := iF H;obtain rfl := Option.some.inj H;go_enter Try.func140, Try.ntmps140
  go_wp2_with (first|((with_reducible refine gN 1 ?_);refine boxZ 1 #[.int .i64 a0_0, .int .i64 a0_1] 38 ?_;intro gb175 hg w7 hbox hb;have BK175 := Aside0.mk (hbox);have GW175 := gS hg;have GE175 := gS hg;replace HB := sB hb;clear hb hbox hg;obtain ⟨hcz8_0, hcz8_1, hfz8_0, hfz8_1⟩ := cz2 BK175)|((with_reducible refine gF 101 ?_);refine goZ (some 5) Try.func101 #[.int .i64 a0_0] ?_;(with_reducible refine (spec_HalfOk.calls a0_0 false _ A2.out).mono ?_);rintro e w' ⟨rfl, ⟨nd, rfl⟩⟩;refine ⟨_, rfl, ?_⟩))
  go_ret;exact ⟨rE, cB⟩
def spec_CallOk.l0 : Nat → Int → Int → Int → List (S38) → Option (Bool)
  | 0, _, _, _, _ => none
  | k + 1, x3, x179000, x179001, x179002 => if x3 < (x179002.length : Int) then (if 0 ≤ x3 then ((spec_WideOk.f ((rd_T38 x179002 x3).f0) ((rd_T38 x179002 x3).f1)).bind fun t180 => (if t180 = true then (spec_CallOk.l0 k (wrap64 (x3 + 1)) x179000 x179001 x179002) else (some false))) else (none)) else ((spec_HalfOk.f x179000).bind fun t181 => (if t181 = true then ((spec_HalfOk.f x179001).bind fun t182 => (if t182 = true then (some ((x179002.length : Int) == 3)) else (some false))) else (some false)))
def spec_CallOk.f (k : Nat) (a0_0 : Int) (a0_1 : Int) (l0_2 : List (S38)) : Option (Bool) := spec_CallOk.l0 k 0 a0_0 a0_1 l0_2
set_option maxHeartbeats 8000000 in
set_option maxRecDepth 100000 in
theorem spec_CallOk.calls (k : Nat) (a0_0 : Int) (a0_1 : Int) (A0_2 : Option Addr) (c0_2 : Nat) (l0_2 : List (S38)) (r : Bool) (w : World) (hr0_2 : Kd.C k38 w A0_2 l0_2.length l0_2) (hc0_2 : l0_2.length ≤ c0_2) (h : spec_CallOk.f k a0_0 a0_1 l0_2 = some r) :
 Calls Try.prog 73 #[.agg #[.int .i64 a0_0, .int .i64 a0_1, .slice A0_2 l0_2.length c0_2]] w fun e w' => e = .returned (.bool r) ∧ Below w.heap.size w w' := by
 have hu44 := Try.underlying44;have hu38 := Try.underlying38;have HR0_2 := Aside0.mk hr0_2;have HC0_2 := Aside0.mk hc0_2;clear hr0_2 hc0_2;have HB := Aside0.mk (Below.refl w.heap.size w);have H : (spec_CallOk.l0 k 0 a0_0 a0_1 l0_2) = some r := h;clear h;have H' := Aside0.mk H;clear H;go_enter Try.func73, Try.ntmps73
 go_wp2_with (first|((with_reducible refine gN 1 ?_);(try (refine gate_guard (by rfl) ?_; dsimp only));refine boxZ 1 #[.int .i64 a0_0, .int .i64 a0_1, .slice A0_2 l0_2.length c0_2] 44 ?_;intro gb178 hg w2 hbox hb;have BK178 := Aside0.mk (hbox);have GW178 := gS hg;have GE178 := gS hg;replace HB := sB hb;clear hb hbox hg))
 go_loopg [3] k (fun kq v3 w' => ∃ (x3_1 : Int), v3 = .int .i64 x3_1 ∧ Aside0 (spec_CallOk.l0 kq x3_1 a0_0 a0_1 l0_2 = some r) ∧ Aside0 (kq ≤ k) ∧ Aside0 (w'.heap[gb178]? = some (.cells #[.int .i64 a0_0, .int .i64 a0_1, (.slice A0_2 l0_2.length c0_2)] 44 (0, 0))) ∧ Aside0 (Below w.heap.size w w'))
 case atStart => exact ⟨(0), rS, H', ⟨Nat.le_refl _⟩, ⟨mK BK178⟩, ⟨cB⟩⟩
 case round =>
  clear H';obtain ⟨x3_1, rfl, HA, HK1, BK178, HB⟩ := hrel
  cases gk with
  | zero => exact absurd HA.out (by simp [spec_CallOk.l0])
  | succ k1 =>
   have H := HA.out;clear HA;simp only [spec_CallOk.l0] at H;by_cases c3 : x3_1 < (l0_2.length : Int)
   ·rw [if_pos c3] at H;have c3b0 := decide_eq_true c3;clear c3;replace H := gD H;obtain ⟨c4b0, H⟩ := H;replace H := bE H;obtain ⟨t180, A5, H⟩ := H;by_cases c6 : t180 = true
    ·subst c6;replace H := iT H;have H' := Aside0.mk H;clear H;obtain ⟨hcz7_0, hcz7_1, hcz7_2, hfz7_0, hfz7_1, hfz7_2⟩ := cz3 BK178;have p179 : 0 ≤ (x3_1 : Int) := dA;have q179 : x3_1 < (l0_2.length : Int) := dA;obtain ⟨ad179, e179, hx179_0, hx179_1⟩ := at_T38 HR0_2.out x3_1 p179 q179;cases e179;replace hx179_0 := (bc HB hx179_0 :);replace hx179_1 := (bc HB hx179_1 :);replace p179 := eq_true p179;replace q179 := eq_true q179
     go_wp2_with (first|((with_reducible refine gF 140 ?_);refine goZ (some 16) Try.func140 #[.agg #[.int .i64 ((rd_T38 l0_2 x3_1).f0), .int .i64 ((rd_T38 l0_2 x3_1).f1)]] ?_;(with_reducible refine (spec_WideOk.calls ((rd_T38 l0_2 x3_1).f0) ((rd_T38 l0_2 x3_1).f1) true _ A5.out).mono ?_);rintro e w8 ⟨rfl, hb⟩;refine ⟨_, rfl, ?_⟩;replace BK178 := kB BK178 hb;replace HB := sB hb;(try clear hb)))
     go_roundg k1
     case measure => have := HK1.out; omega
     case rel => exact ⟨(wrap64 (x3_1 + 1)), rS, H', ⟨by have := HK1.out; omega⟩, ⟨mK BK178⟩, ⟨cB⟩⟩
    ·replace c6 := Bool.eq_false_iff.mpr c6;subst c6;replace H := iF H;obtain rfl := Option.some.inj H;obtain ⟨hcz9_0, hcz9_1, hcz9_2, hfz9_0, hfz9_1, hfz9_2⟩ := cz3 BK178;have p179 : 0 ≤ (x3_1 : Int) := dA;have q179 : x3_1 < (l0_2.length : Int) := dA;obtain ⟨ad179, e179, hx179_0, hx179_1⟩ := at_T38 HR0_2.out x3_1 p179 q179;cases e179;replace hx179_0 := (bc HB hx179_0 :);replace hx179_1 := (bc HB hx179_1 :);replace p179 := eq_true p179;replace q179 := eq_true q179
     go_wp2_with (first|((with_reducible refine gF 140 ?_);refine goZ (some 16) Try.func140 #[.agg #[.int .i64 ((rd_T38 l0_2 x3_1).f0), .int .i64 ((rd_T38 l0_2 x3_1).f1)]] ?_;(with_reducible refine (spec_WideOk.calls ((rd_T38 l0_2 x3_1).f0) ((rd_T38 l0_2 x3_1).f1) false _ A5.out).mono ?_);rintro e w10 ⟨rfl, hb⟩;refine ⟨_, rfl, ?_⟩;replace BK178 := kB BK178 hb;replace HB := sB hb;(try clear hb)))
     go_ret;exact ⟨rE, cB⟩
   ·rw [if_neg c3] at H;have c3b0 := decide_eq_false c3;clear c3;replace H := bE H;obtain ⟨t181, A11, H⟩ := H;by_cases c12 : t181 = true
    ·subst c12;replace H := iT H;replace H := bE H;obtain ⟨t182, A13, H⟩ := H;by_cases c14 : t182 = true
     ·subst c14;replace H := iT H;obtain rfl := Option.some.inj H;obtain ⟨hcz15_0, hcz15_1, hcz15_2, hfz15_0, hfz15_1, hfz15_2⟩ := cz3 BK178
      go_wp2_with (first|((with_reducible refine gF 101 ?_);refine goZ (some 20) Try.func101 #[.int .i64 a0_0] ?_;(with_reducible refine (spec_HalfOk.calls a0_0 true _ A11.out).mono ?_);rintro e w' ⟨rfl, ⟨nd, rfl⟩⟩;refine ⟨_, rfl, ?_⟩)|(go_at_call 101;(with_reducible refine (spec_HalfOk.calls a0_1 true _ A13.out).mono ?_);rintro e w' ⟨rfl, ⟨nd, rfl⟩⟩))
      go_ret;exact ⟨rE, cB⟩
     ·replace c14 := Bool.eq_false_iff.mpr c14;subst c14;replace H := iF H;obtain rfl := Option.some.inj H;obtain ⟨hcz16_0, hcz16_1, hcz16_2, hfz16_0, hfz16_1, hfz16_2⟩ := cz3 BK178
      go_wp2_with (first|((with_reducible refine gF 101 ?_);refine goZ (some 20) Try.func101 #[.int .i64 a0_0] ?_;(with_reducible refine (spec_HalfOk.calls a0_0 true _ A11.out).mono ?_);rintro e w' ⟨rfl, ⟨nd, rfl⟩⟩;refine ⟨_, rfl, ?_⟩)|(go_at_call 101;(with_reducible refine (spec_HalfOk.calls a0_1 false _ A13.out).mono ?_);rintro e w' ⟨rfl, ⟨nd, rfl⟩⟩))
      go_ret;exact ⟨rE, cB⟩
    ·replace c12 := Bool.eq_false_iff.mpr c12;subst c12;replace H := iF H;obtain rfl := Option.some.inj H;obtain ⟨hcz17_0, hcz17_1, hcz17_2, hfz17_0, hfz17_1, hfz17_2⟩ := cz3 BK178
     go_wp2_with (first|((with_reducible refine gF 101 ?_);refine goZ (some 20) Try.func101 #[.int .i64 a0_0] ?_;(with_reducible refine (spec_HalfOk.calls a0_0 false _ A11.out).mono ?_);rintro e w' ⟨rfl, ⟨nd, rfl⟩⟩;refine ⟨_, rfl, ?_⟩))
     go_ret;exact ⟨rE, cB⟩
def spec_ResultOf.f (a0 : Int) (a1 : Int) : Option (Int) := (spec_l01In.f a0 0 5).bind fun t183 => (if t183 = true then ((spec_l01In.f a1 0 65535).bind fun t184 => (if t184 = true then (some (wrap64 ((wrap64 (65536 * a0)) + a1))) else (some 0))) else (some 0))
set_option maxHeartbeats 8000000 in
set_option maxRecDepth 100000 in
theorem spec_ResultOf.calls (a0 : Int) (a1 : Int) (r : Int) (w : World) (h : spec_ResultOf.f a0 a1 = some r) :
 Calls Try.prog 130 #[.int .i64 a0, .int .i64 a1] w fun e w' => e = .returned (.int .i64 r) ∧ Drawn0 w w' := by
 have H : ((spec_l01In.f a0 0 5).bind fun t183 => (if t183 = true then ((spec_l01In.f a1 0 65535).bind fun t184 => (if t184 = true then (some (wrap64 ((wrap64 (65536 * a0)) + a1))) else (some 0))) else (some 0))) = some r := h
 clear h;replace H := bE H;obtain ⟨t183, A3, H⟩ := H;by_cases c4 : t183 = true
 ·subst c4;replace H := iT H;replace H := bE H;obtain ⟨t184, A5, H⟩ := H;by_cases c6 : t184 = true
  ·subst c6;replace H := iT H;obtain rfl := Option.some.inj H;go_enter Try.func130, Try.ntmps130
   go_wp2_with (first|((with_reducible refine gF 93 ?_);refine goZ (some 6) Try.func93 #[.int .i64 a0, .int .i64 0, .int .i64 5] ?_;(with_reducible refine (spec_l01In.calls a0 0 5 true _ A3.out).mono ?_);rintro e w' ⟨rfl, ⟨nd, rfl⟩⟩;refine ⟨_, rfl, ?_⟩)|(go_at_call 93;(with_reducible refine (spec_l01In.calls a1 0 65535 true _ A5.out).mono ?_);rintro e w' ⟨rfl, ⟨nd, rfl⟩⟩))
   go_ret
   exact ⟨by first | rfl | (simp; done) | (simp [*]; done), by repeat (first | exact Drawn0.refl _ | apply Drawn0.step)⟩
  ·replace c6 := Bool.eq_false_iff.mpr c6;subst c6;replace H := iF H;obtain rfl := Option.some.inj H;go_enter Try.func130, Try.ntmps130
   go_wp2_with (first|((with_reducible refine gF 93 ?_);refine goZ (some 6) Try.func93 #[.int .i64 a0, .int .i64 0, .int .i64 5] ?_;(with_reducible refine (spec_l01In.calls a0 0 5 true _ A3.out).mono ?_);rintro e w' ⟨rfl, ⟨nd, rfl⟩⟩;refine ⟨_, rfl, ?_⟩)|(go_at_call 93;(with_reducible refine (spec_l01In.calls a1 0 65535 false _ A5.out).mono ?_);rintro e w' ⟨rfl, ⟨nd, rfl⟩⟩))
   go_ret
   exact ⟨by first | rfl | (simp; done) | (simp [*]; done), by repeat (first | exact Drawn0.refl _ | apply Drawn0.step)⟩
 ·replace c4 := Bool.eq_false_iff.mpr c4;subst c4;replace H := iF H;obtain rfl := Option.some.inj H;go_enter Try.func130, Try.ntmps130
  go_wp2_with (first|((with_reducible refine gF 93 ?_);refine goZ (some 6) Try.func93 #[.int .i64 a0, .int .i64 0, .int .i64 5] ?_;(with_reducible refine (spec_l01In.calls a0 0 5 false _ A3.out).mono ?_);rintro e w' ⟨rfl, ⟨nd, rfl⟩⟩;refine ⟨_, rfl, ?_⟩))
  go_ret
  exact ⟨by first | rfl | (simp; done) | (simp [*]; done), by repeat (first | exact Drawn0.refl _ | apply Drawn0.step)⟩
def spec_FieldAt.j0 : Nat → Int → Bool → Int → Int → List (S38) → Option (Int × Bool)
  | 0, _, _, _, _, _ => none
  | k + 1, x1, x14, x186000, x186001, x186002 => if x14 = true then (some (0, false)) else (if x1 = 0 then (some (x186001, true)) else (if x1 = 1 then (some (x186000, true)) else (if 0 ≤ (wrap64 (Int.tdiv (wrap64 (x1 - 2)) 2)) then (if (wrap64 (Int.tdiv (wrap64 (x1 - 2)) 2)) < (x186002.length : Int) then (if (Int.tmod x1 2) = 0 then (some ((rd_T38 x186002 (wrap64 (Int.tdiv (wrap64 (x1 - 2)) 2))).f1, true)) else (some ((rd_T38 x186002 (wrap64 (Int.tdiv (wrap64 (x1 - 2)) 2))).f0, true))) else (none)) else (none))))
def spec_FieldAt.f (k : Nat) (a0_0 : Int) (a0_1 : Int) (l0_2 : List (S38)) (a1 : Int) : Option (Int × Bool) := (spec_CallOk.f k a0_0 a0_1 l0_2).bind fun t186 => (if t186 = true then ((spec_l01In.f a1 0 7).bind fun t187 => (spec_FieldAt.j0 k a1 (!t187) a0_0 a0_1 l0_2)) else (spec_FieldAt.j0 k a1 true a0_0 a0_1 l0_2))
set_option maxHeartbeats 8000000 in
set_option maxRecDepth 100000 in
theorem spec_FieldAt.calls (k : Nat) (a0_0 : Int) (a0_1 : Int) (A0_2 : Option Addr) (c0_2 : Nat) (l0_2 : List (S38)) (a1 : Int) (r1 : Int) (r2 : Bool) (w : World) (hr0_2 : Kd.C k38 w A0_2 l0_2.length l0_2) (hc0_2 : l0_2.length ≤ c0_2) (h : spec_FieldAt.f k a0_0 a0_1 l0_2 a1 = some (r1, r2)) :
 Calls Try.prog 160 #[.agg #[.int .i64 a0_0, .int .i64 a0_1, .slice A0_2 l0_2.length c0_2], .int .i64 a1] w fun e w' => e = .returned (.tuple #[.int .i64 r1, .bool r2]) ∧ Below w.heap.size w w' := by
 have hu44 := Try.underlying44;have hu38 := Try.underlying38;have HR0_2 := Aside0.mk hr0_2;have HC0_2 := Aside0.mk hc0_2;clear hr0_2 hc0_2;have HB := Aside0.mk (Below.refl w.heap.size w)
 have H : ((spec_CallOk.f k a0_0 a0_1 l0_2).bind fun t186 => (if t186 = true then ((spec_l01In.f a1 0 7).bind fun t187 => (spec_FieldAt.j0 k a1 (!t187) a0_0 a0_1 l0_2)) else (spec_FieldAt.j0 k a1 true a0_0 a0_1 l0_2))) = some (r1, r2) := h
 clear h;have HC3 := Aside0.mk H;clear H;go_enter Try.func160, Try.ntmps160
 go_upto_region 1 with (first|((with_reducible refine gN 2 ?_);refine boxZ 2 #[.int .i64 a0_0, .int .i64 a0_1, .slice A0_2 l0_2.length c0_2] 44 ?_;intro gb185 hg w4 hbox hb;have BK185 := Aside0.mk (hbox);have GW185 := gS hg;have GE185 := gS hg;replace HB := sB hb;clear hb hbox hg))
 (try simp only [Act.put, List.setIfInBounds_toArray, List.set_cons_zero, List.set_cons_succ])
 go_cut [14] (fun v14 wc => ∃ (kq : Nat) (x14_2 : Bool), v14 = .bool x14_2 ∧ Aside0 (spec_FieldAt.j0 kq a1 x14_2 a0_0 a0_1 l0_2 = some (r1, r2)) ∧ Aside0 (kq ≤ k) ∧ Aside0 (wc.heap[gb185]? = some (.cells #[.int .i64 a0_0, .int .i64 a0_1, (.slice A0_2 l0_2.length c0_2)] 44 (0, 0))) ∧ Aside0 (Below w.heap.size w wc))
 case first =>
  have H := HC3.out;clear HC3;replace H := bE H;obtain ⟨t186, A5, H⟩ := H;by_cases c6 : t186 = true
  ·subst c6;replace H := iT H;replace H := bE H;obtain ⟨t187, A7, H⟩ := H;have H' := Aside0.mk H;clear H;obtain ⟨hcz8_0, hcz8_1, hcz8_2, hfz8_0, hfz8_1, hfz8_2⟩ := cz3 BK185
   go_wp2_with (first|((with_reducible refine gF 73 ?_);refine goZ (some 8) Try.func73 #[.agg #[.int .i64 a0_0, .int .i64 a0_1, .slice A0_2 l0_2.length c0_2]] ?_;(with_reducible refine (spec_CallOk.calls k a0_0 a0_1 _ _ l0_2 true _ ?side1 ?side2 A5.out).mono ?_);(case side1 => exact cC (Kd.C_below HR0_2.out HB.out));(case side2 => exact HC0_2.out);rintro e w9 ⟨rfl, hb⟩;refine ⟨_, rfl, ?_⟩;replace BK185 := kB BK185 hb;replace HB := sB hb;(try clear hb))|(go_at_call 93;(with_reducible refine (spec_l01In.calls a1 0 7 t187 _ A7.out).mono ?_);rintro e w' ⟨rfl, ⟨nd, rfl⟩⟩))
   go_meet
   case rel => exact ⟨_, (!t187), rS, H', ⟨oL⟩, ⟨mK BK185⟩, ⟨cB⟩⟩
  ·replace c6 := Bool.eq_false_iff.mpr c6;subst c6;replace H := iF H;have H' := Aside0.mk H;clear H;obtain ⟨hcz10_0, hcz10_1, hcz10_2, hfz10_0, hfz10_1, hfz10_2⟩ := cz3 BK185
   go_wp2_with (first|((with_reducible refine gF 73 ?_);refine goZ (some 8) Try.func73 #[.agg #[.int .i64 a0_0, .int .i64 a0_1, .slice A0_2 l0_2.length c0_2]] ?_;(with_reducible refine (spec_CallOk.calls k a0_0 a0_1 _ _ l0_2 false _ ?side1 ?side2 A5.out).mono ?_);(case side1 => exact cC (Kd.C_below HR0_2.out HB.out));(case side2 => exact HC0_2.out);rintro e w11 ⟨rfl, hb⟩;refine ⟨_, rfl, ?_⟩;replace BK185 := kB BK185 hb;replace HB := sB hb;(try clear hb)))
   go_meet
   case rel => exact ⟨_, (true), rS, H', ⟨oL⟩, ⟨mK BK185⟩, ⟨cB⟩⟩
 case rest =>
  clear HC3;(try clear c6);(try clear hcz10_0);(try clear hcz10_1);(try clear hcz10_2);(try clear hcz8_0);(try clear hcz8_1);(try clear hcz8_2);(try clear hfz10_0);(try clear hfz10_1);(try clear hfz10_2);(try clear hfz8_0);(try clear hfz8_1);(try clear hfz8_2);obtain ⟨kq, x14_2, rfl, HA, HJ2, BK185, HB⟩ := hcut
  cases kq with
  | zero => exact absurd HA.out (by simp [spec_FieldAt.j0])
  | succ kj2 =>
   have H := HA.out;clear HA;simp only [spec_FieldAt.j0] at H;by_cases c12 : x14_2 = true
   ·subst c12;replace H := iT H;simp only [Option.some.injEq, Prod.mk.injEq] at H;obtain ⟨rfl, rfl⟩ := H;go_wp2;go_ret2;exact ⟨rE, cB⟩
   ·replace c12 := Bool.eq_false_iff.mpr c12;subst c12;replace H := iF H;by_cases c13 : a1 = 0
    ·rw [if_pos c13] at H;obtain ⟨c13b0, c13b1⟩ := eT c13;clear c13;simp only [Option.some.injEq, Prod.mk.injEq] at H;obtain ⟨rfl, rfl⟩ := H;obtain ⟨hcz14_0, hcz14_1, hcz14_2, hfz14_0, hfz14_1, hfz14_2⟩ := cz3 BK185;go_wp2;go_ret2;exact ⟨rE, cB⟩
    ·rw [if_neg c13] at H;obtain ⟨c13b0, c13b1⟩ := eF c13;by_cases c15 : a1 = 1
     ·rw [if_pos c15] at H;obtain ⟨c15b0, c15b1⟩ := eT c15;clear c15;simp only [Option.some.injEq, Prod.mk.injEq] at H;obtain ⟨rfl, rfl⟩ := H;obtain ⟨hcz16_0, hcz16_1, hcz16_2, hfz16_0, hfz16_1, hfz16_2⟩ := cz3 BK185;go_wp2;go_ret2;exact ⟨rE, cB⟩
     ·rw [if_neg c15] at H;obtain ⟨c15b0, c15b1⟩ := eF c15;obtain ⟨ji17, hji17⟩ : ∃ j_ : Int, (wrap64 (Int.tdiv (wrap64 (a1 - 2)) 2)) = j_ := ⟨_, rfl⟩
      (first|rw [hji17] at H|simp only [hji17] at H)
      have hji17w : (IntKind.i64.wrap (Int.tdiv (wrap64 (a1 - 2)) 2)) = ji17 := (i64_w _).trans hji17;replace H := gD H;obtain ⟨c18b0, H⟩ := H;replace H := gD H;obtain ⟨c19b0, H⟩ := H;by_cases c20 : (Int.tmod a1 2) = 0
      ·rw [if_pos c20] at H;obtain ⟨c20b0, c20b1⟩ := eT c20;clear c20;simp only [Option.some.injEq, Prod.mk.injEq] at H;obtain ⟨rfl, rfl⟩ := H;obtain ⟨hcz21_0, hcz21_1, hcz21_2, hfz21_0, hfz21_1, hfz21_2⟩ := cz3 BK185;have p188 : 0 ≤ ((ji17) : Int) := dA;have q188 : (ji17) < (l0_2.length : Int) := dA;obtain ⟨ad188, e188, hx188_0, hx188_1⟩ := at_T38 HR0_2.out (ji17) p188 q188;cases e188;replace hx188_0 := (bc HB hx188_0 :);replace hx188_1 := (bc HB hx188_1 :);replace p188 := eq_true p188;replace q188 := eq_true q188
       go_wp2_with (first|((with_reducible refine gN 6 ?_);refine boxZ 6 #[.int .i64 0, .int .i64 0] 38 ?_;intro gb189 hg w22 hbox hb;have BK189 := Aside0.mk (hbox);have GW189 := gS hg;have GE189 := gS hg;replace HB := sB hb;have NB185_189 := nL hg BK185;have NB189_185 := nG hg BK185;replace BK185 := kB BK185 hb;clear hb hbox hg;have hnb23 := NB189_185.out;have hnc23 := NB185_189.out;obtain ⟨hcz24_0, hcz24_1, hfz24_0, hfz24_1⟩ := cz2 BK189))
       go_ret2
       exact ⟨by first | rfl | (simp [errW_none, errW_some] <;> rfl) | (simp only [← hji17]; first | rfl | (simp [errW_none, errW_some] <;> rfl)) | (simp [*, errW_none, errW_some] <;> rfl), cB⟩
      ·rw [if_neg c20] at H;obtain ⟨c20b0, c20b1⟩ := eF c20;simp only [Option.some.injEq, Prod.mk.injEq] at H;obtain ⟨rfl, rfl⟩ := H;obtain ⟨hcz25_0, hcz25_1, hcz25_2, hfz25_0, hfz25_1, hfz25_2⟩ := cz3 BK185;have p188 : 0 ≤ ((ji17) : Int) := dA;have q188 : (ji17) < (l0_2.length : Int) := dA;obtain ⟨ad188, e188, hx188_0, hx188_1⟩ := at_T38 HR0_2.out (ji17) p188 q188;cases e188;replace hx188_0 := (bc HB hx188_0 :);replace hx188_1 := (bc HB hx188_1 :);replace p188 := eq_true p188;replace q188 := eq_true q188
       go_wp2_with (first|((with_reducible refine gN 6 ?_);refine boxZ 6 #[.int .i64 0, .int .i64 0] 38 ?_;intro gb189 hg w26 hbox hb;have BK189 := Aside0.mk (hbox);have GW189 := gS hg;have GE189 := gS hg;replace HB := sB hb;have NB185_189 := nL hg BK185;have NB189_185 := nG hg BK185;replace BK185 := kB BK185 hb;clear hb hbox hg;have hnb27 := NB189_185.out;have hnc27 := NB185_189.out;obtain ⟨hcz28_0, hcz28_1, hfz28_0, hfz28_1⟩ := cz2 BK189))
       go_ret2
       exact ⟨by first | rfl | (simp [errW_none, errW_some] <;> rfl) | (simp only [← hji17]; first | rfl | (simp [errW_none, errW_some] <;> rfl)) | (simp [*, errW_none, errW_some] <;> rfl), cB⟩
def spec_l07Asks.f (a0_0 : Int) (a0_1 : Int) (a0_2 : Int) (a0_3 : Int) (a1 : Int) : Option (Bool) := if a0_0 = 3 then (some (a1 == a0_1)) else (if a0_0 = 4 then (some (decide (a1 > a0_1))) else (if a0_0 = 5 then (some (decide (a1 ≥ a0_1))) else (some ((Go.bits .and .i64 a1 a0_1) != 0))))
set_option maxHeartbeats 8000000 in
set_option maxRecDepth 100000 in
theorem spec_l07Asks.calls (a0_0 : Int) (a0_1 : Int) (a0_2 : Int) (a0_3 : Int) (a1 : Int) (r : Bool) (w : World) (h : spec_l07Asks.f a0_0 a0_1 a0_2 a0_3 a1 = some r) :
 Calls Try.prog 161 #[.agg #[.int .i64 a0_0, .int .i64 a0_1, .int .i64 a0_2, .int .i64 a0_3], .int .i64 a1] w fun e w' => e = .returned (.bool r) ∧ Below w.heap.size w w' := by
 have hu118 := Try.underlying118;have HB := Aside0.mk (Below.refl w.heap.size w);have H : (if a0_0 = 3 then (some (a1 == a0_1)) else (if a0_0 = 4 then (some (decide (a1 > a0_1))) else (if a0_0 = 5 then (some (decide (a1 ≥ a0_1))) else (some ((Go.bits .and .i64 a1 a0_1) != 0))))) = some r := h;clear h;by_cases c3 : a0_0 = 3
 ·rw [if_pos c3] at H;obtain ⟨c3b0, c3b1⟩ := eT c3;clear c3;obtain rfl := Option.some.inj H;go_enter Try.func161, Try.ntmps161
  go_wp2_with (first|((with_reducible refine gN 2 ?_);refine boxZ 2 #[.int .i64 a0_0, .int .i64 a0_1, .int .i64 a0_2, .int .i64 a0_3] 118 ?_;intro gb190 hg w4 hbox hb;have BK190 := Aside0.mk (hbox);have GW190 := gS hg;have GE190 := gS hg;replace HB := sB hb;clear hb hbox hg;obtain ⟨hcz5_0, hcz5_1, hcz5_2, hcz5_3, hfz5_0, hfz5_1, hfz5_2, hfz5_3⟩ := cz4 BK190))
  go_ret;exact ⟨rE, cB⟩
 ·rw [if_neg c3] at H;obtain ⟨c3b0, c3b1⟩ := eF c3;by_cases c6 : a0_0 = 4
  ·rw [if_pos c6] at H;obtain ⟨c6b0, c6b1⟩ := eT c6;clear c6;obtain rfl := Option.some.inj H;go_enter Try.func161, Try.ntmps161
   go_wp2_with (first|((with_reducible refine gN 2 ?_);refine boxZ 2 #[.int .i64 a0_0, .int .i64 a0_1, .int .i64 a0_2, .int .i64 a0_3] 118 ?_;intro gb190 hg w7 hbox hb;have BK190 := Aside0.mk (hbox);have GW190 := gS hg;have GE190 := gS hg;replace HB := sB hb;clear hb hbox hg;obtain ⟨hcz8_0, hcz8_1, hcz8_2, hcz8_3, hfz8_0, hfz8_1, hfz8_2, hfz8_3⟩ := cz4 BK190))
   go_ret;exact ⟨rE, cB⟩
  ·rw [if_neg c6] at H;obtain ⟨c6b0, c6b1⟩ := eF c6;by_cases c9 : a0_0 = 5
   ·rw [if_pos c9] at H;obtain ⟨c9b0, c9b1⟩ := eT c9;clear c9;obtain rfl := Option.some.inj H;go_enter Try.func161, Try.ntmps161
    go_wp2_with (first|((with_reducible refine gN 2 ?_);refine boxZ 2 #[.int .i64 a0_0, .int .i64 a0_1, .int .i64 a0_2, .int .i64 a0_3] 118 ?_;intro gb190 hg w10 hbox hb;have BK190 := Aside0.mk (hbox);have GW190 := gS hg;have GE190 := gS hg;replace HB := sB hb;clear hb hbox hg;obtain ⟨hcz11_0, hcz11_1, hcz11_2, hcz11_3, hfz11_0, hfz11_1, hfz11_2, hfz11_3⟩ := cz4 BK190))
    go_ret;exact ⟨rE, cB⟩
   ·rw [if_neg c9] at H;obtain ⟨c9b0, c9b1⟩ := eF c9;obtain rfl := Option.some.inj H;go_enter Try.func161, Try.ntmps161
    go_wp2_with (first|((with_reducible refine gN 2 ?_);refine boxZ 2 #[.int .i64 a0_0, .int .i64 a0_1, .int .i64 a0_2, .int .i64 a0_3] 118 ?_;intro gb190 hg w12 hbox hb;have BK190 := Aside0.mk (hbox);have GW190 := gS hg;have GE190 := gS hg;replace HB := sB hb;clear hb hbox hg;obtain ⟨hcz13_0, hcz13_1, hcz13_2, hcz13_3, hfz13_0, hfz13_1, hfz13_2, hfz13_3⟩ := cz4 BK190))
    go_ret;exact ⟨rE, cB⟩
end Go.Proofs.Ytiinjipfhmgheaa.PFnExactRunStack
