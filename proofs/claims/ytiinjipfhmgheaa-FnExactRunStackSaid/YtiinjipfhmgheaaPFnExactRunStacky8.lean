import Derived.Test.YtiinjipfhmgheaaPFnExactRunStacky0
import Derived.Test.YtiinjipfhmgheaaPFnExactRunStacky6
namespace Go.Proofs.Ytiinjipfhmgheaa.PFnExactRunStack
open Go.RowKit Go.Proofs.YtiinjipfhmgheaaW.PrintWords Go.Proofs.YtiinjipfhmgheaaW.PrintLast Go.Proofs.YtiinjipfhmgheaaW.PrintMore Go.Proofs.YtiinjipfhmgheaaW.Z
attribute [local go_sem] max2_int min2_int max_two min_two max_three min_three max_four min_four
set_option linter.unusedVariables false
set_option linter.unusedSimpArgs false
def impl_WideOk.f (a0_0 : Int) (a0_1 : Int) : Option (Bool) := (impl_HalfOk.f a0_0).bind fun t233 => (if t233 = true then ((impl_HalfOk.f a0_1).bind fun t234 => (some t234)) else (some false))
set_option maxHeartbeats 8000000 in
set_option maxRecDepth 100000 in
theorem impl_WideOk.calls (a0_0 : Int) (a0_1 : Int) (r : Bool) (w : World) (h : impl_WideOk.f a0_0 a0_1 = some r) :
 Calls Try.prog 142 #[.agg #[.int .i64 a0_0, .int .i64 a0_1]] w fun e w' => e = .returned (.bool r) ∧ Below w.heap.size w w' := by
 have hu38 := Try.underlying38;have HB := Aside0.mk (Below.refl w.heap.size w)
 have H : ((impl_HalfOk.f a0_0).bind fun t233 => (if t233 = true then ((impl_HalfOk.f a0_1).bind fun t234 => (some t234)) else (some false))) = some r := h
 clear h;replace H := bE H;obtain ⟨t233, A2, H⟩ := H;by_cases c3 : t233 = true
 ·subst c3;replace H := iT H;replace H := bE H;obtain ⟨t234, A4, H⟩ := H;obtain rfl := Option.some.inj H;go_enter Try.func142, Try.ntmps142
  go_wp2_with (first|((with_reducible refine gN 1 ?_);refine boxZ 1 #[.int .i64 a0_0, .int .i64 a0_1] 38 ?_;intro gb232 hg w5 hbox hb;have BK232 := Aside0.mk (hbox);have GW232 := gS hg;have GE232 := gS hg;replace HB := sB hb;clear hb hbox hg;obtain ⟨hcz6_0, hcz6_1, hfz6_0, hfz6_1⟩ := cz2 BK232)|((with_reducible refine gF 105 ?_);refine goZ (some 5) Try.func105 #[.int .i64 a0_0] ?_;(with_reducible refine (impl_HalfOk.calls a0_0 true _ A2.out).mono ?_);rintro e w' ⟨rfl, ⟨nd, rfl⟩⟩;refine ⟨_, rfl, ?_⟩)|(go_at_call 105;(with_reducible refine (impl_HalfOk.calls a0_1 t234 _ A4.out).mono ?_);rintro e w' ⟨rfl, ⟨nd, rfl⟩⟩))
  go_ret;exact ⟨rE, cB⟩
 ·replace c3 := Bool.eq_false_iff.mpr c3;subst c3;replace H := iF H;obtain rfl := Option.some.inj H;go_enter Try.func142, Try.ntmps142
  go_wp2_with (first|((with_reducible refine gN 1 ?_);refine boxZ 1 #[.int .i64 a0_0, .int .i64 a0_1] 38 ?_;intro gb232 hg w7 hbox hb;have BK232 := Aside0.mk (hbox);have GW232 := gS hg;have GE232 := gS hg;replace HB := sB hb;clear hb hbox hg;obtain ⟨hcz8_0, hcz8_1, hfz8_0, hfz8_1⟩ := cz2 BK232)|((with_reducible refine gF 105 ?_);refine goZ (some 5) Try.func105 #[.int .i64 a0_0] ?_;(with_reducible refine (impl_HalfOk.calls a0_0 false _ A2.out).mono ?_);rintro e w' ⟨rfl, ⟨nd, rfl⟩⟩;refine ⟨_, rfl, ?_⟩))
  go_ret;exact ⟨rE, cB⟩
def impl_CallOk.l0 : Nat → List (S38) → Int → Int → Int → Int → List (S38) → Option (Bool)
  | 0, _, _, _, _, _, _ => none
  | k + 1, x6, x7, x8, x236000, x236001, x236002 => if x8 < x7 then (if 0 ≤ x8 then (if x8 < (x6.length : Int) then ((impl_WideOk.f ((rd_T38 x6 x8).f0) ((rd_T38 x6 x8).f1)).bind fun t238 => (if t238 = true then (impl_CallOk.l0 k x6 x7 (wrap64 (x8 + 1)) x236000 x236001 x236002) else (some false))) else (none)) else (none)) else ((impl_HalfOk.f x236000).bind fun t239 => (if t239 = true then ((impl_HalfOk.f x236001).bind fun t240 => (if t240 = true then (some ((x236002.length : Int) == 3)) else (some false))) else (some false)))
def impl_CallOk.f (k : Nat) (a0_0 : Int) (a0_1 : Int) (l0_2 : List (S38)) : Option (Bool) := impl_CallOk.l0 k l0_2 (l0_2.length : Int) 0 a0_0 a0_1 l0_2
set_option maxHeartbeats 8000000 in
set_option maxRecDepth 100000 in
theorem impl_CallOk.calls (k : Nat) (a0_0 : Int) (a0_1 : Int) (A0_2 : Option Addr) (c0_2 : Nat) (l0_2 : List (S38)) (r : Bool) (w : World) (hr0_2 : Kd.C k38 w A0_2 l0_2.length l0_2) (hc0_2 : l0_2.length ≤ c0_2) (h : impl_CallOk.f k a0_0 a0_1 l0_2 = some r) :
 Calls Try.prog 79 #[.agg #[.int .i64 a0_0, .int .i64 a0_1, .slice A0_2 l0_2.length c0_2]] w fun e w' => e = .returned (.bool r) ∧ Below w.heap.size w w' := by
 have hu44 := Try.underlying44;have hu38 := Try.underlying38;have HR0_2 := Aside0.mk hr0_2;have HC0_2 := Aside0.mk hc0_2;clear hr0_2 hc0_2;have HB := Aside0.mk (Below.refl w.heap.size w);have H : (impl_CallOk.l0 k l0_2 (l0_2.length : Int) 0 a0_0 a0_1 l0_2) = some r := h;clear h;have H' := Aside0.mk H;clear H;go_enter Try.func79, Try.ntmps79
 go_wp2_with (first|((with_reducible refine gN 1 ?_);(try (refine gate_guard (by rfl) ?_; dsimp only));refine boxZ 1 #[.int .i64 a0_0, .int .i64 a0_1, .slice A0_2 l0_2.length c0_2] 44 ?_;intro gb235 hg w2 hbox hb;have BK235 := Aside0.mk (hbox);have GW235 := gS hg;have GE235 := gS hg;replace HB := sB hb;clear hb hbox hg;obtain ⟨hcz3_0, hcz3_1, hcz3_2, hfz3_0, hfz3_1, hfz3_2⟩ := cz3 BK235))
 go_loopg [8] k (fun kq v8 w' => ∃ (x8_1 : Int), v8 = .int .i64 x8_1 ∧ Aside0 (impl_CallOk.l0 kq l0_2 (l0_2.length : Int) x8_1 a0_0 a0_1 l0_2 = some r) ∧ Aside0 (kq ≤ k) ∧ Aside0 (w'.heap[gb235]? = some (.cells #[.int .i64 a0_0, .int .i64 a0_1, (.slice A0_2 l0_2.length c0_2)] 44 (0, 0))) ∧ Aside0 (Below w.heap.size w w'))
 case atStart => exact ⟨(0), rS, H', ⟨Nat.le_refl _⟩, ⟨mK BK235⟩, ⟨cB⟩⟩
 case round =>
  clear H';(try clear hcz3_0);(try clear hcz3_1);(try clear hcz3_2);(try clear hfz3_0);(try clear hfz3_1);(try clear hfz3_2);obtain ⟨x8_1, rfl, HA, HK1, BK235, HB⟩ := hrel
  cases gk with
  | zero => exact absurd HA.out (by simp [impl_CallOk.l0])
  | succ k1 =>
   have H := HA.out;clear HA;simp only [impl_CallOk.l0] at H;by_cases c4 : x8_1 < (l0_2.length : Int)
   ·rw [if_pos c4] at H;have c4b0 := decide_eq_true c4;clear c4;replace H := gD H;obtain ⟨c5b0, H⟩ := H;replace H := gD H;obtain ⟨c6b0, H⟩ := H;replace H := bE H;obtain ⟨t238, A7, H⟩ := H;by_cases c8 : t238 = true
    ·subst c8;replace H := iT H;have H' := Aside0.mk H;clear H;have p236 : 0 ≤ (x8_1 : Int) := dA;have q236 : x8_1 < (l0_2.length : Int) := dA;obtain ⟨ad236, e236, hx236_0, hx236_1⟩ := at_T38 HR0_2.out x8_1 p236 q236;cases e236;replace hx236_0 := (bc HB hx236_0 :);replace hx236_1 := (bc HB hx236_1 :);replace p236 := eq_true p236;replace q236 := eq_true q236
     go_wp2_with (first|((with_reducible refine gN 4 ?_);(try (refine gate_guard (by rfl) ?_; dsimp only));refine boxZ 4 #[.int .i64 0, .int .i64 0] 38 ?_;intro gb237 hg w9 hbox hb;have BK237 := Aside0.mk (hbox);have GW237 := gS hg;have GE237 := gS hg;replace HB := sB hb;have NB235_237 := nL hg BK235;have NB237_235 := nG hg BK235;replace BK235 := kB BK235 hb;clear hb hbox hg;have hnb10 := NB237_235.out;have hnc10 := NB235_237.out;obtain ⟨hcz11_0, hcz11_1, hfz11_0, hfz11_1⟩ := cz2 BK237)|((with_reducible refine gF 142 ?_);refine goZ (some 13) Try.func142 #[.agg #[.int .i64 ((rd_T38 l0_2 x8_1).f0), .int .i64 ((rd_T38 l0_2 x8_1).f1)]] ?_;(with_reducible refine (impl_WideOk.calls ((rd_T38 l0_2 x8_1).f0) ((rd_T38 l0_2 x8_1).f1) true _ A7.out).mono ?_);rintro e w12 ⟨rfl, hb⟩;refine ⟨_, rfl, ?_⟩;replace BK235 := kB BK235 hb;replace BK237 := kP BK237 hb (.cells #[.int .i64 ((rd_T38 l0_2 x8_1).f0), .int .i64 ((rd_T38 l0_2 x8_1).f1)] 38 (0, 0));replace HB := sB hb;(try clear hb)))
     go_roundg k1
     case measure => have := HK1.out; omega
     case rel => exact ⟨(wrap64 (x8_1 + 1)), rS, H', ⟨by have := HK1.out; omega⟩, ⟨mK BK235⟩, ⟨cB⟩⟩
    ·replace c8 := Bool.eq_false_iff.mpr c8;subst c8;replace H := iF H;obtain rfl := Option.some.inj H;have p236 : 0 ≤ (x8_1 : Int) := dA;have q236 : x8_1 < (l0_2.length : Int) := dA;obtain ⟨ad236, e236, hx236_0, hx236_1⟩ := at_T38 HR0_2.out x8_1 p236 q236;cases e236;replace hx236_0 := (bc HB hx236_0 :);replace hx236_1 := (bc HB hx236_1 :);replace p236 := eq_true p236;replace q236 := eq_true q236
     go_wp2_with (first|((with_reducible refine gN 4 ?_);(try (refine gate_guard (by rfl) ?_; dsimp only));refine boxZ 4 #[.int .i64 0, .int .i64 0] 38 ?_;intro gb237 hg w13 hbox hb;have BK237 := Aside0.mk (hbox);have GW237 := gS hg;have GE237 := gS hg;replace HB := sB hb;have NB235_237 := nL hg BK235;have NB237_235 := nG hg BK235;replace BK235 := kB BK235 hb;clear hb hbox hg;have hnb14 := NB237_235.out;have hnc14 := NB235_237.out;obtain ⟨hcz15_0, hcz15_1, hfz15_0, hfz15_1⟩ := cz2 BK237)|((with_reducible refine gF 142 ?_);refine goZ (some 13) Try.func142 #[.agg #[.int .i64 ((rd_T38 l0_2 x8_1).f0), .int .i64 ((rd_T38 l0_2 x8_1).f1)]] ?_;(with_reducible refine (impl_WideOk.calls ((rd_T38 l0_2 x8_1).f0) ((rd_T38 l0_2 x8_1).f1) false _ A7.out).mono ?_);rintro e w16 ⟨rfl, hb⟩;refine ⟨_, rfl, ?_⟩;replace BK235 := kB BK235 hb;replace BK237 := kP BK237 hb (.cells #[.int .i64 ((rd_T38 l0_2 x8_1).f0), .int .i64 ((rd_T38 l0_2 x8_1).f1)] 38 (0, 0));replace HB := sB hb;(try clear hb)))
     go_ret;exact ⟨rE, cB⟩
   ·rw [if_neg c4] at H;have c4b0 := decide_eq_false c4;clear c4;replace H := bE H;obtain ⟨t239, A17, H⟩ := H;by_cases c18 : t239 = true
    ·subst c18;replace H := iT H;replace H := bE H;obtain ⟨t240, A19, H⟩ := H;by_cases c20 : t240 = true
     ·subst c20;replace H := iT H;obtain rfl := Option.some.inj H;obtain ⟨hcz21_0, hcz21_1, hcz21_2, hfz21_0, hfz21_1, hfz21_2⟩ := cz3 BK235
      go_wp2_with (first|((with_reducible refine gF 105 ?_);refine goZ (some 18) Try.func105 #[.int .i64 a0_0] ?_;(with_reducible refine (impl_HalfOk.calls a0_0 true _ A17.out).mono ?_);rintro e w' ⟨rfl, ⟨nd, rfl⟩⟩;refine ⟨_, rfl, ?_⟩)|(go_at_call 105;(with_reducible refine (impl_HalfOk.calls a0_1 true _ A19.out).mono ?_);rintro e w' ⟨rfl, ⟨nd, rfl⟩⟩))
      go_ret;exact ⟨rE, cB⟩
     ·replace c20 := Bool.eq_false_iff.mpr c20;subst c20;replace H := iF H;obtain rfl := Option.some.inj H;obtain ⟨hcz22_0, hcz22_1, hcz22_2, hfz22_0, hfz22_1, hfz22_2⟩ := cz3 BK235
      go_wp2_with (first|((with_reducible refine gF 105 ?_);refine goZ (some 18) Try.func105 #[.int .i64 a0_0] ?_;(with_reducible refine (impl_HalfOk.calls a0_0 true _ A17.out).mono ?_);rintro e w' ⟨rfl, ⟨nd, rfl⟩⟩;refine ⟨_, rfl, ?_⟩)|(go_at_call 105;(with_reducible refine (impl_HalfOk.calls a0_1 false _ A19.out).mono ?_);rintro e w' ⟨rfl, ⟨nd, rfl⟩⟩))
      go_ret;exact ⟨rE, cB⟩
    ·replace c18 := Bool.eq_false_iff.mpr c18;subst c18;replace H := iF H;obtain rfl := Option.some.inj H;obtain ⟨hcz23_0, hcz23_1, hcz23_2, hfz23_0, hfz23_1, hfz23_2⟩ := cz3 BK235
     go_wp2_with (first|((with_reducible refine gF 105 ?_);refine goZ (some 18) Try.func105 #[.int .i64 a0_0] ?_;(with_reducible refine (impl_HalfOk.calls a0_0 false _ A17.out).mono ?_);rintro e w' ⟨rfl, ⟨nd, rfl⟩⟩;refine ⟨_, rfl, ?_⟩))
     go_ret;exact ⟨rE, cB⟩
def impl_ResultOf.f (a0 : Int) (a1 : Int) : Option (Int) := (impl_within.f a0 0 5).bind fun t241 => (if t241 = true then ((impl_within.f a1 0 65535).bind fun t242 => (if t242 = true then (some (wrap64 ((wrap64 (65536 * a0)) + a1))) else (some 0))) else (some 0))
set_option maxHeartbeats 8000000 in
set_option maxRecDepth 100000 in
theorem impl_ResultOf.calls (a0 : Int) (a1 : Int) (r : Int) (w : World) (h : impl_ResultOf.f a0 a1 = some r) :
 Calls Try.prog 133 #[.int .i64 a0, .int .i64 a1] w fun e w' => e = .returned (.int .i64 r) ∧ Drawn0 w w' := by
 have H : ((impl_within.f a0 0 5).bind fun t241 => (if t241 = true then ((impl_within.f a1 0 65535).bind fun t242 => (if t242 = true then (some (wrap64 ((wrap64 (65536 * a0)) + a1))) else (some 0))) else (some 0))) = some r := h
 clear h;replace H := bE H;obtain ⟨t241, A3, H⟩ := H;by_cases c4 : t241 = true
 ·subst c4;replace H := iT H;replace H := bE H;obtain ⟨t242, A5, H⟩ := H;by_cases c6 : t242 = true
  ·subst c6;replace H := iT H;obtain rfl := Option.some.inj H;go_enter Try.func133, Try.ntmps133
   go_wp2_with (first|((with_reducible refine gF 96 ?_);refine goZ (some 6) Try.func96 #[.int .i64 a0, .int .i64 0, .int .i64 5] ?_;(with_reducible refine (impl_within.calls a0 0 5 true _ A3.out).mono ?_);rintro e w' ⟨rfl, ⟨nd, rfl⟩⟩;refine ⟨_, rfl, ?_⟩)|(go_at_call 96;(with_reducible refine (impl_within.calls a1 0 65535 true _ A5.out).mono ?_);rintro e w' ⟨rfl, ⟨nd, rfl⟩⟩))
   go_ret
   exact ⟨by first | rfl | (simp; done) | (simp [*]; done), by repeat (first | exact Drawn0.refl _ | apply Drawn0.step)⟩
  ·replace c6 := Bool.eq_false_iff.mpr c6;subst c6;replace H := iF H;obtain rfl := Option.some.inj H;go_enter Try.func133, Try.ntmps133
   go_wp2_with (first|((with_reducible refine gF 96 ?_);refine goZ (some 6) Try.func96 #[.int .i64 a0, .int .i64 0, .int .i64 5] ?_;(with_reducible refine (impl_within.calls a0 0 5 true _ A3.out).mono ?_);rintro e w' ⟨rfl, ⟨nd, rfl⟩⟩;refine ⟨_, rfl, ?_⟩)|(go_at_call 96;(with_reducible refine (impl_within.calls a1 0 65535 false _ A5.out).mono ?_);rintro e w' ⟨rfl, ⟨nd, rfl⟩⟩))
   go_ret
   exact ⟨by first | rfl | (simp; done) | (simp [*]; done), by repeat (first | exact Drawn0.refl _ | apply Drawn0.step)⟩
 ·replace c4 := Bool.eq_false_iff.mpr c4;subst c4;replace H := iF H;obtain rfl := Option.some.inj H;go_enter Try.func133, Try.ntmps133
  go_wp2_with (first|((with_reducible refine gF 96 ?_);refine goZ (some 6) Try.func96 #[.int .i64 a0, .int .i64 0, .int .i64 5] ?_;(with_reducible refine (impl_within.calls a0 0 5 false _ A3.out).mono ?_);rintro e w' ⟨rfl, ⟨nd, rfl⟩⟩;refine ⟨_, rfl, ?_⟩))
  go_ret
  exact ⟨by first | rfl | (simp; done) | (simp [*]; done), by repeat (first | exact Drawn0.refl _ | apply Drawn0.step)⟩
def impl_FieldAt.j0 : Nat → Int → Bool → Int → Int → List (S38) → Option (Int × Bool)
  | 0, _, _, _, _, _ => none
  | k + 1, x1, x13, x244000, x244001, x244002 => if x13 = true then (some (0, false)) else (if x1 = 0 then (some (x244001, true)) else (if x1 = 1 then (some (x244000, true)) else (if (Int.tmod x1 2) = 0 then (if 0 ≤ (wrap64 ((wrap64 (Int.tdiv x1 2)) - 1)) then (if (wrap64 ((wrap64 (Int.tdiv x1 2)) - 1)) < (x244002.length : Int) then (some ((rd_T38 x244002 (wrap64 ((wrap64 (Int.tdiv x1 2)) - 1))).f1, true)) else (none)) else (none)) else (if 0 ≤ (wrap64 ((wrap64 (Int.tdiv x1 2)) - 1)) then (if (wrap64 ((wrap64 (Int.tdiv x1 2)) - 1)) < (x244002.length : Int) then (some ((rd_T38 x244002 (wrap64 ((wrap64 (Int.tdiv x1 2)) - 1))).f0, true)) else (none)) else (none)))))
def impl_FieldAt.f (k : Nat) (a0_0 : Int) (a0_1 : Int) (l0_2 : List (S38)) (a1 : Int) : Option (Int × Bool) := (impl_CallOk.f k a0_0 a0_1 l0_2).bind fun t244 => (if t244 = true then ((impl_within.f a1 0 7).bind fun t245 => (impl_FieldAt.j0 k a1 (!t245) a0_0 a0_1 l0_2)) else (impl_FieldAt.j0 k a1 true a0_0 a0_1 l0_2))
set_option maxHeartbeats 8000000 in
set_option maxRecDepth 100000 in
theorem impl_FieldAt.calls (k : Nat) (a0_0 : Int) (a0_1 : Int) (A0_2 : Option Addr) (c0_2 : Nat) (l0_2 : List (S38)) (a1 : Int) (r1 : Int) (r2 : Bool) (w : World) (hr0_2 : Kd.C k38 w A0_2 l0_2.length l0_2) (hc0_2 : l0_2.length ≤ c0_2) (h : impl_FieldAt.f k a0_0 a0_1 l0_2 a1 = some (r1, r2)) :
 Calls Try.prog 163 #[.agg #[.int .i64 a0_0, .int .i64 a0_1, .slice A0_2 l0_2.length c0_2], .int .i64 a1] w fun e w' => e = .returned (.tuple #[.int .i64 r1, .bool r2]) ∧ Below w.heap.size w w' := by
 have hu44 := Try.underlying44;have HR0_2 := Aside0.mk hr0_2;have HC0_2 := Aside0.mk hc0_2;clear hr0_2 hc0_2;have HB := Aside0.mk (Below.refl w.heap.size w)
 have H : ((impl_CallOk.f k a0_0 a0_1 l0_2).bind fun t244 => (if t244 = true then ((impl_within.f a1 0 7).bind fun t245 => (impl_FieldAt.j0 k a1 (!t245) a0_0 a0_1 l0_2)) else (impl_FieldAt.j0 k a1 true a0_0 a0_1 l0_2))) = some (r1, r2) := h
 clear h;have HC3 := Aside0.mk H;clear H;go_enter Try.func163, Try.ntmps163
 go_upto_region 1 with (first|((with_reducible refine gN 2 ?_);refine boxZ 2 #[.int .i64 a0_0, .int .i64 a0_1, .slice A0_2 l0_2.length c0_2] 44 ?_;intro gb243 hg w4 hbox hb;have BK243 := Aside0.mk (hbox);have GW243 := gS hg;have GE243 := gS hg;replace HB := sB hb;clear hb hbox hg))
 (try simp only [Act.put, List.setIfInBounds_toArray, List.set_cons_zero, List.set_cons_succ])
 go_cut [13] (fun v13 wc => ∃ (kq : Nat) (x13_2 : Bool), v13 = .bool x13_2 ∧ Aside0 (impl_FieldAt.j0 kq a1 x13_2 a0_0 a0_1 l0_2 = some (r1, r2)) ∧ Aside0 (kq ≤ k) ∧ Aside0 (wc.heap[gb243]? = some (.cells #[.int .i64 a0_0, .int .i64 a0_1, (.slice A0_2 l0_2.length c0_2)] 44 (0, 0))) ∧ Aside0 (Below w.heap.size w wc))
 case first =>
  have H := HC3.out;clear HC3;replace H := bE H;obtain ⟨t244, A5, H⟩ := H;by_cases c6 : t244 = true
  ·subst c6;replace H := iT H;replace H := bE H;obtain ⟨t245, A7, H⟩ := H;have H' := Aside0.mk H;clear H;obtain ⟨hcz8_0, hcz8_1, hcz8_2, hfz8_0, hfz8_1, hfz8_2⟩ := cz3 BK243
   go_wp2_with (first|((with_reducible refine gF 79 ?_);refine goZ (some 7) Try.func79 #[.agg #[.int .i64 a0_0, .int .i64 a0_1, .slice A0_2 l0_2.length c0_2]] ?_;(with_reducible refine (impl_CallOk.calls k a0_0 a0_1 _ _ l0_2 true _ ?side1 ?side2 A5.out).mono ?_);(case side1 => exact cC (Kd.C_below HR0_2.out HB.out));(case side2 => exact HC0_2.out);rintro e w9 ⟨rfl, hb⟩;refine ⟨_, rfl, ?_⟩;replace BK243 := kB BK243 hb;replace HB := sB hb;(try clear hb))|(go_at_call 96;(with_reducible refine (impl_within.calls a1 0 7 t245 _ A7.out).mono ?_);rintro e w' ⟨rfl, ⟨nd, rfl⟩⟩))
   go_meet
   case rel => exact ⟨_, (!t245), rS, H', ⟨oL⟩, ⟨mK BK243⟩, ⟨cB⟩⟩
  ·replace c6 := Bool.eq_false_iff.mpr c6;subst c6;replace H := iF H;have H' := Aside0.mk H;clear H;obtain ⟨hcz10_0, hcz10_1, hcz10_2, hfz10_0, hfz10_1, hfz10_2⟩ := cz3 BK243
   go_wp2_with (first|((with_reducible refine gF 79 ?_);refine goZ (some 7) Try.func79 #[.agg #[.int .i64 a0_0, .int .i64 a0_1, .slice A0_2 l0_2.length c0_2]] ?_;(with_reducible refine (impl_CallOk.calls k a0_0 a0_1 _ _ l0_2 false _ ?side1 ?side2 A5.out).mono ?_);(case side1 => exact cC (Kd.C_below HR0_2.out HB.out));(case side2 => exact HC0_2.out);rintro e w11 ⟨rfl, hb⟩;refine ⟨_, rfl, ?_⟩;replace BK243 := kB BK243 hb;replace HB := sB hb;(try clear hb)))
   go_meet
   case rel => exact ⟨_, (true), rS, H', ⟨oL⟩, ⟨mK BK243⟩, ⟨cB⟩⟩
 case rest =>
  clear HC3;(try clear c6);(try clear hcz10_0);(try clear hcz10_1);(try clear hcz10_2);(try clear hcz8_0);(try clear hcz8_1);(try clear hcz8_2);(try clear hfz10_0);(try clear hfz10_1);(try clear hfz10_2);(try clear hfz8_0);(try clear hfz8_1);(try clear hfz8_2);obtain ⟨kq, x13_2, rfl, HA, HJ2, BK243, HB⟩ := hcut
  cases kq with
  | zero => exact absurd HA.out (by simp [impl_FieldAt.j0])
  | succ kj2 =>
   have H := HA.out;clear HA;simp only [impl_FieldAt.j0] at H;by_cases c12 : x13_2 = true
   ·subst c12;replace H := iT H;simp only [Option.some.injEq, Prod.mk.injEq] at H;obtain ⟨rfl, rfl⟩ := H;go_wp2;go_ret2;exact ⟨rE, cB⟩
   ·replace c12 := Bool.eq_false_iff.mpr c12;subst c12;replace H := iF H;by_cases c13 : a1 = 0
    ·rw [if_pos c13] at H;obtain ⟨c13b0, c13b1⟩ := eT c13;clear c13;simp only [Option.some.injEq, Prod.mk.injEq] at H;obtain ⟨rfl, rfl⟩ := H;obtain ⟨hcz14_0, hcz14_1, hcz14_2, hfz14_0, hfz14_1, hfz14_2⟩ := cz3 BK243;go_wp2;go_ret2;exact ⟨rE, cB⟩
    ·rw [if_neg c13] at H;obtain ⟨c13b0, c13b1⟩ := eF c13;by_cases c15 : a1 = 1
     ·rw [if_pos c15] at H;obtain ⟨c15b0, c15b1⟩ := eT c15;clear c15;simp only [Option.some.injEq, Prod.mk.injEq] at H;obtain ⟨rfl, rfl⟩ := H;obtain ⟨hcz16_0, hcz16_1, hcz16_2, hfz16_0, hfz16_1, hfz16_2⟩ := cz3 BK243;go_wp2;go_ret2;exact ⟨rE, cB⟩
     ·rw [if_neg c15] at H;obtain ⟨c15b0, c15b1⟩ := eF c15;by_cases c17 : (Int.tmod a1 2) = 0
      ·rw [if_pos c17] at H;obtain ⟨c17b0, c17b1⟩ := eT c17;clear c17;obtain ⟨ji18, hji18⟩ : ∃ j_ : Int, (wrap64 ((wrap64 (Int.tdiv a1 2)) - 1)) = j_ := ⟨_, rfl⟩
       (first|rw [hji18] at H|simp only [hji18] at H)
       have hji18w : (IntKind.i64.wrap ((wrap64 (Int.tdiv a1 2)) - 1)) = ji18 := (i64_w _).trans hji18;replace H := gD H;obtain ⟨c19b0, H⟩ := H;replace H := gD H;obtain ⟨c20b0, H⟩ := H;simp only [Option.some.injEq, Prod.mk.injEq] at H;obtain ⟨rfl, rfl⟩ := H;obtain ⟨hcz21_0, hcz21_1, hcz21_2, hfz21_0, hfz21_1, hfz21_2⟩ := cz3 BK243;have p246 : 0 ≤ ((ji18) : Int) := dA;have q246 : (ji18) < (l0_2.length : Int) := dA;obtain ⟨ad246, e246, hx246_0, hx246_1⟩ := at_T38 HR0_2.out (ji18) p246 q246;cases e246;replace hx246_0 := (bc HB hx246_0 :);replace hx246_1 := (bc HB hx246_1 :);replace p246 := eq_true p246;replace q246 := eq_true q246;go_wp2;go_ret2
       exact ⟨by first | rfl | (simp [errW_none, errW_some] <;> rfl) | (simp only [← hji18]; first | rfl | (simp [errW_none, errW_some] <;> rfl)) | (simp [*, errW_none, errW_some] <;> rfl), cB⟩
      ·rw [if_neg c17] at H;obtain ⟨c17b0, c17b1⟩ := eF c17;obtain ⟨ji22, hji22⟩ : ∃ j_ : Int, (wrap64 ((wrap64 (Int.tdiv a1 2)) - 1)) = j_ := ⟨_, rfl⟩
       (first|rw [hji22] at H|simp only [hji22] at H)
       have hji22w : (IntKind.i64.wrap ((wrap64 (Int.tdiv a1 2)) - 1)) = ji22 := (i64_w _).trans hji22;replace H := gD H;obtain ⟨c23b0, H⟩ := H;replace H := gD H;obtain ⟨c24b0, H⟩ := H;simp only [Option.some.injEq, Prod.mk.injEq] at H;obtain ⟨rfl, rfl⟩ := H;obtain ⟨hcz25_0, hcz25_1, hcz25_2, hfz25_0, hfz25_1, hfz25_2⟩ := cz3 BK243;have p247 : 0 ≤ ((ji22) : Int) := dA;have q247 : (ji22) < (l0_2.length : Int) := dA;obtain ⟨ad247, e247, hx247_0, hx247_1⟩ := at_T38 HR0_2.out (ji22) p247 q247;cases e247;replace hx247_0 := (bc HB hx247_0 :);replace hx247_1 := (bc HB hx247_1 :);replace p247 := eq_true p247;replace q247 := eq_true q247;go_wp2;go_ret2
       exact ⟨by first | rfl | (simp [errW_none, errW_some] <;> rfl) | (simp only [← hji22]; first | rfl | (simp [errW_none, errW_some] <;> rfl)) | (simp [*, errW_none, errW_some] <;> rfl), cB⟩
def impl_Ins_holds.f (a0_0 : Int) (a0_1 : Int) (a0_2 : Int) (a0_3 : Int) (a1 : Int) : Option (Bool) := if a0_0 = 3 then (some (a1 == a0_1)) else (if a0_0 = 4 then (some (decide (a1 > a0_1))) else (if a0_0 = 5 then (some (decide (a1 ≥ a0_1))) else (some ((Go.bits .and .i64 a1 a0_1) != 0))))
set_option maxHeartbeats 8000000 in
set_option maxRecDepth 100000 in
theorem impl_Ins_holds.calls (a0_0 : Int) (a0_1 : Int) (a0_2 : Int) (a0_3 : Int) (a1 : Int) (r : Bool) (w : World) (h : impl_Ins_holds.f a0_0 a0_1 a0_2 a0_3 a1 = some r) :
 Calls Try.prog 164 #[.agg #[.int .i64 a0_0, .int .i64 a0_1, .int .i64 a0_2, .int .i64 a0_3], .int .i64 a1] w fun e w' => e = .returned (.bool r) ∧ Below w.heap.size w w' := by
 have hu118 := Try.underlying118;have HB := Aside0.mk (Below.refl w.heap.size w);have H : (if a0_0 = 3 then (some (a1 == a0_1)) else (if a0_0 = 4 then (some (decide (a1 > a0_1))) else (if a0_0 = 5 then (some (decide (a1 ≥ a0_1))) else (some ((Go.bits .and .i64 a1 a0_1) != 0))))) = some r := h;clear h;by_cases c3 : a0_0 = 3
 ·rw [if_pos c3] at H;obtain ⟨c3b0, c3b1⟩ := eT c3;clear c3;obtain rfl := Option.some.inj H;go_enter Try.func164, Try.ntmps164
  go_wp2_with (first|((with_reducible refine gN 2 ?_);refine boxZ 2 #[.int .i64 a0_0, .int .i64 a0_1, .int .i64 a0_2, .int .i64 a0_3] 118 ?_;intro gb248 hg w4 hbox hb;have BK248 := Aside0.mk (hbox);have GW248 := gS hg;have GE248 := gS hg;replace HB := sB hb;clear hb hbox hg;obtain ⟨hcz5_0, hcz5_1, hcz5_2, hcz5_3, hfz5_0, hfz5_1, hfz5_2, hfz5_3⟩ := cz4 BK248))
  go_ret;exact ⟨rE, cB⟩
 ·rw [if_neg c3] at H;obtain ⟨c3b0, c3b1⟩ := eF c3;by_cases c6 : a0_0 = 4
  ·rw [if_pos c6] at H;obtain ⟨c6b0, c6b1⟩ := eT c6;clear c6;obtain rfl := Option.some.inj H;go_enter Try.func164, Try.ntmps164
   go_wp2_with (first|((with_reducible refine gN 2 ?_);refine boxZ 2 #[.int .i64 a0_0, .int .i64 a0_1, .int .i64 a0_2, .int .i64 a0_3] 118 ?_;intro gb248 hg w7 hbox hb;have BK248 := Aside0.mk (hbox);have GW248 := gS hg;have GE248 := gS hg;replace HB := sB hb;clear hb hbox hg;obtain ⟨hcz8_0, hcz8_1, hcz8_2, hcz8_3, hfz8_0, hfz8_1, hfz8_2, hfz8_3⟩ := cz4 BK248))
   go_ret;exact ⟨rE, cB⟩
  ·rw [if_neg c6] at H;obtain ⟨c6b0, c6b1⟩ := eF c6;by_cases c9 : a0_0 = 5
   ·rw [if_pos c9] at H;obtain ⟨c9b0, c9b1⟩ := eT c9;clear c9;obtain rfl := Option.some.inj H;go_enter Try.func164, Try.ntmps164
    go_wp2_with (first|((with_reducible refine gN 2 ?_);refine boxZ 2 #[.int .i64 a0_0, .int .i64 a0_1, .int .i64 a0_2, .int .i64 a0_3] 118 ?_;intro gb248 hg w10 hbox hb;have BK248 := Aside0.mk (hbox);have GW248 := gS hg;have GE248 := gS hg;replace HB := sB hb;clear hb hbox hg;obtain ⟨hcz11_0, hcz11_1, hcz11_2, hcz11_3, hfz11_0, hfz11_1, hfz11_2, hfz11_3⟩ := cz4 BK248))
    go_ret;exact ⟨rE, cB⟩
   ·rw [if_neg c9] at H;obtain ⟨c9b0, c9b1⟩ := eF c9;obtain rfl := Option.some.inj H;go_enter Try.func164, Try.ntmps164
    go_wp2_with (first|((with_reducible refine gN 2 ?_);refine boxZ 2 #[.int .i64 a0_0, .int .i64 a0_1, .int .i64 a0_2, .int .i64 a0_3] 118 ?_;intro gb248 hg w12 hbox hb;have BK248 := Aside0.mk (hbox);have GW248 := gS hg;have GE248 := gS hg;replace HB := sB hb;clear hb hbox hg;obtain ⟨hcz13_0, hcz13_1, hcz13_2, hcz13_3, hfz13_0, hfz13_1, hfz13_2, hfz13_3⟩ := cz4 BK248))
    go_ret;exact ⟨rE, cB⟩
end Go.Proofs.Ytiinjipfhmgheaa.PFnExactRunStack
