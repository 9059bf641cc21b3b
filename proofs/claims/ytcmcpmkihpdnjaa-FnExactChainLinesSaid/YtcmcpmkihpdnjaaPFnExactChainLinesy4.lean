import Derived.Test.YtcmcpmkihpdnjaaPFnExactChainLinesy0
import Derived.Test.YtcmcpmkihpdnjaaPFnExactChainLinesy3
namespace Go.Proofs.Ytcmcpmkihpdnjaa.PFnExactChainLines
open Go.RowKit Go.Proofs.YtcmcpmkihpdnjaaW.PrintWords Go.Proofs.YtcmcpmkihpdnjaaW.PrintLast Go.Proofs.YtcmcpmkihpdnjaaW.PrintMore Go.Proofs.YtcmcpmkihpdnjaaW.Z
attribute [local go_sem] isS max2_int min2_int max_two min_two max_three min_three max_four min_four
set_option linter.unusedVariables false
set_option linter.unusedSimpArgs false
theorem qh4x0 {P : Prop} (h : P := by exact ⟨(blk_cell BK205.out 0).trans rfl, (blk_cell BK205.out 1).trans rfl, (blk_cell BK205.out 2).trans rfl, (blk_cell BK205.out 3).trans rfl, (blk_cell BK205.out 4).trans rfl, (blk_cell BK205.out 5).trans rfl⟩) : P := h
def spec_Decimal.l0 : Nat → Int → Bool → ByteArray → Option (ByteArray)
  | 0, _, _, _ => none
  | k + 1, x0, x3, x4 => if x0 = 0 then (if x3 = true then (if 1 + x4.size ≤ 9223372036854775807 then (some ((⟨#[45]⟩ : ByteArray) ++ x4)) else (none)) else (some x4)) else (if (Int.tmod x0 10) < 0 then ((spec_l01Figure.f (wrap64 (-(Int.tmod x0 10)))).bind fun t187 => ((some (([t187] : List Int) : List Int)).bind fun y188 => (if (strOfNums y188).size + x4.size ≤ 9223372036854775807 then (spec_Decimal.l0 k (wrap64 (Int.tdiv x0 10)) x3 ((strOfNums y188) ++ x4)) else (none)))) else ((spec_l01Figure.f (Int.tmod x0 10)).bind fun t191 => ((some (([t191] : List Int) : List Int)).bind fun y192 => (if (strOfNums y192).size + x4.size ≤ 9223372036854775807 then (spec_Decimal.l0 k (wrap64 (Int.tdiv x0 10)) x3 ((strOfNums y192) ++ x4)) else (none)))))
def spec_Decimal.f (k : Nat) (a0 : Int) : Option (ByteArray) := if a0 = 0 then (some (⟨#[48]⟩ : ByteArray)) else (spec_Decimal.l0 k a0 (decide (a0 < 0)) (⟨#[]⟩ : ByteArray))
set_option maxHeartbeats 8000000 in
set_option maxRecDepth 100000 in
theorem spec_Decimal.calls (k : Nat) (a0 : Int) (r : ByteArray) (w : World) (h : spec_Decimal.f k a0 = some r) :
 Calls Try.prog 128 #[.int .i64 a0] w fun e w' => e = .returned (.string r) ∧ Below w.heap.size w w' := by
 have HB := Aside0.mk (Below.refl w.heap.size w);have H : (if a0 = 0 then (some (⟨#[48]⟩ : ByteArray)) else (spec_Decimal.l0 k a0 (decide (a0 < 0)) (⟨#[]⟩ : ByteArray))) = some r := h;clear h;by_cases c2 : a0 = 0
 ·rw [if_pos c2] at H;obtain ⟨c2b0, c2b1⟩ := eT c2;clear c2;obtain rfl := Option.some.inj H;go_enter Try.func128, Try.ntmps128;go_wp2;go_ret;exact ⟨rE, cB⟩
 ·rw [if_neg c2] at H;obtain ⟨c2b0, c2b1⟩ := eF c2;have H' := Aside0.mk H;clear H;go_enter Try.func128, Try.ntmps128;go_wp2
  go_loopg [0, 4] k (fun kq v0 v4 w' => ∃ (x0_1 : Int) (x4_1 : ByteArray), v0 = .int .i64 x0_1 ∧ v4 = .string x4_1 ∧ Aside0 (spec_Decimal.l0 kq x0_1 (decide (a0 < 0)) x4_1 = some r) ∧ Aside0 (kq ≤ k) ∧ Aside0 (Below w.heap.size w w'))
  case atStart => exact ⟨(a0), ((⟨#[]⟩ : ByteArray)), rS, rS, H', ⟨Nat.le_refl _⟩, ⟨cB⟩⟩
  case round =>
   clear H';(try clear c2);(try clear c2b0);(try clear c2b1);obtain ⟨x0_1, x4_1, rfl, rfl, HA, HK1, HB⟩ := hrel
   cases gk with
   | zero => exact absurd HA.out (by simp [spec_Decimal.l0])
   | succ k1 =>
    have H := HA.out;clear HA;simp only [spec_Decimal.l0] at H;by_cases c3 : x0_1 = 0
    ·rw [if_pos c3] at H;obtain ⟨c3b0, c3b1⟩ := eT c3;clear c3;by_cases c4 : (decide (a0 < 0)) = true
     ·rw [if_pos c4] at H;have c4b0 : (decide (a0 < 0)) = true := c4;(try have c4b6 : (0 ≤ a0) = False := eq_false (by have h_ := of_decide_eq_true c4b0; omega));(try have c4b7 : (a0 < 0) = True := eq_true (of_decide_eq_true c4b0));clear c4;replace H := gC H;obtain ⟨c5, H⟩ := H;have c5b0 := eq_true c5;have c5b1 : decide (1 + x4_1.size ≤ 9223372036854775807) = true := decide_eq_true c5
      try have c5b2 : (9223372036854775807 < 1 + x4_1.size) = False := eq_false (Nat.not_lt.2 c5)
      obtain rfl := Option.some.inj H;go_wp2;(try any_goals (exfalso; have h_ := of_decide_eq_true c4b0; omega));go_ret;exact ⟨rE, cB⟩
     ·rw [if_neg c4] at H
      have c4b0 : (decide (a0 < 0)) = false := by simpa using c4
      (try have c4b6 : (0 ≤ a0) = True := eq_true (by have h_ := of_decide_eq_false c4b0; omega));(try have c4b7 : (a0 < 0) = False := eq_false (of_decide_eq_false c4b0))
      clear c4;obtain rfl := Option.some.inj H;go_wp2;(try any_goals (exfalso; have h_ := of_decide_eq_false c4b0; omega));go_ret;exact ⟨rE, cB⟩
    ·rw [if_neg c3] at H;obtain ⟨c3b0, c3b1⟩ := eF c3;by_cases c6 : (Int.tmod x0_1 10) < 0
     ·rw [if_pos c6] at H;have c6b0 := decide_eq_true c6;clear c6;replace H := bE H;obtain ⟨t187, A7, H⟩ := H;replace H := nE H;obtain ⟨y188, Ny188, H⟩ := H;replace H := gC H;obtain ⟨c8, H⟩ := H;have c8b0 := eq_true c8;have c8b1 : decide ((strOfNums y188).size + x4_1.size ≤ 9223372036854775807) = true := decide_eq_true c8
      try have c8b2 : (9223372036854775807 < (strOfNums y188).size + x4_1.size) = False := eq_false (Nat.not_lt.2 c8)
      have H' := Aside0.mk H;clear H
      go_wp2_with (first|((with_reducible refine gF 158 ?_);refine goZ (some 19) Try.func158 #[.int .i64 (wrap64 (-(Int.tmod x0_1 10)))] ?_;(with_reducible refine (spec_l01Figure.calls (wrap64 (-(Int.tmod x0_1 10))) t187 _ A7.out).mono ?_);rintro e w' ⟨rfl, ⟨nd, rfl⟩⟩;refine ⟨_, rfl, ?_⟩)|((with_reducible refine gN 20 ?_);refine Kd.R_lit (Kd.int .u8) _ 5 ?hg (N := 20) ?hd (xs := ([t187] : List Int)) (inner := [.int .u8 t187]) (ok := fun _ => True) (okp := fun _ => True) ?hr ?hp (fun _ hk => hk) trivial (Below.refl _ _) (Nat.le_refl _) (by simp) ?_;(case hd => rfl);(case hg => rfl);(case hr => exact rG);(case hp => exact (Reps.one (show Kd.M (Kd.int .u8) _ _ _ t187 [.int .u8 t187] from rfl) (Reps.none _ _)));intro v189 w9 ho10 hb hg_ hnew_;clear hg_ hnew_;(first | rw [← Ny188.out] at ho10 | (simp only [Int.reduceToNat] at ho10; rw [← Ny188.out] at ho10));have HO190 := Aside0.mk (Kd.R_lower ho10 (below_size cB));replace HB := sB hb;clear hb ho10;have hcv11 := own_string (P := Try.prog) Try.underlying107 Try.underlying5 Try.underlying9 (Kd.own_of_R HO190.out)))
      go_roundg k1
      case measure => have := HK1.out; omega
      case rel => exact ⟨(wrap64 (Int.tdiv x0_1 10)), ((strOfNums y188) ++ x4_1), rS, rS, H', ⟨by have := HK1.out; omega⟩, ⟨cB⟩⟩
     ·rw [if_neg c6] at H;have c6b0 := decide_eq_false c6;clear c6;replace H := bE H;obtain ⟨t191, A12, H⟩ := H;replace H := nE H;obtain ⟨y192, Ny192, H⟩ := H;replace H := gC H;obtain ⟨c13, H⟩ := H;have c13b0 := eq_true c13;have c13b1 : decide ((strOfNums y192).size + x4_1.size ≤ 9223372036854775807) = true := decide_eq_true c13
      try have c13b2 : (9223372036854775807 < (strOfNums y192).size + x4_1.size) = False := eq_false (Nat.not_lt.2 c13)
      have H' := Aside0.mk H;clear H
      go_wp2_with (first|((with_reducible refine gF 158 ?_);refine goZ (some 19) Try.func158 #[.int .i64 (Int.tmod x0_1 10)] ?_;(with_reducible refine (spec_l01Figure.calls (Int.tmod x0_1 10) t191 _ A12.out).mono ?_);rintro e w' ⟨rfl, ⟨nd, rfl⟩⟩;refine ⟨_, rfl, ?_⟩)|((with_reducible refine gN 20 ?_);refine Kd.R_lit (Kd.int .u8) _ 5 ?hg (N := 20) ?hd (xs := ([t191] : List Int)) (inner := [.int .u8 t191]) (ok := fun _ => True) (okp := fun _ => True) ?hr ?hp (fun _ hk => hk) trivial (Below.refl _ _) (Nat.le_refl _) (by simp) ?_;(case hd => rfl);(case hg => rfl);(case hr => exact rG);(case hp => exact (Reps.one (show Kd.M (Kd.int .u8) _ _ _ t191 [.int .u8 t191] from rfl) (Reps.none _ _)));intro v193 w14 ho15 hb hg_ hnew_;clear hg_ hnew_;(first | rw [← Ny192.out] at ho15 | (simp only [Int.reduceToNat] at ho15; rw [← Ny192.out] at ho15));have HO194 := Aside0.mk (Kd.R_lower ho15 (below_size cB));replace HB := sB hb;clear hb ho15;have hcv16 := own_string (P := Try.prog) Try.underlying107 Try.underlying5 Try.underlying9 (Kd.own_of_R HO194.out)))
      go_roundg k1
      case measure => have := HK1.out; omega
      case rel => exact ⟨(wrap64 (Int.tdiv x0_1 10)), ((strOfNums y192) ++ x4_1), rS, rS, H', ⟨by have := HK1.out; omega⟩, ⟨cB⟩⟩
def spec_HalfOk.f (a0 : Int) : Option (Bool) := (spec_l01In.f a0 0 4294967295).bind fun t195 => (some t195)
set_option maxHeartbeats 8000000 in
set_option maxRecDepth 100000 in
theorem spec_HalfOk.calls (a0 : Int) (r : Bool) (w : World) (h : spec_HalfOk.f a0 = some r) :
 Calls Try.prog 62 #[.int .i64 a0] w fun e w' => e = .returned (.bool r) ∧ Drawn0 w w' := by
 have H : ((spec_l01In.f a0 0 4294967295).bind fun t195 => (some t195)) = some r := h
 clear h;replace H := bE H;obtain ⟨t195, A2, H⟩ := H;obtain rfl := Option.some.inj H;go_enter Try.func62, Try.ntmps62
 go_wp2_with (first|((with_reducible refine gF 112 ?_);refine goZ (some 4) Try.func112 #[.int .i64 a0, .int .i64 0, .int .i64 4294967295] ?_;(with_reducible refine (spec_l01In.calls a0 0 4294967295 t195 _ A2.out).mono ?_);rintro e w' ⟨rfl, ⟨nd, rfl⟩⟩;refine ⟨_, rfl, ?_⟩))
 go_ret
 exact ⟨by first | rfl | (simp; done) | (simp [*]; done), by repeat (first | exact Drawn0.refl _ | apply Drawn0.step)⟩
def spec_WideOk.f (a0_0 : Int) (a0_1 : Int) : Option (Bool) := (spec_HalfOk.f a0_0).bind fun t197 => (if t197 = true then ((spec_HalfOk.f a0_1).bind fun t198 => (some t198)) else (some false))
set_option maxHeartbeats 8000000 in
set_option maxRecDepth 100000 in
theorem spec_WideOk.calls (a0_0 : Int) (a0_1 : Int) (r : Bool) (w : World) (h : spec_WideOk.f a0_0 a0_1 = some r) :
 Calls Try.prog 183 #[.agg #[.int .i64 a0_0, .int .i64 a0_1]] w fun e w' => e = .returned (.bool r) ∧ Below w.heap.size w w' := by
 have hu93 := Try.underlying93;have HB := Aside0.mk (Below.refl w.heap.size w)
 have H : ((spec_HalfOk.f a0_0).bind fun t197 => (if t197 = true then ((spec_HalfOk.f a0_1).bind fun t198 => (some t198)) else (some false))) = some r := h
 clear h;replace H := bE H;obtain ⟨t197, A2, H⟩ := H;by_cases c3 : t197 = true
 ·subst c3;replace H := iT H;replace H := bE H;obtain ⟨t198, A4, H⟩ := H;obtain rfl := Option.some.inj H;go_enter Try.func183, Try.ntmps183
  go_wp2_with (first|((with_reducible refine gN 1 ?_);refine boxZ 1 #[.int .i64 a0_0, .int .i64 a0_1] 93 ?_;intro gb196 hg w5 hbox hb;have BK196 := Aside0.mk (hbox);have GW196 := gS hg;have GE196 := gS hg;replace HB := sB hb;clear hb hbox hg;obtain ⟨hcz6_0, hcz6_1, hfz6_0, hfz6_1⟩ := cz2 BK196)|((with_reducible refine gF 62 ?_);refine goZ (some 5) Try.func62 #[.int .i64 a0_0] ?_;(with_reducible refine (spec_HalfOk.calls a0_0 true _ A2.out).mono ?_);rintro e w' ⟨rfl, ⟨nd, rfl⟩⟩;refine ⟨_, rfl, ?_⟩)|(go_at_call 62;(with_reducible refine (spec_HalfOk.calls a0_1 t198 _ A4.out).mono ?_);rintro e w' ⟨rfl, ⟨nd, rfl⟩⟩))
  go_ret;exact ⟨rE, cB⟩
 ·replace c3 := Bool.eq_false_iff.mpr c3;subst c3;replace H := iF H;obtain rfl := Option.some.inj H;go_enter Try.func183, Try.ntmps183
  go_wp2_with (first|((with_reducible refine gN 1 ?_);refine boxZ 1 #[.int .i64 a0_0, .int .i64 a0_1] 93 ?_;intro gb196 hg w7 hbox hb;have BK196 := Aside0.mk (hbox);have GW196 := gS hg;have GE196 := gS hg;replace HB := sB hb;clear hb hbox hg;obtain ⟨hcz8_0, hcz8_1, hfz8_0, hfz8_1⟩ := cz2 BK196)|((with_reducible refine gF 62 ?_);refine goZ (some 5) Try.func62 #[.int .i64 a0_0] ?_;(with_reducible refine (spec_HalfOk.calls a0_0 false _ A2.out).mono ?_);rintro e w' ⟨rfl, ⟨nd, rfl⟩⟩;refine ⟨_, rfl, ?_⟩))
  go_ret;exact ⟨rE, cB⟩
def spec_CondOk.f (a0_0 : Int) (a0_1 : Int) (a0_2 : Int) (a0_3 : Int) (a0_4 : Int) (a0_5 : Int) : Option (Bool) := (spec_l01In.f a0_0 0 2).bind fun t200 => (if t200 = true then ((spec_WideOk.f a0_1 a0_2).bind fun t201 => (if t201 = true then ((spec_WideOk.f a0_4 a0_5).bind fun t202 => (if t202 = true then ((spec_l01In.f a0_3 1 6).bind fun t203 => (some t203)) else (some false))) else (some false))) else (some false))
set_option maxHeartbeats 8000000 in
set_option maxRecDepth 100000 in
theorem spec_CondOk.calls (a0_0 : Int) (a0_1 : Int) (a0_2 : Int) (a0_3 : Int) (a0_4 : Int) (a0_5 : Int) (r : Bool) (w : World) (h : spec_CondOk.f a0_0 a0_1 a0_2 a0_3 a0_4 a0_5 = some r) :
 Calls Try.prog 156 #[.agg #[.int .i64 a0_0, .int .i64 a0_1, .int .i64 a0_2, .int .i64 a0_3, .int .i64 a0_4, .int .i64 a0_5]] w fun e w' => e = .returned (.bool r) ∧ Below w.heap.size w w' := by
 have hu95 := Try.underlying95;have hu93 := Try.underlying93;have HB := Aside0.mk (Below.refl w.heap.size w)
 have H : ((spec_l01In.f a0_0 0 2).bind fun t200 => (if t200 = true then ((spec_WideOk.f a0_1 a0_2).bind fun t201 => (if t201 = true then ((spec_WideOk.f a0_4 a0_5).bind fun t202 => (if t202 = true then ((spec_l01In.f a0_3 1 6).bind fun t203 => (some t203)) else (some false))) else (some false))) else (some false))) = some r := h
 clear h;replace H := bE H;obtain ⟨t200, A2, H⟩ := H;by_cases c3 : t200 = true
 ·subst c3;replace H := iT H;replace H := bE H;obtain ⟨t201, A4, H⟩ := H;by_cases c5 : t201 = true
  ·subst c5;replace H := iT H;replace H := bE H;obtain ⟨t202, A6, H⟩ := H;by_cases c7 : t202 = true
   ·subst c7;replace H := iT H;replace H := bE H;obtain ⟨t203, A8, H⟩ := H;obtain rfl := Option.some.inj H;go_enter Try.func156, Try.ntmps156
    go_wp2_with (first|((with_reducible refine gN 1 ?_);refine boxZ 1 #[.int .i64 a0_0, .int .i64 a0_1, .int .i64 a0_2, .int .i64 a0_3, .int .i64 a0_4, .int .i64 a0_5] 95 ?_;intro gb199 hg w9 hbox hb;have BK199 := Aside0.mk (hbox);have GW199 := gS hg;have GE199 := gS hg;replace HB := sB hb;clear hb hbox hg;obtain ⟨hcz10_0, hcz10_1, hcz10_2, hcz10_3, hcz10_4, hcz10_5, hfz10_0, hfz10_1, hfz10_2, hfz10_3, hfz10_4, hfz10_5⟩ := cz6 BK199)|((with_reducible refine gF 112 ?_);refine goZ (some 5) Try.func112 #[.int .i64 a0_0, .int .i64 0, .int .i64 2] ?_;(with_reducible refine (spec_l01In.calls a0_0 0 2 true _ A2.out).mono ?_);rintro e w' ⟨rfl, ⟨nd, rfl⟩⟩;refine ⟨_, rfl, ?_⟩)|(go_at_call 183;(with_reducible refine (spec_WideOk.calls a0_1 a0_2 true _ A4.out).mono ?_);rintro e w11 ⟨rfl, hb⟩;replace BK199 := kB BK199 hb;replace HB := sB hb;(try clear hb);obtain ⟨hcz12_0, hcz12_1, hcz12_2, hcz12_3, hcz12_4, hcz12_5, hfz12_0, hfz12_1, hfz12_2, hfz12_3, hfz12_4, hfz12_5⟩ := cz6 BK199)|(go_at_call 183;(with_reducible refine (spec_WideOk.calls a0_4 a0_5 true _ A6.out).mono ?_);rintro e w13 ⟨rfl, hb⟩;replace BK199 := kB BK199 hb;replace HB := sB hb;(try clear hb);obtain ⟨hcz14_0, hcz14_1, hcz14_2, hcz14_3, hcz14_4, hcz14_5, hfz14_0, hfz14_1, hfz14_2, hfz14_3, hfz14_4, hfz14_5⟩ := cz6 BK199)|(go_at_call 112;(with_reducible refine (spec_l01In.calls a0_3 1 6 t203 _ A8.out).mono ?_);rintro e w' ⟨rfl, ⟨nd, rfl⟩⟩))
    go_ret;exact ⟨rE, cB⟩
   ·replace c7 := Bool.eq_false_iff.mpr c7;subst c7;replace H := iF H;obtain rfl := Option.some.inj H;go_enter Try.func156, Try.ntmps156
    go_wp2_with (first|((with_reducible refine gN 1 ?_);refine boxZ 1 #[.int .i64 a0_0, .int .i64 a0_1, .int .i64 a0_2, .int .i64 a0_3, .int .i64 a0_4, .int .i64 a0_5] 95 ?_;intro gb199 hg w15 hbox hb;have BK199 := Aside0.mk (hbox);have GW199 := gS hg;have GE199 := gS hg;replace HB := sB hb;clear hb hbox hg;obtain ⟨hcz16_0, hcz16_1, hcz16_2, hcz16_3, hcz16_4, hcz16_5, hfz16_0, hfz16_1, hfz16_2, hfz16_3, hfz16_4, hfz16_5⟩ := cz6 BK199)|((with_reducible refine gF 112 ?_);refine goZ (some 5) Try.func112 #[.int .i64 a0_0, .int .i64 0, .int .i64 2] ?_;(with_reducible refine (spec_l01In.calls a0_0 0 2 true _ A2.out).mono ?_);rintro e w' ⟨rfl, ⟨nd, rfl⟩⟩;refine ⟨_, rfl, ?_⟩)|(go_at_call 183;(with_reducible refine (spec_WideOk.calls a0_1 a0_2 true _ A4.out).mono ?_);rintro e w17 ⟨rfl, hb⟩;replace BK199 := kB BK199 hb;replace HB := sB hb;(try clear hb);obtain ⟨hcz18_0, hcz18_1, hcz18_2, hcz18_3, hcz18_4, hcz18_5, hfz18_0, hfz18_1, hfz18_2, hfz18_3, hfz18_4, hfz18_5⟩ := cz6 BK199)|(go_at_call 183;(with_reducible refine (spec_WideOk.calls a0_4 a0_5 false _ A6.out).mono ?_);rintro e w19 ⟨rfl, hb⟩;replace BK199 := kB BK199 hb;replace HB := sB hb;(try clear hb)))
    go_ret;exact ⟨rE, cB⟩
  ·replace c5 := Bool.eq_false_iff.mpr c5;subst c5;replace H := iF H;obtain rfl := Option.some.inj H;go_enter Try.func156, Try.ntmps156
   go_wp2_with (first|((with_reducible refine gN 1 ?_);refine boxZ 1 #[.int .i64 a0_0, .int .i64 a0_1, .int .i64 a0_2, .int .i64 a0_3, .int .i64 a0_4, .int .i64 a0_5] 95 ?_;intro gb199 hg w20 hbox hb;have BK199 := Aside0.mk (hbox);have GW199 := gS hg;have GE199 := gS hg;replace HB := sB hb;clear hb hbox hg;obtain ⟨hcz21_0, hcz21_1, hcz21_2, hcz21_3, hcz21_4, hcz21_5, hfz21_0, hfz21_1, hfz21_2, hfz21_3, hfz21_4, hfz21_5⟩ := cz6 BK199)|((with_reducible refine gF 112 ?_);refine goZ (some 5) Try.func112 #[.int .i64 a0_0, .int .i64 0, .int .i64 2] ?_;(with_reducible refine (spec_l01In.calls a0_0 0 2 true _ A2.out).mono ?_);rintro e w' ⟨rfl, ⟨nd, rfl⟩⟩;refine ⟨_, rfl, ?_⟩)|(go_at_call 183;(with_reducible refine (spec_WideOk.calls a0_1 a0_2 false _ A4.out).mono ?_);rintro e w22 ⟨rfl, hb⟩;replace BK199 := kB BK199 hb;replace HB := sB hb;(try clear hb)))
   go_ret;exact ⟨rE, cB⟩
 ·replace c3 := Bool.eq_false_iff.mpr c3;subst c3;replace H := iF H;obtain rfl := Option.some.inj H;go_enter Try.func156, Try.ntmps156
  go_wp2_with (first|((with_reducible refine gN 1 ?_);refine boxZ 1 #[.int .i64 a0_0, .int .i64 a0_1, .int .i64 a0_2, .int .i64 a0_3, .int .i64 a0_4, .int .i64 a0_5] 95 ?_;intro gb199 hg w23 hbox hb;have BK199 := Aside0.mk (hbox);have GW199 := gS hg;have GE199 := gS hg;replace HB := sB hb;clear hb hbox hg;obtain ⟨hcz24_0, hcz24_1, hcz24_2, hcz24_3, hcz24_4, hcz24_5, hfz24_0, hfz24_1, hfz24_2, hfz24_3, hfz24_4, hfz24_5⟩ := cz6 BK199)|((with_reducible refine gF 112 ?_);refine goZ (some 5) Try.func112 #[.int .i64 a0_0, .int .i64 0, .int .i64 2] ?_;(with_reducible refine (spec_l01In.calls a0_0 0 2 false _ A2.out).mono ?_);rintro e w' ⟨rfl, ⟨nd, rfl⟩⟩;refine ⟨_, rfl, ?_⟩))
  go_ret;exact ⟨rE, cB⟩
def spec_l11Asks.f (a0 : Int) (a1 : Int) (a2 : ByteArray) (a3 : ByteArray) : Option (ByteArray × Int × Int × Int × Int × ByteArray × ByteArray) := some ((⟨#[]⟩ : ByteArray), a0, a1, 0, 0, a2, a3)
set_option maxHeartbeats 8000000 in
set_option maxRecDepth 100000 in
theorem spec_l11Asks.calls (a0 : Int) (a1 : Int) (a2 : ByteArray) (a3 : ByteArray) (r1 : ByteArray) (r2 : Int) (r3 : Int) (r4 : Int) (r5 : Int) (r6 : ByteArray) (r7 : ByteArray) (w : World) (h : spec_l11Asks.f a0 a1 a2 a3 = some (r1, r2, r3, r4, r5, r6, r7)) :
 Calls Try.prog 96 #[.int .i64 a0, .int .i64 a1, .string a2, .string a3] w fun e w' => e = .returned (.agg #[.string r1, .int .i64 r2, .int .i64 r3, .int .i64 r4, .int .i64 r5, .string r6, .string r7]) ∧ Below w.heap.size w w' := by
 have hu110 := Try.underlying110;have hu75 := Try.underlying75;have HB := Aside0.mk (Below.refl w.heap.size w);have H : (some ((⟨#[]⟩ : ByteArray), a0, a1, 0, 0, a2, a3)) = some (r1, r2, r3, r4, r5, r6, r7) := h;clear h;simp only [Option.some.injEq, Prod.mk.injEq] at H;obtain ⟨rfl, rfl, rfl, rfl, rfl, rfl, rfl⟩ := H;go_enter Try.func96, Try.ntmps96
 go_wp2_with (first|((with_reducible refine gN 8 ?_);refine boxZ 8 #[.string (⟨#[]⟩ : ByteArray), .int .i64 0, .int .i64 0, .int .i64 0, .int .i64 0, .string (⟨#[]⟩ : ByteArray), .string (⟨#[]⟩ : ByteArray)] 110 ?_;intro gb204 hg w5 hbox hb;have BK204 := Aside0.mk (hbox);have GW204 := gS hg;have GE204 := gS hg;replace HB := sB hb;clear hb hbox hg;obtain ⟨hcz6_0, hcz6_1, hcz6_2, hcz6_3, hcz6_4, hcz6_5, hcz6_6, hfz6_0, hfz6_1, hfz6_2, hfz6_3, hfz6_4, hfz6_5, hfz6_6⟩ := cz7 BK204))
 refine bodyPost_ret (results_cell_row rfl _ _ gb204 110 #[.string (⟨#[]⟩ : ByteArray), .int .i64 a0, .int .i64 a1, .int .i64 0, .int .i64 0, .string a2, .string a3] (0, 0) _ rfl (kS BK204 _) Try.underlying110 rfl (by kernel_rfl)) rfl ?_
 exact ⟨rE, cB⟩
def spec_l12Half.f (a0_0 : Int) (a0_1 : Int) (a0_2 : Int) (a0_3 : Int) (a0_4 : Int) (a0_5 : Int) (a1 : Bool) : Option ((List (S110))) := if a1 = true then ((spec_l11Word.f 1 (wrap64 (3 + (wrap64 (2 * a0_0))))).bind fun bt206 => ((spec_l11Word.f 2 a0_1).bind fun bt213 => (some (([(⟨bt206.1, (⟨bt206.2.1, bt206.2.2.1, bt206.2.2.2.1, bt206.2.2.2.2.1⟩ : S75), bt206.2.2.2.2.2.1, bt206.2.2.2.2.2.2⟩ : S110), (⟨bt213.1, (⟨bt213.2.1, bt213.2.2.1, bt213.2.2.2.1, bt213.2.2.2.2.1⟩ : S75), bt213.2.2.2.2.2.1, bt213.2.2.2.2.2.2⟩ : S110)] : List (S110)))))) else ((spec_l11Word.f 1 (wrap64 (2 + (wrap64 (2 * a0_0))))).bind fun bt223 => ((spec_l11Word.f 2 a0_2).bind fun bt230 => (some (([(⟨bt223.1, (⟨bt223.2.1, bt223.2.2.1, bt223.2.2.2.1, bt223.2.2.2.2.1⟩ : S75), bt223.2.2.2.2.2.1, bt223.2.2.2.2.2.2⟩ : S110), (⟨bt230.1, (⟨bt230.2.1, bt230.2.2.1, bt230.2.2.2.1, bt230.2.2.2.2.1⟩ : S75), bt230.2.2.2.2.2.1, bt230.2.2.2.2.2.2⟩ : S110)] : List (S110))))))
def spec_l12Half.T2 : Bool × List (List Nat × List Nat) := (true, [([], []), ([0], [0]), ([1], [1]), ([2], [2]), ([3], [3]), ([], []), ([5], [5]), ([6], [6]), ([7, 4], [7]), ([4, 8], [4, 8]), ([9, 8, 0, 1, 2, 3, 4, 5, 6, 7, 8, 9], [9])])
def spec_l12Half.B2 : List Nat := [0, 1, 3, 7, 15, 0, 32, 96, 255, 511, 1023]
theorem spec_l12Half.tab2 : rtab .any (opsOf Try.f185 2) = spec_l12Half.T2 := by kernel_rfl
theorem spec_l12Half.bits2 : waitsOk spec_l12Half.T2.2 spec_l12Half.B2 = true := by kernel_rfl
def spec_l12Half.T3 : Bool × List (List Nat × List Nat) := (true, [([], []), ([0], [0]), ([1], [1]), ([2], [2]), ([3], [3]), ([], []), ([5], [5]), ([6], [6]), ([7, 4], [7]), ([4, 8], [4, 8]), ([9, 8, 0, 1, 2, 3, 4, 5, 6, 7, 8, 9], [9])])
def spec_l12Half.B3 : List Nat := [0, 1, 3, 7, 15, 0, 32, 96, 255, 511, 1023]
theorem spec_l12Half.tab3 : rtab .any (opsOf Try.f185 3) = spec_l12Half.T3 := by kernel_rfl
theorem spec_l12Half.bits3 : waitsOk spec_l12Half.T3.2 spec_l12Half.B3 = true := by kernel_rfl
theorem q4x0 {P : Prop} (h : P := by 
 rintro w' ⟨s0, s1, s2, s3, s4, s5⟩
 go_simp
 with_reducible rfl) : P := h
set_option maxHeartbeats 8000000 in
set_option maxRecDepth 100000 in
theorem spec_l12Half.calls (a0_0 : Int) (a0_1 : Int) (a0_2 : Int) (a0_3 : Int) (a0_4 : Int) (a0_5 : Int) (a1 : Bool) (r : List (S110)) (w : World) (h : spec_l12Half.f a0_0 a0_1 a0_2 a0_3 a0_4 a0_5 a1 = some r) :
 Calls Try.prog 185 #[.agg #[.int .i64 a0_0, .int .i64 a0_1, .int .i64 a0_2, .int .i64 a0_3, .int .i64 a0_4, .int .i64 a0_5], .bool a1] w fun e w' => ∃ v0_ : Value, e = .returned (v0_) ∧ Kd.R k110 110 w' w.heap.size (fun _ => True) v0_ r ∧ Below w.heap.size w w' := by
 have hu95 := Try.underlying95;have HB := Aside0.mk (Below.refl w.heap.size w)
 have H : (if a1 = true then ((spec_l11Word.f 1 (wrap64 (3 + (wrap64 (2 * a0_0))))).bind fun bt206 => ((spec_l11Word.f 2 a0_1).bind fun bt213 => (some (([(⟨bt206.1, (⟨bt206.2.1, bt206.2.2.1, bt206.2.2.2.1, bt206.2.2.2.2.1⟩ : S75), bt206.2.2.2.2.2.1, bt206.2.2.2.2.2.2⟩ : S110), (⟨bt213.1, (⟨bt213.2.1, bt213.2.2.1, bt213.2.2.2.1, bt213.2.2.2.2.1⟩ : S75), bt213.2.2.2.2.2.1, bt213.2.2.2.2.2.2⟩ : S110)] : List (S110)))))) else ((spec_l11Word.f 1 (wrap64 (2 + (wrap64 (2 * a0_0))))).bind fun bt223 => ((spec_l11Word.f 2 a0_2).bind fun bt230 => (some (([(⟨bt223.1, (⟨bt223.2.1, bt223.2.2.1, bt223.2.2.2.1, bt223.2.2.2.2.1⟩ : S75), bt223.2.2.2.2.2.1, bt223.2.2.2.2.2.2⟩ : S110), (⟨bt230.1, (⟨bt230.2.1, bt230.2.2.1, bt230.2.2.2.1, bt230.2.2.2.2.1⟩ : S75), bt230.2.2.2.2.2.1, bt230.2.2.2.2.2.2⟩ : S110)] : List (S110))))))) = some r := h
 clear h;by_cases c3 : a1 = true
 ·subst c3;replace H := iT H;replace H := bE H;obtain ⟨⟨t206, t207, t208, t209, t210, t211, t212⟩, A4, H⟩ := H;(try dsimp only at H);replace H := bE H;obtain ⟨⟨t213, t214, t215, t216, t217, t218, t219⟩, A5, H⟩ := H;(try dsimp only at H);obtain ⟨y220, Ny220⟩ : ∃ y_ : List (S110), Aside0 (y_ = (([(⟨t206, (⟨t207, t208, t209, t210⟩ : S75), t211, t212⟩ : S110), (⟨t213, (⟨t214, t215, t216, t217⟩ : S75), t218, t219⟩ : S110)] : List (S110)))) := ⟨_, ⟨rfl⟩⟩;rw [← Ny220.out] at H;obtain rfl := Option.some.inj H;go_enter Try.func185, Try.ntmps185
  try go_wp2_with (first|((with_reducible refine gN 2 ?_);refine boxZ 2 #[.int .i64 a0_0, .int .i64 a0_1, .int .i64 a0_2, .int .i64 a0_3, .int .i64 a0_4, .int .i64 a0_5] 95 ?_;intro gb205 hg w6 hbox hb;have BK205 := Aside0.mk (hbox);have GW205 := gS hg;have GE205 := gS hg;replace HB := sB hb;clear hb hbox hg))
  replace BK205 := Aside0.mk (blk_drew BK205.out);replace HB := Aside0.mk (below_drew1 HB.out)
  refine start_ (n := 11) (S := fun w' => w'.cell? ⟨gb205, 0, none⟩ = some (.int .i64 a0_0) ∧ w'.cell? ⟨gb205, 1, none⟩ = some (.int .i64 a0_1) ∧ w'.cell? ⟨gb205, 2, none⟩ = some (.int .i64 a0_2) ∧ w'.cell? ⟨gb205, 3, none⟩ = some (.int .i64 a0_3) ∧ w'.cell? ⟨gb205, 4, none⟩ = some (.int .i64 a0_4) ∧ w'.cell? ⟨gb205, 5, none⟩ = some (.int .i64 a0_5)) (ds := []) #[false, false, false, false, false, false, false, false, false, false, false] (by kernel_rfl) rfl rfl ⟨(blk_cell BK205.out 0).trans rfl, (blk_cell BK205.out 1).trans rfl, (blk_cell BK205.out 2).trans rfl, (blk_cell BK205.out 3).trans rfl, (blk_cell BK205.out 4).trans rfl, (blk_cell BK205.out 5).trans rfl⟩ (fun hHeld => ?_); refine with_tabW spec_l12Half.tab2 spec_l12Half.bits2 (fun HT_ HW_ => ?_)
  generalize w6.drew = w7 at BK205 HB hHeld ⊢;refine pureZ 0 (some 6) (msk 11 1) HT_.out ?_;refine pureZ 5 (some 11) (msk 11 33) HT_.out ?_;refine pureZ 6 (some 12) (msk 11 97) HT_.out ?_;refine takeZ 1 (some 7) (msk 11 99) HT_.out HW_.out hHeld (hy := q4x0) (h := ?_);refine pureZ 2 (some 8) (msk 11 103) HT_.out ?_;refine pureZ 3 (some 9) (msk 11 111) HT_.out ?_;refine takeZ 7 (some 13) (msk 11 239) HT_.out HW_.out hHeld (hy := q4x0) (h := ?_)
  refine one_Z 4 (some 10) (msk 11 255) HT_.out fun K hK => ?_
  refine goes_ Try.func87 (by kernel_rfl) rfl #[.int .i64 1, .int .i64 (wrap64 (3 + (wrap64 (2 * a0_0))))] (by rfl) rfl rfl (by (try simp only [List.map_toArray, List.map_cons, List.map_nil]); first | done | rfl | (simp only [List.length_drop, List.length_take]; rfl)) ?_
  with_reducible refine (spec_l11Word.calls 1 (wrap64 (3 + (wrap64 (2 * a0_0)))) t206 t207 t208 t209 t210 t211 t212 _ A4.out).mono ?_;rintro e w8 ⟨rfl, hb⟩;refine ⟨_, rfl, ?_⟩;replace BK205 := kB BK205 hb;replace HB := sB hb;(try clear hb)
  refine hK.out _ _ qh4x0 (fun hHeld => ?_)
  clear hK K;refine normZ (some 10) ?_
  refine one_Z 8 (some 14) (msk 11 511) HT_.out fun K hK => ?_
  refine goes_ Try.func87 (by kernel_rfl) rfl #[.int .i64 2, .int .i64 a0_1] (by rfl) rfl rfl (by (try simp only [List.map_toArray, List.map_cons, List.map_nil]); first | done | rfl | (simp only [List.length_drop, List.length_take]; rfl)) ?_
  with_reducible refine (spec_l11Word.calls 2 a0_1 t213 t214 t215 t216 t217 t218 t219 _ A5.out).mono ?_;rintro e w9 ⟨rfl, hb⟩;refine ⟨_, rfl, ?_⟩;replace BK205 := kB BK205 hb;replace HB := sB hb;(try clear hb)
  refine hK.out _ _ qh4x0 (fun hHeld => ?_)
  clear hK K;refine normZ (some 14) ?_
  refine one_Z 9 (some 15) (msk 11 1023) HT_.out fun K hK => ?_
  refine Kd.R_lit_step k110 _ 110 ?hg (N := 15) ?hd (xs := ([(⟨t206, (⟨t207, t208, t209, t210⟩ : S75), t211, t212⟩ : S110), (⟨t213, (⟨t214, t215, t216, t217⟩ : S75), t218, t219⟩ : S110)] : List (S110))) (inner := [.string t206, .int .i64 t207, .int .i64 t208, .int .i64 t209, .int .i64 t210, .string t211, .string t212, .string t213, .int .i64 t214, .int .i64 t215, .int .i64 t216, .int .i64 t217, .string t218, .string t219]) (ok := fun _ => True) (okp := fun _ => True) ?hr ?hp (fun _ hk => hk) trivial (Below.refl _ _) (Nat.le_refl _) (by simp) ?_; (case hd => rfl); (case hg => rfl); (case hr => first | (go_simp; done) | (go_simp; rfl)); (case hp => exact (Reps.c7 (show Kd.M k110 _ _ _ (⟨t206, (⟨t207, t208, t209, t210⟩ : S75), t211, t212⟩ : S110) [.string t206, .int .i64 t207, .int .i64 t208, .int .i64 t209, .int .i64 t210, .string t211, .string t212] from (k110_mkM _ _ _ (⟨t206, (⟨t207, t208, t209, t210⟩ : S75), t211, t212⟩ : S110) )) (Reps.c7 (show Kd.M k110 _ _ _ (⟨t213, (⟨t214, t215, t216, t217⟩ : S75), t218, t219⟩ : S110) [.string t213, .int .i64 t214, .int .i64 t215, .int .i64 t216, .int .i64 t217, .string t218, .string t219] from (k110_mkM _ _ _ (⟨t213, (⟨t214, t215, t216, t217⟩ : S75), t218, t219⟩ : S110) )) (Reps.none _ _))))
  intro v221 w10 ho11 hb hg_ hnew_;clear hg_ hnew_
  (first | rw [← Ny220.out] at ho11 | (simp only [Int.reduceToNat] at ho11; rw [← Ny220.out] at ho11))
  have HO222 := Aside0.mk (Kd.R_lower ho11 (below_size cB));replace BK205 := kB BK205 hb;replace HB := sB hb;clear hb ho11
  refine hK.out _ _ qh4x0 (fun hHeld => ?_)
  clear hK K;refine normZ (some 15) ?_
  refine pureZ 10 (some 4) (msk 11 2047) HT_.out ?_
  refine done_ (done_of HT_.out (by kernel_rfl)) ?_
  try go_wp2
  go_ret;exact ⟨_, rE, mR HO222, cB⟩
 ·replace c3 := Bool.eq_false_iff.mpr c3;subst c3;replace H := iF H;replace H := bE H;obtain ⟨⟨t223, t224, t225, t226, t227, t228, t229⟩, A12, H⟩ := H;(try dsimp only at H);replace H := bE H;obtain ⟨⟨t230, t231, t232, t233, t234, t235, t236⟩, A13, H⟩ := H;(try dsimp only at H);obtain ⟨y237, Ny237⟩ : ∃ y_ : List (S110), Aside0 (y_ = (([(⟨t223, (⟨t224, t225, t226, t227⟩ : S75), t228, t229⟩ : S110), (⟨t230, (⟨t231, t232, t233, t234⟩ : S75), t235, t236⟩ : S110)] : List (S110)))) := ⟨_, ⟨rfl⟩⟩;rw [← Ny237.out] at H;obtain rfl := Option.some.inj H;go_enter Try.func185, Try.ntmps185
  try go_wp2_with (first|((with_reducible refine gN 2 ?_);refine boxZ 2 #[.int .i64 a0_0, .int .i64 a0_1, .int .i64 a0_2, .int .i64 a0_3, .int .i64 a0_4, .int .i64 a0_5] 95 ?_;intro gb205 hg w14 hbox hb;have BK205 := Aside0.mk (hbox);have GW205 := gS hg;have GE205 := gS hg;replace HB := sB hb;clear hb hbox hg))
  replace BK205 := Aside0.mk (blk_drew BK205.out);replace HB := Aside0.mk (below_drew1 HB.out)
  refine start_ (n := 11) (S := fun w' => w'.cell? ⟨gb205, 0, none⟩ = some (.int .i64 a0_0) ∧ w'.cell? ⟨gb205, 1, none⟩ = some (.int .i64 a0_1) ∧ w'.cell? ⟨gb205, 2, none⟩ = some (.int .i64 a0_2) ∧ w'.cell? ⟨gb205, 3, none⟩ = some (.int .i64 a0_3) ∧ w'.cell? ⟨gb205, 4, none⟩ = some (.int .i64 a0_4) ∧ w'.cell? ⟨gb205, 5, none⟩ = some (.int .i64 a0_5)) (ds := []) #[false, false, false, false, false, false, false, false, false, false, false] (by kernel_rfl) rfl rfl ⟨(blk_cell BK205.out 0).trans rfl, (blk_cell BK205.out 1).trans rfl, (blk_cell BK205.out 2).trans rfl, (blk_cell BK205.out 3).trans rfl, (blk_cell BK205.out 4).trans rfl, (blk_cell BK205.out 5).trans rfl⟩ (fun hHeld => ?_); refine with_tabW spec_l12Half.tab3 spec_l12Half.bits3 (fun HT_ HW_ => ?_)
  generalize w14.drew = w15 at BK205 HB hHeld ⊢;refine pureZ 0 (some 16) (msk 11 1) HT_.out ?_;refine pureZ 5 (some 21) (msk 11 33) HT_.out ?_;refine pureZ 6 (some 22) (msk 11 97) HT_.out ?_;refine takeZ 1 (some 17) (msk 11 99) HT_.out HW_.out hHeld (hy := q4x0) (h := ?_);refine pureZ 2 (some 18) (msk 11 103) HT_.out ?_;refine pureZ 3 (some 19) (msk 11 111) HT_.out ?_;refine takeZ 7 (some 23) (msk 11 239) HT_.out HW_.out hHeld (hy := q4x0) (h := ?_)
  refine one_Z 4 (some 20) (msk 11 255) HT_.out fun K hK => ?_
  refine goes_ Try.func87 (by kernel_rfl) rfl #[.int .i64 1, .int .i64 (wrap64 (2 + (wrap64 (2 * a0_0))))] (by rfl) rfl rfl (by (try simp only [List.map_toArray, List.map_cons, List.map_nil]); first | done | rfl | (simp only [List.length_drop, List.length_take]; rfl)) ?_
  with_reducible refine (spec_l11Word.calls 1 (wrap64 (2 + (wrap64 (2 * a0_0)))) t223 t224 t225 t226 t227 t228 t229 _ A12.out).mono ?_;rintro e w16 ⟨rfl, hb⟩;refine ⟨_, rfl, ?_⟩;replace BK205 := kB BK205 hb;replace HB := sB hb;(try clear hb)
  refine hK.out _ _ qh4x0 (fun hHeld => ?_)
  clear hK K;refine normZ (some 20) ?_
  refine one_Z 8 (some 24) (msk 11 511) HT_.out fun K hK => ?_
  refine goes_ Try.func87 (by kernel_rfl) rfl #[.int .i64 2, .int .i64 a0_2] (by rfl) rfl rfl (by (try simp only [List.map_toArray, List.map_cons, List.map_nil]); first | done | rfl | (simp only [List.length_drop, List.length_take]; rfl)) ?_
  with_reducible refine (spec_l11Word.calls 2 a0_2 t230 t231 t232 t233 t234 t235 t236 _ A13.out).mono ?_;rintro e w17 ⟨rfl, hb⟩;refine ⟨_, rfl, ?_⟩;replace BK205 := kB BK205 hb;replace HB := sB hb;(try clear hb)
  refine hK.out _ _ qh4x0 (fun hHeld => ?_)
  clear hK K;refine normZ (some 24) ?_
  refine one_Z 9 (some 25) (msk 11 1023) HT_.out fun K hK => ?_
  refine Kd.R_lit_step k110 _ 110 ?hg (N := 25) ?hd (xs := ([(⟨t223, (⟨t224, t225, t226, t227⟩ : S75), t228, t229⟩ : S110), (⟨t230, (⟨t231, t232, t233, t234⟩ : S75), t235, t236⟩ : S110)] : List (S110))) (inner := [.string t223, .int .i64 t224, .int .i64 t225, .int .i64 t226, .int .i64 t227, .string t228, .string t229, .string t230, .int .i64 t231, .int .i64 t232, .int .i64 t233, .int .i64 t234, .string t235, .string t236]) (ok := fun _ => True) (okp := fun _ => True) ?hr ?hp (fun _ hk => hk) trivial (Below.refl _ _) (Nat.le_refl _) (by simp) ?_; (case hd => rfl); (case hg => rfl); (case hr => first | (go_simp; done) | (go_simp; rfl)); (case hp => exact (Reps.c7 (show Kd.M k110 _ _ _ (⟨t223, (⟨t224, t225, t226, t227⟩ : S75), t228, t229⟩ : S110) [.string t223, .int .i64 t224, .int .i64 t225, .int .i64 t226, .int .i64 t227, .string t228, .string t229] from (k110_mkM _ _ _ (⟨t223, (⟨t224, t225, t226, t227⟩ : S75), t228, t229⟩ : S110) )) (Reps.c7 (show Kd.M k110 _ _ _ (⟨t230, (⟨t231, t232, t233, t234⟩ : S75), t235, t236⟩ : S110) [.string t230, .int .i64 t231, .int .i64 t232, .int .i64 t233, .int .i64 t234, .string t235, .string t236] from (k110_mkM _ _ _ (⟨t230, (⟨t231, t232, t233, t234⟩ : S75), t235, t236⟩ : S110) )) (Reps.none _ _))))
  intro v238 w18 ho19 hb hg_ hnew_;clear hg_ hnew_
  (first | rw [← Ny237.out] at ho19 | (simp only [Int.reduceToNat] at ho19; rw [← Ny237.out] at ho19))
  have HO239 := Aside0.mk (Kd.R_lower ho19 (below_size cB));replace BK205 := kB BK205 hb;replace HB := sB hb;clear hb ho19
  refine hK.out _ _ qh4x0 (fun hHeld => ?_)
  clear hK K;refine normZ (some 25) ?_
  refine pureZ 10 (some 4) (msk 11 2047) HT_.out ?_
  refine done_ (done_of HT_.out (by kernel_rfl)) ?_
  try go_wp2
  go_ret;exact ⟨_, rE, mR HO239, cB⟩
end Go.Proofs.Ytcmcpmkihpdnjaa.PFnExactChainLines
