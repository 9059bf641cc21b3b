import Derived.Test.YtlgndgjbfjefpaaPFnCondLinesy0
import Derived.Test.YtlgndgjbfjefpaaPFnCondLinesy1
import Derived.Test.YtlgndgjbfjefpaaPFnCondLinesy2
import Derived.Test.YtlgndgjbfjefpaaPFnCondLinesy7
import Derived.Test.YtlgndgjbfjefpaaPFnCondLinesy8
namespace Go.Proofs.Ytlgndgjbfjefpaa.PFnCondLines
open Go.RowKit Go.Proofs.YtlgndgjbfjefpaaW.PrintWords Go.Proofs.YtlgndgjbfjefpaaW.PrintLast Go.Proofs.YtlgndgjbfjefpaaW.PrintMore Go.Proofs.YtlgndgjbfjefpaaW.Z
attribute [local go_sem] isS max2_int min2_int max_two min_two max_three min_three max_four min_four
set_option linter.unusedVariables false
set_option linter.unusedSimpArgs false
attribute [local go_sem high] eqA93
theorem qh9x0 {P : Prop} (h : P := by exact ⟨(blk_cell BK491.out 0).trans rfl, (blk_cell BK491.out 1).trans rfl, (blk_cell BK491.out 2).trans rfl, (blk_cell BK491.out 3).trans rfl, (blk_cell BK491.out 4).trans rfl, (blk_cell BK491.out 5).trans rfl⟩) : P := h
def impl_ResultOf.f (a0 : Int) (a1 : Int) : Option (Int) := (impl_within.f a0 0 5).bind fun t473 => (if t473 = true then ((impl_within.f a1 0 65535).bind fun t474 => (if t474 = true then (some (wrap64 ((wrap64 (65536 * a0)) + a1))) else (some 0))) else (some 0))
set_option maxHeartbeats 8000000 in
set_option maxRecDepth 100000 in
theorem impl_ResultOf.calls (a0 : Int) (a1 : Int) (r : Int) (w : World) (h : impl_ResultOf.f a0 a1 = some r) :
 Calls Try.prog 50 #[.int .i64 a0, .int .i64 a1] w fun e w' => e = .returned (.int .i64 r) ∧ Drawn0 w w' := by
 have H : ((impl_within.f a0 0 5).bind fun t473 => (if t473 = true then ((impl_within.f a1 0 65535).bind fun t474 => (if t474 = true then (some (wrap64 ((wrap64 (65536 * a0)) + a1))) else (some 0))) else (some 0))) = some r := h
 clear h;replace H := bE H;obtain ⟨t473, A3, H⟩ := H;by_cases c4 : t473 = true
 ·subst c4;replace H := iT H;replace H := bE H;obtain ⟨t474, A5, H⟩ := H;by_cases c6 : t474 = true
  ·subst c6;replace H := iT H;obtain rfl := Option.some.inj H;go_enter Try.func50, Try.ntmps50
   go_wp2_with (first|((with_reducible refine gF 92 ?_);refine goZ (some 6) Try.func92 #[.int .i64 a0, .int .i64 0, .int .i64 5] ?_;(with_reducible refine (impl_within.calls a0 0 5 true _ A3.out).mono ?_);rintro e w' ⟨rfl, ⟨nd, rfl⟩⟩;refine ⟨_, rfl, ?_⟩)|(go_at_call 92;(with_reducible refine (impl_within.calls a1 0 65535 true _ A5.out).mono ?_);rintro e w' ⟨rfl, ⟨nd, rfl⟩⟩))
   go_ret
   exact ⟨by first | rfl | (simp; done) | (simp [*]; done), by repeat (first | exact Drawn0.refl _ | apply Drawn0.step)⟩
  ·replace c6 := Bool.eq_false_iff.mpr c6;subst c6;replace H := iF H;obtain rfl := Option.some.inj H;go_enter Try.func50, Try.ntmps50
   go_wp2_with (first|((with_reducible refine gF 92 ?_);refine goZ (some 6) Try.func92 #[.int .i64 a0, .int .i64 0, .int .i64 5] ?_;(with_reducible refine (impl_within.calls a0 0 5 true _ A3.out).mono ?_);rintro e w' ⟨rfl, ⟨nd, rfl⟩⟩;refine ⟨_, rfl, ?_⟩)|(go_at_call 92;(with_reducible refine (impl_within.calls a1 0 65535 false _ A5.out).mono ?_);rintro e w' ⟨rfl, ⟨nd, rfl⟩⟩))
   go_ret
   exact ⟨by first | rfl | (simp; done) | (simp [*]; done), by repeat (first | exact Drawn0.refl _ | apply Drawn0.step)⟩
 ·replace c4 := Bool.eq_false_iff.mpr c4;subst c4;replace H := iF H;obtain rfl := Option.some.inj H;go_enter Try.func50, Try.ntmps50
  go_wp2_with (first|((with_reducible refine gF 92 ?_);refine goZ (some 6) Try.func92 #[.int .i64 a0, .int .i64 0, .int .i64 5] ?_;(with_reducible refine (impl_within.calls a0 0 5 false _ A3.out).mono ?_);rintro e w' ⟨rfl, ⟨nd, rfl⟩⟩;refine ⟨_, rfl, ?_⟩))
  go_ret
  exact ⟨by first | rfl | (simp; done) | (simp [*]; done), by repeat (first | exact Drawn0.refl _ | apply Drawn0.step)⟩
def impl_Decimal.l0 : Nat → Int → ByteArray → Int → Option (ByteArray)
  | 0, _, _, _ => none
  | k + 1, x0, x3, x4 => if x4 = 0 then (if x0 < 0 then (if 1 + x3.size ≤ 9223372036854775807 then (some ((⟨#[45]⟩ : ByteArray) ++ x3)) else (none)) else (some x3)) else (if 0 ≤ (mx (Int.tmod x4 10) (wrap64 (-(Int.tmod x4 10)))) then (if (mx (Int.tmod x4 10) (wrap64 (-(Int.tmod x4 10)))) ≤ (wrap64 ((mx (Int.tmod x4 10) (wrap64 (-(Int.tmod x4 10)))) + 1)) then (if (wrap64 ((mx (Int.tmod x4 10) (wrap64 (-(Int.tmod x4 10)))) + 1)) ≤ 16 then (if ((⟨#[48, 49, 50, 51, 52, 53, 54, 55, 56, 57, 97, 98, 99, 100, 101, 102]⟩ : ByteArray).extract ((mx (Int.tmod x4 10) (wrap64 (-(Int.tmod x4 10)))) : Int).toNat ((wrap64 ((mx (Int.tmod x4 10) (wrap64 (-(Int.tmod x4 10)))) + 1)) : Int).toNat).size + x3.size ≤ 9223372036854775807 then (impl_Decimal.l0 k x0 (((⟨#[48, 49, 50, 51, 52, 53, 54, 55, 56, 57, 97, 98, 99, 100, 101, 102]⟩ : ByteArray).extract ((mx (Int.tmod x4 10) (wrap64 (-(Int.tmod x4 10)))) : Int).toNat ((wrap64 ((mx (Int.tmod x4 10) (wrap64 (-(Int.tmod x4 10)))) + 1)) : Int).toNat) ++ x3) (wrap64 (Int.tdiv x4 10))) else (none)) else (none)) else (none)) else (none))
def impl_Decimal.f (k : Nat) (a0 : Int) : Option (ByteArray) := if a0 = 0 then (some (⟨#[48]⟩ : ByteArray)) else (impl_Decimal.l0 k a0 (⟨#[]⟩ : ByteArray) a0)
set_option maxHeartbeats 8000000 in
set_option maxRecDepth 100000 in
theorem impl_Decimal.calls (k : Nat) (a0 : Int) (r : ByteArray) (w : World) (h : impl_Decimal.f k a0 = some r) :
 Calls Try.prog 114 #[.int .i64 a0] w fun e w' => e = .returned (.string r) ∧ Below w.heap.size w w' := by
 have HB := Aside0.mk (Below.refl w.heap.size w);have H : (if a0 = 0 then (some (⟨#[48]⟩ : ByteArray)) else (impl_Decimal.l0 k a0 (⟨#[]⟩ : ByteArray) a0)) = some r := h;clear h;by_cases c2 : a0 = 0
 ·rw [if_pos c2] at H;obtain ⟨c2b0, c2b1⟩ := eT c2;clear c2;obtain rfl := Option.some.inj H;go_enter Try.func114, Try.ntmps114;go_wp2;go_ret;exact ⟨rE, cB⟩
 ·rw [if_neg c2] at H;obtain ⟨c2b0, c2b1⟩ := eF c2;have H' := Aside0.mk H;clear H;go_enter Try.func114, Try.ntmps114;go_wp2
  go_loopg [3, 4] k (fun kq v3 v4 w' => ∃ (x3_1 : ByteArray) (x4_1 : Int), v3 = .string x3_1 ∧ v4 = .int .i64 x4_1 ∧ Aside0 (impl_Decimal.l0 kq a0 x3_1 x4_1 = some r) ∧ Aside0 (kq ≤ k) ∧ Aside0 (Below w.heap.size w w'))
  case atStart => exact ⟨((⟨#[]⟩ : ByteArray)), (a0), rS, rS, H', ⟨Nat.le_refl _⟩, ⟨cB⟩⟩
  case round =>
   clear H';(try clear c2);(try clear c2b0);(try clear c2b1);obtain ⟨x3_1, x4_1, rfl, rfl, HA, HK1, HB⟩ := hrel
   cases gk with
   | zero => exact absurd HA.out (by simp [impl_Decimal.l0])
   | succ k1 =>
    have H := HA.out;clear HA;simp only [impl_Decimal.l0] at H;by_cases c3 : x4_1 = 0
    ·rw [if_pos c3] at H;obtain ⟨c3b0, c3b1⟩ := eT c3;clear c3;by_cases c4 : a0 < 0
     ·rw [if_pos c4] at H;have c4b0 := decide_eq_true c4;clear c4;replace H := gC H;obtain ⟨c5, H⟩ := H;have c5b0 := eq_true c5;have c5b1 : decide (1 + x3_1.size ≤ 9223372036854775807) = true := decide_eq_true c5
      try have c5b2 : (9223372036854775807 < 1 + x3_1.size) = False := eq_false (Nat.not_lt.2 c5)
      obtain rfl := Option.some.inj H;go_wp2;go_ret;exact ⟨rE, cB⟩
     ·rw [if_neg c4] at H;have c4b0 := decide_eq_false c4;clear c4;obtain rfl := Option.some.inj H;go_wp2;go_ret;exact ⟨rE, cB⟩
    ·rw [if_neg c3] at H;obtain ⟨c3b0, c3b1⟩ := eF c3;obtain ⟨ji6, hji6⟩ : ∃ j_ : Int, (mx (Int.tmod x4_1 10) (wrap64 (-(Int.tmod x4_1 10)))) = j_ := ⟨_, rfl⟩
     (first|rw [hji6] at H|simp only [hji6] at H)
     have hji6_ : (if (Int.tmod x4_1 10) < (wrap64 (-(Int.tmod x4_1 10))) then (wrap64 (-(Int.tmod x4_1 10))) else (Int.tmod x4_1 10)) = ji6 := hji6;replace H := gC H;obtain ⟨c7, H⟩ := H;have c7b0 := eq_true c7;have c7b1 : decide (0 ≤ (ji6)) = true := decide_eq_true c7;clear c7;replace H := gC H;obtain ⟨c8, H⟩ := H;have c8b0 := eq_true c8;have c8b1 : decide ((ji6) ≤ (wrap64 ((ji6) + 1))) = true := decide_eq_true c8;replace H := gC H;obtain ⟨c9, H⟩ := H;have c9b0 := eq_true c9;have c9b1 : decide ((wrap64 ((ji6) + 1)) ≤ 16) = true := decide_eq_true c9;replace H := gC H;obtain ⟨c10, H⟩ := H;have c10b0 := eq_true c10;have c10b1 : decide (((⟨#[48, 49, 50, 51, 52, 53, 54, 55, 56, 57, 97, 98, 99, 100, 101, 102]⟩ : ByteArray).extract ((ji6) : Int).toNat ((wrap64 ((ji6) + 1)) : Int).toNat).size + x3_1.size ≤ 9223372036854775807) = true := decide_eq_true c10
     try have c10b2 : (9223372036854775807 < ((⟨#[48, 49, 50, 51, 52, 53, 54, 55, 56, 57, 97, 98, 99, 100, 101, 102]⟩ : ByteArray).extract ((ji6) : Int).toNat ((wrap64 ((ji6) + 1)) : Int).toNat).size + x3_1.size) = False := eq_false (Nat.not_lt.2 c10)
     have H' := Aside0.mk H;clear H;go_wp2;go_roundg k1
     case measure => have := HK1.out; omega
     case rel => exact ⟨(((⟨#[48, 49, 50, 51, 52, 53, 54, 55, 56, 57, 97, 98, 99, 100, 101, 102]⟩ : ByteArray).extract ((ji6) : Int).toNat ((wrap64 ((ji6) + 1)) : Int).toNat) ++ x3_1), (wrap64 (Int.tdiv x4_1 10)), (by first | rfl | (simp; done) | (simp only [← hji6] <;> (first | rfl | simp)) | (simp [*]; done)), rS, H', ⟨by have := HK1.out; omega⟩, ⟨cB⟩⟩
def impl_RuleLines.l0 : Nat → ByteArray → ByteArray → List (S95) → List (S50) → Int → Int → List Int → List (S50) → Int → Int → Option ((List (S95)))
  | 0, _, _, _, _, _, _, _, _, _, _ => none
  | k + 1, x1, x2, x7, x13, x14, x15, x476000, x476001, x476002, x476003 => if x15 < x14 then (if 0 ≤ x15 then (if x15 < (x13.length : Int) then (if x1.size + 1 ≤ 9223372036854775807 then ((impl_Decimal.f k x15).bind fun t492 => (if (x1 ++ (⟨#[110]⟩ : ByteArray)).size + t492.size ≤ 9223372036854775807 then ((impl_Decimal.f k x15).bind fun t493 => (if x1.size + t493.size ≤ 9223372036854775807 then ((impl_CondLines.f k ((rd_T50 x13 x15).f0) ((rd_T50 x13 x15).f1.f0) ((rd_T50 x13 x15).f1.f1) ((rd_T50 x13 x15).f2) ((rd_T50 x13 x15).f3.f0) ((rd_T50 x13 x15).f3.f1) (x1 ++ t493) ((x1 ++ (⟨#[110]⟩ : ByteArray)) ++ t492) x2).bind fun t494 => (if x7.length + t494.length < 1759218604441 then ((some (x7 ++ t494 : List (S95))).bind fun y497 => ((impl_place.f ((x1 ++ (⟨#[110]⟩ : ByteArray)) ++ t492)).bind fun bt500 => (if y497.length < 1759218604441 then (impl_RuleLines.l0 k x1 x2 (y497 ++ [(⟨bt500.1, (⟨bt500.2.1, bt500.2.2.1, bt500.2.2.2.1, bt500.2.2.2.2.1⟩ : S93), bt500.2.2.2.2.2.1, bt500.2.2.2.2.2.2⟩ : S95)]) x13 x14 (wrap64 (x15 + 1)) x476000 x476001 x476002 x476003) else (none)))) else (none))) else (none))) else (none))) else (none)) else (none)) else (none)) else ((impl_ResultOf.f x476002 x476003).bind fun t479 => ((impl_word.f 8 t479).bind fun bt480 => (if x7.length < 1759218604441 then (some (x7 ++ [(⟨bt480.1, (⟨bt480.2.1, bt480.2.2.1, bt480.2.2.2.1, bt480.2.2.2.2.1⟩ : S93), bt480.2.2.2.2.2.1, bt480.2.2.2.2.2.2⟩ : S95)])) else (none))))
def impl_RuleLines.f (k : Nat) (l0_0 : List Int) (l0_1 : List (S50)) (a0_2 : Int) (a0_3 : Int) (a1 : ByteArray) (a2 : ByteArray) : Option ((List (S95))) := impl_RuleLines.l0 k a1 a2 (([] : List (S95))) l0_1 (l0_1.length : Int) 0 l0_0 l0_1 a0_2 a0_3
def impl_RuleLines.T6 : Bool × List (List Nat × List Nat) := (true, [([], []), ([], []), ([], []), ([], []), ([3], [3]), ([2, 4], [2, 4]), ([], []), ([], []), ([1, 5, 6, 7, 4], [1, 5, 6, 7]), ([0, 8, 8], [0, 8]), ([9, 9, 0, 1, 2, 3, 4, 5, 6, 7, 8, 9], [0, 9])])
def impl_RuleLines.B6 : List Nat := [0, 0, 0, 0, 8, 28, 0, 0, 254, 511, 1023]
theorem impl_RuleLines.tab6 : rtab .any (opsOf Try.f44 6) = impl_RuleLines.T6 := by kernel_rfl
theorem impl_RuleLines.bits6 : waitsOk impl_RuleLines.T6.2 impl_RuleLines.B6 = true := by kernel_rfl
theorem q9x0 {P : Prop} (h : P := by 
 rintro w' ⟨s0, s1, s2, s3, s4, s5⟩
 go_simp
 with_reducible rfl) : P := h
set_option maxHeartbeats 8000000 in
set_option maxRecDepth 100000 in
theorem impl_RuleLines.calls (k : Nat) (A0_0 : Option Addr) (c0_0 : Nat) (l0_0 : List Int) (A0_1 : Option Addr) (c0_1 : Nat) (l0_1 : List (S50)) (a0_2 : Int) (a0_3 : Int) (a1 : ByteArray) (a2 : ByteArray) (r : List (S95)) (w : World) (hr0_0 : Kd.C (Kd.int .i64) w A0_0 l0_0.length l0_0) (hc0_0 : l0_0.length ≤ c0_0) (hr0_1 : Kd.C k50 w A0_1 l0_1.length l0_1) (hc0_1 : l0_1.length ≤ c0_1) (h : impl_RuleLines.f k l0_0 l0_1 a0_2 a0_3 a1 a2 = some r) :
 Calls Try.prog 44 #[.agg #[.slice A0_0 l0_0.length c0_0, .slice A0_1 l0_1.length c0_1, .int .i64 a0_2, .int .i64 a0_3], .string a1, .string a2] w fun e w' => ∃ v0_ : Value, e = .returned (v0_) ∧ Kd.R k95 95 w' w.heap.size (fun _ => True) v0_ r ∧ Below w.heap.size w w' := by
 have hu61 := Try.underlying61;have hu50 := Try.underlying50;have HR0_0 := Aside0.mk hr0_0;have HC0_0 := Aside0.mk hc0_0;clear hr0_0 hc0_0;have HR0_1 := Aside0.mk hr0_1;have HC0_1 := Aside0.mk hc0_1;clear hr0_1 hc0_1;have HB := Aside0.mk (Below.refl w.heap.size w);have H : (impl_RuleLines.l0 k a1 a2 (([] : List (S95))) l0_1 (l0_1.length : Int) 0 l0_0 l0_1 a0_2 a0_3) = some r := h;clear h;obtain ⟨y476, Ny476⟩ : ∃ y_ : List (S95), Aside0 (y_ = (([] : List (S95)))) := ⟨_, ⟨rfl⟩⟩;rw [← Ny476.out] at H;have H' := Aside0.mk H;clear H;go_enter Try.func44, Try.ntmps44
 go_wp2_with (first|((with_reducible refine gN 3 ?_);refine boxZ 3 #[.slice A0_0 l0_0.length c0_0, .slice A0_1 l0_1.length c0_1, .int .i64 a0_2, .int .i64 a0_3] 61 ?_;intro gb475 hg w4 hbox hb;have BK475 := Aside0.mk (hbox);have GW475 := gS hg;have GE475 := gS hg;replace HB := sB hb;clear hb hbox hg)|((with_reducible refine gN 11 ?_);refine Kd.R_lit k95 _ 95 ?hg (N := 11) ?hd (xs := ([] : List (S95))) (inner := []) (ok := fun _ => True) (okp := fun _ => True) ?hr ?hp (fun _ hk => hk) trivial (Below.refl _ _) (Nat.le_refl _) (by simp) ?_;(case hd => rfl);(case hg => rfl);(case hr => exact rG);(case hp => exact (Reps.none _ _));intro v477 w5 ho6 hb hg_ hnew_;clear hg_ hnew_;(first | rw [← Ny476.out] at ho6 | (simp only [Int.reduceToNat] at ho6; rw [← Ny476.out] at ho6));have HO478 := Aside0.mk (Kd.R_lower ho6 (below_size cB));replace BK475 := kB BK475 hb;replace HB := sB hb;clear hb ho6;obtain ⟨hcz7_0, hcz7_1, hcz7_2, hcz7_3, hfz7_0, hfz7_1, hfz7_2, hfz7_3⟩ := cz4 BK475))
 go_loopg [7, 15] k (fun kq v7 v15 w' => ∃ (x7_1 : List (S95)) (x15_1 : Int), v15 = .int .i64 x15_1 ∧ Aside0 (impl_RuleLines.l0 kq a1 a2 x7_1 l0_1 (l0_1.length : Int) x15_1 l0_0 l0_1 a0_2 a0_3 = some r) ∧ Aside0 (kq ≤ k) ∧ Aside0 (Kd.R k95 95 w' w.heap.size (fun _ => True) v7 x7_1) ∧ Aside0 (w'.heap[gb475]? = some (.cells #[(.slice A0_0 l0_0.length c0_0), (.slice A0_1 l0_1.length c0_1), .int .i64 a0_2, .int .i64 a0_3] 61 (0, 0))) ∧ Aside0 (Below w.heap.size w w'))
 case atStart => exact ⟨(y476), (0), rS, H', ⟨Nat.le_refl _⟩, ⟨mR HO478⟩, ⟨mK BK475⟩, ⟨cB⟩⟩
 case round =>
  clear H';(try clear hcz7_0);(try clear hcz7_1);(try clear hcz7_2);(try clear hcz7_3);(try clear hfz7_0);(try clear hfz7_1);(try clear hfz7_2);(try clear hfz7_3);obtain ⟨x7_1, x15_1, rfl, HA, HK1, HO_7, BK475, HB⟩ := hrel
  cases gk with
  | zero => exact absurd HA.out (by simp [impl_RuleLines.l0])
  | succ k1 =>
   have H := HA.out;clear HA;simp only [impl_RuleLines.l0] at H;by_cases c8 : x15_1 < (l0_1.length : Int)
   ·rw [if_pos c8] at H;have c8b0 := decide_eq_true c8;clear c8;replace H := gD H;obtain ⟨c9b0, H⟩ := H;replace H := gD H;obtain ⟨c10b0, H⟩ := H;replace H := gC H;obtain ⟨c11, H⟩ := H;have c11b0 := eq_true c11;have c11b1 : decide (a1.size + 1 ≤ 9223372036854775807) = true := decide_eq_true c11
    try have c11b2 : (9223372036854775807 < a1.size + 1) = False := eq_false (Nat.not_lt.2 c11)
    replace H := bE H;obtain ⟨t492, A12, H⟩ := H;replace H := gC H;obtain ⟨c13, H⟩ := H;have c13b0 := eq_true c13;have c13b1 : decide ((a1 ++ (⟨#[110]⟩ : ByteArray)).size + t492.size ≤ 9223372036854775807) = true := decide_eq_true c13
    try have c13b2 : (9223372036854775807 < (a1 ++ (⟨#[110]⟩ : ByteArray)).size + t492.size) = False := eq_false (Nat.not_lt.2 c13)
    try have c13b3 : (9223372036854775807 < a1.size + 1 + t492.size) = False := eq_false (Nat.not_lt.2 (by have h_ := c13; simp only [ByteArray.size_append] at h_; exact h_))
    replace H := bE H;obtain ⟨t493, A14, H⟩ := H;replace H := gC H;obtain ⟨c15, H⟩ := H;have c15b0 := eq_true c15;have c15b1 : decide (a1.size + t493.size ≤ 9223372036854775807) = true := decide_eq_true c15
    try have c15b2 : (9223372036854775807 < a1.size + t493.size) = False := eq_false (Nat.not_lt.2 c15)
    replace H := bE H;obtain ⟨t494, A16, H⟩ := H;replace H := gC H;obtain ⟨c17, H⟩ := H;have LMc17 := Aside0.mk c17;clear c17;replace H := nE H;obtain ⟨y497, Ny497, H⟩ := H;replace H := bE H;obtain ⟨⟨t500, t501, t502, t503, t504, t505, t506⟩, A18, H⟩ := H;(try dsimp only at H);replace H := gC H;obtain ⟨c19, H⟩ := H;have LMc19 := Aside0.mk c19;clear c19;obtain ⟨y507, Ny507⟩ : ∃ y_ : List (S95), Aside0 (y_ = (y497 ++ [(⟨t500, (⟨t501, t502, t503, t504⟩ : S93), t505, t506⟩ : S95)])) := ⟨_, ⟨rfl⟩⟩;rw [← Ny507.out] at H;have H' := Aside0.mk H;clear H;have p490 : 0 ≤ (x15_1 : Int) := dA;have q490 : x15_1 < (l0_1.length : Int) := dA;obtain ⟨ad490, e490, hx490_0, hx490_1, hx490_2, hx490_3, hx490_4, hx490_5⟩ := at_T50 HR0_1.out x15_1 p490 q490;cases e490;replace hx490_0 := (bc HB hx490_0 :);replace hx490_1 := (bc HB hx490_1 :);replace hx490_2 := (bc HB hx490_2 :);replace hx490_3 := (bc HB hx490_3 :);replace hx490_4 := (bc HB hx490_4 :);replace hx490_5 := (bc HB hx490_5 :);replace p490 := eq_true p490;replace q490 := eq_true q490
    try go_wp2_with (first|((with_reducible refine gN 9 ?_);refine boxZ 9 #[.int .i64 0, .int .i64 0, .int .i64 0, .int .i64 0, .int .i64 0, .int .i64 0] 50 ?_;intro gb491 hg w20 hbox hb;replace HO_7 := rB HO_7 hb;have BK491 := Aside0.mk (hbox);have GW491 := gS hg;have GE491 := gS hg;replace HB := sB hb;have NB475_491 := nL hg BK475;have NB491_475 := nG hg BK475;replace BK475 := kB BK475 hb;clear hb hbox hg;have hnb21 := NB491_475.out;have hnc21 := NB475_491.out;obtain ⟨hcz22_0, hcz22_1, hcz22_2, hcz22_3, hcz22_4, hcz22_5, hfz22_0, hfz22_1, hfz22_2, hfz22_3, hfz22_4, hfz22_5⟩ := cz6 BK491)|((with_reducible refine gF 114 ?_);refine goZ (some 23) Try.func114 #[.int .i64 x15_1] ?_;(with_reducible refine (impl_Decimal.calls k1 x15_1 t492 _ A12.out).mono ?_);rintro e w23 ⟨rfl, hb⟩;refine ⟨_, rfl, ?_⟩;replace HO_7 := Aside0.mk (Kd.R_below (by (with_reducible repeat (first | apply Kd.R_alloc | apply Kd.R_drewN | apply Kd.R_drew)); exact (fR (Kd.R_types HO_7.out BK491.out (by decide)) (fun _ h_ => h_.1))) hb);replace BK475 := kB BK475 hb;replace BK491 := kP BK491 hb (.cells #[.int .i64 ((rd_T50 l0_1 x15_1).f0), .int .i64 ((rd_T50 l0_1 x15_1).f1.f0), .int .i64 ((rd_T50 l0_1 x15_1).f1.f1), .int .i64 ((rd_T50 l0_1 x15_1).f2), .int .i64 ((rd_T50 l0_1 x15_1).f3.f0), .int .i64 ((rd_T50 l0_1 x15_1).f3.f1)] 50 (0, 0));replace HB := sB hb;(try clear hb)))
    replace HO_7 := Aside0.mk (Kd.R_drew HO_7.out);replace BK475 := Aside0.mk (blk_drew BK475.out);replace BK491 := Aside0.mk (blk_drew BK491.out);replace HB := Aside0.mk (below_drew1 HB.out)
    refine start_ (n := 11) (S := fun w' => w'.cell? ⟨gb491, 0, none⟩ = some (.int .i64 ((rd_T50 l0_1 x15_1).f0)) ∧ w'.cell? ⟨gb491, 1, none⟩ = some (.int .i64 ((rd_T50 l0_1 x15_1).f1.f0)) ∧ w'.cell? ⟨gb491, 2, none⟩ = some (.int .i64 ((rd_T50 l0_1 x15_1).f1.f1)) ∧ w'.cell? ⟨gb491, 3, none⟩ = some (.int .i64 ((rd_T50 l0_1 x15_1).f2)) ∧ w'.cell? ⟨gb491, 4, none⟩ = some (.int .i64 ((rd_T50 l0_1 x15_1).f3.f0)) ∧ w'.cell? ⟨gb491, 5, none⟩ = some (.int .i64 ((rd_T50 l0_1 x15_1).f3.f1))) (ds := []) #[false, false, false, false, false, false, false, false, false, false, false] (by kernel_rfl) rfl rfl ⟨(blk_cell BK491.out 0).trans rfl, (blk_cell BK491.out 1).trans rfl, (blk_cell BK491.out 2).trans rfl, (blk_cell BK491.out 3).trans rfl, (blk_cell BK491.out 4).trans rfl, (blk_cell BK491.out 5).trans rfl⟩ (fun hHeld => ?_); refine with_tabW impl_RuleLines.tab6 impl_RuleLines.bits6 (fun HT_ HW_ => ?_)
    generalize w23.drew = w24 at HO_7 BK475 BK491 HB hHeld ⊢;refine pureZ 0 (some 25) (msk 11 1) HT_.out ?_;refine pureZ 2 (some 27) (msk 11 5) HT_.out ?_;refine pureZ 3 (some 28) (msk 11 13) HT_.out ?_;refine pureZ 6 (some 31) (msk 11 77) HT_.out ?_;refine pureZ 7 (some 32) (msk 11 205) HT_.out ?_;refine takeZ 1 (some 26) (msk 11 207) HT_.out HW_.out hHeld (hy := q9x0) (h := ?_)
    refine one_Z 4 (some 29) (msk 11 223) HT_.out fun K hK => ?_
    refine goes_ Try.func114 (by kernel_rfl) rfl #[.int .i64 x15_1] (by rfl) rfl rfl (by (try simp only [List.map_toArray, List.map_cons, List.map_nil]); first | done | rfl | (simp only [List.length_drop, List.length_take]; rfl)) ?_
    with_reducible refine (impl_Decimal.calls k1 x15_1 t493 _ A14.out).mono ?_;rintro e w25 ⟨rfl, hb⟩;refine ⟨_, rfl, ?_⟩;replace HO_7 := rB HO_7 hb;replace BK475 := kB BK475 hb;replace BK491 := kB BK491 hb;replace HB := sB hb;(try clear hb)
    refine hK.out _ _ qh9x0 (fun hHeld => ?_)
    clear hK K;refine normZ (some 29) ?_
    refine pureZ 5 (some 30) (msk 11 255) HT_.out ?_
    refine one_Z 8 (some 33) (msk 11 511) HT_.out fun K hK => ?_
    refine goes_ Try.func46 (by kernel_rfl) rfl #[.agg #[.int .i64 ((rd_T50 l0_1 x15_1).f0), .int .i64 ((rd_T50 l0_1 x15_1).f1.f0), .int .i64 ((rd_T50 l0_1 x15_1).f1.f1), .int .i64 ((rd_T50 l0_1 x15_1).f2), .int .i64 ((rd_T50 l0_1 x15_1).f3.f0), .int .i64 ((rd_T50 l0_1 x15_1).f3.f1)], .string (a1 ++ t493), .string ((a1 ++ (⟨#[110]⟩ : ByteArray)) ++ t492), .string a2] (by rfl) rfl rfl (by (try simp only [List.map_toArray, List.map_cons, List.map_nil]); first | done | rfl | (simp only [List.length_drop, List.length_take]; rfl)) ?_
    with_reducible refine (impl_CondLines.calls k1 ((rd_T50 l0_1 x15_1).f0) ((rd_T50 l0_1 x15_1).f1.f0) ((rd_T50 l0_1 x15_1).f1.f1) ((rd_T50 l0_1 x15_1).f2) ((rd_T50 l0_1 x15_1).f3.f0) ((rd_T50 l0_1 x15_1).f3.f1) (a1 ++ t493) ((a1 ++ (⟨#[110]⟩ : ByteArray)) ++ t492) a2 t494 _ A16.out).mono ?_;rintro e w26 ⟨v495, rfl, ho0, hb⟩;refine ⟨_, rfl, ?_⟩;have HO496 := Aside0.mk (Kd.R_lower (Kd.R_new' ho0 (Kd.R_lt (mR HO_7))) (below_size cB));replace HO_7 := eB HO_7 (Kd.R_base ho0) hb;replace BK475 := kB BK475 hb;replace BK491 := kB BK491 hb;replace HB := sB hb;(try clear hb);(try clear ho0);obtain ⟨Ao28, co28, eo28⟩ := Kd.R_slice HO496.out
    (first | subst eo28 | (injection eo28 with f1_ f2_ f3_; have f4_ := f1_.symm; have f5_ := f3_.symm; clear f1_ f2_ f3_; subst f4_; subst f5_))
    refine hK.out _ _ qh9x0 (fun hHeld => ?_)
    clear hK K;refine normZ (some 33) ?_
    refine one_Z 9 (some 34) (msk 11 1023) HT_.out fun K hK => ?_
    refine Kd.R_append_rows_step k95 (w0 := w) w.heap.size (by rfl) (.tmp 25) (.tmp 33) 71 95 (.agg #[(.string ⟨#[]⟩), (.int .i64 0), (.int .i64 0), (.int .i64 0), (.int .i64 0), (.string ⟨#[]⟩), (.string ⟨#[]⟩)]) 80 rfl Try.underlying71 info95 rfl (by decide) (by omega) u7 x7_1 t494 _ _ _ (fun k_ => some k_ ≠ (.slice Ao28 t494.length co28 : Value).ownBlock) (fun _ => False) rfl rfl ?aO ?aR (fun _ _ h => h) (fun _ h => h.elim) ?aF ?aB ?aS ?aL ?_
    (case aR => exact cC ((Kd.R_reads' HO496.out).2.2))
    (case aB => exact cB)
    (case aF => exact (fun k_ hk => Kd.fresh' (Kd.R_lt (mR HO496)) k_ hk))
    (case aO => exact (by (with_reducible repeat (first | apply Kd.R_alloc | apply Kd.R_drewN | apply Kd.R_drew)); exact Kd.R_mono HO_7.out (fun _ hk => hk.2)))
    (case aS => exact (below_size cB))
    (case aL => have := LMc17.out; omega)
    intro v498 w27 ho hb hg hat;rw [← Ny497.out] at ho
    replace BK475 := Aside0.mk (blk_grown (mK BK475) hg (Kd.R_ne HO_7.out BK475.out (by decide)))
    replace BK491 := Aside0.mk (blk_grown (mK BK491) hg (Kd.R_ne HO_7.out BK491.out (by decide)))
    replace HO496 := Aside0.mk (Kd.R_after (ok := (fun _ => True)) (mR HO496) hg hat)
    replace HB := Aside0.mk (hb);have HO499 := Aside0.mk (ho);clear HO_7 ho hb hg hat
    refine hK.out _ _ qh9x0 (fun hHeld => ?_)
    clear hK K;refine normZ (some 34) ?_
    refine pureZ 10 (some 7) (msk 11 2047) HT_.out ?_
    refine done_ (done_of HT_.out (by kernel_rfl)) ?_
    try go_wp2_with (first|((with_reducible refine gF 115 ?_);refine goZ (some 37) Try.func115 #[.string ((a1 ++ (⟨#[110]⟩ : ByteArray)) ++ t492)] ?_;(with_reducible refine (impl_place.calls ((a1 ++ (⟨#[110]⟩ : ByteArray)) ++ t492) t500 t501 t502 t503 t504 t505 t506 _ A18.out).mono ?_);rintro e w29 ⟨rfl, hb⟩;refine ⟨_, rfl, ?_⟩;replace HO496 := rB HO496 hb;replace HO499 := rB HO499 hb;replace BK475 := kB BK475 hb;replace BK491 := kB BK491 hb;replace HB := sB hb;(try clear hb))|((with_reducible refine gA 35 38 ?_);at_builtin;refine Kd.R_append k95 (w0 := w) w.heap.size rfl (.tmp 35) (.tmp 38) 71 95 (.agg #[(.string ⟨#[]⟩), (.int .i64 0), (.int .i64 0), (.int .i64 0), (.int .i64 0), (.string ⟨#[]⟩), (.string ⟨#[]⟩)]) 80 rfl Try.underlying71 info95 rfl (by decide) (by omega) v498 y497 (⟨t500, (⟨t501, t502, t503, t504⟩ : S93), t505, t506⟩ : S95) [.string t500, .int .i64 t501, .int .i64 t502, .int .i64 t503, .int .i64 t504, .string t505, .string t506] (fun k_ => some k_ ≠ (.slice Ao28 t494.length co28 : Value).ownBlock) (fun _ => False) rfl rfl ?aP (fun _ hk => hk.elim) ?aF ?aO ?aB ?aS ?aL ?_;(case aP => exact k95_mkM _ _ _ (⟨t500, (⟨t501, t502, t503, t504⟩ : S93), t505, t506⟩ : S95));(case aB => exact cB);(case aF => exact (fun k_ hk => Kd.fresh' (Kd.R_lt (mR HO496)) k_ hk));(case aO => exact (mR HO499));(case aS => exact (below_size cB));(case aL => have := LMc19.out; omega);intro v508 w30 ho hb hg hat;rw [← Ny507.out] at ho;replace BK475 := Aside0.mk (blk_grown (mK BK475) hg (Kd.R_ne HO499.out BK475.out (by decide)));replace BK491 := Aside0.mk (blk_grown (mK BK491) hg (Kd.R_ne HO499.out BK491.out (by decide)));replace HO496 := Aside0.mk (Kd.R_after (ok := (fun _ => True)) (mR HO496) hg hat);replace HB := Aside0.mk (hb);have HO509 := Aside0.mk (ho);clear HO499 ho hb hg hat))
    go_roundg k1
    case measure => have := HK1.out; omega
    case rel => exact ⟨(y507), (wrap64 (x15_1 + 1)), rS, H', ⟨by have := HK1.out; omega⟩, ⟨by (with_reducible repeat (first | apply Kd.R_alloc | apply Kd.R_drewN | apply Kd.R_drew)); exact Kd.R_mono HO509.out (fun _ hk => trivial)⟩, ⟨mK BK475⟩, ⟨cB⟩⟩
   ·rw [if_neg c8] at H;have c8b0 := decide_eq_false c8;clear c8;replace H := bE H;obtain ⟨t479, A31, H⟩ := H;replace H := bE H;obtain ⟨⟨t480, t481, t482, t483, t484, t485, t486⟩, A32, H⟩ := H;(try dsimp only at H);replace H := gC H;obtain ⟨c33, H⟩ := H;have LMc33 := Aside0.mk c33;clear c33;obtain ⟨y487, Ny487⟩ : ∃ y_ : List (S95), Aside0 (y_ = (x7_1 ++ [(⟨t480, (⟨t481, t482, t483, t484⟩ : S93), t485, t486⟩ : S95)])) := ⟨_, ⟨rfl⟩⟩;rw [← Ny487.out] at H;obtain rfl := Option.some.inj H;obtain ⟨hcz34_0, hcz34_1, hcz34_2, hcz34_3, hfz34_0, hfz34_1, hfz34_2, hfz34_3⟩ := cz4 BK475
    go_wp2_with (first|((with_reducible refine gF 50 ?_);refine goZ (some 46) Try.func50 #[.int .i64 a0_2, .int .i64 a0_3] ?_;(with_reducible refine (impl_ResultOf.calls a0_2 a0_3 t479 _ A31.out).mono ?_);rintro e w' ⟨rfl, ⟨nd, rfl⟩⟩;refine ⟨_, rfl, ?_⟩)|((with_reducible refine gF 116 ?_);refine goZ (some 47) Try.func116 #[.int .i64 8, .int .i64 t479] ?_;(with_reducible refine (impl_word.calls 8 t479 t480 t481 t482 t483 t484 t485 t486 _ A32.out).mono ?_);rintro e w35 ⟨rfl, hb⟩;refine ⟨_, rfl, ?_⟩;replace HO_7 := rB HO_7 hb;replace BK475 := kB BK475 hb;replace HB := sB hb;(try clear hb))|((with_reducible refine gA 41 48 ?_);at_builtin;refine Kd.R_append k95 (w0 := w) w.heap.size rfl (.tmp 41) (.tmp 48) 71 95 (.agg #[(.string ⟨#[]⟩), (.int .i64 0), (.int .i64 0), (.int .i64 0), (.int .i64 0), (.string ⟨#[]⟩), (.string ⟨#[]⟩)]) 80 rfl Try.underlying71 info95 rfl (by decide) (by omega) u7 x7_1 (⟨t480, (⟨t481, t482, t483, t484⟩ : S93), t485, t486⟩ : S95) [.string t480, .int .i64 t481, .int .i64 t482, .int .i64 t483, .int .i64 t484, .string t485, .string t486] (fun _ => True) (fun _ => False) rfl rfl ?aP (fun _ hk => hk.elim) ?aF ?aO ?aB ?aS ?aL ?_;(case aP => exact k95_mkM _ _ _ (⟨t480, (⟨t481, t482, t483, t484⟩ : S93), t485, t486⟩ : S95));(case aB => exact cB);(case aF => exact (fun _ _ => trivial));(case aO => exact (mR HO_7));(case aS => exact (below_size cB));(case aL => have := LMc33.out; omega);intro v488 w36 ho hb hg hat;rw [← Ny487.out] at ho;replace BK475 := Aside0.mk (blk_grown (mK BK475) hg (Kd.R_ne HO_7.out BK475.out (by decide)));replace HB := Aside0.mk (hb);have HO489 := Aside0.mk (ho);clear HO_7 ho hb hg hat))
    go_ret;exact ⟨_, rE, mR HO489, cB⟩
def spec_l06Ask.f (a0 : Int) : Option (Bool) := (spec_l01In.f a0 3 6).bind fun t510 => (some t510)
set_option maxHeartbeats 8000000 in
set_option maxRecDepth 100000 in
theorem spec_l06Ask.calls (a0 : Int) (r : Bool) (w : World) (h : spec_l06Ask.f a0 = some r) :
 Calls Try.prog 134 #[.int .i64 a0] w fun e w' => e = .returned (.bool r) ∧ Drawn0 w w' := by
 have H : ((spec_l01In.f a0 3 6).bind fun t510 => (some t510)) = some r := h
 clear h;replace H := bE H;obtain ⟨t510, A2, H⟩ := H;obtain rfl := Option.some.inj H;go_enter Try.func134, Try.ntmps134
 go_wp2_with (first|((with_reducible refine gF 100 ?_);refine goZ (some 4) Try.func100 #[.int .i64 a0, .int .i64 3, .int .i64 6] ?_;(with_reducible refine (spec_l01In.calls a0 3 6 t510 _ A2.out).mono ?_);rintro e w' ⟨rfl, ⟨nd, rfl⟩⟩;refine ⟨_, rfl, ?_⟩))
 go_ret
 exact ⟨by first | rfl | (simp; done) | (simp [*]; done), by repeat (first | exact Drawn0.refl _ | apply Drawn0.step)⟩
def spec_l11Place.f (a0_0 : ByteArray) (a0_1 : Int) (a0_2 : Int) (a0_3 : Int) (a0_4 : Int) (a0_5 : ByteArray) (a0_6 : ByteArray) : Option (Bool) := some (a0_1 == 0 && (a0_2 == 0 && (a0_3 == 0 && (a0_4 == 0))))
set_option maxHeartbeats 8000000 in
set_option maxRecDepth 100000 in
theorem spec_l11Place.calls (a0_0 : ByteArray) (a0_1 : Int) (a0_2 : Int) (a0_3 : Int) (a0_4 : Int) (a0_5 : ByteArray) (a0_6 : ByteArray) (r : Bool) (w : World) (h : spec_l11Place.f a0_0 a0_1 a0_2 a0_3 a0_4 a0_5 a0_6 = some r) :
 Calls Try.prog 137 #[.agg #[.string a0_0, .int .i64 a0_1, .int .i64 a0_2, .int .i64 a0_3, .int .i64 a0_4, .string a0_5, .string a0_6]] w fun e w' => e = .returned (.bool r) ∧ Below w.heap.size w w' := by
 have hu95 := Try.underlying95;have hu93 := Try.underlying93;have HB := Aside0.mk (Below.refl w.heap.size w);have H : (some (a0_1 == 0 && (a0_2 == 0 && (a0_3 == 0 && (a0_4 == 0))))) = some r := h;clear h;obtain rfl := Option.some.inj H;go_enter Try.func137, Try.ntmps137
 go_wp2_with (first|((with_reducible refine gN 1 ?_);refine boxZ 1 #[.string a0_0, .int .i64 a0_1, .int .i64 a0_2, .int .i64 a0_3, .int .i64 a0_4, .string a0_5, .string a0_6] 95 ?_;intro gb511 hg w2 hbox hb;have BK511 := Aside0.mk (hbox);have GW511 := gS hg;have GE511 := gS hg;replace HB := sB hb;clear hb hbox hg;obtain ⟨hcz3_0, hcz3_1, hcz3_2, hcz3_3, hcz3_4, hcz3_5, hcz3_6, hfz3_0, hfz3_1, hfz3_2, hfz3_3, hfz3_4, hfz3_5, hfz3_6⟩ := cz7 BK511))
 go_ret;exact ⟨rE, cB⟩
end Go.Proofs.Ytlgndgjbfjefpaa.PFnCondLines
