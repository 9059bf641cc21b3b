import Derived.Test.YtlgndgjbfjefpaaPFnCondLinesToldy0
import Derived.Test.YtlgndgjbfjefpaaPFnCondLinesToldy1
import Derived.Test.YtlgndgjbfjefpaaPFnCondLinesToldy3
import Derived.Test.YtlgndgjbfjefpaaPFnCondLinesToldy4
namespace Go.Proofs.Ytlgndgjbfjefpaa.PFnCondLinesTold
open Go.RowKit Go.Proofs.YtlgndgjbfjefpaaW.PrintWords Go.Proofs.YtlgndgjbfjefpaaW.PrintLast Go.Proofs.YtlgndgjbfjefpaaW.PrintMore Go.Proofs.YtlgndgjbfjefpaaW.Z
attribute [local go_sem] isS max2_int min2_int max_two min_two max_three min_three max_four min_four
set_option linter.unusedVariables false
set_option linter.unusedSimpArgs false
attribute [local go_sem high] eqA95
theorem qh5x0 {P : Prop} (h : P := by exact ⟨(blk_cell BK434.out 0).trans rfl, (blk_cell BK434.out 1).trans rfl, (blk_cell BK434.out 2).trans rfl, (blk_cell BK434.out 3).trans rfl, (blk_cell BK434.out 4).trans rfl, (blk_cell BK434.out 5).trans rfl⟩) : P := h
def impl_ResultOf.f (a0 : Int) (a1 : Int) : Option (Int) := (impl_within.f a0 0 5).bind fun t416 => (if t416 = true then ((impl_within.f a1 0 65535).bind fun t417 => (if t417 = true then (some (wrap64 ((wrap64 (65536 * a0)) + a1))) else (some 0))) else (some 0))
set_option maxHeartbeats 8000000 in
set_option maxRecDepth 100000 in
theorem impl_ResultOf.calls (a0 : Int) (a1 : Int) (r : Int) (w : World) (h : impl_ResultOf.f a0 a1 = some r) :
 Calls Try.prog 50 #[.int .i64 a0, .int .i64 a1] w fun e w' => e = .returned (.int .i64 r) ∧ Drawn0 w w' := by
 have H : ((impl_within.f a0 0 5).bind fun t416 => (if t416 = true then ((impl_within.f a1 0 65535).bind fun t417 => (if t417 = true then (some (wrap64 ((wrap64 (65536 * a0)) + a1))) else (some 0))) else (some 0))) = some r := h
 clear h;replace H := bE H;obtain ⟨t416, A3, H⟩ := H;by_cases c4 : t416 = true
 ·subst c4;replace H := iT H;replace H := bE H;obtain ⟨t417, A5, H⟩ := H;by_cases c6 : t417 = true
  ·subst c6;replace H := iT H;obtain rfl := Option.some.inj H;go_enter Try.func50, Try.ntmps50
   go_wp2_with (first|((with_reducible refine gF 92 ?_);refine goZ (some 6) Try.func92 #[.int .i64 a0, .int .i64 0, .int .i64 5] ?_;(with_reducible refine (impl_within.calls a0 0 5 true _ A3.out).mono ?_);rintro e w' ⟨rfl, ⟨nd, rfl⟩⟩;refine ⟨_, rfl, ?_⟩)|(go_at_call 92;(with_reducible refine (impl_within.calls a1 0 65535 true _ A5.out).mono ?_);rintro e w' ⟨rfl, ⟨nd, rfl⟩⟩))
   go_ret
   exact ⟨by first | rfl | (simp; done) | (simp [*]; done), by repeat (first | exact Drawn0.refl _ | apply Drawn0.step)⟩
  ·replace c6 := Bool.eq_false_iff.mpr c6;subst c6;replace H := iF H;obtain rfl := Option.some.inj H;go_enter Try.func50, Try.ntmps50
   go_wp2_with (first|((with_reducible refine gF 92 ?_);refine goZ (some 6) Try.func92 #[.int .i64 a0, .int .i64 0, .int .i64 5] ?_;(with_reducible refine (impl_within.calls a0 0 5 true _ A3.out).mono ?_);rintro e w' ⟨rfl, ⟨nd, rfl⟩⟩;refine ⟨_, rfl, ?_⟩)|(go_at_call 92;(with_reducible refine (impl_within.calls a1 0 65535 false _ A5.out).mono ?_);rintro e w' ⟨rfl, ⟨nd, rfl⟩⟩))
   go_ret
   exact ⟨by first | rfl | (simp; done) | (simp [*]; done), by repeat (first | exact Drawn0.refl _ | apply Drawn0.step)⟩
 ·replace c4 := Bool.eq_false_iff.mpr c4;subst c4;replace H := iF H;obtain rfl := Option.some.inj H;go_enter Try.func50, Try.ntmps50
  go_wp2_with (first|((with_reducible refine gF 92 ?_);refine goZ (some 6) Try.func92 #[.int .i64 a0, .int .i64 0, .int .i64 5] ?_;(with_reducible refine (impl_within.calls a0 0 5 false _ A3.out).mono ?_);rintro e w' ⟨rfl, ⟨nd, rfl⟩⟩;refine ⟨_, rfl, ?_⟩))
  go_ret
  exact ⟨by first | rfl | (simp; done) | (simp [*]; done), by repeat (first | exact Drawn0.refl _ | apply Drawn0.step)⟩
def impl_Decimal.l0 : Nat → Int → ByteArray → Int → Option (ByteArray)
  | 0, _, _, _ => none
  | k + 1, x0, x3, x4 => if x4 = 0 then (if x0 < 0 then (if 1 + x3.size ≤ 9223372036854775807 then (some ((⟨#[45]⟩ : ByteArray) ++ x3)) else (none)) else (some x3)) else (if 0 ≤ (mx (Int.tmod x4 10) (wrap64 (-(Int.tmod x4 10)))) then (if (mx (Int.tmod x4 10) (wrap64 (-(Int.tmod x4 10)))) ≤ (wrap64 ((mx (Int.tmod x4 10) (wrap64 (-(Int.tmod x4 10)))) + 1)) then (if (wrap64 ((mx (Int.tmod x4 10) (wrap64 (-(Int.tmod x4 10)))) + 1)) ≤ 16 then (if ((⟨#[48, 49, 50, 51, 52, 53, 54, 55, 56, 57, 97, 98, 99, 100, 101, 102]⟩ : ByteArray).extract ((mx (Int.tmod x4 10) (wrap64 (-(Int.tmod x4 10)))) : Int).toNat ((wrap64 ((mx (Int.tmod x4 10) (wrap64 (-(Int.tmod x4 10)))) + 1)) : Int).toNat).size + x3.size ≤ 9223372036854775807 then (impl_Decimal.l0 k x0 (((⟨#[48, 49, 50, 51, 52, 53, 54, 55, 56, 57, 97, 98, 99, 100, 101, 102]⟩ : ByteArray).extract ((mx (Int.tmod x4 10) (wrap64 (-(Int.tmod x4 10)))) : Int).toNat ((wrap64 ((mx (Int.tmod x4 10) (wrap64 (-(Int.tmod x4 10)))) + 1)) : Int).toNat) ++ x3) (wrap64 (Int.tdiv x4 10))) else (none)) else (none)) else (none)) else (none))
def impl_Decimal.f (k : Nat) (a0 : Int) : Option (ByteArray) := if a0 = 0 then (some (⟨#[48]⟩ : ByteArray)) else (impl_Decimal.l0 k a0 (⟨#[]⟩ : ByteArray) a0)
set_option maxHeartbeats 8000000 in
set_option maxRecDepth 100000 in
theorem impl_Decimal.calls (k : Nat) (a0 : Int) (r : ByteArray) (w : World) (h : impl_Decimal.f k a0 = some r) :
 Calls Try.prog 114 #[.int .i64 a0] w fun e w' => e = .returned (.string r) ∧ Below w.heap.size w w' := by
 have HB := Aside0.mk (Below.refl w.heap.size w);have H : (if a0 = 0 then (some (⟨#[48]⟩ : ByteArray)) else (impl_Decimal.l0 k a0 (⟨#[]⟩ : ByteArray) a0)) = some r := h;clear h;by_cases c2 : a0 = 0
 ·rw [if_pos c2] at H;obtain ⟨c2b0, c2b1⟩ := eT c2;clear c2;obtain rfl := Option.some.inj H;go_enter Try.func114, Try.ntmps114;go_wp2;go_ret;exact ⟨rE, cB⟩
 ·rw [if_neg c2] at H;obtain ⟨c2b0, c2b1⟩ := eF c2;have H' := Aside0.mk H;clear H;go_enter Try.func114, Try.ntmps114;go_wp2
  go_loopg [3, 4] k (fun kq v3 v4 w' => ∃ (x3_1 : ByteArray) (x4_1 : Int), v3 = .string x3_1 ∧ v4 = .int .i64 x4_1 ∧ Aside0 (impl_Decimal.l0 kq a0 x3_1 x4_1 = some r) ∧ Aside0 (kq ≤ k) ∧ Aside0 (Below w.heap.size w w'))
  case atStart => exact ⟨((⟨#[]⟩ : ByteArray)), (a0), rS, rS, H', ⟨Nat.le_refl _⟩, ⟨cB⟩⟩
  case round =>
   clear H';(try clear c2);(try clear c2b0);(try clear c2b1);obtain ⟨x3_1, x4_1, rfl, rfl, HA, HK1, HB⟩ := hrel
   cases gk with
   | zero => exact absurd HA.out (by simp [impl_Decimal.l0])
   | succ k1 =>
    have H := HA.out;clear HA;simp only [impl_Decimal.l0] at H;by_cases c3 : x4_1 = 0
    ·rw [if_pos c3] at H;obtain ⟨c3b0, c3b1⟩ := eT c3;clear c3;by_cases c4 : a0 < 0
     ·rw [if_pos c4] at H;have c4b0 := decide_eq_true c4;clear c4;replace H := gC H;obtain ⟨c5, H⟩ := H;have c5b0 := eq_true c5;have c5b1 : decide (1 + x3_1.size ≤ 9223372036854775807) = true := decide_eq_true c5
      try have c5b2 : (9223372036854775807 < 1 + x3_1.size) = False := eq_false (Nat.not_lt.2 c5)
      obtain rfl := Option.some.inj H;go_wp2;go_ret;exact ⟨rE, cB⟩
     ·rw [if_neg c4] at H;have c4b0 := decide_eq_false c4;clear c4;obtain rfl := Option.some.inj H;go_wp2;go_ret;exact ⟨rE, cB⟩
    ·rw [if_neg c3] at H;obtain ⟨c3b0, c3b1⟩ := eF c3;obtain ⟨ji6, hji6⟩ : ∃ j_ : Int, (mx (Int.tmod x4_1 10) (wrap64 (-(Int.tmod x4_1 10)))) = j_ := ⟨_, rfl⟩
     (first|rw [hji6] at H|simp only [hji6] at H)
     have hji6_ : (if (Int.tmod x4_1 10) < (wrap64 (-(Int.tmod x4_1 10))) then (wrap64 (-(Int.tmod x4_1 10))) else (Int.tmod x4_1 10)) = ji6 := hji6;replace H := gC H;obtain ⟨c7, H⟩ := H;have c7b0 := eq_true c7;have c7b1 : decide (0 ≤ (ji6)) = true := decide_eq_true c7;clear c7;replace H := gC H;obtain ⟨c8, H⟩ := H;have c8b0 := eq_true c8;have c8b1 : decide ((ji6) ≤ (wrap64 ((ji6) + 1))) = true := decide_eq_true c8;replace H := gC H;obtain ⟨c9, H⟩ := H;have c9b0 := eq_true c9;have c9b1 : decide ((wrap64 ((ji6) + 1)) ≤ 16) = true := decide_eq_true c9;replace H := gC H;obtain ⟨c10, H⟩ := H;have c10b0 := eq_true c10;have c10b1 : decide (((⟨#[48, 49, 50, 51, 52, 53, 54, 55, 56, 57, 97, 98, 99, 100, 101, 102]⟩ : ByteArray).extract ((ji6) : Int).toNat ((wrap64 ((ji6) + 1)) : Int).toNat).size + x3_1.size ≤ 9223372036854775807) = true := decide_eq_true c10
     try have c10b2 : (9223372036854775807 < ((⟨#[48, 49, 50, 51, 52, 53, 54, 55, 56, 57, 97, 98, 99, 100, 101, 102]⟩ : ByteArray).extract ((ji6) : Int).toNat ((wrap64 ((ji6) + 1)) : Int).toNat).size + x3_1.size) = False := eq_false (Nat.not_lt.2 c10)
     have H' := Aside0.mk H;clear H;go_wp2;go_roundg k1
     case measure => have := HK1.out; omega
     case rel => exact ⟨(((⟨#[48, 49, 50, 51, 52, 53, 54, 55, 56, 57, 97, 98, 99, 100, 101, 102]⟩ : ByteArray).extract ((ji6) : Int).toNat ((wrap64 ((ji6) + 1)) : Int).toNat) ++ x3_1), (wrap64 (Int.tdiv x4_1 10)), (by first | rfl | (simp; done) | (simp only [← hji6] <;> (first | rfl | simp)) | (simp [*]; done)), rS, H', ⟨by have := HK1.out; omega⟩, ⟨cB⟩⟩
def impl_RuleLines.l0 : Nat → ByteArray → ByteArray → List (S95) → List (S50) → Int → Int → List Int → List (S50) → Int → Int → Option ((List (S95)))
  | 0, _, _, _, _, _, _, _, _, _, _ => none
  | k + 1, x1, x2, x7, x13, x14, x15, x419000, x419001, x419002, x419003 => if x15 < x14 then (if 0 ≤ x15 then (if x15 < (x13.length : Int) then (if x1.size + 1 ≤ 9223372036854775807 then ((impl_Decimal.f k x15).bind fun t435 => (if (x1 ++ (⟨#[110]⟩ : ByteArray)).size + t435.size ≤ 9223372036854775807 then ((impl_Decimal.f k x15).bind fun t436 => (if x1.size + t436.size ≤ 9223372036854775807 then ((impl_CondLines.f k ((rd_T50 x13 x15).f0) ((rd_T50 x13 x15).f1.f0) ((rd_T50 x13 x15).f1.f1) ((rd_T50 x13 x15).f2) ((rd_T50 x13 x15).f3.f0) ((rd_T50 x13 x15).f3.f1) (x1 ++ t436) ((x1 ++ (⟨#[110]⟩ : ByteArray)) ++ t435) x2).bind fun t437 => (if x7.length + t437.length < 1759218604441 then ((some (x7 ++ t437 : List (S95))).bind fun y440 => ((impl_place.f ((x1 ++ (⟨#[110]⟩ : ByteArray)) ++ t435)).bind fun bt443 => (if y440.length < 1759218604441 then (impl_RuleLines.l0 k x1 x2 (y440 ++ [(⟨bt443.1, (⟨bt443.2.1, bt443.2.2.1, bt443.2.2.2.1, bt443.2.2.2.2.1⟩ : S93), bt443.2.2.2.2.2.1, bt443.2.2.2.2.2.2⟩ : S95)]) x13 x14 (wrap64 (x15 + 1)) x419000 x419001 x419002 x419003) else (none)))) else (none))) else (none))) else (none))) else (none)) else (none)) else (none)) else ((impl_ResultOf.f x419002 x419003).bind fun t422 => ((impl_word.f 8 t422).bind fun bt423 => (if x7.length < 1759218604441 then (some (x7 ++ [(⟨bt423.1, (⟨bt423.2.1, bt423.2.2.1, bt423.2.2.2.1, bt423.2.2.2.2.1⟩ : S93), bt423.2.2.2.2.2.1, bt423.2.2.2.2.2.2⟩ : S95)])) else (none))))
def impl_RuleLines.f (k : Nat) (l0_0 : List Int) (l0_1 : List (S50)) (a0_2 : Int) (a0_3 : Int) (a1 : ByteArray) (a2 : ByteArray) : Option ((List (S95))) := impl_RuleLines.l0 k a1 a2 (([] : List (S95))) l0_1 (l0_1.length : Int) 0 l0_0 l0_1 a0_2 a0_3
def impl_RuleLines.T6 : Bool × List (List Nat × List Nat) := (true, [([], []), ([], []), ([], []), ([], []), ([3], [3]), ([2, 4], [2, 4]), ([], []), ([], []), ([1, 5, 6, 7, 4], [1, 5, 6, 7]), ([0, 8, 8], [0, 8]), ([9, 9, 0, 1, 2, 3, 4, 5, 6, 7, 8, 9], [0, 9])])
def impl_RuleLines.B6 : List Nat := [0, 0, 0, 0, 8, 28, 0, 0, 254, 511, 1023]
theorem impl_RuleLines.tab6 : rtab .any (opsOf Try.f44 6) = impl_RuleLines.T6 := by kernel_rfl
theorem impl_RuleLines.bits6 : waitsOk impl_RuleLines.T6.2 impl_RuleLines.B6 = true := by kernel_rfl
theorem q5x0 {P : Prop} (h : P := by 
 rintro w' ⟨s0, s1, s2, s3, s4, s5⟩
 go_simp
 with_reducible rfl) : P := h
set_option maxHeartbeats 8000000 in
set_option maxRecDepth 100000 in
theorem impl_RuleLines.calls (k : Nat) (A0_0 : Option Addr) (c0_0 : Nat) (l0_0 : List Int) (A0_1 : Option Addr) (c0_1 : Nat) (l0_1 : List (S50)) (a0_2 : Int) (a0_3 : Int) (a1 : ByteArray) (a2 : ByteArray) (r : List (S95)) (w : World) (hr0_0 : Kd.C (Kd.int .i64) w A0_0 l0_0.length l0_0) (hc0_0 : l0_0.length ≤ c0_0) (hr0_1 : Kd.C k50 w A0_1 l0_1.length l0_1) (hc0_1 : l0_1.length ≤ c0_1) (h : impl_RuleLines.f k l0_0 l0_1 a0_2 a0_3 a1 a2 = some r) :
 Calls Try.prog 44 #[.agg #[.slice A0_0 l0_0.length c0_0, .slice A0_1 l0_1.length c0_1, .int .i64 a0_2, .int .i64 a0_3], .string a1, .string a2] w fun e w' => ∃ v0_ : Value, e = .returned (v0_) ∧ Kd.R k95 95 w' w.heap.size (fun _ => True) v0_ r ∧ Below w.heap.size w w' := by
 have hu61 := Try.underlying61;have hu50 := Try.underlying50;have HR0_0 := Aside0.mk hr0_0;have HC0_0 := Aside0.mk hc0_0;clear hr0_0 hc0_0;have HR0_1 := Aside0.mk hr0_1;have HC0_1 := Aside0.mk hc0_1;clear hr0_1 hc0_1;have HB := Aside0.mk (Below.refl w.heap.size w);have H : (impl_RuleLines.l0 k a1 a2 (([] : List (S95))) l0_1 (l0_1.length : Int) 0 l0_0 l0_1 a0_2 a0_3) = some r := h;clear h;obtain ⟨y419, Ny419⟩ : ∃ y_ : List (S95), Aside0 (y_ = (([] : List (S95)))) := ⟨_, ⟨rfl⟩⟩;rw [← Ny419.out] at H;have H' := Aside0.mk H;clear H;go_enter Try.func44, Try.ntmps44
 go_wp2_with (first|((with_reducible refine gN 3 ?_);refine boxZ 3 #[.slice A0_0 l0_0.length c0_0, .slice A0_1 l0_1.length c0_1, .int .i64 a0_2, .int .i64 a0_3] 61 ?_;intro gb418 hg w4 hbox hb;have BK418 := Aside0.mk (hbox);have GW418 := gS hg;have GE418 := gS hg;replace HB := sB hb;clear hb hbox hg)|((with_reducible refine gN 11 ?_);refine Kd.R_lit k95 _ 95 ?hg (N := 11) ?hd (xs := ([] : List (S95))) (inner := []) (ok := fun _ => True) (okp := fun _ => True) ?hr ?hp (fun _ hk => hk) trivial (Below.refl _ _) (Nat.le_refl _) (by simp) ?_;(case hd => rfl);(case hg => rfl);(case hr => exact rG);(case hp => exact (Reps.none _ _));intro v420 w5 ho6 hb hg_ hnew_;clear hg_ hnew_;(first | rw [← Ny419.out] at ho6 | (simp only [Int.reduceToNat] at ho6; rw [← Ny419.out] at ho6));have HO421 := Aside0.mk (Kd.R_lower ho6 (below_size cB));replace BK418 := kB BK418 hb;replace HB := sB hb;clear hb ho6;obtain ⟨hcz7_0, hcz7_1, hcz7_2, hcz7_3, hfz7_0, hfz7_1, hfz7_2, hfz7_3⟩ := cz4 BK418))
 go_loopg [7, 15] k (fun kq v7 v15 w' => ∃ (x7_1 : List (S95)) (x15_1 : Int), v15 = .int .i64 x15_1 ∧ Aside0 (impl_RuleLines.l0 kq a1 a2 x7_1 l0_1 (l0_1.length : Int) x15_1 l0_0 l0_1 a0_2 a0_3 = some r) ∧ Aside0 (kq ≤ k) ∧ Aside0 (Kd.R k95 95 w' w.heap.size (fun _ => True) v7 x7_1) ∧ Aside0 (w'.heap[gb418]? = some (.cells #[(.slice A0_0 l0_0.length c0_0), (.slice A0_1 l0_1.length c0_1), .int .i64 a0_2, .int .i64 a0_3] 61 (0, 0))) ∧ Aside0 (Below w.heap.size w w'))
 case atStart => exact ⟨(y419), (0), rS, H', ⟨Nat.le_refl _⟩, ⟨mR HO421⟩, ⟨mK BK418⟩, ⟨cB⟩⟩
 case round =>
  clear H';(try clear hcz7_0);(try clear hcz7_1);(try clear hcz7_2);(try clear hcz7_3);(try clear hfz7_0);(try clear hfz7_1);(try clear hfz7_2);(try clear hfz7_3);obtain ⟨x7_1, x15_1, rfl, HA, HK1, HO_7, BK418, HB⟩ := hrel
  cases gk with
  | zero => exact absurd HA.out (by simp [impl_RuleLines.l0])
  | succ k1 =>
   have H := HA.out;clear HA;simp only [impl_RuleLines.l0] at H;by_cases c8 : x15_1 < (l0_1.length : Int)
   ·rw [if_pos c8] at H;have c8b0 := decide_eq_true c8;clear c8;replace H := gD H;obtain ⟨c9b0, H⟩ := H;replace H := gD H;obtain ⟨c10b0, H⟩ := H;replace H := gC H;obtain ⟨c11, H⟩ := H;have c11b0 := eq_true c11;have c11b1 : decide (a1.size + 1 ≤ 9223372036854775807) = true := decide_eq_true c11
    try have c11b2 : (9223372036854775807 < a1.size + 1) = False := eq_false (Nat.not_lt.2 c11)
    replace H := bE H;obtain ⟨t435, A12, H⟩ := H;replace H := gC H;obtain ⟨c13, H⟩ := H;have c13b0 := eq_true c13;have c13b1 : decide ((a1 ++ (⟨#[110]⟩ : ByteArray)).size + t435.size ≤ 9223372036854775807) = true := decide_eq_true c13
    try have c13b2 : (9223372036854775807 < (a1 ++ (⟨#[110]⟩ : ByteArray)).size + t435.size) = False := eq_false (Nat.not_lt.2 c13)
    try have c13b3 : (9223372036854775807 < a1.size + 1 + t435.size) = False := eq_false (Nat.not_lt.2 (by have h_ := c13; simp only [ByteArray.size_append] at h_; exact h_))
    replace H := bE H;obtain ⟨t436, A14, H⟩ := H;replace H := gC H;obtain ⟨c15, H⟩ := H;have c15b0 := eq_true c15;have c15b1 : decide (a1.size + t436.size ≤ 9223372036854775807) = true := decide_eq_true c15
    try have c15b2 : (9223372036854775807 < a1.size + t436.size) = False := eq_false (Nat.not_lt.2 c15)
    replace H := bE H;obtain ⟨t437, A16, H⟩ := H;replace H := gC H;obtain ⟨c17, H⟩ := H;have LMc17 := Aside0.mk c17;clear c17;replace H := nE H;obtain ⟨y440, Ny440, H⟩ := H;replace H := bE H;obtain ⟨⟨t443, t444, t445, t446, t447, t448, t449⟩, A18, H⟩ := H;(try dsimp only at H);replace H := gC H;obtain ⟨c19, H⟩ := H;have LMc19 := Aside0.mk c19;clear c19;obtain ⟨y450, Ny450⟩ : ∃ y_ : List (S95), Aside0 (y_ = (y440 ++ [(⟨t443, (⟨t444, t445, t446, t447⟩ : S93), t448, t449⟩ : S95)])) := ⟨_, ⟨rfl⟩⟩;rw [← Ny450.out] at H;have H' := Aside0.mk H;clear H;have p433 : 0 ≤ (x15_1 : Int) := dA;have q433 : x15_1 < (l0_1.length : Int) := dA;obtain ⟨ad433, e433, hx433_0, hx433_1, hx433_2, hx433_3, hx433_4, hx433_5⟩ := at_T50 HR0_1.out x15_1 p433 q433;cases e433;replace hx433_0 := (bc HB hx433_0 :);replace hx433_1 := (bc HB hx433_1 :);replace hx433_2 := (bc HB hx433_2 :);replace hx433_3 := (bc HB hx433_3 :);replace hx433_4 := (bc HB hx433_4 :);replace hx433_5 := (bc HB hx433_5 :);replace p433 := eq_true p433;replace q433 := eq_true q433
    try go_wp2_with (first|((with_reducible refine gN 9 ?_);refine boxZ 9 #[.int .i64 0, .int .i64 0, .int .i64 0, .int .i64 0, .int .i64 0, .int .i64 0] 50 ?_;intro gb434 hg w20 hbox hb;replace HO_7 := rB HO_7 hb;have BK434 := Aside0.mk (hbox);have GW434 := gS hg;have GE434 := gS hg;replace HB := sB hb;have NB418_434 := nL hg BK418;have NB434_418 := nG hg BK418;replace BK418 := kB BK418 hb;clear hb hbox hg;have hnb21 := NB434_418.out;have hnc21 := NB418_434.out;obtain ⟨hcz22_0, hcz22_1, hcz22_2, hcz22_3, hcz22_4, hcz22_5, hfz22_0, hfz22_1, hfz22_2, hfz22_3, hfz22_4, hfz22_5⟩ := cz6 BK434)|((with_reducible refine gF 114 ?_);refine goZ (some 23) Try.func114 #[.int .i64 x15_1] ?_;(with_reducible refine (impl_Decimal.calls k1 x15_1 t435 _ A12.out).mono ?_);rintro e w23 ⟨rfl, hb⟩;refine ⟨_, rfl, ?_⟩;replace HO_7 := Aside0.mk (Kd.R_below (by (with_reducible repeat (first | apply Kd.R_alloc | apply Kd.R_drewN | apply Kd.R_drew)); exact (fR (Kd.R_types HO_7.out BK434.out (by decide)) (fun _ h_ => h_.1))) hb);replace BK418 := kB BK418 hb;replace BK434 := kP BK434 hb (.cells #[.int .i64 ((rd_T50 l0_1 x15_1).f0), .int .i64 ((rd_T50 l0_1 x15_1).f1.f0), .int .i64 ((rd_T50 l0_1 x15_1).f1.f1), .int .i64 ((rd_T50 l0_1 x15_1).f2), .int .i64 ((rd_T50 l0_1 x15_1).f3.f0), .int .i64 ((rd_T50 l0_1 x15_1).f3.f1)] 50 (0, 0));replace HB := sB hb;(try clear hb)))
    replace HO_7 := Aside0.mk (Kd.R_drew HO_7.out);replace BK418 := Aside0.mk (blk_drew BK418.out);replace BK434 := Aside0.mk (blk_drew BK434.out);replace HB := Aside0.mk (below_drew1 HB.out)
    refine start_ (n := 11) (S := fun w' => w'.cell? ⟨gb434, 0, none⟩ = some (.int .i64 ((rd_T50 l0_1 x15_1).f0)) ∧ w'.cell? ⟨gb434, 1, none⟩ = some (.int .i64 ((rd_T50 l0_1 x15_1).f1.f0)) ∧ w'.cell? ⟨gb434, 2, none⟩ = some (.int .i64 ((rd_T50 l0_1 x15_1).f1.f1)) ∧ w'.cell? ⟨gb434, 3, none⟩ = some (.int .i64 ((rd_T50 l0_1 x15_1).f2)) ∧ w'.cell? ⟨gb434, 4, none⟩ = some (.int .i64 ((rd_T50 l0_1 x15_1).f3.f0)) ∧ w'.cell? ⟨gb434, 5, none⟩ = some (.int .i64 ((rd_T50 l0_1 x15_1).f3.f1))) (ds := []) #[false, false, false, false, false, false, false, false, false, false, false] (by kernel_rfl) rfl rfl ⟨(blk_cell BK434.out 0).trans rfl, (blk_cell BK434.out 1).trans rfl, (blk_cell BK434.out 2).trans rfl, (blk_cell BK434.out 3).trans rfl, (blk_cell BK434.out 4).trans rfl, (blk_cell BK434.out 5).trans rfl⟩ (fun hHeld => ?_); refine with_tabW impl_RuleLines.tab6 impl_RuleLines.bits6 (fun HT_ HW_ => ?_)
    generalize w23.drew = w24 at HO_7 BK418 BK434 HB hHeld ⊢;refine pureZ 0 (some 25) (msk 11 1) HT_.out ?_;refine pureZ 2 (some 27) (msk 11 5) HT_.out ?_;refine pureZ 3 (some 28) (msk 11 13) HT_.out ?_;refine pureZ 6 (some 31) (msk 11 77) HT_.out ?_;refine pureZ 7 (some 32) (msk 11 205) HT_.out ?_;refine takeZ 1 (some 26) (msk 11 207) HT_.out HW_.out hHeld (hy := q5x0) (h := ?_)
    refine one_Z 4 (some 29) (msk 11 223) HT_.out fun K hK => ?_
    refine goes_ Try.func114 (by kernel_rfl) rfl #[.int .i64 x15_1] (by rfl) rfl rfl (by (try simp only [List.map_toArray, List.map_cons, List.map_nil]); first | done | rfl | (simp only [List.length_drop, List.length_take]; rfl)) ?_
    with_reducible refine (impl_Decimal.calls k1 x15_1 t436 _ A14.out).mono ?_;rintro e w25 ⟨rfl, hb⟩;refine ⟨_, rfl, ?_⟩;replace HO_7 := rB HO_7 hb;replace BK418 := kB BK418 hb;replace BK434 := kB BK434 hb;replace HB := sB hb;(try clear hb)
    refine hK.out _ _ qh5x0 (fun hHeld => ?_)
    clear hK K;refine normZ (some 29) ?_
    refine pureZ 5 (some 30) (msk 11 255) HT_.out ?_
    refine one_Z 8 (some 33) (msk 11 511) HT_.out fun K hK => ?_
    refine goes_ Try.func46 (by kernel_rfl) rfl #[.agg #[.int .i64 ((rd_T50 l0_1 x15_1).f0), .int .i64 ((rd_T50 l0_1 x15_1).f1.f0), .int .i64 ((rd_T50 l0_1 x15_1).f1.f1), .int .i64 ((rd_T50 l0_1 x15_1).f2), .int .i64 ((rd_T50 l0_1 x15_1).f3.f0), .int .i64 ((rd_T50 l0_1 x15_1).f3.f1)], .string (a1 ++ t436), .string ((a1 ++ (⟨#[110]⟩ : ByteArray)) ++ t435), .string a2] (by rfl) rfl rfl (by (try simp only [List.map_toArray, List.map_cons, List.map_nil]); first | done | rfl | (simp only [List.length_drop, List.length_take]; rfl)) ?_
    with_reducible refine (impl_CondLines.calls k1 ((rd_T50 l0_1 x15_1).f0) ((rd_T50 l0_1 x15_1).f1.f0) ((rd_T50 l0_1 x15_1).f1.f1) ((rd_T50 l0_1 x15_1).f2) ((rd_T50 l0_1 x15_1).f3.f0) ((rd_T50 l0_1 x15_1).f3.f1) (a1 ++ t436) ((a1 ++ (⟨#[110]⟩ : ByteArray)) ++ t435) a2 t437 _ A16.out).mono ?_;rintro e w26 ⟨v438, rfl, ho0, hb⟩;refine ⟨_, rfl, ?_⟩;have HO439 := Aside0.mk (Kd.R_lower (Kd.R_new' ho0 (Kd.R_lt (mR HO_7))) (below_size cB));replace HO_7 := eB HO_7 (Kd.R_base ho0) hb;replace BK418 := kB BK418 hb;replace BK434 := kB BK434 hb;replace HB := sB hb;(try clear hb);(try clear ho0);obtain ⟨Ao28, co28, eo28⟩ := Kd.R_slice HO439.out
    (first | subst eo28 | (injection eo28 with f1_ f2_ f3_; have f4_ := f1_.symm; have f5_ := f3_.symm; clear f1_ f2_ f3_; subst f4_; subst f5_))
    refine hK.out _ _ qh5x0 (fun hHeld => ?_)
    clear hK K;refine normZ (some 33) ?_
    refine one_Z 9 (some 34) (msk 11 1023) HT_.out fun K hK => ?_
    refine Kd.R_append_rows_step k95 (w0 := w) w.heap.size (by rfl) (.tmp 25) (.tmp 33) 71 95 (.agg #[(.string ⟨#[]⟩), (.int .i64 0), (.int .i64 0), (.int .i64 0), (.int .i64 0), (.string ⟨#[]⟩), (.string ⟨#[]⟩)]) 80 rfl Try.underlying71 info95 rfl (by decide) (by omega) u7 x7_1 t437 _ _ _ (fun k_ => some k_ ≠ (.slice Ao28 t437.length co28 : Value).ownBlock) (fun _ => False) rfl rfl ?aO ?aR (fun _ _ h => h) (fun _ h => h.elim) ?aF ?aB ?aS ?aL ?_
    (case aR => exact cC ((Kd.R_reads' HO439.out).2.2))
    (case aB => exact cB)
    (case aF => exact (fun k_ hk => Kd.fresh' (Kd.R_lt (mR HO439)) k_ hk))
    (case aO => exact (by (with_reducible repeat (first | apply Kd.R_alloc | apply Kd.R_drewN | apply Kd.R_drew)); exact Kd.R_mono HO_7.out (fun _ hk => hk.2)))
    (case aS => exact (below_size cB))
    (case aL => have := LMc17.out; omega)
    intro v441 w27 ho hb hg hat;rw [← Ny440.out] at ho
    replace BK418 := Aside0.mk (blk_grown (mK BK418) hg (Kd.R_ne HO_7.out BK418.out (by decide)))
    replace BK434 := Aside0.mk (blk_grown (mK BK434) hg (Kd.R_ne HO_7.out BK434.out (by decide)))
    replace HO439 := Aside0.mk (Kd.R_after (ok := (fun _ => True)) (mR HO439) hg hat)
    replace HB := Aside0.mk (hb);have HO442 := Aside0.mk (ho);clear HO_7 ho hb hg hat
    refine hK.out _ _ qh5x0 (fun hHeld => ?_)
    clear hK K;refine normZ (some 34) ?_
    refine pureZ 10 (some 7) (msk 11 2047) HT_.out ?_
    refine done_ (done_of HT_.out (by kernel_rfl)) ?_
    try go_wp2_with (first|((with_reducible refine gF 115 ?_);refine goZ (some 37) Try.func115 #[.string ((a1 ++ (⟨#[110]⟩ : ByteArray)) ++ t435)] ?_;(with_reducible refine (impl_place.calls ((a1 ++ (⟨#[110]⟩ : ByteArray)) ++ t435) t443 t444 t445 t446 t447 t448 t449 _ A18.out).mono ?_);rintro e w29 ⟨rfl, hb⟩;refine ⟨_, rfl, ?_⟩;replace HO439 := rB HO439 hb;replace HO442 := rB HO442 hb;replace BK418 := kB BK418 hb;replace BK434 := kB BK434 hb;replace HB := sB hb;(try clear hb))|((with_reducible refine gA 35 38 ?_);at_builtin;refine Kd.R_append k95 (w0 := w) w.heap.size rfl (.tmp 35) (.tmp 38) 71 95 (.agg #[(.string ⟨#[]⟩), (.int .i64 0), (.int .i64 0), (.int .i64 0), (.int .i64 0), (.string ⟨#[]⟩), (.string ⟨#[]⟩)]) 80 rfl Try.underlying71 info95 rfl (by decide) (by omega) v441 y440 (⟨t443, (⟨t444, t445, t446, t447⟩ : S93), t448, t449⟩ : S95) [.string t443, .int .i64 t444, .int .i64 t445, .int .i64 t446, .int .i64 t447, .string t448, .string t449] (fun k_ => some k_ ≠ (.slice Ao28 t437.length co28 : Value).ownBlock) (fun _ => False) rfl rfl ?aP (fun _ hk => hk.elim) ?aF ?aO ?aB ?aS ?aL ?_;(case aP => exact k95_mkM _ _ _ (⟨t443, (⟨t444, t445, t446, t447⟩ : S93), t448, t449⟩ : S95));(case aB => exact cB);(case aF => exact (fun k_ hk => Kd.fresh' (Kd.R_lt (mR HO439)) k_ hk));(case aO => exact (mR HO442));(case aS => exact (below_size cB));(case aL => have := LMc19.out; omega);intro v451 w30 ho hb hg hat;rw [← Ny450.out] at ho;replace BK418 := Aside0.mk (blk_grown (mK BK418) hg (Kd.R_ne HO442.out BK418.out (by decide)));replace BK434 := Aside0.mk (blk_grown (mK BK434) hg (Kd.R_ne HO442.out BK434.out (by decide)));replace HO439 := Aside0.mk (Kd.R_after (ok := (fun _ => True)) (mR HO439) hg hat);replace HB := Aside0.mk (hb);have HO452 := Aside0.mk (ho);clear HO442 ho hb hg hat))
    go_roundg k1
    case measure => have := HK1.out; omega
    case rel => exact ⟨(y450), (wrap64 (x15_1 + 1)), rS, H', ⟨by have := HK1.out; omega⟩, ⟨by (with_reducible repeat (first | apply Kd.R_alloc | apply Kd.R_drewN | apply Kd.R_drew)); exact Kd.R_mono HO452.out (fun _ hk => trivial)⟩, ⟨mK BK418⟩, ⟨cB⟩⟩
   ·rw [if_neg c8] at H;have c8b0 := decide_eq_false c8;clear c8;replace H := bE H;obtain ⟨t422, A31, H⟩ := H;replace H := bE H;obtain ⟨⟨t423, t424, t425, t426, t427, t428, t429⟩, A32, H⟩ := H;(try dsimp only at H);replace H := gC H;obtain ⟨c33, H⟩ := H;have LMc33 := Aside0.mk c33;clear c33;obtain ⟨y430, Ny430⟩ : ∃ y_ : List (S95), Aside0 (y_ = (x7_1 ++ [(⟨t423, (⟨t424, t425, t426, t427⟩ : S93), t428, t429⟩ : S95)])) := ⟨_, ⟨rfl⟩⟩;rw [← Ny430.out] at H;obtain rfl := Option.some.inj H;obtain ⟨hcz34_0, hcz34_1, hcz34_2, hcz34_3, hfz34_0, hfz34_1, hfz34_2, hfz34_3⟩ := cz4 BK418
    go_wp2_with (first|((with_reducible refine gF 50 ?_);refine goZ (some 46) Try.func50 #[.int .i64 a0_2, .int .i64 a0_3] ?_;(with_reducible refine (impl_ResultOf.calls a0_2 a0_3 t422 _ A31.out).mono ?_);rintro e w' ⟨rfl, ⟨nd, rfl⟩⟩;refine ⟨_, rfl, ?_⟩)|((with_reducible refine gF 116 ?_);refine goZ (some 47) Try.func116 #[.int .i64 8, .int .i64 t422] ?_;(with_reducible refine (impl_word.calls 8 t422 t423 t424 t425 t426 t427 t428 t429 _ A32.out).mono ?_);rintro e w35 ⟨rfl, hb⟩;refine ⟨_, rfl, ?_⟩;replace HO_7 := rB HO_7 hb;replace BK418 := kB BK418 hb;replace HB := sB hb;(try clear hb))|((with_reducible refine gA 41 48 ?_);at_builtin;refine Kd.R_append k95 (w0 := w) w.heap.size rfl (.tmp 41) (.tmp 48) 71 95 (.agg #[(.string ⟨#[]⟩), (.int .i64 0), (.int .i64 0), (.int .i64 0), (.int .i64 0), (.string ⟨#[]⟩), (.string ⟨#[]⟩)]) 80 rfl Try.underlying71 info95 rfl (by decide) (by omega) u7 x7_1 (⟨t423, (⟨t424, t425, t426, t427⟩ : S93), t428, t429⟩ : S95) [.string t423, .int .i64 t424, .int .i64 t425, .int .i64 t426, .int .i64 t427, .string t428, .string t429] (fun _ => True) (fun _ => False) rfl rfl ?aP (fun _ hk => hk.elim) ?aF ?aO ?aB ?aS ?aL ?_;(case aP => exact k95_mkM _ _ _ (⟨t423, (⟨t424, t425, t426, t427⟩ : S93), t428, t429⟩ : S95));(case aB => exact cB);(case aF => exact (fun _ _ => trivial));(case aO => exact (mR HO_7));(case aS => exact (below_size cB));(case aL => have := LMc33.out; omega);intro v431 w36 ho hb hg hat;rw [← Ny430.out] at ho;replace BK418 := Aside0.mk (blk_grown (mK BK418) hg (Kd.R_ne HO_7.out BK418.out (by decide)));replace HB := Aside0.mk (hb);have HO432 := Aside0.mk (ho);clear HO_7 ho hb hg hat))
    go_ret;exact ⟨_, rE, mR HO432, cB⟩
def laws_sameLines.l0 : Nat → List (S95) → List (S95) → Int → Option (Bool)
  | 0, _, _, _ => none
  | k + 1, x0, x1, x5 => if x5 < (x0.length : Int) then (if 0 ≤ x5 then (if x5 < (x1.length : Int) then (if (!((((rd_T95 x0 x5).f0).toList) == (((rd_T95 x1 x5).f0).toList)) || ((!(((rd_T95 x0 x5).f1.f0) == ((rd_T95 x1 x5).f1.f0)) || (!(((rd_T95 x0 x5).f1.f1) == ((rd_T95 x1 x5).f1.f1)) || (!(((rd_T95 x0 x5).f1.f2) == ((rd_T95 x1 x5).f1.f2)) || (!(((rd_T95 x0 x5).f1.f3) == ((rd_T95 x1 x5).f1.f3)))))) || (!((((rd_T95 x0 x5).f2).toList) == (((rd_T95 x1 x5).f2).toList)) || (!((((rd_T95 x0 x5).f3).toList) == (((rd_T95 x1 x5).f3).toList)))))) = true then (some false) else (laws_sameLines.l0 k x0 x1 (wrap64 (x5 + 1)))) else (none)) else (none)) else (some true)
def laws_sameLines.f (k : Nat) (l0 : List (S95)) (l1 : List (S95)) : Option (Bool) := if (l0.length : Int) = (l1.length : Int) then (laws_sameLines.l0 k l0 l1 0) else (some false)
set_option maxHeartbeats 8000000 in
set_option maxRecDepth 100000 in
theorem laws_sameLines.calls (k : Nat) (A0 : Option Addr) (c0 : Nat) (l0 : List (S95)) (A1 : Option Addr) (c1 : Nat) (l1 : List (S95)) (r : Bool) (w : World) (hr0 : Kd.C k95 w A0 l0.length l0) (hc0 : l0.length ≤ c0) (hr1 : Kd.C k95 w A1 l1.length l1) (hc1 : l1.length ≤ c1) (h : laws_sameLines.f k l0 l1 = some r) :
 Calls Try.prog 45 #[.slice A0 l0.length c0, .slice A1 l1.length c1] w fun e w' => e = .returned (.bool r) ∧ Drawn0 w w' := by
 have hu95 := Try.underlying95;have HR0 := Aside0.mk hr0;have HC0 := Aside0.mk hc0;clear hr0 hc0;have HR1 := Aside0.mk hr1;have HC1 := Aside0.mk hc1;clear hr1 hc1;have H : (if (l0.length : Int) = (l1.length : Int) then (laws_sameLines.l0 k l0 l1 0) else (some false)) = some r := h;clear h;by_cases c3 : (l0.length : Int) = (l1.length : Int)
 ·rw [if_pos c3] at H;obtain ⟨c3b0, c3b1⟩ := eT c3
  have c3b2 : (l0.length == l1.length) = true := by first | simpa using c3 | (simp at c3 ⊢; omega)
  clear c3;have H' := Aside0.mk H;clear H;go_enter Try.func45, Try.ntmps45;go_wp2
  repeat (go_quiet (fail); try go_wp2)
  go_loopg [5] k (fun kq v5 w' => ∃ (x5_1 : Int), v5 = .int .i64 x5_1 ∧ Aside0 (laws_sameLines.l0 kq l0 l1 x5_1 = some r) ∧ Aside0 (kq ≤ k) ∧ Drawn0 w w')
  case atStart => exact ⟨(0), rS, H', ⟨Nat.le_refl _⟩, by repeat (first | exact Drawn0.refl _ | apply Drawn0.step)⟩
  case round =>
   clear H';(try clear c1);(try clear c3);(try clear c3b0);(try clear c3b1);(try clear c3b2);obtain ⟨x5_1, rfl, HA, HK1, ⟨m1, rfl⟩⟩ := hrel
   cases gk with
   | zero => exact absurd HA.out (by simp [laws_sameLines.l0])
   | succ k1 =>
    have H := HA.out;clear HA;simp only [laws_sameLines.l0] at H;by_cases c4 : x5_1 < (l0.length : Int)
    ·rw [if_pos c4] at H;have c4b0 := decide_eq_true c4;clear c4;replace H := gD H;obtain ⟨c5b0, H⟩ := H;replace H := gD H;obtain ⟨c6b0, H⟩ := H
     by_cases c7 : (!((((rd_T95 l0 x5_1).f0).toList) == (((rd_T95 l1 x5_1).f0).toList)) || ((!(((rd_T95 l0 x5_1).f1.f0) == ((rd_T95 l1 x5_1).f1.f0)) || (!(((rd_T95 l0 x5_1).f1.f1) == ((rd_T95 l1 x5_1).f1.f1)) || (!(((rd_T95 l0 x5_1).f1.f2) == ((rd_T95 l1 x5_1).f1.f2)) || (!(((rd_T95 l0 x5_1).f1.f3) == ((rd_T95 l1 x5_1).f1.f3)))))) || (!((((rd_T95 l0 x5_1).f2).toList) == (((rd_T95 l1 x5_1).f2).toList)) || (!((((rd_T95 l0 x5_1).f3).toList) == (((rd_T95 l1 x5_1).f3).toList)))))) = true
     ·rw [if_pos c7] at H
      have c7b0 : (!((((rd_T95 l0 x5_1).f0).toList) == (((rd_T95 l1 x5_1).f0).toList)) || ((!(((rd_T95 l0 x5_1).f1.f0) == ((rd_T95 l1 x5_1).f1.f0)) || (!(((rd_T95 l0 x5_1).f1.f1) == ((rd_T95 l1 x5_1).f1.f1)) || (!(((rd_T95 l0 x5_1).f1.f2) == ((rd_T95 l1 x5_1).f1.f2)) || (!(((rd_T95 l0 x5_1).f1.f3) == ((rd_T95 l1 x5_1).f1.f3)))))) || (!((((rd_T95 l0 x5_1).f2).toList) == (((rd_T95 l1 x5_1).f2).toList)) || (!((((rd_T95 l0 x5_1).f3).toList) == (((rd_T95 l1 x5_1).f3).toList)))))) = true := c7
      clear c7;obtain rfl := Option.some.inj H;have p453 : 0 ≤ (x5_1 : Int) := dA;have q453 : x5_1 < (l0.length : Int) := dA;obtain ⟨ad453, e453, hx453_0, hx453_1, hx453_2, hx453_3, hx453_4, hx453_5, hx453_6⟩ := at_T95 HR0.out x5_1 p453 q453;cases e453;replace p453 := eq_true p453;replace q453 := eq_true q453;have p454 : 0 ≤ (x5_1 : Int) := dA;have q454 : x5_1 < (l1.length : Int) := dA;obtain ⟨ad454, e454, hx454_0, hx454_1, hx454_2, hx454_3, hx454_4, hx454_5, hx454_6⟩ := at_T95 HR1.out x5_1 p454 q454;cases e454;replace p454 := eq_true p454;replace q454 := eq_true q454;go_wp2
      repeat (go_quiet (fail); try go_wp2)
      go_ret
      exact ⟨by first | rfl | (simp; done) | (simp [*]; done), by repeat (first | exact Drawn0.refl _ | apply Drawn0.step)⟩
     ·rw [if_neg c7] at H
      have c7b0 : (!((((rd_T95 l0 x5_1).f0).toList) == (((rd_T95 l1 x5_1).f0).toList)) || ((!(((rd_T95 l0 x5_1).f1.f0) == ((rd_T95 l1 x5_1).f1.f0)) || (!(((rd_T95 l0 x5_1).f1.f1) == ((rd_T95 l1 x5_1).f1.f1)) || (!(((rd_T95 l0 x5_1).f1.f2) == ((rd_T95 l1 x5_1).f1.f2)) || (!(((rd_T95 l0 x5_1).f1.f3) == ((rd_T95 l1 x5_1).f1.f3)))))) || (!((((rd_T95 l0 x5_1).f2).toList) == (((rd_T95 l1 x5_1).f2).toList)) || (!((((rd_T95 l0 x5_1).f3).toList) == (((rd_T95 l1 x5_1).f3).toList)))))) = false := by simpa using c7
      clear c7;have H' := Aside0.mk H;clear H;have p453 : 0 ≤ (x5_1 : Int) := dA;have q453 : x5_1 < (l0.length : Int) := dA;obtain ⟨ad453, e453, hx453_0, hx453_1, hx453_2, hx453_3, hx453_4, hx453_5, hx453_6⟩ := at_T95 HR0.out x5_1 p453 q453;cases e453;replace p453 := eq_true p453;replace q453 := eq_true q453;have p454 : 0 ≤ (x5_1 : Int) := dA;have q454 : x5_1 < (l1.length : Int) := dA;obtain ⟨ad454, e454, hx454_0, hx454_1, hx454_2, hx454_3, hx454_4, hx454_5, hx454_6⟩ := at_T95 HR1.out x5_1 p454 q454;cases e454;replace p454 := eq_true p454;replace q454 := eq_true q454;go_wp2
      repeat (go_quiet (fail); try go_wp2)
      go_roundg k1
      case measure => have := HK1.out; omega
      case rel => exact ⟨(wrap64 (x5_1 + 1)), rS, H', ⟨by have := HK1.out; omega⟩, by repeat (first | exact Drawn0.refl _ | apply Drawn0.step)⟩
    ·rw [if_neg c4] at H;have c4b0 := decide_eq_false c4;clear c4;obtain rfl := Option.some.inj H;go_wp2
     repeat (go_quiet (fail); try go_wp2)
     go_ret
     exact ⟨by first | rfl | (simp; done) | (simp [*]; done), by repeat (first | exact Drawn0.refl _ | apply Drawn0.step)⟩
 ·rw [if_neg c3] at H;obtain ⟨c3b0, c3b1⟩ := eF c3
  have c3b2 : (l0.length == l1.length) = false := by first | simpa using c3 | (simp at c3 ⊢; omega)
  obtain rfl := Option.some.inj H;go_enter Try.func45, Try.ntmps45;go_wp2
  repeat (go_quiet (fail); try go_wp2)
  go_ret
  exact ⟨by first | rfl | (simp; done) | (simp [*]; done), by repeat (first | exact Drawn0.refl _ | apply Drawn0.step)⟩
def spec_l01In.f (a0 : Int) (a1 : Int) (a2 : Int) : Option (Bool) := if a0 ≥ a1 then (some (decide (a0 ≤ a2))) else (some false)
set_option maxHeartbeats 8000000 in
set_option maxRecDepth 100000 in
theorem spec_l01In.calls (a0 : Int) (a1 : Int) (a2 : Int) (r : Bool) (w : World) (h : spec_l01In.f a0 a1 a2 = some r) :
 Calls Try.prog 100 #[.int .i64 a0, .int .i64 a1, .int .i64 a2] w fun e w' => e = .returned (.bool r) ∧ Drawn0 w w' := by
 have H : (if a0 ≥ a1 then (some (decide (a0 ≤ a2))) else (some false)) = some r := h;clear h;by_cases c4 : a0 ≥ a1
 ·rw [if_pos c4] at H;have c4b0 : decide (a1 ≤ a0) = true := decide_eq_true c4;clear c4;obtain rfl := Option.some.inj H;go_enter Try.func100, Try.ntmps100;go_wp2;go_ret
  exact ⟨by first | rfl | (simp; done) | (simp [*]; done), by repeat (first | exact Drawn0.refl _ | apply Drawn0.step)⟩
 ·rw [if_neg c4] at H;have c4b0 : decide (a1 ≤ a0) = false := decide_eq_false c4;clear c4;obtain rfl := Option.some.inj H;go_enter Try.func100, Try.ntmps100;go_wp2;go_ret
  exact ⟨by first | rfl | (simp; done) | (simp [*]; done), by repeat (first | exact Drawn0.refl _ | apply Drawn0.step)⟩
def spec_HalfOk.f (a0 : Int) : Option (Bool) := (spec_l01In.f a0 0 4294967295).bind fun t455 => (some t455)
set_option maxHeartbeats 8000000 in
set_option maxRecDepth 100000 in
theorem spec_HalfOk.calls (a0 : Int) (r : Bool) (w : World) (h : spec_HalfOk.f a0 = some r) :
 Calls Try.prog 96 #[.int .i64 a0] w fun e w' => e = .returned (.bool r) ∧ Drawn0 w w' := by
 have H : ((spec_l01In.f a0 0 4294967295).bind fun t455 => (some t455)) = some r := h
 clear h;replace H := bE H;obtain ⟨t455, A2, H⟩ := H;obtain rfl := Option.some.inj H;go_enter Try.func96, Try.ntmps96
 go_wp2_with (first|((with_reducible refine gF 100 ?_);refine goZ (some 4) Try.func100 #[.int .i64 a0, .int .i64 0, .int .i64 4294967295] ?_;(with_reducible refine (spec_l01In.calls a0 0 4294967295 t455 _ A2.out).mono ?_);rintro e w' ⟨rfl, ⟨nd, rfl⟩⟩;refine ⟨_, rfl, ?_⟩))
 go_ret
 exact ⟨by first | rfl | (simp; done) | (simp [*]; done), by repeat (first | exact Drawn0.refl _ | apply Drawn0.step)⟩
def spec_WideOk.f (a0_0 : Int) (a0_1 : Int) : Option (Bool) := (spec_HalfOk.f a0_0).bind fun t457 => (if t457 = true then ((spec_HalfOk.f a0_1).bind fun t458 => (some t458)) else (some false))
set_option maxHeartbeats 8000000 in
set_option maxRecDepth 100000 in
theorem spec_WideOk.calls (a0_0 : Int) (a0_1 : Int) (r : Bool) (w : World) (h : spec_WideOk.f a0_0 a0_1 = some r) :
 Calls Try.prog 104 #[.agg #[.int .i64 a0_0, .int .i64 a0_1]] w fun e w' => e = .returned (.bool r) ∧ Below w.heap.size w w' := by
 have hu48 := Try.underlying48;have HB := Aside0.mk (Below.refl w.heap.size w)
 have H : ((spec_HalfOk.f a0_0).bind fun t457 => (if t457 = true then ((spec_HalfOk.f a0_1).bind fun t458 => (some t458)) else (some false))) = some r := h
 clear h;replace H := bE H;obtain ⟨t457, A2, H⟩ := H;by_cases c3 : t457 = true
 ·subst c3;replace H := iT H;replace H := bE H;obtain ⟨t458, A4, H⟩ := H;obtain rfl := Option.some.inj H;go_enter Try.func104, Try.ntmps104
  go_wp2_with (first|((with_reducible refine gN 1 ?_);refine boxZ 1 #[.int .i64 a0_0, .int .i64 a0_1] 48 ?_;intro gb456 hg w5 hbox hb;have BK456 := Aside0.mk (hbox);have GW456 := gS hg;have GE456 := gS hg;replace HB := sB hb;clear hb hbox hg;obtain ⟨hcz6_0, hcz6_1, hfz6_0, hfz6_1⟩ := cz2 BK456)|((with_reducible refine gF 96 ?_);refine goZ (some 5) Try.func96 #[.int .i64 a0_0] ?_;(with_reducible refine (spec_HalfOk.calls a0_0 true _ A2.out).mono ?_);rintro e w' ⟨rfl, ⟨nd, rfl⟩⟩;refine ⟨_, rfl, ?_⟩)|(go_at_call 96;(with_reducible refine (spec_HalfOk.calls a0_1 t458 _ A4.out).mono ?_);rintro e w' ⟨rfl, ⟨nd, rfl⟩⟩))
  go_ret;exact ⟨rE, cB⟩
 ·replace c3 := Bool.eq_false_iff.mpr c3;subst c3;replace H := iF H;obtain rfl := Option.some.inj H;go_enter Try.func104, Try.ntmps104
  go_wp2_with (first|((with_reducible refine gN 1 ?_);refine boxZ 1 #[.int .i64 a0_0, .int .i64 a0_1] 48 ?_;intro gb456 hg w7 hbox hb;have BK456 := Aside0.mk (hbox);have GW456 := gS hg;have GE456 := gS hg;replace HB := sB hb;clear hb hbox hg;obtain ⟨hcz8_0, hcz8_1, hfz8_0, hfz8_1⟩ := cz2 BK456)|((with_reducible refine gF 96 ?_);refine goZ (some 5) Try.func96 #[.int .i64 a0_0] ?_;(with_reducible refine (spec_HalfOk.calls a0_0 false _ A2.out).mono ?_);rintro e w' ⟨rfl, ⟨nd, rfl⟩⟩;refine ⟨_, rfl, ?_⟩))
  go_ret;exact ⟨rE, cB⟩
end Go.Proofs.Ytlgndgjbfjefpaa.PFnCondLinesTold
