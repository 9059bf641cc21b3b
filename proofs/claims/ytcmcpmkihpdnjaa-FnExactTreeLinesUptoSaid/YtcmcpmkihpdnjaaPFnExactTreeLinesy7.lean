import Derived.Test.YtcmcpmkihpdnjaaPFnExactTreeLinesy0
namespace Go.Proofs.Ytcmcpmkihpdnjaa.PFnExactTreeLines
open Go.RowKit Go.Proofs.YtcmcpmkihpdnjaaW.PrintWords Go.Proofs.YtcmcpmkihpdnjaaW.PrintLast Go.Proofs.YtcmcpmkihpdnjaaW.PrintMore Go.Proofs.YtcmcpmkihpdnjaaW.Z
attribute [local go_sem] isS max2_int min2_int max_two min_two max_three min_three max_four min_four
set_option linter.unusedVariables false
set_option linter.unusedSimpArgs false
def spec_l09In.l0 : Nat → List Int → Int → Int → Option (Bool)
  | 0, _, _, _ => none
  | k + 1, x0, x1, x5 => if x5 < (x0.length : Int) then (if 0 ≤ x5 then (if (rd x0 x5) = x1 then (some true) else (spec_l09In.l0 k x0 x1 (wrap64 (x5 + 1)))) else (none)) else (some false)
def spec_l09In.f (k : Nat) (l0 : List Int) (a1 : Int) : Option (Bool) := spec_l09In.l0 k l0 a1 0
set_option maxHeartbeats 8000000 in
set_option maxRecDepth 100000 in
theorem spec_l09In.calls (k : Nat) (A0 : Option Addr) (c0 : Nat) (l0 : List Int) (a1 : Int) (r : Bool) (w : World) (hr0 : Kd.C (Kd.int .i64) w A0 l0.length l0) (hc0 : l0.length ≤ c0) (h : spec_l09In.f k l0 a1 = some r) :
 Calls Try.prog 85 #[.slice A0 l0.length c0, .int .i64 a1] w fun e w' => e = .returned (.bool r) ∧ Drawn0 w w' := by
 have HR0 := Aside0.mk hr0;have HC0 := Aside0.mk hc0;clear hr0 hc0;have H : (spec_l09In.l0 k l0 a1 0) = some r := h;clear h;have H' := Aside0.mk H;clear H;go_enter Try.func85, Try.ntmps85;go_wp2
 go_loopg [5] k (fun kq v5 w' => ∃ (x5_1 : Int), v5 = .int .i64 x5_1 ∧ Aside0 (spec_l09In.l0 kq l0 a1 x5_1 = some r) ∧ Aside0 (kq ≤ k) ∧ Drawn0 w w')
 case atStart => exact ⟨(0), rS, H', ⟨Nat.le_refl _⟩, by repeat (first | exact Drawn0.refl _ | apply Drawn0.step)⟩
 case round =>
  clear H';obtain ⟨x5_1, rfl, HA, HK1, ⟨m1, rfl⟩⟩ := hrel
  cases gk with
  | zero => exact absurd HA.out (by simp [spec_l09In.l0])
  | succ k1 =>
   have H := HA.out;clear HA;simp only [spec_l09In.l0] at H;by_cases c3 : x5_1 < (l0.length : Int)
   ·rw [if_pos c3] at H;have c3b0 := decide_eq_true c3;clear c3;replace H := gD H;obtain ⟨c4b0, H⟩ := H;by_cases c5 : (rd l0 x5_1) = a1
    ·rw [if_pos c5] at H;obtain ⟨c5b0, c5b1⟩ := eT c5;clear c5;obtain rfl := Option.some.inj H;have p221 : 0 ≤ (x5_1 : Int) := dA;have q221 : x5_1 < (l0.length : Int) := dA;obtain ⟨ad221, e221, hx221_0⟩ := Kd.at_int HR0.out x5_1 p221 q221;cases e221;replace p221 := eq_true p221;replace q221 := eq_true q221;go_wp2;go_ret
     exact ⟨by first | rfl | (simp; done) | (simp [*]; done), by repeat (first | exact Drawn0.refl _ | apply Drawn0.step)⟩
    ·rw [if_neg c5] at H;obtain ⟨c5b0, c5b1⟩ := eF c5;have H' := Aside0.mk H;clear H;have p221 : 0 ≤ (x5_1 : Int) := dA;have q221 : x5_1 < (l0.length : Int) := dA;obtain ⟨ad221, e221, hx221_0⟩ := Kd.at_int HR0.out x5_1 p221 q221;cases e221;replace p221 := eq_true p221;replace q221 := eq_true q221;go_wp2;go_roundg k1
     case measure => have := HK1.out; omega
     case rel => exact ⟨(wrap64 (x5_1 + 1)), rS, H', ⟨by have := HK1.out; omega⟩, by repeat (first | exact Drawn0.refl _ | apply Drawn0.step)⟩
   ·rw [if_neg c3] at H;have c3b0 := decide_eq_false c3;clear c3;obtain rfl := Option.some.inj H;go_wp2;go_ret
    exact ⟨by first | rfl | (simp; done) | (simp [*]; done), by repeat (first | exact Drawn0.refl _ | apply Drawn0.step)⟩
def spec_l11Word.f (a0 : Int) (a1 : Int) : Option (ByteArray × Int × Int × Int × Int × ByteArray × ByteArray) := some ((⟨#[]⟩ : ByteArray), a0, a1, 0, 0, (⟨#[]⟩ : ByteArray), (⟨#[]⟩ : ByteArray))
set_option maxHeartbeats 8000000 in
set_option maxRecDepth 100000 in
theorem spec_l11Word.calls (a0 : Int) (a1 : Int) (r1 : ByteArray) (r2 : Int) (r3 : Int) (r4 : Int) (r5 : Int) (r6 : ByteArray) (r7 : ByteArray) (w : World) (h : spec_l11Word.f a0 a1 = some (r1, r2, r3, r4, r5, r6, r7)) :
 Calls Try.prog 87 #[.int .i64 a0, .int .i64 a1] w fun e w' => e = .returned (.agg #[.string r1, .int .i64 r2, .int .i64 r3, .int .i64 r4, .int .i64 r5, .string r6, .string r7]) ∧ Below w.heap.size w w' := by
 have hu110 := Try.underlying110;have hu75 := Try.underlying75;have HB := Aside0.mk (Below.refl w.heap.size w);have H : (some ((⟨#[]⟩ : ByteArray), a0, a1, 0, 0, (⟨#[]⟩ : ByteArray), (⟨#[]⟩ : ByteArray))) = some (r1, r2, r3, r4, r5, r6, r7) := h;clear h;simp only [Option.some.injEq, Prod.mk.injEq] at H;obtain ⟨rfl, rfl, rfl, rfl, rfl, rfl, rfl⟩ := H;go_enter Try.func87, Try.ntmps87
 go_wp2_with (first|((with_reducible refine gN 4 ?_);refine boxZ 4 #[.string (⟨#[]⟩ : ByteArray), .int .i64 0, .int .i64 0, .int .i64 0, .int .i64 0, .string (⟨#[]⟩ : ByteArray), .string (⟨#[]⟩ : ByteArray)] 110 ?_;intro gb222 hg w3 hbox hb;have BK222 := Aside0.mk (hbox);have GW222 := gS hg;have GE222 := gS hg;replace HB := sB hb;clear hb hbox hg;obtain ⟨hcz4_0, hcz4_1, hcz4_2, hcz4_3, hcz4_4, hcz4_5, hcz4_6, hfz4_0, hfz4_1, hfz4_2, hfz4_3, hfz4_4, hfz4_5, hfz4_6⟩ := cz7 BK222))
 refine bodyPost_ret (results_cell_row rfl _ _ gb222 110 #[.string (⟨#[]⟩ : ByteArray), .int .i64 a0, .int .i64 a1, .int .i64 0, .int .i64 0, .string (⟨#[]⟩ : ByteArray), .string (⟨#[]⟩ : ByteArray)] (0, 0) _ rfl (kS BK222 _) Try.underlying110 rfl (by kernel_rfl)) rfl ?_
 exact ⟨rE, cB⟩
def spec_l01In.f (a0 : Int) (a1 : Int) (a2 : Int) : Option (Bool) := if a0 ≥ a1 then (some (decide (a0 ≤ a2))) else (some false)
set_option maxHeartbeats 8000000 in
set_option maxRecDepth 100000 in
theorem spec_l01In.calls (a0 : Int) (a1 : Int) (a2 : Int) (r : Bool) (w : World) (h : spec_l01In.f a0 a1 a2 = some r) :
 Calls Try.prog 112 #[.int .i64 a0, .int .i64 a1, .int .i64 a2] w fun e w' => e = .returned (.bool r) ∧ Drawn0 w w' := by
 have H : (if a0 ≥ a1 then (some (decide (a0 ≤ a2))) else (some false)) = some r := h;clear h;by_cases c4 : a0 ≥ a1
 ·rw [if_pos c4] at H;have c4b0 : decide (a1 ≤ a0) = true := decide_eq_true c4;clear c4;obtain rfl := Option.some.inj H;go_enter Try.func112, Try.ntmps112;go_wp2;go_ret
  exact ⟨by first | rfl | (simp; done) | (simp [*]; done), by repeat (first | exact Drawn0.refl _ | apply Drawn0.step)⟩
 ·rw [if_neg c4] at H;have c4b0 : decide (a1 ≤ a0) = false := decide_eq_false c4;clear c4;obtain rfl := Option.some.inj H;go_enter Try.func112, Try.ntmps112;go_wp2;go_ret
  exact ⟨by first | rfl | (simp; done) | (simp [*]; done), by repeat (first | exact Drawn0.refl _ | apply Drawn0.step)⟩
def spec_ResultOf.f (a0 : Int) (a1 : Int) : Option (Int) := (spec_l01In.f a0 0 5).bind fun t223 => (if t223 = true then ((spec_l01In.f a1 0 65535).bind fun t224 => (if t224 = true then (some (wrap64 ((wrap64 (65536 * a0)) + a1))) else (some 0))) else (some 0))
set_option maxHeartbeats 8000000 in
set_option maxRecDepth 100000 in
theorem spec_ResultOf.calls (a0 : Int) (a1 : Int) (r : Int) (w : World) (h : spec_ResultOf.f a0 a1 = some r) :
 Calls Try.prog 88 #[.int .i64 a0, .int .i64 a1] w fun e w' => e = .returned (.int .i64 r) ∧ Drawn0 w w' := by
 have H : ((spec_l01In.f a0 0 5).bind fun t223 => (if t223 = true then ((spec_l01In.f a1 0 65535).bind fun t224 => (if t224 = true then (some (wrap64 ((wrap64 (65536 * a0)) + a1))) else (some 0))) else (some 0))) = some r := h
 clear h;replace H := bE H;obtain ⟨t223, A3, H⟩ := H;by_cases c4 : t223 = true
 ·subst c4;replace H := iT H;replace H := bE H;obtain ⟨t224, A5, H⟩ := H;by_cases c6 : t224 = true
  ·subst c6;replace H := iT H;obtain rfl := Option.some.inj H;go_enter Try.func88, Try.ntmps88
   go_wp2_with (first|((with_reducible refine gF 112 ?_);refine goZ (some 6) Try.func112 #[.int .i64 a0, .int .i64 0, .int .i64 5] ?_;(with_reducible refine (spec_l01In.calls a0 0 5 true _ A3.out).mono ?_);rintro e w' ⟨rfl, ⟨nd, rfl⟩⟩;refine ⟨_, rfl, ?_⟩)|(go_at_call 112;(with_reducible refine (spec_l01In.calls a1 0 65535 true _ A5.out).mono ?_);rintro e w' ⟨rfl, ⟨nd, rfl⟩⟩))
   go_ret
   exact ⟨by first | rfl | (simp; done) | (simp [*]; done), by repeat (first | exact Drawn0.refl _ | apply Drawn0.step)⟩
  ·replace c6 := Bool.eq_false_iff.mpr c6;subst c6;replace H := iF H;obtain rfl := Option.some.inj H;go_enter Try.func88, Try.ntmps88
   go_wp2_with (first|((with_reducible refine gF 112 ?_);refine goZ (some 6) Try.func112 #[.int .i64 a0, .int .i64 0, .int .i64 5] ?_;(with_reducible refine (spec_l01In.calls a0 0 5 true _ A3.out).mono ?_);rintro e w' ⟨rfl, ⟨nd, rfl⟩⟩;refine ⟨_, rfl, ?_⟩)|(go_at_call 112;(with_reducible refine (spec_l01In.calls a1 0 65535 false _ A5.out).mono ?_);rintro e w' ⟨rfl, ⟨nd, rfl⟩⟩))
   go_ret
   exact ⟨by first | rfl | (simp; done) | (simp [*]; done), by repeat (first | exact Drawn0.refl _ | apply Drawn0.step)⟩
 ·replace c4 := Bool.eq_false_iff.mpr c4;subst c4;replace H := iF H;obtain rfl := Option.some.inj H;go_enter Try.func88, Try.ntmps88
  go_wp2_with (first|((with_reducible refine gF 112 ?_);refine goZ (some 6) Try.func112 #[.int .i64 a0, .int .i64 0, .int .i64 5] ?_;(with_reducible refine (spec_l01In.calls a0 0 5 false _ A3.out).mono ?_);rintro e w' ⟨rfl, ⟨nd, rfl⟩⟩;refine ⟨_, rfl, ?_⟩))
  go_ret
  exact ⟨by first | rfl | (simp; done) | (simp [*]; done), by repeat (first | exact Drawn0.refl _ | apply Drawn0.step)⟩
def spec_l01Figure.f (a0 : Int) : Option (Int) := if a0 < 10 then (some ((wrap64 (48 + a0)) % 256)) else (some ((wrap64 ((wrap64 (97 + a0)) - 10)) % 256))
set_option maxHeartbeats 8000000 in
set_option maxRecDepth 100000 in
theorem spec_l01Figure.calls (a0 : Int) (r : Int) (w : World) (h : spec_l01Figure.f a0 = some r) :
 Calls Try.prog 158 #[.int .i64 a0] w fun e w' => e = .returned (.int .u8 r) ∧ Drawn0 w w' := by
 have H : (if a0 < 10 then (some ((wrap64 (48 + a0)) % 256)) else (some ((wrap64 ((wrap64 (97 + a0)) - 10)) % 256))) = some r := h;clear h;by_cases c2 : a0 < 10
 ·rw [if_pos c2] at H;have c2b0 := decide_eq_true c2;clear c2;obtain rfl := Option.some.inj H;go_enter Try.func158, Try.ntmps158;go_wp2;go_ret
  exact ⟨by first | rfl | (simp; done) | (simp [*]; done), by repeat (first | exact Drawn0.refl _ | apply Drawn0.step)⟩
 ·rw [if_neg c2] at H;have c2b0 := decide_eq_false c2;clear c2;obtain rfl := Option.some.inj H;go_enter Try.func158, Try.ntmps158;go_wp2;go_ret
  exact ⟨by first | rfl | (simp; done) | (simp [*]; done), by repeat (first | exact Drawn0.refl _ | apply Drawn0.step)⟩
def spec_Decimal.l0 : Nat → Int → Bool → ByteArray → Option (ByteArray)
  | 0, _, _, _ => none
  | k + 1, x0, x3, x4 => if x0 = 0 then (if x3 = true then (if 1 + x4.size ≤ 9223372036854775807 then (some ((⟨#[45]⟩ : ByteArray) ++ x4)) else (none)) else (some x4)) else (if (Int.tmod x0 10) < 0 then ((spec_l01Figure.f (wrap64 (-(Int.tmod x0 10)))).bind fun t225 => ((some (([t225] : List Int) : List Int)).bind fun y226 => (if (strOfNums y226).size + x4.size ≤ 9223372036854775807 then (spec_Decimal.l0 k (wrap64 (Int.tdiv x0 10)) x3 ((strOfNums y226) ++ x4)) else (none)))) else ((spec_l01Figure.f (Int.tmod x0 10)).bind fun t229 => ((some (([t229] : List Int) : List Int)).bind fun y230 => (if (strOfNums y230).size + x4.size ≤ 9223372036854775807 then (spec_Decimal.l0 k (wrap64 (Int.tdiv x0 10)) x3 ((strOfNums y230) ++ x4)) else (none)))))
def spec_Decimal.f (k : Nat) (a0 : Int) : Option (ByteArray) := if a0 = 0 then (some (⟨#[48]⟩ : ByteArray)) else (spec_Decimal.l0 k a0 (decide (a0 < 0)) (⟨#[]⟩ : ByteArray))
set_option maxHeartbeats 8000000 in
set_option maxRecDepth 100000 in
theorem spec_Decimal.calls (k : Nat) (a0 : Int) (r : ByteArray) (w : World) (h : spec_Decimal.f k a0 = some r) :
 Calls Try.prog 128 #[.int .i64 a0] w fun e w' => e = .returned (.string r) ∧ Below w.heap.size w w' := by
 have HB := Aside0.mk (Below.refl w.heap.size w);have H : (if a0 = 0 then (some (⟨#[48]⟩ : ByteArray)) else (spec_Decimal.l0 k a0 (decide (a0 < 0)) (⟨#[]⟩ : ByteArray))) = some r := h;clear h;by_cases c2 : a0 = 0
 ·rw [if_pos c2] at H;obtain ⟨c2b0, c2b1⟩ := eT c2;clear c2;obtain rfl := Option.some.inj H;go_enter Try.func128, Try.ntmps128;go_wp2;go_ret;exact ⟨rE, cB⟩
 ·rw [if_neg c2] at H;obtain ⟨c2b0, c2b1⟩ := eF c2;have H' := Aside0.mk H;clear H;go_enter Try.func128, Try.ntmps128;go_wp2
  go_loopg [0, 4] k (fun kq v0 v4 w' => ∃ (x0_1 : Int) (x4_1 : ByteArray), v0 = .int .i64 x0_1 ∧ v4 = .string x4_1 ∧ Aside0 (spec_Decimal.l0 kq x0_1 (decide (a0 < 0)) x4_1 = some r) ∧ Aside0 (kq ≤ k) ∧ Aside0 (Below w.heap.size w w'))
  case atStart => exact ⟨(a0), ((⟨#[]⟩ : ByteArray)), rS, rS, H', ⟨Nat.le_refl _⟩, ⟨cB⟩⟩
  case round =>
   clear H';(try clear c2);(try clear c2b0);(try clear c2b1);obtain ⟨x0_1, x4_1, rfl, rfl, HA, HK1, HB⟩ := hrel
   cases gk with
   | zero => exact absurd HA.out (by simp [spec_Decimal.l0])
   | succ k1 =>
    have H := HA.out;clear HA;simp only [spec_Decimal.l0] at H;by_cases c3 : x0_1 = 0
    ·rw [if_pos c3] at H;obtain ⟨c3b0, c3b1⟩ := eT c3;clear c3;by_cases c4 : (decide (a0 < 0)) = true
     ·rw [if_pos c4] at H;have c4b0 : (decide (a0 < 0)) = true := c4;(try have c4b6 : (0 ≤ a0) = False := eq_false (by have h_ := of_decide_eq_true c4b0; omega));(try have c4b7 : (a0 < 0) = True := eq_true (of_decide_eq_true c4b0));clear c4;replace H := gC H;obtain ⟨c5, H⟩ := H;have c5b0 := eq_true c5;have c5b1 : decide (1 + x4_1.size ≤ 9223372036854775807) = true := decide_eq_true c5
      try have c5b2 : (9223372036854775807 < 1 + x4_1.size) = False := eq_false (Nat.not_lt.2 c5)
      obtain rfl := Option.some.inj H;go_wp2;(try any_goals (exfalso; have h_ := of_decide_eq_true c4b0; omega));go_ret;exact ⟨rE, cB⟩
     ·rw [if_neg c4] at H
      have c4b0 : (decide (a0 < 0)) = false := by simpa using c4
      (try have c4b6 : (0 ≤ a0) = True := eq_true (by have h_ := of_decide_eq_false c4b0; omega));(try have c4b7 : (a0 < 0) = False := eq_false (of_decide_eq_false c4b0))
      clear c4;obtain rfl := Option.some.inj H;go_wp2;(try any_goals (exfalso; have h_ := of_decide_eq_false c4b0; omega));go_ret;exact ⟨rE, cB⟩
    ·rw [if_neg c3] at H;obtain ⟨c3b0, c3b1⟩ := eF c3;by_cases c6 : (Int.tmod x0_1 10) < 0
     ·rw [if_pos c6] at H;have c6b0 := decide_eq_true c6;clear c6;replace H := bE H;obtain ⟨t225, A7, H⟩ := H;replace H := nE H;obtain ⟨y226, Ny226, H⟩ := H;replace H := gC H;obtain ⟨c8, H⟩ := H;have c8b0 := eq_true c8;have c8b1 : decide ((strOfNums y226).size + x4_1.size ≤ 9223372036854775807) = true := decide_eq_true c8
      try have c8b2 : (9223372036854775807 < (strOfNums y226).size + x4_1.size) = False := eq_false (Nat.not_lt.2 c8)
      have H' := Aside0.mk H;clear H
      go_wp2_with (first|((with_reducible refine gF 158 ?_);refine goZ (some 19) Try.func158 #[.int .i64 (wrap64 (-(Int.tmod x0_1 10)))] ?_;(with_reducible refine (spec_l01Figure.calls (wrap64 (-(Int.tmod x0_1 10))) t225 _ A7.out).mono ?_);rintro e w' ⟨rfl, ⟨nd, rfl⟩⟩;refine ⟨_, rfl, ?_⟩)|((with_reducible refine gN 20 ?_);refine Kd.R_lit (Kd.int .u8) _ 5 ?hg (N := 20) ?hd (xs := ([t225] : List Int)) (inner := [.int .u8 t225]) (ok := fun _ => True) (okp := fun _ => True) ?hr ?hp (fun _ hk => hk) trivial (Below.refl _ _) (Nat.le_refl _) (by simp) ?_;(case hd => rfl);(case hg => rfl);(case hr => exact rG);(case hp => exact (Reps.one (show Kd.M (Kd.int .u8) _ _ _ t225 [.int .u8 t225] from rfl) (Reps.none _ _)));intro v227 w9 ho10 hb hg_ hnew_;clear hg_ hnew_;(first | rw [← Ny226.out] at ho10 | (simp only [Int.reduceToNat] at ho10; rw [← Ny226.out] at ho10));have HO228 := Aside0.mk (Kd.R_lower ho10 (below_size cB));replace HB := sB hb;clear hb ho10;have hcv11 := own_string (P := Try.prog) Try.underlying107 Try.underlying5 Try.underlying9 (Kd.own_of_R HO228.out)))
      go_roundg k1
      case measure => have := HK1.out; omega
      case rel => exact ⟨(wrap64 (Int.tdiv x0_1 10)), ((strOfNums y226) ++ x4_1), rS, rS, H', ⟨by have := HK1.out; omega⟩, ⟨cB⟩⟩
     ·rw [if_neg c6] at H;have c6b0 := decide_eq_false c6;clear c6;replace H := bE H;obtain ⟨t229, A12, H⟩ := H;replace H := nE H;obtain ⟨y230, Ny230, H⟩ := H;replace H := gC H;obtain ⟨c13, H⟩ := H;have c13b0 := eq_true c13;have c13b1 : decide ((strOfNums y230).size + x4_1.size ≤ 9223372036854775807) = true := decide_eq_true c13
      try have c13b2 : (9223372036854775807 < (strOfNums y230).size + x4_1.size) = False := eq_false (Nat.not_lt.2 c13)
      have H' := Aside0.mk H;clear H
      go_wp2_with (first|((with_reducible refine gF 158 ?_);refine goZ (some 19) Try.func158 #[.int .i64 (Int.tmod x0_1 10)] ?_;(with_reducible refine (spec_l01Figure.calls (Int.tmod x0_1 10) t229 _ A12.out).mono ?_);rintro e w' ⟨rfl, ⟨nd, rfl⟩⟩;refine ⟨_, rfl, ?_⟩)|((with_reducible refine gN 20 ?_);refine Kd.R_lit (Kd.int .u8) _ 5 ?hg (N := 20) ?hd (xs := ([t229] : List Int)) (inner := [.int .u8 t229]) (ok := fun _ => True) (okp := fun _ => True) ?hr ?hp (fun _ hk => hk) trivial (Below.refl _ _) (Nat.le_refl _) (by simp) ?_;(case hd => rfl);(case hg => rfl);(case hr => exact rG);(case hp => exact (Reps.one (show Kd.M (Kd.int .u8) _ _ _ t229 [.int .u8 t229] from rfl) (Reps.none _ _)));intro v231 w14 ho15 hb hg_ hnew_;clear hg_ hnew_;(first | rw [← Ny230.out] at ho15 | (simp only [Int.reduceToNat] at ho15; rw [← Ny230.out] at ho15));have HO232 := Aside0.mk (Kd.R_lower ho15 (below_size cB));replace HB := sB hb;clear hb ho15;have hcv16 := own_string (P := Try.prog) Try.underlying107 Try.underlying5 Try.underlying9 (Kd.own_of_R HO232.out)))
      go_roundg k1
      case measure => have := HK1.out; omega
      case rel => exact ⟨(wrap64 (Int.tdiv x0_1 10)), ((strOfNums y230) ++ x4_1), rS, rS, H', ⟨by have := HK1.out; omega⟩, ⟨cB⟩⟩
def spec_HalfOk.f (a0 : Int) : Option (Bool) := (spec_l01In.f a0 0 4294967295).bind fun t233 => (some t233)
set_option maxHeartbeats 8000000 in
set_option maxRecDepth 100000 in
theorem spec_HalfOk.calls (a0 : Int) (r : Bool) (w : World) (h : spec_HalfOk.f a0 = some r) :
 Calls Try.prog 62 #[.int .i64 a0] w fun e w' => e = .returned (.bool r) ∧ Drawn0 w w' := by
 have H : ((spec_l01In.f a0 0 4294967295).bind fun t233 => (some t233)) = some r := h
 clear h;replace H := bE H;obtain ⟨t233, A2, H⟩ := H;obtain rfl := Option.some.inj H;go_enter Try.func62, Try.ntmps62
 go_wp2_with (first|((with_reducible refine gF 112 ?_);refine goZ (some 4) Try.func112 #[.int .i64 a0, .int .i64 0, .int .i64 4294967295] ?_;(with_reducible refine (spec_l01In.calls a0 0 4294967295 t233 _ A2.out).mono ?_);rintro e w' ⟨rfl, ⟨nd, rfl⟩⟩;refine ⟨_, rfl, ?_⟩))
 go_ret
 exact ⟨by first | rfl | (simp; done) | (simp [*]; done), by repeat (first | exact Drawn0.refl _ | apply Drawn0.step)⟩
def spec_WideOk.f (a0_0 : Int) (a0_1 : Int) : Option (Bool) := (spec_HalfOk.f a0_0).bind fun t235 => (if t235 = true then ((spec_HalfOk.f a0_1).bind fun t236 => (some t236)) else (some false))
set_option maxHeartbeats 8000000 in
set_option maxRecDepth 100000 in
theorem spec_WideOk.calls (a0_0 : Int) (a0_1 : Int) (r : Bool) (w : World) (h : spec_WideOk.f a0_0 a0_1 = some r) :
 Calls Try.prog 183 #[.agg #[.int .i64 a0_0, .int .i64 a0_1]] w fun e w' => e = .returned (.bool r) ∧ Below w.heap.size w w' := by
 have hu93 := Try.underlying93;have HB := Aside0.mk (Below.refl w.heap.size w)
 have H : ((spec_HalfOk.f a0_0).bind fun t235 => (if t235 = true then ((spec_HalfOk.f a0_1).bind fun t236 => (some t236)) else (some false))) = some r := h
 clear h;replace H := bE H;obtain ⟨t235, A2, H⟩ := H;by_cases c3 : t235 = true
 ·subst c3;replace H := iT H;replace H := bE H;obtain ⟨t236, A4, H⟩ := H;obtain rfl := Option.some.inj H;go_enter Try.func183, Try.ntmps183
  go_wp2_with (first|((with_reducible refine gN 1 ?_);refine boxZ 1 #[.int .i64 a0_0, .int .i64 a0_1] 93 ?_;intro gb234 hg w5 hbox hb;have BK234 := Aside0.mk (hbox);have GW234 := gS hg;have GE234 := gS hg;replace HB := sB hb;clear hb hbox hg;obtain ⟨hcz6_0, hcz6_1, hfz6_0, hfz6_1⟩ := cz2 BK234)|((with_reducible refine gF 62 ?_);refine goZ (some 5) Try.func62 #[.int .i64 a0_0] ?_;(with_reducible refine (spec_HalfOk.calls a0_0 true _ A2.out).mono ?_);rintro e w' ⟨rfl, ⟨nd, rfl⟩⟩;refine ⟨_, rfl, ?_⟩)|(go_at_call 62;(with_reducible refine (spec_HalfOk.calls a0_1 t236 _ A4.out).mono ?_);rintro e w' ⟨rfl, ⟨nd, rfl⟩⟩))
  go_ret;exact ⟨rE, cB⟩
 ·replace c3 := Bool.eq_false_iff.mpr c3;subst c3;replace H := iF H;obtain rfl := Option.some.inj H;go_enter Try.func183, Try.ntmps183
  go_wp2_with (first|((with_reducible refine gN 1 ?_);refine boxZ 1 #[.int .i64 a0_0, .int .i64 a0_1] 93 ?_;intro gb234 hg w7 hbox hb;have BK234 := Aside0.mk (hbox);have GW234 := gS hg;have GE234 := gS hg;replace HB := sB hb;clear hb hbox hg;obtain ⟨hcz8_0, hcz8_1, hfz8_0, hfz8_1⟩ := cz2 BK234)|((with_reducible refine gF 62 ?_);refine goZ (some 5) Try.func62 #[.int .i64 a0_0] ?_;(with_reducible refine (spec_HalfOk.calls a0_0 false _ A2.out).mono ?_);rintro e w' ⟨rfl, ⟨nd, rfl⟩⟩;refine ⟨_, rfl, ?_⟩))
  go_ret;exact ⟨rE, cB⟩
def spec_CondOk.f (a0_0 : Int) (a0_1 : Int) (a0_2 : Int) (a0_3 : Int) (a0_4 : Int) (a0_5 : Int) : Option (Bool) := (spec_l01In.f a0_0 0 2).bind fun t238 => (if t238 = true then ((spec_WideOk.f a0_1 a0_2).bind fun t239 => (if t239 = true then ((spec_WideOk.f a0_4 a0_5).bind fun t240 => (if t240 = true then ((spec_l01In.f a0_3 1 6).bind fun t241 => (some t241)) else (some false))) else (some false))) else (some false))
set_option maxHeartbeats 8000000 in
set_option maxRecDepth 100000 in
theorem spec_CondOk.calls (a0_0 : Int) (a0_1 : Int) (a0_2 : Int) (a0_3 : Int) (a0_4 : Int) (a0_5 : Int) (r : Bool) (w : World) (h : spec_CondOk.f a0_0 a0_1 a0_2 a0_3 a0_4 a0_5 = some r) :
 Calls Try.prog 156 #[.agg #[.int .i64 a0_0, .int .i64 a0_1, .int .i64 a0_2, .int .i64 a0_3, .int .i64 a0_4, .int .i64 a0_5]] w fun e w' => e = .returned (.bool r) ∧ Below w.heap.size w w' := by
 have hu95 := Try.underlying95;have hu93 := Try.underlying93;have HB := Aside0.mk (Below.refl w.heap.size w)
 have H : ((spec_l01In.f a0_0 0 2).bind fun t238 => (if t238 = true then ((spec_WideOk.f a0_1 a0_2).bind fun t239 => (if t239 = true then ((spec_WideOk.f a0_4 a0_5).bind fun t240 => (if t240 = true then ((spec_l01In.f a0_3 1 6).bind fun t241 => (some t241)) else (some false))) else (some false))) else (some false))) = some r := h
 clear h;replace H := bE H;obtain ⟨t238, A2, H⟩ := H;by_cases c3 : t238 = true
 ·subst c3;replace H := iT H;replace H := bE H;obtain ⟨t239, A4, H⟩ := H;by_cases c5 : t239 = true
  ·subst c5;replace H := iT H;replace H := bE H;obtain ⟨t240, A6, H⟩ := H;by_cases c7 : t240 = true
   ·subst c7;replace H := iT H;replace H := bE H;obtain ⟨t241, A8, H⟩ := H;obtain rfl := Option.some.inj H;go_enter Try.func156, Try.ntmps156
    go_wp2_with (first|((with_reducible refine gN 1 ?_);refine boxZ 1 #[.int .i64 a0_0, .int .i64 a0_1, .int .i64 a0_2, .int .i64 a0_3, .int .i64 a0_4, .int .i64 a0_5] 95 ?_;intro gb237 hg w9 hbox hb;have BK237 := Aside0.mk (hbox);have GW237 := gS hg;have GE237 := gS hg;replace HB := sB hb;clear hb hbox hg;obtain ⟨hcz10_0, hcz10_1, hcz10_2, hcz10_3, hcz10_4, hcz10_5, hfz10_0, hfz10_1, hfz10_2, hfz10_3, hfz10_4, hfz10_5⟩ := cz6 BK237)|((with_reducible refine gF 112 ?_);refine goZ (some 5) Try.func112 #[.int .i64 a0_0, .int .i64 0, .int .i64 2] ?_;(with_reducible refine (spec_l01In.calls a0_0 0 2 true _ A2.out).mono ?_);rintro e w' ⟨rfl, ⟨nd, rfl⟩⟩;refine ⟨_, rfl, ?_⟩)|(go_at_call 183;(with_reducible refine (spec_WideOk.calls a0_1 a0_2 true _ A4.out).mono ?_);rintro e w11 ⟨rfl, hb⟩;replace BK237 := kB BK237 hb;replace HB := sB hb;(try clear hb);obtain ⟨hcz12_0, hcz12_1, hcz12_2, hcz12_3, hcz12_4, hcz12_5, hfz12_0, hfz12_1, hfz12_2, hfz12_3, hfz12_4, hfz12_5⟩ := cz6 BK237)|(go_at_call 183;(with_reducible refine (spec_WideOk.calls a0_4 a0_5 true _ A6.out).mono ?_);rintro e w13 ⟨rfl, hb⟩;replace BK237 := kB BK237 hb;replace HB := sB hb;(try clear hb);obtain ⟨hcz14_0, hcz14_1, hcz14_2, hcz14_3, hcz14_4, hcz14_5, hfz14_0, hfz14_1, hfz14_2, hfz14_3, hfz14_4, hfz14_5⟩ := cz6 BK237)|(go_at_call 112;(with_reducible refine (spec_l01In.calls a0_3 1 6 t241 _ A8.out).mono ?_);rintro e w' ⟨rfl, ⟨nd, rfl⟩⟩))
    go_ret;exact ⟨rE, cB⟩
   ·replace c7 := Bool.eq_false_iff.mpr c7;subst c7;replace H := iF H;obtain rfl := Option.some.inj H;go_enter Try.func156, Try.ntmps156
    go_wp2_with (first|((with_reducible refine gN 1 ?_);refine boxZ 1 #[.int .i64 a0_0, .int .i64 a0_1, .int .i64 a0_2, .int .i64 a0_3, .int .i64 a0_4, .int .i64 a0_5] 95 ?_;intro gb237 hg w15 hbox hb;have BK237 := Aside0.mk (hbox);have GW237 := gS hg;have GE237 := gS hg;replace HB := sB hb;clear hb hbox hg;obtain ⟨hcz16_0, hcz16_1, hcz16_2, hcz16_3, hcz16_4, hcz16_5, hfz16_0, hfz16_1, hfz16_2, hfz16_3, hfz16_4, hfz16_5⟩ := cz6 BK237)|((with_reducible refine gF 112 ?_);refine goZ (some 5) Try.func112 #[.int .i64 a0_0, .int .i64 0, .int .i64 2] ?_;(with_reducible refine (spec_l01In.calls a0_0 0 2 true _ A2.out).mono ?_);rintro e w' ⟨rfl, ⟨nd, rfl⟩⟩;refine ⟨_, rfl, ?_⟩)|(go_at_call 183;(with_reducible refine (spec_WideOk.calls a0_1 a0_2 true _ A4.out).mono ?_);rintro e w17 ⟨rfl, hb⟩;replace BK237 := kB BK237 hb;replace HB := sB hb;(try clear hb);obtain ⟨hcz18_0, hcz18_1, hcz18_2, hcz18_3, hcz18_4, hcz18_5, hfz18_0, hfz18_1, hfz18_2, hfz18_3, hfz18_4, hfz18_5⟩ := cz6 BK237)|(go_at_call 183;(with_reducible refine (spec_WideOk.calls a0_4 a0_5 false _ A6.out).mono ?_);rintro e w19 ⟨rfl, hb⟩;replace BK237 := kB BK237 hb;replace HB := sB hb;(try clear hb)))
    go_ret;exact ⟨rE, cB⟩
  ·replace c5 := Bool.eq_false_iff.mpr c5;subst c5;replace H := iF H;obtain rfl := Option.some.inj H;go_enter Try.func156, Try.ntmps156
   go_wp2_with (first|((with_reducible refine gN 1 ?_);refine boxZ 1 #[.int .i64 a0_0, .int .i64 a0_1, .int .i64 a0_2, .int .i64 a0_3, .int .i64 a0_4, .int .i64 a0_5] 95 ?_;intro gb237 hg w20 hbox hb;have BK237 := Aside0.mk (hbox);have GW237 := gS hg;have GE237 := gS hg;replace HB := sB hb;clear hb hbox hg;obtain ⟨hcz21_0, hcz21_1, hcz21_2, hcz21_3, hcz21_4, hcz21_5, hfz21_0, hfz21_1, hfz21_2, hfz21_3, hfz21_4, hfz21_5⟩ := cz6 BK237)|((with_reducible refine gF 112 ?_);refine goZ (some 5) Try.func112 #[.int .i64 a0_0, .int .i64 0, .int .i64 2] ?_;(with_reducible refine (spec_l01In.calls a0_0 0 2 true _ A2.out).mono ?_);rintro e w' ⟨rfl, ⟨nd, rfl⟩⟩;refine ⟨_, rfl, ?_⟩)|(go_at_call 183;(with_reducible refine (spec_WideOk.calls a0_1 a0_2 false _ A4.out).mono ?_);rintro e w22 ⟨rfl, hb⟩;replace BK237 := kB BK237 hb;replace HB := sB hb;(try clear hb)))
   go_ret;exact ⟨rE, cB⟩
 ·replace c3 := Bool.eq_false_iff.mpr c3;subst c3;replace H := iF H;obtain rfl := Option.some.inj H;go_enter Try.func156, Try.ntmps156
  go_wp2_with (first|((with_reducible refine gN 1 ?_);refine boxZ 1 #[.int .i64 a0_0, .int .i64 a0_1, .int .i64 a0_2, .int .i64 a0_3, .int .i64 a0_4, .int .i64 a0_5] 95 ?_;intro gb237 hg w23 hbox hb;have BK237 := Aside0.mk (hbox);have GW237 := gS hg;have GE237 := gS hg;replace HB := sB hb;clear hb hbox hg;obtain ⟨hcz24_0, hcz24_1, hcz24_2, hcz24_3, hcz24_4, hcz24_5, hfz24_0, hfz24_1, hfz24_2, hfz24_3, hfz24_4, hfz24_5⟩ := cz6 BK237)|((with_reducible refine gF 112 ?_);refine goZ (some 5) Try.func112 #[.int .i64 a0_0, .int .i64 0, .int .i64 2] ?_;(with_reducible refine (spec_l01In.calls a0_0 0 2 false _ A2.out).mono ?_);rintro e w' ⟨rfl, ⟨nd, rfl⟩⟩;refine ⟨_, rfl, ?_⟩))
  go_ret;exact ⟨rE, cB⟩
def spec_l11Asks.f (a0 : Int) (a1 : Int) (a2 : ByteArray) (a3 : ByteArray) : Option (ByteArray × Int × Int × Int × Int × ByteArray × ByteArray) := some ((⟨#[]⟩ : ByteArray), a0, a1, 0, 0, a2, a3)
set_option maxHeartbeats 8000000 in
set_option maxRecDepth 100000 in
theorem spec_l11Asks.calls (a0 : Int) (a1 : Int) (a2 : ByteArray) (a3 : ByteArray) (r1 : ByteArray) (r2 : Int) (r3 : Int) (r4 : Int) (r5 : Int) (r6 : ByteArray) (r7 : ByteArray) (w : World) (h : spec_l11Asks.f a0 a1 a2 a3 = some (r1, r2, r3, r4, r5, r6, r7)) :
 Calls Try.prog 96 #[.int .i64 a0, .int .i64 a1, .string a2, .string a3] w fun e w' => e = .returned (.agg #[.string r1, .int .i64 r2, .int .i64 r3, .int .i64 r4, .int .i64 r5, .string r6, .string r7]) ∧ Below w.heap.size w w' := by
 have hu110 := Try.underlying110;have hu75 := Try.underlying75;have HB := Aside0.mk (Below.refl w.heap.size w);have H : (some ((⟨#[]⟩ : ByteArray), a0, a1, 0, 0, a2, a3)) = some (r1, r2, r3, r4, r5, r6, r7) := h;clear h;simp only [Option.some.injEq, Prod.mk.injEq] at H;obtain ⟨rfl, rfl, rfl, rfl, rfl, rfl, rfl⟩ := H;go_enter Try.func96, Try.ntmps96
 go_wp2_with (first|((with_reducible refine gN 8 ?_);refine boxZ 8 #[.string (⟨#[]⟩ : ByteArray), .int .i64 0, .int .i64 0, .int .i64 0, .int .i64 0, .string (⟨#[]⟩ : ByteArray), .string (⟨#[]⟩ : ByteArray)] 110 ?_;intro gb242 hg w5 hbox hb;have BK242 := Aside0.mk (hbox);have GW242 := gS hg;have GE242 := gS hg;replace HB := sB hb;clear hb hbox hg;obtain ⟨hcz6_0, hcz6_1, hcz6_2, hcz6_3, hcz6_4, hcz6_5, hcz6_6, hfz6_0, hfz6_1, hfz6_2, hfz6_3, hfz6_4, hfz6_5, hfz6_6⟩ := cz7 BK242))
 refine bodyPost_ret (results_cell_row rfl _ _ gb242 110 #[.string (⟨#[]⟩ : ByteArray), .int .i64 a0, .int .i64 a1, .int .i64 0, .int .i64 0, .string a2, .string a3] (0, 0) _ rfl (kS BK242 _) Try.underlying110 rfl (by kernel_rfl)) rfl ?_
 exact ⟨rE, cB⟩
end Go.Proofs.Ytcmcpmkihpdnjaa.PFnExactTreeLines
