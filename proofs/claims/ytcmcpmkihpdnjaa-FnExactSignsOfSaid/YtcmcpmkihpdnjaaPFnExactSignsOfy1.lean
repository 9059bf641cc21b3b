import Derived.Test.YtcmcpmkihpdnjaaPFnExactSignsOfy0
namespace Go.Proofs.Ytcmcpmkihpdnjaa.PFnExactSignsOf
open Go.RowKit Go.Proofs.YtcmcpmkihpdnjaaW.PrintWords Go.Proofs.YtcmcpmkihpdnjaaW.PrintLast Go.Proofs.YtcmcpmkihpdnjaaW.PrintMore Go.Proofs.YtcmcpmkihpdnjaaW.Z
attribute [local go_sem] isS max2_int min2_int max_two min_two max_three min_three max_four min_four
set_option linter.unusedVariables false
set_option linter.unusedSimpArgs false
def spec_l08Word.l0 : Nat → ByteArray → Int → Int → Int → Int → Option (Int)
  | 0, _, _, _, _, _ => none
  | k + 1, x0, x1, x2, x3, x9 => if x9 < (x0.size : Int) then (if 0 ≤ x9 then (if (bt x0 x9) ≥ x2 then (if (bt x0 x9) ≤ x3 then (spec_l08Word.l0 k x0 x1 x2 x3 (wrap64 (x9 + 1))) else (some (wrap64 (x9 - x1)))) else (some (wrap64 (x9 - x1)))) else (none)) else (some (wrap64 (x9 - x1)))
def spec_l08Word.f (k : Nat) (a0 : ByteArray) (a1 : Int) (a2 : Int) (a3 : Int) : Option (Int) := spec_l08Word.l0 k a0 a1 a2 a3 a1
set_option maxHeartbeats 8000000 in
set_option maxRecDepth 100000 in
theorem spec_l08Word.calls (k : Nat) (a0 : ByteArray) (a1 : Int) (a2 : Int) (a3 : Int) (r : Int) (w : World) (h : spec_l08Word.f k a0 a1 a2 a3 = some r) :
 Calls Try.prog 61 #[.string a0, .int .i64 a1, .int .u8 a2, .int .u8 a3] w fun e w' => e = .returned (.int .i64 r) ∧ Drawn0 w w' := by
 have H : (spec_l08Word.l0 k a0 a1 a2 a3 a1) = some r := h;clear h;have H' := Aside0.mk H;clear H;go_enter Try.func61, Try.ntmps61;go_wp2
 go_loopg [9] k (fun kq v9 w' => ∃ (x9_1 : Int), v9 = .int .i64 x9_1 ∧ Aside0 (spec_l08Word.l0 kq a0 a1 a2 a3 x9_1 = some r) ∧ Aside0 (kq ≤ k) ∧ Drawn0 w w')
 case atStart => exact ⟨(a1), rS, H', ⟨Nat.le_refl _⟩, by repeat (first | exact Drawn0.refl _ | apply Drawn0.step)⟩
 case round =>
  clear H';obtain ⟨x9_1, rfl, HA, HK1, ⟨m1, rfl⟩⟩ := hrel
  cases gk with
  | zero => exact absurd HA.out (by simp [spec_l08Word.l0])
  | succ k1 =>
   have H := HA.out;clear HA;simp only [spec_l08Word.l0] at H;by_cases c5 : x9_1 < (a0.size : Int)
   ·rw [if_pos c5] at H;have c5b0 := decide_eq_true c5;clear c5;replace H := gD H;obtain ⟨c6b0, H⟩ := H;by_cases c8 : (bt a0 x9_1) ≥ a2
    ·rw [if_pos c8] at H;have c8b0 : decide (a2 ≤ (bt a0 x9_1)) = true := decide_eq_true c8;clear c8;by_cases c10 : (bt a0 x9_1) ≤ a3
     ·rw [if_pos c10] at H;have c10b0 := decide_eq_true c10;clear c10;have H' := Aside0.mk H;clear H;have p7 : 0 ≤ (x9_1 : Int) := dA;have q7 : x9_1 < (a0.size : Int) := dA;have hx7 := bt_at a0 x9_1;replace p7 := eq_true p7;replace q7 := eq_true q7;have p9 : 0 ≤ (x9_1 : Int) := dA;have q9 : x9_1 < (a0.size : Int) := dA;have hx9 := bt_at a0 x9_1;replace p9 := eq_true p9;replace q9 := eq_true q9;go_wp2;go_roundg k1
      case measure => have := HK1.out; omega
      case rel => exact ⟨(wrap64 (x9_1 + 1)), rS, H', ⟨by have := HK1.out; omega⟩, by repeat (first | exact Drawn0.refl _ | apply Drawn0.step)⟩
     ·rw [if_neg c10] at H;have c10b0 := decide_eq_false c10;clear c10;obtain rfl := Option.some.inj H;have p7 : 0 ≤ (x9_1 : Int) := dA;have q7 : x9_1 < (a0.size : Int) := dA;have hx7 := bt_at a0 x9_1;replace p7 := eq_true p7;replace q7 := eq_true q7;have p9 : 0 ≤ (x9_1 : Int) := dA;have q9 : x9_1 < (a0.size : Int) := dA;have hx9 := bt_at a0 x9_1;replace p9 := eq_true p9;replace q9 := eq_true q9;go_wp2;go_ret
      exact ⟨by first | rfl | (simp; done) | (simp [*]; done), by repeat (first | exact Drawn0.refl _ | apply Drawn0.step)⟩
    ·rw [if_neg c8] at H;have c8b0 : decide (a2 ≤ (bt a0 x9_1)) = false := decide_eq_false c8;clear c8;obtain rfl := Option.some.inj H;have p7 : 0 ≤ (x9_1 : Int) := dA;have q7 : x9_1 < (a0.size : Int) := dA;have hx7 := bt_at a0 x9_1;replace p7 := eq_true p7;replace q7 := eq_true q7;go_wp2;go_ret
     exact ⟨by first | rfl | (simp; done) | (simp [*]; done), by repeat (first | exact Drawn0.refl _ | apply Drawn0.step)⟩
   ·rw [if_neg c5] at H;have c5b0 := decide_eq_false c5;clear c5;obtain rfl := Option.some.inj H;go_wp2;go_ret
    exact ⟨by first | rfl | (simp; done) | (simp [*]; done), by repeat (first | exact Drawn0.refl _ | apply Drawn0.step)⟩
def spec_l01In.f (a0 : Int) (a1 : Int) (a2 : Int) : Option (Bool) := if a0 ≥ a1 then (some (decide (a0 ≤ a2))) else (some false)
set_option maxHeartbeats 8000000 in
set_option maxRecDepth 100000 in
theorem spec_l01In.calls (a0 : Int) (a1 : Int) (a2 : Int) (r : Bool) (w : World) (h : spec_l01In.f a0 a1 a2 = some r) :
 Calls Try.prog 112 #[.int .i64 a0, .int .i64 a1, .int .i64 a2] w fun e w' => e = .returned (.bool r) ∧ Drawn0 w w' := by
 have H : (if a0 ≥ a1 then (some (decide (a0 ≤ a2))) else (some false)) = some r := h;clear h;by_cases c4 : a0 ≥ a1
 ·rw [if_pos c4] at H;have c4b0 : decide (a1 ≤ a0) = true := decide_eq_true c4;clear c4;obtain rfl := Option.some.inj H;go_enter Try.func112, Try.ntmps112;go_wp2;go_ret
  exact ⟨by first | rfl | (simp; done) | (simp [*]; done), by repeat (first | exact Drawn0.refl _ | apply Drawn0.step)⟩
 ·rw [if_neg c4] at H;have c4b0 : decide (a1 ≤ a0) = false := decide_eq_false c4;clear c4;obtain rfl := Option.some.inj H;go_enter Try.func112, Try.ntmps112;go_wp2;go_ret
  exact ⟨by first | rfl | (simp; done) | (simp [*]; done), by repeat (first | exact Drawn0.refl _ | apply Drawn0.step)⟩
def spec_HalfOk.f (a0 : Int) : Option (Bool) := (spec_l01In.f a0 0 4294967295).bind fun t101 => (some t101)
set_option maxHeartbeats 8000000 in
set_option maxRecDepth 100000 in
theorem spec_HalfOk.calls (a0 : Int) (r : Bool) (w : World) (h : spec_HalfOk.f a0 = some r) :
 Calls Try.prog 62 #[.int .i64 a0] w fun e w' => e = .returned (.bool r) ∧ Drawn0 w w' := by
 have H : ((spec_l01In.f a0 0 4294967295).bind fun t101 => (some t101)) = some r := h
 clear h;replace H := bE H;obtain ⟨t101, A2, H⟩ := H;obtain rfl := Option.some.inj H;go_enter Try.func62, Try.ntmps62
 go_wp2_with (first|((with_reducible refine gF 112 ?_);refine goZ (some 4) Try.func112 #[.int .i64 a0, .int .i64 0, .int .i64 4294967295] ?_;(with_reducible refine (spec_l01In.calls a0 0 4294967295 t101 _ A2.out).mono ?_);rintro e w' ⟨rfl, ⟨nd, rfl⟩⟩;refine ⟨_, rfl, ?_⟩))
 go_ret
 exact ⟨by first | rfl | (simp; done) | (simp [*]; done), by repeat (first | exact Drawn0.refl _ | apply Drawn0.step)⟩
def spec_l08Marks.f  : Option (List ByteArray) := some (([(⟨#[61, 61]⟩ : ByteArray), (⟨#[33, 61]⟩ : ByteArray), (⟨#[60, 61]⟩ : ByteArray), (⟨#[62, 61]⟩ : ByteArray), (⟨#[60]⟩ : ByteArray), (⟨#[62]⟩ : ByteArray), (⟨#[38]⟩ : ByteArray), (⟨#[58]⟩ : ByteArray), (⟨#[59]⟩ : ByteArray), (⟨#[44]⟩ : ByteArray)] : List ByteArray))
set_option maxHeartbeats 8000000 in
set_option maxRecDepth 100000 in
theorem spec_l08Marks.calls  (r : List ByteArray) (w : World) (h : spec_l08Marks.f  = some r) :
 Calls Try.prog 113 #[] w fun e w' => ∃ v0_ : Value, e = .returned (v0_) ∧ Kd.R Kd.string 9 w' w.heap.size (fun _ => True) v0_ r ∧ Below w.heap.size w w' := by
 have HB := Aside0.mk (Below.refl w.heap.size w);have H : (some (([(⟨#[61, 61]⟩ : ByteArray), (⟨#[33, 61]⟩ : ByteArray), (⟨#[60, 61]⟩ : ByteArray), (⟨#[62, 61]⟩ : ByteArray), (⟨#[60]⟩ : ByteArray), (⟨#[62]⟩ : ByteArray), (⟨#[38]⟩ : ByteArray), (⟨#[58]⟩ : ByteArray), (⟨#[59]⟩ : ByteArray), (⟨#[44]⟩ : ByteArray)] : List ByteArray))) = some r := h;clear h;obtain ⟨y102, Ny102⟩ : ∃ y_ : List ByteArray, Aside0 (y_ = (([(⟨#[61, 61]⟩ : ByteArray), (⟨#[33, 61]⟩ : ByteArray), (⟨#[60, 61]⟩ : ByteArray), (⟨#[62, 61]⟩ : ByteArray), (⟨#[60]⟩ : ByteArray), (⟨#[62]⟩ : ByteArray), (⟨#[38]⟩ : ByteArray), (⟨#[58]⟩ : ByteArray), (⟨#[59]⟩ : ByteArray), (⟨#[44]⟩ : ByteArray)] : List ByteArray))) := ⟨_, ⟨rfl⟩⟩;rw [← Ny102.out] at H;obtain rfl := Option.some.inj H;go_enter Try.func113, Try.ntmps113
 go_wp2_with (first|((with_reducible refine gN 1 ?_);refine Kd.R_lit Kd.string _ 9 ?hg (N := 1) ?hd (xs := ([(⟨#[61, 61]⟩ : ByteArray), (⟨#[33, 61]⟩ : ByteArray), (⟨#[60, 61]⟩ : ByteArray), (⟨#[62, 61]⟩ : ByteArray), (⟨#[60]⟩ : ByteArray), (⟨#[62]⟩ : ByteArray), (⟨#[38]⟩ : ByteArray), (⟨#[58]⟩ : ByteArray), (⟨#[59]⟩ : ByteArray), (⟨#[44]⟩ : ByteArray)] : List ByteArray)) (inner := [.string (⟨#[61, 61]⟩ : ByteArray), .string (⟨#[33, 61]⟩ : ByteArray), .string (⟨#[60, 61]⟩ : ByteArray), .string (⟨#[62, 61]⟩ : ByteArray), .string (⟨#[60]⟩ : ByteArray), .string (⟨#[62]⟩ : ByteArray), .string (⟨#[38]⟩ : ByteArray), .string (⟨#[58]⟩ : ByteArray), .string (⟨#[59]⟩ : ByteArray), .string (⟨#[44]⟩ : ByteArray)]) (ok := fun _ => True) (okp := fun _ => True) ?hr ?hp (fun _ hk => hk) trivial (Below.refl _ _) (Nat.le_refl _) (by simp) ?_;(case hd => rfl);(case hg => rfl);(case hr => exact rG);(case hp => exact (Reps.one (show Kd.M Kd.string _ _ _ (⟨#[61, 61]⟩ : ByteArray) [.string (⟨#[61, 61]⟩ : ByteArray)] from rfl) (Reps.one (show Kd.M Kd.string _ _ _ (⟨#[33, 61]⟩ : ByteArray) [.string (⟨#[33, 61]⟩ : ByteArray)] from rfl) (Reps.one (show Kd.M Kd.string _ _ _ (⟨#[60, 61]⟩ : ByteArray) [.string (⟨#[60, 61]⟩ : ByteArray)] from rfl) (Reps.one (show Kd.M Kd.string _ _ _ (⟨#[62, 61]⟩ : ByteArray) [.string (⟨#[62, 61]⟩ : ByteArray)] from rfl) (Reps.one (show Kd.M Kd.string _ _ _ (⟨#[60]⟩ : ByteArray) [.string (⟨#[60]⟩ : ByteArray)] from rfl) (Reps.one (show Kd.M Kd.string _ _ _ (⟨#[62]⟩ : ByteArray) [.string (⟨#[62]⟩ : ByteArray)] from rfl) (Reps.one (show Kd.M Kd.string _ _ _ (⟨#[38]⟩ : ByteArray) [.string (⟨#[38]⟩ : ByteArray)] from rfl) (Reps.one (show Kd.M Kd.string _ _ _ (⟨#[58]⟩ : ByteArray) [.string (⟨#[58]⟩ : ByteArray)] from rfl) (Reps.one (show Kd.M Kd.string _ _ _ (⟨#[59]⟩ : ByteArray) [.string (⟨#[59]⟩ : ByteArray)] from rfl) (Reps.one (show Kd.M Kd.string _ _ _ (⟨#[44]⟩ : ByteArray) [.string (⟨#[44]⟩ : ByteArray)] from rfl) (Reps.none _ _))))))))))));intro v103 w1 ho2 hb hg_ hnew_;clear hg_ hnew_;(first | rw [← Ny102.out] at ho2 | (simp only [Int.reduceToNat] at ho2; rw [← Ny102.out] at ho2));have HO104 := Aside0.mk (Kd.R_lower ho2 (below_size cB));replace HB := sB hb;clear hb ho2))
 go_ret;exact ⟨_, rE, mR HO104, cB⟩
def spec_l08Mark.l0 : Nat → ByteArray → Int → List ByteArray → Int → Option (ByteArray)
  | 0, _, _, _, _ => none
  | k + 1, x0, x1, x5, x6 => if x6 < (x5.length : Int) then (if 0 ≤ x6 then (if (wrap64 (x1 + ((rdOf ByteArray.empty x5 x6).size : Int))) ≤ (x0.size : Int) then (if 0 ≤ x1 then (if x1 ≤ (wrap64 (x1 + ((rdOf ByteArray.empty x5 x6).size : Int))) then (if (x0.extract (x1 : Int).toNat ((wrap64 (x1 + ((rdOf ByteArray.empty x5 x6).size : Int))) : Int).toNat).toList = (rdOf ByteArray.empty x5 x6).toList then (some (rdOf ByteArray.empty x5 x6)) else (spec_l08Mark.l0 k x0 x1 x5 (wrap64 (x6 + 1)))) else (none)) else (none)) else (spec_l08Mark.l0 k x0 x1 x5 (wrap64 (x6 + 1)))) else (none)) else (some (⟨#[]⟩ : ByteArray))
def spec_l08Mark.f (k : Nat) (a0 : ByteArray) (a1 : Int) : Option (ByteArray) := (spec_l08Marks.f).bind fun t105 => (spec_l08Mark.l0 k a0 a1 t105 0)
set_option maxHeartbeats 8000000 in
set_option maxRecDepth 100000 in
theorem spec_l08Mark.calls (k : Nat) (a0 : ByteArray) (a1 : Int) (r : ByteArray) (w : World) (h : spec_l08Mark.f k a0 a1 = some r) :
 Calls Try.prog 63 #[.string a0, .int .i64 a1] w fun e w' => e = .returned (.string r) ∧ Below w.heap.size w w' := by
 have HB := Aside0.mk (Below.refl w.heap.size w)
 have H : ((spec_l08Marks.f).bind fun t105 => (spec_l08Mark.l0 k a0 a1 t105 0)) = some r := h
 clear h;replace H := bE H;obtain ⟨t105, A3, H⟩ := H;have H' := Aside0.mk H;clear H;go_enter Try.func63, Try.ntmps63
 go_wp2_with (first|(go_at_call 113;(with_reducible refine (spec_l08Marks.calls  t105 _ A3.out).mono ?_);rintro e w4 ⟨v106, rfl, ho0, hb⟩;have HO107 := Aside0.mk (Kd.R_lower ho0 (below_size cB));replace HB := sB hb;(try clear hb);(try clear ho0)))
 repeat (go_quiet (first | (go_at_call 113; (with_reducible refine (spec_l08Marks.calls  t105 _ A3.out).mono ?_); rintro e w4 ⟨v106, rfl, ho0, hb⟩; have n0_ := Aside0.mk (Kd.R_lower ho0 (below_size cB)); have n1_ := sB hb; clear HB; have HO107 := n0_; have HB := n1_; clear n0_ n1_; (try clear hb); (try clear hb2); (try clear hk); (try clear hi); (try clear ho0))); try go_wp2_with (first | (go_at_call 113; (with_reducible refine (spec_l08Marks.calls  t105 _ A3.out).mono ?_); rintro e w4 ⟨v106, rfl, ho0, hb⟩; have n0_ := Aside0.mk (Kd.R_lower ho0 (below_size cB)); have n1_ := sB hb; clear HB; have HO107 := n0_; have HB := n1_; clear n0_ n1_; (try clear hb); (try clear hb2); (try clear hk); (try clear hi); (try clear ho0))))
 go_loopg [6] k (fun kq v6 w' => ∃ (x6_1 : Int), v6 = .int .i64 x6_1 ∧ Aside0 (spec_l08Mark.l0 kq a0 a1 t105 x6_1 = some r) ∧ Aside0 (kq ≤ k) ∧ Aside0 (Kd.R Kd.string 9 w' w.heap.size (fun _ => True) v106 t105) ∧ Aside0 (Below w.heap.size w w'))
 case atStart => exact ⟨(0), rS, H', ⟨Nat.le_refl _⟩, ⟨mR HO107⟩, ⟨cB⟩⟩
 case round =>
  clear H';obtain ⟨x6_1, rfl, HA, HK1, HO_5, HB⟩ := hrel
  cases gk with
  | zero => exact absurd HA.out (by simp [spec_l08Mark.l0])
  | succ k1 =>
   have H := HA.out;clear HA;simp only [spec_l08Mark.l0] at H;by_cases c5 : x6_1 < (t105.length : Int)
   ·rw [if_pos c5] at H;have c5b0 := decide_eq_true c5;clear c5;replace H := gD H;obtain ⟨c6b0, H⟩ := H;by_cases c7 : (wrap64 (a1 + ((rdOf ByteArray.empty t105 x6_1).size : Int))) ≤ (a0.size : Int)
    ·rw [if_pos c7] at H;have c7b0 := decide_eq_true c7;clear c7;replace H := gC H;obtain ⟨c8, H⟩ := H;have c8b0 := eq_true c8;have c8b1 : decide (0 ≤ a1) = true := decide_eq_true c8;clear c8;replace H := gC H;obtain ⟨c9, H⟩ := H;have c9b0 := eq_true c9;have c9b1 : decide (a1 ≤ (wrap64 (a1 + ((rdOf ByteArray.empty t105 x6_1).size : Int)))) = true := decide_eq_true c9;have c10b0 := eq_true (dA : (wrap64 (a1 + ((rdOf ByteArray.empty t105 x6_1).size : Int))) ≤ (a0.size : Int));by_cases c11 : (a0.extract (a1 : Int).toNat ((wrap64 (a1 + ((rdOf ByteArray.empty t105 x6_1).size : Int))) : Int).toNat).toList = (rdOf ByteArray.empty t105 x6_1).toList
     ·rw [if_pos c11] at H;obtain ⟨c11b0, c11b1⟩ := eT c11;clear c11;obtain rfl := Option.some.inj H;obtain ⟨Ao12, co12, eo12⟩ := Kd.R_slice HO_5.out;subst eo12;have p108 : 0 ≤ (x6_1 : Int) := dA;have q108 : x6_1 < (t105.length : Int) := dA;obtain ⟨ad108, e108, hx108_0⟩ := Kd.at_string (Kd.R_reads' HO_5.out).2.2 x6_1 p108 q108;cases e108;replace p108 := eq_true p108;replace q108 := eq_true q108;have p109 : 0 ≤ (x6_1 : Int) := dA;have q109 : x6_1 < (t105.length : Int) := dA;obtain ⟨ad109, e109, hx109_0⟩ := Kd.at_string (Kd.R_reads' HO_5.out).2.2 x6_1 p109 q109
      obtain rfl : ad108 = ad109 := (by injection e109)
      replace p109 := eq_true p109;replace q109 := eq_true q109;have p110 : 0 ≤ (x6_1 : Int) := dA;have q110 : x6_1 < (t105.length : Int) := dA;obtain ⟨ad110, e110, hx110_0⟩ := Kd.at_string (Kd.R_reads' HO_5.out).2.2 x6_1 p110 q110
      obtain rfl : ad108 = ad110 := (by injection e110)
      replace p110 := eq_true p110;replace q110 := eq_true q110;go_wp2
      repeat (go_quiet (fail); try go_wp2)
      go_ret;exact ⟨rE, cB⟩
     ·rw [if_neg c11] at H;obtain ⟨c11b0, c11b1⟩ := eF c11;have H' := Aside0.mk H;clear H;obtain ⟨Ao13, co13, eo13⟩ := Kd.R_slice HO_5.out;subst eo13;have p108 : 0 ≤ (x6_1 : Int) := dA;have q108 : x6_1 < (t105.length : Int) := dA;obtain ⟨ad108, e108, hx108_0⟩ := Kd.at_string (Kd.R_reads' HO_5.out).2.2 x6_1 p108 q108;cases e108;replace p108 := eq_true p108;replace q108 := eq_true q108;have p109 : 0 ≤ (x6_1 : Int) := dA;have q109 : x6_1 < (t105.length : Int) := dA;obtain ⟨ad109, e109, hx109_0⟩ := Kd.at_string (Kd.R_reads' HO_5.out).2.2 x6_1 p109 q109
      obtain rfl : ad108 = ad109 := (by injection e109)
      replace p109 := eq_true p109;replace q109 := eq_true q109;go_wp2
      repeat (go_quiet (fail); try go_wp2)
      go_roundg k1
      case measure => have := HK1.out; omega
      case rel => exact ⟨(wrap64 (x6_1 + 1)), rS, H', ⟨by have := HK1.out; omega⟩, ⟨mR HO_5⟩, ⟨cB⟩⟩
    ·rw [if_neg c7] at H;have c7b0 := decide_eq_false c7;clear c7;have H' := Aside0.mk H;clear H;obtain ⟨Ao14, co14, eo14⟩ := Kd.R_slice HO_5.out;subst eo14;have p108 : 0 ≤ (x6_1 : Int) := dA;have q108 : x6_1 < (t105.length : Int) := dA;obtain ⟨ad108, e108, hx108_0⟩ := Kd.at_string (Kd.R_reads' HO_5.out).2.2 x6_1 p108 q108;cases e108;replace p108 := eq_true p108;replace q108 := eq_true q108;go_wp2
     repeat (go_quiet (fail); try go_wp2)
     go_roundg k1
     case measure => have := HK1.out; omega
     case rel => exact ⟨(wrap64 (x6_1 + 1)), rS, H', ⟨by have := HK1.out; omega⟩, ⟨mR HO_5⟩, ⟨cB⟩⟩
   ·rw [if_neg c5] at H;have c5b0 := decide_eq_false c5;clear c5;obtain rfl := Option.some.inj H;obtain ⟨Ao15, co15, eo15⟩ := Kd.R_slice HO_5.out;subst eo15;go_wp2
    repeat (go_quiet (fail); try go_wp2)
    go_ret;exact ⟨rE, cB⟩
end Go.Proofs.Ytcmcpmkihpdnjaa.PFnExactSignsOf
