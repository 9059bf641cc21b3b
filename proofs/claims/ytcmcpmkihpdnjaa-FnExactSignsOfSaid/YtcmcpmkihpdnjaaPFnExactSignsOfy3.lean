import Derived.Test.YtcmcpmkihpdnjaaPFnExactSignsOfy0
import Derived.Test.YtcmcpmkihpdnjaaPFnExactSignsOfy2
namespace Go.Proofs.Ytcmcpmkihpdnjaa.PFnExactSignsOf
open Go.RowKit Go.Proofs.YtcmcpmkihpdnjaaW.PrintWords Go.Proofs.YtcmcpmkihpdnjaaW.PrintLast Go.Proofs.YtcmcpmkihpdnjaaW.PrintMore Go.Proofs.YtcmcpmkihpdnjaaW.Z
attribute [local go_sem] isS max2_int min2_int max_two min_two max_three min_three max_four min_four
set_option linter.unusedVariables false
set_option linter.unusedSimpArgs false
def impl_markAt.l0 : Nat → ByteArray → Int → List ByteArray → Int → Int → Option (ByteArray)
  | 0, _, _, _, _, _ => none
  | k + 1, x0, x1, x7, x8, x9 => if x9 < x8 then (if 0 ≤ x9 then (if x9 < (x7.length : Int) then (if (wrap64 ((x0.size : Int) - x1)) ≥ ((rdOf ByteArray.empty x7 x9).size : Int) then (if 0 ≤ x1 then (if x1 ≤ (wrap64 (x1 + ((rdOf ByteArray.empty x7 x9).size : Int))) then (if (wrap64 (x1 + ((rdOf ByteArray.empty x7 x9).size : Int))) ≤ (x0.size : Int) then (if (x0.extract (x1 : Int).toNat ((wrap64 (x1 + ((rdOf ByteArray.empty x7 x9).size : Int))) : Int).toNat).toList = (rdOf ByteArray.empty x7 x9).toList then (some (rdOf ByteArray.empty x7 x9)) else (impl_markAt.l0 k x0 x1 x7 x8 (wrap64 (x9 + 1)))) else (none)) else (none)) else (none)) else (impl_markAt.l0 k x0 x1 x7 x8 (wrap64 (x9 + 1)))) else (none)) else (none)) else (some (⟨#[]⟩ : ByteArray))
def impl_markAt.f (k : Nat) (a0 : ByteArray) (a1 : Int) : Option (ByteArray) := (some (([(⟨#[61, 61]⟩ : ByteArray), (⟨#[33, 61]⟩ : ByteArray), (⟨#[60, 61]⟩ : ByteArray), (⟨#[62, 61]⟩ : ByteArray), (⟨#[60]⟩ : ByteArray), (⟨#[62]⟩ : ByteArray), (⟨#[38]⟩ : ByteArray), (⟨#[58]⟩ : ByteArray), (⟨#[59]⟩ : ByteArray), (⟨#[44]⟩ : ByteArray)] : List ByteArray) : List ByteArray)).bind fun y130 => (impl_markAt.l0 k a0 a1 y130 (y130.length : Int) 0)
set_option maxHeartbeats 8000000 in
set_option maxRecDepth 100000 in
theorem impl_markAt.calls (k : Nat) (a0 : ByteArray) (a1 : Int) (r : ByteArray) (w : World) (h : impl_markAt.f k a0 a1 = some r) :
 Calls Try.prog 67 #[.string a0, .int .i64 a1] w fun e w' => e = .returned (.string r) ∧ Below w.heap.size w w' := by
 have HB := Aside0.mk (Below.refl w.heap.size w)
 have H : ((some (([(⟨#[61, 61]⟩ : ByteArray), (⟨#[33, 61]⟩ : ByteArray), (⟨#[60, 61]⟩ : ByteArray), (⟨#[62, 61]⟩ : ByteArray), (⟨#[60]⟩ : ByteArray), (⟨#[62]⟩ : ByteArray), (⟨#[38]⟩ : ByteArray), (⟨#[58]⟩ : ByteArray), (⟨#[59]⟩ : ByteArray), (⟨#[44]⟩ : ByteArray)] : List ByteArray) : List ByteArray)).bind fun y130 => (impl_markAt.l0 k a0 a1 y130 (y130.length : Int) 0)) = some r := h
 clear h;replace H := nE H;obtain ⟨y130, Ny130, H⟩ := H;have H' := Aside0.mk H;clear H;go_enter Try.func67, Try.ntmps67
 go_wp2_with (first|((with_reducible refine gN 7 ?_);(try (refine gate_guard (by rfl) ?_; dsimp only));refine Kd.R_lit Kd.string _ 9 ?hg (N := 7) ?hd (xs := ([(⟨#[61, 61]⟩ : ByteArray), (⟨#[33, 61]⟩ : ByteArray), (⟨#[60, 61]⟩ : ByteArray), (⟨#[62, 61]⟩ : ByteArray), (⟨#[60]⟩ : ByteArray), (⟨#[62]⟩ : ByteArray), (⟨#[38]⟩ : ByteArray), (⟨#[58]⟩ : ByteArray), (⟨#[59]⟩ : ByteArray), (⟨#[44]⟩ : ByteArray)] : List ByteArray)) (inner := [.string (⟨#[61, 61]⟩ : ByteArray), .string (⟨#[33, 61]⟩ : ByteArray), .string (⟨#[60, 61]⟩ : ByteArray), .string (⟨#[62, 61]⟩ : ByteArray), .string (⟨#[60]⟩ : ByteArray), .string (⟨#[62]⟩ : ByteArray), .string (⟨#[38]⟩ : ByteArray), .string (⟨#[58]⟩ : ByteArray), .string (⟨#[59]⟩ : ByteArray), .string (⟨#[44]⟩ : ByteArray)]) (ok := fun _ => True) (okp := fun _ => True) ?hr ?hp (fun _ hk => hk) trivial (Below.refl _ _) (Nat.le_refl _) (by simp) ?_;(case hd => rfl);(case hg => rfl);(case hr => exact rG);(case hp => exact (Reps.one (show Kd.M Kd.string _ _ _ (⟨#[61, 61]⟩ : ByteArray) [.string (⟨#[61, 61]⟩ : ByteArray)] from rfl) (Reps.one (show Kd.M Kd.string _ _ _ (⟨#[33, 61]⟩ : ByteArray) [.string (⟨#[33, 61]⟩ : ByteArray)] from rfl) (Reps.one (show Kd.M Kd.string _ _ _ (⟨#[60, 61]⟩ : ByteArray) [.string (⟨#[60, 61]⟩ : ByteArray)] from rfl) (Reps.one (show Kd.M Kd.string _ _ _ (⟨#[62, 61]⟩ : ByteArray) [.string (⟨#[62, 61]⟩ : ByteArray)] from rfl) (Reps.one (show Kd.M Kd.string _ _ _ (⟨#[60]⟩ : ByteArray) [.string (⟨#[60]⟩ : ByteArray)] from rfl) (Reps.one (show Kd.M Kd.string _ _ _ (⟨#[62]⟩ : ByteArray) [.string (⟨#[62]⟩ : ByteArray)] from rfl) (Reps.one (show Kd.M Kd.string _ _ _ (⟨#[38]⟩ : ByteArray) [.string (⟨#[38]⟩ : ByteArray)] from rfl) (Reps.one (show Kd.M Kd.string _ _ _ (⟨#[58]⟩ : ByteArray) [.string (⟨#[58]⟩ : ByteArray)] from rfl) (Reps.one (show Kd.M Kd.string _ _ _ (⟨#[59]⟩ : ByteArray) [.string (⟨#[59]⟩ : ByteArray)] from rfl) (Reps.one (show Kd.M Kd.string _ _ _ (⟨#[44]⟩ : ByteArray) [.string (⟨#[44]⟩ : ByteArray)] from rfl) (Reps.none _ _))))))))))));intro v131 w3 ho4 hb hg_ hnew_;clear hg_ hnew_;(first | rw [← Ny130.out] at ho4 | (simp only [Int.reduceToNat] at ho4; rw [← Ny130.out] at ho4));have HO132 := Aside0.mk (Kd.R_lower ho4 (below_size cB));replace HB := sB hb;clear hb ho4;obtain ⟨Ao5, co5, eo5⟩ := Kd.R_slice HO132.out;subst eo5))
 go_loopg [9] k (fun kq v9 w' => ∃ (x9_1 : Int), v9 = .int .i64 x9_1 ∧ Aside0 (impl_markAt.l0 kq a0 a1 y130 (y130.length : Int) x9_1 = some r) ∧ Aside0 (kq ≤ k) ∧ Aside0 (Kd.R Kd.string 9 w' w.heap.size (fun _ => True) (.slice Ao5 y130.length co5) y130) ∧ Aside0 (Below w.heap.size w w'))
 case atStart => exact ⟨(0), rS, H', ⟨Nat.le_refl _⟩, ⟨mR HO132⟩, ⟨cB⟩⟩
 case round =>
  clear H';obtain ⟨x9_1, rfl, HA, HK1, HO_7, HB⟩ := hrel
  cases gk with
  | zero => exact absurd HA.out (by simp [impl_markAt.l0])
  | succ k1 =>
   have H := HA.out;clear HA;simp only [impl_markAt.l0] at H;by_cases c6 : x9_1 < (y130.length : Int)
   ·rw [if_pos c6] at H;have c6b0 := decide_eq_true c6;clear c6;replace H := gD H;obtain ⟨c7b0, H⟩ := H;replace H := gD H;obtain ⟨c8b0, H⟩ := H;by_cases c9 : (wrap64 ((a0.size : Int) - a1)) ≥ ((rdOf ByteArray.empty y130 x9_1).size : Int)
    ·rw [if_pos c9] at H;have c9b0 : decide (((rdOf ByteArray.empty y130 x9_1).size : Int) ≤ (wrap64 ((a0.size : Int) - a1))) = true := decide_eq_true c9;clear c9;replace H := gC H;obtain ⟨c10, H⟩ := H;have c10b0 := eq_true c10;have c10b1 : decide (0 ≤ a1) = true := decide_eq_true c10;clear c10;replace H := gC H;obtain ⟨c11, H⟩ := H;have c11b0 := eq_true c11;have c11b1 : decide (a1 ≤ (wrap64 (a1 + ((rdOf ByteArray.empty y130 x9_1).size : Int)))) = true := decide_eq_true c11;replace H := gC H;obtain ⟨c12, H⟩ := H;have c12b0 := eq_true c12;have c12b1 : decide ((wrap64 (a1 + ((rdOf ByteArray.empty y130 x9_1).size : Int))) ≤ (a0.size : Int)) = true := decide_eq_true c12;by_cases c13 : (a0.extract (a1 : Int).toNat ((wrap64 (a1 + ((rdOf ByteArray.empty y130 x9_1).size : Int))) : Int).toNat).toList = (rdOf ByteArray.empty y130 x9_1).toList
     ·rw [if_pos c13] at H;obtain ⟨c13b0, c13b1⟩ := eT c13;clear c13;obtain rfl := Option.some.inj H;have p133 : 0 ≤ (x9_1 : Int) := dA;have q133 : x9_1 < (y130.length : Int) := dA;obtain ⟨ad133, e133, hx133_0⟩ := Kd.at_string (Kd.R_reads' HO_7.out).2.2 x9_1 p133 q133;cases e133;replace p133 := eq_true p133;replace q133 := eq_true q133;go_wp2;go_ret;exact ⟨rE, cB⟩
     ·rw [if_neg c13] at H;obtain ⟨c13b0, c13b1⟩ := eF c13;have H' := Aside0.mk H;clear H;have p133 : 0 ≤ (x9_1 : Int) := dA;have q133 : x9_1 < (y130.length : Int) := dA;obtain ⟨ad133, e133, hx133_0⟩ := Kd.at_string (Kd.R_reads' HO_7.out).2.2 x9_1 p133 q133;cases e133;replace p133 := eq_true p133;replace q133 := eq_true q133;go_wp2;go_roundg k1
      case measure => have := HK1.out; omega
      case rel => exact ⟨(wrap64 (x9_1 + 1)), rS, H', ⟨by have := HK1.out; omega⟩, ⟨mR HO_7⟩, ⟨cB⟩⟩
    ·rw [if_neg c9] at H;have c9b0 : decide (((rdOf ByteArray.empty y130 x9_1).size : Int) ≤ (wrap64 ((a0.size : Int) - a1))) = false := decide_eq_false c9;clear c9;have H' := Aside0.mk H;clear H;have p133 : 0 ≤ (x9_1 : Int) := dA;have q133 : x9_1 < (y130.length : Int) := dA;obtain ⟨ad133, e133, hx133_0⟩ := Kd.at_string (Kd.R_reads' HO_7.out).2.2 x9_1 p133 q133;cases e133;replace p133 := eq_true p133;replace q133 := eq_true q133;go_wp2;go_roundg k1
     case measure => have := HK1.out; omega
     case rel => exact ⟨(wrap64 (x9_1 + 1)), rS, H', ⟨by have := HK1.out; omega⟩, ⟨mR HO_7⟩, ⟨cB⟩⟩
   ·rw [if_neg c6] at H;have c6b0 := decide_eq_false c6;clear c6;obtain rfl := Option.some.inj H;go_wp2;go_ret;exact ⟨rE, cB⟩
def impl_runOf_64.l0 : Nat → ByteArray → Int → Option (Int)
  | 0, _, _ => none
  | k + 1, x0, x1 => if x1 < (x0.size : Int) then (if 0 ≤ x1 then ((impl_isLetter.f (bt x0 x1)).bind fun t134 => (if t134 = true then (impl_runOf_64.l0 k x0 (wrap64 (x1 + 1))) else (some x1))) else (none)) else (some x1)
def impl_runOf_64.f (k : Nat) (a0 : ByteArray) (a1 : Int) (a2 : Unit) : Option (Int) := impl_runOf_64.l0 k a0 a1
set_option maxHeartbeats 8000000 in
set_option maxRecDepth 100000 in
theorem impl_runOf_64.calls (k : Nat) (a0 : ByteArray) (a1 : Int) (a2 : Unit) (r : Int) (w : World) (h : impl_runOf_64.f k a0 a1 a2 = some r) :
 Calls Try.prog 65 #[.string a0, .int .i64 a1, .func (.func 64) #[] #[]] w fun e w' => e = .returned (.int .i64 r) ∧ Drawn0 w w' := by
 have H : (impl_runOf_64.l0 k a0 a1) = some r := h;clear h;have H' := Aside0.mk H;clear H;go_enter Try.func65, Try.ntmps65;go_wp2
 go_loopg [1] k (fun kq v1 w' => ∃ (x1_1 : Int), v1 = .int .i64 x1_1 ∧ Aside0 (impl_runOf_64.l0 kq a0 x1_1 = some r) ∧ Aside0 (kq ≤ k) ∧ Drawn0 w w')
 case atStart => exact ⟨(a1), rS, H', ⟨Nat.le_refl _⟩, by repeat (first | exact Drawn0.refl _ | apply Drawn0.step)⟩
 case round =>
  clear H';obtain ⟨x1_1, rfl, HA, HK1, ⟨m1, rfl⟩⟩ := hrel
  cases gk with
  | zero => exact absurd HA.out (by simp [impl_runOf_64.l0])
  | succ k1 =>
   have H := HA.out;clear HA;simp only [impl_runOf_64.l0] at H;by_cases c4 : x1_1 < (a0.size : Int)
   ·rw [if_pos c4] at H;have c4b0 := decide_eq_true c4;clear c4;replace H := gD H;obtain ⟨c5b0, H⟩ := H;replace H := bE H;obtain ⟨t134, A7, H⟩ := H;by_cases c8 : t134 = true
    ·subst c8;replace H := iT H;have H' := Aside0.mk H;clear H;have p6 : 0 ≤ (x1_1 : Int) := dA;have q6 : x1_1 < (a0.size : Int) := dA;have hx6 := bt_at a0 x1_1;replace p6 := eq_true p6;replace q6 := eq_true q6
     go_wp2_with (first|(go_at_call 64;(with_reducible refine (impl_isLetter.calls (bt a0 x1_1) true _ A7.out).mono ?_);rintro e w' ⟨rfl, ⟨nd, rfl⟩⟩))
     go_roundg k1
     case measure => have := HK1.out; omega
     case rel => exact ⟨(wrap64 (x1_1 + 1)), rS, H', ⟨by have := HK1.out; omega⟩, by repeat (first | exact Drawn0.refl _ | apply Drawn0.step)⟩
    ·replace c8 := Bool.eq_false_iff.mpr c8;subst c8;replace H := iF H;obtain rfl := Option.some.inj H;have p6 : 0 ≤ (x1_1 : Int) := dA;have q6 : x1_1 < (a0.size : Int) := dA;have hx6 := bt_at a0 x1_1;replace p6 := eq_true p6;replace q6 := eq_true q6
     go_wp2_with (first|(go_at_call 64;(with_reducible refine (impl_isLetter.calls (bt a0 x1_1) false _ A7.out).mono ?_);rintro e w' ⟨rfl, ⟨nd, rfl⟩⟩))
     go_ret
     exact ⟨by first | rfl | (simp; done) | (simp [*]; done), by repeat (first | exact Drawn0.refl _ | apply Drawn0.step)⟩
   ·rw [if_neg c4] at H;have c4b0 := decide_eq_false c4;clear c4;obtain rfl := Option.some.inj H;go_wp2;go_ret
    exact ⟨by first | rfl | (simp; done) | (simp [*]; done), by repeat (first | exact Drawn0.refl _ | apply Drawn0.step)⟩
def impl_runOf_66.l0 : Nat → ByteArray → Int → Option (Int)
  | 0, _, _ => none
  | k + 1, x0, x1 => if x1 < (x0.size : Int) then (if 0 ≤ x1 then ((impl_isFigure.f (bt x0 x1)).bind fun t135 => (if t135 = true then (impl_runOf_66.l0 k x0 (wrap64 (x1 + 1))) else (some x1))) else (none)) else (some x1)
def impl_runOf_66.f (k : Nat) (a0 : ByteArray) (a1 : Int) (a2 : Unit) : Option (Int) := impl_runOf_66.l0 k a0 a1
set_option maxHeartbeats 8000000 in
set_option maxRecDepth 100000 in
theorem impl_runOf_66.calls (k : Nat) (a0 : ByteArray) (a1 : Int) (a2 : Unit) (r : Int) (w : World) (h : impl_runOf_66.f k a0 a1 a2 = some r) :
 Calls Try.prog 65 #[.string a0, .int .i64 a1, .func (.func 66) #[] #[]] w fun e w' => e = .returned (.int .i64 r) ∧ Drawn0 w w' := by
 have H : (impl_runOf_66.l0 k a0 a1) = some r := h;clear h;have H' := Aside0.mk H;clear H;go_enter Try.func65, Try.ntmps65;go_wp2
 go_loopg [1] k (fun kq v1 w' => ∃ (x1_1 : Int), v1 = .int .i64 x1_1 ∧ Aside0 (impl_runOf_66.l0 kq a0 x1_1 = some r) ∧ Aside0 (kq ≤ k) ∧ Drawn0 w w')
 case atStart => exact ⟨(a1), rS, H', ⟨Nat.le_refl _⟩, by repeat (first | exact Drawn0.refl _ | apply Drawn0.step)⟩
 case round =>
  clear H';obtain ⟨x1_1, rfl, HA, HK1, ⟨m1, rfl⟩⟩ := hrel
  cases gk with
  | zero => exact absurd HA.out (by simp [impl_runOf_66.l0])
  | succ k1 =>
   have H := HA.out;clear HA;simp only [impl_runOf_66.l0] at H;by_cases c4 : x1_1 < (a0.size : Int)
   ·rw [if_pos c4] at H;have c4b0 := decide_eq_true c4;clear c4;replace H := gD H;obtain ⟨c5b0, H⟩ := H;replace H := bE H;obtain ⟨t135, A7, H⟩ := H;by_cases c8 : t135 = true
    ·subst c8;replace H := iT H;have H' := Aside0.mk H;clear H;have p6 : 0 ≤ (x1_1 : Int) := dA;have q6 : x1_1 < (a0.size : Int) := dA;have hx6 := bt_at a0 x1_1;replace p6 := eq_true p6;replace q6 := eq_true q6
     go_wp2_with (first|(go_at_call 66;(with_reducible refine (impl_isFigure.calls (bt a0 x1_1) true _ A7.out).mono ?_);rintro e w' ⟨rfl, ⟨nd, rfl⟩⟩))
     go_roundg k1
     case measure => have := HK1.out; omega
     case rel => exact ⟨(wrap64 (x1_1 + 1)), rS, H', ⟨by have := HK1.out; omega⟩, by repeat (first | exact Drawn0.refl _ | apply Drawn0.step)⟩
    ·replace c8 := Bool.eq_false_iff.mpr c8;subst c8;replace H := iF H;obtain rfl := Option.some.inj H;have p6 : 0 ≤ (x1_1 : Int) := dA;have q6 : x1_1 < (a0.size : Int) := dA;have hx6 := bt_at a0 x1_1;replace p6 := eq_true p6;replace q6 := eq_true q6
     go_wp2_with (first|(go_at_call 66;(with_reducible refine (impl_isFigure.calls (bt a0 x1_1) false _ A7.out).mono ?_);rintro e w' ⟨rfl, ⟨nd, rfl⟩⟩))
     go_ret
     exact ⟨by first | rfl | (simp; done) | (simp [*]; done), by repeat (first | exact Drawn0.refl _ | apply Drawn0.step)⟩
   ·rw [if_neg c4] at H;have c4b0 := decide_eq_false c4;clear c4;obtain rfl := Option.some.inj H;go_wp2;go_ret
    exact ⟨by first | rfl | (simp; done) | (simp [*]; done), by repeat (first | exact Drawn0.refl _ | apply Drawn0.step)⟩
end Go.Proofs.Ytcmcpmkihpdnjaa.PFnExactSignsOf
