import Derived.Test.YtlgndgjbfjefpaaPFnDecidesy0
import Derived.Test.YtlgndgjbfjefpaaPFnDecidesy8
namespace Go.Proofs.Ytlgndgjbfjefpaa.PFnDecides
open Go.RowKit Go.Proofs.YtlgndgjbfjefpaaW.PrintWords Go.Proofs.YtlgndgjbfjefpaaW.PrintLast Go.Proofs.YtlgndgjbfjefpaaW.PrintMore Go.Proofs.YtlgndgjbfjefpaaW.Z
attribute [local go_sem] isS max2_int min2_int max_two min_two max_three min_three max_four min_four
set_option linter.unusedVariables false
set_option linter.unusedSimpArgs false
def spec_CallOk.l0 : Nat → Int → Int → Int → List (S48) → Option (Bool)
  | 0, _, _, _, _ => none
  | k + 1, x3, x494000, x494001, x494002 => if x3 < (x494002.length : Int) then (if 0 ≤ x3 then ((spec_WideOk.f ((rd_T48 x494002 x3).f0) ((rd_T48 x494002 x3).f1)).bind fun t495 => (if t495 = true then (spec_CallOk.l0 k (wrap64 (x3 + 1)) x494000 x494001 x494002) else (some false))) else (none)) else ((spec_HalfOk.f x494000).bind fun t496 => (if t496 = true then ((spec_HalfOk.f x494001).bind fun t497 => (if t497 = true then (some ((x494002.length : Int) == 3)) else (some false))) else (some false)))
def spec_CallOk.f (k : Nat) (a0_0 : Int) (a0_1 : Int) (l0_2 : List (S48)) : Option (Bool) := spec_CallOk.l0 k 0 a0_0 a0_1 l0_2
set_option maxHeartbeats 8000000 in
set_option maxRecDepth 100000 in
theorem spec_CallOk.calls (k : Nat) (a0_0 : Int) (a0_1 : Int) (A0_2 : Option Addr) (c0_2 : Nat) (l0_2 : List (S48)) (r : Bool) (w : World) (hr0_2 : Kd.C k48 w A0_2 l0_2.length l0_2) (hc0_2 : l0_2.length ≤ c0_2) (h : spec_CallOk.f k a0_0 a0_1 l0_2 = some r) :
 Calls Try.prog 111 #[.agg #[.int .i64 a0_0, .int .i64 a0_1, .slice A0_2 l0_2.length c0_2]] w fun e w' => e = .returned (.bool r) ∧ Below w.heap.size w w' := by
 have hu53 := Try.underlying53;have hu48 := Try.underlying48;have HR0_2 := Aside0.mk hr0_2;have HC0_2 := Aside0.mk hc0_2;clear hr0_2 hc0_2;have HB := Aside0.mk (Below.refl w.heap.size w);have H : (spec_CallOk.l0 k 0 a0_0 a0_1 l0_2) = some r := h;clear h;have H' := Aside0.mk H;clear H;go_enter Try.func111, Try.ntmps111
 go_wp2_with (first|((with_reducible refine gN 1 ?_);(try (refine gate_guard (by rfl) ?_; dsimp only));refine boxZ 1 #[.int .i64 a0_0, .int .i64 a0_1, .slice A0_2 l0_2.length c0_2] 53 ?_;intro gb493 hg w2 hbox hb;have BK493 := Aside0.mk (hbox);have GW493 := gS hg;have GE493 := gS hg;replace HB := sB hb;clear hb hbox hg))
 go_loopg [3] k (fun kq v3 w' => ∃ (x3_1 : Int), v3 = .int .i64 x3_1 ∧ Aside0 (spec_CallOk.l0 kq x3_1 a0_0 a0_1 l0_2 = some r) ∧ Aside0 (kq ≤ k) ∧ Aside0 (w'.heap[gb493]? = some (.cells #[.int .i64 a0_0, .int .i64 a0_1, (.slice A0_2 l0_2.length c0_2)] 53 (0, 0))) ∧ Aside0 (Below w.heap.size w w'))
 case atStart => exact ⟨(0), rS, H', ⟨Nat.le_refl _⟩, ⟨mK BK493⟩, ⟨cB⟩⟩
 case round =>
  clear H';obtain ⟨x3_1, rfl, HA, HK1, BK493, HB⟩ := hrel
  cases gk with
  | zero => exact absurd HA.out (by simp [spec_CallOk.l0])
  | succ k1 =>
   have H := HA.out;clear HA;simp only [spec_CallOk.l0] at H;by_cases c3 : x3_1 < (l0_2.length : Int)
   ·rw [if_pos c3] at H;have c3b0 := decide_eq_true c3;clear c3;replace H := gD H;obtain ⟨c4b0, H⟩ := H;replace H := bE H;obtain ⟨t495, A5, H⟩ := H;by_cases c6 : t495 = true
    ·subst c6;replace H := iT H;have H' := Aside0.mk H;clear H;obtain ⟨hcz7_0, hcz7_1, hcz7_2, hfz7_0, hfz7_1, hfz7_2⟩ := cz3 BK493;have p494 : 0 ≤ (x3_1 : Int) := dA;have q494 : x3_1 < (l0_2.length : Int) := dA;obtain ⟨ad494, e494, hx494_0, hx494_1⟩ := at_T48 HR0_2.out x3_1 p494 q494;cases e494;replace hx494_0 := (bc HB hx494_0 :);replace hx494_1 := (bc HB hx494_1 :);replace p494 := eq_true p494;replace q494 := eq_true q494
     go_wp2_with (first|((with_reducible refine gF 104 ?_);refine goZ (some 16) Try.func104 #[.agg #[.int .i64 ((rd_T48 l0_2 x3_1).f0), .int .i64 ((rd_T48 l0_2 x3_1).f1)]] ?_;(with_reducible refine (spec_WideOk.calls ((rd_T48 l0_2 x3_1).f0) ((rd_T48 l0_2 x3_1).f1) true _ A5.out).mono ?_);rintro e w8 ⟨rfl, hb⟩;refine ⟨_, rfl, ?_⟩;replace BK493 := kB BK493 hb;replace HB := sB hb;(try clear hb)))
     go_roundg k1
     case measure => have := HK1.out; omega
     case rel => exact ⟨(wrap64 (x3_1 + 1)), rS, H', ⟨by have := HK1.out; omega⟩, ⟨mK BK493⟩, ⟨cB⟩⟩
    ·replace c6 := Bool.eq_false_iff.mpr c6;subst c6;replace H := iF H;obtain rfl := Option.some.inj H;obtain ⟨hcz9_0, hcz9_1, hcz9_2, hfz9_0, hfz9_1, hfz9_2⟩ := cz3 BK493;have p494 : 0 ≤ (x3_1 : Int) := dA;have q494 : x3_1 < (l0_2.length : Int) := dA;obtain ⟨ad494, e494, hx494_0, hx494_1⟩ := at_T48 HR0_2.out x3_1 p494 q494;cases e494;replace hx494_0 := (bc HB hx494_0 :);replace hx494_1 := (bc HB hx494_1 :);replace p494 := eq_true p494;replace q494 := eq_true q494
     go_wp2_with (first|((with_reducible refine gF 104 ?_);refine goZ (some 16) Try.func104 #[.agg #[.int .i64 ((rd_T48 l0_2 x3_1).f0), .int .i64 ((rd_T48 l0_2 x3_1).f1)]] ?_;(with_reducible refine (spec_WideOk.calls ((rd_T48 l0_2 x3_1).f0) ((rd_T48 l0_2 x3_1).f1) false _ A5.out).mono ?_);rintro e w10 ⟨rfl, hb⟩;refine ⟨_, rfl, ?_⟩;replace BK493 := kB BK493 hb;replace HB := sB hb;(try clear hb)))
     go_ret;exact ⟨rE, cB⟩
   ·rw [if_neg c3] at H;have c3b0 := decide_eq_false c3;clear c3;replace H := bE H;obtain ⟨t496, A11, H⟩ := H;by_cases c12 : t496 = true
    ·subst c12;replace H := iT H;replace H := bE H;obtain ⟨t497, A13, H⟩ := H;by_cases c14 : t497 = true
     ·subst c14;replace H := iT H;obtain rfl := Option.some.inj H;obtain ⟨hcz15_0, hcz15_1, hcz15_2, hfz15_0, hfz15_1, hfz15_2⟩ := cz3 BK493
      go_wp2_with (first|((with_reducible refine gF 96 ?_);refine goZ (some 20) Try.func96 #[.int .i64 a0_0] ?_;(with_reducible refine (spec_HalfOk.calls a0_0 true _ A11.out).mono ?_);rintro e w' ⟨rfl, ⟨nd, rfl⟩⟩;refine ⟨_, rfl, ?_⟩)|(go_at_call 96;(with_reducible refine (spec_HalfOk.calls a0_1 true _ A13.out).mono ?_);rintro e w' ⟨rfl, ⟨nd, rfl⟩⟩))
      go_ret;exact ⟨rE, cB⟩
     ·replace c14 := Bool.eq_false_iff.mpr c14;subst c14;replace H := iF H;obtain rfl := Option.some.inj H;obtain ⟨hcz16_0, hcz16_1, hcz16_2, hfz16_0, hfz16_1, hfz16_2⟩ := cz3 BK493
      go_wp2_with (first|((with_reducible refine gF 96 ?_);refine goZ (some 20) Try.func96 #[.int .i64 a0_0] ?_;(with_reducible refine (spec_HalfOk.calls a0_0 true _ A11.out).mono ?_);rintro e w' ⟨rfl, ⟨nd, rfl⟩⟩;refine ⟨_, rfl, ?_⟩)|(go_at_call 96;(with_reducible refine (spec_HalfOk.calls a0_1 false _ A13.out).mono ?_);rintro e w' ⟨rfl, ⟨nd, rfl⟩⟩))
      go_ret;exact ⟨rE, cB⟩
    ·replace c12 := Bool.eq_false_iff.mpr c12;subst c12;replace H := iF H;obtain rfl := Option.some.inj H;obtain ⟨hcz17_0, hcz17_1, hcz17_2, hfz17_0, hfz17_1, hfz17_2⟩ := cz3 BK493
     go_wp2_with (first|((with_reducible refine gF 96 ?_);refine goZ (some 20) Try.func96 #[.int .i64 a0_0] ?_;(with_reducible refine (spec_HalfOk.calls a0_0 false _ A11.out).mono ?_);rintro e w' ⟨rfl, ⟨nd, rfl⟩⟩;refine ⟨_, rfl, ?_⟩))
     go_ret;exact ⟨rE, cB⟩
end Go.Proofs.Ytlgndgjbfjefpaa.PFnDecides
