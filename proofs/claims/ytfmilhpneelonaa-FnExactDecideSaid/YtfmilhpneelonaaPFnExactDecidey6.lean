import Derived.Test.YtfmilhpneelonaaPFnExactDecidey0
import Derived.Test.YtfmilhpneelonaaPFnExactDecidey4
namespace Go.Proofs.Ytfmilhpneelonaa.PFnExactDecide
open Go.RowKit Go.Proofs.YtfmilhpneelonaaW.PrintWords Go.Proofs.YtfmilhpneelonaaW.PrintLast Go.Proofs.YtfmilhpneelonaaW.PrintMore Go.Proofs.YtfmilhpneelonaaW.Z
attribute [local go_sem] max2_int min2_int max_two min_two max_three min_three max_four min_four
set_option linter.unusedVariables false
set_option linter.unusedSimpArgs false
def spec_CallOk.l0 : Nat → Int → Int → Int → List (S25) → Option (Bool)
  | 0, _, _, _, _ => none
  | k + 1, x3, x203000, x203001, x203002 => if x3 < (x203002.length : Int) then (if 0 ≤ x3 then ((spec_WideOk.f ((rd_T25 x203002 x3).f0) ((rd_T25 x203002 x3).f1)).bind fun t204 => (if t204 = true then (spec_CallOk.l0 k (wrap64 (x3 + 1)) x203000 x203001 x203002) else (some false))) else (none)) else ((spec_HalfOk.f x203000).bind fun t205 => (if t205 = true then ((spec_HalfOk.f x203001).bind fun t206 => (if t206 = true then (some ((x203002.length : Int) == 3)) else (some false))) else (some false)))
def spec_CallOk.f (k : Nat) (a0_0 : Int) (a0_1 : Int) (l0_2 : List (S25)) : Option (Bool) := spec_CallOk.l0 k 0 a0_0 a0_1 l0_2
set_option maxHeartbeats 8000000 in
set_option maxRecDepth 100000 in
theorem spec_CallOk.calls (k : Nat) (a0_0 : Int) (a0_1 : Int) (A0_2 : Option Addr) (c0_2 : Nat) (l0_2 : List (S25)) (r : Bool) (w : World) (hr0_2 : Kd.C k25 w A0_2 l0_2.length l0_2) (hc0_2 : l0_2.length ≤ c0_2) (h : spec_CallOk.f k a0_0 a0_1 l0_2 = some r) :
 Calls Try.prog 112 #[.agg #[.int .i64 a0_0, .int .i64 a0_1, .slice A0_2 l0_2.length c0_2]] w fun e w' => e = .returned (.bool r) ∧ Below w.heap.size w w' := by
 have hu30 := Try.underlying30;have hu25 := Try.underlying25;have HR0_2 := Aside0.mk hr0_2;have HC0_2 := Aside0.mk hc0_2;clear hr0_2 hc0_2;have HB := Aside0.mk (Below.refl w.heap.size w);have H : (spec_CallOk.l0 k 0 a0_0 a0_1 l0_2) = some r := h;clear h;have H' := Aside0.mk H;clear H;go_enter Try.func112, Try.ntmps112
 go_wp2_with (first|((with_reducible refine gN 1 ?_);(try (refine gate_guard (by rfl) ?_; dsimp only));refine boxZ 1 #[.int .i64 a0_0, .int .i64 a0_1, .slice A0_2 l0_2.length c0_2] 30 ?_;intro gb202 hg w2 hbox hb;have BK202 := Aside0.mk (hbox);have GW202 := gS hg;have GE202 := gS hg;replace HB := sB hb;clear hb hbox hg))
 go_loopg [3] k (fun kq v3 w' => ∃ (x3_1 : Int), v3 = .int .i64 x3_1 ∧ Aside0 (spec_CallOk.l0 kq x3_1 a0_0 a0_1 l0_2 = some r) ∧ Aside0 (kq ≤ k) ∧ Aside0 (w'.heap[gb202]? = some (.cells #[.int .i64 a0_0, .int .i64 a0_1, (.slice A0_2 l0_2.length c0_2)] 30 (0, 0))) ∧ Aside0 (Below w.heap.size w w'))
 case atStart => exact ⟨(0), rS, H', ⟨Nat.le_refl _⟩, ⟨mK BK202⟩, ⟨cB⟩⟩
 case round =>
  clear H';obtain ⟨x3_1, rfl, HA, HK1, BK202, HB⟩ := hrel
  cases gk with
  | zero => exact absurd HA.out (by simp [spec_CallOk.l0])
  | succ k1 =>
   have H := HA.out;clear HA;simp only [spec_CallOk.l0] at H;by_cases c3 : x3_1 < (l0_2.length : Int)
   ·rw [if_pos c3] at H;have c3b0 := decide_eq_true c3;clear c3;replace H := gD H;obtain ⟨c4b0, H⟩ := H;replace H := bE H;obtain ⟨t204, A5, H⟩ := H;by_cases c6 : t204 = true
    ·subst c6;replace H := iT H;have H' := Aside0.mk H;clear H;obtain ⟨hcz7_0, hcz7_1, hcz7_2, hfz7_0, hfz7_1, hfz7_2⟩ := cz3 BK202;have p203 : 0 ≤ (x3_1 : Int) := dA;have q203 : x3_1 < (l0_2.length : Int) := dA;obtain ⟨ad203, e203, hx203_0, hx203_1⟩ := at_T25 HR0_2.out x3_1 p203 q203;cases e203;replace hx203_0 := bc HB hx203_0;replace hx203_1 := bc HB hx203_1;replace p203 := eq_true p203;replace q203 := eq_true q203
     go_wp2_with (first|((with_reducible refine gF 105 ?_);refine goZ (some 16) Try.func105 #[.agg #[.int .i64 ((rd_T25 l0_2 x3_1).f0), .int .i64 ((rd_T25 l0_2 x3_1).f1)]] ?_;(with_reducible refine (spec_WideOk.calls ((rd_T25 l0_2 x3_1).f0) ((rd_T25 l0_2 x3_1).f1) true _ A5.out).mono ?_);rintro e w8 ⟨rfl, hb⟩;refine ⟨_, rfl, ?_⟩;replace BK202 := kB BK202 hb;replace HB := sB hb;(try clear hb)))
     go_roundg k1
     case measure => have := HK1.out; omega
     case rel => exact ⟨(wrap64 (x3_1 + 1)), rS, H', ⟨by have := HK1.out; omega⟩, ⟨mK BK202⟩, ⟨cB⟩⟩
    ·replace c6 := Bool.eq_false_iff.mpr c6;subst c6;replace H := iF H;obtain rfl := Option.some.inj H;obtain ⟨hcz9_0, hcz9_1, hcz9_2, hfz9_0, hfz9_1, hfz9_2⟩ := cz3 BK202;have p203 : 0 ≤ (x3_1 : Int) := dA;have q203 : x3_1 < (l0_2.length : Int) := dA;obtain ⟨ad203, e203, hx203_0, hx203_1⟩ := at_T25 HR0_2.out x3_1 p203 q203;cases e203;replace hx203_0 := bc HB hx203_0;replace hx203_1 := bc HB hx203_1;replace p203 := eq_true p203;replace q203 := eq_true q203
     go_wp2_with (first|((with_reducible refine gF 105 ?_);refine goZ (some 16) Try.func105 #[.agg #[.int .i64 ((rd_T25 l0_2 x3_1).f0), .int .i64 ((rd_T25 l0_2 x3_1).f1)]] ?_;(with_reducible refine (spec_WideOk.calls ((rd_T25 l0_2 x3_1).f0) ((rd_T25 l0_2 x3_1).f1) false _ A5.out).mono ?_);rintro e w10 ⟨rfl, hb⟩;refine ⟨_, rfl, ?_⟩;replace BK202 := kB BK202 hb;replace HB := sB hb;(try clear hb)))
     go_ret;exact ⟨rE, cB⟩
   ·rw [if_neg c3] at H;have c3b0 := decide_eq_false c3;clear c3;replace H := bE H;obtain ⟨t205, A11, H⟩ := H;by_cases c12 : t205 = true
    ·subst c12;replace H := iT H;replace H := bE H;obtain ⟨t206, A13, H⟩ := H;by_cases c14 : t206 = true
     ·subst c14;replace H := iT H;obtain rfl := Option.some.inj H;obtain ⟨hcz15_0, hcz15_1, hcz15_2, hfz15_0, hfz15_1, hfz15_2⟩ := cz3 BK202
      go_wp2_with (first|((with_reducible refine gF 131 ?_);refine goZ (some 20) Try.func131 #[.int .i64 a0_0] ?_;(with_reducible refine (spec_HalfOk.calls a0_0 true _ A11.out).mono ?_);rintro e w' ⟨rfl, ⟨nd, rfl⟩⟩;refine ⟨_, rfl, ?_⟩)|(go_at_call 131;(with_reducible refine (spec_HalfOk.calls a0_1 true _ A13.out).mono ?_);rintro e w' ⟨rfl, ⟨nd, rfl⟩⟩))
      go_ret;exact ⟨rE, cB⟩
     ·replace c14 := Bool.eq_false_iff.mpr c14;subst c14;replace H := iF H;obtain rfl := Option.some.inj H;obtain ⟨hcz16_0, hcz16_1, hcz16_2, hfz16_0, hfz16_1, hfz16_2⟩ := cz3 BK202
      go_wp2_with (first|((with_reducible refine gF 131 ?_);refine goZ (some 20) Try.func131 #[.int .i64 a0_0] ?_;(with_reducible refine (spec_HalfOk.calls a0_0 true _ A11.out).mono ?_);rintro e w' ⟨rfl, ⟨nd, rfl⟩⟩;refine ⟨_, rfl, ?_⟩)|(go_at_call 131;(with_reducible refine (spec_HalfOk.calls a0_1 false _ A13.out).mono ?_);rintro e w' ⟨rfl, ⟨nd, rfl⟩⟩))
      go_ret;exact ⟨rE, cB⟩
    ·replace c12 := Bool.eq_false_iff.mpr c12;subst c12;replace H := iF H;obtain rfl := Option.some.inj H;obtain ⟨hcz17_0, hcz17_1, hcz17_2, hfz17_0, hfz17_1, hfz17_2⟩ := cz3 BK202
     go_wp2_with (first|((with_reducible refine gF 131 ?_);refine goZ (some 20) Try.func131 #[.int .i64 a0_0] ?_;(with_reducible refine (spec_HalfOk.calls a0_0 false _ A11.out).mono ?_);rintro e w' ⟨rfl, ⟨nd, rfl⟩⟩;refine ⟨_, rfl, ?_⟩))
     go_ret;exact ⟨rE, cB⟩
end Go.Proofs.Ytfmilhpneelonaa.PFnExactDecide
