import Derived.Test.YtgpmmmidplkhnaaPFnExactRefilledy0
import Derived.Test.YtgpmmmidplkhnaaPFnExactRefilledy2
namespace Go.Proofs.Ytgpmmmidplkhnaa.PFnExactRefilled
open Go.RowKit Go.Proofs.YtgpmmmidplkhnaaW.PrintWords Go.Proofs.YtgpmmmidplkhnaaW.PrintLast Go.Proofs.YtgpmmmidplkhnaaW.PrintMore Go.Proofs.YtgpmmmidplkhnaaW.Z
attribute [local go_sem] isS max2_int min2_int max_two min_two max_three min_three max_four min_four
set_option linter.unusedVariables false
set_option linter.unusedSimpArgs false
def laws_heldRing.f (k : Nat) (l0_0 : List (S35)) (a0_1 : Int) (a0_2 : Int) (a0_3 : Int) (a1 : Int) : Option (Int) := (laws_heldItemS.f k l0_0 a1).bind fun t179 => (if t179 < 0 then (some (-1)) else (some t179))
set_option maxHeartbeats 8000000 in
set_option maxRecDepth 100000 in
theorem laws_heldRing.calls (k : Nat) (A0_0 : Option Addr) (c0_0 : Nat) (l0_0 : List (S35)) (a0_1 : Int) (a0_2 : Int) (a0_3 : Int) (a1 : Int) (r : Int) (w : World) (hr0_0 : Kd.C k35 w A0_0 l0_0.length l0_0) (hc0_0 : l0_0.length ≤ c0_0) (h : laws_heldRing.f k l0_0 a0_1 a0_2 a0_3 a1 = some r) :
 Calls Try.prog 21 #[.agg #[.slice A0_0 l0_0.length c0_0, .int .i64 a0_1, .int .i64 a0_2, .int .i64 a0_3], .int .i64 a1] w fun e w' => e = .returned (.int .i64 r) ∧ Below w.heap.size w w' := by
 have hu46 := Try.underlying46;have HR0_0 := Aside0.mk hr0_0;have HC0_0 := Aside0.mk hc0_0;clear hr0_0 hc0_0;have HB := Aside0.mk (Below.refl w.heap.size w)
 have H : ((laws_heldItemS.f k l0_0 a1).bind fun t179 => (if t179 < 0 then (some (-1)) else (some t179))) = some r := h
 clear h;replace H := bE H;obtain ⟨t179, A3, H⟩ := H;by_cases c4 : t179 < 0
 ·rw [if_pos c4] at H;have c4b0 := decide_eq_true c4;clear c4;obtain rfl := Option.some.inj H;go_enter Try.func21, Try.ntmps21
  go_wp2_with (first|((with_reducible refine gN 2 ?_);refine boxZ 2 #[.slice A0_0 l0_0.length c0_0, .int .i64 a0_1, .int .i64 a0_2, .int .i64 a0_3] 46 ?_;intro gb178 hg w5 hbox hb;have BK178 := Aside0.mk (hbox);have GW178 := gS hg;have GE178 := gS hg;replace HB := sB hb;clear hb hbox hg;obtain ⟨hcz6_0, hcz6_1, hcz6_2, hcz6_3, hfz6_0, hfz6_1, hfz6_2, hfz6_3⟩ := cz4 BK178)|((with_reducible refine gF 45 ?_);refine goZ (some 8) Try.func45 #[.slice A0_0 l0_0.length c0_0, .int .i64 a1] ?_;(with_reducible refine (laws_heldItemS.calls k _ _ l0_0 a1 t179 _ ?side1 ?side2 A3.out).mono ?_);(case side1 => exact cC (Kd.C_below HR0_0.out HB.out));(case side2 => exact HC0_0.out);rintro e w' ⟨rfl, ⟨nd, rfl⟩⟩;refine ⟨_, rfl, ?_⟩))
  go_ret;exact ⟨rE, cB⟩
 ·rw [if_neg c4] at H;have c4b0 := decide_eq_false c4;clear c4;obtain rfl := Option.some.inj H;go_enter Try.func21, Try.ntmps21
  go_wp2_with (first|((with_reducible refine gN 2 ?_);refine boxZ 2 #[.slice A0_0 l0_0.length c0_0, .int .i64 a0_1, .int .i64 a0_2, .int .i64 a0_3] 46 ?_;intro gb178 hg w7 hbox hb;have BK178 := Aside0.mk (hbox);have GW178 := gS hg;have GE178 := gS hg;replace HB := sB hb;clear hb hbox hg;obtain ⟨hcz8_0, hcz8_1, hcz8_2, hcz8_3, hfz8_0, hfz8_1, hfz8_2, hfz8_3⟩ := cz4 BK178)|((with_reducible refine gF 45 ?_);refine goZ (some 8) Try.func45 #[.slice A0_0 l0_0.length c0_0, .int .i64 a1] ?_;(with_reducible refine (laws_heldItemS.calls k _ _ l0_0 a1 t179 _ ?side1 ?side2 A3.out).mono ?_);(case side1 => exact cC (Kd.C_below HR0_0.out HB.out));(case side2 => exact HC0_0.out);rintro e w' ⟨rfl, ⟨nd, rfl⟩⟩;refine ⟨_, rfl, ?_⟩))
  go_ret;exact ⟨rE, cB⟩
end Go.Proofs.Ytgpmmmidplkhnaa.PFnExactRefilled
