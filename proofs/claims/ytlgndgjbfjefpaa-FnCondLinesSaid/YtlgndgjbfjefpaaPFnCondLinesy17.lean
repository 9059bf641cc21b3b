import Derived.Test.YtlgndgjbfjefpaaPFnCondLinesy0
import Derived.Test.YtlgndgjbfjefpaaPFnCondLinesy2
import Derived.Test.YtlgndgjbfjefpaaPFnCondLinesy6
import Derived.Test.YtlgndgjbfjefpaaPFnCondLinesy16
namespace Go.Proofs.Ytlgndgjbfjefpaa.PFnCondLines
open Go.RowKit Go.Proofs.YtlgndgjbfjefpaaW.PrintWords Go.Proofs.YtlgndgjbfjefpaaW.PrintLast Go.Proofs.YtlgndgjbfjefpaaW.PrintMore Go.Proofs.YtlgndgjbfjefpaaW.Z
attribute [local go_sem] isS max2_int min2_int max_two min_two max_three min_three max_four min_four
set_option linter.unusedVariables false
set_option linter.unusedSimpArgs false
theorem qh17x0 {P : Prop} (h : P := by exact ⟨(blk_cell BK690.out 0).trans rfl, (blk_cell BK690.out 1).trans rfl, (blk_cell BK690.out 2).trans rfl, (blk_cell BK690.out 3).trans rfl, (blk_cell BK691.out 0).trans rfl, (blk_cell BK691.out 1).trans rfl, (blk_cell BK691.out 2).trans rfl, ((bc HB hw693_0 :)), ((bc HB hw693_1 :)), ((bc HB hw693_2 :)), ((bc HB hw693_3 :)), ((bc HB hw693_4 :)), ((bc HB hw693_5 :))⟩) : P := h
mutual
def spec_RuleHolds.j0 : Nat → Bool → List Int → List (S50) → Int → Int → Int → Int → List (S48) → Option (Bool)
  | 0, _, _, _, _, _, _, _, _ => none
  | k + 1, x17, x691000, x691001, x691002, x691003, x692000, x692001, x692002 => if x17 = true then (some false) else (spec_RuleHolds.l0 k 0 x691000 x691001 x691002 x691003 x692000 x692001 x692002)
def spec_RuleHolds.l0 : Nat → Int → List Int → List (S50) → Int → Int → Int → Int → List (S48) → Option (Bool)
  | 0, _, _, _, _, _, _, _, _ => none
  | k + 1, x5, x691000, x691001, x691002, x691003, x692000, x692001, x692002 => if x5 < (x691001.length : Int) then (if 0 ≤ x5 then ((spec_CondHolds.f k ((rd_T50 x691001 x5).f0) ((rd_T50 x691001 x5).f1.f0) ((rd_T50 x691001 x5).f1.f1) ((rd_T50 x691001 x5).f2) ((rd_T50 x691001 x5).f3.f0) ((rd_T50 x691001 x5).f3.f1) x692000 x692001 x692002).bind fun t694 => (if t694 = true then (spec_RuleHolds.l0 k (wrap64 (x5 + 1)) x691000 x691001 x691002 x691003 x692000 x692001 x692002) else (some false))) else (none)) else (some true)
end
def spec_RuleHolds.f (k : Nat) (l0_0 : List Int) (l0_1 : List (S50)) (a0_2 : Int) (a0_3 : Int) (a1_0 : Int) (a1_1 : Int) (l1_2 : List (S48)) : Option (Bool) := if (l0_0.length : Int) > 0 then ((spec_l09In.f k l0_0 a1_1).bind fun t692 => (spec_RuleHolds.j0 k (!t692) l0_0 l0_1 a0_2 a0_3 a1_0 a1_1 l1_2)) else (spec_RuleHolds.j0 k false l0_0 l0_1 a0_2 a0_3 a1_0 a1_1 l1_2)
def spec_RuleHolds.T6 : Bool × List (List Nat × List Nat) := (true, [([], []), ([0], [0]), ([], []), ([1, 2], [1, 2]), ([3], [3]), ([], []), ([4, 5], [4, 5]), ([6], [6])])
def spec_RuleHolds.B6 : List Nat := [0, 1, 0, 7, 15, 0, 63, 127]
theorem spec_RuleHolds.tab6 : rtab .any (opsOf Try.f73 6) = spec_RuleHolds.T6 := by kernel_rfl
theorem spec_RuleHolds.bits6 : waitsOk spec_RuleHolds.T6.2 spec_RuleHolds.B6 = true := by kernel_rfl
theorem q17x0 {P : Prop} (h : P := by 
 rintro w' ⟨s0, s1, s2, s3, s4, s5, s6, s7, s8, s9, s10, s11, s12⟩
 go_simp
 with_reducible rfl) : P := h
set_option maxHeartbeats 8000000 in
set_option maxRecDepth 100000 in
theorem spec_RuleHolds.calls (k : Nat) (A0_0 : Option Addr) (c0_0 : Nat) (l0_0 : List Int) (A0_1 : Option Addr) (c0_1 : Nat) (l0_1 : List (S50)) (a0_2 : Int) (a0_3 : Int) (a1_0 : Int) (a1_1 : Int) (A1_2 : Option Addr) (c1_2 : Nat) (l1_2 : List (S48)) (r : Bool) (w : World) (hr0_0 : Kd.C (Kd.int .i64) w A0_0 l0_0.length l0_0) (hc0_0 : l0_0.length ≤ c0_0) (hr0_1 : Kd.C k50 w A0_1 l0_1.length l0_1) (hc0_1 : l0_1.length ≤ c0_1) (hr1_2 : Kd.C k48 w A1_2 l1_2.length l1_2) (hc1_2 : l1_2.length ≤ c1_2) (h : spec_RuleHolds.f k l0_0 l0_1 a0_2 a0_3 a1_0 a1_1 l1_2 = some r) :
 Calls Try.prog 73 #[.agg #[.slice A0_0 l0_0.length c0_0, .slice A0_1 l0_1.length c0_1, .int .i64 a0_2, .int .i64 a0_3], .agg #[.int .i64 a1_0, .int .i64 a1_1, .slice A1_2 l1_2.length c1_2]] w fun e w' => e = .returned (.bool r) ∧ Below w.heap.size w w' := by
 have hu61 := Try.underlying61;have hu53 := Try.underlying53;have hu50 := Try.underlying50;have HR0_0 := Aside0.mk hr0_0;have HC0_0 := Aside0.mk hc0_0;clear hr0_0 hc0_0;have HR0_1 := Aside0.mk hr0_1;have HC0_1 := Aside0.mk hc0_1;clear hr0_1 hc0_1;have HR1_2 := Aside0.mk hr1_2;have HC1_2 := Aside0.mk hc1_2;clear hr1_2 hc1_2;have HB := Aside0.mk (Below.refl w.heap.size w)
 have H : (if (l0_0.length : Int) > 0 then ((spec_l09In.f k l0_0 a1_1).bind fun t692 => (spec_RuleHolds.j0 k (!t692) l0_0 l0_1 a0_2 a0_3 a1_0 a1_1 l1_2)) else (spec_RuleHolds.j0 k false l0_0 l0_1 a0_2 a0_3 a1_0 a1_1 l1_2)) = some r := h
 clear h;have HC3 := Aside0.mk H;clear H;go_enter Try.func73, Try.ntmps73
 go_upto_region 1 with (first|((with_reducible refine gN 2 ?_);refine boxZ 2 #[.slice A0_0 l0_0.length c0_0, .slice A0_1 l0_1.length c0_1, .int .i64 a0_2, .int .i64 a0_3] 61 ?_;intro gb690 hg w4 hbox hb;have BK690 := Aside0.mk (hbox);have GW690 := gS hg;have GE690 := gS hg;replace HB := sB hb;clear hb hbox hg)|((with_reducible refine gN 3 ?_);refine boxZ 3 #[.int .i64 a1_0, .int .i64 a1_1, .slice A1_2 l1_2.length c1_2] 53 ?_;intro gb691 hg w5 hbox hb;have BK691 := Aside0.mk (hbox);have GW691 := gS hg;have GE691 := gS hg;replace HB := sB hb;have NB690_691 := nL hg BK690;have NB691_690 := nG hg BK690;replace BK690 := kB BK690 hb;clear hb hbox hg))
 (try simp only [Act.put, List.setIfInBounds_toArray, List.set_cons_zero, List.set_cons_succ])
 go_cut [17] (fun v17 wc => ∃ (kq : Nat) (x17_2 : Bool), v17 = .bool x17_2 ∧ Aside0 (spec_RuleHolds.j0 kq x17_2 l0_0 l0_1 a0_2 a0_3 a1_0 a1_1 l1_2 = some r) ∧ Aside0 (kq ≤ k) ∧ Aside0 (wc.heap[gb690]? = some (.cells #[(.slice A0_0 l0_0.length c0_0), (.slice A0_1 l0_1.length c0_1), .int .i64 a0_2, .int .i64 a0_3] 61 (0, 0))) ∧ Aside0 (wc.heap[gb691]? = some (.cells #[.int .i64 a1_0, .int .i64 a1_1, (.slice A1_2 l1_2.length c1_2)] 53 (0, 0))) ∧ Aside0 (Below w.heap.size w wc))
 case first =>
  have H := HC3.out;clear HC3;by_cases c6 : (l0_0.length : Int) > 0
  ·rw [if_pos c6] at H;have c6b0 : decide (0 < (l0_0.length : Int)) = true := decide_eq_true c6
   have c6b1 : decide (0 < l0_0.length) = true := decide_eq_true (by omega)
   clear c6
   (first | rw [c6b0] | (simp only [i64_w, i32_w]; rw [c6b0]) | skip)
   replace H := bE H;obtain ⟨t692, A7, H⟩ := H;have H' := Aside0.mk H;clear H;have hnb8 := NB690_691.out;have hnc8 := NB691_690.out;obtain ⟨hcz9_0, hcz9_1, hcz9_2, hcz9_3, hfz9_0, hfz9_1, hfz9_2, hfz9_3⟩ := cz4 BK690;obtain ⟨hcz10_0, hcz10_1, hcz10_2, hfz10_0, hfz10_1, hfz10_2⟩ := cz3 BK691
   go_wp2_with (first|(go_at_call 142;(with_reducible refine (spec_l09In.calls k _ _ l0_0 a1_1 t692 _ ?side1 ?side2 A7.out).mono ?_);(case side1 => exact cC (Kd.C_below HR0_0.out HB.out));(case side2 => exact HC0_0.out);rintro e w' ⟨rfl, ⟨nd, rfl⟩⟩))
   go_meet
   case rel => exact ⟨_, (!t692), rS, H', ⟨oL⟩, ⟨mK BK690⟩, ⟨mK BK691⟩, ⟨cB⟩⟩
  ·rw [if_neg c6] at H;have c6b0 : decide (0 < (l0_0.length : Int)) = false := decide_eq_false c6
   have c6b1 : decide (0 < l0_0.length) = false := decide_eq_false (by omega)
   clear c6
   (first | rw [c6b0] | (simp only [i64_w, i32_w]; rw [c6b0]) | skip)
   have H' := Aside0.mk H;clear H;have hnb11 := NB690_691.out;have hnc11 := NB691_690.out;obtain ⟨hcz12_0, hcz12_1, hcz12_2, hcz12_3, hfz12_0, hfz12_1, hfz12_2, hfz12_3⟩ := cz4 BK690;go_wp2;go_meet
   case rel => exact ⟨_, (false), rS, H', ⟨oL⟩, ⟨mK BK690⟩, ⟨mK BK691⟩, ⟨cB⟩⟩
 case rest =>
  clear HC3;(try clear c6);(try clear c6b0);(try clear c6b1);(try clear hcz10_0);(try clear hcz10_1);(try clear hcz10_2);(try clear hcz12_0);(try clear hcz12_1);(try clear hcz12_2);(try clear hcz12_3);(try clear hcz9_0);(try clear hcz9_1);(try clear hcz9_2);(try clear hcz9_3);(try clear hfz10_0);(try clear hfz10_1);(try clear hfz10_2);(try clear hfz12_0);(try clear hfz12_1);(try clear hfz12_2);(try clear hfz12_3);(try clear hfz9_0);(try clear hfz9_1);(try clear hfz9_2);(try clear hfz9_3);obtain ⟨kq, x17_2, rfl, HA, HJ2, BK690, BK691, HB⟩ := hcut
  cases kq with
  | zero => exact absurd HA.out (by simp [spec_RuleHolds.j0])
  | succ kj2 =>
   have H := HA.out;clear HA;simp only [spec_RuleHolds.j0] at H;by_cases c13 : x17_2 = true
   ·subst c13;replace H := iT H;obtain rfl := Option.some.inj H;go_wp2;go_ret;exact ⟨rE, cB⟩
   ·replace c13 := Bool.eq_false_iff.mpr c13;subst c13;replace H := iF H;have H' := Aside0.mk H;clear H;go_wp2
    go_loopg [5] kj2 (fun kq v5 w' => ∃ (x5_2 : Int), v5 = .int .i64 x5_2 ∧ Aside0 (spec_RuleHolds.l0 kq x5_2 l0_0 l0_1 a0_2 a0_3 a1_0 a1_1 l1_2 = some r) ∧ Aside0 (kq ≤ kj2) ∧ Aside0 (w'.heap[gb690]? = some (.cells #[(.slice A0_0 l0_0.length c0_0), (.slice A0_1 l0_1.length c0_1), .int .i64 a0_2, .int .i64 a0_3] 61 (0, 0))) ∧ Aside0 (w'.heap[gb691]? = some (.cells #[.int .i64 a1_0, .int .i64 a1_1, (.slice A1_2 l1_2.length c1_2)] 53 (0, 0))) ∧ Aside0 (Below w.heap.size w w'))
    case atStart => exact ⟨(0), rS, H', ⟨Nat.le_refl _⟩, ⟨mK BK690⟩, ⟨mK BK691⟩, ⟨cB⟩⟩
    case round =>
     clear H';(try clear c6);(try clear c6b0);(try clear c6b1);(try clear c13);(try clear hcz10_0);(try clear hcz10_1);(try clear hcz10_2);(try clear hcz12_0);(try clear hcz12_1);(try clear hcz12_2);(try clear hcz12_3);(try clear hcz9_0);(try clear hcz9_1);(try clear hcz9_2);(try clear hcz9_3);(try clear hfz10_0);(try clear hfz10_1);(try clear hfz10_2);(try clear hfz12_0);(try clear hfz12_1);(try clear hfz12_2);(try clear hfz12_3);(try clear hfz9_0);(try clear hfz9_1);(try clear hfz9_2);(try clear hfz9_3);obtain ⟨x5_2, rfl, HA, HK2, BK690, BK691, HB⟩ := hrel
     cases gk with
     | zero => exact absurd HA.out (by simp [spec_RuleHolds.l0])
     | succ k2 =>
      have H := HA.out;clear HA;simp only [spec_RuleHolds.l0] at H;by_cases c14 : x5_2 < (l0_1.length : Int)
      ·rw [if_pos c14] at H;have c14b0 := decide_eq_true c14;clear c14;replace H := gD H;obtain ⟨c15b0, H⟩ := H;replace H := bE H;obtain ⟨t694, A16, H⟩ := H;by_cases c17 : t694 = true
       ·subst c17;replace H := iT H;have H' := Aside0.mk H;clear H;have hnb18 := NB690_691.out;have hnc18 := NB691_690.out;obtain ⟨hcz19_0, hcz19_1, hcz19_2, hcz19_3, hfz19_0, hfz19_1, hfz19_2, hfz19_3⟩ := cz4 BK690
        try go_wp2
        replace BK690 := Aside0.mk (blk_drew BK690.out);replace BK691 := Aside0.mk (blk_drew BK691.out);replace HB := Aside0.mk (below_drew1 HB.out);have p693 : 0 ≤ (x5_2 : Int) := dA;have q693 : x5_2 < (l0_1.length : Int) := dA;obtain ⟨ad693, e693, hx693_0, hx693_1, hx693_2, hx693_3, hx693_4, hx693_5⟩ := at_T50 HR0_1.out x5_2 p693 q693;have hw693_5 := hx693_5;have hw693_4 := hx693_4;have hw693_3 := hx693_3;have hw693_2 := hx693_2;have hw693_1 := hx693_1;have hw693_0 := hx693_0;cases e693;replace hx693_0 := (bc HB hx693_0 :);replace hx693_1 := (bc HB hx693_1 :);replace hx693_2 := (bc HB hx693_2 :);replace hx693_3 := (bc HB hx693_3 :);replace hx693_4 := (bc HB hx693_4 :);replace hx693_5 := (bc HB hx693_5 :);replace p693 := eq_true p693;replace q693 := eq_true q693
        refine start_ (n := 8) (S := fun w' => w'.cell? ⟨gb690, 0, none⟩ = some (.slice A0_0 l0_0.length c0_0) ∧ w'.cell? ⟨gb690, 1, none⟩ = some (.slice (some ad693) l0_1.length c0_1) ∧ w'.cell? ⟨gb690, 2, none⟩ = some (.int .i64 a0_2) ∧ w'.cell? ⟨gb690, 3, none⟩ = some (.int .i64 a0_3) ∧ w'.cell? ⟨gb691, 0, none⟩ = some (.int .i64 a1_0) ∧ w'.cell? ⟨gb691, 1, none⟩ = some (.int .i64 a1_1) ∧ w'.cell? ⟨gb691, 2, none⟩ = some (.slice A1_2 l1_2.length c1_2) ∧ w'.cell? (ad693.add ((x5_2).toNat * 6)) = some (.int .i64 ((rd_T50 l0_1 x5_2).f0)) ∧ w'.cell? ⟨(ad693.add ((x5_2).toNat * 6)).block, (ad693.add ((x5_2).toNat * 6)).off + 1, none⟩ = some (.int .i64 ((rd_T50 l0_1 x5_2).f1.f0)) ∧ w'.cell? ⟨(ad693.add ((x5_2).toNat * 6)).block, (ad693.add ((x5_2).toNat * 6)).off + 2, none⟩ = some (.int .i64 ((rd_T50 l0_1 x5_2).f1.f1)) ∧ w'.cell? ⟨(ad693.add ((x5_2).toNat * 6)).block, (ad693.add ((x5_2).toNat * 6)).off + 3, none⟩ = some (.int .i64 ((rd_T50 l0_1 x5_2).f2)) ∧ w'.cell? ⟨(ad693.add ((x5_2).toNat * 6)).block, (ad693.add ((x5_2).toNat * 6)).off + 4, none⟩ = some (.int .i64 ((rd_T50 l0_1 x5_2).f3.f0)) ∧ w'.cell? ⟨(ad693.add ((x5_2).toNat * 6)).block, (ad693.add ((x5_2).toNat * 6)).off + 5, none⟩ = some (.int .i64 ((rd_T50 l0_1 x5_2).f3.f1))) (ds := []) #[false, false, false, false, false, false, false, false] (by kernel_rfl) rfl rfl ⟨(blk_cell BK690.out 0).trans rfl, (blk_cell BK690.out 1).trans rfl, (blk_cell BK690.out 2).trans rfl, (blk_cell BK690.out 3).trans rfl, (blk_cell BK691.out 0).trans rfl, (blk_cell BK691.out 1).trans rfl, (blk_cell BK691.out 2).trans rfl, ((bc HB hw693_0 :)), ((bc HB hw693_1 :)), ((bc HB hw693_2 :)), ((bc HB hw693_3 :)), ((bc HB hw693_4 :)), ((bc HB hw693_5 :))⟩ (fun hHeld => ?_); refine with_tabW spec_RuleHolds.tab6 spec_RuleHolds.bits6 (fun HT_ HW_ => ?_)
        generalize wr.drew = w20 at BK690 BK691 HB hx693_0 hx693_1 hx693_2 hx693_3 hx693_4 hx693_5 hHeld ⊢;refine pureZ 0 (some 25) (msk 8 1) HT_.out ?_;refine pureZ 2 (some 27) (msk 8 5) HT_.out ?_;refine takeZ 1 (some 26) (msk 8 7) HT_.out HW_.out hHeld (hy := q17x0) (h := ?_);refine pureZ 3 (some 28) (msk 8 15) HT_.out ?_;refine takeZ 4 (some 29) (msk 8 31) HT_.out HW_.out hHeld (hy := q17x0) (h := ?_);refine takeZ 5 (some 30) (msk 8 63) HT_.out HW_.out hHeld (hy := q17x0) (h := ?_)
        refine one_Z 6 (some 31) (msk 8 127) HT_.out fun K hK => ?_
        refine goes_ Try.func39 (by kernel_rfl) rfl #[.agg #[.int .i64 ((rd_T50 l0_1 x5_2).f0), .int .i64 ((rd_T50 l0_1 x5_2).f1.f0), .int .i64 ((rd_T50 l0_1 x5_2).f1.f1), .int .i64 ((rd_T50 l0_1 x5_2).f2), .int .i64 ((rd_T50 l0_1 x5_2).f3.f0), .int .i64 ((rd_T50 l0_1 x5_2).f3.f1)], .agg #[.int .i64 a1_0, .int .i64 a1_1, .slice A1_2 l1_2.length c1_2]] (by rfl) rfl rfl (by (try simp only [List.map_toArray, List.map_cons, List.map_nil]); first | done | rfl | (simp only [List.length_drop, List.length_take]; rfl)) ?_
        with_reducible refine (spec_CondHolds.calls k2 ((rd_T50 l0_1 x5_2).f0) ((rd_T50 l0_1 x5_2).f1.f0) ((rd_T50 l0_1 x5_2).f1.f1) ((rd_T50 l0_1 x5_2).f2) ((rd_T50 l0_1 x5_2).f3.f0) ((rd_T50 l0_1 x5_2).f3.f1) a1_0 a1_1 _ _ l1_2 true _ ?side1 ?side2 A16.out).mono ?_
        (case side1 => exact cC (Kd.C_below HR1_2.out HB.out))
        (case side2 => exact HC1_2.out)
        rintro e w21 ⟨rfl, hb⟩;refine ⟨_, rfl, ?_⟩;replace BK690 := kB BK690 hb;replace BK691 := kB BK691 hb;replace HB := sB hb;(try clear hb)
        refine hK.out _ _ qh17x0 (fun hHeld => ?_)
        clear hK K;refine normZ (some 31) ?_
        refine pureZ 7 (some 32) (msk 8 255) HT_.out ?_
        refine done_ (done_of HT_.out (by kernel_rfl)) ?_
        try go_wp2
        go_roundg k2
        case measure => have := HJ2.out; have := HK2.out; omega
        case rel => exact ⟨(wrap64 (x5_2 + 1)), rS, H', ⟨by have := HJ2.out; have := HK2.out; omega⟩, ⟨mK BK690⟩, ⟨mK BK691⟩, ⟨cB⟩⟩
       ·replace c17 := Bool.eq_false_iff.mpr c17;subst c17;replace H := iF H;obtain rfl := Option.some.inj H;have hnb22 := NB690_691.out;have hnc22 := NB691_690.out;obtain ⟨hcz23_0, hcz23_1, hcz23_2, hcz23_3, hfz23_0, hfz23_1, hfz23_2, hfz23_3⟩ := cz4 BK690
        try go_wp2
        replace BK690 := Aside0.mk (blk_drew BK690.out);replace BK691 := Aside0.mk (blk_drew BK691.out);replace HB := Aside0.mk (below_drew1 HB.out);have p693 : 0 ≤ (x5_2 : Int) := dA;have q693 : x5_2 < (l0_1.length : Int) := dA;obtain ⟨ad693, e693, hx693_0, hx693_1, hx693_2, hx693_3, hx693_4, hx693_5⟩ := at_T50 HR0_1.out x5_2 p693 q693;have hw693_5 := hx693_5;have hw693_4 := hx693_4;have hw693_3 := hx693_3;have hw693_2 := hx693_2;have hw693_1 := hx693_1;have hw693_0 := hx693_0;cases e693;replace hx693_0 := (bc HB hx693_0 :);replace hx693_1 := (bc HB hx693_1 :);replace hx693_2 := (bc HB hx693_2 :);replace hx693_3 := (bc HB hx693_3 :);replace hx693_4 := (bc HB hx693_4 :);replace hx693_5 := (bc HB hx693_5 :);replace p693 := eq_true p693;replace q693 := eq_true q693
        refine start_ (n := 8) (S := fun w' => w'.cell? ⟨gb690, 0, none⟩ = some (.slice A0_0 l0_0.length c0_0) ∧ w'.cell? ⟨gb690, 1, none⟩ = some (.slice (some ad693) l0_1.length c0_1) ∧ w'.cell? ⟨gb690, 2, none⟩ = some (.int .i64 a0_2) ∧ w'.cell? ⟨gb690, 3, none⟩ = some (.int .i64 a0_3) ∧ w'.cell? ⟨gb691, 0, none⟩ = some (.int .i64 a1_0) ∧ w'.cell? ⟨gb691, 1, none⟩ = some (.int .i64 a1_1) ∧ w'.cell? ⟨gb691, 2, none⟩ = some (.slice A1_2 l1_2.length c1_2) ∧ w'.cell? (ad693.add ((x5_2).toNat * 6)) = some (.int .i64 ((rd_T50 l0_1 x5_2).f0)) ∧ w'.cell? ⟨(ad693.add ((x5_2).toNat * 6)).block, (ad693.add ((x5_2).toNat * 6)).off + 1, none⟩ = some (.int .i64 ((rd_T50 l0_1 x5_2).f1.f0)) ∧ w'.cell? ⟨(ad693.add ((x5_2).toNat * 6)).block, (ad693.add ((x5_2).toNat * 6)).off + 2, none⟩ = some (.int .i64 ((rd_T50 l0_1 x5_2).f1.f1)) ∧ w'.cell? ⟨(ad693.add ((x5_2).toNat * 6)).block, (ad693.add ((x5_2).toNat * 6)).off + 3, none⟩ = some (.int .i64 ((rd_T50 l0_1 x5_2).f2)) ∧ w'.cell? ⟨(ad693.add ((x5_2).toNat * 6)).block, (ad693.add ((x5_2).toNat * 6)).off + 4, none⟩ = some (.int .i64 ((rd_T50 l0_1 x5_2).f3.f0)) ∧ w'.cell? ⟨(ad693.add ((x5_2).toNat * 6)).block, (ad693.add ((x5_2).toNat * 6)).off + 5, none⟩ = some (.int .i64 ((rd_T50 l0_1 x5_2).f3.f1))) (ds := []) #[false, false, false, false, false, false, false, false] (by kernel_rfl) rfl rfl ⟨(blk_cell BK690.out 0).trans rfl, (blk_cell BK690.out 1).trans rfl, (blk_cell BK690.out 2).trans rfl, (blk_cell BK690.out 3).trans rfl, (blk_cell BK691.out 0).trans rfl, (blk_cell BK691.out 1).trans rfl, (blk_cell BK691.out 2).trans rfl, ((bc HB hw693_0 :)), ((bc HB hw693_1 :)), ((bc HB hw693_2 :)), ((bc HB hw693_3 :)), ((bc HB hw693_4 :)), ((bc HB hw693_5 :))⟩ (fun hHeld => ?_); refine with_tabW spec_RuleHolds.tab6 spec_RuleHolds.bits6 (fun HT_ HW_ => ?_)
        generalize wr.drew = w24 at BK690 BK691 HB hx693_0 hx693_1 hx693_2 hx693_3 hx693_4 hx693_5 hHeld ⊢;refine pureZ 0 (some 25) (msk 8 1) HT_.out ?_;refine pureZ 2 (some 27) (msk 8 5) HT_.out ?_;refine takeZ 1 (some 26) (msk 8 7) HT_.out HW_.out hHeld (hy := q17x0) (h := ?_);refine pureZ 3 (some 28) (msk 8 15) HT_.out ?_;refine takeZ 4 (some 29) (msk 8 31) HT_.out HW_.out hHeld (hy := q17x0) (h := ?_);refine takeZ 5 (some 30) (msk 8 63) HT_.out HW_.out hHeld (hy := q17x0) (h := ?_)
        refine one_Z 6 (some 31) (msk 8 127) HT_.out fun K hK => ?_
        refine goes_ Try.func39 (by kernel_rfl) rfl #[.agg #[.int .i64 ((rd_T50 l0_1 x5_2).f0), .int .i64 ((rd_T50 l0_1 x5_2).f1.f0), .int .i64 ((rd_T50 l0_1 x5_2).f1.f1), .int .i64 ((rd_T50 l0_1 x5_2).f2), .int .i64 ((rd_T50 l0_1 x5_2).f3.f0), .int .i64 ((rd_T50 l0_1 x5_2).f3.f1)], .agg #[.int .i64 a1_0, .int .i64 a1_1, .slice A1_2 l1_2.length c1_2]] (by rfl) rfl rfl (by (try simp only [List.map_toArray, List.map_cons, List.map_nil]); first | done | rfl | (simp only [List.length_drop, List.length_take]; rfl)) ?_
        with_reducible refine (spec_CondHolds.calls k2 ((rd_T50 l0_1 x5_2).f0) ((rd_T50 l0_1 x5_2).f1.f0) ((rd_T50 l0_1 x5_2).f1.f1) ((rd_T50 l0_1 x5_2).f2) ((rd_T50 l0_1 x5_2).f3.f0) ((rd_T50 l0_1 x5_2).f3.f1) a1_0 a1_1 _ _ l1_2 false _ ?side1 ?side2 A16.out).mono ?_
        (case side1 => exact cC (Kd.C_below HR1_2.out HB.out))
        (case side2 => exact HC1_2.out)
        rintro e w25 ⟨rfl, hb⟩;refine ⟨_, rfl, ?_⟩;replace BK690 := kB BK690 hb;replace BK691 := kB BK691 hb;replace HB := sB hb;(try clear hb)
        refine hK.out _ _ qh17x0 (fun hHeld => ?_)
        clear hK K;refine normZ (some 31) ?_
        refine pureZ 7 (some 32) (msk 8 255) HT_.out ?_
        refine done_ (done_of HT_.out (by kernel_rfl)) ?_
        try go_wp2
        go_ret;exact ⟨rE, cB⟩
      ·rw [if_neg c14] at H;have c14b0 := decide_eq_false c14;clear c14;obtain rfl := Option.some.inj H;have hnb26 := NB690_691.out;have hnc26 := NB691_690.out;obtain ⟨hcz27_0, hcz27_1, hcz27_2, hcz27_3, hfz27_0, hfz27_1, hfz27_2, hfz27_3⟩ := cz4 BK690;go_wp2;go_ret;exact ⟨rE, cB⟩
def spec_ResultOf.f (a0 : Int) (a1 : Int) : Option (Int) := (spec_l01In.f a0 0 5).bind fun t695 => (if t695 = true then ((spec_l01In.f a1 0 65535).bind fun t696 => (if t696 = true then (some (wrap64 ((wrap64 (65536 * a0)) + a1))) else (some 0))) else (some 0))
set_option maxHeartbeats 8000000 in
set_option maxRecDepth 100000 in
theorem spec_ResultOf.calls (a0 : Int) (a1 : Int) (r : Int) (w : World) (h : spec_ResultOf.f a0 a1 = some r) :
 Calls Try.prog 74 #[.int .i64 a0, .int .i64 a1] w fun e w' => e = .returned (.int .i64 r) ∧ Drawn0 w w' := by
 have H : ((spec_l01In.f a0 0 5).bind fun t695 => (if t695 = true then ((spec_l01In.f a1 0 65535).bind fun t696 => (if t696 = true then (some (wrap64 ((wrap64 (65536 * a0)) + a1))) else (some 0))) else (some 0))) = some r := h
 clear h;replace H := bE H;obtain ⟨t695, A3, H⟩ := H;by_cases c4 : t695 = true
 ·subst c4;replace H := iT H;replace H := bE H;obtain ⟨t696, A5, H⟩ := H;by_cases c6 : t696 = true
  ·subst c6;replace H := iT H;obtain rfl := Option.some.inj H;go_enter Try.func74, Try.ntmps74
   go_wp2_with (first|((with_reducible refine gF 100 ?_);refine goZ (some 6) Try.func100 #[.int .i64 a0, .int .i64 0, .int .i64 5] ?_;(with_reducible refine (spec_l01In.calls a0 0 5 true _ A3.out).mono ?_);rintro e w' ⟨rfl, ⟨nd, rfl⟩⟩;refine ⟨_, rfl, ?_⟩)|(go_at_call 100;(with_reducible refine (spec_l01In.calls a1 0 65535 true _ A5.out).mono ?_);rintro e w' ⟨rfl, ⟨nd, rfl⟩⟩))
   go_ret
   exact ⟨by first | rfl | (simp; done) | (simp [*]; done), by repeat (first | exact Drawn0.refl _ | apply Drawn0.step)⟩
  ·replace c6 := Bool.eq_false_iff.mpr c6;subst c6;replace H := iF H;obtain rfl := Option.some.inj H;go_enter Try.func74, Try.ntmps74
   go_wp2_with (first|((with_reducible refine gF 100 ?_);refine goZ (some 6) Try.func100 #[.int .i64 a0, .int .i64 0, .int .i64 5] ?_;(with_reducible refine (spec_l01In.calls a0 0 5 true _ A3.out).mono ?_);rintro e w' ⟨rfl, ⟨nd, rfl⟩⟩;refine ⟨_, rfl, ?_⟩)|(go_at_call 100;(with_reducible refine (spec_l01In.calls a1 0 65535 false _ A5.out).mono ?_);rintro e w' ⟨rfl, ⟨nd, rfl⟩⟩))
   go_ret
   exact ⟨by first | rfl | (simp; done) | (simp [*]; done), by repeat (first | exact Drawn0.refl _ | apply Drawn0.step)⟩
 ·replace c4 := Bool.eq_false_iff.mpr c4;subst c4;replace H := iF H;obtain rfl := Option.some.inj H;go_enter Try.func74, Try.ntmps74
  go_wp2_with (first|((with_reducible refine gF 100 ?_);refine goZ (some 6) Try.func100 #[.int .i64 a0, .int .i64 0, .int .i64 5] ?_;(with_reducible refine (spec_l01In.calls a0 0 5 false _ A3.out).mono ?_);rintro e w' ⟨rfl, ⟨nd, rfl⟩⟩;refine ⟨_, rfl, ?_⟩))
  go_ret
  exact ⟨by first | rfl | (simp; done) | (simp [*]; done), by repeat (first | exact Drawn0.refl _ | apply Drawn0.step)⟩
end Go.Proofs.Ytlgndgjbfjefpaa.PFnCondLines
