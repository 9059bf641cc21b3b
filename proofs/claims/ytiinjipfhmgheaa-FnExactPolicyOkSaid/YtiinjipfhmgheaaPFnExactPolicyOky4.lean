import Derived.Test.YtiinjipfhmgheaaPFnExactPolicyOky0
import Derived.Test.YtiinjipfhmgheaaPFnExactPolicyOky3
namespace Go.Proofs.Ytiinjipfhmgheaa.PFnExactPolicyOk
open Go.RowKit Go.Proofs.YtiinjipfhmgheaaW.PrintWords Go.Proofs.YtiinjipfhmgheaaW.PrintLast Go.Proofs.YtiinjipfhmgheaaW.PrintMore Go.Proofs.YtiinjipfhmgheaaW.Z
attribute [local go_sem] max2_int min2_int max_two min_two max_three min_three max_four min_four
set_option linter.unusedVariables false
set_option linter.unusedSimpArgs false
mutual
def impl_ruleOk.l0 : Nat → List Int → Int → Int → List Int → List (S40) → Int → Int → Option (Bool)
  | 0, _, _, _, _, _, _, _ => none
  | k + 1, x8, x9, x10, x198000, x198001, x198002, x198003 => if x10 < x9 then (if 0 ≤ x10 then (if x10 < (x8.length : Int) then ((impl_HalfOk.f (rd x8 x10)).bind fun t199 => (if t199 = true then (if x10 > 0 then (if 0 ≤ (wrap64 (x10 - 1)) then (if (wrap64 (x10 - 1)) < (x198000.length : Int) then (if (rd x198000 (wrap64 (x10 - 1))) ≥ (rd x8 x10) then (some false) else (impl_ruleOk.l0 k x8 x9 (wrap64 (x10 + 1)) x198000 x198001 x198002 x198003)) else (none)) else (none)) else (impl_ruleOk.l0 k x8 x9 (wrap64 (x10 + 1)) x198000 x198001 x198002 x198003)) else (some false))) else (none)) else (none)) else (impl_ruleOk.l1 k x198001 (x198001.length : Int) 0 x198000 x198001 x198002 x198003)
def impl_ruleOk.l1 : Nat → List (S40) → Int → Int → List Int → List (S40) → Int → Int → Option (Bool)
  | 0, _, _, _, _, _, _, _ => none
  | k + 1, x34, x35, x36, x198000, x198001, x198002, x198003 => if x36 < x35 then (if 0 ≤ x36 then (if x36 < (x34.length : Int) then ((impl_CondOk.f ((rd_T40 x34 x36).f0) ((rd_T40 x34 x36).f1.f0) ((rd_T40 x34 x36).f1.f1) ((rd_T40 x34 x36).f2) ((rd_T40 x34 x36).f3.f0) ((rd_T40 x34 x36).f3.f1)).bind fun t203 => (if t203 = true then (impl_ruleOk.l1 k x34 x35 (wrap64 (x36 + 1)) x198000 x198001 x198002 x198003) else (some false))) else (none)) else (none)) else (if (x198000.length : Int) ≤ 4 then (if (x198001.length : Int) ≤ 3 then ((impl_actionOk.f x198002 x198003).bind fun t204 => (some t204)) else (some false)) else (some false))
end
def impl_ruleOk.f (k : Nat) (l0_0 : List Int) (l0_1 : List (S40)) (a0_2 : Int) (a0_3 : Int) : Option (Bool) := impl_ruleOk.l0 k l0_0 (l0_0.length : Int) 0 l0_0 l0_1 a0_2 a0_3
set_option maxHeartbeats 8000000 in
set_option maxRecDepth 100000 in
theorem impl_ruleOk.calls (k : Nat) (A0_0 : Option Addr) (c0_0 : Nat) (l0_0 : List Int) (A0_1 : Option Addr) (c0_1 : Nat) (l0_1 : List (S40)) (a0_2 : Int) (a0_3 : Int) (r : Bool) (w : World) (hr0_0 : Kd.C (Kd.int .i64) w A0_0 l0_0.length l0_0) (hc0_0 : l0_0.length ≤ c0_0) (hr0_1 : Kd.C k40 w A0_1 l0_1.length l0_1) (hc0_1 : l0_1.length ≤ c0_1) (h : impl_ruleOk.f k l0_0 l0_1 a0_2 a0_3 = some r) :
 Calls Try.prog 113 #[.agg #[.slice A0_0 l0_0.length c0_0, .slice A0_1 l0_1.length c0_1, .int .i64 a0_2, .int .i64 a0_3]] w fun e w' => e = .returned (.bool r) ∧ Below w.heap.size w w' := by
 have hu102 := Try.underlying102;have hu40 := Try.underlying40;have HR0_0 := Aside0.mk hr0_0;have HC0_0 := Aside0.mk hc0_0;clear hr0_0 hc0_0;have HR0_1 := Aside0.mk hr0_1;have HC0_1 := Aside0.mk hc0_1;clear hr0_1 hc0_1;have HB := Aside0.mk (Below.refl w.heap.size w);have H : (impl_ruleOk.l0 k l0_0 (l0_0.length : Int) 0 l0_0 l0_1 a0_2 a0_3) = some r := h;clear h;have H' := Aside0.mk H;clear H;go_enter Try.func113, Try.ntmps113
 go_wp2_with (first|((with_reducible refine gN 1 ?_);(try (refine gate_guard (by rfl) ?_; dsimp only));refine boxZ 1 #[.slice A0_0 l0_0.length c0_0, .slice A0_1 l0_1.length c0_1, .int .i64 a0_2, .int .i64 a0_3] 102 ?_;intro gb197 hg w2 hbox hb;have BK197 := Aside0.mk (hbox);have GW197 := gS hg;have GE197 := gS hg;replace HB := sB hb;clear hb hbox hg;obtain ⟨hcz3_0, hcz3_1, hcz3_2, hcz3_3, hfz3_0, hfz3_1, hfz3_2, hfz3_3⟩ := cz4 BK197))
 go_loopg [10] k (fun kq v10 w' => ∃ (x10_1 : Int), v10 = .int .i64 x10_1 ∧ Aside0 (impl_ruleOk.l0 kq l0_0 (l0_0.length : Int) x10_1 l0_0 l0_1 a0_2 a0_3 = some r) ∧ Aside0 (kq ≤ k) ∧ Aside0 (w'.heap[gb197]? = some (.cells #[(.slice A0_0 l0_0.length c0_0), (.slice A0_1 l0_1.length c0_1), .int .i64 a0_2, .int .i64 a0_3] 102 (0, 0))) ∧ Aside0 (Below w.heap.size w w'))
 case atStart => exact ⟨(0), rS, H', ⟨Nat.le_refl _⟩, ⟨mK BK197⟩, ⟨cB⟩⟩
 case round =>
  clear H';(try clear hcz3_0);(try clear hcz3_1);(try clear hcz3_2);(try clear hcz3_3);(try clear hfz3_0);(try clear hfz3_1);(try clear hfz3_2);(try clear hfz3_3);obtain ⟨x10_1, rfl, HA, HK1, BK197, HB⟩ := hrel
  cases gk with
  | zero => exact absurd HA.out (by simp [impl_ruleOk.l0])
  | succ k1 =>
   have H := HA.out;clear HA;simp only [impl_ruleOk.l0] at H;by_cases c4 : x10_1 < (l0_0.length : Int)
   ·rw [if_pos c4] at H;have c4b0 := decide_eq_true c4;clear c4;replace H := gD H;obtain ⟨c5b0, H⟩ := H;replace H := gD H;obtain ⟨c6b0, H⟩ := H;replace H := bE H;obtain ⟨t199, A7, H⟩ := H;by_cases c8 : t199 = true
    ·subst c8;replace H := iT H;by_cases c9 : x10_1 > 0
     ·rw [if_pos c9] at H;have c9b0 : decide (0 < x10_1) = true := decide_eq_true c9;clear c9;obtain ⟨ji10, hji10⟩ : ∃ j_ : Int, (wrap64 (x10_1 - 1)) = j_ := ⟨_, rfl⟩
      (first|rw [hji10] at H|simp only [hji10] at H)
      (try rw [hji10] at A7);have hji10w : (IntKind.i64.wrap (x10_1 - 1)) = ji10 := (i64_w _).trans hji10;replace H := gD H;obtain ⟨c11b0, H⟩ := H;replace H := gD H;obtain ⟨c12b0, H⟩ := H;by_cases c13 : (rd l0_0 (ji10)) ≥ (rd l0_0 x10_1)
      ·rw [if_pos c13] at H;have c13b0 : decide ((rd l0_0 x10_1) ≤ (rd l0_0 (ji10))) = true := decide_eq_true c13;clear c13;obtain rfl := Option.some.inj H;have p198 : 0 ≤ (x10_1 : Int) := dA;have q198 : x10_1 < (l0_0.length : Int) := dA;obtain ⟨ad198, e198, hx198_0⟩ := Kd.at_int HR0_0.out x10_1 p198 q198;cases e198;replace hx198_0 := bc HB hx198_0;replace p198 := eq_true p198;replace q198 := eq_true q198
       go_wp2_with (first|((with_reducible refine gF 105 ?_);refine goZ (some 16) Try.func105 #[.int .i64 (rd l0_0 x10_1)] ?_;(with_reducible refine (impl_HalfOk.calls (rd l0_0 x10_1) true _ A7.out).mono ?_);rintro e w' ⟨rfl, ⟨nd, rfl⟩⟩;refine ⟨_, rfl, ?_⟩;obtain ⟨hcz14_0, hcz14_1, hcz14_2, hcz14_3, hfz14_0, hfz14_1, hfz14_2, hfz14_3⟩ := cz4 BK197;have p200 : 0 ≤ ((ji10) : Int) := dA;have q200 : (ji10) < (l0_0.length : Int) := dA;obtain ⟨ad200, e200, hx200_0⟩ := Kd.at_int HR0_0.out (ji10) p200 q200;obtain rfl : ad198 = ad200 := (by injection e200);replace hx200_0 := bc HB hx200_0;replace p200 := eq_true p200;replace q200 := eq_true q200))
       go_ret
       exact ⟨by first | rfl | (simp [errW_none, errW_some] <;> rfl) | (simp only [← hji10]; first | rfl | (simp [errW_none, errW_some] <;> rfl)) | (simp [*, errW_none, errW_some] <;> rfl), cB⟩
      ·rw [if_neg c13] at H;have c13b0 : decide ((rd l0_0 x10_1) ≤ (rd l0_0 (ji10))) = false := decide_eq_false c13;clear c13;have H' := Aside0.mk H;clear H;have p198 : 0 ≤ (x10_1 : Int) := dA;have q198 : x10_1 < (l0_0.length : Int) := dA;obtain ⟨ad198, e198, hx198_0⟩ := Kd.at_int HR0_0.out x10_1 p198 q198;cases e198;replace hx198_0 := bc HB hx198_0;replace p198 := eq_true p198;replace q198 := eq_true q198
       go_wp2_with (first|((with_reducible refine gF 105 ?_);refine goZ (some 16) Try.func105 #[.int .i64 (rd l0_0 x10_1)] ?_;(with_reducible refine (impl_HalfOk.calls (rd l0_0 x10_1) true _ A7.out).mono ?_);rintro e w' ⟨rfl, ⟨nd, rfl⟩⟩;refine ⟨_, rfl, ?_⟩;obtain ⟨hcz15_0, hcz15_1, hcz15_2, hcz15_3, hfz15_0, hfz15_1, hfz15_2, hfz15_3⟩ := cz4 BK197;have p200 : 0 ≤ ((ji10) : Int) := dA;have q200 : (ji10) < (l0_0.length : Int) := dA;obtain ⟨ad200, e200, hx200_0⟩ := Kd.at_int HR0_0.out (ji10) p200 q200;obtain rfl : ad198 = ad200 := (by injection e200);replace hx200_0 := bc HB hx200_0;replace p200 := eq_true p200;replace q200 := eq_true q200))
       go_roundg k1
       case measure => have := HK1.out; omega
       case rel => exact ⟨(wrap64 (x10_1 + 1)), rS, H', ⟨by have := HK1.out; omega⟩, ⟨mK BK197⟩, ⟨cB⟩⟩
     ·rw [if_neg c9] at H;have c9b0 : decide (0 < x10_1) = false := decide_eq_false c9;clear c9;have H' := Aside0.mk H;clear H;have p198 : 0 ≤ (x10_1 : Int) := dA;have q198 : x10_1 < (l0_0.length : Int) := dA;obtain ⟨ad198, e198, hx198_0⟩ := Kd.at_int HR0_0.out x10_1 p198 q198;cases e198;replace hx198_0 := bc HB hx198_0;replace p198 := eq_true p198;replace q198 := eq_true q198
      go_wp2_with (first|((with_reducible refine gF 105 ?_);refine goZ (some 16) Try.func105 #[.int .i64 (rd l0_0 x10_1)] ?_;(with_reducible refine (impl_HalfOk.calls (rd l0_0 x10_1) true _ A7.out).mono ?_);rintro e w' ⟨rfl, ⟨nd, rfl⟩⟩;refine ⟨_, rfl, ?_⟩))
      go_roundg k1
      case measure => have := HK1.out; omega
      case rel => exact ⟨(wrap64 (x10_1 + 1)), rS, H', ⟨by have := HK1.out; omega⟩, ⟨mK BK197⟩, ⟨cB⟩⟩
    ·replace c8 := Bool.eq_false_iff.mpr c8;subst c8;replace H := iF H;obtain rfl := Option.some.inj H;have p198 : 0 ≤ (x10_1 : Int) := dA;have q198 : x10_1 < (l0_0.length : Int) := dA;obtain ⟨ad198, e198, hx198_0⟩ := Kd.at_int HR0_0.out x10_1 p198 q198;cases e198;replace hx198_0 := bc HB hx198_0;replace p198 := eq_true p198;replace q198 := eq_true q198
     go_wp2_with (first|((with_reducible refine gF 105 ?_);refine goZ (some 16) Try.func105 #[.int .i64 (rd l0_0 x10_1)] ?_;(with_reducible refine (impl_HalfOk.calls (rd l0_0 x10_1) false _ A7.out).mono ?_);rintro e w' ⟨rfl, ⟨nd, rfl⟩⟩;refine ⟨_, rfl, ?_⟩))
     go_ret;exact ⟨rE, cB⟩
   ·rw [if_neg c4] at H;have c4b0 := decide_eq_false c4;clear c4;have H' := Aside0.mk H;clear H;obtain ⟨hcz16_0, hcz16_1, hcz16_2, hcz16_3, hfz16_0, hfz16_1, hfz16_2, hfz16_3⟩ := cz4 BK197;go_wp2
    go_loopg [36] k1 (fun kq v36 w' => ∃ (x36_2 : Int), v36 = .int .i64 x36_2 ∧ Aside0 (impl_ruleOk.l1 kq l0_1 (l0_1.length : Int) x36_2 l0_0 l0_1 a0_2 a0_3 = some r) ∧ Aside0 (kq ≤ k1) ∧ Aside0 (w'.heap[gb197]? = some (.cells #[(.slice A0_0 l0_0.length c0_0), (.slice A0_1 l0_1.length c0_1), .int .i64 a0_2, .int .i64 a0_3] 102 (0, 0))) ∧ Aside0 (Below w.heap.size w w'))
    case atStart => exact ⟨(0), rS, H', ⟨Nat.le_refl _⟩, ⟨mK BK197⟩, ⟨cB⟩⟩
    case round =>
     clear H';(try clear c4);(try clear c4b0);(try clear c5);(try clear c5b0);(try clear c6);(try clear c6b0);(try clear c8);(try clear c9);(try clear c9b0);(try clear c11);(try clear c11b0);(try clear c12);(try clear c12b0);(try clear c13);(try clear c13b0);(try clear hcz14_0);(try clear hcz14_1);(try clear hcz14_2);(try clear hcz14_3);(try clear hcz15_0);(try clear hcz15_1);(try clear hcz15_2);(try clear hcz15_3);(try clear hcz16_0);(try clear hcz16_1);(try clear hcz16_2);(try clear hcz16_3);(try clear hcz3_0);(try clear hcz3_1);(try clear hcz3_2);(try clear hcz3_3);(try clear hfz14_0);(try clear hfz14_1);(try clear hfz14_2);(try clear hfz14_3);(try clear hfz15_0);(try clear hfz15_1);(try clear hfz15_2);(try clear hfz15_3);(try clear hfz16_0);(try clear hfz16_1);(try clear hfz16_2);(try clear hfz16_3);(try clear hfz3_0);(try clear hfz3_1);(try clear hfz3_2);(try clear hfz3_3);(try clear hx198_0);(try clear hx200_0);(try clear p198);(try clear p200);(try clear q198);(try clear q200);obtain ⟨x36_2, rfl, HA, HK2, BK197, HB⟩ := hrel
     cases gk with
     | zero => exact absurd HA.out (by simp [impl_ruleOk.l1])
     | succ k2 =>
      have H := HA.out;clear HA;simp only [impl_ruleOk.l1] at H;by_cases c17 : x36_2 < (l0_1.length : Int)
      ·rw [if_pos c17] at H;have c17b0 := decide_eq_true c17;clear c17;replace H := gD H;obtain ⟨c18b0, H⟩ := H;replace H := gD H;obtain ⟨c19b0, H⟩ := H;replace H := bE H;obtain ⟨t203, A20, H⟩ := H;by_cases c21 : t203 = true
       ·subst c21;replace H := iT H;have H' := Aside0.mk H;clear H;have p201 : 0 ≤ (x36_2 : Int) := dA;have q201 : x36_2 < (l0_1.length : Int) := dA;obtain ⟨ad201, e201, hx201_0, hx201_1, hx201_2, hx201_3, hx201_4, hx201_5⟩ := at_T40 HR0_1.out x36_2 p201 q201;cases e201;replace hx201_0 := bc HB hx201_0;replace hx201_1 := bc HB hx201_1;replace hx201_2 := bc HB hx201_2;replace hx201_3 := bc HB hx201_3;replace hx201_4 := bc HB hx201_4;replace hx201_5 := bc HB hx201_5;replace p201 := eq_true p201;replace q201 := eq_true q201
        go_wp2_with (first|((with_reducible refine gN 6 ?_);(try (refine gate_guard (by rfl) ?_; dsimp only));refine boxZ 6 #[.int .i64 0, .int .i64 0, .int .i64 0, .int .i64 0, .int .i64 0, .int .i64 0] 40 ?_;intro gb202 hg w22 hbox hb;have BK202 := Aside0.mk (hbox);have GW202 := gS hg;have GE202 := gS hg;replace HB := sB hb;have NB197_202 := nL hg BK197;have NB202_197 := nG hg BK197;replace BK197 := kB BK197 hb;clear hb hbox hg;have hnb23 := NB202_197.out;have hnc23 := NB197_202.out;obtain ⟨hcz24_0, hcz24_1, hcz24_2, hcz24_3, hcz24_4, hcz24_5, hfz24_0, hfz24_1, hfz24_2, hfz24_3, hfz24_4, hfz24_5⟩ := cz6 BK202)|((with_reducible refine gF 78 ?_);refine goZ (some 41) Try.func78 #[.agg #[.int .i64 ((rd_T40 l0_1 x36_2).f0), .int .i64 ((rd_T40 l0_1 x36_2).f1.f0), .int .i64 ((rd_T40 l0_1 x36_2).f1.f1), .int .i64 ((rd_T40 l0_1 x36_2).f2), .int .i64 ((rd_T40 l0_1 x36_2).f3.f0), .int .i64 ((rd_T40 l0_1 x36_2).f3.f1)]] ?_;(with_reducible refine (impl_CondOk.calls ((rd_T40 l0_1 x36_2).f0) ((rd_T40 l0_1 x36_2).f1.f0) ((rd_T40 l0_1 x36_2).f1.f1) ((rd_T40 l0_1 x36_2).f2) ((rd_T40 l0_1 x36_2).f3.f0) ((rd_T40 l0_1 x36_2).f3.f1) true _ A20.out).mono ?_);rintro e w25 ⟨rfl, hb⟩;refine ⟨_, rfl, ?_⟩;replace BK197 := kB BK197 hb;replace BK202 := kP BK202 hb (.cells #[.int .i64 ((rd_T40 l0_1 x36_2).f0), .int .i64 ((rd_T40 l0_1 x36_2).f1.f0), .int .i64 ((rd_T40 l0_1 x36_2).f1.f1), .int .i64 ((rd_T40 l0_1 x36_2).f2), .int .i64 ((rd_T40 l0_1 x36_2).f3.f0), .int .i64 ((rd_T40 l0_1 x36_2).f3.f1)] 40 (0, 0));replace HB := sB hb;(try clear hb)))
        go_roundg k2
        case measure => have := HK1.out; have := HK2.out; omega
        case rel => exact ⟨(wrap64 (x36_2 + 1)), rS, H', ⟨by have := HK1.out; have := HK2.out; omega⟩, ⟨mK BK197⟩, ⟨cB⟩⟩
       ·replace c21 := Bool.eq_false_iff.mpr c21;subst c21;replace H := iF H;obtain rfl := Option.some.inj H;have p201 : 0 ≤ (x36_2 : Int) := dA;have q201 : x36_2 < (l0_1.length : Int) := dA;obtain ⟨ad201, e201, hx201_0, hx201_1, hx201_2, hx201_3, hx201_4, hx201_5⟩ := at_T40 HR0_1.out x36_2 p201 q201;cases e201;replace hx201_0 := bc HB hx201_0;replace hx201_1 := bc HB hx201_1;replace hx201_2 := bc HB hx201_2;replace hx201_3 := bc HB hx201_3;replace hx201_4 := bc HB hx201_4;replace hx201_5 := bc HB hx201_5;replace p201 := eq_true p201;replace q201 := eq_true q201
        go_wp2_with (first|((with_reducible refine gN 6 ?_);(try (refine gate_guard (by rfl) ?_; dsimp only));refine boxZ 6 #[.int .i64 0, .int .i64 0, .int .i64 0, .int .i64 0, .int .i64 0, .int .i64 0] 40 ?_;intro gb202 hg w26 hbox hb;have BK202 := Aside0.mk (hbox);have GW202 := gS hg;have GE202 := gS hg;replace HB := sB hb;have NB197_202 := nL hg BK197;have NB202_197 := nG hg BK197;replace BK197 := kB BK197 hb;clear hb hbox hg;have hnb27 := NB202_197.out;have hnc27 := NB197_202.out;obtain ⟨hcz28_0, hcz28_1, hcz28_2, hcz28_3, hcz28_4, hcz28_5, hfz28_0, hfz28_1, hfz28_2, hfz28_3, hfz28_4, hfz28_5⟩ := cz6 BK202)|((with_reducible refine gF 78 ?_);refine goZ (some 41) Try.func78 #[.agg #[.int .i64 ((rd_T40 l0_1 x36_2).f0), .int .i64 ((rd_T40 l0_1 x36_2).f1.f0), .int .i64 ((rd_T40 l0_1 x36_2).f1.f1), .int .i64 ((rd_T40 l0_1 x36_2).f2), .int .i64 ((rd_T40 l0_1 x36_2).f3.f0), .int .i64 ((rd_T40 l0_1 x36_2).f3.f1)]] ?_;(with_reducible refine (impl_CondOk.calls ((rd_T40 l0_1 x36_2).f0) ((rd_T40 l0_1 x36_2).f1.f0) ((rd_T40 l0_1 x36_2).f1.f1) ((rd_T40 l0_1 x36_2).f2) ((rd_T40 l0_1 x36_2).f3.f0) ((rd_T40 l0_1 x36_2).f3.f1) false _ A20.out).mono ?_);rintro e w29 ⟨rfl, hb⟩;refine ⟨_, rfl, ?_⟩;replace BK197 := kB BK197 hb;replace BK202 := kP BK202 hb (.cells #[.int .i64 ((rd_T40 l0_1 x36_2).f0), .int .i64 ((rd_T40 l0_1 x36_2).f1.f0), .int .i64 ((rd_T40 l0_1 x36_2).f1.f1), .int .i64 ((rd_T40 l0_1 x36_2).f2), .int .i64 ((rd_T40 l0_1 x36_2).f3.f0), .int .i64 ((rd_T40 l0_1 x36_2).f3.f1)] 40 (0, 0));replace HB := sB hb;(try clear hb)))
        go_ret;exact ⟨rE, cB⟩
      ·rw [if_neg c17] at H;have c17b0 := decide_eq_false c17;clear c17;by_cases c30 : (l0_0.length : Int) ≤ 4
       ·rw [if_pos c30] at H;have c30b0 := decide_eq_true c30
        have c30b1 : decide (l0_0.length ≤ 4) = true := decide_eq_true (by omega)
        clear c30;by_cases c31 : (l0_1.length : Int) ≤ 3
        ·rw [if_pos c31] at H;have c31b0 := decide_eq_true c31
         have c31b1 : decide (l0_1.length ≤ 3) = true := decide_eq_true (by omega)
         clear c31;replace H := bE H;obtain ⟨t204, A32, H⟩ := H;obtain rfl := Option.some.inj H;obtain ⟨hcz33_0, hcz33_1, hcz33_2, hcz33_3, hfz33_0, hfz33_1, hfz33_2, hfz33_3⟩ := cz4 BK197
         go_wp2_with (first|(go_at_call 114;(with_reducible refine (impl_actionOk.calls a0_2 a0_3 t204 _ A32.out).mono ?_);rintro e w' ⟨rfl, ⟨nd, rfl⟩⟩))
         go_ret;exact ⟨rE, cB⟩
        ·rw [if_neg c31] at H;have c31b0 := decide_eq_false c31
         have c31b1 : decide (l0_1.length ≤ 3) = false := decide_eq_false (by omega)
         clear c31;obtain rfl := Option.some.inj H;obtain ⟨hcz34_0, hcz34_1, hcz34_2, hcz34_3, hfz34_0, hfz34_1, hfz34_2, hfz34_3⟩ := cz4 BK197;go_wp2;go_ret;exact ⟨rE, cB⟩
       ·rw [if_neg c30] at H;have c30b0 := decide_eq_false c30
        have c30b1 : decide (l0_0.length ≤ 4) = false := decide_eq_false (by omega)
        clear c30;obtain rfl := Option.some.inj H;obtain ⟨hcz35_0, hcz35_1, hcz35_2, hcz35_3, hfz35_0, hfz35_1, hfz35_2, hfz35_3⟩ := cz4 BK197;go_wp2;go_ret;exact ⟨rE, cB⟩
def impl_PolicyOk.l0 : Nat → List (S102) → Int → Int → Int → Int → Int → List (S102) → Option (Bool)
  | 0, _, _, _, _, _, _, _ => none
  | k + 1, x6, x7, x8, x206000, x206001, x206002, x206003 => if x8 < x7 then (if 0 ≤ x8 then (if x8 < (x6.length : Int) then ((impl_ruleOk.f k ((rd_T102 x6 x8).f0) ((rd_T102 x6 x8).f1) ((rd_T102 x6 x8).f2) ((rd_T102 x6 x8).f3)).bind fun t208 => (if t208 = true then (impl_PolicyOk.l0 k x6 x7 (wrap64 (x8 + 1)) x206000 x206001 x206002 x206003) else (some false))) else (none)) else (none)) else ((impl_HalfOk.f x206000).bind fun t209 => (if t209 = true then ((impl_actionOk.f x206001 x206002).bind fun t210 => (if t210 = true then (some (decide ((x206003.length : Int) ≤ 10))) else (some false))) else (some false)))
def impl_PolicyOk.f (k : Nat) (a0_0 : Int) (a0_1 : Int) (a0_2 : Int) (l0_3 : List (S102)) : Option (Bool) := impl_PolicyOk.l0 k l0_3 (l0_3.length : Int) 0 a0_0 a0_1 a0_2 l0_3
set_option maxHeartbeats 8000000 in
set_option maxRecDepth 100000 in
theorem impl_PolicyOk.calls (k : Nat) (a0_0 : Int) (a0_1 : Int) (a0_2 : Int) (A0_3 : Option Addr) (c0_3 : Nat) (l0_3 : List (S102)) (r : Bool) (w : World) (hr0_3 : Kd.C k102 w A0_3 l0_3.length l0_3) (hc0_3 : l0_3.length ≤ c0_3) (h : impl_PolicyOk.f k a0_0 a0_1 a0_2 l0_3 = some r) :
 Calls Try.prog 52 #[.agg #[.int .i64 a0_0, .int .i64 a0_1, .int .i64 a0_2, .slice A0_3 l0_3.length c0_3]] w fun e w' => e = .returned (.bool r) ∧ Below w.heap.size w w' := by
 have hu86 := Try.underlying86;have hu102 := Try.underlying102;have HR0_3 := Aside0.mk hr0_3;have HC0_3 := Aside0.mk hc0_3;clear hr0_3 hc0_3;have HB := Aside0.mk (Below.refl w.heap.size w);have H : (impl_PolicyOk.l0 k l0_3 (l0_3.length : Int) 0 a0_0 a0_1 a0_2 l0_3) = some r := h;clear h;have H' := Aside0.mk H;clear H;go_enter Try.func52, Try.ntmps52
 go_wp2_with (first|((with_reducible refine gN 1 ?_);(try (refine gate_guard (by rfl) ?_; dsimp only));refine boxZ 1 #[.int .i64 a0_0, .int .i64 a0_1, .int .i64 a0_2, .slice A0_3 l0_3.length c0_3] 86 ?_;intro gb205 hg w2 hbox hb;have BK205 := Aside0.mk (hbox);have GW205 := gS hg;have GE205 := gS hg;replace HB := sB hb;clear hb hbox hg;obtain ⟨hcz3_0, hcz3_1, hcz3_2, hcz3_3, hfz3_0, hfz3_1, hfz3_2, hfz3_3⟩ := cz4 BK205))
 go_loopg [8] k (fun kq v8 w' => ∃ (x8_1 : Int), v8 = .int .i64 x8_1 ∧ Aside0 (impl_PolicyOk.l0 kq l0_3 (l0_3.length : Int) x8_1 a0_0 a0_1 a0_2 l0_3 = some r) ∧ Aside0 (kq ≤ k) ∧ Aside0 (w'.heap[gb205]? = some (.cells #[.int .i64 a0_0, .int .i64 a0_1, .int .i64 a0_2, (.slice A0_3 l0_3.length c0_3)] 86 (0, 0))) ∧ Aside0 (Below w.heap.size w w'))
 case atStart => exact ⟨(0), rS, H', ⟨Nat.le_refl _⟩, ⟨mK BK205⟩, ⟨cB⟩⟩
 case round =>
  clear H';(try clear hcz3_0);(try clear hcz3_1);(try clear hcz3_2);(try clear hcz3_3);(try clear hfz3_0);(try clear hfz3_1);(try clear hfz3_2);(try clear hfz3_3);obtain ⟨x8_1, rfl, HA, HK1, BK205, HB⟩ := hrel
  cases gk with
  | zero => exact absurd HA.out (by simp [impl_PolicyOk.l0])
  | succ k1 =>
   have H := HA.out;clear HA;simp only [impl_PolicyOk.l0] at H;by_cases c4 : x8_1 < (l0_3.length : Int)
   ·rw [if_pos c4] at H;have c4b0 := decide_eq_true c4;clear c4;replace H := gD H;obtain ⟨c5b0, H⟩ := H;replace H := gD H;obtain ⟨c6b0, H⟩ := H;replace H := bE H;obtain ⟨t208, A7, H⟩ := H;by_cases c8 : t208 = true
    ·subst c8;replace H := iT H;have H' := Aside0.mk H;clear H;have p206 : 0 ≤ (x8_1 : Int) := dA;have q206 : x8_1 < (l0_3.length : Int) := dA;obtain ⟨ad206, A206_0, c206_0, A206_1, c206_1, e206, hx206_0, hx206_1, hx206_2, hx206_3, hl206_0, hi206_0, hl206_1, hi206_1⟩ := at_T102 HR0_3.out x8_1 p206 q206;cases e206;replace hx206_0 := bc HB hx206_0;replace hx206_1 := bc HB hx206_1;replace hx206_2 := bc HB hx206_2;replace hx206_3 := bc HB hx206_3;have HR206_0 := Aside0.mk hi206_0;have HC206_0 := Aside0.mk hl206_0;clear hi206_0 hl206_0;have HR206_1 := Aside0.mk hi206_1;have HC206_1 := Aside0.mk hl206_1;clear hi206_1 hl206_1;replace p206 := eq_true p206;replace q206 := eq_true q206
     go_wp2_with (first|((with_reducible refine gN 4 ?_);(try (refine gate_guard (by rfl) ?_; dsimp only));refine boxZ 4 #[.slice none 0 0, .slice none 0 0, .int .i64 0, .int .i64 0] 102 ?_;intro gb207 hg w9 hbox hb;have BK207 := Aside0.mk (hbox);have GW207 := gS hg;have GE207 := gS hg;replace HB := sB hb;have NB205_207 := nL hg BK205;have NB207_205 := nG hg BK205;replace BK205 := kB BK205 hb;clear hb hbox hg;have hnb10 := NB207_205.out;have hnc10 := NB205_207.out;obtain ⟨hcz11_0, hcz11_1, hcz11_2, hcz11_3, hfz11_0, hfz11_1, hfz11_2, hfz11_3⟩ := cz4 BK207)|((with_reducible refine gF 113 ?_);refine goZ (some 13) Try.func113 #[.agg #[.slice A206_0 ((rd_T102 l0_3 x8_1).f0).length c206_0, .slice A206_1 ((rd_T102 l0_3 x8_1).f1).length c206_1, .int .i64 ((rd_T102 l0_3 x8_1).f2), .int .i64 ((rd_T102 l0_3 x8_1).f3)]] ?_;(with_reducible refine (impl_ruleOk.calls k1 _ _ ((rd_T102 l0_3 x8_1).f0) _ _ ((rd_T102 l0_3 x8_1).f1) ((rd_T102 l0_3 x8_1).f2) ((rd_T102 l0_3 x8_1).f3) true _ ?side1 ?side2 ?side3 ?side4 A7.out).mono ?_);(case side1 => exact Kd.C_below HR206_0.out cB);(case side2 => exact HC206_0.out);(case side3 => exact Kd.C_below HR206_1.out cB);(case side4 => exact HC206_1.out);rintro e w12 ⟨rfl, hb⟩;refine ⟨_, rfl, ?_⟩;replace BK205 := kB BK205 hb;replace BK207 := kP BK207 hb (.cells #[.slice A206_0 ((rd_T102 l0_3 x8_1).f0).length c206_0, .slice A206_1 ((rd_T102 l0_3 x8_1).f1).length c206_1, .int .i64 ((rd_T102 l0_3 x8_1).f2), .int .i64 ((rd_T102 l0_3 x8_1).f3)] 102 (0, 0));replace HB := sB hb;(try clear hb)))
     go_roundg k1
     case measure => have := HK1.out; omega
     case rel => exact ⟨(wrap64 (x8_1 + 1)), rS, H', ⟨by have := HK1.out; omega⟩, ⟨mK BK205⟩, ⟨cB⟩⟩
    ·replace c8 := Bool.eq_false_iff.mpr c8;subst c8;replace H := iF H;obtain rfl := Option.some.inj H;have p206 : 0 ≤ (x8_1 : Int) := dA;have q206 : x8_1 < (l0_3.length : Int) := dA;obtain ⟨ad206, A206_0, c206_0, A206_1, c206_1, e206, hx206_0, hx206_1, hx206_2, hx206_3, hl206_0, hi206_0, hl206_1, hi206_1⟩ := at_T102 HR0_3.out x8_1 p206 q206;cases e206;replace hx206_0 := bc HB hx206_0;replace hx206_1 := bc HB hx206_1;replace hx206_2 := bc HB hx206_2;replace hx206_3 := bc HB hx206_3;have HR206_0 := Aside0.mk hi206_0;have HC206_0 := Aside0.mk hl206_0;clear hi206_0 hl206_0;have HR206_1 := Aside0.mk hi206_1;have HC206_1 := Aside0.mk hl206_1;clear hi206_1 hl206_1;replace p206 := eq_true p206;replace q206 := eq_true q206
     go_wp2_with (first|((with_reducible refine gN 4 ?_);(try (refine gate_guard (by rfl) ?_; dsimp only));refine boxZ 4 #[.slice none 0 0, .slice none 0 0, .int .i64 0, .int .i64 0] 102 ?_;intro gb207 hg w13 hbox hb;have BK207 := Aside0.mk (hbox);have GW207 := gS hg;have GE207 := gS hg;replace HB := sB hb;have NB205_207 := nL hg BK205;have NB207_205 := nG hg BK205;replace BK205 := kB BK205 hb;clear hb hbox hg;have hnb14 := NB207_205.out;have hnc14 := NB205_207.out;obtain ⟨hcz15_0, hcz15_1, hcz15_2, hcz15_3, hfz15_0, hfz15_1, hfz15_2, hfz15_3⟩ := cz4 BK207)|((with_reducible refine gF 113 ?_);refine goZ (some 13) Try.func113 #[.agg #[.slice A206_0 ((rd_T102 l0_3 x8_1).f0).length c206_0, .slice A206_1 ((rd_T102 l0_3 x8_1).f1).length c206_1, .int .i64 ((rd_T102 l0_3 x8_1).f2), .int .i64 ((rd_T102 l0_3 x8_1).f3)]] ?_;(with_reducible refine (impl_ruleOk.calls k1 _ _ ((rd_T102 l0_3 x8_1).f0) _ _ ((rd_T102 l0_3 x8_1).f1) ((rd_T102 l0_3 x8_1).f2) ((rd_T102 l0_3 x8_1).f3) false _ ?side1 ?side2 ?side3 ?side4 A7.out).mono ?_);(case side1 => exact Kd.C_below HR206_0.out cB);(case side2 => exact HC206_0.out);(case side3 => exact Kd.C_below HR206_1.out cB);(case side4 => exact HC206_1.out);rintro e w16 ⟨rfl, hb⟩;refine ⟨_, rfl, ?_⟩;replace BK205 := kB BK205 hb;replace BK207 := kP BK207 hb (.cells #[.slice A206_0 ((rd_T102 l0_3 x8_1).f0).length c206_0, .slice A206_1 ((rd_T102 l0_3 x8_1).f1).length c206_1, .int .i64 ((rd_T102 l0_3 x8_1).f2), .int .i64 ((rd_T102 l0_3 x8_1).f3)] 102 (0, 0));replace HB := sB hb;(try clear hb)))
     go_ret;exact ⟨rE, cB⟩
   ·rw [if_neg c4] at H;have c4b0 := decide_eq_false c4;clear c4;replace H := bE H;obtain ⟨t209, A17, H⟩ := H;by_cases c18 : t209 = true
    ·subst c18;replace H := iT H;replace H := bE H;obtain ⟨t210, A19, H⟩ := H;by_cases c20 : t210 = true
     ·subst c20;replace H := iT H;obtain rfl := Option.some.inj H;obtain ⟨hcz21_0, hcz21_1, hcz21_2, hcz21_3, hfz21_0, hfz21_1, hfz21_2, hfz21_3⟩ := cz4 BK205
      go_wp2_with (first|((with_reducible refine gF 105 ?_);refine goZ (some 18) Try.func105 #[.int .i64 a0_0] ?_;(with_reducible refine (impl_HalfOk.calls a0_0 true _ A17.out).mono ?_);rintro e w' ⟨rfl, ⟨nd, rfl⟩⟩;refine ⟨_, rfl, ?_⟩)|(go_at_call 114;(with_reducible refine (impl_actionOk.calls a0_1 a0_2 true _ A19.out).mono ?_);rintro e w' ⟨rfl, ⟨nd, rfl⟩⟩))
      go_ret;exact ⟨rE, cB⟩
     ·replace c20 := Bool.eq_false_iff.mpr c20;subst c20;replace H := iF H;obtain rfl := Option.some.inj H;obtain ⟨hcz22_0, hcz22_1, hcz22_2, hcz22_3, hfz22_0, hfz22_1, hfz22_2, hfz22_3⟩ := cz4 BK205
      go_wp2_with (first|((with_reducible refine gF 105 ?_);refine goZ (some 18) Try.func105 #[.int .i64 a0_0] ?_;(with_reducible refine (impl_HalfOk.calls a0_0 true _ A17.out).mono ?_);rintro e w' ⟨rfl, ⟨nd, rfl⟩⟩;refine ⟨_, rfl, ?_⟩)|(go_at_call 114;(with_reducible refine (impl_actionOk.calls a0_1 a0_2 false _ A19.out).mono ?_);rintro e w' ⟨rfl, ⟨nd, rfl⟩⟩))
      go_ret;exact ⟨rE, cB⟩
    ·replace c18 := Bool.eq_false_iff.mpr c18;subst c18;replace H := iF H;obtain rfl := Option.some.inj H;obtain ⟨hcz23_0, hcz23_1, hcz23_2, hcz23_3, hfz23_0, hfz23_1, hfz23_2, hfz23_3⟩ := cz4 BK205
     go_wp2_with (first|((with_reducible refine gF 105 ?_);refine goZ (some 18) Try.func105 #[.int .i64 a0_0] ?_;(with_reducible refine (impl_HalfOk.calls a0_0 false _ A17.out).mono ?_);rintro e w' ⟨rfl, ⟨nd, rfl⟩⟩;refine ⟨_, rfl, ?_⟩))
     go_ret;exact ⟨rE, cB⟩
def laws_eqIntS.l0 : Nat → List Int → List Int → Int → Option (Bool)
  | 0, _, _, _ => none
  | k + 1, x0, x1, x5 => if x5 < (x0.length : Int) then (if 0 ≤ x5 then (if x5 < (x1.length : Int) then (if (rd x0 x5) = (rd x1 x5) then (laws_eqIntS.l0 k x0 x1 (wrap64 (x5 + 1))) else (some false)) else (none)) else (none)) else (some true)
def laws_eqIntS.f (k : Nat) (l0 : List Int) (l1 : List Int) : Option (Bool) := if (l0.length : Int) = (l1.length : Int) then (laws_eqIntS.l0 k l0 l1 0) else (some false)
set_option maxHeartbeats 8000000 in
set_option maxRecDepth 100000 in
theorem laws_eqIntS.calls (k : Nat) (A0 : Option Addr) (c0 : Nat) (l0 : List Int) (A1 : Option Addr) (c1 : Nat) (l1 : List Int) (r : Bool) (w : World) (hr0 : Kd.C (Kd.int .i64) w A0 l0.length l0) (hc0 : l0.length ≤ c0) (hr1 : Kd.C (Kd.int .i64) w A1 l1.length l1) (hc1 : l1.length ≤ c1) (h : laws_eqIntS.f k l0 l1 = some r) :
 Calls Try.prog 128 #[.slice A0 l0.length c0, .slice A1 l1.length c1] w fun e w' => e = .returned (.bool r) ∧ Drawn0 w w' := by
 have HR0 := Aside0.mk hr0;have HC0 := Aside0.mk hc0;clear hr0 hc0;have HR1 := Aside0.mk hr1;have HC1 := Aside0.mk hc1;clear hr1 hc1;have H : (if (l0.length : Int) = (l1.length : Int) then (laws_eqIntS.l0 k l0 l1 0) else (some false)) = some r := h;clear h;by_cases c3 : (l0.length : Int) = (l1.length : Int)
 ·rw [if_pos c3] at H;obtain ⟨c3b0, c3b1⟩ := eT c3
  have c3b2 : (l0.length == l1.length) = true := by first | simpa using c3 | (simp at c3 ⊢; omega)
  clear c3;have H' := Aside0.mk H;clear H;go_enter Try.func128, Try.ntmps128;go_wp2
  repeat (go_quiet (fail); try go_wp2)
  go_loopg [5] k (fun kq v5 w' => ∃ (x5_1 : Int), v5 = .int .i64 x5_1 ∧ Aside0 (laws_eqIntS.l0 kq l0 l1 x5_1 = some r) ∧ Aside0 (kq ≤ k) ∧ Drawn0 w w')
  case atStart => exact ⟨(0), rS, H', ⟨Nat.le_refl _⟩, by repeat (first | exact Drawn0.refl _ | apply Drawn0.step)⟩
  case round =>
   clear H';(try clear c1);(try clear c3);(try clear c3b0);(try clear c3b1);(try clear c3b2);obtain ⟨x5_1, rfl, HA, HK1, ⟨m1, rfl⟩⟩ := hrel
   cases gk with
   | zero => exact absurd HA.out (by simp [laws_eqIntS.l0])
   | succ k1 =>
    have H := HA.out;clear HA;simp only [laws_eqIntS.l0] at H;by_cases c4 : x5_1 < (l0.length : Int)
    ·rw [if_pos c4] at H;have c4b0 := decide_eq_true c4;clear c4;replace H := gD H;obtain ⟨c5b0, H⟩ := H;replace H := gD H;obtain ⟨c6b0, H⟩ := H;by_cases c7 : (rd l0 x5_1) = (rd l1 x5_1)
     ·rw [if_pos c7] at H;obtain ⟨c7b0, c7b1⟩ := eT c7;clear c7;have H' := Aside0.mk H;clear H;have p211 : 0 ≤ (x5_1 : Int) := dA;have q211 : x5_1 < (l0.length : Int) := dA;obtain ⟨ad211, e211, hx211_0⟩ := Kd.at_int HR0.out x5_1 p211 q211;cases e211;replace p211 := eq_true p211;replace q211 := eq_true q211;have p212 : 0 ≤ (x5_1 : Int) := dA;have q212 : x5_1 < (l1.length : Int) := dA;obtain ⟨ad212, e212, hx212_0⟩ := Kd.at_int HR1.out x5_1 p212 q212;cases e212;replace p212 := eq_true p212;replace q212 := eq_true q212;go_wp2
      repeat (go_quiet (fail); try go_wp2)
      go_roundg k1
      case measure => have := HK1.out; omega
      case rel => exact ⟨(wrap64 (x5_1 + 1)), rS, H', ⟨by have := HK1.out; omega⟩, by repeat (first | exact Drawn0.refl _ | apply Drawn0.step)⟩
     ·rw [if_neg c7] at H;obtain ⟨c7b0, c7b1⟩ := eF c7;obtain rfl := Option.some.inj H;have p211 : 0 ≤ (x5_1 : Int) := dA;have q211 : x5_1 < (l0.length : Int) := dA;obtain ⟨ad211, e211, hx211_0⟩ := Kd.at_int HR0.out x5_1 p211 q211;cases e211;replace p211 := eq_true p211;replace q211 := eq_true q211;have p212 : 0 ≤ (x5_1 : Int) := dA;have q212 : x5_1 < (l1.length : Int) := dA;obtain ⟨ad212, e212, hx212_0⟩ := Kd.at_int HR1.out x5_1 p212 q212;cases e212;replace p212 := eq_true p212;replace q212 := eq_true q212;go_wp2
      repeat (go_quiet (fail); try go_wp2)
      go_ret
      exact ⟨by first | rfl | (simp; done) | (simp [*]; done), by repeat (first | exact Drawn0.refl _ | apply Drawn0.step)⟩
    ·rw [if_neg c4] at H;have c4b0 := decide_eq_false c4;clear c4;obtain rfl := Option.some.inj H;go_wp2
     repeat (go_quiet (fail); try go_wp2)
     go_ret
     exact ⟨by first | rfl | (simp; done) | (simp [*]; done), by repeat (first | exact Drawn0.refl _ | apply Drawn0.step)⟩
 ·rw [if_neg c3] at H;obtain ⟨c3b0, c3b1⟩ := eF c3
  have c3b2 : (l0.length == l1.length) = false := by first | simpa using c3 | (simp at c3 ⊢; omega)
  obtain rfl := Option.some.inj H;go_enter Try.func128, Try.ntmps128;go_wp2
  repeat (go_quiet (fail); try go_wp2)
  go_ret
  exact ⟨by first | rfl | (simp; done) | (simp [*]; done), by repeat (first | exact Drawn0.refl _ | apply Drawn0.step)⟩
def laws_eqWide.f (a0_0 : Int) (a0_1 : Int) (a1_0 : Int) (a1_1 : Int) : Option (Bool) := if a0_0 = a1_0 then (if a0_1 = a1_1 then (some true) else (some false)) else (some false)
set_option maxHeartbeats 8000000 in
set_option maxRecDepth 100000 in
theorem laws_eqWide.calls (a0_0 : Int) (a0_1 : Int) (a1_0 : Int) (a1_1 : Int) (r : Bool) (w : World) (h : laws_eqWide.f a0_0 a0_1 a1_0 a1_1 = some r) :
 Calls Try.prog 144 #[.agg #[.int .i64 a0_0, .int .i64 a0_1], .agg #[.int .i64 a1_0, .int .i64 a1_1]] w fun e w' => e = .returned (.bool r) ∧ Below w.heap.size w w' := by
 have hu38 := Try.underlying38;have HB := Aside0.mk (Below.refl w.heap.size w);have H : (if a0_0 = a1_0 then (if a0_1 = a1_1 then (some true) else (some false)) else (some false)) = some r := h;clear h;by_cases c3 : a0_0 = a1_0
 ·rw [if_pos c3] at H;obtain ⟨c3b0, c3b1⟩ := eT c3;clear c3;by_cases c4 : a0_1 = a1_1
  ·rw [if_pos c4] at H;obtain ⟨c4b0, c4b1⟩ := eT c4;clear c4;obtain rfl := Option.some.inj H;go_enter Try.func144, Try.ntmps144
   go_wp2_with (first|((with_reducible refine gN 2 ?_);refine boxZ 2 #[.int .i64 a0_0, .int .i64 a0_1] 38 ?_;intro gb213 hg w5 hbox hb;have BK213 := Aside0.mk (hbox);have GW213 := gS hg;have GE213 := gS hg;replace HB := sB hb;clear hb hbox hg)|((with_reducible refine gN 3 ?_);refine boxZ 3 #[.int .i64 a1_0, .int .i64 a1_1] 38 ?_;intro gb214 hg w6 hbox hb;have BK214 := Aside0.mk (hbox);have GW214 := gS hg;have GE214 := gS hg;replace HB := sB hb;have NB213_214 := nL hg BK213;have NB214_213 := nG hg BK213;replace BK213 := kB BK213 hb;clear hb hbox hg;have hnb7 := NB213_214.out;have hnc7 := NB214_213.out;obtain ⟨hcz8_0, hcz8_1, hfz8_0, hfz8_1⟩ := cz2 BK213;obtain ⟨hcz9_0, hcz9_1, hfz9_0, hfz9_1⟩ := cz2 BK214))
   go_ret;exact ⟨rE, cB⟩
  ·rw [if_neg c4] at H;obtain ⟨c4b0, c4b1⟩ := eF c4;obtain rfl := Option.some.inj H;go_enter Try.func144, Try.ntmps144
   go_wp2_with (first|((with_reducible refine gN 2 ?_);refine boxZ 2 #[.int .i64 a0_0, .int .i64 a0_1] 38 ?_;intro gb213 hg w10 hbox hb;have BK213 := Aside0.mk (hbox);have GW213 := gS hg;have GE213 := gS hg;replace HB := sB hb;clear hb hbox hg)|((with_reducible refine gN 3 ?_);refine boxZ 3 #[.int .i64 a1_0, .int .i64 a1_1] 38 ?_;intro gb214 hg w11 hbox hb;have BK214 := Aside0.mk (hbox);have GW214 := gS hg;have GE214 := gS hg;replace HB := sB hb;have NB213_214 := nL hg BK213;have NB214_213 := nG hg BK213;replace BK213 := kB BK213 hb;clear hb hbox hg;have hnb12 := NB213_214.out;have hnc12 := NB214_213.out;obtain ⟨hcz13_0, hcz13_1, hfz13_0, hfz13_1⟩ := cz2 BK213;obtain ⟨hcz14_0, hcz14_1, hfz14_0, hfz14_1⟩ := cz2 BK214))
   go_ret;exact ⟨rE, cB⟩
 ·rw [if_neg c3] at H;obtain ⟨c3b0, c3b1⟩ := eF c3;obtain rfl := Option.some.inj H;go_enter Try.func144, Try.ntmps144
  go_wp2_with (first|((with_reducible refine gN 2 ?_);refine boxZ 2 #[.int .i64 a0_0, .int .i64 a0_1] 38 ?_;intro gb213 hg w15 hbox hb;have BK213 := Aside0.mk (hbox);have GW213 := gS hg;have GE213 := gS hg;replace HB := sB hb;clear hb hbox hg)|((with_reducible refine gN 3 ?_);refine boxZ 3 #[.int .i64 a1_0, .int .i64 a1_1] 38 ?_;intro gb214 hg w16 hbox hb;have BK214 := Aside0.mk (hbox);have GW214 := gS hg;have GE214 := gS hg;replace HB := sB hb;have NB213_214 := nL hg BK213;have NB214_213 := nG hg BK213;replace BK213 := kB BK213 hb;clear hb hbox hg;have hnb17 := NB213_214.out;have hnc17 := NB214_213.out;obtain ⟨hcz18_0, hcz18_1, hfz18_0, hfz18_1⟩ := cz2 BK213;obtain ⟨hcz19_0, hcz19_1, hfz19_0, hfz19_1⟩ := cz2 BK214))
  go_ret;exact ⟨rE, cB⟩
end Go.Proofs.Ytiinjipfhmgheaa.PFnExactPolicyOk
