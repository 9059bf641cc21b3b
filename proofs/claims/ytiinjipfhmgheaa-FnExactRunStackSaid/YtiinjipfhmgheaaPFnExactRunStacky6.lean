import Derived.Test.YtiinjipfhmgheaaPFnExactRunStacky0
import Derived.Test.YtiinjipfhmgheaaPFnExactRunStacky3
import Derived.Test.YtiinjipfhmgheaaPFnExactRunStacky4
import Derived.Test.YtiinjipfhmgheaaPFnExactRunStacky5
namespace Go.Proofs.Ytiinjipfhmgheaa.PFnExactRunStack
open Go.RowKit Go.Proofs.YtiinjipfhmgheaaW.PrintWords Go.Proofs.YtiinjipfhmgheaaW.PrintLast Go.Proofs.YtiinjipfhmgheaaW.PrintMore Go.Proofs.YtiinjipfhmgheaaW.Z
attribute [local go_sem] max2_int min2_int max_two min_two max_three min_three max_four min_four
set_option linter.unusedVariables false
set_option linter.unusedSimpArgs false
mutual
def spec_Run.j0 : Nat → List (S118) → Bool → Int → Int → List (S38) → Option (Int × Int)
  | 0, _, _, _, _, _ => none
  | k + 1, x0, x17, x192000, x192001, x192002 => if x17 = true then (some (0, 0)) else (spec_Run.l0 k x0 0 0 0 x192000 x192001 x192002)
def spec_Run.l0 : Nat → List (S118) → Int → Int → Int → Int → Int → List (S38) → Option (Int × Int)
  | 0, _, _, _, _, _, _, _ => none
  | k + 1, x0, x6, x7, x8, x192000, x192001, x192002 => if x8 < (x0.length : Int) then (if 0 ≤ x8 then (if ((rd_T118 x0 x8).f0) = 1 then ((spec_FieldAt.f k x192000 x192001 x192002 ((rd_T118 x0 x8).f1)).bind fun bt196 => (spec_Run.l0 k x0 bt196.1 (wrap64 (x7 + 1)) (wrap64 (x8 + 1)) x192000 x192001 x192002)) else (if ((rd_T118 x0 x8).f0) = 2 then (spec_Run.l0 k x0 (Go.bits .and .i64 x6 ((rd_T118 x0 x8).f1)) (wrap64 (x7 + 1)) (wrap64 (x8 + 1)) x192000 x192001 x192002) else (if ((rd_T118 x0 x8).f0) = 7 then (spec_Run.l0 k x0 x6 (wrap64 (x7 + 1)) (wrap64 ((wrap64 (x8 + ((rd_T118 x0 x8).f1))) + 1)) x192000 x192001 x192002) else (if ((rd_T118 x0 x8).f0) = 8 then (some ((rd_T118 x0 x8).f1, wrap64 (x7 + 1))) else ((spec_l07Asks.f ((rd_T118 x0 x8).f0) ((rd_T118 x0 x8).f1) ((rd_T118 x0 x8).f2) ((rd_T118 x0 x8).f3) x6).bind fun t198 => (if t198 = true then (spec_Run.l0 k x0 x6 (wrap64 (x7 + 1)) (wrap64 ((wrap64 (x8 + ((rd_T118 x0 x8).f2))) + 1)) x192000 x192001 x192002) else (spec_Run.l0 k x0 x6 (wrap64 (x7 + 1)) (wrap64 ((wrap64 (x8 + ((rd_T118 x0 x8).f3))) + 1)) x192000 x192001 x192002))))))) else (none)) else (some (0, 0))
end
def spec_Run.f (k : Nat) (l0 : List (S118)) (a1_0 : Int) (a1_1 : Int) (l1_2 : List (S38)) : Option (Int × Int) := (spec_CheckProgram.f k l0).bind fun t192 => (if t192 = true then ((spec_CallOk.f k a1_0 a1_1 l1_2).bind fun t193 => (spec_Run.j0 k l0 (!t193) a1_0 a1_1 l1_2)) else (spec_Run.j0 k l0 true a1_0 a1_1 l1_2))
set_option maxHeartbeats 8000000 in
set_option maxRecDepth 100000 in
theorem spec_Run.calls (k : Nat) (A0 : Option Addr) (c0 : Nat) (l0 : List (S118)) (a1_0 : Int) (a1_1 : Int) (A1_2 : Option Addr) (c1_2 : Nat) (l1_2 : List (S38)) (r1 : Int) (r2 : Int) (w : World) (hr0 : Kd.C k118 w A0 l0.length l0) (hc0 : l0.length ≤ c0) (hr1_2 : Kd.C k38 w A1_2 l1_2.length l1_2) (hc1_2 : l1_2.length ≤ c1_2) (h : spec_Run.f k l0 a1_0 a1_1 l1_2 = some (r1, r2)) :
 Calls Try.prog 131 #[.slice A0 l0.length c0, .agg #[.int .i64 a1_0, .int .i64 a1_1, .slice A1_2 l1_2.length c1_2]] w fun e w' => e = .returned (.tuple #[.int .i64 r1, .int .i64 r2]) ∧ Below w.heap.size w w' := by
 have hu44 := Try.underlying44;have hu118 := Try.underlying118;have HR0 := Aside0.mk hr0;have HC0 := Aside0.mk hc0;clear hr0 hc0;have HR1_2 := Aside0.mk hr1_2;have HC1_2 := Aside0.mk hc1_2;clear hr1_2 hc1_2;have HB := Aside0.mk (Below.refl w.heap.size w)
 have H : ((spec_CheckProgram.f k l0).bind fun t192 => (if t192 = true then ((spec_CallOk.f k a1_0 a1_1 l1_2).bind fun t193 => (spec_Run.j0 k l0 (!t193) a1_0 a1_1 l1_2)) else (spec_Run.j0 k l0 true a1_0 a1_1 l1_2))) = some (r1, r2) := h
 clear h;have HC3 := Aside0.mk H;clear H;go_enter Try.func131, Try.ntmps131
 go_upto_region 1 with (first|((with_reducible refine gN 3 ?_);refine boxZ 3 #[.int .i64 a1_0, .int .i64 a1_1, .slice A1_2 l1_2.length c1_2] 44 ?_;intro gb191 hg w4 hbox hb;have BK191 := Aside0.mk (hbox);have GW191 := gS hg;have GE191 := gS hg;replace HB := sB hb;clear hb hbox hg))
 (try simp only [Act.put, List.setIfInBounds_toArray, List.set_cons_zero, List.set_cons_succ])
 go_cut [17] (fun v17 wc => ∃ (kq : Nat) (x17_2 : Bool), v17 = .bool x17_2 ∧ Aside0 (spec_Run.j0 kq l0 x17_2 a1_0 a1_1 l1_2 = some (r1, r2)) ∧ Aside0 (kq ≤ k) ∧ Aside0 (wc.heap[gb191]? = some (.cells #[.int .i64 a1_0, .int .i64 a1_1, (.slice A1_2 l1_2.length c1_2)] 44 (0, 0))) ∧ Aside0 (Below w.heap.size w wc))
 case first =>
  have H := HC3.out;clear HC3;replace H := bE H;obtain ⟨t192, A5, H⟩ := H;by_cases c6 : t192 = true
  ·subst c6;replace H := iT H;replace H := bE H;obtain ⟨t193, A7, H⟩ := H;have H' := Aside0.mk H;clear H
   go_wp2_with (first|((with_reducible refine gF 69 ?_);refine goZ (some 11) Try.func69 #[.slice A0 l0.length c0] ?_;(with_reducible refine (spec_CheckProgram.calls k _ _ l0 true _ ?side1 ?side2 A5.out).mono ?_);(case side1 => exact cC (Kd.C_below HR0.out HB.out));(case side2 => exact HC0.out);rintro e w8 ⟨rfl, hb⟩;refine ⟨_, rfl, ?_⟩;replace BK191 := kB BK191 hb;replace HB := sB hb;(try clear hb);obtain ⟨hcz9_0, hcz9_1, hcz9_2, hfz9_0, hfz9_1, hfz9_2⟩ := cz3 BK191)|(go_at_call 73;(with_reducible refine (spec_CallOk.calls k a1_0 a1_1 _ _ l1_2 t193 _ ?side1 ?side2 A7.out).mono ?_);(case side1 => exact cC (Kd.C_below HR1_2.out HB.out));(case side2 => exact HC1_2.out);rintro e w10 ⟨rfl, hb⟩;replace BK191 := kB BK191 hb;replace HB := sB hb;(try clear hb)))
   go_meet
   case rel => exact ⟨_, (!t193), rS, H', ⟨oL⟩, ⟨mK BK191⟩, ⟨cB⟩⟩
  ·replace c6 := Bool.eq_false_iff.mpr c6;subst c6;replace H := iF H;have H' := Aside0.mk H;clear H
   go_wp2_with (first|((with_reducible refine gF 69 ?_);refine goZ (some 11) Try.func69 #[.slice A0 l0.length c0] ?_;(with_reducible refine (spec_CheckProgram.calls k _ _ l0 false _ ?side1 ?side2 A5.out).mono ?_);(case side1 => exact cC (Kd.C_below HR0.out HB.out));(case side2 => exact HC0.out);rintro e w11 ⟨rfl, hb⟩;refine ⟨_, rfl, ?_⟩;replace BK191 := kB BK191 hb;replace HB := sB hb;(try clear hb)))
   go_meet
   case rel => exact ⟨_, (true), rS, H', ⟨oL⟩, ⟨mK BK191⟩, ⟨cB⟩⟩
 case rest =>
  clear HC3;(try clear c6);(try clear hcz9_0);(try clear hcz9_1);(try clear hcz9_2);(try clear hfz9_0);(try clear hfz9_1);(try clear hfz9_2);obtain ⟨kq, x17_2, rfl, HA, HJ2, BK191, HB⟩ := hcut
  cases kq with
  | zero => exact absurd HA.out (by simp [spec_Run.j0])
  | succ kj2 =>
   have H := HA.out;clear HA;simp only [spec_Run.j0] at H;by_cases c12 : x17_2 = true
   ·subst c12;replace H := iT H;simp only [Option.some.injEq, Prod.mk.injEq] at H;obtain ⟨rfl, rfl⟩ := H;go_wp2;go_ret2;exact ⟨rE, cB⟩
   ·replace c12 := Bool.eq_false_iff.mpr c12;subst c12;replace H := iF H;have H' := Aside0.mk H;clear H;go_wp2
    go_loopg [6, 7, 8] kj2 (fun kq v6 v7 v8 w' => ∃ (x6_2 : Int) (x7_2 : Int) (x8_2 : Int), v6 = .int .i64 x6_2 ∧ v7 = .int .i64 x7_2 ∧ v8 = .int .i64 x8_2 ∧ Aside0 (spec_Run.l0 kq l0 x6_2 x7_2 x8_2 a1_0 a1_1 l1_2 = some (r1, r2)) ∧ Aside0 (kq ≤ kj2) ∧ Aside0 (w'.heap[gb191]? = some (.cells #[.int .i64 a1_0, .int .i64 a1_1, (.slice A1_2 l1_2.length c1_2)] 44 (0, 0))) ∧ Aside0 (Below w.heap.size w w'))
    case atStart => exact ⟨(0), (0), (0), rS, rS, rS, H', ⟨Nat.le_refl _⟩, ⟨mK BK191⟩, ⟨cB⟩⟩
    case round =>
     clear H';(try clear c6);(try clear c12);(try clear hcz9_0);(try clear hcz9_1);(try clear hcz9_2);(try clear hfz9_0);(try clear hfz9_1);(try clear hfz9_2);obtain ⟨x6_2, x7_2, x8_2, rfl, rfl, rfl, HA, HK2, BK191, HB⟩ := hrel
     cases gk with
     | zero => exact absurd HA.out (by simp [spec_Run.l0])
     | succ k2 =>
      have H := HA.out;clear HA;simp only [spec_Run.l0] at H;by_cases c13 : x8_2 < (l0.length : Int)
      ·rw [if_pos c13] at H;have c13b0 := decide_eq_true c13;clear c13;replace H := gD H;obtain ⟨c14b0, H⟩ := H;by_cases c15 : ((rd_T118 l0 x8_2).f0) = 1
       ·rw [if_pos c15] at H;obtain ⟨c15b0, c15b1⟩ := eT c15;clear c15;replace H := bE H;obtain ⟨⟨t196, t197⟩, A16, H⟩ := H;(try dsimp only at H);have H' := Aside0.mk H;clear H;have p194 : 0 ≤ (x8_2 : Int) := dA;have q194 : x8_2 < (l0.length : Int) := dA;obtain ⟨ad194, e194, hx194_0, hx194_1, hx194_2, hx194_3⟩ := at_T118 HR0.out x8_2 p194 q194;cases e194;replace hx194_0 := (bc HB hx194_0 :);replace hx194_1 := (bc HB hx194_1 :);replace hx194_2 := (bc HB hx194_2 :);replace hx194_3 := (bc HB hx194_3 :);replace p194 := eq_true p194;replace q194 := eq_true q194
        go_wp2_with (first|((with_reducible refine gN 9 ?_);refine boxZ 9 #[.int .i64 0, .int .i64 0, .int .i64 0, .int .i64 0] 118 ?_;intro gb195 hg w17 hbox hb;have BK195 := Aside0.mk (hbox);have GW195 := gS hg;have GE195 := gS hg;replace HB := sB hb;have NB191_195 := nL hg BK191;have NB195_191 := nG hg BK191;replace BK191 := kB BK191 hb;clear hb hbox hg;have hnb18 := NB195_191.out;have hnc18 := NB191_195.out;obtain ⟨hcz19_0, hcz19_1, hcz19_2, hcz19_3, hfz19_0, hfz19_1, hfz19_2, hfz19_3⟩ := cz4 BK195;obtain ⟨hcz20_0, hcz20_1, hcz20_2, hfz20_0, hfz20_1, hfz20_2⟩ := cz3 BK191)|((with_reducible refine gF 160 ?_);refine goZ (some 49) Try.func160 #[.agg #[.int .i64 a1_0, .int .i64 a1_1, .slice A1_2 l1_2.length c1_2], .int .i64 ((rd_T118 l0 x8_2).f1)] ?_;(with_reducible refine (spec_FieldAt.calls k2 a1_0 a1_1 _ _ l1_2 ((rd_T118 l0 x8_2).f1) t196 t197 _ ?side1 ?side2 A16.out).mono ?_);(case side1 => exact Kd.C_below HR1_2.out cB);(case side2 => exact HC1_2.out);rintro e w21 ⟨rfl, hb⟩;refine ⟨_, rfl, ?_⟩;replace BK191 := kB BK191 hb;replace BK195 := kP BK195 hb (.cells #[.int .i64 ((rd_T118 l0 x8_2).f0), .int .i64 ((rd_T118 l0 x8_2).f1), .int .i64 ((rd_T118 l0 x8_2).f2), .int .i64 ((rd_T118 l0 x8_2).f3)] 118 (0, 0));replace HB := sB hb;(try clear hb)))
        go_roundg k2
        case measure => have := HJ2.out; have := HK2.out; omega
        case rel => exact ⟨(t196), (wrap64 (x7_2 + 1)), (wrap64 (x8_2 + 1)), rS, rS, rS, H', ⟨by have := HJ2.out; have := HK2.out; omega⟩, ⟨mK BK191⟩, ⟨cB⟩⟩
       ·rw [if_neg c15] at H;obtain ⟨c15b0, c15b1⟩ := eF c15;by_cases c22 : ((rd_T118 l0 x8_2).f0) = 2
        ·rw [if_pos c22] at H;obtain ⟨c22b0, c22b1⟩ := eT c22;clear c22;have H' := Aside0.mk H;clear H;have p194 : 0 ≤ (x8_2 : Int) := dA;have q194 : x8_2 < (l0.length : Int) := dA;obtain ⟨ad194, e194, hx194_0, hx194_1, hx194_2, hx194_3⟩ := at_T118 HR0.out x8_2 p194 q194;cases e194;replace hx194_0 := (bc HB hx194_0 :);replace hx194_1 := (bc HB hx194_1 :);replace hx194_2 := (bc HB hx194_2 :);replace hx194_3 := (bc HB hx194_3 :);replace p194 := eq_true p194;replace q194 := eq_true q194
         go_wp2_with (first|((with_reducible refine gN 9 ?_);refine boxZ 9 #[.int .i64 0, .int .i64 0, .int .i64 0, .int .i64 0] 118 ?_;intro gb195 hg w23 hbox hb;have BK195 := Aside0.mk (hbox);have GW195 := gS hg;have GE195 := gS hg;replace HB := sB hb;have NB191_195 := nL hg BK191;have NB195_191 := nG hg BK191;replace BK191 := kB BK191 hb;clear hb hbox hg;have hnb24 := NB195_191.out;have hnc24 := NB191_195.out;obtain ⟨hcz25_0, hcz25_1, hcz25_2, hcz25_3, hfz25_0, hfz25_1, hfz25_2, hfz25_3⟩ := cz4 BK195))
         go_roundg k2
         case measure => have := HJ2.out; have := HK2.out; omega
         case rel => exact ⟨(Go.bits .and .i64 x6_2 ((rd_T118 l0 x8_2).f1)), (wrap64 (x7_2 + 1)), (wrap64 (x8_2 + 1)), rS, rS, rS, H', ⟨by have := HJ2.out; have := HK2.out; omega⟩, ⟨mK BK191⟩, ⟨cB⟩⟩
        ·rw [if_neg c22] at H;obtain ⟨c22b0, c22b1⟩ := eF c22;by_cases c26 : ((rd_T118 l0 x8_2).f0) = 7
         ·rw [if_pos c26] at H;obtain ⟨c26b0, c26b1⟩ := eT c26;clear c26;have H' := Aside0.mk H;clear H;have p194 : 0 ≤ (x8_2 : Int) := dA;have q194 : x8_2 < (l0.length : Int) := dA;obtain ⟨ad194, e194, hx194_0, hx194_1, hx194_2, hx194_3⟩ := at_T118 HR0.out x8_2 p194 q194;cases e194;replace hx194_0 := (bc HB hx194_0 :);replace hx194_1 := (bc HB hx194_1 :);replace hx194_2 := (bc HB hx194_2 :);replace hx194_3 := (bc HB hx194_3 :);replace p194 := eq_true p194;replace q194 := eq_true q194
          go_wp2_with (first|((with_reducible refine gN 9 ?_);refine boxZ 9 #[.int .i64 0, .int .i64 0, .int .i64 0, .int .i64 0] 118 ?_;intro gb195 hg w27 hbox hb;have BK195 := Aside0.mk (hbox);have GW195 := gS hg;have GE195 := gS hg;replace HB := sB hb;have NB191_195 := nL hg BK191;have NB195_191 := nG hg BK191;replace BK191 := kB BK191 hb;clear hb hbox hg;have hnb28 := NB195_191.out;have hnc28 := NB191_195.out;obtain ⟨hcz29_0, hcz29_1, hcz29_2, hcz29_3, hfz29_0, hfz29_1, hfz29_2, hfz29_3⟩ := cz4 BK195))
          go_roundg k2
          case measure => have := HJ2.out; have := HK2.out; omega
          case rel => exact ⟨(x6_2), (wrap64 (x7_2 + 1)), (wrap64 ((wrap64 (x8_2 + ((rd_T118 l0 x8_2).f1))) + 1)), rS, rS, rS, H', ⟨by have := HJ2.out; have := HK2.out; omega⟩, ⟨mK BK191⟩, ⟨cB⟩⟩
         ·rw [if_neg c26] at H;obtain ⟨c26b0, c26b1⟩ := eF c26;by_cases c30 : ((rd_T118 l0 x8_2).f0) = 8
          ·rw [if_pos c30] at H;obtain ⟨c30b0, c30b1⟩ := eT c30;clear c30;simp only [Option.some.injEq, Prod.mk.injEq] at H;obtain ⟨rfl, rfl⟩ := H;have p194 : 0 ≤ (x8_2 : Int) := dA;have q194 : x8_2 < (l0.length : Int) := dA;obtain ⟨ad194, e194, hx194_0, hx194_1, hx194_2, hx194_3⟩ := at_T118 HR0.out x8_2 p194 q194;cases e194;replace hx194_0 := (bc HB hx194_0 :);replace hx194_1 := (bc HB hx194_1 :);replace hx194_2 := (bc HB hx194_2 :);replace hx194_3 := (bc HB hx194_3 :);replace p194 := eq_true p194;replace q194 := eq_true q194
           go_wp2_with (first|((with_reducible refine gN 9 ?_);refine boxZ 9 #[.int .i64 0, .int .i64 0, .int .i64 0, .int .i64 0] 118 ?_;intro gb195 hg w31 hbox hb;have BK195 := Aside0.mk (hbox);have GW195 := gS hg;have GE195 := gS hg;replace HB := sB hb;have NB191_195 := nL hg BK191;have NB195_191 := nG hg BK191;replace BK191 := kB BK191 hb;clear hb hbox hg;have hnb32 := NB195_191.out;have hnc32 := NB191_195.out;obtain ⟨hcz33_0, hcz33_1, hcz33_2, hcz33_3, hfz33_0, hfz33_1, hfz33_2, hfz33_3⟩ := cz4 BK195))
           go_ret2;exact ⟨rE, cB⟩
          ·rw [if_neg c30] at H;obtain ⟨c30b0, c30b1⟩ := eF c30;replace H := bE H;obtain ⟨t198, A34, H⟩ := H;by_cases c35 : t198 = true
           ·subst c35;replace H := iT H;have H' := Aside0.mk H;clear H;have p194 : 0 ≤ (x8_2 : Int) := dA;have q194 : x8_2 < (l0.length : Int) := dA;obtain ⟨ad194, e194, hx194_0, hx194_1, hx194_2, hx194_3⟩ := at_T118 HR0.out x8_2 p194 q194;cases e194;replace hx194_0 := (bc HB hx194_0 :);replace hx194_1 := (bc HB hx194_1 :);replace hx194_2 := (bc HB hx194_2 :);replace hx194_3 := (bc HB hx194_3 :);replace p194 := eq_true p194;replace q194 := eq_true q194
            go_wp2_with (first|((with_reducible refine gN 9 ?_);refine boxZ 9 #[.int .i64 0, .int .i64 0, .int .i64 0, .int .i64 0] 118 ?_;intro gb195 hg w36 hbox hb;have BK195 := Aside0.mk (hbox);have GW195 := gS hg;have GE195 := gS hg;replace HB := sB hb;have NB191_195 := nL hg BK191;have NB195_191 := nG hg BK191;replace BK191 := kB BK191 hb;clear hb hbox hg;have hnb37 := NB195_191.out;have hnc37 := NB191_195.out;obtain ⟨hcz38_0, hcz38_1, hcz38_2, hcz38_3, hfz38_0, hfz38_1, hfz38_2, hfz38_3⟩ := cz4 BK195)|((with_reducible refine gF 161 ?_);refine goZ (some 34) Try.func161 #[.agg #[.int .i64 ((rd_T118 l0 x8_2).f0), .int .i64 ((rd_T118 l0 x8_2).f1), .int .i64 ((rd_T118 l0 x8_2).f2), .int .i64 ((rd_T118 l0 x8_2).f3)], .int .i64 x6_2] ?_;(with_reducible refine (spec_l07Asks.calls ((rd_T118 l0 x8_2).f0) ((rd_T118 l0 x8_2).f1) ((rd_T118 l0 x8_2).f2) ((rd_T118 l0 x8_2).f3) x6_2 true _ A34.out).mono ?_);rintro e w39 ⟨rfl, hb⟩;refine ⟨_, rfl, ?_⟩;replace BK191 := kB BK191 hb;replace BK195 := kP BK195 hb (.cells #[.int .i64 ((rd_T118 l0 x8_2).f0), .int .i64 ((rd_T118 l0 x8_2).f1), .int .i64 ((rd_T118 l0 x8_2).f2), .int .i64 ((rd_T118 l0 x8_2).f3)] 118 (0, 0));replace HB := sB hb;(try clear hb);obtain ⟨hcz40_0, hcz40_1, hcz40_2, hcz40_3, hfz40_0, hfz40_1, hfz40_2, hfz40_3⟩ := cz4 BK195))
            go_roundg k2
            case measure => have := HJ2.out; have := HK2.out; omega
            case rel => exact ⟨(x6_2), (wrap64 (x7_2 + 1)), (wrap64 ((wrap64 (x8_2 + ((rd_T118 l0 x8_2).f2))) + 1)), rS, rS, rS, H', ⟨by have := HJ2.out; have := HK2.out; omega⟩, ⟨mK BK191⟩, ⟨cB⟩⟩
           ·replace c35 := Bool.eq_false_iff.mpr c35;subst c35;replace H := iF H;have H' := Aside0.mk H;clear H;have p194 : 0 ≤ (x8_2 : Int) := dA;have q194 : x8_2 < (l0.length : Int) := dA;obtain ⟨ad194, e194, hx194_0, hx194_1, hx194_2, hx194_3⟩ := at_T118 HR0.out x8_2 p194 q194;cases e194;replace hx194_0 := (bc HB hx194_0 :);replace hx194_1 := (bc HB hx194_1 :);replace hx194_2 := (bc HB hx194_2 :);replace hx194_3 := (bc HB hx194_3 :);replace p194 := eq_true p194;replace q194 := eq_true q194
            go_wp2_with (first|((with_reducible refine gN 9 ?_);refine boxZ 9 #[.int .i64 0, .int .i64 0, .int .i64 0, .int .i64 0] 118 ?_;intro gb195 hg w41 hbox hb;have BK195 := Aside0.mk (hbox);have GW195 := gS hg;have GE195 := gS hg;replace HB := sB hb;have NB191_195 := nL hg BK191;have NB195_191 := nG hg BK191;replace BK191 := kB BK191 hb;clear hb hbox hg;have hnb42 := NB195_191.out;have hnc42 := NB191_195.out;obtain ⟨hcz43_0, hcz43_1, hcz43_2, hcz43_3, hfz43_0, hfz43_1, hfz43_2, hfz43_3⟩ := cz4 BK195)|((with_reducible refine gF 161 ?_);refine goZ (some 34) Try.func161 #[.agg #[.int .i64 ((rd_T118 l0 x8_2).f0), .int .i64 ((rd_T118 l0 x8_2).f1), .int .i64 ((rd_T118 l0 x8_2).f2), .int .i64 ((rd_T118 l0 x8_2).f3)], .int .i64 x6_2] ?_;(with_reducible refine (spec_l07Asks.calls ((rd_T118 l0 x8_2).f0) ((rd_T118 l0 x8_2).f1) ((rd_T118 l0 x8_2).f2) ((rd_T118 l0 x8_2).f3) x6_2 false _ A34.out).mono ?_);rintro e w44 ⟨rfl, hb⟩;refine ⟨_, rfl, ?_⟩;replace BK191 := kB BK191 hb;replace BK195 := kP BK195 hb (.cells #[.int .i64 ((rd_T118 l0 x8_2).f0), .int .i64 ((rd_T118 l0 x8_2).f1), .int .i64 ((rd_T118 l0 x8_2).f2), .int .i64 ((rd_T118 l0 x8_2).f3)] 118 (0, 0));replace HB := sB hb;(try clear hb);obtain ⟨hcz45_0, hcz45_1, hcz45_2, hcz45_3, hfz45_0, hfz45_1, hfz45_2, hfz45_3⟩ := cz4 BK195))
            go_roundg k2
            case measure => have := HJ2.out; have := HK2.out; omega
            case rel => exact ⟨(x6_2), (wrap64 (x7_2 + 1)), (wrap64 ((wrap64 (x8_2 + ((rd_T118 l0 x8_2).f3))) + 1)), rS, rS, rS, H', ⟨by have := HJ2.out; have := HK2.out; omega⟩, ⟨mK BK191⟩, ⟨cB⟩⟩
      ·rw [if_neg c13] at H;have c13b0 := decide_eq_false c13;clear c13;simp only [Option.some.injEq, Prod.mk.injEq] at H;obtain ⟨rfl, rfl⟩ := H;go_wp2;go_ret2;exact ⟨rE, cB⟩
def spec_ActionIn.f (a0 : Int) : Option (Int) := (spec_l01In.f a0 0 393215).bind fun t199 => (if t199 = true then (some (wrap64 (Int.tdiv a0 65536))) else (some 0))
set_option maxHeartbeats 8000000 in
set_option maxRecDepth 100000 in
theorem spec_ActionIn.calls (a0 : Int) (r : Int) (w : World) (h : spec_ActionIn.f a0 = some r) :
 Calls Try.prog 162 #[.int .i64 a0] w fun e w' => e = .returned (.int .i64 r) ∧ Drawn0 w w' := by
 have H : ((spec_l01In.f a0 0 393215).bind fun t199 => (if t199 = true then (some (wrap64 (Int.tdiv a0 65536))) else (some 0))) = some r := h
 clear h;replace H := bE H;obtain ⟨t199, A2, H⟩ := H;by_cases c3 : t199 = true
 ·subst c3;replace H := iT H;obtain rfl := Option.some.inj H;go_enter Try.func162, Try.ntmps162
  go_wp2_with (first|((with_reducible refine gF 93 ?_);refine goZ (some 4) Try.func93 #[.int .i64 a0, .int .i64 0, .int .i64 393215] ?_;(with_reducible refine (spec_l01In.calls a0 0 393215 true _ A2.out).mono ?_);rintro e w' ⟨rfl, ⟨nd, rfl⟩⟩;refine ⟨_, rfl, ?_⟩))
  go_ret
  exact ⟨by first | rfl | (simp; done) | (simp [*]; done), by repeat (first | exact Drawn0.refl _ | apply Drawn0.step)⟩
 ·replace c3 := Bool.eq_false_iff.mpr c3;subst c3;replace H := iF H;obtain rfl := Option.some.inj H;go_enter Try.func162, Try.ntmps162
  go_wp2_with (first|((with_reducible refine gF 93 ?_);refine goZ (some 4) Try.func93 #[.int .i64 a0, .int .i64 0, .int .i64 393215] ?_;(with_reducible refine (spec_l01In.calls a0 0 393215 false _ A2.out).mono ?_);rintro e w' ⟨rfl, ⟨nd, rfl⟩⟩;refine ⟨_, rfl, ?_⟩))
  go_ret
  exact ⟨by first | rfl | (simp; done) | (simp [*]; done), by repeat (first | exact Drawn0.refl _ | apply Drawn0.step)⟩
def spec_Stricter.f (a0 : Int) (a1 : Int) : Option (Int) := (spec_ActionIn.f a1).bind fun t200 => ((spec_ActionIn.f a0).bind fun t201 => (if t200 < t201 then (some a1) else (some a0)))
set_option maxHeartbeats 8000000 in
set_option maxRecDepth 100000 in
theorem spec_Stricter.calls (a0 : Int) (a1 : Int) (r : Int) (w : World) (h : spec_Stricter.f a0 a1 = some r) :
 Calls Try.prog 132 #[.int .i64 a0, .int .i64 a1] w fun e w' => e = .returned (.int .i64 r) ∧ Drawn0 w w' := by
 have H : ((spec_ActionIn.f a1).bind fun t200 => ((spec_ActionIn.f a0).bind fun t201 => (if t200 < t201 then (some a1) else (some a0)))) = some r := h
 clear h;replace H := bE H;obtain ⟨t200, A3, H⟩ := H;replace H := bE H;obtain ⟨t201, A4, H⟩ := H;by_cases c5 : t200 < t201
 ·rw [if_pos c5] at H;have c5b0 := decide_eq_true c5;clear c5;obtain rfl := Option.some.inj H;go_enter Try.func132, Try.ntmps132
  go_wp2_with (first|((with_reducible refine gF 162 ?_);refine goZ (some 6) Try.func162 #[.int .i64 a1] ?_;(with_reducible refine (spec_ActionIn.calls a1 t200 _ A3.out).mono ?_);rintro e w' ⟨rfl, ⟨nd, rfl⟩⟩;refine ⟨_, rfl, ?_⟩)|((with_reducible refine gF 162 ?_);refine goZ (some 8) Try.func162 #[.int .i64 a0] ?_;(with_reducible refine (spec_ActionIn.calls a0 t201 _ A4.out).mono ?_);rintro e w' ⟨rfl, ⟨nd, rfl⟩⟩;refine ⟨_, rfl, ?_⟩))
  go_ret
  exact ⟨by first | rfl | (simp; done) | (simp [*]; done), by repeat (first | exact Drawn0.refl _ | apply Drawn0.step)⟩
 ·rw [if_neg c5] at H;have c5b0 := decide_eq_false c5;clear c5;obtain rfl := Option.some.inj H;go_enter Try.func132, Try.ntmps132
  go_wp2_with (first|((with_reducible refine gF 162 ?_);refine goZ (some 6) Try.func162 #[.int .i64 a1] ?_;(with_reducible refine (spec_ActionIn.calls a1 t200 _ A3.out).mono ?_);rintro e w' ⟨rfl, ⟨nd, rfl⟩⟩;refine ⟨_, rfl, ?_⟩)|((with_reducible refine gF 162 ?_);refine goZ (some 8) Try.func162 #[.int .i64 a0] ?_;(with_reducible refine (spec_ActionIn.calls a0 t201 _ A4.out).mono ?_);rintro e w' ⟨rfl, ⟨nd, rfl⟩⟩;refine ⟨_, rfl, ?_⟩))
  go_ret
  exact ⟨by first | rfl | (simp; done) | (simp [*]; done), by repeat (first | exact Drawn0.refl _ | apply Drawn0.step)⟩
mutual
def spec_RunStack.j0 : Nat → List (List (S118)) → Bool → Int → Int → List (S38) → Option (Int)
  | 0, _, _, _, _, _ => none
  | k + 1, x0, x16, x203000, x203001, x203002 => if x16 = true then (some 0) else ((spec_ResultOf.f 5 0).bind fun t205 => (spec_RunStack.l0 k x0 t205 0 x203000 x203001 x203002))
def spec_RunStack.l0 : Nat → List (List (S118)) → Int → Int → Int → Int → List (S38) → Option (Int)
  | 0, _, _, _, _, _, _ => none
  | k + 1, x0, x5, x6, x203000, x203001, x203002 => if x6 < (x0.length : Int) then (if 0 ≤ x6 then ((spec_Run.f k (rd_L4 x0 x6) x203000 x203001 x203002).bind fun bt207 => ((spec_Stricter.f bt207.1 x5).bind fun t209 => (spec_RunStack.l0 k x0 t209 (wrap64 (x6 + 1)) x203000 x203001 x203002))) else (none)) else (some x5)
end
def spec_RunStack.f (k : Nat) (l0 : List (List (S118))) (a1_0 : Int) (a1_1 : Int) (l1_2 : List (S38)) : Option (Int) := (spec_StackOk.f k l0).bind fun t203 => (if t203 = true then ((spec_CallOk.f k a1_0 a1_1 l1_2).bind fun t204 => (spec_RunStack.j0 k l0 (!t204) a1_0 a1_1 l1_2)) else (spec_RunStack.j0 k l0 true a1_0 a1_1 l1_2))
def spec_RunStack.T7 : Bool × List (List Nat × List Nat) := (true, [([], []), ([], []), ([0, 1], [0, 1]), ([2], [2]), ([], []), ([3, 4], [3, 4]), ([5], [5]), ([6], [6]), ([6], [6]), ([7, 5, 0, 1, 2, 3, 4, 5, 6, 7], [7]), ([8, 9, 0, 1, 2, 3, 4, 5, 6, 7, 8, 9], [8])])
def spec_RunStack.B7 : List Nat := [0, 0, 3, 7, 0, 31, 63, 127, 127, 255, 1023]
theorem spec_RunStack.tab7 : rtab .any (opsOf Try.f67 7) = spec_RunStack.T7 := by kernel_rfl
theorem spec_RunStack.bits7 : waitsOk spec_RunStack.T7.2 spec_RunStack.B7 = true := by kernel_rfl
theorem q6x0 {P : Prop} (h : P := by 
 rintro w' ⟨s0, s1, s2, s3⟩
 go_simp
 with_reducible rfl) : P := h
set_option maxHeartbeats 8000000 in
set_option maxRecDepth 100000 in
theorem spec_RunStack.calls (k : Nat) (A0 : Option Addr) (c0 : Nat) (l0 : List (List (S118))) (a1_0 : Int) (a1_1 : Int) (A1_2 : Option Addr) (c1_2 : Nat) (l1_2 : List (S38)) (r : Int) (w : World) (hr0 : Kd.C (Kd.slice 118 k118) w A0 l0.length l0) (hc0 : l0.length ≤ c0) (hr1_2 : Kd.C k38 w A1_2 l1_2.length l1_2) (hc1_2 : l1_2.length ≤ c1_2) (h : spec_RunStack.f k l0 a1_0 a1_1 l1_2 = some r) :
 Calls Try.prog 67 #[.slice A0 l0.length c0, .agg #[.int .i64 a1_0, .int .i64 a1_1, .slice A1_2 l1_2.length c1_2]] w fun e w' => e = .returned (.int .i64 r) ∧ Below w.heap.size w w' := by
 have hu44 := Try.underlying44;have HR0 := Aside0.mk hr0;have HC0 := Aside0.mk hc0;clear hr0 hc0;have HR1_2 := Aside0.mk hr1_2;have HC1_2 := Aside0.mk hc1_2;clear hr1_2 hc1_2;have HB := Aside0.mk (Below.refl w.heap.size w)
 have H : ((spec_StackOk.f k l0).bind fun t203 => (if t203 = true then ((spec_CallOk.f k a1_0 a1_1 l1_2).bind fun t204 => (spec_RunStack.j0 k l0 (!t204) a1_0 a1_1 l1_2)) else (spec_RunStack.j0 k l0 true a1_0 a1_1 l1_2))) = some r := h
 clear h;have HC3 := Aside0.mk H;clear H;go_enter Try.func67, Try.ntmps67
 go_upto_region 1 with (first|((with_reducible refine gN 3 ?_);refine boxZ 3 #[.int .i64 a1_0, .int .i64 a1_1, .slice A1_2 l1_2.length c1_2] 44 ?_;intro gb202 hg w4 hbox hb;have BK202 := Aside0.mk (hbox);have GW202 := gS hg;have GE202 := gS hg;replace HB := sB hb;clear hb hbox hg))
 (try simp only [Act.put, List.setIfInBounds_toArray, List.set_cons_zero, List.set_cons_succ])
 go_cut [16] (fun v16 wc => ∃ (kq : Nat) (x16_2 : Bool), v16 = .bool x16_2 ∧ Aside0 (spec_RunStack.j0 kq l0 x16_2 a1_0 a1_1 l1_2 = some r) ∧ Aside0 (kq ≤ k) ∧ Aside0 (wc.heap[gb202]? = some (.cells #[.int .i64 a1_0, .int .i64 a1_1, (.slice A1_2 l1_2.length c1_2)] 44 (0, 0))) ∧ Aside0 (Below w.heap.size w wc))
 case first =>
  have H := HC3.out;clear HC3;replace H := bE H;obtain ⟨t203, A5, H⟩ := H;by_cases c6 : t203 = true
  ·subst c6;replace H := iT H;replace H := bE H;obtain ⟨t204, A7, H⟩ := H;have H' := Aside0.mk H;clear H
   go_wp2_with (first|((with_reducible refine gF 16 ?_);refine goZ (some 10) Try.func16 #[.slice A0 l0.length c0] ?_;(with_reducible refine (spec_StackOk.calls k _ _ l0 true _ ?side1 ?side2 A5.out).mono ?_);(case side1 => exact cC (Kd.C_below HR0.out HB.out));(case side2 => exact HC0.out);rintro e w8 ⟨rfl, hb⟩;refine ⟨_, rfl, ?_⟩;replace BK202 := kB BK202 hb;replace HB := sB hb;(try clear hb);obtain ⟨hcz9_0, hcz9_1, hcz9_2, hfz9_0, hfz9_1, hfz9_2⟩ := cz3 BK202)|(go_at_call 73;(with_reducible refine (spec_CallOk.calls k a1_0 a1_1 _ _ l1_2 t204 _ ?side1 ?side2 A7.out).mono ?_);(case side1 => exact cC (Kd.C_below HR1_2.out HB.out));(case side2 => exact HC1_2.out);rintro e w10 ⟨rfl, hb⟩;replace BK202 := kB BK202 hb;replace HB := sB hb;(try clear hb)))
   go_meet
   case rel => exact ⟨_, (!t204), rS, H', ⟨oL⟩, ⟨mK BK202⟩, ⟨cB⟩⟩
  ·replace c6 := Bool.eq_false_iff.mpr c6;subst c6;replace H := iF H;have H' := Aside0.mk H;clear H
   go_wp2_with (first|((with_reducible refine gF 16 ?_);refine goZ (some 10) Try.func16 #[.slice A0 l0.length c0] ?_;(with_reducible refine (spec_StackOk.calls k _ _ l0 false _ ?side1 ?side2 A5.out).mono ?_);(case side1 => exact cC (Kd.C_below HR0.out HB.out));(case side2 => exact HC0.out);rintro e w11 ⟨rfl, hb⟩;refine ⟨_, rfl, ?_⟩;replace BK202 := kB BK202 hb;replace HB := sB hb;(try clear hb)))
   go_meet
   case rel => exact ⟨_, (true), rS, H', ⟨oL⟩, ⟨mK BK202⟩, ⟨cB⟩⟩
 case rest =>
  clear HC3;(try clear c6);(try clear hcz9_0);(try clear hcz9_1);(try clear hcz9_2);(try clear hfz9_0);(try clear hfz9_1);(try clear hfz9_2);obtain ⟨kq, x16_2, rfl, HA, HJ2, BK202, HB⟩ := hcut
  cases kq with
  | zero => exact absurd HA.out (by simp [spec_RunStack.j0])
  | succ kj2 =>
   have H := HA.out;clear HA;simp only [spec_RunStack.j0] at H;by_cases c12 : x16_2 = true
   ·subst c12;replace H := iT H;obtain rfl := Option.some.inj H;go_wp2;go_ret;exact ⟨rE, cB⟩
   ·replace c12 := Bool.eq_false_iff.mpr c12;subst c12;replace H := iF H;replace H := bE H;obtain ⟨t205, A13, H⟩ := H;have H' := Aside0.mk H;clear H
    go_wp2_with (first|((with_reducible refine gF 130 ?_);refine goZ (some 17) Try.func130 #[.int .i64 5, .int .i64 0] ?_;(with_reducible refine (spec_ResultOf.calls 5 0 t205 _ A13.out).mono ?_);rintro e w' ⟨rfl, ⟨nd, rfl⟩⟩;refine ⟨_, rfl, ?_⟩))
    go_loopg [5, 6] kj2 (fun kq v5 v6 w' => ∃ (x5_2 : Int) (x6_2 : Int), v5 = .int .i64 x5_2 ∧ v6 = .int .i64 x6_2 ∧ Aside0 (spec_RunStack.l0 kq l0 x5_2 x6_2 a1_0 a1_1 l1_2 = some r) ∧ Aside0 (kq ≤ kj2) ∧ Aside0 (w'.heap[gb202]? = some (.cells #[.int .i64 a1_0, .int .i64 a1_1, (.slice A1_2 l1_2.length c1_2)] 44 (0, 0))) ∧ Aside0 (Below w.heap.size w w'))
    case atStart => exact ⟨(t205), (0), rS, rS, H', ⟨Nat.le_refl _⟩, ⟨mK BK202⟩, ⟨cB⟩⟩
    case round =>
     clear H';(try clear c6);(try clear c12);(try clear hcz9_0);(try clear hcz9_1);(try clear hcz9_2);(try clear hfz9_0);(try clear hfz9_1);(try clear hfz9_2);obtain ⟨x5_2, x6_2, rfl, rfl, HA, HK2, BK202, HB⟩ := hrel
     cases gk with
     | zero => exact absurd HA.out (by simp [spec_RunStack.l0])
     | succ k2 =>
      have H := HA.out;clear HA;simp only [spec_RunStack.l0] at H;by_cases c14 : x6_2 < (l0.length : Int)
      ·rw [if_pos c14] at H;have c14b0 := decide_eq_true c14;clear c14;replace H := gD H;obtain ⟨c15b0, H⟩ := H;replace H := bE H;obtain ⟨⟨t207, t208⟩, A16, H⟩ := H;(try dsimp only at H);replace H := bE H;obtain ⟨t209, A17, H⟩ := H;have H' := Aside0.mk H;clear H
       try go_wp2
       have n0_ := Aside0.mk (blk_drew BK202.out);have n1_ := Aside0.mk (below_drew1 HB.out);clear BK202 HB;have BK202 := n0_;have HB := n1_;clear n0_ n1_;have p206 : 0 ≤ (x6_2 : Int) := dA;have q206 : x6_2 < (l0.length : Int) := dA;obtain ⟨ad206, A206_0, c206_0, e206, hx206_0, hl206_0, hi206_0⟩ := at_L4 HR0.out x6_2 p206 q206;have hw206_0 := hx206_0;cases e206;replace hx206_0 := (bc HB hx206_0 :);have HR206_0 := Aside0.mk hi206_0;have HC206_0 := Aside0.mk hl206_0;clear hi206_0 hl206_0;replace p206 := eq_true p206;replace q206 := eq_true q206
       refine start_ (n := 11) (S := fun w' => w'.cell? ⟨gb202, 0, none⟩ = some (.int .i64 a1_0) ∧ w'.cell? ⟨gb202, 1, none⟩ = some (.int .i64 a1_1) ∧ w'.cell? ⟨gb202, 2, none⟩ = some (.slice A1_2 l1_2.length c1_2) ∧ w'.cell? (ad206.add (x6_2).toNat) = some (.slice A206_0 (rd_L4 l0 x6_2).length c206_0)) (ds := []) #[false, false, false, false, false, false, false, false, false, false, false] (by kernel_rfl) rfl rfl ⟨(blk_cell BK202.out 0).trans rfl, (blk_cell BK202.out 1).trans rfl, (blk_cell BK202.out 2).trans rfl, ((bc HB hw206_0 :))⟩ (fun hHeld => ?_); refine with_tabW spec_RunStack.tab7 spec_RunStack.bits7 (fun HT_ HW_ => ?_)
       generalize wr.drew = w18 at BK202 HB HR206_0 hx206_0 hHeld ⊢;refine pureZ 0 (some 25) (msk 11 1) HT_.out ?_;refine pureZ 1 (some 26) (msk 11 3) HT_.out ?_;refine pureZ 2 (some 27) (msk 11 7) HT_.out ?_;refine takeZ 3 (some 28) (msk 11 15) HT_.out HW_.out hHeld (hy := q6x0) (h := ?_);refine takeZ 4 (some 29) (msk 11 31) HT_.out HW_.out hHeld (hy := q6x0) (h := ?_)
       refine one_Z 5 (some 30) (msk 11 63) HT_.out fun K hK => ?_
       refine goes_ Try.func131 (by kernel_rfl) rfl #[.slice A206_0 (rd_L4 l0 x6_2).length c206_0, .agg #[.int .i64 a1_0, .int .i64 a1_1, .slice A1_2 l1_2.length c1_2]] (by rfl) rfl rfl (by (try simp only [List.map_toArray, List.map_cons, List.map_nil]); first | done | rfl | (simp only [List.length_drop, List.length_take]; rfl)) ?_
       with_reducible refine (spec_Run.calls k2 _ _ (rd_L4 l0 x6_2) a1_0 a1_1 _ _ l1_2 t207 t208 _ ?side1 ?side2 ?side3 ?side4 A16.out).mono ?_
       (case side1 => exact cC (Kd.C_below HR206_0.out HB.out))
       (case side2 => exact HC206_0.out)
       (case side3 => exact cC (Kd.C_below HR1_2.out HB.out))
       (case side4 => exact HC1_2.out)
       rintro e w19 ⟨rfl, hb⟩;refine ⟨_, rfl, ?_⟩;have n0_ := kB BK202 hb;have n1_ := sB hb;clear BK202 HB;have BK202 := n0_;have HB := n1_;clear n0_ n1_;(try clear hb)
       refine hK.out _ _ ⟨(blk_cell BK202.out 0).trans rfl, (blk_cell BK202.out 1).trans rfl, (blk_cell BK202.out 2).trans rfl, ((bc HB hw206_0 :))⟩ (fun hHeld => ?_)
       clear hK K;refine norm_ (a' := ?_) ?_ ?_;rotate_left
       ·show Act.put _ (some 30) _ = _;simp only [Act.put, List.setIfInBounds_toArray, List.set_cons_zero, List.set_cons_succ, i64_w, i32_w];rfl
       refine pureZ 6 (some 24) (msk 11 127) HT_.out ?_;refine pureZ 7 (some 31) (msk 11 255) HT_.out ?_;refine pureZ 8 (some 32) (msk 11 511) HT_.out ?_;refine pureZ 9 (some 7) (msk 11 1023) HT_.out ?_;refine pureZ 10 (some 8) (msk 11 2047) HT_.out ?_
       refine done_ (done_of HT_.out (by kernel_rfl)) ?_
       try go_wp2_with (first|((with_reducible refine gF 132 ?_);refine goZ (some 35) Try.func132 #[.int .i64 t207, .int .i64 x5_2] ?_;(with_reducible refine (spec_Stricter.calls t207 x5_2 t209 _ A17.out).mono ?_);rintro e w' ⟨rfl, ⟨nd, rfl⟩⟩;refine ⟨_, rfl, ?_⟩))
       go_roundg k2
       case measure => have := HJ2.out; have := HK2.out; omega
       case rel => exact ⟨(t209), (wrap64 (x6_2 + 1)), rS, rS, H', ⟨by have := HJ2.out; have := HK2.out; omega⟩, ⟨mK BK202⟩, ⟨cB⟩⟩
      ·rw [if_neg c14] at H;have c14b0 := decide_eq_false c14;clear c14;obtain rfl := Option.some.inj H;go_wp2;go_ret;exact ⟨rE, cB⟩
def impl_within.f (a0 : Int) (a1 : Int) (a2 : Int) : Option (Bool) := if a0 ≥ a1 then (some (decide (a0 ≤ a2))) else (some false)
set_option maxHeartbeats 8000000 in
set_option maxRecDepth 100000 in
theorem impl_within.calls (a0 : Int) (a1 : Int) (a2 : Int) (r : Bool) (w : World) (h : impl_within.f a0 a1 a2 = some r) :
 Calls Try.prog 96 #[.int .i64 a0, .int .i64 a1, .int .i64 a2] w fun e w' => e = .returned (.bool r) ∧ Drawn0 w w' := by
 have H : (if a0 ≥ a1 then (some (decide (a0 ≤ a2))) else (some false)) = some r := h;clear h;by_cases c4 : a0 ≥ a1
 ·rw [if_pos c4] at H;have c4b0 : decide (a1 ≤ a0) = true := decide_eq_true c4;clear c4;obtain rfl := Option.some.inj H;go_enter Try.func96, Try.ntmps96;go_wp2;go_ret
  exact ⟨by first | rfl | (simp; done) | (simp [*]; done), by repeat (first | exact Drawn0.refl _ | apply Drawn0.step)⟩
 ·rw [if_neg c4] at H;have c4b0 : decide (a1 ≤ a0) = false := decide_eq_false c4;clear c4;obtain rfl := Option.some.inj H;go_enter Try.func96, Try.ntmps96;go_wp2;go_ret
  exact ⟨by first | rfl | (simp; done) | (simp [*]; done), by repeat (first | exact Drawn0.refl _ | apply Drawn0.step)⟩
def impl_HalfOk.f (a0 : Int) : Option (Bool) := (impl_within.f a0 0 4294967295).bind fun t210 => (some t210)
set_option maxHeartbeats 8000000 in
set_option maxRecDepth 100000 in
theorem impl_HalfOk.calls (a0 : Int) (r : Bool) (w : World) (h : impl_HalfOk.f a0 = some r) :
 Calls Try.prog 105 #[.int .i64 a0] w fun e w' => e = .returned (.bool r) ∧ Drawn0 w w' := by
 have H : ((impl_within.f a0 0 4294967295).bind fun t210 => (some t210)) = some r := h
 clear h;replace H := bE H;obtain ⟨t210, A2, H⟩ := H;obtain rfl := Option.some.inj H;go_enter Try.func105, Try.ntmps105
 go_wp2_with (first|((with_reducible refine gF 96 ?_);refine goZ (some 4) Try.func96 #[.int .i64 a0, .int .i64 0, .int .i64 4294967295] ?_;(with_reducible refine (impl_within.calls a0 0 4294967295 t210 _ A2.out).mono ?_);rintro e w' ⟨rfl, ⟨nd, rfl⟩⟩;refine ⟨_, rfl, ?_⟩))
 go_ret
 exact ⟨by first | rfl | (simp; done) | (simp [*]; done), by repeat (first | exact Drawn0.refl _ | apply Drawn0.step)⟩
def impl_Ins_asks.f (a0_0 : Int) (a0_1 : Int) (a0_2 : Int) (a0_3 : Int) : Option (Bool) := (impl_within.f a0_0 3 6).bind fun t212 => (some t212)
set_option maxHeartbeats 8000000 in
set_option maxRecDepth 100000 in
theorem impl_Ins_asks.calls (a0_0 : Int) (a0_1 : Int) (a0_2 : Int) (a0_3 : Int) (r : Bool) (w : World) (h : impl_Ins_asks.f a0_0 a0_1 a0_2 a0_3 = some r) :
 Calls Try.prog 121 #[.agg #[.int .i64 a0_0, .int .i64 a0_1, .int .i64 a0_2, .int .i64 a0_3]] w fun e w' => e = .returned (.bool r) ∧ Below w.heap.size w w' := by
 have hu118 := Try.underlying118;have HB := Aside0.mk (Below.refl w.heap.size w)
 have H : ((impl_within.f a0_0 3 6).bind fun t212 => (some t212)) = some r := h
 clear h;replace H := bE H;obtain ⟨t212, A2, H⟩ := H;obtain rfl := Option.some.inj H;go_enter Try.func121, Try.ntmps121
 go_wp2_with (first|((with_reducible refine gN 1 ?_);refine boxZ 1 #[.int .i64 a0_0, .int .i64 a0_1, .int .i64 a0_2, .int .i64 a0_3] 118 ?_;intro gb211 hg w3 hbox hb;have BK211 := Aside0.mk (hbox);have GW211 := gS hg;have GE211 := gS hg;replace HB := sB hb;clear hb hbox hg;obtain ⟨hcz4_0, hcz4_1, hcz4_2, hcz4_3, hfz4_0, hfz4_1, hfz4_2, hfz4_3⟩ := cz4 BK211)|((with_reducible refine gF 96 ?_);refine goZ (some 5) Try.func96 #[.int .i64 a0_0, .int .i64 3, .int .i64 6] ?_;(with_reducible refine (impl_within.calls a0_0 3 6 t212 _ A2.out).mono ?_);rintro e w' ⟨rfl, ⟨nd, rfl⟩⟩;refine ⟨_, rfl, ?_⟩))
 go_ret;exact ⟨rE, cB⟩
end Go.Proofs.Ytiinjipfhmgheaa.PFnExactRunStack
