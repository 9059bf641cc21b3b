import Derived.Test.YtiinjipfhmgheaaPFnExactRunStacky0
import Derived.Test.YtiinjipfhmgheaaPFnExactRunStacky6
import Derived.Test.YtiinjipfhmgheaaPFnExactRunStacky7
import Derived.Test.YtiinjipfhmgheaaPFnExactRunStacky8
namespace Go.Proofs.Ytiinjipfhmgheaa.PFnExactRunStack
open Go.RowKit Go.Proofs.YtiinjipfhmgheaaW.PrintWords Go.Proofs.YtiinjipfhmgheaaW.PrintLast Go.Proofs.YtiinjipfhmgheaaW.PrintMore Go.Proofs.YtiinjipfhmgheaaW.Z
attribute [local go_sem] max2_int min2_int max_two min_two max_three min_three max_four min_four
set_option linter.unusedVariables false
set_option linter.unusedSimpArgs false
mutual
def impl_Run.j0 : Nat → List (S118) → Bool → Int → Int → List (S38) → Option (Int × Int)
  | 0, _, _, _, _, _ => none
  | k + 1, x0, x17, x250000, x250001, x250002 => if x17 = true then (some (0, 0)) else (impl_Run.l0 k x0 0 0 1 x250000 x250001 x250002)
def impl_Run.l0 : Nat → List (S118) → Int → Int → Int → Int → Int → List (S38) → Option (Int × Int)
  | 0, _, _, _, _, _, _, _ => none
  | k + 1, x0, x6, x7, x8, x250000, x250001, x250002 => if 0 ≤ x7 then (if x7 < (x0.length : Int) then (if ((rd_T118 x0 x7).f0) = 1 then ((impl_FieldAt.f k x250000 x250001 x250002 ((rd_T118 x0 x7).f1)).bind fun bt254 => (impl_Run.l0 k x0 bt254.1 (wrap64 (x7 + 1)) (wrap64 (x8 + 1)) x250000 x250001 x250002)) else (if ((rd_T118 x0 x7).f0) = 2 then (impl_Run.l0 k x0 (Go.bits .and .i64 x6 ((rd_T118 x0 x7).f1)) (wrap64 (x7 + 1)) (wrap64 (x8 + 1)) x250000 x250001 x250002) else (if ((rd_T118 x0 x7).f0) = 7 then (impl_Run.l0 k x0 x6 (wrap64 ((wrap64 (x7 + 1)) + ((rd_T118 x0 x7).f1))) (wrap64 (x8 + 1)) x250000 x250001 x250002) else (if ((rd_T118 x0 x7).f0) = 8 then (some ((rd_T118 x0 x7).f1, x8)) else ((impl_Ins_holds.f ((rd_T118 x0 x7).f0) ((rd_T118 x0 x7).f1) ((rd_T118 x0 x7).f2) ((rd_T118 x0 x7).f3) x6).bind fun t256 => (if t256 = true then (impl_Run.l0 k x0 x6 (wrap64 ((wrap64 (x7 + 1)) + ((rd_T118 x0 x7).f2))) (wrap64 (x8 + 1)) x250000 x250001 x250002) else (impl_Run.l0 k x0 x6 (wrap64 ((wrap64 (x7 + 1)) + ((rd_T118 x0 x7).f3))) (wrap64 (x8 + 1)) x250000 x250001 x250002))))))) else (none)) else (none)
end
def impl_Run.f (k : Nat) (l0 : List (S118)) (a1_0 : Int) (a1_1 : Int) (l1_2 : List (S38)) : Option (Int × Int) := (impl_CheckProgram.f k l0).bind fun t250 => (if t250 = true then ((impl_CallOk.f k a1_0 a1_1 l1_2).bind fun t251 => (impl_Run.j0 k l0 (!t251) a1_0 a1_1 l1_2)) else (impl_Run.j0 k l0 true a1_0 a1_1 l1_2))
set_option maxHeartbeats 8000000 in
set_option maxRecDepth 100000 in
theorem impl_Run.calls (k : Nat) (A0 : Option Addr) (c0 : Nat) (l0 : List (S118)) (a1_0 : Int) (a1_1 : Int) (A1_2 : Option Addr) (c1_2 : Nat) (l1_2 : List (S38)) (r1 : Int) (r2 : Int) (w : World) (hr0 : Kd.C k118 w A0 l0.length l0) (hc0 : l0.length ≤ c0) (hr1_2 : Kd.C k38 w A1_2 l1_2.length l1_2) (hc1_2 : l1_2.length ≤ c1_2) (h : impl_Run.f k l0 a1_0 a1_1 l1_2 = some (r1, r2)) :
 Calls Try.prog 134 #[.slice A0 l0.length c0, .agg #[.int .i64 a1_0, .int .i64 a1_1, .slice A1_2 l1_2.length c1_2]] w fun e w' => e = .returned (.tuple #[.int .i64 r1, .int .i64 r2]) ∧ Below w.heap.size w w' := by
 have hu44 := Try.underlying44;have hu118 := Try.underlying118;have HR0 := Aside0.mk hr0;have HC0 := Aside0.mk hc0;clear hr0 hc0;have HR1_2 := Aside0.mk hr1_2;have HC1_2 := Aside0.mk hc1_2;clear hr1_2 hc1_2;have HB := Aside0.mk (Below.refl w.heap.size w)
 have H : ((impl_CheckProgram.f k l0).bind fun t250 => (if t250 = true then ((impl_CallOk.f k a1_0 a1_1 l1_2).bind fun t251 => (impl_Run.j0 k l0 (!t251) a1_0 a1_1 l1_2)) else (impl_Run.j0 k l0 true a1_0 a1_1 l1_2))) = some (r1, r2) := h
 clear h;have HC3 := Aside0.mk H;clear H;go_enter Try.func134, Try.ntmps134
 go_upto_region 1 with (first|((with_reducible refine gN 3 ?_);refine boxZ 3 #[.int .i64 a1_0, .int .i64 a1_1, .slice A1_2 l1_2.length c1_2] 44 ?_;intro gb249 hg w4 hbox hb;have BK249 := Aside0.mk (hbox);have GW249 := gS hg;have GE249 := gS hg;replace HB := sB hb;clear hb hbox hg))
 (try simp only [Act.put, List.setIfInBounds_toArray, List.set_cons_zero, List.set_cons_succ])
 go_cut [17] (fun v17 wc => ∃ (kq : Nat) (x17_2 : Bool), v17 = .bool x17_2 ∧ Aside0 (impl_Run.j0 kq l0 x17_2 a1_0 a1_1 l1_2 = some (r1, r2)) ∧ Aside0 (kq ≤ k) ∧ Aside0 (wc.heap[gb249]? = some (.cells #[.int .i64 a1_0, .int .i64 a1_1, (.slice A1_2 l1_2.length c1_2)] 44 (0, 0))) ∧ Aside0 (Below w.heap.size w wc))
 case first =>
  have H := HC3.out;clear HC3;replace H := bE H;obtain ⟨t250, A5, H⟩ := H;by_cases c6 : t250 = true
  ·subst c6;replace H := iT H;replace H := bE H;obtain ⟨t251, A7, H⟩ := H;have H' := Aside0.mk H;clear H
   go_wp2_with (first|((with_reducible refine gF 70 ?_);refine goZ (some 11) Try.func70 #[.slice A0 l0.length c0] ?_;(with_reducible refine (impl_CheckProgram.calls k _ _ l0 true _ ?side1 ?side2 A5.out).mono ?_);(case side1 => exact cC (Kd.C_below HR0.out HB.out));(case side2 => exact HC0.out);rintro e w8 ⟨rfl, hb⟩;refine ⟨_, rfl, ?_⟩;replace BK249 := kB BK249 hb;replace HB := sB hb;(try clear hb);obtain ⟨hcz9_0, hcz9_1, hcz9_2, hfz9_0, hfz9_1, hfz9_2⟩ := cz3 BK249)|(go_at_call 79;(with_reducible refine (impl_CallOk.calls k a1_0 a1_1 _ _ l1_2 t251 _ ?side1 ?side2 A7.out).mono ?_);(case side1 => exact cC (Kd.C_below HR1_2.out HB.out));(case side2 => exact HC1_2.out);rintro e w10 ⟨rfl, hb⟩;replace BK249 := kB BK249 hb;replace HB := sB hb;(try clear hb)))
   go_meet
   case rel => exact ⟨_, (!t251), rS, H', ⟨oL⟩, ⟨mK BK249⟩, ⟨cB⟩⟩
  ·replace c6 := Bool.eq_false_iff.mpr c6;subst c6;replace H := iF H;have H' := Aside0.mk H;clear H
   go_wp2_with (first|((with_reducible refine gF 70 ?_);refine goZ (some 11) Try.func70 #[.slice A0 l0.length c0] ?_;(with_reducible refine (impl_CheckProgram.calls k _ _ l0 false _ ?side1 ?side2 A5.out).mono ?_);(case side1 => exact cC (Kd.C_below HR0.out HB.out));(case side2 => exact HC0.out);rintro e w11 ⟨rfl, hb⟩;refine ⟨_, rfl, ?_⟩;replace BK249 := kB BK249 hb;replace HB := sB hb;(try clear hb)))
   go_meet
   case rel => exact ⟨_, (true), rS, H', ⟨oL⟩, ⟨mK BK249⟩, ⟨cB⟩⟩
 case rest =>
  clear HC3;(try clear c6);(try clear hcz9_0);(try clear hcz9_1);(try clear hcz9_2);(try clear hfz9_0);(try clear hfz9_1);(try clear hfz9_2);obtain ⟨kq, x17_2, rfl, HA, HJ2, BK249, HB⟩ := hcut
  cases kq with
  | zero => exact absurd HA.out (by simp [impl_Run.j0])
  | succ kj2 =>
   have H := HA.out;clear HA;simp only [impl_Run.j0] at H;by_cases c12 : x17_2 = true
   ·subst c12;replace H := iT H;simp only [Option.some.injEq, Prod.mk.injEq] at H;obtain ⟨rfl, rfl⟩ := H;go_wp2;go_ret2;exact ⟨rE, cB⟩
   ·replace c12 := Bool.eq_false_iff.mpr c12;subst c12;replace H := iF H;have H' := Aside0.mk H;clear H;go_wp2
    go_loopg [6, 7, 8] kj2 (fun kq v6 v7 v8 w' => ∃ (x6_2 : Int) (x7_2 : Int) (x8_2 : Int), v6 = .int .i64 x6_2 ∧ v7 = .int .i64 x7_2 ∧ v8 = .int .i64 x8_2 ∧ Aside0 (impl_Run.l0 kq l0 x6_2 x7_2 x8_2 a1_0 a1_1 l1_2 = some (r1, r2)) ∧ Aside0 (kq ≤ kj2) ∧ Aside0 (w'.heap[gb249]? = some (.cells #[.int .i64 a1_0, .int .i64 a1_1, (.slice A1_2 l1_2.length c1_2)] 44 (0, 0))) ∧ Aside0 (Below w.heap.size w w'))
    case atStart => exact ⟨(0), (0), (1), rS, rS, rS, H', ⟨Nat.le_refl _⟩, ⟨mK BK249⟩, ⟨cB⟩⟩
    case round =>
     clear H';(try clear c6);(try clear c12);(try clear hcz9_0);(try clear hcz9_1);(try clear hcz9_2);(try clear hfz9_0);(try clear hfz9_1);(try clear hfz9_2);obtain ⟨x6_2, x7_2, x8_2, rfl, rfl, rfl, HA, HK2, BK249, HB⟩ := hrel
     cases gk with
     | zero => exact absurd HA.out (by simp [impl_Run.l0])
     | succ k2 =>
      have H := HA.out;clear HA;simp only [impl_Run.l0] at H;replace H := gD H;obtain ⟨c13b0, H⟩ := H;replace H := gD H;obtain ⟨c14b0, H⟩ := H;by_cases c15 : ((rd_T118 l0 x7_2).f0) = 1
      ·rw [if_pos c15] at H;obtain ⟨c15b0, c15b1⟩ := eT c15;clear c15;replace H := bE H;obtain ⟨⟨t254, t255⟩, A16, H⟩ := H;(try dsimp only at H);have H' := Aside0.mk H;clear H;have p252 : 0 ≤ (x7_2 : Int) := dA;have q252 : x7_2 < (l0.length : Int) := dA;obtain ⟨ad252, e252, hx252_0, hx252_1, hx252_2, hx252_3⟩ := at_T118 HR0.out x7_2 p252 q252;cases e252;replace hx252_0 := (bc HB hx252_0 :);replace hx252_1 := (bc HB hx252_1 :);replace hx252_2 := (bc HB hx252_2 :);replace hx252_3 := (bc HB hx252_3 :);replace p252 := eq_true p252;replace q252 := eq_true q252
       go_wp2_with (first|((with_reducible refine gN 9 ?_);refine boxZ 9 #[.int .i64 0, .int .i64 0, .int .i64 0, .int .i64 0] 118 ?_;intro gb253 hg w17 hbox hb;have BK253 := Aside0.mk (hbox);have GW253 := gS hg;have GE253 := gS hg;replace HB := sB hb;have NB249_253 := nL hg BK249;have NB253_249 := nG hg BK249;replace BK249 := kB BK249 hb;clear hb hbox hg;have hnb18 := NB253_249.out;have hnc18 := NB249_253.out;obtain ⟨hcz19_0, hcz19_1, hcz19_2, hcz19_3, hfz19_0, hfz19_1, hfz19_2, hfz19_3⟩ := cz4 BK253;obtain ⟨hcz20_0, hcz20_1, hcz20_2, hfz20_0, hfz20_1, hfz20_2⟩ := cz3 BK249)|((with_reducible refine gF 163 ?_);refine goZ (some 38) Try.func163 #[.agg #[.int .i64 a1_0, .int .i64 a1_1, .slice A1_2 l1_2.length c1_2], .int .i64 ((rd_T118 l0 x7_2).f1)] ?_;(with_reducible refine (impl_FieldAt.calls k2 a1_0 a1_1 _ _ l1_2 ((rd_T118 l0 x7_2).f1) t254 t255 _ ?side1 ?side2 A16.out).mono ?_);(case side1 => exact Kd.C_below HR1_2.out cB);(case side2 => exact HC1_2.out);rintro e w21 ⟨rfl, hb⟩;refine ⟨_, rfl, ?_⟩;replace BK249 := kB BK249 hb;replace BK253 := kP BK253 hb (.cells #[.int .i64 ((rd_T118 l0 x7_2).f0), .int .i64 ((rd_T118 l0 x7_2).f1), .int .i64 ((rd_T118 l0 x7_2).f2), .int .i64 ((rd_T118 l0 x7_2).f3)] 118 (0, 0));replace HB := sB hb;(try clear hb)))
       go_roundg k2
       case measure => have := HJ2.out; have := HK2.out; omega
       case rel => exact ⟨(t254), (wrap64 (x7_2 + 1)), (wrap64 (x8_2 + 1)), rS, rS, rS, H', ⟨by have := HJ2.out; have := HK2.out; omega⟩, ⟨mK BK249⟩, ⟨cB⟩⟩
      ·rw [if_neg c15] at H;obtain ⟨c15b0, c15b1⟩ := eF c15;by_cases c22 : ((rd_T118 l0 x7_2).f0) = 2
       ·rw [if_pos c22] at H;obtain ⟨c22b0, c22b1⟩ := eT c22;clear c22;have H' := Aside0.mk H;clear H;have p252 : 0 ≤ (x7_2 : Int) := dA;have q252 : x7_2 < (l0.length : Int) := dA;obtain ⟨ad252, e252, hx252_0, hx252_1, hx252_2, hx252_3⟩ := at_T118 HR0.out x7_2 p252 q252;cases e252;replace hx252_0 := (bc HB hx252_0 :);replace hx252_1 := (bc HB hx252_1 :);replace hx252_2 := (bc HB hx252_2 :);replace hx252_3 := (bc HB hx252_3 :);replace p252 := eq_true p252;replace q252 := eq_true q252
        go_wp2_with (first|((with_reducible refine gN 9 ?_);refine boxZ 9 #[.int .i64 0, .int .i64 0, .int .i64 0, .int .i64 0] 118 ?_;intro gb253 hg w23 hbox hb;have BK253 := Aside0.mk (hbox);have GW253 := gS hg;have GE253 := gS hg;replace HB := sB hb;have NB249_253 := nL hg BK249;have NB253_249 := nG hg BK249;replace BK249 := kB BK249 hb;clear hb hbox hg;have hnb24 := NB253_249.out;have hnc24 := NB249_253.out;obtain ⟨hcz25_0, hcz25_1, hcz25_2, hcz25_3, hfz25_0, hfz25_1, hfz25_2, hfz25_3⟩ := cz4 BK253))
        go_roundg k2
        case measure => have := HJ2.out; have := HK2.out; omega
        case rel => exact ⟨(Go.bits .and .i64 x6_2 ((rd_T118 l0 x7_2).f1)), (wrap64 (x7_2 + 1)), (wrap64 (x8_2 + 1)), rS, rS, rS, H', ⟨by have := HJ2.out; have := HK2.out; omega⟩, ⟨mK BK249⟩, ⟨cB⟩⟩
       ·rw [if_neg c22] at H;obtain ⟨c22b0, c22b1⟩ := eF c22;by_cases c26 : ((rd_T118 l0 x7_2).f0) = 7
        ·rw [if_pos c26] at H;obtain ⟨c26b0, c26b1⟩ := eT c26;clear c26;have H' := Aside0.mk H;clear H;have p252 : 0 ≤ (x7_2 : Int) := dA;have q252 : x7_2 < (l0.length : Int) := dA;obtain ⟨ad252, e252, hx252_0, hx252_1, hx252_2, hx252_3⟩ := at_T118 HR0.out x7_2 p252 q252;cases e252;replace hx252_0 := (bc HB hx252_0 :);replace hx252_1 := (bc HB hx252_1 :);replace hx252_2 := (bc HB hx252_2 :);replace hx252_3 := (bc HB hx252_3 :);replace p252 := eq_true p252;replace q252 := eq_true q252
         go_wp2_with (first|((with_reducible refine gN 9 ?_);refine boxZ 9 #[.int .i64 0, .int .i64 0, .int .i64 0, .int .i64 0] 118 ?_;intro gb253 hg w27 hbox hb;have BK253 := Aside0.mk (hbox);have GW253 := gS hg;have GE253 := gS hg;replace HB := sB hb;have NB249_253 := nL hg BK249;have NB253_249 := nG hg BK249;replace BK249 := kB BK249 hb;clear hb hbox hg;have hnb28 := NB253_249.out;have hnc28 := NB249_253.out;obtain ⟨hcz29_0, hcz29_1, hcz29_2, hcz29_3, hfz29_0, hfz29_1, hfz29_2, hfz29_3⟩ := cz4 BK253))
         go_roundg k2
         case measure => have := HJ2.out; have := HK2.out; omega
         case rel => exact ⟨(x6_2), (wrap64 ((wrap64 (x7_2 + 1)) + ((rd_T118 l0 x7_2).f1))), (wrap64 (x8_2 + 1)), rS, rS, rS, H', ⟨by have := HJ2.out; have := HK2.out; omega⟩, ⟨mK BK249⟩, ⟨cB⟩⟩
        ·rw [if_neg c26] at H;obtain ⟨c26b0, c26b1⟩ := eF c26;by_cases c30 : ((rd_T118 l0 x7_2).f0) = 8
         ·rw [if_pos c30] at H;obtain ⟨c30b0, c30b1⟩ := eT c30;clear c30;simp only [Option.some.injEq, Prod.mk.injEq] at H;obtain ⟨rfl, rfl⟩ := H;have p252 : 0 ≤ (x7_2 : Int) := dA;have q252 : x7_2 < (l0.length : Int) := dA;obtain ⟨ad252, e252, hx252_0, hx252_1, hx252_2, hx252_3⟩ := at_T118 HR0.out x7_2 p252 q252;cases e252;replace hx252_0 := (bc HB hx252_0 :);replace hx252_1 := (bc HB hx252_1 :);replace hx252_2 := (bc HB hx252_2 :);replace hx252_3 := (bc HB hx252_3 :);replace p252 := eq_true p252;replace q252 := eq_true q252
          go_wp2_with (first|((with_reducible refine gN 9 ?_);refine boxZ 9 #[.int .i64 0, .int .i64 0, .int .i64 0, .int .i64 0] 118 ?_;intro gb253 hg w31 hbox hb;have BK253 := Aside0.mk (hbox);have GW253 := gS hg;have GE253 := gS hg;replace HB := sB hb;have NB249_253 := nL hg BK249;have NB253_249 := nG hg BK249;replace BK249 := kB BK249 hb;clear hb hbox hg;have hnb32 := NB253_249.out;have hnc32 := NB249_253.out;obtain ⟨hcz33_0, hcz33_1, hcz33_2, hcz33_3, hfz33_0, hfz33_1, hfz33_2, hfz33_3⟩ := cz4 BK253))
          go_ret2;exact ⟨rE, cB⟩
         ·rw [if_neg c30] at H;obtain ⟨c30b0, c30b1⟩ := eF c30;replace H := bE H;obtain ⟨t256, A34, H⟩ := H;by_cases c35 : t256 = true
          ·subst c35;replace H := iT H;have H' := Aside0.mk H;clear H;have p252 : 0 ≤ (x7_2 : Int) := dA;have q252 : x7_2 < (l0.length : Int) := dA;obtain ⟨ad252, e252, hx252_0, hx252_1, hx252_2, hx252_3⟩ := at_T118 HR0.out x7_2 p252 q252;cases e252;replace hx252_0 := (bc HB hx252_0 :);replace hx252_1 := (bc HB hx252_1 :);replace hx252_2 := (bc HB hx252_2 :);replace hx252_3 := (bc HB hx252_3 :);replace p252 := eq_true p252;replace q252 := eq_true q252
           go_wp2_with (first|((with_reducible refine gN 9 ?_);refine boxZ 9 #[.int .i64 0, .int .i64 0, .int .i64 0, .int .i64 0] 118 ?_;intro gb253 hg w36 hbox hb;have BK253 := Aside0.mk (hbox);have GW253 := gS hg;have GE253 := gS hg;replace HB := sB hb;have NB249_253 := nL hg BK249;have NB253_249 := nG hg BK249;replace BK249 := kB BK249 hb;clear hb hbox hg;have hnb37 := NB253_249.out;have hnc37 := NB249_253.out;obtain ⟨hcz38_0, hcz38_1, hcz38_2, hcz38_3, hfz38_0, hfz38_1, hfz38_2, hfz38_3⟩ := cz4 BK253)|((with_reducible refine gF 164 ?_);refine goZ (some 67) Try.func164 #[.agg #[.int .i64 ((rd_T118 l0 x7_2).f0), .int .i64 ((rd_T118 l0 x7_2).f1), .int .i64 ((rd_T118 l0 x7_2).f2), .int .i64 ((rd_T118 l0 x7_2).f3)], .int .i64 x6_2] ?_;(with_reducible refine (impl_Ins_holds.calls ((rd_T118 l0 x7_2).f0) ((rd_T118 l0 x7_2).f1) ((rd_T118 l0 x7_2).f2) ((rd_T118 l0 x7_2).f3) x6_2 true _ A34.out).mono ?_);rintro e w39 ⟨rfl, hb⟩;refine ⟨_, rfl, ?_⟩;replace BK249 := kB BK249 hb;replace BK253 := kP BK253 hb (.cells #[.int .i64 ((rd_T118 l0 x7_2).f0), .int .i64 ((rd_T118 l0 x7_2).f1), .int .i64 ((rd_T118 l0 x7_2).f2), .int .i64 ((rd_T118 l0 x7_2).f3)] 118 (0, 0));replace HB := sB hb;(try clear hb);obtain ⟨hcz40_0, hcz40_1, hcz40_2, hcz40_3, hfz40_0, hfz40_1, hfz40_2, hfz40_3⟩ := cz4 BK253))
           go_roundg k2
           case measure => have := HJ2.out; have := HK2.out; omega
           case rel => exact ⟨(x6_2), (wrap64 ((wrap64 (x7_2 + 1)) + ((rd_T118 l0 x7_2).f2))), (wrap64 (x8_2 + 1)), rS, rS, rS, H', ⟨by have := HJ2.out; have := HK2.out; omega⟩, ⟨mK BK249⟩, ⟨cB⟩⟩
          ·replace c35 := Bool.eq_false_iff.mpr c35;subst c35;replace H := iF H;have H' := Aside0.mk H;clear H;have p252 : 0 ≤ (x7_2 : Int) := dA;have q252 : x7_2 < (l0.length : Int) := dA;obtain ⟨ad252, e252, hx252_0, hx252_1, hx252_2, hx252_3⟩ := at_T118 HR0.out x7_2 p252 q252;cases e252;replace hx252_0 := (bc HB hx252_0 :);replace hx252_1 := (bc HB hx252_1 :);replace hx252_2 := (bc HB hx252_2 :);replace hx252_3 := (bc HB hx252_3 :);replace p252 := eq_true p252;replace q252 := eq_true q252
           go_wp2_with (first|((with_reducible refine gN 9 ?_);refine boxZ 9 #[.int .i64 0, .int .i64 0, .int .i64 0, .int .i64 0] 118 ?_;intro gb253 hg w41 hbox hb;have BK253 := Aside0.mk (hbox);have GW253 := gS hg;have GE253 := gS hg;replace HB := sB hb;have NB249_253 := nL hg BK249;have NB253_249 := nG hg BK249;replace BK249 := kB BK249 hb;clear hb hbox hg;have hnb42 := NB253_249.out;have hnc42 := NB249_253.out;obtain ⟨hcz43_0, hcz43_1, hcz43_2, hcz43_3, hfz43_0, hfz43_1, hfz43_2, hfz43_3⟩ := cz4 BK253)|((with_reducible refine gF 164 ?_);refine goZ (some 67) Try.func164 #[.agg #[.int .i64 ((rd_T118 l0 x7_2).f0), .int .i64 ((rd_T118 l0 x7_2).f1), .int .i64 ((rd_T118 l0 x7_2).f2), .int .i64 ((rd_T118 l0 x7_2).f3)], .int .i64 x6_2] ?_;(with_reducible refine (impl_Ins_holds.calls ((rd_T118 l0 x7_2).f0) ((rd_T118 l0 x7_2).f1) ((rd_T118 l0 x7_2).f2) ((rd_T118 l0 x7_2).f3) x6_2 false _ A34.out).mono ?_);rintro e w44 ⟨rfl, hb⟩;refine ⟨_, rfl, ?_⟩;replace BK249 := kB BK249 hb;replace BK253 := kP BK253 hb (.cells #[.int .i64 ((rd_T118 l0 x7_2).f0), .int .i64 ((rd_T118 l0 x7_2).f1), .int .i64 ((rd_T118 l0 x7_2).f2), .int .i64 ((rd_T118 l0 x7_2).f3)] 118 (0, 0));replace HB := sB hb;(try clear hb);obtain ⟨hcz45_0, hcz45_1, hcz45_2, hcz45_3, hfz45_0, hfz45_1, hfz45_2, hfz45_3⟩ := cz4 BK253))
           go_roundg k2
           case measure => have := HJ2.out; have := HK2.out; omega
           case rel => exact ⟨(x6_2), (wrap64 ((wrap64 (x7_2 + 1)) + ((rd_T118 l0 x7_2).f3))), (wrap64 (x8_2 + 1)), rS, rS, rS, H', ⟨by have := HJ2.out; have := HK2.out; omega⟩, ⟨mK BK249⟩, ⟨cB⟩⟩
def impl_ActionIn.f (a0 : Int) : Option (Int) := (impl_within.f a0 0 393215).bind fun t257 => (if t257 = true then (some (wrap64 (Int.tdiv a0 65536))) else (some 0))
set_option maxHeartbeats 8000000 in
set_option maxRecDepth 100000 in
theorem impl_ActionIn.calls (a0 : Int) (r : Int) (w : World) (h : impl_ActionIn.f a0 = some r) :
 Calls Try.prog 165 #[.int .i64 a0] w fun e w' => e = .returned (.int .i64 r) ∧ Drawn0 w w' := by
 have H : ((impl_within.f a0 0 393215).bind fun t257 => (if t257 = true then (some (wrap64 (Int.tdiv a0 65536))) else (some 0))) = some r := h
 clear h;replace H := bE H;obtain ⟨t257, A2, H⟩ := H;by_cases c3 : t257 = true
 ·subst c3;replace H := iT H;obtain rfl := Option.some.inj H;go_enter Try.func165, Try.ntmps165
  go_wp2_with (first|((with_reducible refine gF 96 ?_);refine goZ (some 4) Try.func96 #[.int .i64 a0, .int .i64 0, .int .i64 393215] ?_;(with_reducible refine (impl_within.calls a0 0 393215 true _ A2.out).mono ?_);rintro e w' ⟨rfl, ⟨nd, rfl⟩⟩;refine ⟨_, rfl, ?_⟩))
  go_ret
  exact ⟨by first | rfl | (simp; done) | (simp [*]; done), by repeat (first | exact Drawn0.refl _ | apply Drawn0.step)⟩
 ·replace c3 := Bool.eq_false_iff.mpr c3;subst c3;replace H := iF H;obtain rfl := Option.some.inj H;go_enter Try.func165, Try.ntmps165
  go_wp2_with (first|((with_reducible refine gF 96 ?_);refine goZ (some 4) Try.func96 #[.int .i64 a0, .int .i64 0, .int .i64 393215] ?_;(with_reducible refine (impl_within.calls a0 0 393215 false _ A2.out).mono ?_);rintro e w' ⟨rfl, ⟨nd, rfl⟩⟩;refine ⟨_, rfl, ?_⟩))
  go_ret
  exact ⟨by first | rfl | (simp; done) | (simp [*]; done), by repeat (first | exact Drawn0.refl _ | apply Drawn0.step)⟩
def impl_Stricter.f (a0 : Int) (a1 : Int) : Option (Int) := (impl_ActionIn.f a1).bind fun t258 => ((impl_ActionIn.f a0).bind fun t259 => (if t258 < t259 then (some a1) else (some a0)))
set_option maxHeartbeats 8000000 in
set_option maxRecDepth 100000 in
theorem impl_Stricter.calls (a0 : Int) (a1 : Int) (r : Int) (w : World) (h : impl_Stricter.f a0 a1 = some r) :
 Calls Try.prog 135 #[.int .i64 a0, .int .i64 a1] w fun e w' => e = .returned (.int .i64 r) ∧ Drawn0 w w' := by
 have H : ((impl_ActionIn.f a1).bind fun t258 => ((impl_ActionIn.f a0).bind fun t259 => (if t258 < t259 then (some a1) else (some a0)))) = some r := h
 clear h;replace H := bE H;obtain ⟨t258, A3, H⟩ := H;replace H := bE H;obtain ⟨t259, A4, H⟩ := H;by_cases c5 : t258 < t259
 ·rw [if_pos c5] at H;have c5b0 := decide_eq_true c5;clear c5;obtain rfl := Option.some.inj H;go_enter Try.func135, Try.ntmps135
  go_wp2_with (first|((with_reducible refine gF 165 ?_);refine goZ (some 6) Try.func165 #[.int .i64 a1] ?_;(with_reducible refine (impl_ActionIn.calls a1 t258 _ A3.out).mono ?_);rintro e w' ⟨rfl, ⟨nd, rfl⟩⟩;refine ⟨_, rfl, ?_⟩)|((with_reducible refine gF 165 ?_);refine goZ (some 8) Try.func165 #[.int .i64 a0] ?_;(with_reducible refine (impl_ActionIn.calls a0 t259 _ A4.out).mono ?_);rintro e w' ⟨rfl, ⟨nd, rfl⟩⟩;refine ⟨_, rfl, ?_⟩))
  go_ret
  exact ⟨by first | rfl | (simp; done) | (simp [*]; done), by repeat (first | exact Drawn0.refl _ | apply Drawn0.step)⟩
 ·rw [if_neg c5] at H;have c5b0 := decide_eq_false c5;clear c5;obtain rfl := Option.some.inj H;go_enter Try.func135, Try.ntmps135
  go_wp2_with (first|((with_reducible refine gF 165 ?_);refine goZ (some 6) Try.func165 #[.int .i64 a1] ?_;(with_reducible refine (impl_ActionIn.calls a1 t258 _ A3.out).mono ?_);rintro e w' ⟨rfl, ⟨nd, rfl⟩⟩;refine ⟨_, rfl, ?_⟩)|((with_reducible refine gF 165 ?_);refine goZ (some 8) Try.func165 #[.int .i64 a0] ?_;(with_reducible refine (impl_ActionIn.calls a0 t259 _ A4.out).mono ?_);rintro e w' ⟨rfl, ⟨nd, rfl⟩⟩;refine ⟨_, rfl, ?_⟩))
  go_ret
  exact ⟨by first | rfl | (simp; done) | (simp [*]; done), by repeat (first | exact Drawn0.refl _ | apply Drawn0.step)⟩
mutual
def impl_RunStack.j0 : Nat → List (List (S118)) → Bool → Int → Int → List (S38) → Option (Int)
  | 0, _, _, _, _, _ => none
  | k + 1, x0, x17, x261000, x261001, x261002 => if x17 = true then ((impl_ResultOf.f 0 0).bind fun t263 => (some t263)) else ((impl_ResultOf.f 5 0).bind fun t264 => (impl_RunStack.l0 k t264 x0 (x0.length : Int) 0 x261000 x261001 x261002))
def impl_RunStack.l0 : Nat → Int → List (List (S118)) → Int → Int → Int → Int → List (S38) → Option (Int)
  | 0, _, _, _, _, _, _, _ => none
  | k + 1, x5, x20, x21, x22, x261000, x261001, x261002 => if x22 < x21 then (if 0 ≤ x22 then (if x22 < (x20.length : Int) then ((impl_Run.f k (rd_L4 x20 x22) x261000 x261001 x261002).bind fun bt266 => ((impl_Stricter.f bt266.1 x5).bind fun t268 => (impl_RunStack.l0 k t268 x20 x21 (wrap64 (x22 + 1)) x261000 x261001 x261002))) else (none)) else (none)) else (some x5)
end
def impl_RunStack.f (k : Nat) (l0 : List (List (S118))) (a1_0 : Int) (a1_1 : Int) (l1_2 : List (S38)) : Option (Int) := (impl_StackOk.f k l0).bind fun t261 => (if t261 = true then ((impl_CallOk.f k a1_0 a1_1 l1_2).bind fun t262 => (impl_RunStack.j0 k l0 (!t262) a1_0 a1_1 l1_2)) else (impl_RunStack.j0 k l0 true a1_0 a1_1 l1_2))
set_option maxHeartbeats 8000000 in
set_option maxRecDepth 100000 in
theorem impl_RunStack.calls (k : Nat) (A0 : Option Addr) (c0 : Nat) (l0 : List (List (S118))) (a1_0 : Int) (a1_1 : Int) (A1_2 : Option Addr) (c1_2 : Nat) (l1_2 : List (S38)) (r : Int) (w : World) (hr0 : Kd.C (Kd.slice 118 k118) w A0 l0.length l0) (hc0 : l0.length ≤ c0) (hr1_2 : Kd.C k38 w A1_2 l1_2.length l1_2) (hc1_2 : l1_2.length ≤ c1_2) (h : impl_RunStack.f k l0 a1_0 a1_1 l1_2 = some r) :
 Calls Try.prog 68 #[.slice A0 l0.length c0, .agg #[.int .i64 a1_0, .int .i64 a1_1, .slice A1_2 l1_2.length c1_2]] w fun e w' => e = .returned (.int .i64 r) ∧ Below w.heap.size w w' := by
 have hu44 := Try.underlying44;have HR0 := Aside0.mk hr0;have HC0 := Aside0.mk hc0;clear hr0 hc0;have HR1_2 := Aside0.mk hr1_2;have HC1_2 := Aside0.mk hc1_2;clear hr1_2 hc1_2;have HB := Aside0.mk (Below.refl w.heap.size w)
 have H : ((impl_StackOk.f k l0).bind fun t261 => (if t261 = true then ((impl_CallOk.f k a1_0 a1_1 l1_2).bind fun t262 => (impl_RunStack.j0 k l0 (!t262) a1_0 a1_1 l1_2)) else (impl_RunStack.j0 k l0 true a1_0 a1_1 l1_2))) = some r := h
 clear h;have HC3 := Aside0.mk H;clear H;go_enter Try.func68, Try.ntmps68
 go_upto_region 1 with (first|((with_reducible refine gN 3 ?_);refine boxZ 3 #[.int .i64 a1_0, .int .i64 a1_1, .slice A1_2 l1_2.length c1_2] 44 ?_;intro gb260 hg w4 hbox hb;have BK260 := Aside0.mk (hbox);have GW260 := gS hg;have GE260 := gS hg;replace HB := sB hb;clear hb hbox hg))
 (try simp only [Act.put, List.setIfInBounds_toArray, List.set_cons_zero, List.set_cons_succ])
 go_cut [17] (fun v17 wc => ∃ (kq : Nat) (x17_2 : Bool), v17 = .bool x17_2 ∧ Aside0 (impl_RunStack.j0 kq l0 x17_2 a1_0 a1_1 l1_2 = some r) ∧ Aside0 (kq ≤ k) ∧ Aside0 (wc.heap[gb260]? = some (.cells #[.int .i64 a1_0, .int .i64 a1_1, (.slice A1_2 l1_2.length c1_2)] 44 (0, 0))) ∧ Aside0 (Below w.heap.size w wc))
 case first =>
  have H := HC3.out;clear HC3;replace H := bE H;obtain ⟨t261, A5, H⟩ := H;by_cases c6 : t261 = true
  ·subst c6;replace H := iT H;replace H := bE H;obtain ⟨t262, A7, H⟩ := H;have H' := Aside0.mk H;clear H
   go_wp2_with (first|((with_reducible refine gF 18 ?_);refine goZ (some 11) Try.func18 #[.slice A0 l0.length c0] ?_;(with_reducible refine (impl_StackOk.calls k _ _ l0 true _ ?side1 ?side2 A5.out).mono ?_);(case side1 => exact cC (Kd.C_below HR0.out HB.out));(case side2 => exact HC0.out);rintro e w8 ⟨rfl, hb⟩;refine ⟨_, rfl, ?_⟩;replace BK260 := kB BK260 hb;replace HB := sB hb;(try clear hb);obtain ⟨hcz9_0, hcz9_1, hcz9_2, hfz9_0, hfz9_1, hfz9_2⟩ := cz3 BK260)|(go_at_call 79;(with_reducible refine (impl_CallOk.calls k a1_0 a1_1 _ _ l1_2 t262 _ ?side1 ?side2 A7.out).mono ?_);(case side1 => exact cC (Kd.C_below HR1_2.out HB.out));(case side2 => exact HC1_2.out);rintro e w10 ⟨rfl, hb⟩;replace BK260 := kB BK260 hb;replace HB := sB hb;(try clear hb)))
   go_meet
   case rel => exact ⟨_, (!t262), rS, H', ⟨oL⟩, ⟨mK BK260⟩, ⟨cB⟩⟩
  ·replace c6 := Bool.eq_false_iff.mpr c6;subst c6;replace H := iF H;have H' := Aside0.mk H;clear H
   go_wp2_with (first|((with_reducible refine gF 18 ?_);refine goZ (some 11) Try.func18 #[.slice A0 l0.length c0] ?_;(with_reducible refine (impl_StackOk.calls k _ _ l0 false _ ?side1 ?side2 A5.out).mono ?_);(case side1 => exact cC (Kd.C_below HR0.out HB.out));(case side2 => exact HC0.out);rintro e w11 ⟨rfl, hb⟩;refine ⟨_, rfl, ?_⟩;replace BK260 := kB BK260 hb;replace HB := sB hb;(try clear hb)))
   go_meet
   case rel => exact ⟨_, (true), rS, H', ⟨oL⟩, ⟨mK BK260⟩, ⟨cB⟩⟩
 case rest =>
  clear HC3;(try clear c6);(try clear hcz9_0);(try clear hcz9_1);(try clear hcz9_2);(try clear hfz9_0);(try clear hfz9_1);(try clear hfz9_2);obtain ⟨kq, x17_2, rfl, HA, HJ2, BK260, HB⟩ := hcut
  cases kq with
  | zero => exact absurd HA.out (by simp [impl_RunStack.j0])
  | succ kj2 =>
   have H := HA.out;clear HA;simp only [impl_RunStack.j0] at H;by_cases c12 : x17_2 = true
   ·subst c12;replace H := iT H;replace H := bE H;obtain ⟨t263, A13, H⟩ := H;obtain rfl := Option.some.inj H
    go_wp2_with (first|((with_reducible refine gF 133 ?_);refine goZ (some 18) Try.func133 #[.int .i64 0, .int .i64 0] ?_;(with_reducible refine (impl_ResultOf.calls 0 0 t263 _ A13.out).mono ?_);rintro e w' ⟨rfl, ⟨nd, rfl⟩⟩;refine ⟨_, rfl, ?_⟩))
    go_ret;exact ⟨rE, cB⟩
   ·replace c12 := Bool.eq_false_iff.mpr c12;subst c12;replace H := iF H;replace H := bE H;obtain ⟨t264, A14, H⟩ := H;have H' := Aside0.mk H;clear H
    go_wp2_with (first|((with_reducible refine gF 133 ?_);refine goZ (some 19) Try.func133 #[.int .i64 5, .int .i64 0] ?_;(with_reducible refine (impl_ResultOf.calls 5 0 t264 _ A14.out).mono ?_);rintro e w' ⟨rfl, ⟨nd, rfl⟩⟩;refine ⟨_, rfl, ?_⟩))
    go_loopg [5, 22] kj2 (fun kq v5 v22 w' => ∃ (x5_2 : Int) (x22_2 : Int), v5 = .int .i64 x5_2 ∧ v22 = .int .i64 x22_2 ∧ Aside0 (impl_RunStack.l0 kq x5_2 l0 (l0.length : Int) x22_2 a1_0 a1_1 l1_2 = some r) ∧ Aside0 (kq ≤ kj2) ∧ Aside0 (w'.heap[gb260]? = some (.cells #[.int .i64 a1_0, .int .i64 a1_1, (.slice A1_2 l1_2.length c1_2)] 44 (0, 0))) ∧ Aside0 (Below w.heap.size w w'))
    case atStart => exact ⟨(t264), (0), rS, rS, H', ⟨Nat.le_refl _⟩, ⟨mK BK260⟩, ⟨cB⟩⟩
    case round =>
     clear H';(try clear c6);(try clear c12);(try clear hcz9_0);(try clear hcz9_1);(try clear hcz9_2);(try clear hfz9_0);(try clear hfz9_1);(try clear hfz9_2);obtain ⟨x5_2, x22_2, rfl, rfl, HA, HK2, BK260, HB⟩ := hrel
     cases gk with
     | zero => exact absurd HA.out (by simp [impl_RunStack.l0])
     | succ k2 =>
      have H := HA.out;clear HA;simp only [impl_RunStack.l0] at H;by_cases c15 : x22_2 < (l0.length : Int)
      ·rw [if_pos c15] at H;have c15b0 := decide_eq_true c15;clear c15;replace H := gD H;obtain ⟨c16b0, H⟩ := H;replace H := gD H;obtain ⟨c17b0, H⟩ := H;replace H := bE H;obtain ⟨⟨t266, t267⟩, A18, H⟩ := H;(try dsimp only at H);replace H := bE H;obtain ⟨t268, A19, H⟩ := H;have H' := Aside0.mk H;clear H;have p265 : 0 ≤ (x22_2 : Int) := dA;have q265 : x22_2 < (l0.length : Int) := dA;obtain ⟨ad265, A265_0, c265_0, e265, hx265_0, hl265_0, hi265_0⟩ := at_L4 HR0.out x22_2 p265 q265;cases e265;replace hx265_0 := (bc HB hx265_0 :);have HR265_0 := Aside0.mk hi265_0;have HC265_0 := Aside0.mk hl265_0;clear hi265_0 hl265_0;replace p265 := eq_true p265;replace q265 := eq_true q265;obtain ⟨hcz20_0, hcz20_1, hcz20_2, hfz20_0, hfz20_1, hfz20_2⟩ := cz3 BK260
       go_wp2_with (first|((with_reducible refine gF 134 ?_);refine goZ (some 29) Try.func134 #[.slice A265_0 (rd_L4 l0 x22_2).length c265_0, .agg #[.int .i64 a1_0, .int .i64 a1_1, .slice A1_2 l1_2.length c1_2]] ?_;(with_reducible refine (impl_Run.calls k2 _ _ (rd_L4 l0 x22_2) a1_0 a1_1 _ _ l1_2 t266 t267 _ ?side1 ?side2 ?side3 ?side4 A18.out).mono ?_);(case side1 => exact cC (Kd.C_below HR265_0.out HB.out));(case side2 => exact HC265_0.out);(case side3 => exact cC (Kd.C_below HR1_2.out HB.out));(case side4 => exact HC1_2.out);rintro e w21 ⟨rfl, hb⟩;refine ⟨_, rfl, ?_⟩;replace BK260 := kB BK260 hb;replace HB := sB hb;(try clear hb))|((with_reducible refine gF 135 ?_);refine goZ (some 34) Try.func135 #[.int .i64 t266, .int .i64 x5_2] ?_;(with_reducible refine (impl_Stricter.calls t266 x5_2 t268 _ A19.out).mono ?_);rintro e w' ⟨rfl, ⟨nd, rfl⟩⟩;refine ⟨_, rfl, ?_⟩))
       go_roundg k2
       case measure => have := HJ2.out; have := HK2.out; omega
       case rel => exact ⟨(t268), (wrap64 (x22_2 + 1)), rS, rS, H', ⟨by have := HJ2.out; have := HK2.out; omega⟩, ⟨mK BK260⟩, ⟨cB⟩⟩
      ·rw [if_neg c15] at H;have c15b0 := decide_eq_false c15;clear c15;obtain rfl := Option.some.inj H;go_wp2;go_ret;exact ⟨rE, cB⟩
end Go.Proofs.Ytiinjipfhmgheaa.PFnExactRunStack
