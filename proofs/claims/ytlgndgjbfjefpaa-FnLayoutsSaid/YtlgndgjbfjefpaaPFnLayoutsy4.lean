import Derived.Test.YtlgndgjbfjefpaaPFnLayoutsy0
import Derived.Test.YtlgndgjbfjefpaaPFnLayoutsy2
import Derived.Test.YtlgndgjbfjefpaaPFnLayoutsy3
namespace Go.Proofs.Ytlgndgjbfjefpaa.PFnLayouts
open Go.RowKit Go.Proofs.YtlgndgjbfjefpaaW.PrintWords Go.Proofs.YtlgndgjbfjefpaaW.PrintLast Go.Proofs.YtlgndgjbfjefpaaW.PrintMore Go.Proofs.YtlgndgjbfjefpaaW.Z
attribute [local go_sem] isS max2_int min2_int max_two min_two max_three min_three max_four min_four
set_option linter.unusedVariables false
set_option linter.unusedSimpArgs false
mutual
def impl_LinesOk.j0 : Nat → List (S95) → Bool → Option (Bool)
  | 0, _, _ => none
  | k + 1, x0, x19 => if x19 = true then (some false) else (impl_LinesOk.l0 k x0 (x0.length : Int) 0)
def impl_LinesOk.l0 : Nat → List (S95) → Int → Int → Option (Bool)
  | 0, _, _, _ => none
  | k + 1, x0, x21, x22 => if x22 < x21 then ((impl_lineOk.f k x0 x22).bind fun t129 => (if t129 = true then (impl_LinesOk.l0 k x0 x21 (wrap64 (x22 + 1))) else (some false))) else (some true)
end
def impl_LinesOk.f (k : Nat) (l0 : List (S95)) : Option (Bool) := (impl_within.f (l0.length : Int) 1 600).bind fun t127 => (if t127 = true then (if 0 ≤ (wrap64 ((l0.length : Int) - 1)) then (if (wrap64 ((l0.length : Int) - 1)) < (l0.length : Int) then (impl_LinesOk.j0 k l0 (((rd_T95 l0 (wrap64 ((l0.length : Int) - 1))).f1.f0) != 8)) else (none)) else (none)) else (impl_LinesOk.j0 k l0 true))
set_option maxHeartbeats 8000000 in
set_option maxRecDepth 100000 in
theorem impl_LinesOk.calls (k : Nat) (A0 : Option Addr) (c0 : Nat) (l0 : List (S95)) (r : Bool) (w : World) (hr0 : Kd.C k95 w A0 l0.length l0) (hc0 : l0.length ≤ c0) (h : impl_LinesOk.f k l0 = some r) :
 Calls Try.prog 62 #[.slice A0 l0.length c0] w fun e w' => e = .returned (.bool r) ∧ Below w.heap.size w w' := by
 have HR0 := Aside0.mk hr0;have HC0 := Aside0.mk hc0;clear hr0 hc0;have HB := Aside0.mk (Below.refl w.heap.size w)
 have H : ((impl_within.f (l0.length : Int) 1 600).bind fun t127 => (if t127 = true then (if 0 ≤ (wrap64 ((l0.length : Int) - 1)) then (if (wrap64 ((l0.length : Int) - 1)) < (l0.length : Int) then (impl_LinesOk.j0 k l0 (((rd_T95 l0 (wrap64 ((l0.length : Int) - 1))).f1.f0) != 8)) else (none)) else (none)) else (impl_LinesOk.j0 k l0 true))) = some r := h
 clear h;have HC2 := Aside0.mk H;clear H;go_enter Try.func62, Try.ntmps62
 go_upto_region 2 with (fail)
 go_cut [19] (fun v19 wc => ∃ (kq : Nat) (x19_1 : Bool), v19 = .bool x19_1 ∧ Aside0 (impl_LinesOk.j0 kq l0 x19_1 = some r) ∧ Aside0 (kq ≤ k) ∧ Aside0 (Below w.heap.size w wc))
 case first =>
  have H := HC2.out;clear HC2;replace H := bE H;obtain ⟨t127, A3, H⟩ := H;by_cases c4 : t127 = true
  ·subst c4;replace H := iT H;obtain ⟨ji5, hji5⟩ : ∃ j_ : Int, (wrap64 ((l0.length : Int) - 1)) = j_ := ⟨_, rfl⟩
   (first|rw [hji5] at H|simp only [hji5] at H)
   (try rw [hji5] at A3);have hji5w : (IntKind.i64.wrap ((l0.length : Int) - 1)) = ji5 := (i64_w _).trans hji5;replace H := gD H;obtain ⟨c6b0, H⟩ := H
   (first | rw [c6b0] | (simp only [i64_w, i32_w]; rw [c6b0]) | skip)
   replace H := gD H;obtain ⟨c7b0, H⟩ := H;have H' := Aside0.mk H;clear H
   go_wp2_with (first|((with_reducible refine gF 92 ?_);refine goZ (some 8) Try.func92 #[.int .i64 (l0.length : Int), .int .i64 1, .int .i64 600] ?_;(with_reducible refine (impl_within.calls (l0.length : Int) 1 600 true _ A3.out).mono ?_);rintro e w' ⟨rfl, ⟨nd, rfl⟩⟩;refine ⟨_, rfl, ?_⟩;have p128 : 0 ≤ ((ji5) : Int) := dA;have q128 : (ji5) < (l0.length : Int) := dA;obtain ⟨ad128, e128, hx128_0, hx128_1, hx128_2, hx128_3, hx128_4, hx128_5, hx128_6⟩ := at_T95 HR0.out (ji5) p128 q128;cases e128;replace hx128_0 := (bc HB hx128_0 :);replace hx128_1 := (bc HB hx128_1 :);replace hx128_2 := (bc HB hx128_2 :);replace hx128_3 := (bc HB hx128_3 :);replace hx128_4 := (bc HB hx128_4 :);replace hx128_5 := (bc HB hx128_5 :);replace hx128_6 := (bc HB hx128_6 :);replace p128 := eq_true p128;replace q128 := eq_true q128))
   go_meet
   case rel => exact ⟨_, ((((rd_T95 l0 (ji5)).f1.f0) != 8)), (by first | rfl | (simp; done) | (simp only [← hji5] <;> (first | rfl | simp)) | (simp [*]; done)), H', ⟨oL⟩, ⟨cB⟩⟩
  ·replace c4 := Bool.eq_false_iff.mpr c4;subst c4;replace H := iF H;have H' := Aside0.mk H;clear H
   go_wp2_with (first|((with_reducible refine gF 92 ?_);refine goZ (some 8) Try.func92 #[.int .i64 (l0.length : Int), .int .i64 1, .int .i64 600] ?_;(with_reducible refine (impl_within.calls (l0.length : Int) 1 600 false _ A3.out).mono ?_);rintro e w' ⟨rfl, ⟨nd, rfl⟩⟩;refine ⟨_, rfl, ?_⟩))
   go_meet
   case rel => exact ⟨_, (true), rS, H', ⟨oL⟩, ⟨cB⟩⟩
 case rest =>
  clear HC2;(try clear c4);(try clear c6);(try clear c6b0);(try clear c7);(try clear c7b0);(try clear hx128_0);(try clear hx128_1);(try clear hx128_2);(try clear hx128_3);(try clear hx128_4);(try clear hx128_5);(try clear hx128_6);(try clear p128);(try clear q128);obtain ⟨kq, x19_1, rfl, HA, HJ1, HB⟩ := hcut
  cases kq with
  | zero => exact absurd HA.out (by simp [impl_LinesOk.j0])
  | succ kj1 =>
   have H := HA.out;clear HA;simp only [impl_LinesOk.j0] at H;by_cases c8 : x19_1 = true
   ·subst c8;replace H := iT H;obtain rfl := Option.some.inj H;go_wp2;go_ret;exact ⟨rE, cB⟩
   ·replace c8 := Bool.eq_false_iff.mpr c8;subst c8;replace H := iF H;have H' := Aside0.mk H;clear H;go_wp2
    go_loopg [22] kj1 (fun kq v22 w' => ∃ (x22_2 : Int), v22 = .int .i64 x22_2 ∧ Aside0 (impl_LinesOk.l0 kq l0 (l0.length : Int) x22_2 = some r) ∧ Aside0 (kq ≤ kj1) ∧ Aside0 (Below w.heap.size w w'))
    case atStart => exact ⟨(0), rS, H', ⟨Nat.le_refl _⟩, ⟨cB⟩⟩
    case round =>
     clear H';(try clear c4);(try clear c6);(try clear c6b0);(try clear c7);(try clear c7b0);(try clear c8);(try clear hx128_0);(try clear hx128_1);(try clear hx128_2);(try clear hx128_3);(try clear hx128_4);(try clear hx128_5);(try clear hx128_6);(try clear p128);(try clear q128);obtain ⟨x22_2, rfl, HA, HK2, HB⟩ := hrel
     cases gk with
     | zero => exact absurd HA.out (by simp [impl_LinesOk.l0])
     | succ k2 =>
      have H := HA.out;clear HA;simp only [impl_LinesOk.l0] at H;by_cases c9 : x22_2 < (l0.length : Int)
      ·rw [if_pos c9] at H;have c9b0 := decide_eq_true c9;clear c9;replace H := bE H;obtain ⟨t129, A10, H⟩ := H;by_cases c11 : t129 = true
       ·subst c11;replace H := iT H;have H' := Aside0.mk H;clear H
        go_wp2_with (first|((with_reducible refine gF 135 ?_);refine goZ (some 27) Try.func135 #[.slice A0 l0.length c0, .int .i64 x22_2] ?_;(with_reducible refine (impl_lineOk.calls k2 _ _ l0 x22_2 true _ ?side1 ?side2 A10.out).mono ?_);(case side1 => exact cC (Kd.C_below HR0.out HB.out));(case side2 => exact HC0.out);rintro e w12 ⟨rfl, hb⟩;refine ⟨_, rfl, ?_⟩;replace HB := sB hb;(try clear hb)))
        go_roundg k2
        case measure => have := HJ1.out; have := HK2.out; omega
        case rel => exact ⟨(wrap64 (x22_2 + 1)), rS, H', ⟨by have := HJ1.out; have := HK2.out; omega⟩, ⟨cB⟩⟩
       ·replace c11 := Bool.eq_false_iff.mpr c11;subst c11;replace H := iF H;obtain rfl := Option.some.inj H
        go_wp2_with (first|((with_reducible refine gF 135 ?_);refine goZ (some 27) Try.func135 #[.slice A0 l0.length c0, .int .i64 x22_2] ?_;(with_reducible refine (impl_lineOk.calls k2 _ _ l0 x22_2 false _ ?side1 ?side2 A10.out).mono ?_);(case side1 => exact cC (Kd.C_below HR0.out HB.out));(case side2 => exact HC0.out);rintro e w13 ⟨rfl, hb⟩;refine ⟨_, rfl, ?_⟩;replace HB := sB hb;(try clear hb)))
        go_ret;exact ⟨rE, cB⟩
      ·rw [if_neg c9] at H;have c9b0 := decide_eq_false c9;clear c9;obtain rfl := Option.some.inj H;go_wp2;go_ret;exact ⟨rE, cB⟩
def impl_between.l0 : Nat → List Int → Int → Int → Int → Option (Int)
  | 0, _, _, _, _ => none
  | k + 1, x1, x9, x10, x11 => if x11 < x10 then (if 0 ≤ x11 then (if x11 < (x1.length : Int) then (impl_between.l0 k x1 (wrap64 (x9 + (rd x1 x11))) x10 (wrap64 (x11 + 1))) else (none)) else (none)) else (some x9)
def impl_between.f (k : Nat) (l0 : List (S95)) (l1 : List Int) (a2 : Int) (a3 : ByteArray) : Option (Int) := (impl_placeOf.f k l0 a3 a2).bind fun t130 => (impl_between.l0 k l1 0 t130 (wrap64 (a2 + 1)))
set_option maxHeartbeats 8000000 in
set_option maxRecDepth 100000 in
theorem impl_between.calls (k : Nat) (A0 : Option Addr) (c0 : Nat) (l0 : List (S95)) (A1 : Option Addr) (c1 : Nat) (l1 : List Int) (a2 : Int) (a3 : ByteArray) (r : Int) (w : World) (hr0 : Kd.C k95 w A0 l0.length l0) (hc0 : l0.length ≤ c0) (hr1 : Kd.C (Kd.int .i64) w A1 l1.length l1) (hc1 : l1.length ≤ c1) (h : impl_between.f k l0 l1 a2 a3 = some r) :
 Calls Try.prog 130 #[.slice A0 l0.length c0, .slice A1 l1.length c1, .int .i64 a2, .string a3] w fun e w' => e = .returned (.int .i64 r) ∧ Below w.heap.size w w' := by
 have HR0 := Aside0.mk hr0;have HC0 := Aside0.mk hc0;clear hr0 hc0;have HR1 := Aside0.mk hr1;have HC1 := Aside0.mk hc1;clear hr1 hc1;have HB := Aside0.mk (Below.refl w.heap.size w)
 have H : ((impl_placeOf.f k l0 a3 a2).bind fun t130 => (impl_between.l0 k l1 0 t130 (wrap64 (a2 + 1)))) = some r := h
 clear h;replace H := bE H;obtain ⟨t130, A5, H⟩ := H;have H' := Aside0.mk H;clear H;go_enter Try.func130, Try.ntmps130
 go_wp2_with (first|((with_reducible refine gF 162 ?_);refine goZ (some 15) Try.func162 #[.slice A0 l0.length c0, .string a3, .int .i64 a2] ?_;(with_reducible refine (impl_placeOf.calls k _ _ l0 a3 a2 t130 _ ?side1 ?side2 A5.out).mono ?_);(case side1 => exact cC HR0.out);(case side2 => exact HC0.out);rintro e w6 ⟨rfl, hb⟩;refine ⟨_, rfl, ?_⟩;replace HB := sB hb;(try clear hb)))
 go_loopg [9, 11] k (fun kq v9 v11 w' => ∃ (x9_1 : Int) (x11_1 : Int), v9 = .int .i64 x9_1 ∧ v11 = .int .i64 x11_1 ∧ Aside0 (impl_between.l0 kq l1 x9_1 t130 x11_1 = some r) ∧ Aside0 (kq ≤ k) ∧ Aside0 (Below w.heap.size w w'))
 case atStart => exact ⟨(0), (wrap64 (a2 + 1)), rS, rS, H', ⟨Nat.le_refl _⟩, ⟨cB⟩⟩
 case round =>
  clear H';(try clear c1);obtain ⟨x9_1, x11_1, rfl, rfl, HA, HK1, HB⟩ := hrel
  cases gk with
  | zero => exact absurd HA.out (by simp [impl_between.l0])
  | succ k1 =>
   have H := HA.out;clear HA;simp only [impl_between.l0] at H;by_cases c7 : x11_1 < t130
   ·rw [if_pos c7] at H;have c7b0 := decide_eq_true c7;clear c7;replace H := gD H;obtain ⟨c8b0, H⟩ := H;replace H := gD H;obtain ⟨c9b0, H⟩ := H;have H' := Aside0.mk H;clear H;have p131 : 0 ≤ (x11_1 : Int) := dA;have q131 : x11_1 < (l1.length : Int) := dA;obtain ⟨ad131, e131, hx131_0⟩ := Kd.at_int HR1.out x11_1 p131 q131;cases e131;replace hx131_0 := (bc HB hx131_0 :);replace p131 := eq_true p131;replace q131 := eq_true q131;go_wp2;go_roundg k1
    case measure => have := HK1.out; omega
    case rel => exact ⟨(wrap64 (x9_1 + (rd l1 x11_1))), (wrap64 (x11_1 + 1)), rS, rS, H', ⟨by have := HK1.out; omega⟩, ⟨cB⟩⟩
   ·rw [if_neg c7] at H;have c7b0 := decide_eq_false c7;clear c7;obtain rfl := Option.some.inj H;go_wp2;go_ret;exact ⟨rE, cB⟩
end Go.Proofs.Ytlgndgjbfjefpaa.PFnLayouts
