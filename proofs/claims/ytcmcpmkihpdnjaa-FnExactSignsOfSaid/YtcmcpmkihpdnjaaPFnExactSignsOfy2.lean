import Derived.Test.YtcmcpmkihpdnjaaPFnExactSignsOfy0
import Derived.Test.YtcmcpmkihpdnjaaPFnExactSignsOfy1
namespace Go.Proofs.Ytcmcpmkihpdnjaa.PFnExactSignsOf
open Go.RowKit Go.Proofs.YtcmcpmkihpdnjaaW.PrintWords Go.Proofs.YtcmcpmkihpdnjaaW.PrintLast Go.Proofs.YtcmcpmkihpdnjaaW.PrintMore Go.Proofs.YtcmcpmkihpdnjaaW.Z
attribute [local go_sem] isS max2_int min2_int max_two min_two max_three min_three max_four min_four
set_option linter.unusedVariables false
set_option linter.unusedSimpArgs false
mutual
def spec_SignsOf.l0 : Nat → ByteArray → List (S81) → List (S81) → Int → Option ((List (S81)) × Bool)
  | 0, _, _, _, _ => none
  | k + 1, x0, x4, x5, x6 => if x6 < (x0.size : Int) then (if 0 ≤ x6 then (if (bt x0 x6) = 32 then (spec_SignsOf.j1 k x0 x4 x5 x6 true) else (spec_SignsOf.j1 k x0 x4 x5 x6 ((bt x0 x6) == 10))) else (none)) else (some (x5, true))
def spec_SignsOf.j1 : Nat → ByteArray → List (S81) → List (S81) → Int → Bool → Option ((List (S81)) × Bool)
  | 0, _, _, _, _, _ => none
  | k + 1, x0, x4, x5, x6, x30 => if x30 = true then (spec_SignsOf.l0 k x0 x4 x5 (wrap64 (x6 + 1))) else ((spec_l08Word.f k x0 x6 97 122).bind fun t117 => (if t117 > 0 then (if t117 > 12 then (some (x4, false)) else (if 0 ≤ x6 then (if x6 ≤ (wrap64 (x6 + t117)) then (if (wrap64 (x6 + t117)) ≤ (x0.size : Int) then (if x5.length < 4398046511104 then (spec_SignsOf.l0 k x0 x4 (x5 ++ [(⟨1, x0.extract (x6 : Int).toNat ((wrap64 (x6 + t117)) : Int).toNat, 0⟩ : S81)]) (wrap64 (x6 + t117))) else (none)) else (none)) else (none)) else (none))) else ((spec_l08Word.f k x0 x6 48 57).bind fun t121 => (if t121 > 0 then (spec_SignsOf.l1 k x0 x4 x5 x6 t121 0 x6) else ((spec_l08Mark.f k x0 x6).bind fun t126 => (if t126.toList = ([] : List UInt8) then (some (x4, false)) else (if x5.length < 4398046511104 then (spec_SignsOf.l0 k x0 x4 (x5 ++ [(⟨3, t126, 0⟩ : S81)]) (wrap64 (x6 + (t126.size : Int)))) else (none))))))))
def spec_SignsOf.j3 : Nat → ByteArray → List (S81) → List (S81) → Int → Int → Int → Option ((List (S81)) × Bool)
  | 0, _, _, _, _, _, _ => none
  | k + 1, x0, x4, x5, x6, x7, x8 => if x7 > 10 then (spec_SignsOf.j4 k x0 x4 x5 x6 x7 x8 true) else ((spec_HalfOk.f x8).bind fun t122 => (spec_SignsOf.j4 k x0 x4 x5 x6 x7 x8 (!t122)))
def spec_SignsOf.j4 : Nat → ByteArray → List (S81) → List (S81) → Int → Int → Int → Bool → Option ((List (S81)) × Bool)
  | 0, _, _, _, _, _, _, _ => none
  | k + 1, x0, x4, x5, x6, x7, x8, x85 => if x85 = true then (some (x4, false)) else (if x5.length < 4398046511104 then (spec_SignsOf.l0 k x0 x4 (x5 ++ [(⟨2, (⟨#[]⟩ : ByteArray), x8⟩ : S81)]) (wrap64 (x6 + x7))) else (none))
def spec_SignsOf.l1 : Nat → ByteArray → List (S81) → List (S81) → Int → Int → Int → Int → Option ((List (S81)) × Bool)
  | 0, _, _, _, _, _, _, _ => none
  | k + 1, x0, x4, x5, x6, x7, x8, x9 => if x9 < (wrap64 (x6 + x7)) then (if x7 ≤ 10 then (if 0 ≤ x9 then (if x9 < (x0.size : Int) then (spec_SignsOf.l1 k x0 x4 x5 x6 x7 (wrap64 ((wrap64 ((wrap64 (10 * x8)) + (wrap64 (bt x0 x9)))) - 48)) (wrap64 (x9 + 1))) else (none)) else (none)) else (spec_SignsOf.j3 k x0 x4 x5 x6 x7 x8)) else (spec_SignsOf.j3 k x0 x4 x5 x6 x7 x8)
end
def spec_SignsOf.f (k : Nat) (a0 : ByteArray) : Option ((List (S81)) × Bool) := (some (([] : List (S81)) : List (S81))).bind fun y111 => (if (a0.size : Int) > 1200 then (some (y111, false)) else (spec_SignsOf.l0 k a0 y111 (([] : List (S81))) 0))
set_option maxHeartbeats 8000000 in
set_option maxRecDepth 100000 in
theorem spec_SignsOf.calls (k : Nat) (a0 : ByteArray) (r1 : List (S81)) (r2 : Bool) (w : World) (h : spec_SignsOf.f k a0 = some (r1, r2)) :
 Calls Try.prog 23 #[.string a0] w fun e w' => ∃ v0_ : Value, e = .returned (.tuple #[v0_, .bool r2]) ∧ Kd.R k81 81 w' w.heap.size (fun _ => True) v0_ r1 ∧ Below w.heap.size w w' := by
 have hu81 := Try.underlying81;have HB := Aside0.mk (Below.refl w.heap.size w)
 have H : ((some (([] : List (S81)) : List (S81))).bind fun y111 => (if (a0.size : Int) > 1200 then (some (y111, false)) else (spec_SignsOf.l0 k a0 y111 (([] : List (S81))) 0))) = some (r1, r2) := h
 clear h;replace H := nE H;obtain ⟨y111, Ny111, H⟩ := H;by_cases c2 : (a0.size : Int) > 1200
 ·rw [if_pos c2] at H;have c2b0 : decide (1200 < (a0.size : Int)) = true := decide_eq_true c2
  have c2b1 : decide (1200 < a0.size) = true := decide_eq_true (by omega)
  clear c2;simp only [Option.some.injEq, Prod.mk.injEq] at H;obtain ⟨rfl, rfl⟩ := H;go_enter Try.func23, Try.ntmps23
  go_wp2_with (first|((with_reducible refine gN 11 ?_);refine Kd.R_lit k81 _ 81 ?hg (N := 11) ?hd (xs := ([] : List (S81))) (inner := []) (ok := fun _ => True) (okp := fun _ => True) ?hr ?hp (fun _ hk => hk) trivial (Below.refl _ _) (Nat.le_refl _) (by simp) ?_;(case hd => rfl);(case hg => rfl);(case hr => exact rG);(case hp => exact (Reps.none _ _));intro v112 w3 ho4 hb hg_ hnew_;clear hg_ hnew_;(first | rw [← Ny111.out] at ho4 | (simp only [Int.reduceToNat] at ho4; rw [← Ny111.out] at ho4));have HO113 := Aside0.mk (Kd.R_lower ho4 (below_size cB));replace HB := sB hb;clear hb ho4))
  go_ret2;exact ⟨_, rE, mR HO113, cB⟩
 ·rw [if_neg c2] at H;have c2b0 : decide (1200 < (a0.size : Int)) = false := decide_eq_false c2
  have c2b1 : decide (1200 < a0.size) = false := decide_eq_false (by omega)
  clear c2;obtain ⟨y114, Ny114⟩ : ∃ y_ : List (S81), Aside0 (y_ = (([] : List (S81)))) := ⟨_, ⟨rfl⟩⟩;rw [← Ny114.out] at H;have H' := Aside0.mk H;clear H;go_enter Try.func23, Try.ntmps23
  go_wp2_with (first|((with_reducible refine gN 11 ?_);refine Kd.R_lit k81 _ 81 ?hg (N := 11) ?hd (xs := ([] : List (S81))) (inner := []) (ok := fun _ => True) (okp := fun _ => True) ?hr ?hp (fun _ hk => hk) trivial (Below.refl _ _) (Nat.le_refl _) (by simp) ?_;(case hd => rfl);(case hg => rfl);(case hr => exact rG);(case hp => exact (Reps.none _ _));intro v112 w5 ho6 hb hg_ hnew_;clear hg_ hnew_;(first | rw [← Ny111.out] at ho6 | (simp only [Int.reduceToNat] at ho6; rw [← Ny111.out] at ho6));have HO113 := Aside0.mk (Kd.R_lower ho6 (below_size cB));replace HB := sB hb;clear hb ho6)|((with_reducible refine gN 16 ?_);refine Kd.R_lit k81 _ 81 ?hg (N := 16) ?hd (xs := ([] : List (S81))) (inner := []) (ok := fun _ => True) (okp := fun _ => True) ?hr ?hp (fun _ hk => hk) trivial (Below.refl _ _) (Nat.le_refl _) (by simp) ?_;(case hd => rfl);(case hg => rfl);(case hr => exact rG);(case hp => exact (Reps.none _ _));intro v115 w7 ho8 hb hg_ hnew_;clear hg_ hnew_;(first | rw [← Ny114.out] at ho8 | (simp only [Int.reduceToNat] at ho8; rw [← Ny114.out] at ho8));have HO116 := Aside0.mk (Kd.R_lower (Kd.R_new' ho8 (Kd.R_lt (mR HO113))) (below_size cB));replace HO113 := eB HO113 (Kd.R_base ho8) hb;replace HB := sB hb;clear hb ho8))
  go_loopg [5, 6] k (fun kq v5 v6 w' => ∃ (x5_1 : List (S81)) (x6_1 : Int), v6 = .int .i64 x6_1 ∧ Aside0 (spec_SignsOf.l0 kq a0 y111 x5_1 x6_1 = some (r1, r2)) ∧ Aside0 (kq ≤ k) ∧ Aside0 (Kd.R k81 81 w' w.heap.size (fun k_ => some k_ ≠ (v5 : Value).ownBlock) v112 y111) ∧ Aside0 (Kd.R k81 81 w' w.heap.size (fun k_ => some k_ ≠ (v112 : Value).ownBlock) v5 x5_1) ∧ Aside0 (Below w.heap.size w w'))
  case atStart => exact ⟨(y114), (0), rS, H', ⟨Nat.le_refl _⟩, ⟨by (with_reducible repeat (first | apply Kd.R_alloc | apply Kd.R_drewN | apply Kd.R_drew)); exact Kd.R_mono HO113.out (fun _ hk => hk.2)⟩, ⟨by (with_reducible repeat (first | apply Kd.R_alloc | apply Kd.R_drewN | apply Kd.R_drew)); exact Kd.R_mono HO116.out (fun _ hk => hk.2)⟩, ⟨cB⟩⟩
  case round =>
   clear H';(try clear c2);(try clear c2b0);(try clear c2b1);obtain ⟨x5_1, x6_1, rfl, HA, HK1, HO_4, HO_5, HB⟩ := hrel
   cases gk with
   | zero => exact absurd HA.out (by simp [spec_SignsOf.l0])
   | succ k1 =>
    have H := HA.out;clear HA;simp only [spec_SignsOf.l0] at H;by_cases c9 : x6_1 < (a0.size : Int)
    ·rw [if_pos c9] at H;have c9b0 := decide_eq_true c9;clear c9;have HC10 := Aside0.mk H;clear H
     go_upto_region 7 with (fail)
     go_cut [30] (fun v30 wc => ∃ (kq : Nat) (x30_9 : Bool), v30 = .bool x30_9 ∧ Aside0 (spec_SignsOf.j1 kq a0 y111 x5_1 x6_1 x30_9 = some (r1, r2)) ∧ Aside0 (kq ≤ k1) ∧ Aside0 (Kd.R k81 81 wc w.heap.size (fun k_ => some k_ ≠ (u5 : Value).ownBlock) v112 y111) ∧ Aside0 (Kd.R k81 81 wc w.heap.size (fun k_ => some k_ ≠ (v112 : Value).ownBlock) u5 x5_1) ∧ Aside0 (Below w.heap.size w wc))
     case first =>
      have H := HC10.out;clear HC10;replace H := gD H;obtain ⟨c11b0, H⟩ := H
      (first | rw [c11b0] | (simp only [i64_w, i32_w]; rw [c11b0]) | skip)
      by_cases c13 : (bt a0 x6_1) = 32
      ·rw [if_pos c13] at H;obtain ⟨c13b0, c13b1⟩ := eT c13;clear c13;have H' := Aside0.mk H;clear H;have p12 : 0 ≤ (x6_1 : Int) := dA;have q12 : x6_1 < (a0.size : Int) := dA;have hx12 := bt_at a0 x6_1;replace p12 := eq_true p12;replace q12 := eq_true q12;go_wp2;go_meet
       case rel => exact ⟨_, (true), rS, H', ⟨by have := HK1.out; first | omega | exact Nat.le_refl _⟩, ⟨mR HO_4⟩, ⟨mR HO_5⟩, ⟨cB⟩⟩
      ·rw [if_neg c13] at H;obtain ⟨c13b0, c13b1⟩ := eF c13;have H' := Aside0.mk H;clear H;have p12 : 0 ≤ (x6_1 : Int) := dA;have q12 : x6_1 < (a0.size : Int) := dA;have hx12 := bt_at a0 x6_1;replace p12 := eq_true p12;replace q12 := eq_true q12;have p14 : 0 ≤ (x6_1 : Int) := dA;have q14 : x6_1 < (a0.size : Int) := dA;have hx14 := bt_at a0 x6_1;replace p14 := eq_true p14;replace q14 := eq_true q14;go_wp2;go_meet
       case rel => exact ⟨_, (((bt a0 x6_1) == 10)), rS, H', ⟨by have := HK1.out; first | omega | exact Nat.le_refl _⟩, ⟨mR HO_4⟩, ⟨mR HO_5⟩, ⟨cB⟩⟩
     case rest =>
      clear HC10;(try clear c2);(try clear c2b0);(try clear c2b1);(try clear c9);(try clear c9b0);(try clear c11);(try clear c11b0);(try clear p12);(try clear q12);(try clear hx12);(try clear c13);(try clear c13b0);(try clear c13b1);(try clear p14);(try clear q14);(try clear hx14);obtain ⟨kq, x30_9, rfl, HA, HJ9, HO_4, HO_5, HB⟩ := hcut
      cases kq with
      | zero => exact absurd HA.out (by simp [spec_SignsOf.j1])
      | succ kj9 =>
       have H := HA.out;clear HA;simp only [spec_SignsOf.j1] at H;by_cases c15 : x30_9 = true
       ·subst c15;replace H := iT H;have H' := Aside0.mk H;clear H;go_wp2;go_roundg kj9
        case measure => have := HK1.out; have := HJ9.out; omega
        case rel => exact ⟨(x5_1), (wrap64 (x6_1 + 1)), rS, H', ⟨by have := HK1.out; have := HJ9.out; omega⟩, ⟨mR HO_4⟩, ⟨mR HO_5⟩, ⟨cB⟩⟩
       ·replace c15 := Bool.eq_false_iff.mpr c15;subst c15;replace H := iF H;replace H := bE H;obtain ⟨t117, A16, H⟩ := H;by_cases c17 : t117 > 0
        ·rw [if_pos c17] at H;have c17b0 : decide (0 < t117) = true := decide_eq_true c17;clear c17;by_cases c18 : t117 > 12
         ·rw [if_pos c18] at H;have c18b0 : decide (12 < t117) = true := decide_eq_true c18;clear c18;simp only [Option.some.injEq, Prod.mk.injEq] at H;obtain ⟨rfl, rfl⟩ := H
          go_wp2_with (first|((with_reducible refine gF 61 ?_);refine goZ (some 35) Try.func61 #[.string a0, .int .i64 x6_1, .int .u8 97, .int .u8 122] ?_;(with_reducible refine (spec_l08Word.calls kj9 a0 x6_1 97 122 t117 _ A16.out).mono ?_);rintro e w' ⟨rfl, ⟨nd, rfl⟩⟩;refine ⟨_, rfl, ?_⟩))
          go_ret2
          exact ⟨_, rE, by (with_reducible repeat (first | apply Kd.R_alloc | apply Kd.R_drewN | apply Kd.R_drew)); exact Kd.R_mono HO_4.out (fun _ hk => trivial), cB⟩
         ·rw [if_neg c18] at H;have c18b0 : decide (12 < t117) = false := decide_eq_false c18;clear c18;replace H := gC H;obtain ⟨c19, H⟩ := H;have c19b0 := eq_true c19;have c19b1 : decide (0 ≤ x6_1) = true := decide_eq_true c19;clear c19;replace H := gC H;obtain ⟨c20, H⟩ := H;have c20b0 := eq_true c20;have c20b1 : decide (x6_1 ≤ (wrap64 (x6_1 + t117))) = true := decide_eq_true c20;replace H := gC H;obtain ⟨c21, H⟩ := H;have c21b0 := eq_true c21;have c21b1 : decide ((wrap64 (x6_1 + t117)) ≤ (a0.size : Int)) = true := decide_eq_true c21;replace H := gC H;obtain ⟨c22, H⟩ := H;have LMc22 := Aside0.mk c22;clear c22;obtain ⟨y118, Ny118⟩ : ∃ y_ : List (S81), Aside0 (y_ = (x5_1 ++ [(⟨1, a0.extract (x6_1 : Int).toNat ((wrap64 (x6_1 + t117)) : Int).toNat, 0⟩ : S81)])) := ⟨_, ⟨rfl⟩⟩;rw [← Ny118.out] at H;have H' := Aside0.mk H;clear H
          go_wp2_with (first|((with_reducible refine gF 61 ?_);refine goZ (some 35) Try.func61 #[.string a0, .int .i64 x6_1, .int .u8 97, .int .u8 122] ?_;(with_reducible refine (spec_l08Word.calls kj9 a0 x6_1 97 122 t117 _ A16.out).mono ?_);rintro e w' ⟨rfl, ⟨nd, rfl⟩⟩;refine ⟨_, rfl, ?_⟩)|((with_reducible refine gA 41 49 ?_);at_builtin;refine Kd.R_append k81 (w0 := w) w.heap.size rfl (.tmp 41) (.tmp 49) 37 81 (.agg #[(.int .i64 0), (.string ⟨#[]⟩), (.int .i64 0)]) 32 rfl Try.underlying37 info81 rfl (by decide) (by omega) u5 x5_1 (⟨1, a0.extract (x6_1 : Int).toNat ((wrap64 (x6_1 + t117)) : Int).toNat, 0⟩ : S81) [.int .i64 1, .string (a0.extract (x6_1 : Int).toNat ((wrap64 (x6_1 + t117)) : Int).toNat), .int .i64 0] (fun k_ => some k_ ≠ (v112 : Value).ownBlock) (fun _ => False) rfl rfl ?aP (fun _ hk => hk.elim) ?aF ?aO ?aB ?aS ?aL ?_;(case aP => exact k81_mkM _ _ _ (⟨1, a0.extract (x6_1 : Int).toNat ((wrap64 (x6_1 + t117)) : Int).toNat, 0⟩ : S81));(case aB => exact cB);(case aF => exact (fun k_ hk => Kd.fresh' (Kd.R_lt (mR HO_4)) k_ hk));(case aO => exact (mR HO_5));(case aS => exact (below_size cB));(case aL => have := LMc22.out; omega);intro v119 w23 ho hb hg hat;rw [← Ny118.out] at ho;replace HO_4 := Aside0.mk (Kd.R_after (ok := (fun _ => True)) (by (with_reducible repeat (first | apply Kd.R_alloc | apply Kd.R_drewN | apply Kd.R_drew)); exact Kd.R_mono HO_4.out (fun _ hk => ⟨trivial, hk⟩)) hg hat);replace HB := Aside0.mk (hb);have HO120 := Aside0.mk (ho);clear HO_5 ho hb hg hat))
          go_roundg kj9
          case measure => have := HK1.out; have := HJ9.out; omega
          case rel => exact ⟨(y118), (wrap64 (x6_1 + t117)), rS, H', ⟨by have := HK1.out; have := HJ9.out; omega⟩, ⟨by (with_reducible repeat (first | apply Kd.R_alloc | apply Kd.R_drewN | apply Kd.R_drew)); exact Kd.R_mono HO_4.out (fun _ hk => hk.2)⟩, ⟨mR HO120⟩, ⟨cB⟩⟩
        ·rw [if_neg c17] at H;have c17b0 : decide (0 < t117) = false := decide_eq_false c17;clear c17;replace H := bE H;obtain ⟨t121, A24, H⟩ := H;by_cases c25 : t121 > 0
         ·rw [if_pos c25] at H;have c25b0 : decide (0 < t121) = true := decide_eq_true c25;clear c25;have HC26 := Aside0.mk H;clear H
          go_upto_block 2 with (first | ((with_reducible refine gate_callee (f := 61) rfl ?_); refine goesL_ (some 35) rfl rfl Try.func61 (by kernel_rfl) rfl #[.string a0, .int .i64 x6_1, .int .u8 97, .int .u8 122] rfl (by (try simp only [List.map_toArray, List.map_cons, List.map_nil]); first | done | rfl | (simp only [List.length_drop, List.length_take]; rfl)) ?_; (with_reducible refine (spec_l08Word.calls kj9 a0 x6_1 97 122 t117 _ A16.out).mono ?_); rintro e w' ⟨rfl, ⟨nd, rfl⟩⟩; refine ⟨_, rfl, ?_⟩) | ((with_reducible refine gate_callee (f := 61) rfl ?_); refine goesL_ (some 56) rfl rfl Try.func61 (by kernel_rfl) rfl #[.string a0, .int .i64 x6_1, .int .u8 48, .int .u8 57] rfl (by (try simp only [List.map_toArray, List.map_cons, List.map_nil]); first | done | rfl | (simp only [List.length_drop, List.length_take]; rfl)) ?_; (with_reducible refine (spec_l08Word.calls kj9 a0 x6_1 48 57 t121 _ A24.out).mono ?_); rintro e w' ⟨rfl, ⟨nd, rfl⟩⟩; refine ⟨_, rfl, ?_⟩))
          (try simp only [Act.put, List.setIfInBounds_toArray, List.set_cons_zero, List.set_cons_succ])
          go_cut [8] (fun v8 wc => ∃ (kq : Nat) (x8_25 : Int), v8 = .int .i64 x8_25 ∧ Aside0 (spec_SignsOf.j3 kq a0 y111 x5_1 x6_1 t121 x8_25 = some (r1, r2)) ∧ Aside0 (kq ≤ kj9) ∧ Aside0 (Kd.R k81 81 wc w.heap.size (fun k_ => some k_ ≠ (u5 : Value).ownBlock) v112 y111) ∧ Aside0 (Kd.R k81 81 wc w.heap.size (fun k_ => some k_ ≠ (v112 : Value).ownBlock) u5 x5_1) ∧ Aside0 (Below w.heap.size w wc))
          case first =>
           have H := HC26.out;clear HC26;have H' := Aside0.mk H;clear H;go_wp2
           go_loopg [8, 9] kj9 (fun kq v8 v9 w' => ∃ (x8_3 : Int) (x9_3 : Int), v8 = .int .i64 x8_3 ∧ v9 = .int .i64 x9_3 ∧ Aside0 (spec_SignsOf.l1 kq a0 y111 x5_1 x6_1 t121 x8_3 x9_3 = some (r1, r2)) ∧ Aside0 (kq ≤ kj9) ∧ Aside0 (Kd.R k81 81 w' w.heap.size (fun k_ => some k_ ≠ (u5 : Value).ownBlock) v112 y111) ∧ Aside0 (Kd.R k81 81 w' w.heap.size (fun k_ => some k_ ≠ (v112 : Value).ownBlock) u5 x5_1) ∧ Aside0 (Below w.heap.size w w'))
           case atStart => exact ⟨(0), (x6_1), rS, rS, H', ⟨Nat.le_refl _⟩, ⟨mR HO_4⟩, ⟨mR HO_5⟩, ⟨cB⟩⟩
           case round =>
            clear H';(try clear c2);(try clear c2b0);(try clear c2b1);(try clear c9);(try clear c9b0);(try clear c11);(try clear c11b0);(try clear p12);(try clear q12);(try clear hx12);(try clear c13);(try clear c13b0);(try clear c13b1);(try clear p14);(try clear q14);(try clear hx14);(try clear c15);(try clear c17);(try clear c17b0);(try clear c18);(try clear c18b0);(try clear c19);(try clear c19b0);(try clear c19b1);(try clear c20);(try clear c20b0);(try clear c20b1);(try clear c21);(try clear c21b0);(try clear c21b1);(try clear c22);(try clear c25);(try clear c25b0);obtain ⟨x8_3, x9_3, rfl, rfl, HA, HK3, HO_4, HO_5, HB⟩ := hrel
            cases gk with
            | zero => exact absurd HA.out (by simp [spec_SignsOf.l1])
            | succ k3 =>
             have H := HA.out;clear HA;simp only [spec_SignsOf.l1] at H;by_cases c27 : x9_3 < (wrap64 (x6_1 + t121))
             ·rw [if_pos c27] at H;have c27b0 := decide_eq_true c27;clear c27
              (first | rw [c27b0] | (simp only [i64_w, i32_w]; rw [c27b0]) | skip)
              by_cases c28 : t121 ≤ 10
              ·rw [if_pos c28] at H;have c28b0 := decide_eq_true c28;clear c28;replace H := gD H;obtain ⟨c29b0, H⟩ := H;replace H := gD H;obtain ⟨c30b0, H⟩ := H;have H' := Aside0.mk H;clear H;have p31 : 0 ≤ (x9_3 : Int) := dA;have q31 : x9_3 < (a0.size : Int) := dA;have hx31 := bt_at a0 x9_3;replace p31 := eq_true p31;replace q31 := eq_true q31;go_wp2;go_roundg k3
               case measure => have := HK1.out; have := HJ9.out; have := HK3.out; omega
               case rel => exact ⟨(wrap64 ((wrap64 ((wrap64 (10 * x8_3)) + (wrap64 (bt a0 x9_3)))) - 48)), (wrap64 (x9_3 + 1)), rS, rS, H', ⟨by have := HK1.out; have := HJ9.out; have := HK3.out; omega⟩, ⟨mR HO_4⟩, ⟨mR HO_5⟩, ⟨cB⟩⟩
              ·rw [if_neg c28] at H;have c28b0 := decide_eq_false c28;clear c28;have H' := Aside0.mk H;clear H;go_wp2;go_meet
               case rel => exact ⟨_, (x8_3), rS, H', ⟨by have := HK1.out; have := HJ9.out; have := HK3.out; first | omega | exact Nat.le_refl _⟩, ⟨mR HO_4⟩, ⟨mR HO_5⟩, ⟨cB⟩⟩
             ·rw [if_neg c27] at H;have c27b0 := decide_eq_false c27;clear c27
              (first | rw [c27b0] | (simp only [i64_w, i32_w]; rw [c27b0]) | skip)
              have H' := Aside0.mk H;clear H;go_wp2;go_meet
              case rel => exact ⟨_, (x8_3), rS, H', ⟨by have := HK1.out; have := HJ9.out; have := HK3.out; first | omega | exact Nat.le_refl _⟩, ⟨mR HO_4⟩, ⟨mR HO_5⟩, ⟨cB⟩⟩
          case rest =>
           clear HC26;(try clear c2);(try clear c2b0);(try clear c2b1);(try clear c9);(try clear c9b0);(try clear c11);(try clear c11b0);(try clear p12);(try clear q12);(try clear hx12);(try clear c13);(try clear c13b0);(try clear c13b1);(try clear p14);(try clear q14);(try clear hx14);(try clear c15);(try clear c17);(try clear c17b0);(try clear c18);(try clear c18b0);(try clear c19);(try clear c19b0);(try clear c19b1);(try clear c20);(try clear c20b0);(try clear c20b1);(try clear c21);(try clear c21b0);(try clear c21b1);(try clear c22);(try clear c25);(try clear c25b0);(try clear c27);(try clear c27b0);(try clear c28);(try clear c28b0);(try clear c29);(try clear c29b0);(try clear c30);(try clear c30b0);(try clear p31);(try clear q31);(try clear hx31);obtain ⟨kq, x8_25, rfl, HA, HJ25, HO_4, HO_5, HB⟩ := hcut
           cases kq with
           | zero => exact absurd HA.out (by simp [spec_SignsOf.j3])
           | succ kj25 =>
            have H := HA.out;clear HA;simp only [spec_SignsOf.j3] at H;have HC32 := Aside0.mk H;clear H
            go_upto_region 22 with (fail)
            go_cut [85] (fun v85 wc => ∃ (kq : Nat) (x85_31 : Bool), v85 = .bool x85_31 ∧ Aside0 (spec_SignsOf.j4 kq a0 y111 x5_1 x6_1 t121 x8_25 x85_31 = some (r1, r2)) ∧ Aside0 (kq ≤ kj25) ∧ Aside0 (Kd.R k81 81 wc w.heap.size (fun k_ => some k_ ≠ (u5 : Value).ownBlock) v112 y111) ∧ Aside0 (Kd.R k81 81 wc w.heap.size (fun k_ => some k_ ≠ (v112 : Value).ownBlock) u5 x5_1) ∧ Aside0 (Below w.heap.size w wc))
            case first =>
             have H := HC32.out;clear HC32;by_cases c33 : t121 > 10
             ·rw [if_pos c33] at H;have c33b0 : decide (10 < t121) = true := decide_eq_true c33;clear c33
              (first | rw [c33b0] | (simp only [i64_w, i32_w]; rw [c33b0]) | skip)
              have H' := Aside0.mk H;clear H;go_wp2;go_meet
              case rel => exact ⟨_, (true), rS, H', ⟨by have := HK1.out; have := HJ9.out; have := HJ25.out; first | omega | exact Nat.le_refl _⟩, ⟨mR HO_4⟩, ⟨mR HO_5⟩, ⟨cB⟩⟩
             ·rw [if_neg c33] at H;have c33b0 : decide (10 < t121) = false := decide_eq_false c33;clear c33
              (first | rw [c33b0] | (simp only [i64_w, i32_w]; rw [c33b0]) | skip)
              replace H := bE H;obtain ⟨t122, A34, H⟩ := H;have H' := Aside0.mk H;clear H
              go_wp2_with (first|(go_at_call 62;(with_reducible refine (spec_HalfOk.calls x8_25 t122 _ A34.out).mono ?_);rintro e w' ⟨rfl, ⟨nd, rfl⟩⟩))
              go_meet
              case rel => exact ⟨_, (!t122), rS, H', ⟨by have := HK1.out; have := HJ9.out; have := HJ25.out; first | omega | exact Nat.le_refl _⟩, ⟨mR HO_4⟩, ⟨mR HO_5⟩, ⟨cB⟩⟩
            case rest =>
             clear HC32;(try clear c2);(try clear c2b0);(try clear c2b1);(try clear c9);(try clear c9b0);(try clear c11);(try clear c11b0);(try clear p12);(try clear q12);(try clear hx12);(try clear c13);(try clear c13b0);(try clear c13b1);(try clear p14);(try clear q14);(try clear hx14);(try clear c15);(try clear c17);(try clear c17b0);(try clear c18);(try clear c18b0);(try clear c19);(try clear c19b0);(try clear c19b1);(try clear c20);(try clear c20b0);(try clear c20b1);(try clear c21);(try clear c21b0);(try clear c21b1);(try clear c22);(try clear c25);(try clear c25b0);(try clear c27);(try clear c27b0);(try clear c28);(try clear c28b0);(try clear c29);(try clear c29b0);(try clear c30);(try clear c30b0);(try clear p31);(try clear q31);(try clear hx31);(try clear c33);(try clear c33b0);obtain ⟨kq, x85_31, rfl, HA, HJ31, HO_4, HO_5, HB⟩ := hcut
             cases kq with
             | zero => exact absurd HA.out (by simp [spec_SignsOf.j4])
             | succ kj31 =>
              have H := HA.out;clear HA;simp only [spec_SignsOf.j4] at H;by_cases c35 : x85_31 = true
              ·subst c35;replace H := iT H;simp only [Option.some.injEq, Prod.mk.injEq] at H;obtain ⟨rfl, rfl⟩ := H;go_wp2;go_ret2
               exact ⟨_, rE, by (with_reducible repeat (first | apply Kd.R_alloc | apply Kd.R_drewN | apply Kd.R_drew)); exact Kd.R_mono HO_4.out (fun _ hk => trivial), cB⟩
              ·replace c35 := Bool.eq_false_iff.mpr c35;subst c35;replace H := iF H;replace H := gC H;obtain ⟨c36, H⟩ := H;have LMc36 := Aside0.mk c36;clear c36;obtain ⟨y123, Ny123⟩ : ∃ y_ : List (S81), Aside0 (y_ = (x5_1 ++ [(⟨2, (⟨#[]⟩ : ByteArray), x8_25⟩ : S81)])) := ⟨_, ⟨rfl⟩⟩;rw [← Ny123.out] at H;have H' := Aside0.mk H;clear H
               go_wp2_with (first|((with_reducible refine gA 87 90 ?_);at_builtin;refine Kd.R_append k81 (w0 := w) w.heap.size rfl (.tmp 87) (.tmp 90) 37 81 (.agg #[(.int .i64 0), (.string ⟨#[]⟩), (.int .i64 0)]) 32 rfl Try.underlying37 info81 rfl (by decide) (by omega) u5 x5_1 (⟨2, (⟨#[]⟩ : ByteArray), x8_25⟩ : S81) [.int .i64 2, .string (⟨#[]⟩ : ByteArray), .int .i64 x8_25] (fun k_ => some k_ ≠ (v112 : Value).ownBlock) (fun _ => False) rfl rfl ?aP (fun _ hk => hk.elim) ?aF ?aO ?aB ?aS ?aL ?_;(case aP => exact k81_mkM _ _ _ (⟨2, (⟨#[]⟩ : ByteArray), x8_25⟩ : S81));(case aB => exact cB);(case aF => exact (fun k_ hk => Kd.fresh' (Kd.R_lt (mR HO_4)) k_ hk));(case aO => exact (mR HO_5));(case aS => exact (below_size cB));(case aL => have := LMc36.out; omega);intro v124 w37 ho hb hg hat;rw [← Ny123.out] at ho;replace HO_4 := Aside0.mk (Kd.R_after (ok := (fun _ => True)) (by (with_reducible repeat (first | apply Kd.R_alloc | apply Kd.R_drewN | apply Kd.R_drew)); exact Kd.R_mono HO_4.out (fun _ hk => ⟨trivial, hk⟩)) hg hat);replace HB := Aside0.mk (hb);have HO125 := Aside0.mk (ho);clear HO_5 ho hb hg hat))
               go_roundg kj31
               case measure => have := HK1.out; have := HJ9.out; have := HJ25.out; have := HJ31.out; omega
               case rel => exact ⟨(y123), (wrap64 (x6_1 + t121)), rS, H', ⟨by have := HK1.out; have := HJ9.out; have := HJ25.out; have := HJ31.out; omega⟩, ⟨by (with_reducible repeat (first | apply Kd.R_alloc | apply Kd.R_drewN | apply Kd.R_drew)); exact Kd.R_mono HO_4.out (fun _ hk => hk.2)⟩, ⟨mR HO125⟩, ⟨cB⟩⟩
         ·rw [if_neg c25] at H;have c25b0 : decide (0 < t121) = false := decide_eq_false c25;clear c25;replace H := bE H;obtain ⟨t126, A38, H⟩ := H;by_cases c39 : t126.toList = ([] : List UInt8)
          ·rw [if_pos c39] at H;obtain ⟨c39b0, c39b1⟩ := eT c39;clear c39;simp only [Option.some.injEq, Prod.mk.injEq] at H;obtain ⟨rfl, rfl⟩ := H
           go_wp2_with (first|((with_reducible refine gF 61 ?_);refine goZ (some 35) Try.func61 #[.string a0, .int .i64 x6_1, .int .u8 97, .int .u8 122] ?_;(with_reducible refine (spec_l08Word.calls kj9 a0 x6_1 97 122 t117 _ A16.out).mono ?_);rintro e w' ⟨rfl, ⟨nd, rfl⟩⟩;refine ⟨_, rfl, ?_⟩)|((with_reducible refine gF 61 ?_);refine goZ (some 56) Try.func61 #[.string a0, .int .i64 x6_1, .int .u8 48, .int .u8 57] ?_;(with_reducible refine (spec_l08Word.calls kj9 a0 x6_1 48 57 t121 _ A24.out).mono ?_);rintro e w' ⟨rfl, ⟨nd, rfl⟩⟩;refine ⟨_, rfl, ?_⟩)|((with_reducible refine gF 63 ?_);refine goZ (some 97) Try.func63 #[.string a0, .int .i64 x6_1] ?_;(with_reducible refine (spec_l08Mark.calls kj9 a0 x6_1 t126 _ A38.out).mono ?_);rintro e w40 ⟨rfl, hb⟩;refine ⟨_, rfl, ?_⟩;replace HO_4 := rB HO_4 hb;replace HO_5 := rB HO_5 hb;replace HB := sB hb;(try clear hb)))
           go_ret2
           exact ⟨_, rE, by (with_reducible repeat (first | apply Kd.R_alloc | apply Kd.R_drewN | apply Kd.R_drew)); exact Kd.R_mono HO_4.out (fun _ hk => trivial), cB⟩
          ·rw [if_neg c39] at H;obtain ⟨c39b0, c39b1⟩ := eF c39;replace H := gC H;obtain ⟨c41, H⟩ := H;have LMc41 := Aside0.mk c41;clear c41;obtain ⟨y127, Ny127⟩ : ∃ y_ : List (S81), Aside0 (y_ = (x5_1 ++ [(⟨3, t126, 0⟩ : S81)])) := ⟨_, ⟨rfl⟩⟩;rw [← Ny127.out] at H;have H' := Aside0.mk H;clear H
           go_wp2_with (first|((with_reducible refine gF 61 ?_);refine goZ (some 35) Try.func61 #[.string a0, .int .i64 x6_1, .int .u8 97, .int .u8 122] ?_;(with_reducible refine (spec_l08Word.calls kj9 a0 x6_1 97 122 t117 _ A16.out).mono ?_);rintro e w' ⟨rfl, ⟨nd, rfl⟩⟩;refine ⟨_, rfl, ?_⟩)|((with_reducible refine gF 61 ?_);refine goZ (some 56) Try.func61 #[.string a0, .int .i64 x6_1, .int .u8 48, .int .u8 57] ?_;(with_reducible refine (spec_l08Word.calls kj9 a0 x6_1 48 57 t121 _ A24.out).mono ?_);rintro e w' ⟨rfl, ⟨nd, rfl⟩⟩;refine ⟨_, rfl, ?_⟩)|((with_reducible refine gF 63 ?_);refine goZ (some 97) Try.func63 #[.string a0, .int .i64 x6_1] ?_;(with_reducible refine (spec_l08Mark.calls kj9 a0 x6_1 t126 _ A38.out).mono ?_);rintro e w42 ⟨rfl, hb⟩;refine ⟨_, rfl, ?_⟩;replace HO_4 := rB HO_4 hb;replace HO_5 := rB HO_5 hb;replace HB := sB hb;(try clear hb))|((with_reducible refine gA 101 104 ?_);at_builtin;refine Kd.R_append k81 (w0 := w) w.heap.size rfl (.tmp 101) (.tmp 104) 37 81 (.agg #[(.int .i64 0), (.string ⟨#[]⟩), (.int .i64 0)]) 32 rfl Try.underlying37 info81 rfl (by decide) (by omega) u5 x5_1 (⟨3, t126, 0⟩ : S81) [.int .i64 3, .string t126, .int .i64 0] (fun k_ => some k_ ≠ (v112 : Value).ownBlock) (fun _ => False) rfl rfl ?aP (fun _ hk => hk.elim) ?aF ?aO ?aB ?aS ?aL ?_;(case aP => exact k81_mkM _ _ _ (⟨3, t126, 0⟩ : S81));(case aB => exact cB);(case aF => exact (fun k_ hk => Kd.fresh' (Kd.R_lt (mR HO_4)) k_ hk));(case aO => exact (mR HO_5));(case aS => exact (below_size cB));(case aL => have := LMc41.out; omega);intro v128 w43 ho hb hg hat;rw [← Ny127.out] at ho;replace HO_4 := Aside0.mk (Kd.R_after (ok := (fun _ => True)) (by (with_reducible repeat (first | apply Kd.R_alloc | apply Kd.R_drewN | apply Kd.R_drew)); exact Kd.R_mono HO_4.out (fun _ hk => ⟨trivial, hk⟩)) hg hat);replace HB := Aside0.mk (hb);have HO129 := Aside0.mk (ho);clear HO_5 ho hb hg hat))
           go_roundg kj9
           case measure => have := HK1.out; have := HJ9.out; omega
           case rel => exact ⟨(y127), (wrap64 (x6_1 + (t126.size : Int))), rS, H', ⟨by have := HK1.out; have := HJ9.out; omega⟩, ⟨by (with_reducible repeat (first | apply Kd.R_alloc | apply Kd.R_drewN | apply Kd.R_drew)); exact Kd.R_mono HO_4.out (fun _ hk => hk.2)⟩, ⟨mR HO129⟩, ⟨cB⟩⟩
    ·rw [if_neg c9] at H;have c9b0 := decide_eq_false c9;clear c9;simp only [Option.some.injEq, Prod.mk.injEq] at H;obtain ⟨rfl, rfl⟩ := H;go_wp2;go_ret2
     exact ⟨_, rE, by (with_reducible repeat (first | apply Kd.R_alloc | apply Kd.R_drewN | apply Kd.R_drew)); exact Kd.R_mono HO_5.out (fun _ hk => trivial), cB⟩
def impl_isLetter.f (a0 : Int) : Option (Bool) := if a0 ≥ 97 then (some (decide (a0 ≤ 122))) else (some false)
set_option maxHeartbeats 8000000 in
set_option maxRecDepth 100000 in
theorem impl_isLetter.calls (a0 : Int) (r : Bool) (w : World) (h : impl_isLetter.f a0 = some r) :
 Calls Try.prog 64 #[.int .u8 a0] w fun e w' => e = .returned (.bool r) ∧ Drawn0 w w' := by
 have H : (if a0 ≥ 97 then (some (decide (a0 ≤ 122))) else (some false)) = some r := h;clear h;by_cases c2 : a0 ≥ 97
 ·rw [if_pos c2] at H;have c2b0 : decide (97 ≤ a0) = true := decide_eq_true c2;clear c2;obtain rfl := Option.some.inj H;go_enter Try.func64, Try.ntmps64;go_wp2;go_ret
  exact ⟨by first | rfl | (simp; done) | (simp [*]; done), by repeat (first | exact Drawn0.refl _ | apply Drawn0.step)⟩
 ·rw [if_neg c2] at H;have c2b0 : decide (97 ≤ a0) = false := decide_eq_false c2;clear c2;obtain rfl := Option.some.inj H;go_enter Try.func64, Try.ntmps64;go_wp2;go_ret
  exact ⟨by first | rfl | (simp; done) | (simp [*]; done), by repeat (first | exact Drawn0.refl _ | apply Drawn0.step)⟩
def impl_isFigure.f (a0 : Int) : Option (Bool) := if a0 ≥ 48 then (some (decide (a0 ≤ 57))) else (some false)
set_option maxHeartbeats 8000000 in
set_option maxRecDepth 100000 in
theorem impl_isFigure.calls (a0 : Int) (r : Bool) (w : World) (h : impl_isFigure.f a0 = some r) :
 Calls Try.prog 66 #[.int .u8 a0] w fun e w' => e = .returned (.bool r) ∧ Drawn0 w w' := by
 have H : (if a0 ≥ 48 then (some (decide (a0 ≤ 57))) else (some false)) = some r := h;clear h;by_cases c2 : a0 ≥ 48
 ·rw [if_pos c2] at H;have c2b0 : decide (48 ≤ a0) = true := decide_eq_true c2;clear c2;obtain rfl := Option.some.inj H;go_enter Try.func66, Try.ntmps66;go_wp2;go_ret
  exact ⟨by first | rfl | (simp; done) | (simp [*]; done), by repeat (first | exact Drawn0.refl _ | apply Drawn0.step)⟩
 ·rw [if_neg c2] at H;have c2b0 : decide (48 ≤ a0) = false := decide_eq_false c2;clear c2;obtain rfl := Option.some.inj H;go_enter Try.func66, Try.ntmps66;go_wp2;go_ret
  exact ⟨by first | rfl | (simp; done) | (simp [*]; done), by repeat (first | exact Drawn0.refl _ | apply Drawn0.step)⟩
end Go.Proofs.Ytcmcpmkihpdnjaa.PFnExactSignsOf
