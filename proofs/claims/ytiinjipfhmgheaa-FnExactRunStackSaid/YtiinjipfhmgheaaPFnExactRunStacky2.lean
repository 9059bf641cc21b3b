import Derived.Test.YtiinjipfhmgheaaPFnExactRunStacky0
import Derived.Test.YtiinjipfhmgheaaPFnExactRunStacky1
namespace Go.Proofs.Ytiinjipfhmgheaa.PFnExactRunStack
open Go.RowKit Go.Proofs.YtiinjipfhmgheaaW.PrintWords Go.Proofs.YtiinjipfhmgheaaW.PrintLast Go.Proofs.YtiinjipfhmgheaaW.PrintMore Go.Proofs.YtiinjipfhmgheaaW.Z
attribute [local go_sem] max2_int min2_int max_two min_two max_three min_three max_four min_four
set_option linter.unusedVariables false
set_option linter.unusedSimpArgs false
def laws_eqInsS.l0 : Nat → List (S118) → List (S118) → Int → Option (Bool)
  | 0, _, _, _ => none
  | k + 1, x0, x1, x5 => if x5 < (x0.length : Int) then (if 0 ≤ x5 then (if x5 < (x1.length : Int) then ((laws_eqIns.f ((rd_T118 x0 x5).f0) ((rd_T118 x0 x5).f1) ((rd_T118 x0 x5).f2) ((rd_T118 x0 x5).f3) ((rd_T118 x1 x5).f0) ((rd_T118 x1 x5).f1) ((rd_T118 x1 x5).f2) ((rd_T118 x1 x5).f3)).bind fun t127 => (if t127 = true then (laws_eqInsS.l0 k x0 x1 (wrap64 (x5 + 1))) else (some false))) else (none)) else (none)) else (some true)
def laws_eqInsS.f (k : Nat) (l0 : List (S118)) (l1 : List (S118)) : Option (Bool) := if (l0.length : Int) = (l1.length : Int) then (laws_eqInsS.l0 k l0 l1 0) else (some false)
def laws_eqInsS.T6 : Bool × List (List Nat × List Nat) := (true, [([], []), ([], []), ([0, 1], [0, 1]), ([2], [2]), ([], []), ([], []), ([4, 5], [4, 5]), ([6], [6]), ([3, 7], [3, 7]), ([8], [8])])
def laws_eqInsS.B6 : List Nat := [0, 0, 3, 7, 0, 0, 48, 112, 255, 511]
theorem laws_eqInsS.tab6 : rtab .any (opsOf Try.f30 6) = laws_eqInsS.T6 := by kernel_rfl
theorem laws_eqInsS.bits6 : waitsOk laws_eqInsS.T6.2 laws_eqInsS.B6 = true := by kernel_rfl
theorem q2x0 {P : Prop} (h : P := by 
 rintro w' ⟨s0, s1, s2, s3, s4, s5, s6, s7⟩
 go_simp
 with_reducible rfl) : P := h
set_option maxHeartbeats 8000000 in
set_option maxRecDepth 100000 in
theorem laws_eqInsS.calls (k : Nat) (A0 : Option Addr) (c0 : Nat) (l0 : List (S118)) (A1 : Option Addr) (c1 : Nat) (l1 : List (S118)) (r : Bool) (w : World) (hr0 : Kd.C k118 w A0 l0.length l0) (hc0 : l0.length ≤ c0) (hr1 : Kd.C k118 w A1 l1.length l1) (hc1 : l1.length ≤ c1) (h : laws_eqInsS.f k l0 l1 = some r) :
 Calls Try.prog 30 #[.slice A0 l0.length c0, .slice A1 l1.length c1] w fun e w' => e = .returned (.bool r) ∧ Below w.heap.size w w' := by
 have hu118 := Try.underlying118;have HR0 := Aside0.mk hr0;have HC0 := Aside0.mk hc0;clear hr0 hc0;have HR1 := Aside0.mk hr1;have HC1 := Aside0.mk hc1;clear hr1 hc1;have HB := Aside0.mk (Below.refl w.heap.size w);have H : (if (l0.length : Int) = (l1.length : Int) then (laws_eqInsS.l0 k l0 l1 0) else (some false)) = some r := h;clear h;by_cases c3 : (l0.length : Int) = (l1.length : Int)
 ·rw [if_pos c3] at H;obtain ⟨c3b0, c3b1⟩ := eT c3
  have c3b2 : (l0.length == l1.length) = true := by first | simpa using c3 | (simp at c3 ⊢; omega)
  clear c3;have H' := Aside0.mk H;clear H;go_enter Try.func30, Try.ntmps30;go_wp2
  go_loopg [5] k (fun kq v5 w' => ∃ (x5_1 : Int), v5 = .int .i64 x5_1 ∧ Aside0 (laws_eqInsS.l0 kq l0 l1 x5_1 = some r) ∧ Aside0 (kq ≤ k) ∧ Aside0 (Below w.heap.size w w'))
  case atStart => exact ⟨(0), rS, H', ⟨Nat.le_refl _⟩, ⟨cB⟩⟩
  case round =>
   clear H';(try clear c1);(try clear c3);(try clear c3b0);(try clear c3b1);(try clear c3b2);obtain ⟨x5_1, rfl, HA, HK1, HB⟩ := hrel
   cases gk with
   | zero => exact absurd HA.out (by simp [laws_eqInsS.l0])
   | succ k1 =>
    have H := HA.out;clear HA;simp only [laws_eqInsS.l0] at H;by_cases c4 : x5_1 < (l0.length : Int)
    ·rw [if_pos c4] at H;have c4b0 := decide_eq_true c4;clear c4;replace H := gD H;obtain ⟨c5b0, H⟩ := H;replace H := gD H;obtain ⟨c6b0, H⟩ := H;replace H := bE H;obtain ⟨t127, A7, H⟩ := H;by_cases c8 : t127 = true
     ·subst c8;replace H := iT H;have H' := Aside0.mk H;clear H
      try go_wp2
      replace HB := Aside0.mk (below_drew1 HB.out);have p125 : 0 ≤ (x5_1 : Int) := dA;have q125 : x5_1 < (l0.length : Int) := dA;obtain ⟨ad125, e125, hx125_0, hx125_1, hx125_2, hx125_3⟩ := at_T118 HR0.out x5_1 p125 q125;have hw125_3 := hx125_3;have hw125_2 := hx125_2;have hw125_1 := hx125_1;have hw125_0 := hx125_0;cases e125;replace hx125_0 := (bc HB hx125_0 :);replace hx125_1 := (bc HB hx125_1 :);replace hx125_2 := (bc HB hx125_2 :);replace hx125_3 := (bc HB hx125_3 :);replace p125 := eq_true p125;replace q125 := eq_true q125;have p126 : 0 ≤ (x5_1 : Int) := dA;have q126 : x5_1 < (l1.length : Int) := dA;obtain ⟨ad126, e126, hx126_0, hx126_1, hx126_2, hx126_3⟩ := at_T118 HR1.out x5_1 p126 q126;have hw126_3 := hx126_3;have hw126_2 := hx126_2;have hw126_1 := hx126_1;have hw126_0 := hx126_0;cases e126;replace hx126_0 := (bc HB hx126_0 :);replace hx126_1 := (bc HB hx126_1 :);replace hx126_2 := (bc HB hx126_2 :);replace hx126_3 := (bc HB hx126_3 :);replace p126 := eq_true p126;replace q126 := eq_true q126
      refine start_ (n := 10) (S := fun w' => w'.cell? (ad125.add ((x5_1).toNat * 4)) = some (.int .i64 ((rd_T118 l0 x5_1).f0)) ∧ w'.cell? ⟨(ad125.add ((x5_1).toNat * 4)).block, (ad125.add ((x5_1).toNat * 4)).off + 1, none⟩ = some (.int .i64 ((rd_T118 l0 x5_1).f1)) ∧ w'.cell? ⟨(ad125.add ((x5_1).toNat * 4)).block, (ad125.add ((x5_1).toNat * 4)).off + 2, none⟩ = some (.int .i64 ((rd_T118 l0 x5_1).f2)) ∧ w'.cell? ⟨(ad125.add ((x5_1).toNat * 4)).block, (ad125.add ((x5_1).toNat * 4)).off + 3, none⟩ = some (.int .i64 ((rd_T118 l0 x5_1).f3)) ∧ w'.cell? (ad126.add ((x5_1).toNat * 4)) = some (.int .i64 ((rd_T118 l1 x5_1).f0)) ∧ w'.cell? ⟨(ad126.add ((x5_1).toNat * 4)).block, (ad126.add ((x5_1).toNat * 4)).off + 1, none⟩ = some (.int .i64 ((rd_T118 l1 x5_1).f1)) ∧ w'.cell? ⟨(ad126.add ((x5_1).toNat * 4)).block, (ad126.add ((x5_1).toNat * 4)).off + 2, none⟩ = some (.int .i64 ((rd_T118 l1 x5_1).f2)) ∧ w'.cell? ⟨(ad126.add ((x5_1).toNat * 4)).block, (ad126.add ((x5_1).toNat * 4)).off + 3, none⟩ = some (.int .i64 ((rd_T118 l1 x5_1).f3))) (ds := []) #[false, false, false, false, false, false, false, false, false, false] (by kernel_rfl) rfl rfl ⟨((bc HB hw125_0 :)), ((bc HB hw125_1 :)), ((bc HB hw125_2 :)), ((bc HB hw125_3 :)), ((bc HB hw126_0 :)), ((bc HB hw126_1 :)), ((bc HB hw126_2 :)), ((bc HB hw126_3 :))⟩ (fun hHeld => ?_); refine with_tabW laws_eqInsS.tab6 laws_eqInsS.bits6 (fun HT_ HW_ => ?_)
      generalize wr.drew = w9 at HB hx125_0 hx125_1 hx125_2 hx125_3 hx126_0 hx126_1 hx126_2 hx126_3 hHeld ⊢;refine pureZ 0 (some 17) (msk 10 1) HT_.out ?_;refine pureZ 1 (some 18) (msk 10 3) HT_.out ?_;refine pureZ 2 (some 19) (msk 10 7) HT_.out ?_;refine pureZ 4 (some 21) (msk 10 23) HT_.out ?_;refine pureZ 5 (some 22) (msk 10 55) HT_.out ?_;refine pureZ 6 (some 23) (msk 10 119) HT_.out ?_;refine takeZ 3 (some 20) (msk 10 127) HT_.out HW_.out hHeld (hy := q2x0) (h := ?_);refine takeZ 7 (some 24) (msk 10 255) HT_.out HW_.out hHeld (hy := q2x0) (h := ?_)
      refine one_Z 8 (some 25) (msk 10 511) HT_.out fun K hK => ?_
      refine goes_ Try.func84 (by kernel_rfl) rfl #[.agg #[.int .i64 ((rd_T118 l0 x5_1).f0), .int .i64 ((rd_T118 l0 x5_1).f1), .int .i64 ((rd_T118 l0 x5_1).f2), .int .i64 ((rd_T118 l0 x5_1).f3)], .agg #[.int .i64 ((rd_T118 l1 x5_1).f0), .int .i64 ((rd_T118 l1 x5_1).f1), .int .i64 ((rd_T118 l1 x5_1).f2), .int .i64 ((rd_T118 l1 x5_1).f3)]] (by rfl) rfl rfl (by (try simp only [List.map_toArray, List.map_cons, List.map_nil]); first | done | rfl | (simp only [List.length_drop, List.length_take]; rfl)) ?_
      with_reducible refine (laws_eqIns.calls ((rd_T118 l0 x5_1).f0) ((rd_T118 l0 x5_1).f1) ((rd_T118 l0 x5_1).f2) ((rd_T118 l0 x5_1).f3) ((rd_T118 l1 x5_1).f0) ((rd_T118 l1 x5_1).f1) ((rd_T118 l1 x5_1).f2) ((rd_T118 l1 x5_1).f3) true _ A7.out).mono ?_;rintro e w10 ⟨rfl, hb⟩;refine ⟨_, rfl, ?_⟩;replace HB := sB hb;(try clear hb)
      refine hK.out _ _ ⟨((bc HB hw125_0 :)), ((bc HB hw125_1 :)), ((bc HB hw125_2 :)), ((bc HB hw125_3 :)), ((bc HB hw126_0 :)), ((bc HB hw126_1 :)), ((bc HB hw126_2 :)), ((bc HB hw126_3 :))⟩ (fun hHeld => ?_)
      clear hK K;refine norm_ (a' := ?_) ?_ ?_;rotate_left
      ·show Act.put _ (some 25) _ = _;simp only [Act.put, List.setIfInBounds_toArray, List.set_cons_zero, List.set_cons_succ, i64_w, i32_w];rfl
      refine pureZ 9 (some 26) (msk 10 1023) HT_.out ?_
      refine done_ (done_of HT_.out (by kernel_rfl)) ?_
      try go_wp2
      go_roundg k1
      case measure => have := HK1.out; omega
      case rel => exact ⟨(wrap64 (x5_1 + 1)), rS, H', ⟨by have := HK1.out; omega⟩, ⟨cB⟩⟩
     ·replace c8 := Bool.eq_false_iff.mpr c8;subst c8;replace H := iF H;obtain rfl := Option.some.inj H
      try go_wp2
      replace HB := Aside0.mk (below_drew1 HB.out);have p125 : 0 ≤ (x5_1 : Int) := dA;have q125 : x5_1 < (l0.length : Int) := dA;obtain ⟨ad125, e125, hx125_0, hx125_1, hx125_2, hx125_3⟩ := at_T118 HR0.out x5_1 p125 q125;have hw125_3 := hx125_3;have hw125_2 := hx125_2;have hw125_1 := hx125_1;have hw125_0 := hx125_0;cases e125;replace hx125_0 := (bc HB hx125_0 :);replace hx125_1 := (bc HB hx125_1 :);replace hx125_2 := (bc HB hx125_2 :);replace hx125_3 := (bc HB hx125_3 :);replace p125 := eq_true p125;replace q125 := eq_true q125;have p126 : 0 ≤ (x5_1 : Int) := dA;have q126 : x5_1 < (l1.length : Int) := dA;obtain ⟨ad126, e126, hx126_0, hx126_1, hx126_2, hx126_3⟩ := at_T118 HR1.out x5_1 p126 q126;have hw126_3 := hx126_3;have hw126_2 := hx126_2;have hw126_1 := hx126_1;have hw126_0 := hx126_0;cases e126;replace hx126_0 := (bc HB hx126_0 :);replace hx126_1 := (bc HB hx126_1 :);replace hx126_2 := (bc HB hx126_2 :);replace hx126_3 := (bc HB hx126_3 :);replace p126 := eq_true p126;replace q126 := eq_true q126
      refine start_ (n := 10) (S := fun w' => w'.cell? (ad125.add ((x5_1).toNat * 4)) = some (.int .i64 ((rd_T118 l0 x5_1).f0)) ∧ w'.cell? ⟨(ad125.add ((x5_1).toNat * 4)).block, (ad125.add ((x5_1).toNat * 4)).off + 1, none⟩ = some (.int .i64 ((rd_T118 l0 x5_1).f1)) ∧ w'.cell? ⟨(ad125.add ((x5_1).toNat * 4)).block, (ad125.add ((x5_1).toNat * 4)).off + 2, none⟩ = some (.int .i64 ((rd_T118 l0 x5_1).f2)) ∧ w'.cell? ⟨(ad125.add ((x5_1).toNat * 4)).block, (ad125.add ((x5_1).toNat * 4)).off + 3, none⟩ = some (.int .i64 ((rd_T118 l0 x5_1).f3)) ∧ w'.cell? (ad126.add ((x5_1).toNat * 4)) = some (.int .i64 ((rd_T118 l1 x5_1).f0)) ∧ w'.cell? ⟨(ad126.add ((x5_1).toNat * 4)).block, (ad126.add ((x5_1).toNat * 4)).off + 1, none⟩ = some (.int .i64 ((rd_T118 l1 x5_1).f1)) ∧ w'.cell? ⟨(ad126.add ((x5_1).toNat * 4)).block, (ad126.add ((x5_1).toNat * 4)).off + 2, none⟩ = some (.int .i64 ((rd_T118 l1 x5_1).f2)) ∧ w'.cell? ⟨(ad126.add ((x5_1).toNat * 4)).block, (ad126.add ((x5_1).toNat * 4)).off + 3, none⟩ = some (.int .i64 ((rd_T118 l1 x5_1).f3))) (ds := []) #[false, false, false, false, false, false, false, false, false, false] (by kernel_rfl) rfl rfl ⟨((bc HB hw125_0 :)), ((bc HB hw125_1 :)), ((bc HB hw125_2 :)), ((bc HB hw125_3 :)), ((bc HB hw126_0 :)), ((bc HB hw126_1 :)), ((bc HB hw126_2 :)), ((bc HB hw126_3 :))⟩ (fun hHeld => ?_); refine with_tabW laws_eqInsS.tab6 laws_eqInsS.bits6 (fun HT_ HW_ => ?_)
      generalize wr.drew = w11 at HB hx125_0 hx125_1 hx125_2 hx125_3 hx126_0 hx126_1 hx126_2 hx126_3 hHeld ⊢;refine pureZ 0 (some 17) (msk 10 1) HT_.out ?_;refine pureZ 1 (some 18) (msk 10 3) HT_.out ?_;refine pureZ 2 (some 19) (msk 10 7) HT_.out ?_;refine pureZ 4 (some 21) (msk 10 23) HT_.out ?_;refine pureZ 5 (some 22) (msk 10 55) HT_.out ?_;refine pureZ 6 (some 23) (msk 10 119) HT_.out ?_;refine takeZ 3 (some 20) (msk 10 127) HT_.out HW_.out hHeld (hy := q2x0) (h := ?_);refine takeZ 7 (some 24) (msk 10 255) HT_.out HW_.out hHeld (hy := q2x0) (h := ?_)
      refine one_Z 8 (some 25) (msk 10 511) HT_.out fun K hK => ?_
      refine goes_ Try.func84 (by kernel_rfl) rfl #[.agg #[.int .i64 ((rd_T118 l0 x5_1).f0), .int .i64 ((rd_T118 l0 x5_1).f1), .int .i64 ((rd_T118 l0 x5_1).f2), .int .i64 ((rd_T118 l0 x5_1).f3)], .agg #[.int .i64 ((rd_T118 l1 x5_1).f0), .int .i64 ((rd_T118 l1 x5_1).f1), .int .i64 ((rd_T118 l1 x5_1).f2), .int .i64 ((rd_T118 l1 x5_1).f3)]] (by rfl) rfl rfl (by (try simp only [List.map_toArray, List.map_cons, List.map_nil]); first | done | rfl | (simp only [List.length_drop, List.length_take]; rfl)) ?_
      with_reducible refine (laws_eqIns.calls ((rd_T118 l0 x5_1).f0) ((rd_T118 l0 x5_1).f1) ((rd_T118 l0 x5_1).f2) ((rd_T118 l0 x5_1).f3) ((rd_T118 l1 x5_1).f0) ((rd_T118 l1 x5_1).f1) ((rd_T118 l1 x5_1).f2) ((rd_T118 l1 x5_1).f3) false _ A7.out).mono ?_;rintro e w12 ⟨rfl, hb⟩;refine ⟨_, rfl, ?_⟩;replace HB := sB hb;(try clear hb)
      refine hK.out _ _ ⟨((bc HB hw125_0 :)), ((bc HB hw125_1 :)), ((bc HB hw125_2 :)), ((bc HB hw125_3 :)), ((bc HB hw126_0 :)), ((bc HB hw126_1 :)), ((bc HB hw126_2 :)), ((bc HB hw126_3 :))⟩ (fun hHeld => ?_)
      clear hK K;refine norm_ (a' := ?_) ?_ ?_;rotate_left
      ·show Act.put _ (some 25) _ = _;simp only [Act.put, List.setIfInBounds_toArray, List.set_cons_zero, List.set_cons_succ, i64_w, i32_w];rfl
      refine pureZ 9 (some 26) (msk 10 1023) HT_.out ?_
      refine done_ (done_of HT_.out (by kernel_rfl)) ?_
      try go_wp2
      go_ret;exact ⟨rE, cB⟩
    ·rw [if_neg c4] at H;have c4b0 := decide_eq_false c4;clear c4;obtain rfl := Option.some.inj H;go_wp2;go_ret;exact ⟨rE, cB⟩
 ·rw [if_neg c3] at H;obtain ⟨c3b0, c3b1⟩ := eF c3
  have c3b2 : (l0.length == l1.length) = false := by first | simpa using c3 | (simp at c3 ⊢; omega)
  obtain rfl := Option.some.inj H;go_enter Try.func30, Try.ntmps30;go_wp2;go_ret;exact ⟨rE, cB⟩
def laws_eqInsSS.l0 : Nat → List (List (S118)) → List (List (S118)) → Int → Option (Bool)
  | 0, _, _, _ => none
  | k + 1, x0, x1, x5 => if x5 < (x0.length : Int) then (if 0 ≤ x5 then (if x5 < (x1.length : Int) then ((laws_eqInsS.f k (rd_L4 x0 x5) (rd_L4 x1 x5)).bind fun t130 => (if t130 = true then (laws_eqInsSS.l0 k x0 x1 (wrap64 (x5 + 1))) else (some false))) else (none)) else (none)) else (some true)
def laws_eqInsSS.f (k : Nat) (l0 : List (List (S118))) (l1 : List (List (S118))) : Option (Bool) := if (l0.length : Int) = (l1.length : Int) then (laws_eqInsSS.l0 k l0 l1 0) else (some false)
def laws_eqInsSS.T6 : Bool × List (List Nat × List Nat) := (true, [([], []), ([], []), ([0, 1], [0, 1]), ([2], [2]), ([], []), ([], []), ([4, 5], [4, 5]), ([6], [6]), ([3, 7], [3, 7]), ([8], [8])])
def laws_eqInsSS.B6 : List Nat := [0, 0, 3, 7, 0, 0, 48, 112, 255, 511]
theorem laws_eqInsSS.tab6 : rtab .any (opsOf Try.f19 6) = laws_eqInsSS.T6 := by kernel_rfl
theorem laws_eqInsSS.bits6 : waitsOk laws_eqInsSS.T6.2 laws_eqInsSS.B6 = true := by kernel_rfl
theorem q2x1 {P : Prop} (h : P := by 
 rintro w' ⟨s0, s1⟩
 go_simp
 with_reducible rfl) : P := h
set_option maxHeartbeats 8000000 in
set_option maxRecDepth 100000 in
theorem laws_eqInsSS.calls (k : Nat) (A0 : Option Addr) (c0 : Nat) (l0 : List (List (S118))) (A1 : Option Addr) (c1 : Nat) (l1 : List (List (S118))) (r : Bool) (w : World) (hr0 : Kd.C (Kd.slice 118 k118) w A0 l0.length l0) (hc0 : l0.length ≤ c0) (hr1 : Kd.C (Kd.slice 118 k118) w A1 l1.length l1) (hc1 : l1.length ≤ c1) (h : laws_eqInsSS.f k l0 l1 = some r) :
 Calls Try.prog 19 #[.slice A0 l0.length c0, .slice A1 l1.length c1] w fun e w' => e = .returned (.bool r) ∧ Below w.heap.size w w' := by
 have HR0 := Aside0.mk hr0;have HC0 := Aside0.mk hc0;clear hr0 hc0;have HR1 := Aside0.mk hr1;have HC1 := Aside0.mk hc1;clear hr1 hc1;have HB := Aside0.mk (Below.refl w.heap.size w);have H : (if (l0.length : Int) = (l1.length : Int) then (laws_eqInsSS.l0 k l0 l1 0) else (some false)) = some r := h;clear h;by_cases c3 : (l0.length : Int) = (l1.length : Int)
 ·rw [if_pos c3] at H;obtain ⟨c3b0, c3b1⟩ := eT c3
  have c3b2 : (l0.length == l1.length) = true := by first | simpa using c3 | (simp at c3 ⊢; omega)
  clear c3;have H' := Aside0.mk H;clear H;go_enter Try.func19, Try.ntmps19;go_wp2
  go_loopg [5] k (fun kq v5 w' => ∃ (x5_1 : Int), v5 = .int .i64 x5_1 ∧ Aside0 (laws_eqInsSS.l0 kq l0 l1 x5_1 = some r) ∧ Aside0 (kq ≤ k) ∧ Aside0 (Below w.heap.size w w'))
  case atStart => exact ⟨(0), rS, H', ⟨Nat.le_refl _⟩, ⟨cB⟩⟩
  case round =>
   clear H';(try clear c1);(try clear c3);(try clear c3b0);(try clear c3b1);(try clear c3b2);obtain ⟨x5_1, rfl, HA, HK1, HB⟩ := hrel
   cases gk with
   | zero => exact absurd HA.out (by simp [laws_eqInsSS.l0])
   | succ k1 =>
    have H := HA.out;clear HA;simp only [laws_eqInsSS.l0] at H;by_cases c4 : x5_1 < (l0.length : Int)
    ·rw [if_pos c4] at H;have c4b0 := decide_eq_true c4;clear c4;replace H := gD H;obtain ⟨c5b0, H⟩ := H;replace H := gD H;obtain ⟨c6b0, H⟩ := H;replace H := bE H;obtain ⟨t130, A7, H⟩ := H;by_cases c8 : t130 = true
     ·subst c8;replace H := iT H;have H' := Aside0.mk H;clear H
      try go_wp2
      replace HB := Aside0.mk (below_drew1 HB.out);have p128 : 0 ≤ (x5_1 : Int) := dA;have q128 : x5_1 < (l0.length : Int) := dA;obtain ⟨ad128, A128_0, c128_0, e128, hx128_0, hl128_0, hi128_0⟩ := at_L4 HR0.out x5_1 p128 q128;have hw128_0 := hx128_0;cases e128;replace hx128_0 := (bc HB hx128_0 :);have HR128_0 := Aside0.mk hi128_0;have HC128_0 := Aside0.mk hl128_0;clear hi128_0 hl128_0;replace p128 := eq_true p128;replace q128 := eq_true q128;have p129 : 0 ≤ (x5_1 : Int) := dA;have q129 : x5_1 < (l1.length : Int) := dA;obtain ⟨ad129, A129_0, c129_0, e129, hx129_0, hl129_0, hi129_0⟩ := at_L4 HR1.out x5_1 p129 q129;have hw129_0 := hx129_0;cases e129;replace hx129_0 := (bc HB hx129_0 :);have HR129_0 := Aside0.mk hi129_0;have HC129_0 := Aside0.mk hl129_0;clear hi129_0 hl129_0;replace p129 := eq_true p129;replace q129 := eq_true q129
      refine start_ (n := 10) (S := fun w' => w'.cell? (ad128.add (x5_1).toNat) = some (.slice A128_0 (rd_L4 l0 x5_1).length c128_0) ∧ w'.cell? (ad129.add (x5_1).toNat) = some (.slice A129_0 (rd_L4 l1 x5_1).length c129_0)) (ds := []) #[false, false, false, false, false, false, false, false, false, false] (by kernel_rfl) rfl rfl ⟨((bc HB hw128_0 :)), ((bc HB hw129_0 :))⟩ (fun hHeld => ?_); refine with_tabW laws_eqInsSS.tab6 laws_eqInsSS.bits6 (fun HT_ HW_ => ?_)
      generalize wr.drew = w9 at HB HR128_0 HR129_0 hx128_0 hx129_0 hHeld ⊢;refine pureZ 0 (some 17) (msk 10 1) HT_.out ?_;refine pureZ 1 (some 18) (msk 10 3) HT_.out ?_;refine pureZ 2 (some 19) (msk 10 7) HT_.out ?_;refine pureZ 4 (some 21) (msk 10 23) HT_.out ?_;refine pureZ 5 (some 22) (msk 10 55) HT_.out ?_;refine pureZ 6 (some 23) (msk 10 119) HT_.out ?_;refine takeZ 3 (some 20) (msk 10 127) HT_.out HW_.out hHeld (hy := q2x1) (h := ?_);refine takeZ 7 (some 24) (msk 10 255) HT_.out HW_.out hHeld (hy := q2x1) (h := ?_)
      refine one_Z 8 (some 25) (msk 10 511) HT_.out fun K hK => ?_
      refine goes_ Try.func30 (by kernel_rfl) rfl #[.slice A128_0 (rd_L4 l0 x5_1).length c128_0, .slice A129_0 (rd_L4 l1 x5_1).length c129_0] (by rfl) rfl rfl (by (try simp only [List.map_toArray, List.map_cons, List.map_nil]); first | done | rfl | (simp only [List.length_drop, List.length_take]; rfl)) ?_
      with_reducible refine (laws_eqInsS.calls k1 _ _ (rd_L4 l0 x5_1) _ _ (rd_L4 l1 x5_1) true _ ?side1 ?side2 ?side3 ?side4 A7.out).mono ?_
      (case side1 => exact cC (Kd.C_below HR128_0.out HB.out))
      (case side2 => exact HC128_0.out)
      (case side3 => exact cC (Kd.C_below HR129_0.out HB.out))
      (case side4 => exact HC129_0.out)
      rintro e w10 ⟨rfl, hb⟩;refine ⟨_, rfl, ?_⟩;replace HB := sB hb;(try clear hb)
      refine hK.out _ _ ⟨((bc HB hw128_0 :)), ((bc HB hw129_0 :))⟩ (fun hHeld => ?_)
      clear hK K;refine norm_ (a' := ?_) ?_ ?_;rotate_left
      ·show Act.put _ (some 25) _ = _;simp only [Act.put, List.setIfInBounds_toArray, List.set_cons_zero, List.set_cons_succ, i64_w, i32_w];rfl
      refine pureZ 9 (some 26) (msk 10 1023) HT_.out ?_
      refine done_ (done_of HT_.out (by kernel_rfl)) ?_
      try go_wp2
      go_roundg k1
      case measure => have := HK1.out; omega
      case rel => exact ⟨(wrap64 (x5_1 + 1)), rS, H', ⟨by have := HK1.out; omega⟩, ⟨cB⟩⟩
     ·replace c8 := Bool.eq_false_iff.mpr c8;subst c8;replace H := iF H;obtain rfl := Option.some.inj H
      try go_wp2
      replace HB := Aside0.mk (below_drew1 HB.out);have p128 : 0 ≤ (x5_1 : Int) := dA;have q128 : x5_1 < (l0.length : Int) := dA;obtain ⟨ad128, A128_0, c128_0, e128, hx128_0, hl128_0, hi128_0⟩ := at_L4 HR0.out x5_1 p128 q128;have hw128_0 := hx128_0;cases e128;replace hx128_0 := (bc HB hx128_0 :);have HR128_0 := Aside0.mk hi128_0;have HC128_0 := Aside0.mk hl128_0;clear hi128_0 hl128_0;replace p128 := eq_true p128;replace q128 := eq_true q128;have p129 : 0 ≤ (x5_1 : Int) := dA;have q129 : x5_1 < (l1.length : Int) := dA;obtain ⟨ad129, A129_0, c129_0, e129, hx129_0, hl129_0, hi129_0⟩ := at_L4 HR1.out x5_1 p129 q129;have hw129_0 := hx129_0;cases e129;replace hx129_0 := (bc HB hx129_0 :);have HR129_0 := Aside0.mk hi129_0;have HC129_0 := Aside0.mk hl129_0;clear hi129_0 hl129_0;replace p129 := eq_true p129;replace q129 := eq_true q129
      refine start_ (n := 10) (S := fun w' => w'.cell? (ad128.add (x5_1).toNat) = some (.slice A128_0 (rd_L4 l0 x5_1).length c128_0) ∧ w'.cell? (ad129.add (x5_1).toNat) = some (.slice A129_0 (rd_L4 l1 x5_1).length c129_0)) (ds := []) #[false, false, false, false, false, false, false, false, false, false] (by kernel_rfl) rfl rfl ⟨((bc HB hw128_0 :)), ((bc HB hw129_0 :))⟩ (fun hHeld => ?_); refine with_tabW laws_eqInsSS.tab6 laws_eqInsSS.bits6 (fun HT_ HW_ => ?_)
      generalize wr.drew = w11 at HB HR128_0 HR129_0 hx128_0 hx129_0 hHeld ⊢;refine pureZ 0 (some 17) (msk 10 1) HT_.out ?_;refine pureZ 1 (some 18) (msk 10 3) HT_.out ?_;refine pureZ 2 (some 19) (msk 10 7) HT_.out ?_;refine pureZ 4 (some 21) (msk 10 23) HT_.out ?_;refine pureZ 5 (some 22) (msk 10 55) HT_.out ?_;refine pureZ 6 (some 23) (msk 10 119) HT_.out ?_;refine takeZ 3 (some 20) (msk 10 127) HT_.out HW_.out hHeld (hy := q2x1) (h := ?_);refine takeZ 7 (some 24) (msk 10 255) HT_.out HW_.out hHeld (hy := q2x1) (h := ?_)
      refine one_Z 8 (some 25) (msk 10 511) HT_.out fun K hK => ?_
      refine goes_ Try.func30 (by kernel_rfl) rfl #[.slice A128_0 (rd_L4 l0 x5_1).length c128_0, .slice A129_0 (rd_L4 l1 x5_1).length c129_0] (by rfl) rfl rfl (by (try simp only [List.map_toArray, List.map_cons, List.map_nil]); first | done | rfl | (simp only [List.length_drop, List.length_take]; rfl)) ?_
      with_reducible refine (laws_eqInsS.calls k1 _ _ (rd_L4 l0 x5_1) _ _ (rd_L4 l1 x5_1) false _ ?side1 ?side2 ?side3 ?side4 A7.out).mono ?_
      (case side1 => exact cC (Kd.C_below HR128_0.out HB.out))
      (case side2 => exact HC128_0.out)
      (case side3 => exact cC (Kd.C_below HR129_0.out HB.out))
      (case side4 => exact HC129_0.out)
      rintro e w12 ⟨rfl, hb⟩;refine ⟨_, rfl, ?_⟩;replace HB := sB hb;(try clear hb)
      refine hK.out _ _ ⟨((bc HB hw128_0 :)), ((bc HB hw129_0 :))⟩ (fun hHeld => ?_)
      clear hK K;refine norm_ (a' := ?_) ?_ ?_;rotate_left
      ·show Act.put _ (some 25) _ = _;simp only [Act.put, List.setIfInBounds_toArray, List.set_cons_zero, List.set_cons_succ, i64_w, i32_w];rfl
      refine pureZ 9 (some 26) (msk 10 1023) HT_.out ?_
      refine done_ (done_of HT_.out (by kernel_rfl)) ?_
      try go_wp2
      go_ret;exact ⟨rE, cB⟩
    ·rw [if_neg c4] at H;have c4b0 := decide_eq_false c4;clear c4;obtain rfl := Option.some.inj H;go_wp2;go_ret;exact ⟨rE, cB⟩
 ·rw [if_neg c3] at H;obtain ⟨c3b0, c3b1⟩ := eF c3
  have c3b2 : (l0.length == l1.length) = false := by first | simpa using c3 | (simp at c3 ⊢; omega)
  obtain rfl := Option.some.inj H;go_enter Try.func19, Try.ntmps19;go_wp2;go_ret;exact ⟨rE, cB⟩
def laws_szWideS.f (l0 : List (S30)) (a1 : Int) : Option (Int) := if (wrap64 (a1 - (l0.length : Int))) < 0 then (some (-1)) else (some (wrap64 (a1 - (l0.length : Int))))
set_option maxHeartbeats 8000000 in
set_option maxRecDepth 100000 in
theorem laws_szWideS.calls (A0 : Option Addr) (c0 : Nat) (l0 : List (S30)) (a1 : Int) (r : Int) (w : World) (hr0 : Kd.C k30 w A0 l0.length l0) (hc0 : l0.length ≤ c0) (h : laws_szWideS.f l0 a1 = some r) :
 Calls Try.prog 71 #[.slice A0 l0.length c0, .int .i64 a1] w fun e w' => e = .returned (.int .i64 r) ∧ Drawn0 w w' := by
 have HR0 := Aside0.mk hr0;have HC0 := Aside0.mk hc0;clear hr0 hc0;have H : (if (wrap64 (a1 - (l0.length : Int))) < 0 then (some (-1)) else (some (wrap64 (a1 - (l0.length : Int))))) = some r := h;clear h;by_cases c3 : (wrap64 (a1 - (l0.length : Int))) < 0
 ·rw [if_pos c3] at H;have c3b0 := decide_eq_true c3;clear c3;obtain rfl := Option.some.inj H;go_enter Try.func71, Try.ntmps71;go_wp2;go_ret
  exact ⟨by first | rfl | (simp; done) | (simp [*]; done), by repeat (first | exact Drawn0.refl _ | apply Drawn0.step)⟩
 ·rw [if_neg c3] at H;have c3b0 := decide_eq_false c3;clear c3;obtain rfl := Option.some.inj H;go_enter Try.func71, Try.ntmps71;go_wp2;go_ret
  exact ⟨by first | rfl | (simp; done) | (simp [*]; done), by repeat (first | exact Drawn0.refl _ | apply Drawn0.step)⟩
def laws_szCall.f (a0_0 : Int) (a0_1 : Int) (l0_2 : List (S30)) (a1 : Int) : Option (Int) := (laws_szWideS.f l0_2 a1).bind fun t132 => (if t132 < 0 then (some (-1)) else (some t132))
set_option maxHeartbeats 8000000 in
set_option maxRecDepth 100000 in
theorem laws_szCall.calls (a0_0 : Int) (a0_1 : Int) (A0_2 : Option Addr) (c0_2 : Nat) (l0_2 : List (S30)) (a1 : Int) (r : Int) (w : World) (hr0_2 : Kd.C k30 w A0_2 l0_2.length l0_2) (hc0_2 : l0_2.length ≤ c0_2) (h : laws_szCall.f a0_0 a0_1 l0_2 a1 = some r) :
 Calls Try.prog 20 #[.agg #[.int .i64 a0_0, .int .i64 a0_1, .slice A0_2 l0_2.length c0_2], .int .i64 a1] w fun e w' => e = .returned (.int .i64 r) ∧ Below w.heap.size w w' := by
 have hu35 := Try.underlying35;have HR0_2 := Aside0.mk hr0_2;have HC0_2 := Aside0.mk hc0_2;clear hr0_2 hc0_2;have HB := Aside0.mk (Below.refl w.heap.size w)
 have H : ((laws_szWideS.f l0_2 a1).bind fun t132 => (if t132 < 0 then (some (-1)) else (some t132))) = some r := h
 clear h;replace H := bE H;obtain ⟨t132, A3, H⟩ := H;by_cases c4 : t132 < 0
 ·rw [if_pos c4] at H;have c4b0 := decide_eq_true c4;clear c4;obtain rfl := Option.some.inj H;go_enter Try.func20, Try.ntmps20
  go_wp2_with (first|((with_reducible refine gN 2 ?_);refine boxZ 2 #[.int .i64 a0_0, .int .i64 a0_1, .slice A0_2 l0_2.length c0_2] 35 ?_;intro gb131 hg w5 hbox hb;have BK131 := Aside0.mk (hbox);have GW131 := gS hg;have GE131 := gS hg;replace HB := sB hb;clear hb hbox hg;obtain ⟨hcz6_0, hcz6_1, hcz6_2, hfz6_0, hfz6_1, hfz6_2⟩ := cz3 BK131)|((with_reducible refine gF 71 ?_);refine goZ (some 8) Try.func71 #[.slice A0_2 l0_2.length c0_2, .int .i64 a1] ?_;(with_reducible refine (laws_szWideS.calls _ _ l0_2 a1 t132 _ ?side1 ?side2 A3.out).mono ?_);(case side1 => exact cC (Kd.C_below HR0_2.out HB.out));(case side2 => exact HC0_2.out);rintro e w' ⟨rfl, ⟨nd, rfl⟩⟩;refine ⟨_, rfl, ?_⟩))
  go_ret;exact ⟨rE, cB⟩
 ·rw [if_neg c4] at H;have c4b0 := decide_eq_false c4;clear c4;obtain rfl := Option.some.inj H;go_enter Try.func20, Try.ntmps20
  go_wp2_with (first|((with_reducible refine gN 2 ?_);refine boxZ 2 #[.int .i64 a0_0, .int .i64 a0_1, .slice A0_2 l0_2.length c0_2] 35 ?_;intro gb131 hg w7 hbox hb;have BK131 := Aside0.mk (hbox);have GW131 := gS hg;have GE131 := gS hg;replace HB := sB hb;clear hb hbox hg;obtain ⟨hcz8_0, hcz8_1, hcz8_2, hfz8_0, hfz8_1, hfz8_2⟩ := cz3 BK131)|((with_reducible refine gF 71 ?_);refine goZ (some 8) Try.func71 #[.slice A0_2 l0_2.length c0_2, .int .i64 a1] ?_;(with_reducible refine (laws_szWideS.calls _ _ l0_2 a1 t132 _ ?side1 ?side2 A3.out).mono ?_);(case side1 => exact cC (Kd.C_below HR0_2.out HB.out));(case side2 => exact HC0_2.out);rintro e w' ⟨rfl, ⟨nd, rfl⟩⟩;refine ⟨_, rfl, ?_⟩))
  go_ret;exact ⟨rE, cB⟩
def laws_toWide.f (a0_0 : Int) (a0_1 : Int) : Option (Int × Int) := some (a0_0, a0_1)
set_option maxHeartbeats 8000000 in
set_option maxRecDepth 100000 in
theorem laws_toWide.calls (a0_0 : Int) (a0_1 : Int) (r1 : Int) (r2 : Int) (w : World) (h : laws_toWide.f a0_0 a0_1 = some (r1, r2)) :
 Calls Try.prog 76 #[.agg #[.int .i64 a0_0, .int .i64 a0_1]] w fun e w' => e = .returned (.agg #[.int .i64 r1, .int .i64 r2]) ∧ Below w.heap.size w w' := by
 have hu30 := Try.underlying30;have hu38 := Try.underlying38;have HB := Aside0.mk (Below.refl w.heap.size w);have H : (some (a0_0, a0_1)) = some (r1, r2) := h;clear h;simp only [Option.some.injEq, Prod.mk.injEq] at H;obtain ⟨rfl, rfl⟩ := H;go_enter Try.func76, Try.ntmps76
 go_wp2_with (first|((with_reducible refine gN 1 ?_);refine boxZ 1 #[.int .i64 a0_0, .int .i64 a0_1] 30 ?_;intro gb133 hg w2 hbox hb;have BK133 := Aside0.mk (hbox);have GW133 := gS hg;have GE133 := gS hg;replace HB := sB hb;clear hb hbox hg)|((with_reducible refine gN 2 ?_);refine boxZ 2 #[.int .i64 0, .int .i64 0] 38 ?_;intro gb134 hg w3 hbox hb;have BK134 := Aside0.mk (hbox);have GW134 := gS hg;have GE134 := gS hg;replace HB := sB hb;have NB133_134 := nL hg BK133;have NB134_133 := nG hg BK133;replace BK133 := kB BK133 hb;clear hb hbox hg)|((with_reducible refine gN 3 ?_);refine boxZ 3 #[.int .i64 0, .int .i64 0] 38 ?_;intro gb135 hg w4 hbox hb;have BK135 := Aside0.mk (hbox);have GW135 := gS hg;have GE135 := gS hg;replace HB := sB hb;have NB133_135 := nL hg BK133;have NB135_133 := nG hg BK133;replace BK133 := kB BK133 hb;have NB134_135 := nL hg BK134;have NB135_134 := nG hg BK134;replace BK134 := kB BK134 hb;clear hb hbox hg;have hnb5 := NB133_134.out;have hnc5 := NB134_133.out;have hnb6 := NB133_135.out;have hnc6 := NB135_133.out;obtain ⟨hcz7_0, hcz7_1, hfz7_0, hfz7_1⟩ := cz2 BK133;have hnb8 := NB135_134.out;have hnc8 := NB134_135.out;obtain ⟨hcz9_0, hcz9_1, hfz9_0, hfz9_1⟩ := cz2 BK135;obtain ⟨hcz10_0, hcz10_1, hfz10_0, hfz10_1⟩ := cz2 BK134))
 refine bodyPost_ret (results_cell_row rfl _ _ gb134 38 #[.int .i64 a0_0, .int .i64 a0_1] (0, 0) _ rfl (by (with_reducible repeat (first | refine blk_drewN ?_ _ | refine blk_drew ?_ | refine blk_alloc ?_ _)); refine blk_put (cs := #[.int .i64 a0_0, .int .i64 0]) ?_ 1 _ rfl; (with_reducible repeat (first | refine blk_drewN ?_ _ | refine blk_drew ?_ | refine blk_alloc ?_ _)); refine blk_put (cs := #[.int .i64 0, .int .i64 0]) ?_ 0 _ rfl; (with_reducible repeat (first | refine blk_drewN ?_ _ | refine blk_drew ?_ | refine blk_alloc ?_ _)); refine blk_far ?_ NB134_135.out _; (with_reducible repeat (first | refine blk_drewN ?_ _ | refine blk_drew ?_ | refine blk_alloc ?_ _)); refine blk_far ?_ NB134_135.out _; (with_reducible repeat (first | refine blk_drewN ?_ _ | refine blk_drew ?_ | refine blk_alloc ?_ _)); exact BK134.out) Try.underlying38 rfl (by kernel_rfl)) rfl ?_
 exact ⟨rE, cB⟩
end Go.Proofs.Ytiinjipfhmgheaa.PFnExactRunStack
