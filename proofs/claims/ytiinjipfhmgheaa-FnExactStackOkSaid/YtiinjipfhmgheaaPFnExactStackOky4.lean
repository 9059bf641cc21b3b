import Derived.Test.YtiinjipfhmgheaaPFnExactStackOky0
namespace Go.Proofs.Ytiinjipfhmgheaa.PFnExactStackOk
open Go.RowKit Go.Proofs.YtiinjipfhmgheaaW.PrintWords Go.Proofs.YtiinjipfhmgheaaW.PrintLast Go.Proofs.YtiinjipfhmgheaaW.PrintMore Go.Proofs.YtiinjipfhmgheaaW.Z
attribute [local go_sem] max2_int min2_int max_two min_two max_three min_three max_four min_four
set_option linter.unusedVariables false
set_option linter.unusedSimpArgs false
def laws_eqIns.f (a0_0 : Int) (a0_1 : Int) (a0_2 : Int) (a0_3 : Int) (a1_0 : Int) (a1_1 : Int) (a1_2 : Int) (a1_3 : Int) : Option (Bool) := if a0_0 = a1_0 then (if a0_1 = a1_1 then (if a0_2 = a1_2 then (if a0_3 = a1_3 then (some true) else (some false)) else (some false)) else (some false)) else (some false)
set_option maxHeartbeats 8000000 in
set_option maxRecDepth 100000 in
theorem laws_eqIns.calls (a0_0 : Int) (a0_1 : Int) (a0_2 : Int) (a0_3 : Int) (a1_0 : Int) (a1_1 : Int) (a1_2 : Int) (a1_3 : Int) (r : Bool) (w : World) (h : laws_eqIns.f a0_0 a0_1 a0_2 a0_3 a1_0 a1_1 a1_2 a1_3 = some r) :
 Calls Try.prog 84 #[.agg #[.int .i64 a0_0, .int .i64 a0_1, .int .i64 a0_2, .int .i64 a0_3], .agg #[.int .i64 a1_0, .int .i64 a1_1, .int .i64 a1_2, .int .i64 a1_3]] w fun e w' => e = .returned (.bool r) ∧ Below w.heap.size w w' := by
 have hu118 := Try.underlying118;have HB := Aside0.mk (Below.refl w.heap.size w);have H : (if a0_0 = a1_0 then (if a0_1 = a1_1 then (if a0_2 = a1_2 then (if a0_3 = a1_3 then (some true) else (some false)) else (some false)) else (some false)) else (some false)) = some r := h;clear h;by_cases c3 : a0_0 = a1_0
 ·rw [if_pos c3] at H;obtain ⟨c3b0, c3b1⟩ := eT c3;clear c3;by_cases c4 : a0_1 = a1_1
  ·rw [if_pos c4] at H;obtain ⟨c4b0, c4b1⟩ := eT c4;clear c4;by_cases c5 : a0_2 = a1_2
   ·rw [if_pos c5] at H;obtain ⟨c5b0, c5b1⟩ := eT c5;clear c5;by_cases c6 : a0_3 = a1_3
    ·rw [if_pos c6] at H;obtain ⟨c6b0, c6b1⟩ := eT c6;clear c6;obtain rfl := Option.some.inj H;go_enter Try.func84, Try.ntmps84
     go_wp2_with (first|((with_reducible refine gN 2 ?_);refine boxZ 2 #[.int .i64 a0_0, .int .i64 a0_1, .int .i64 a0_2, .int .i64 a0_3] 118 ?_;intro gb163 hg w7 hbox hb;have BK163 := Aside0.mk (hbox);have GW163 := gS hg;have GE163 := gS hg;replace HB := sB hb;clear hb hbox hg)|((with_reducible refine gN 3 ?_);refine boxZ 3 #[.int .i64 a1_0, .int .i64 a1_1, .int .i64 a1_2, .int .i64 a1_3] 118 ?_;intro gb164 hg w8 hbox hb;have BK164 := Aside0.mk (hbox);have GW164 := gS hg;have GE164 := gS hg;replace HB := sB hb;have NB163_164 := nL hg BK163;have NB164_163 := nG hg BK163;replace BK163 := kB BK163 hb;clear hb hbox hg;have hnb9 := NB163_164.out;have hnc9 := NB164_163.out;obtain ⟨hcz10_0, hcz10_1, hcz10_2, hcz10_3, hfz10_0, hfz10_1, hfz10_2, hfz10_3⟩ := cz4 BK163;obtain ⟨hcz11_0, hcz11_1, hcz11_2, hcz11_3, hfz11_0, hfz11_1, hfz11_2, hfz11_3⟩ := cz4 BK164))
     go_ret;exact ⟨rE, cB⟩
    ·rw [if_neg c6] at H;obtain ⟨c6b0, c6b1⟩ := eF c6;obtain rfl := Option.some.inj H;go_enter Try.func84, Try.ntmps84
     go_wp2_with (first|((with_reducible refine gN 2 ?_);refine boxZ 2 #[.int .i64 a0_0, .int .i64 a0_1, .int .i64 a0_2, .int .i64 a0_3] 118 ?_;intro gb163 hg w12 hbox hb;have BK163 := Aside0.mk (hbox);have GW163 := gS hg;have GE163 := gS hg;replace HB := sB hb;clear hb hbox hg)|((with_reducible refine gN 3 ?_);refine boxZ 3 #[.int .i64 a1_0, .int .i64 a1_1, .int .i64 a1_2, .int .i64 a1_3] 118 ?_;intro gb164 hg w13 hbox hb;have BK164 := Aside0.mk (hbox);have GW164 := gS hg;have GE164 := gS hg;replace HB := sB hb;have NB163_164 := nL hg BK163;have NB164_163 := nG hg BK163;replace BK163 := kB BK163 hb;clear hb hbox hg;have hnb14 := NB163_164.out;have hnc14 := NB164_163.out;obtain ⟨hcz15_0, hcz15_1, hcz15_2, hcz15_3, hfz15_0, hfz15_1, hfz15_2, hfz15_3⟩ := cz4 BK163;obtain ⟨hcz16_0, hcz16_1, hcz16_2, hcz16_3, hfz16_0, hfz16_1, hfz16_2, hfz16_3⟩ := cz4 BK164))
     go_ret;exact ⟨rE, cB⟩
   ·rw [if_neg c5] at H;obtain ⟨c5b0, c5b1⟩ := eF c5;obtain rfl := Option.some.inj H;go_enter Try.func84, Try.ntmps84
    go_wp2_with (first|((with_reducible refine gN 2 ?_);refine boxZ 2 #[.int .i64 a0_0, .int .i64 a0_1, .int .i64 a0_2, .int .i64 a0_3] 118 ?_;intro gb163 hg w17 hbox hb;have BK163 := Aside0.mk (hbox);have GW163 := gS hg;have GE163 := gS hg;replace HB := sB hb;clear hb hbox hg)|((with_reducible refine gN 3 ?_);refine boxZ 3 #[.int .i64 a1_0, .int .i64 a1_1, .int .i64 a1_2, .int .i64 a1_3] 118 ?_;intro gb164 hg w18 hbox hb;have BK164 := Aside0.mk (hbox);have GW164 := gS hg;have GE164 := gS hg;replace HB := sB hb;have NB163_164 := nL hg BK163;have NB164_163 := nG hg BK163;replace BK163 := kB BK163 hb;clear hb hbox hg;have hnb19 := NB163_164.out;have hnc19 := NB164_163.out;obtain ⟨hcz20_0, hcz20_1, hcz20_2, hcz20_3, hfz20_0, hfz20_1, hfz20_2, hfz20_3⟩ := cz4 BK163;obtain ⟨hcz21_0, hcz21_1, hcz21_2, hcz21_3, hfz21_0, hfz21_1, hfz21_2, hfz21_3⟩ := cz4 BK164))
    go_ret;exact ⟨rE, cB⟩
  ·rw [if_neg c4] at H;obtain ⟨c4b0, c4b1⟩ := eF c4;obtain rfl := Option.some.inj H;go_enter Try.func84, Try.ntmps84
   go_wp2_with (first|((with_reducible refine gN 2 ?_);refine boxZ 2 #[.int .i64 a0_0, .int .i64 a0_1, .int .i64 a0_2, .int .i64 a0_3] 118 ?_;intro gb163 hg w22 hbox hb;have BK163 := Aside0.mk (hbox);have GW163 := gS hg;have GE163 := gS hg;replace HB := sB hb;clear hb hbox hg)|((with_reducible refine gN 3 ?_);refine boxZ 3 #[.int .i64 a1_0, .int .i64 a1_1, .int .i64 a1_2, .int .i64 a1_3] 118 ?_;intro gb164 hg w23 hbox hb;have BK164 := Aside0.mk (hbox);have GW164 := gS hg;have GE164 := gS hg;replace HB := sB hb;have NB163_164 := nL hg BK163;have NB164_163 := nG hg BK163;replace BK163 := kB BK163 hb;clear hb hbox hg;have hnb24 := NB163_164.out;have hnc24 := NB164_163.out;obtain ⟨hcz25_0, hcz25_1, hcz25_2, hcz25_3, hfz25_0, hfz25_1, hfz25_2, hfz25_3⟩ := cz4 BK163;obtain ⟨hcz26_0, hcz26_1, hcz26_2, hcz26_3, hfz26_0, hfz26_1, hfz26_2, hfz26_3⟩ := cz4 BK164))
   go_ret;exact ⟨rE, cB⟩
 ·rw [if_neg c3] at H;obtain ⟨c3b0, c3b1⟩ := eF c3;obtain rfl := Option.some.inj H;go_enter Try.func84, Try.ntmps84
  go_wp2_with (first|((with_reducible refine gN 2 ?_);refine boxZ 2 #[.int .i64 a0_0, .int .i64 a0_1, .int .i64 a0_2, .int .i64 a0_3] 118 ?_;intro gb163 hg w27 hbox hb;have BK163 := Aside0.mk (hbox);have GW163 := gS hg;have GE163 := gS hg;replace HB := sB hb;clear hb hbox hg)|((with_reducible refine gN 3 ?_);refine boxZ 3 #[.int .i64 a1_0, .int .i64 a1_1, .int .i64 a1_2, .int .i64 a1_3] 118 ?_;intro gb164 hg w28 hbox hb;have BK164 := Aside0.mk (hbox);have GW164 := gS hg;have GE164 := gS hg;replace HB := sB hb;have NB163_164 := nL hg BK163;have NB164_163 := nG hg BK163;replace BK163 := kB BK163 hb;clear hb hbox hg;have hnb29 := NB163_164.out;have hnc29 := NB164_163.out;obtain ⟨hcz30_0, hcz30_1, hcz30_2, hcz30_3, hfz30_0, hfz30_1, hfz30_2, hfz30_3⟩ := cz4 BK163;obtain ⟨hcz31_0, hcz31_1, hcz31_2, hcz31_3, hfz31_0, hfz31_1, hfz31_2, hfz31_3⟩ := cz4 BK164))
  go_ret;exact ⟨rE, cB⟩
def laws_eqInsS.l0 : Nat → List (S118) → List (S118) → Int → Option (Bool)
  | 0, _, _, _ => none
  | k + 1, x0, x1, x5 => if x5 < (x0.length : Int) then (if 0 ≤ x5 then (if x5 < (x1.length : Int) then ((laws_eqIns.f ((rd_T118 x0 x5).f0) ((rd_T118 x0 x5).f1) ((rd_T118 x0 x5).f2) ((rd_T118 x0 x5).f3) ((rd_T118 x1 x5).f0) ((rd_T118 x1 x5).f1) ((rd_T118 x1 x5).f2) ((rd_T118 x1 x5).f3)).bind fun t167 => (if t167 = true then (laws_eqInsS.l0 k x0 x1 (wrap64 (x5 + 1))) else (some false))) else (none)) else (none)) else (some true)
def laws_eqInsS.f (k : Nat) (l0 : List (S118)) (l1 : List (S118)) : Option (Bool) := if (l0.length : Int) = (l1.length : Int) then (laws_eqInsS.l0 k l0 l1 0) else (some false)
def laws_eqInsS.T6 : Bool × List (List Nat × List Nat) := (true, [([], []), ([], []), ([0, 1], [0, 1]), ([2], [2]), ([], []), ([], []), ([4, 5], [4, 5]), ([6], [6]), ([3, 7], [3, 7]), ([8], [8])])
def laws_eqInsS.B6 : List Nat := [0, 0, 3, 7, 0, 0, 48, 112, 255, 511]
theorem laws_eqInsS.tab6 : rtab .any (opsOf Try.f30 6) = laws_eqInsS.T6 := by kernel_rfl
theorem laws_eqInsS.bits6 : waitsOk laws_eqInsS.T6.2 laws_eqInsS.B6 = true := by kernel_rfl
theorem q4x0 {P : Prop} (h : P := by 
 rintro w' ⟨s0, s1, s2, s3, s4, s5, s6, s7⟩
 go_simp
 with_reducible rfl) : P := h
set_option maxHeartbeats 8000000 in
set_option maxRecDepth 100000 in
theorem laws_eqInsS.calls (k : Nat) (A0 : Option Addr) (c0 : Nat) (l0 : List (S118)) (A1 : Option Addr) (c1 : Nat) (l1 : List (S118)) (r : Bool) (w : World) (hr0 : Kd.C k118 w A0 l0.length l0) (hc0 : l0.length ≤ c0) (hr1 : Kd.C k118 w A1 l1.length l1) (hc1 : l1.length ≤ c1) (h : laws_eqInsS.f k l0 l1 = some r) :
 Calls Try.prog 30 #[.slice A0 l0.length c0, .slice A1 l1.length c1] w fun e w' => e = .returned (.bool r) ∧ Below w.heap.size w w' := by
 have hu118 := Try.underlying118;have HR0 := Aside0.mk hr0;have HC0 := Aside0.mk hc0;clear hr0 hc0;have HR1 := Aside0.mk hr1;have HC1 := Aside0.mk hc1;clear hr1 hc1;have HB := Aside0.mk (Below.refl w.heap.size w);have H : (if (l0.length : Int) = (l1.length : Int) then (laws_eqInsS.l0 k l0 l1 0) else (some false)) = some r := h;clear h;by_cases c3 : (l0.length : Int) = (l1.length : Int)
 ·rw [if_pos c3] at H;obtain ⟨c3b0, c3b1⟩ := eT c3
  have c3b2 : (l0.length == l1.length) = true := by first | simpa using c3 | (simp at c3 ⊢; omega)
  clear c3;have H' := Aside0.mk H;clear H;go_enter Try.func30, Try.ntmps30;go_wp2
  go_loopg [5] k (fun kq v5 w' => ∃ (x5_1 : Int), v5 = .int .i64 x5_1 ∧ Aside0 (laws_eqInsS.l0 kq l0 l1 x5_1 = some r) ∧ Aside0 (kq ≤ k) ∧ Aside0 (Below w.heap.size w w'))
  case atStart => exact ⟨(0), rS, H', ⟨Nat.le_refl _⟩, ⟨cB⟩⟩
  case round =>
   clear H';(try clear c1);(try clear c3);(try clear c3b0);(try clear c3b1);(try clear c3b2);obtain ⟨x5_1, rfl, HA, HK1, HB⟩ := hrel
   cases gk with
   | zero => exact absurd HA.out (by simp [laws_eqInsS.l0])
   | succ k1 =>
    have H := HA.out;clear HA;simp only [laws_eqInsS.l0] at H;by_cases c4 : x5_1 < (l0.length : Int)
    ·rw [if_pos c4] at H;have c4b0 := decide_eq_true c4;clear c4;replace H := gD H;obtain ⟨c5b0, H⟩ := H;replace H := gD H;obtain ⟨c6b0, H⟩ := H;replace H := bE H;obtain ⟨t167, A7, H⟩ := H;by_cases c8 : t167 = true
     ·subst c8;replace H := iT H;have H' := Aside0.mk H;clear H
      try go_wp2
      replace HB := Aside0.mk (below_drew1 HB.out);have p165 : 0 ≤ (x5_1 : Int) := dA;have q165 : x5_1 < (l0.length : Int) := dA;obtain ⟨ad165, e165, hx165_0, hx165_1, hx165_2, hx165_3⟩ := at_T118 HR0.out x5_1 p165 q165;have hw165_3 := hx165_3;have hw165_2 := hx165_2;have hw165_1 := hx165_1;have hw165_0 := hx165_0;cases e165;replace hx165_0 := bc HB hx165_0;replace hx165_1 := bc HB hx165_1;replace hx165_2 := bc HB hx165_2;replace hx165_3 := bc HB hx165_3;replace p165 := eq_true p165;replace q165 := eq_true q165;have p166 : 0 ≤ (x5_1 : Int) := dA;have q166 : x5_1 < (l1.length : Int) := dA;obtain ⟨ad166, e166, hx166_0, hx166_1, hx166_2, hx166_3⟩ := at_T118 HR1.out x5_1 p166 q166;have hw166_3 := hx166_3;have hw166_2 := hx166_2;have hw166_1 := hx166_1;have hw166_0 := hx166_0;cases e166;replace hx166_0 := bc HB hx166_0;replace hx166_1 := bc HB hx166_1;replace hx166_2 := bc HB hx166_2;replace hx166_3 := bc HB hx166_3;replace p166 := eq_true p166;replace q166 := eq_true q166
      refine start_ (n := 10) (S := fun w' => w'.cell? (ad165.add ((x5_1).toNat * 4)) = some (.int .i64 ((rd_T118 l0 x5_1).f0)) ∧ w'.cell? ⟨(ad165.add ((x5_1).toNat * 4)).block, (ad165.add ((x5_1).toNat * 4)).off + 1, none⟩ = some (.int .i64 ((rd_T118 l0 x5_1).f1)) ∧ w'.cell? ⟨(ad165.add ((x5_1).toNat * 4)).block, (ad165.add ((x5_1).toNat * 4)).off + 2, none⟩ = some (.int .i64 ((rd_T118 l0 x5_1).f2)) ∧ w'.cell? ⟨(ad165.add ((x5_1).toNat * 4)).block, (ad165.add ((x5_1).toNat * 4)).off + 3, none⟩ = some (.int .i64 ((rd_T118 l0 x5_1).f3)) ∧ w'.cell? (ad166.add ((x5_1).toNat * 4)) = some (.int .i64 ((rd_T118 l1 x5_1).f0)) ∧ w'.cell? ⟨(ad166.add ((x5_1).toNat * 4)).block, (ad166.add ((x5_1).toNat * 4)).off + 1, none⟩ = some (.int .i64 ((rd_T118 l1 x5_1).f1)) ∧ w'.cell? ⟨(ad166.add ((x5_1).toNat * 4)).block, (ad166.add ((x5_1).toNat * 4)).off + 2, none⟩ = some (.int .i64 ((rd_T118 l1 x5_1).f2)) ∧ w'.cell? ⟨(ad166.add ((x5_1).toNat * 4)).block, (ad166.add ((x5_1).toNat * 4)).off + 3, none⟩ = some (.int .i64 ((rd_T118 l1 x5_1).f3))) (ds := []) #[false, false, false, false, false, false, false, false, false, false] (by kernel_rfl) rfl rfl ⟨(bc HB hw165_0), (bc HB hw165_1), (bc HB hw165_2), (bc HB hw165_3), (bc HB hw166_0), (bc HB hw166_1), (bc HB hw166_2), (bc HB hw166_3)⟩ (fun hHeld => ?_); refine with_tabW laws_eqInsS.tab6 laws_eqInsS.bits6 (fun HT_ HW_ => ?_)
      generalize wr.drew = w9 at HB hx165_0 hx165_1 hx165_2 hx165_3 hx166_0 hx166_1 hx166_2 hx166_3 hHeld ⊢;refine pureZ 0 (some 17) (msk 10 1) HT_.out ?_;refine pureZ 1 (some 18) (msk 10 3) HT_.out ?_;refine pureZ 2 (some 19) (msk 10 7) HT_.out ?_;refine pureZ 4 (some 21) (msk 10 23) HT_.out ?_;refine pureZ 5 (some 22) (msk 10 55) HT_.out ?_;refine pureZ 6 (some 23) (msk 10 119) HT_.out ?_;refine takeZ 3 (some 20) (msk 10 127) HT_.out HW_.out hHeld (hy := q4x0) (h := ?_);refine takeZ 7 (some 24) (msk 10 255) HT_.out HW_.out hHeld (hy := q4x0) (h := ?_)
      refine one_Z 8 (some 25) (msk 10 511) HT_.out fun K hK => ?_
      refine goes_ Try.func84 (by kernel_rfl) rfl #[.agg #[.int .i64 ((rd_T118 l0 x5_1).f0), .int .i64 ((rd_T118 l0 x5_1).f1), .int .i64 ((rd_T118 l0 x5_1).f2), .int .i64 ((rd_T118 l0 x5_1).f3)], .agg #[.int .i64 ((rd_T118 l1 x5_1).f0), .int .i64 ((rd_T118 l1 x5_1).f1), .int .i64 ((rd_T118 l1 x5_1).f2), .int .i64 ((rd_T118 l1 x5_1).f3)]] (by rfl) rfl rfl (by (try simp only [List.map_toArray, List.map_cons, List.map_nil]); first | done | rfl | (simp only [List.length_drop, List.length_take]; rfl)) ?_
      with_reducible refine (laws_eqIns.calls ((rd_T118 l0 x5_1).f0) ((rd_T118 l0 x5_1).f1) ((rd_T118 l0 x5_1).f2) ((rd_T118 l0 x5_1).f3) ((rd_T118 l1 x5_1).f0) ((rd_T118 l1 x5_1).f1) ((rd_T118 l1 x5_1).f2) ((rd_T118 l1 x5_1).f3) true _ A7.out).mono ?_;rintro e w10 ⟨rfl, hb⟩;refine ⟨_, rfl, ?_⟩;replace HB := sB hb;(try clear hb)
      refine hK.out _ _ ⟨(bc HB hw165_0), (bc HB hw165_1), (bc HB hw165_2), (bc HB hw165_3), (bc HB hw166_0), (bc HB hw166_1), (bc HB hw166_2), (bc HB hw166_3)⟩ (fun hHeld => ?_)
      clear hK K;refine norm_ (a' := ?_) ?_ ?_;rotate_left
      ·show Act.put _ (some 25) _ = _;simp only [Act.put, List.setIfInBounds_toArray, List.set_cons_zero, List.set_cons_succ, i64_w, i32_w];rfl
      refine pureZ 9 (some 26) (msk 10 1023) HT_.out ?_
      refine done_ (done_of HT_.out (by kernel_rfl)) ?_
      try go_wp2
      go_roundg k1
      case measure => have := HK1.out; omega
      case rel => exact ⟨(wrap64 (x5_1 + 1)), rS, H', ⟨by have := HK1.out; omega⟩, ⟨cB⟩⟩
     ·replace c8 := Bool.eq_false_iff.mpr c8;subst c8;replace H := iF H;obtain rfl := Option.some.inj H
      try go_wp2
      replace HB := Aside0.mk (below_drew1 HB.out);have p165 : 0 ≤ (x5_1 : Int) := dA;have q165 : x5_1 < (l0.length : Int) := dA;obtain ⟨ad165, e165, hx165_0, hx165_1, hx165_2, hx165_3⟩ := at_T118 HR0.out x5_1 p165 q165;have hw165_3 := hx165_3;have hw165_2 := hx165_2;have hw165_1 := hx165_1;have hw165_0 := hx165_0;cases e165;replace hx165_0 := bc HB hx165_0;replace hx165_1 := bc HB hx165_1;replace hx165_2 := bc HB hx165_2;replace hx165_3 := bc HB hx165_3;replace p165 := eq_true p165;replace q165 := eq_true q165;have p166 : 0 ≤ (x5_1 : Int) := dA;have q166 : x5_1 < (l1.length : Int) := dA;obtain ⟨ad166, e166, hx166_0, hx166_1, hx166_2, hx166_3⟩ := at_T118 HR1.out x5_1 p166 q166;have hw166_3 := hx166_3;have hw166_2 := hx166_2;have hw166_1 := hx166_1;have hw166_0 := hx166_0;cases e166;replace hx166_0 := bc HB hx166_0;replace hx166_1 := bc HB hx166_1;replace hx166_2 := bc HB hx166_2;replace hx166_3 := bc HB hx166_3;replace p166 := eq_true p166;replace q166 := eq_true q166
      refine start_ (n := 10) (S := fun w' => w'.cell? (ad165.add ((x5_1).toNat * 4)) = some (.int .i64 ((rd_T118 l0 x5_1).f0)) ∧ w'.cell? ⟨(ad165.add ((x5_1).toNat * 4)).block, (ad165.add ((x5_1).toNat * 4)).off + 1, none⟩ = some (.int .i64 ((rd_T118 l0 x5_1).f1)) ∧ w'.cell? ⟨(ad165.add ((x5_1).toNat * 4)).block, (ad165.add ((x5_1).toNat * 4)).off + 2, none⟩ = some (.int .i64 ((rd_T118 l0 x5_1).f2)) ∧ w'.cell? ⟨(ad165.add ((x5_1).toNat * 4)).block, (ad165.add ((x5_1).toNat * 4)).off + 3, none⟩ = some (.int .i64 ((rd_T118 l0 x5_1).f3)) ∧ w'.cell? (ad166.add ((x5_1).toNat * 4)) = some (.int .i64 ((rd_T118 l1 x5_1).f0)) ∧ w'.cell? ⟨(ad166.add ((x5_1).toNat * 4)).block, (ad166.add ((x5_1).toNat * 4)).off + 1, none⟩ = some (.int .i64 ((rd_T118 l1 x5_1).f1)) ∧ w'.cell? ⟨(ad166.add ((x5_1).toNat * 4)).block, (ad166.add ((x5_1).toNat * 4)).off + 2, none⟩ = some (.int .i64 ((rd_T118 l1 x5_1).f2)) ∧ w'.cell? ⟨(ad166.add ((x5_1).toNat * 4)).block, (ad166.add ((x5_1).toNat * 4)).off + 3, none⟩ = some (.int .i64 ((rd_T118 l1 x5_1).f3))) (ds := []) #[false, false, false, false, false, false, false, false, false, false] (by kernel_rfl) rfl rfl ⟨(bc HB hw165_0), (bc HB hw165_1), (bc HB hw165_2), (bc HB hw165_3), (bc HB hw166_0), (bc HB hw166_1), (bc HB hw166_2), (bc HB hw166_3)⟩ (fun hHeld => ?_); refine with_tabW laws_eqInsS.tab6 laws_eqInsS.bits6 (fun HT_ HW_ => ?_)
      generalize wr.drew = w11 at HB hx165_0 hx165_1 hx165_2 hx165_3 hx166_0 hx166_1 hx166_2 hx166_3 hHeld ⊢;refine pureZ 0 (some 17) (msk 10 1) HT_.out ?_;refine pureZ 1 (some 18) (msk 10 3) HT_.out ?_;refine pureZ 2 (some 19) (msk 10 7) HT_.out ?_;refine pureZ 4 (some 21) (msk 10 23) HT_.out ?_;refine pureZ 5 (some 22) (msk 10 55) HT_.out ?_;refine pureZ 6 (some 23) (msk 10 119) HT_.out ?_;refine takeZ 3 (some 20) (msk 10 127) HT_.out HW_.out hHeld (hy := q4x0) (h := ?_);refine takeZ 7 (some 24) (msk 10 255) HT_.out HW_.out hHeld (hy := q4x0) (h := ?_)
      refine one_Z 8 (some 25) (msk 10 511) HT_.out fun K hK => ?_
      refine goes_ Try.func84 (by kernel_rfl) rfl #[.agg #[.int .i64 ((rd_T118 l0 x5_1).f0), .int .i64 ((rd_T118 l0 x5_1).f1), .int .i64 ((rd_T118 l0 x5_1).f2), .int .i64 ((rd_T118 l0 x5_1).f3)], .agg #[.int .i64 ((rd_T118 l1 x5_1).f0), .int .i64 ((rd_T118 l1 x5_1).f1), .int .i64 ((rd_T118 l1 x5_1).f2), .int .i64 ((rd_T118 l1 x5_1).f3)]] (by rfl) rfl rfl (by (try simp only [List.map_toArray, List.map_cons, List.map_nil]); first | done | rfl | (simp only [List.length_drop, List.length_take]; rfl)) ?_
      with_reducible refine (laws_eqIns.calls ((rd_T118 l0 x5_1).f0) ((rd_T118 l0 x5_1).f1) ((rd_T118 l0 x5_1).f2) ((rd_T118 l0 x5_1).f3) ((rd_T118 l1 x5_1).f0) ((rd_T118 l1 x5_1).f1) ((rd_T118 l1 x5_1).f2) ((rd_T118 l1 x5_1).f3) false _ A7.out).mono ?_;rintro e w12 ⟨rfl, hb⟩;refine ⟨_, rfl, ?_⟩;replace HB := sB hb;(try clear hb)
      refine hK.out _ _ ⟨(bc HB hw165_0), (bc HB hw165_1), (bc HB hw165_2), (bc HB hw165_3), (bc HB hw166_0), (bc HB hw166_1), (bc HB hw166_2), (bc HB hw166_3)⟩ (fun hHeld => ?_)
      clear hK K;refine norm_ (a' := ?_) ?_ ?_;rotate_left
      ·show Act.put _ (some 25) _ = _;simp only [Act.put, List.setIfInBounds_toArray, List.set_cons_zero, List.set_cons_succ, i64_w, i32_w];rfl
      refine pureZ 9 (some 26) (msk 10 1023) HT_.out ?_
      refine done_ (done_of HT_.out (by kernel_rfl)) ?_
      try go_wp2
      go_ret;exact ⟨rE, cB⟩
    ·rw [if_neg c4] at H;have c4b0 := decide_eq_false c4;clear c4;obtain rfl := Option.some.inj H;go_wp2;go_ret;exact ⟨rE, cB⟩
 ·rw [if_neg c3] at H;obtain ⟨c3b0, c3b1⟩ := eF c3
  have c3b2 : (l0.length == l1.length) = false := by first | simpa using c3 | (simp at c3 ⊢; omega)
  obtain rfl := Option.some.inj H;go_enter Try.func30, Try.ntmps30;go_wp2;go_ret;exact ⟨rE, cB⟩
def laws_eqInsSS.l0 : Nat → List (List (S118)) → List (List (S118)) → Int → Option (Bool)
  | 0, _, _, _ => none
  | k + 1, x0, x1, x5 => if x5 < (x0.length : Int) then (if 0 ≤ x5 then (if x5 < (x1.length : Int) then ((laws_eqInsS.f k (rd_L4 x0 x5) (rd_L4 x1 x5)).bind fun t170 => (if t170 = true then (laws_eqInsSS.l0 k x0 x1 (wrap64 (x5 + 1))) else (some false))) else (none)) else (none)) else (some true)
def laws_eqInsSS.f (k : Nat) (l0 : List (List (S118))) (l1 : List (List (S118))) : Option (Bool) := if (l0.length : Int) = (l1.length : Int) then (laws_eqInsSS.l0 k l0 l1 0) else (some false)
def laws_eqInsSS.T6 : Bool × List (List Nat × List Nat) := (true, [([], []), ([], []), ([0, 1], [0, 1]), ([2], [2]), ([], []), ([], []), ([4, 5], [4, 5]), ([6], [6]), ([3, 7], [3, 7]), ([8], [8])])
def laws_eqInsSS.B6 : List Nat := [0, 0, 3, 7, 0, 0, 48, 112, 255, 511]
theorem laws_eqInsSS.tab6 : rtab .any (opsOf Try.f19 6) = laws_eqInsSS.T6 := by kernel_rfl
theorem laws_eqInsSS.bits6 : waitsOk laws_eqInsSS.T6.2 laws_eqInsSS.B6 = true := by kernel_rfl
theorem q4x1 {P : Prop} (h : P := by 
 rintro w' ⟨s0, s1⟩
 go_simp
 with_reducible rfl) : P := h
set_option maxHeartbeats 8000000 in
set_option maxRecDepth 100000 in
theorem laws_eqInsSS.calls (k : Nat) (A0 : Option Addr) (c0 : Nat) (l0 : List (List (S118))) (A1 : Option Addr) (c1 : Nat) (l1 : List (List (S118))) (r : Bool) (w : World) (hr0 : Kd.C (Kd.slice 118 k118) w A0 l0.length l0) (hc0 : l0.length ≤ c0) (hr1 : Kd.C (Kd.slice 118 k118) w A1 l1.length l1) (hc1 : l1.length ≤ c1) (h : laws_eqInsSS.f k l0 l1 = some r) :
 Calls Try.prog 19 #[.slice A0 l0.length c0, .slice A1 l1.length c1] w fun e w' => e = .returned (.bool r) ∧ Below w.heap.size w w' := by
 have HR0 := Aside0.mk hr0;have HC0 := Aside0.mk hc0;clear hr0 hc0;have HR1 := Aside0.mk hr1;have HC1 := Aside0.mk hc1;clear hr1 hc1;have HB := Aside0.mk (Below.refl w.heap.size w);have H : (if (l0.length : Int) = (l1.length : Int) then (laws_eqInsSS.l0 k l0 l1 0) else (some false)) = some r := h;clear h;by_cases c3 : (l0.length : Int) = (l1.length : Int)
 ·rw [if_pos c3] at H;obtain ⟨c3b0, c3b1⟩ := eT c3
  have c3b2 : (l0.length == l1.length) = true := by first | simpa using c3 | (simp at c3 ⊢; omega)
  clear c3;have H' := Aside0.mk H;clear H;go_enter Try.func19, Try.ntmps19;go_wp2
  go_loopg [5] k (fun kq v5 w' => ∃ (x5_1 : Int), v5 = .int .i64 x5_1 ∧ Aside0 (laws_eqInsSS.l0 kq l0 l1 x5_1 = some r) ∧ Aside0 (kq ≤ k) ∧ Aside0 (Below w.heap.size w w'))
  case atStart => exact ⟨(0), rS, H', ⟨Nat.le_refl _⟩, ⟨cB⟩⟩
  case round =>
   clear H';(try clear c1);(try clear c3);(try clear c3b0);(try clear c3b1);(try clear c3b2);obtain ⟨x5_1, rfl, HA, HK1, HB⟩ := hrel
   cases gk with
   | zero => exact absurd HA.out (by simp [laws_eqInsSS.l0])
   | succ k1 =>
    have H := HA.out;clear HA;simp only [laws_eqInsSS.l0] at H;by_cases c4 : x5_1 < (l0.length : Int)
    ·rw [if_pos c4] at H;have c4b0 := decide_eq_true c4;clear c4;replace H := gD H;obtain ⟨c5b0, H⟩ := H;replace H := gD H;obtain ⟨c6b0, H⟩ := H;replace H := bE H;obtain ⟨t170, A7, H⟩ := H;by_cases c8 : t170 = true
     ·subst c8;replace H := iT H;have H' := Aside0.mk H;clear H
      try go_wp2
      replace HB := Aside0.mk (below_drew1 HB.out);have p168 : 0 ≤ (x5_1 : Int) := dA;have q168 : x5_1 < (l0.length : Int) := dA;obtain ⟨ad168, A168_0, c168_0, e168, hx168_0, hl168_0, hi168_0⟩ := at_L4 HR0.out x5_1 p168 q168;have hw168_0 := hx168_0;cases e168;replace hx168_0 := bc HB hx168_0;have HR168_0 := Aside0.mk hi168_0;have HC168_0 := Aside0.mk hl168_0;clear hi168_0 hl168_0;replace p168 := eq_true p168;replace q168 := eq_true q168;have p169 : 0 ≤ (x5_1 : Int) := dA;have q169 : x5_1 < (l1.length : Int) := dA;obtain ⟨ad169, A169_0, c169_0, e169, hx169_0, hl169_0, hi169_0⟩ := at_L4 HR1.out x5_1 p169 q169;have hw169_0 := hx169_0;cases e169;replace hx169_0 := bc HB hx169_0;have HR169_0 := Aside0.mk hi169_0;have HC169_0 := Aside0.mk hl169_0;clear hi169_0 hl169_0;replace p169 := eq_true p169;replace q169 := eq_true q169
      refine start_ (n := 10) (S := fun w' => w'.cell? (ad168.add (x5_1).toNat) = some (.slice A168_0 (rd_L4 l0 x5_1).length c168_0) ∧ w'.cell? (ad169.add (x5_1).toNat) = some (.slice A169_0 (rd_L4 l1 x5_1).length c169_0)) (ds := []) #[false, false, false, false, false, false, false, false, false, false] (by kernel_rfl) rfl rfl ⟨(bc HB hw168_0), (bc HB hw169_0)⟩ (fun hHeld => ?_); refine with_tabW laws_eqInsSS.tab6 laws_eqInsSS.bits6 (fun HT_ HW_ => ?_)
      generalize wr.drew = w9 at HB HR168_0 HR169_0 hx168_0 hx169_0 hHeld ⊢;refine pureZ 0 (some 17) (msk 10 1) HT_.out ?_;refine pureZ 1 (some 18) (msk 10 3) HT_.out ?_;refine pureZ 2 (some 19) (msk 10 7) HT_.out ?_;refine pureZ 4 (some 21) (msk 10 23) HT_.out ?_;refine pureZ 5 (some 22) (msk 10 55) HT_.out ?_;refine pureZ 6 (some 23) (msk 10 119) HT_.out ?_;refine takeZ 3 (some 20) (msk 10 127) HT_.out HW_.out hHeld (hy := q4x1) (h := ?_);refine takeZ 7 (some 24) (msk 10 255) HT_.out HW_.out hHeld (hy := q4x1) (h := ?_)
      refine one_Z 8 (some 25) (msk 10 511) HT_.out fun K hK => ?_
      refine goes_ Try.func30 (by kernel_rfl) rfl #[.slice A168_0 (rd_L4 l0 x5_1).length c168_0, .slice A169_0 (rd_L4 l1 x5_1).length c169_0] (by rfl) rfl rfl (by (try simp only [List.map_toArray, List.map_cons, List.map_nil]); first | done | rfl | (simp only [List.length_drop, List.length_take]; rfl)) ?_
      with_reducible refine (laws_eqInsS.calls k1 _ _ (rd_L4 l0 x5_1) _ _ (rd_L4 l1 x5_1) true _ ?side1 ?side2 ?side3 ?side4 A7.out).mono ?_
      (case side1 => exact cC (Kd.C_below HR168_0.out HB.out))
      (case side2 => exact HC168_0.out)
      (case side3 => exact cC (Kd.C_below HR169_0.out HB.out))
      (case side4 => exact HC169_0.out)
      rintro e w10 ⟨rfl, hb⟩;refine ⟨_, rfl, ?_⟩;replace HB := sB hb;(try clear hb)
      refine hK.out _ _ ⟨(bc HB hw168_0), (bc HB hw169_0)⟩ (fun hHeld => ?_)
      clear hK K;refine norm_ (a' := ?_) ?_ ?_;rotate_left
      ·show Act.put _ (some 25) _ = _;simp only [Act.put, List.setIfInBounds_toArray, List.set_cons_zero, List.set_cons_succ, i64_w, i32_w];rfl
      refine pureZ 9 (some 26) (msk 10 1023) HT_.out ?_
      refine done_ (done_of HT_.out (by kernel_rfl)) ?_
      try go_wp2
      go_roundg k1
      case measure => have := HK1.out; omega
      case rel => exact ⟨(wrap64 (x5_1 + 1)), rS, H', ⟨by have := HK1.out; omega⟩, ⟨cB⟩⟩
     ·replace c8 := Bool.eq_false_iff.mpr c8;subst c8;replace H := iF H;obtain rfl := Option.some.inj H
      try go_wp2
      replace HB := Aside0.mk (below_drew1 HB.out);have p168 : 0 ≤ (x5_1 : Int) := dA;have q168 : x5_1 < (l0.length : Int) := dA;obtain ⟨ad168, A168_0, c168_0, e168, hx168_0, hl168_0, hi168_0⟩ := at_L4 HR0.out x5_1 p168 q168;have hw168_0 := hx168_0;cases e168;replace hx168_0 := bc HB hx168_0;have HR168_0 := Aside0.mk hi168_0;have HC168_0 := Aside0.mk hl168_0;clear hi168_0 hl168_0;replace p168 := eq_true p168;replace q168 := eq_true q168;have p169 : 0 ≤ (x5_1 : Int) := dA;have q169 : x5_1 < (l1.length : Int) := dA;obtain ⟨ad169, A169_0, c169_0, e169, hx169_0, hl169_0, hi169_0⟩ := at_L4 HR1.out x5_1 p169 q169;have hw169_0 := hx169_0;cases e169;replace hx169_0 := bc HB hx169_0;have HR169_0 := Aside0.mk hi169_0;have HC169_0 := Aside0.mk hl169_0;clear hi169_0 hl169_0;replace p169 := eq_true p169;replace q169 := eq_true q169
      refine start_ (n := 10) (S := fun w' => w'.cell? (ad168.add (x5_1).toNat) = some (.slice A168_0 (rd_L4 l0 x5_1).length c168_0) ∧ w'.cell? (ad169.add (x5_1).toNat) = some (.slice A169_0 (rd_L4 l1 x5_1).length c169_0)) (ds := []) #[false, false, false, false, false, false, false, false, false, false] (by kernel_rfl) rfl rfl ⟨(bc HB hw168_0), (bc HB hw169_0)⟩ (fun hHeld => ?_); refine with_tabW laws_eqInsSS.tab6 laws_eqInsSS.bits6 (fun HT_ HW_ => ?_)
      generalize wr.drew = w11 at HB HR168_0 HR169_0 hx168_0 hx169_0 hHeld ⊢;refine pureZ 0 (some 17) (msk 10 1) HT_.out ?_;refine pureZ 1 (some 18) (msk 10 3) HT_.out ?_;refine pureZ 2 (some 19) (msk 10 7) HT_.out ?_;refine pureZ 4 (some 21) (msk 10 23) HT_.out ?_;refine pureZ 5 (some 22) (msk 10 55) HT_.out ?_;refine pureZ 6 (some 23) (msk 10 119) HT_.out ?_;refine takeZ 3 (some 20) (msk 10 127) HT_.out HW_.out hHeld (hy := q4x1) (h := ?_);refine takeZ 7 (some 24) (msk 10 255) HT_.out HW_.out hHeld (hy := q4x1) (h := ?_)
      refine one_Z 8 (some 25) (msk 10 511) HT_.out fun K hK => ?_
      refine goes_ Try.func30 (by kernel_rfl) rfl #[.slice A168_0 (rd_L4 l0 x5_1).length c168_0, .slice A169_0 (rd_L4 l1 x5_1).length c169_0] (by rfl) rfl rfl (by (try simp only [List.map_toArray, List.map_cons, List.map_nil]); first | done | rfl | (simp only [List.length_drop, List.length_take]; rfl)) ?_
      with_reducible refine (laws_eqInsS.calls k1 _ _ (rd_L4 l0 x5_1) _ _ (rd_L4 l1 x5_1) false _ ?side1 ?side2 ?side3 ?side4 A7.out).mono ?_
      (case side1 => exact cC (Kd.C_below HR168_0.out HB.out))
      (case side2 => exact HC168_0.out)
      (case side3 => exact cC (Kd.C_below HR169_0.out HB.out))
      (case side4 => exact HC169_0.out)
      rintro e w12 ⟨rfl, hb⟩;refine ⟨_, rfl, ?_⟩;replace HB := sB hb;(try clear hb)
      refine hK.out _ _ ⟨(bc HB hw168_0), (bc HB hw169_0)⟩ (fun hHeld => ?_)
      clear hK K;refine norm_ (a' := ?_) ?_ ?_;rotate_left
      ·show Act.put _ (some 25) _ = _;simp only [Act.put, List.setIfInBounds_toArray, List.set_cons_zero, List.set_cons_succ, i64_w, i32_w];rfl
      refine pureZ 9 (some 26) (msk 10 1023) HT_.out ?_
      refine done_ (done_of HT_.out (by kernel_rfl)) ?_
      try go_wp2
      go_ret;exact ⟨rE, cB⟩
    ·rw [if_neg c4] at H;have c4b0 := decide_eq_false c4;clear c4;obtain rfl := Option.some.inj H;go_wp2;go_ret;exact ⟨rE, cB⟩
 ·rw [if_neg c3] at H;obtain ⟨c3b0, c3b1⟩ := eF c3
  have c3b2 : (l0.length == l1.length) = false := by first | simpa using c3 | (simp at c3 ⊢; omega)
  obtain rfl := Option.some.inj H;go_enter Try.func19, Try.ntmps19;go_wp2;go_ret;exact ⟨rE, cB⟩
end Go.Proofs.Ytiinjipfhmgheaa.PFnExactStackOk
