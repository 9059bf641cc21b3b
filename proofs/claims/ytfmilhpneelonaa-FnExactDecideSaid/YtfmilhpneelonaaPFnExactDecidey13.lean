import Derived.Test.YtfmilhpneelonaaPFnExactDecidey0
import Derived.Test.YtfmilhpneelonaaPFnExactDecidey11
namespace Go.Proofs.Ytfmilhpneelonaa.PFnExactDecide
open Go.RowKit Go.Proofs.YtfmilhpneelonaaW.PrintWords Go.Proofs.YtfmilhpneelonaaW.PrintLast Go.Proofs.YtfmilhpneelonaaW.PrintMore Go.Proofs.YtfmilhpneelonaaW.Z
attribute [local go_sem] max2_int min2_int max_two min_two max_three min_three max_four min_four
set_option linter.unusedVariables false
set_option linter.unusedSimpArgs false
def laws_eqWideS.l0 : Nat → List (S25) → List (S25) → Int → Option (Bool)
  | 0, _, _, _ => none
  | k + 1, x0, x1, x5 => if x5 < (x0.length : Int) then (if 0 ≤ x5 then (if x5 < (x1.length : Int) then ((laws_eqWide.f ((rd_T25 x0 x5).f0) ((rd_T25 x0 x5).f1) ((rd_T25 x1 x5).f0) ((rd_T25 x1 x5).f1)).bind fun t332 => (if t332 = true then (laws_eqWideS.l0 k x0 x1 (wrap64 (x5 + 1))) else (some false))) else (none)) else (none)) else (some true)
def laws_eqWideS.f (k : Nat) (l0 : List (S25)) (l1 : List (S25)) : Option (Bool) := if (l0.length : Int) = (l1.length : Int) then (laws_eqWideS.l0 k l0 l1 0) else (some false)
def laws_eqWideS.T6 : Bool × List (List Nat × List Nat) := (true, [([], []), ([], []), ([0, 1], [0, 1]), ([2], [2]), ([], []), ([], []), ([4, 5], [4, 5]), ([6], [6]), ([3, 7], [3, 7]), ([8], [8])])
def laws_eqWideS.B6 : List Nat := [0, 0, 3, 7, 0, 0, 48, 112, 255, 511]
theorem laws_eqWideS.tab6 : rtab .any (opsOf Try.f174 6) = laws_eqWideS.T6 := by kernel_rfl
theorem laws_eqWideS.bits6 : waitsOk laws_eqWideS.T6.2 laws_eqWideS.B6 = true := by kernel_rfl
theorem q13x0 {P : Prop} (h : P := by 
 rintro w' ⟨s0, s1, s2, s3⟩
 go_simp
 with_reducible rfl) : P := h
set_option maxHeartbeats 8000000 in
set_option maxRecDepth 100000 in
theorem laws_eqWideS.calls (k : Nat) (A0 : Option Addr) (c0 : Nat) (l0 : List (S25)) (A1 : Option Addr) (c1 : Nat) (l1 : List (S25)) (r : Bool) (w : World) (hr0 : Kd.C k25 w A0 l0.length l0) (hc0 : l0.length ≤ c0) (hr1 : Kd.C k25 w A1 l1.length l1) (hc1 : l1.length ≤ c1) (h : laws_eqWideS.f k l0 l1 = some r) :
 Calls Try.prog 174 #[.slice A0 l0.length c0, .slice A1 l1.length c1] w fun e w' => e = .returned (.bool r) ∧ Below w.heap.size w w' := by
 have hu25 := Try.underlying25;have HR0 := Aside0.mk hr0;have HC0 := Aside0.mk hc0;clear hr0 hc0;have HR1 := Aside0.mk hr1;have HC1 := Aside0.mk hc1;clear hr1 hc1;have HB := Aside0.mk (Below.refl w.heap.size w);have H : (if (l0.length : Int) = (l1.length : Int) then (laws_eqWideS.l0 k l0 l1 0) else (some false)) = some r := h;clear h;by_cases c3 : (l0.length : Int) = (l1.length : Int)
 ·rw [if_pos c3] at H;obtain ⟨c3b0, c3b1⟩ := eT c3
  have c3b2 : (l0.length == l1.length) = true := by first | simpa using c3 | (simp at c3 ⊢; omega)
  clear c3;have H' := Aside0.mk H;clear H;go_enter Try.func174, Try.ntmps174;go_wp2
  go_loopg [5] k (fun kq v5 w' => ∃ (x5_1 : Int), v5 = .int .i64 x5_1 ∧ Aside0 (laws_eqWideS.l0 kq l0 l1 x5_1 = some r) ∧ Aside0 (kq ≤ k) ∧ Aside0 (Below w.heap.size w w'))
  case atStart => exact ⟨(0), rS, H', ⟨Nat.le_refl _⟩, ⟨cB⟩⟩
  case round =>
   clear H';(try clear c1);(try clear c3);(try clear c3b0);(try clear c3b1);(try clear c3b2);obtain ⟨x5_1, rfl, HA, HK1, HB⟩ := hrel
   cases gk with
   | zero => exact absurd HA.out (by simp [laws_eqWideS.l0])
   | succ k1 =>
    have H := HA.out;clear HA;simp only [laws_eqWideS.l0] at H;by_cases c4 : x5_1 < (l0.length : Int)
    ·rw [if_pos c4] at H;have c4b0 := decide_eq_true c4;clear c4;replace H := gD H;obtain ⟨c5b0, H⟩ := H;replace H := gD H;obtain ⟨c6b0, H⟩ := H;replace H := bE H;obtain ⟨t332, A7, H⟩ := H;by_cases c8 : t332 = true
     ·subst c8;replace H := iT H;have H' := Aside0.mk H;clear H
      try go_wp2
      replace HB := Aside0.mk (below_drew1 HB.out);have p330 : 0 ≤ (x5_1 : Int) := dA;have q330 : x5_1 < (l0.length : Int) := dA;obtain ⟨ad330, e330, hx330_0, hx330_1⟩ := at_T25 HR0.out x5_1 p330 q330;have hw330_1 := hx330_1;have hw330_0 := hx330_0;cases e330;replace hx330_0 := bc HB hx330_0;replace hx330_1 := bc HB hx330_1;replace p330 := eq_true p330;replace q330 := eq_true q330;have p331 : 0 ≤ (x5_1 : Int) := dA;have q331 : x5_1 < (l1.length : Int) := dA;obtain ⟨ad331, e331, hx331_0, hx331_1⟩ := at_T25 HR1.out x5_1 p331 q331;have hw331_1 := hx331_1;have hw331_0 := hx331_0;cases e331;replace hx331_0 := bc HB hx331_0;replace hx331_1 := bc HB hx331_1;replace p331 := eq_true p331;replace q331 := eq_true q331
      refine start_ (n := 10) (S := fun w' => w'.cell? (ad330.add ((x5_1).toNat * 2)) = some (.int .i64 ((rd_T25 l0 x5_1).f0)) ∧ w'.cell? ⟨(ad330.add ((x5_1).toNat * 2)).block, (ad330.add ((x5_1).toNat * 2)).off + 1, none⟩ = some (.int .i64 ((rd_T25 l0 x5_1).f1)) ∧ w'.cell? (ad331.add ((x5_1).toNat * 2)) = some (.int .i64 ((rd_T25 l1 x5_1).f0)) ∧ w'.cell? ⟨(ad331.add ((x5_1).toNat * 2)).block, (ad331.add ((x5_1).toNat * 2)).off + 1, none⟩ = some (.int .i64 ((rd_T25 l1 x5_1).f1))) (ds := []) #[false, false, false, false, false, false, false, false, false, false] (by kernel_rfl) rfl rfl ⟨(bc HB hw330_0 :), (bc HB hw330_1 :), (bc HB hw331_0 :), (bc HB hw331_1 :)⟩ (fun hHeld => ?_); refine with_tabW laws_eqWideS.tab6 laws_eqWideS.bits6 (fun HT_ HW_ => ?_)
      generalize wr.drew = w9 at HB hx330_0 hx330_1 hx331_0 hx331_1 hHeld ⊢;refine pureZ 0 (some 17) (msk 10 1) HT_.out ?_;refine pureZ 1 (some 18) (msk 10 3) HT_.out ?_;refine pureZ 2 (some 19) (msk 10 7) HT_.out ?_;refine pureZ 4 (some 21) (msk 10 23) HT_.out ?_;refine pureZ 5 (some 22) (msk 10 55) HT_.out ?_;refine pureZ 6 (some 23) (msk 10 119) HT_.out ?_;refine takeZ 3 (some 20) (msk 10 127) HT_.out HW_.out hHeld (hy := q13x0) (h := ?_);refine takeZ 7 (some 24) (msk 10 255) HT_.out HW_.out hHeld (hy := q13x0) (h := ?_)
      refine one_Z 8 (some 25) (msk 10 511) HT_.out fun K hK => ?_
      refine goes_ Try.func193 (by kernel_rfl) rfl #[.agg #[.int .i64 ((rd_T25 l0 x5_1).f0), .int .i64 ((rd_T25 l0 x5_1).f1)], .agg #[.int .i64 ((rd_T25 l1 x5_1).f0), .int .i64 ((rd_T25 l1 x5_1).f1)]] (by rfl) rfl rfl (by (try simp only [List.map_toArray, List.map_cons, List.map_nil]); first | done | rfl | (simp only [List.length_drop, List.length_take]; rfl)) ?_
      with_reducible refine (laws_eqWide.calls ((rd_T25 l0 x5_1).f0) ((rd_T25 l0 x5_1).f1) ((rd_T25 l1 x5_1).f0) ((rd_T25 l1 x5_1).f1) true _ A7.out).mono ?_;rintro e w10 ⟨rfl, hb⟩;refine ⟨_, rfl, ?_⟩;replace HB := sB hb;(try clear hb)
      refine hK.out _ _ ⟨(bc HB hw330_0 :), (bc HB hw330_1 :), (bc HB hw331_0 :), (bc HB hw331_1 :)⟩ (fun hHeld => ?_)
      clear hK K;refine norm_ (a' := ?_) ?_ ?_;rotate_left
      ·show Act.put _ (some 25) _ = _;simp only [Act.put, List.setIfInBounds_toArray, List.set_cons_zero, List.set_cons_succ, i64_w, i32_w];rfl
      refine pureZ 9 (some 26) (msk 10 1023) HT_.out ?_
      refine done_ (done_of HT_.out (by kernel_rfl)) ?_
      try go_wp2
      go_roundg k1
      case measure => have := HK1.out; omega
      case rel => exact ⟨(wrap64 (x5_1 + 1)), rS, H', ⟨by have := HK1.out; omega⟩, ⟨cB⟩⟩
     ·replace c8 := Bool.eq_false_iff.mpr c8;subst c8;replace H := iF H;obtain rfl := Option.some.inj H
      try go_wp2
      replace HB := Aside0.mk (below_drew1 HB.out);have p330 : 0 ≤ (x5_1 : Int) := dA;have q330 : x5_1 < (l0.length : Int) := dA;obtain ⟨ad330, e330, hx330_0, hx330_1⟩ := at_T25 HR0.out x5_1 p330 q330;have hw330_1 := hx330_1;have hw330_0 := hx330_0;cases e330;replace hx330_0 := bc HB hx330_0;replace hx330_1 := bc HB hx330_1;replace p330 := eq_true p330;replace q330 := eq_true q330;have p331 : 0 ≤ (x5_1 : Int) := dA;have q331 : x5_1 < (l1.length : Int) := dA;obtain ⟨ad331, e331, hx331_0, hx331_1⟩ := at_T25 HR1.out x5_1 p331 q331;have hw331_1 := hx331_1;have hw331_0 := hx331_0;cases e331;replace hx331_0 := bc HB hx331_0;replace hx331_1 := bc HB hx331_1;replace p331 := eq_true p331;replace q331 := eq_true q331
      refine start_ (n := 10) (S := fun w' => w'.cell? (ad330.add ((x5_1).toNat * 2)) = some (.int .i64 ((rd_T25 l0 x5_1).f0)) ∧ w'.cell? ⟨(ad330.add ((x5_1).toNat * 2)).block, (ad330.add ((x5_1).toNat * 2)).off + 1, none⟩ = some (.int .i64 ((rd_T25 l0 x5_1).f1)) ∧ w'.cell? (ad331.add ((x5_1).toNat * 2)) = some (.int .i64 ((rd_T25 l1 x5_1).f0)) ∧ w'.cell? ⟨(ad331.add ((x5_1).toNat * 2)).block, (ad331.add ((x5_1).toNat * 2)).off + 1, none⟩ = some (.int .i64 ((rd_T25 l1 x5_1).f1))) (ds := []) #[false, false, false, false, false, false, false, false, false, false] (by kernel_rfl) rfl rfl ⟨(bc HB hw330_0 :), (bc HB hw330_1 :), (bc HB hw331_0 :), (bc HB hw331_1 :)⟩ (fun hHeld => ?_); refine with_tabW laws_eqWideS.tab6 laws_eqWideS.bits6 (fun HT_ HW_ => ?_)
      generalize wr.drew = w11 at HB hx330_0 hx330_1 hx331_0 hx331_1 hHeld ⊢;refine pureZ 0 (some 17) (msk 10 1) HT_.out ?_;refine pureZ 1 (some 18) (msk 10 3) HT_.out ?_;refine pureZ 2 (some 19) (msk 10 7) HT_.out ?_;refine pureZ 4 (some 21) (msk 10 23) HT_.out ?_;refine pureZ 5 (some 22) (msk 10 55) HT_.out ?_;refine pureZ 6 (some 23) (msk 10 119) HT_.out ?_;refine takeZ 3 (some 20) (msk 10 127) HT_.out HW_.out hHeld (hy := q13x0) (h := ?_);refine takeZ 7 (some 24) (msk 10 255) HT_.out HW_.out hHeld (hy := q13x0) (h := ?_)
      refine one_Z 8 (some 25) (msk 10 511) HT_.out fun K hK => ?_
      refine goes_ Try.func193 (by kernel_rfl) rfl #[.agg #[.int .i64 ((rd_T25 l0 x5_1).f0), .int .i64 ((rd_T25 l0 x5_1).f1)], .agg #[.int .i64 ((rd_T25 l1 x5_1).f0), .int .i64 ((rd_T25 l1 x5_1).f1)]] (by rfl) rfl rfl (by (try simp only [List.map_toArray, List.map_cons, List.map_nil]); first | done | rfl | (simp only [List.length_drop, List.length_take]; rfl)) ?_
      with_reducible refine (laws_eqWide.calls ((rd_T25 l0 x5_1).f0) ((rd_T25 l0 x5_1).f1) ((rd_T25 l1 x5_1).f0) ((rd_T25 l1 x5_1).f1) false _ A7.out).mono ?_;rintro e w12 ⟨rfl, hb⟩;refine ⟨_, rfl, ?_⟩;replace HB := sB hb;(try clear hb)
      refine hK.out _ _ ⟨(bc HB hw330_0 :), (bc HB hw330_1 :), (bc HB hw331_0 :), (bc HB hw331_1 :)⟩ (fun hHeld => ?_)
      clear hK K;refine norm_ (a' := ?_) ?_ ?_;rotate_left
      ·show Act.put _ (some 25) _ = _;simp only [Act.put, List.setIfInBounds_toArray, List.set_cons_zero, List.set_cons_succ, i64_w, i32_w];rfl
      refine pureZ 9 (some 26) (msk 10 1023) HT_.out ?_
      refine done_ (done_of HT_.out (by kernel_rfl)) ?_
      try go_wp2
      go_ret;exact ⟨rE, cB⟩
    ·rw [if_neg c4] at H;have c4b0 := decide_eq_false c4;clear c4;obtain rfl := Option.some.inj H;go_wp2;go_ret;exact ⟨rE, cB⟩
 ·rw [if_neg c3] at H;obtain ⟨c3b0, c3b1⟩ := eF c3
  have c3b2 : (l0.length == l1.length) = false := by first | simpa using c3 | (simp at c3 ⊢; omega)
  obtain rfl := Option.some.inj H;go_enter Try.func174, Try.ntmps174;go_wp2;go_ret;exact ⟨rE, cB⟩
def laws_eqCall.f (k : Nat) (a0_0 : Int) (a0_1 : Int) (l0_2 : List (S25)) (a1_0 : Int) (a1_1 : Int) (l1_2 : List (S25)) : Option (Bool) := if a0_0 = a1_0 then (if a0_1 = a1_1 then ((laws_eqWideS.f k l0_2 l1_2).bind fun t335 => (if t335 = true then (some true) else (some false))) else (some false)) else (some false)
set_option maxHeartbeats 8000000 in
set_option maxRecDepth 100000 in
theorem laws_eqCall.calls (k : Nat) (a0_0 : Int) (a0_1 : Int) (A0_2 : Option Addr) (c0_2 : Nat) (l0_2 : List (S25)) (a1_0 : Int) (a1_1 : Int) (A1_2 : Option Addr) (c1_2 : Nat) (l1_2 : List (S25)) (r : Bool) (w : World) (hr0_2 : Kd.C k25 w A0_2 l0_2.length l0_2) (hc0_2 : l0_2.length ≤ c0_2) (hr1_2 : Kd.C k25 w A1_2 l1_2.length l1_2) (hc1_2 : l1_2.length ≤ c1_2) (h : laws_eqCall.f k a0_0 a0_1 l0_2 a1_0 a1_1 l1_2 = some r) :
 Calls Try.prog 97 #[.agg #[.int .i64 a0_0, .int .i64 a0_1, .slice A0_2 l0_2.length c0_2], .agg #[.int .i64 a1_0, .int .i64 a1_1, .slice A1_2 l1_2.length c1_2]] w fun e w' => e = .returned (.bool r) ∧ Below w.heap.size w w' := by
 have hu30 := Try.underlying30;have HR0_2 := Aside0.mk hr0_2;have HC0_2 := Aside0.mk hc0_2;clear hr0_2 hc0_2;have HR1_2 := Aside0.mk hr1_2;have HC1_2 := Aside0.mk hc1_2;clear hr1_2 hc1_2;have HB := Aside0.mk (Below.refl w.heap.size w)
 have H : (if a0_0 = a1_0 then (if a0_1 = a1_1 then ((laws_eqWideS.f k l0_2 l1_2).bind fun t335 => (if t335 = true then (some true) else (some false))) else (some false)) else (some false)) = some r := h
 clear h;by_cases c3 : a0_0 = a1_0
 ·rw [if_pos c3] at H;obtain ⟨c3b0, c3b1⟩ := eT c3;clear c3;by_cases c4 : a0_1 = a1_1
  ·rw [if_pos c4] at H;obtain ⟨c4b0, c4b1⟩ := eT c4;clear c4;replace H := bE H;obtain ⟨t335, A5, H⟩ := H;by_cases c6 : t335 = true
   ·subst c6;replace H := iT H;obtain rfl := Option.some.inj H;go_enter Try.func97, Try.ntmps97
    go_wp2_with (first|((with_reducible refine gN 2 ?_);refine boxZ 2 #[.int .i64 a0_0, .int .i64 a0_1, .slice A0_2 l0_2.length c0_2] 30 ?_;intro gb333 hg w7 hbox hb;have BK333 := Aside0.mk (hbox);have GW333 := gS hg;have GE333 := gS hg;replace HB := sB hb;clear hb hbox hg)|((with_reducible refine gN 3 ?_);refine boxZ 3 #[.int .i64 a1_0, .int .i64 a1_1, .slice A1_2 l1_2.length c1_2] 30 ?_;intro gb334 hg w8 hbox hb;have BK334 := Aside0.mk (hbox);have GW334 := gS hg;have GE334 := gS hg;replace HB := sB hb;have NB333_334 := nL hg BK333;have NB334_333 := nG hg BK333;replace BK333 := kB BK333 hb;clear hb hbox hg;have hnb9 := NB333_334.out;have hnc9 := NB334_333.out;obtain ⟨hcz10_0, hcz10_1, hcz10_2, hfz10_0, hfz10_1, hfz10_2⟩ := cz3 BK333;obtain ⟨hcz11_0, hcz11_1, hcz11_2, hfz11_0, hfz11_1, hfz11_2⟩ := cz3 BK334)|((with_reducible refine gF 174 ?_);refine goZ (some 19) Try.func174 #[.slice A0_2 l0_2.length c0_2, .slice A1_2 l1_2.length c1_2] ?_;(with_reducible refine (laws_eqWideS.calls k _ _ l0_2 _ _ l1_2 true _ ?side1 ?side2 ?side3 ?side4 A5.out).mono ?_);(case side1 => exact cC (Kd.C_below HR0_2.out HB.out));(case side2 => exact HC0_2.out);(case side3 => exact cC (Kd.C_below HR1_2.out HB.out));(case side4 => exact HC1_2.out);rintro e w12 ⟨rfl, hb⟩;refine ⟨_, rfl, ?_⟩;replace BK333 := kB BK333 hb;replace BK334 := kB BK334 hb;replace HB := sB hb;(try clear hb)))
    go_ret;exact ⟨rE, cB⟩
   ·replace c6 := Bool.eq_false_iff.mpr c6;subst c6;replace H := iF H;obtain rfl := Option.some.inj H;go_enter Try.func97, Try.ntmps97
    go_wp2_with (first|((with_reducible refine gN 2 ?_);refine boxZ 2 #[.int .i64 a0_0, .int .i64 a0_1, .slice A0_2 l0_2.length c0_2] 30 ?_;intro gb333 hg w13 hbox hb;have BK333 := Aside0.mk (hbox);have GW333 := gS hg;have GE333 := gS hg;replace HB := sB hb;clear hb hbox hg)|((with_reducible refine gN 3 ?_);refine boxZ 3 #[.int .i64 a1_0, .int .i64 a1_1, .slice A1_2 l1_2.length c1_2] 30 ?_;intro gb334 hg w14 hbox hb;have BK334 := Aside0.mk (hbox);have GW334 := gS hg;have GE334 := gS hg;replace HB := sB hb;have NB333_334 := nL hg BK333;have NB334_333 := nG hg BK333;replace BK333 := kB BK333 hb;clear hb hbox hg;have hnb15 := NB333_334.out;have hnc15 := NB334_333.out;obtain ⟨hcz16_0, hcz16_1, hcz16_2, hfz16_0, hfz16_1, hfz16_2⟩ := cz3 BK333;obtain ⟨hcz17_0, hcz17_1, hcz17_2, hfz17_0, hfz17_1, hfz17_2⟩ := cz3 BK334)|((with_reducible refine gF 174 ?_);refine goZ (some 19) Try.func174 #[.slice A0_2 l0_2.length c0_2, .slice A1_2 l1_2.length c1_2] ?_;(with_reducible refine (laws_eqWideS.calls k _ _ l0_2 _ _ l1_2 false _ ?side1 ?side2 ?side3 ?side4 A5.out).mono ?_);(case side1 => exact cC (Kd.C_below HR0_2.out HB.out));(case side2 => exact HC0_2.out);(case side3 => exact cC (Kd.C_below HR1_2.out HB.out));(case side4 => exact HC1_2.out);rintro e w18 ⟨rfl, hb⟩;refine ⟨_, rfl, ?_⟩;replace BK333 := kB BK333 hb;replace BK334 := kB BK334 hb;replace HB := sB hb;(try clear hb)))
    go_ret;exact ⟨rE, cB⟩
  ·rw [if_neg c4] at H;obtain ⟨c4b0, c4b1⟩ := eF c4;obtain rfl := Option.some.inj H;go_enter Try.func97, Try.ntmps97
   go_wp2_with (first|((with_reducible refine gN 2 ?_);refine boxZ 2 #[.int .i64 a0_0, .int .i64 a0_1, .slice A0_2 l0_2.length c0_2] 30 ?_;intro gb333 hg w19 hbox hb;have BK333 := Aside0.mk (hbox);have GW333 := gS hg;have GE333 := gS hg;replace HB := sB hb;clear hb hbox hg)|((with_reducible refine gN 3 ?_);refine boxZ 3 #[.int .i64 a1_0, .int .i64 a1_1, .slice A1_2 l1_2.length c1_2] 30 ?_;intro gb334 hg w20 hbox hb;have BK334 := Aside0.mk (hbox);have GW334 := gS hg;have GE334 := gS hg;replace HB := sB hb;have NB333_334 := nL hg BK333;have NB334_333 := nG hg BK333;replace BK333 := kB BK333 hb;clear hb hbox hg;have hnb21 := NB333_334.out;have hnc21 := NB334_333.out;obtain ⟨hcz22_0, hcz22_1, hcz22_2, hfz22_0, hfz22_1, hfz22_2⟩ := cz3 BK333;obtain ⟨hcz23_0, hcz23_1, hcz23_2, hfz23_0, hfz23_1, hfz23_2⟩ := cz3 BK334))
   go_ret;exact ⟨rE, cB⟩
 ·rw [if_neg c3] at H;obtain ⟨c3b0, c3b1⟩ := eF c3;obtain rfl := Option.some.inj H;go_enter Try.func97, Try.ntmps97
  go_wp2_with (first|((with_reducible refine gN 2 ?_);refine boxZ 2 #[.int .i64 a0_0, .int .i64 a0_1, .slice A0_2 l0_2.length c0_2] 30 ?_;intro gb333 hg w24 hbox hb;have BK333 := Aside0.mk (hbox);have GW333 := gS hg;have GE333 := gS hg;replace HB := sB hb;clear hb hbox hg)|((with_reducible refine gN 3 ?_);refine boxZ 3 #[.int .i64 a1_0, .int .i64 a1_1, .slice A1_2 l1_2.length c1_2] 30 ?_;intro gb334 hg w25 hbox hb;have BK334 := Aside0.mk (hbox);have GW334 := gS hg;have GE334 := gS hg;replace HB := sB hb;have NB333_334 := nL hg BK333;have NB334_333 := nG hg BK333;replace BK333 := kB BK333 hb;clear hb hbox hg;have hnb26 := NB333_334.out;have hnc26 := NB334_333.out;obtain ⟨hcz27_0, hcz27_1, hcz27_2, hfz27_0, hfz27_1, hfz27_2⟩ := cz3 BK333;obtain ⟨hcz28_0, hcz28_1, hcz28_2, hfz28_0, hfz28_1, hfz28_2⟩ := cz3 BK334))
  go_ret;exact ⟨rE, cB⟩
end Go.Proofs.Ytfmilhpneelonaa.PFnExactDecide
