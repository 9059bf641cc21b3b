import Derived.Test.YtiinjipfhmgheaaPFnExactCondHoldsy0
namespace Go.Proofs.Ytiinjipfhmgheaa.PFnExactCondHolds
open Go.RowKit Go.Proofs.YtiinjipfhmgheaaW.PrintWords Go.Proofs.YtiinjipfhmgheaaW.PrintLast Go.Proofs.YtiinjipfhmgheaaW.PrintMore Go.Proofs.YtiinjipfhmgheaaW.Z
attribute [local go_sem] max2_int min2_int max_two min_two max_three min_three max_four min_four
set_option linter.unusedVariables false
set_option linter.unusedSimpArgs false
def laws_eqWide.f (a0_0 : Int) (a0_1 : Int) (a1_0 : Int) (a1_1 : Int) : Option (Bool) := if a0_0 = a1_0 then (if a0_1 = a1_1 then (some true) else (some false)) else (some false)
set_option maxHeartbeats 8000000 in
set_option maxRecDepth 100000 in
theorem laws_eqWide.calls (a0_0 : Int) (a0_1 : Int) (a1_0 : Int) (a1_1 : Int) (r : Bool) (w : World) (h : laws_eqWide.f a0_0 a0_1 a1_0 a1_1 = some r) :
 Calls Try.prog 144 #[.agg #[.int .i64 a0_0, .int .i64 a0_1], .agg #[.int .i64 a1_0, .int .i64 a1_1]] w fun e w' => e = .returned (.bool r) ∧ Below w.heap.size w w' := by
 have hu38 := Try.underlying38;have HB := Aside0.mk (Below.refl w.heap.size w);have H : (if a0_0 = a1_0 then (if a0_1 = a1_1 then (some true) else (some false)) else (some false)) = some r := h;clear h;by_cases c3 : a0_0 = a1_0
 ·rw [if_pos c3] at H;obtain ⟨c3b0, c3b1⟩ := eT c3;clear c3;by_cases c4 : a0_1 = a1_1
  ·rw [if_pos c4] at H;obtain ⟨c4b0, c4b1⟩ := eT c4;clear c4;obtain rfl := Option.some.inj H;go_enter Try.func144, Try.ntmps144
   go_wp2_with (first|((with_reducible refine gN 2 ?_);refine boxZ 2 #[.int .i64 a0_0, .int .i64 a0_1] 38 ?_;intro gb189 hg w5 hbox hb;have BK189 := Aside0.mk (hbox);have GW189 := gS hg;have GE189 := gS hg;replace HB := sB hb;clear hb hbox hg)|((with_reducible refine gN 3 ?_);refine boxZ 3 #[.int .i64 a1_0, .int .i64 a1_1] 38 ?_;intro gb190 hg w6 hbox hb;have BK190 := Aside0.mk (hbox);have GW190 := gS hg;have GE190 := gS hg;replace HB := sB hb;have NB189_190 := nL hg BK189;have NB190_189 := nG hg BK189;replace BK189 := kB BK189 hb;clear hb hbox hg;have hnb7 := NB189_190.out;have hnc7 := NB190_189.out;obtain ⟨hcz8_0, hcz8_1, hfz8_0, hfz8_1⟩ := cz2 BK189;obtain ⟨hcz9_0, hcz9_1, hfz9_0, hfz9_1⟩ := cz2 BK190))
   go_ret;exact ⟨rE, cB⟩
  ·rw [if_neg c4] at H;obtain ⟨c4b0, c4b1⟩ := eF c4;obtain rfl := Option.some.inj H;go_enter Try.func144, Try.ntmps144
   go_wp2_with (first|((with_reducible refine gN 2 ?_);refine boxZ 2 #[.int .i64 a0_0, .int .i64 a0_1] 38 ?_;intro gb189 hg w10 hbox hb;have BK189 := Aside0.mk (hbox);have GW189 := gS hg;have GE189 := gS hg;replace HB := sB hb;clear hb hbox hg)|((with_reducible refine gN 3 ?_);refine boxZ 3 #[.int .i64 a1_0, .int .i64 a1_1] 38 ?_;intro gb190 hg w11 hbox hb;have BK190 := Aside0.mk (hbox);have GW190 := gS hg;have GE190 := gS hg;replace HB := sB hb;have NB189_190 := nL hg BK189;have NB190_189 := nG hg BK189;replace BK189 := kB BK189 hb;clear hb hbox hg;have hnb12 := NB189_190.out;have hnc12 := NB190_189.out;obtain ⟨hcz13_0, hcz13_1, hfz13_0, hfz13_1⟩ := cz2 BK189;obtain ⟨hcz14_0, hcz14_1, hfz14_0, hfz14_1⟩ := cz2 BK190))
   go_ret;exact ⟨rE, cB⟩
 ·rw [if_neg c3] at H;obtain ⟨c3b0, c3b1⟩ := eF c3;obtain rfl := Option.some.inj H;go_enter Try.func144, Try.ntmps144
  go_wp2_with (first|((with_reducible refine gN 2 ?_);refine boxZ 2 #[.int .i64 a0_0, .int .i64 a0_1] 38 ?_;intro gb189 hg w15 hbox hb;have BK189 := Aside0.mk (hbox);have GW189 := gS hg;have GE189 := gS hg;replace HB := sB hb;clear hb hbox hg)|((with_reducible refine gN 3 ?_);refine boxZ 3 #[.int .i64 a1_0, .int .i64 a1_1] 38 ?_;intro gb190 hg w16 hbox hb;have BK190 := Aside0.mk (hbox);have GW190 := gS hg;have GE190 := gS hg;replace HB := sB hb;have NB189_190 := nL hg BK189;have NB190_189 := nG hg BK189;replace BK189 := kB BK189 hb;clear hb hbox hg;have hnb17 := NB189_190.out;have hnc17 := NB190_189.out;obtain ⟨hcz18_0, hcz18_1, hfz18_0, hfz18_1⟩ := cz2 BK189;obtain ⟨hcz19_0, hcz19_1, hfz19_0, hfz19_1⟩ := cz2 BK190))
  go_ret;exact ⟨rE, cB⟩
def laws_eqWideS.l0 : Nat → List (S38) → List (S38) → Int → Option (Bool)
  | 0, _, _, _ => none
  | k + 1, x0, x1, x5 => if x5 < (x0.length : Int) then (if 0 ≤ x5 then (if x5 < (x1.length : Int) then ((laws_eqWide.f ((rd_T38 x0 x5).f0) ((rd_T38 x0 x5).f1) ((rd_T38 x1 x5).f0) ((rd_T38 x1 x5).f1)).bind fun t193 => (if t193 = true then (laws_eqWideS.l0 k x0 x1 (wrap64 (x5 + 1))) else (some false))) else (none)) else (none)) else (some true)
def laws_eqWideS.f (k : Nat) (l0 : List (S38)) (l1 : List (S38)) : Option (Bool) := if (l0.length : Int) = (l1.length : Int) then (laws_eqWideS.l0 k l0 l1 0) else (some false)
def laws_eqWideS.T6 : Bool × List (List Nat × List Nat) := (true, [([], []), ([], []), ([0, 1], [0, 1]), ([2], [2]), ([], []), ([], []), ([4, 5], [4, 5]), ([6], [6]), ([3, 7], [3, 7]), ([8], [8])])
def laws_eqWideS.B6 : List Nat := [0, 0, 3, 7, 0, 0, 48, 112, 255, 511]
theorem laws_eqWideS.tab6 : rtab .any (opsOf Try.f82 6) = laws_eqWideS.T6 := by kernel_rfl
theorem laws_eqWideS.bits6 : waitsOk laws_eqWideS.T6.2 laws_eqWideS.B6 = true := by kernel_rfl
theorem q5x0 {P : Prop} (h : P := by 
 rintro w' ⟨s0, s1, s2, s3⟩
 go_simp
 with_reducible rfl) : P := h
set_option maxHeartbeats 8000000 in
set_option maxRecDepth 100000 in
theorem laws_eqWideS.calls (k : Nat) (A0 : Option Addr) (c0 : Nat) (l0 : List (S38)) (A1 : Option Addr) (c1 : Nat) (l1 : List (S38)) (r : Bool) (w : World) (hr0 : Kd.C k38 w A0 l0.length l0) (hc0 : l0.length ≤ c0) (hr1 : Kd.C k38 w A1 l1.length l1) (hc1 : l1.length ≤ c1) (h : laws_eqWideS.f k l0 l1 = some r) :
 Calls Try.prog 82 #[.slice A0 l0.length c0, .slice A1 l1.length c1] w fun e w' => e = .returned (.bool r) ∧ Below w.heap.size w w' := by
 have hu38 := Try.underlying38;have HR0 := Aside0.mk hr0;have HC0 := Aside0.mk hc0;clear hr0 hc0;have HR1 := Aside0.mk hr1;have HC1 := Aside0.mk hc1;clear hr1 hc1;have HB := Aside0.mk (Below.refl w.heap.size w);have H : (if (l0.length : Int) = (l1.length : Int) then (laws_eqWideS.l0 k l0 l1 0) else (some false)) = some r := h;clear h;by_cases c3 : (l0.length : Int) = (l1.length : Int)
 ·rw [if_pos c3] at H;obtain ⟨c3b0, c3b1⟩ := eT c3
  have c3b2 : (l0.length == l1.length) = true := by first | simpa using c3 | (simp at c3 ⊢; omega)
  clear c3;have H' := Aside0.mk H;clear H;go_enter Try.func82, Try.ntmps82;go_wp2
  go_loopg [5] k (fun kq v5 w' => ∃ (x5_1 : Int), v5 = .int .i64 x5_1 ∧ Aside0 (laws_eqWideS.l0 kq l0 l1 x5_1 = some r) ∧ Aside0 (kq ≤ k) ∧ Aside0 (Below w.heap.size w w'))
  case atStart => exact ⟨(0), rS, H', ⟨Nat.le_refl _⟩, ⟨cB⟩⟩
  case round =>
   clear H';(try clear c1);(try clear c3);(try clear c3b0);(try clear c3b1);(try clear c3b2);obtain ⟨x5_1, rfl, HA, HK1, HB⟩ := hrel
   cases gk with
   | zero => exact absurd HA.out (by simp [laws_eqWideS.l0])
   | succ k1 =>
    have H := HA.out;clear HA;simp only [laws_eqWideS.l0] at H;by_cases c4 : x5_1 < (l0.length : Int)
    ·rw [if_pos c4] at H;have c4b0 := decide_eq_true c4;clear c4;replace H := gD H;obtain ⟨c5b0, H⟩ := H;replace H := gD H;obtain ⟨c6b0, H⟩ := H;replace H := bE H;obtain ⟨t193, A7, H⟩ := H;by_cases c8 : t193 = true
     ·subst c8;replace H := iT H;have H' := Aside0.mk H;clear H
      try go_wp2
      replace HB := Aside0.mk (below_drew1 HB.out);have p191 : 0 ≤ (x5_1 : Int) := dA;have q191 : x5_1 < (l0.length : Int) := dA;obtain ⟨ad191, e191, hx191_0, hx191_1⟩ := at_T38 HR0.out x5_1 p191 q191;have hw191_1 := hx191_1;have hw191_0 := hx191_0;cases e191;replace hx191_0 := bc HB hx191_0;replace hx191_1 := bc HB hx191_1;replace p191 := eq_true p191;replace q191 := eq_true q191;have p192 : 0 ≤ (x5_1 : Int) := dA;have q192 : x5_1 < (l1.length : Int) := dA;obtain ⟨ad192, e192, hx192_0, hx192_1⟩ := at_T38 HR1.out x5_1 p192 q192;have hw192_1 := hx192_1;have hw192_0 := hx192_0;cases e192;replace hx192_0 := bc HB hx192_0;replace hx192_1 := bc HB hx192_1;replace p192 := eq_true p192;replace q192 := eq_true q192
      refine start_ (n := 10) (S := fun w' => w'.cell? (ad191.add ((x5_1).toNat * 2)) = some (.int .i64 ((rd_T38 l0 x5_1).f0)) ∧ w'.cell? ⟨(ad191.add ((x5_1).toNat * 2)).block, (ad191.add ((x5_1).toNat * 2)).off + 1, none⟩ = some (.int .i64 ((rd_T38 l0 x5_1).f1)) ∧ w'.cell? (ad192.add ((x5_1).toNat * 2)) = some (.int .i64 ((rd_T38 l1 x5_1).f0)) ∧ w'.cell? ⟨(ad192.add ((x5_1).toNat * 2)).block, (ad192.add ((x5_1).toNat * 2)).off + 1, none⟩ = some (.int .i64 ((rd_T38 l1 x5_1).f1))) (ds := []) #[false, false, false, false, false, false, false, false, false, false] (by kernel_rfl) rfl rfl ⟨(bc HB hw191_0), (bc HB hw191_1), (bc HB hw192_0), (bc HB hw192_1)⟩ (fun hHeld => ?_); refine with_tabW laws_eqWideS.tab6 laws_eqWideS.bits6 (fun HT_ HW_ => ?_)
      generalize wr.drew = w9 at HB hx191_0 hx191_1 hx192_0 hx192_1 hHeld ⊢;refine pureZ 0 (some 17) (msk 10 1) HT_.out ?_;refine pureZ 1 (some 18) (msk 10 3) HT_.out ?_;refine pureZ 2 (some 19) (msk 10 7) HT_.out ?_;refine pureZ 4 (some 21) (msk 10 23) HT_.out ?_;refine pureZ 5 (some 22) (msk 10 55) HT_.out ?_;refine pureZ 6 (some 23) (msk 10 119) HT_.out ?_;refine takeZ 3 (some 20) (msk 10 127) HT_.out HW_.out hHeld (hy := q5x0) (h := ?_);refine takeZ 7 (some 24) (msk 10 255) HT_.out HW_.out hHeld (hy := q5x0) (h := ?_)
      refine one_Z 8 (some 25) (msk 10 511) HT_.out fun K hK => ?_
      refine goes_ Try.func144 (by kernel_rfl) rfl #[.agg #[.int .i64 ((rd_T38 l0 x5_1).f0), .int .i64 ((rd_T38 l0 x5_1).f1)], .agg #[.int .i64 ((rd_T38 l1 x5_1).f0), .int .i64 ((rd_T38 l1 x5_1).f1)]] (by rfl) rfl rfl (by (try simp only [List.map_toArray, List.map_cons, List.map_nil]); first | done | rfl | (simp only [List.length_drop, List.length_take]; rfl)) ?_
      with_reducible refine (laws_eqWide.calls ((rd_T38 l0 x5_1).f0) ((rd_T38 l0 x5_1).f1) ((rd_T38 l1 x5_1).f0) ((rd_T38 l1 x5_1).f1) true _ A7.out).mono ?_;rintro e w10 ⟨rfl, hb⟩;refine ⟨_, rfl, ?_⟩;replace HB := sB hb;(try clear hb)
      refine hK.out _ _ ⟨(bc HB hw191_0), (bc HB hw191_1), (bc HB hw192_0), (bc HB hw192_1)⟩ (fun hHeld => ?_)
      clear hK K;refine norm_ (a' := ?_) ?_ ?_;rotate_left
      ·show Act.put _ (some 25) _ = _;simp only [Act.put, List.setIfInBounds_toArray, List.set_cons_zero, List.set_cons_succ, i64_w, i32_w];rfl
      refine pureZ 9 (some 26) (msk 10 1023) HT_.out ?_
      refine done_ (done_of HT_.out (by kernel_rfl)) ?_
      try go_wp2
      go_roundg k1
      case measure => have := HK1.out; omega
      case rel => exact ⟨(wrap64 (x5_1 + 1)), rS, H', ⟨by have := HK1.out; omega⟩, ⟨cB⟩⟩
     ·replace c8 := Bool.eq_false_iff.mpr c8;subst c8;replace H := iF H;obtain rfl := Option.some.inj H
      try go_wp2
      replace HB := Aside0.mk (below_drew1 HB.out);have p191 : 0 ≤ (x5_1 : Int) := dA;have q191 : x5_1 < (l0.length : Int) := dA;obtain ⟨ad191, e191, hx191_0, hx191_1⟩ := at_T38 HR0.out x5_1 p191 q191;have hw191_1 := hx191_1;have hw191_0 := hx191_0;cases e191;replace hx191_0 := bc HB hx191_0;replace hx191_1 := bc HB hx191_1;replace p191 := eq_true p191;replace q191 := eq_true q191;have p192 : 0 ≤ (x5_1 : Int) := dA;have q192 : x5_1 < (l1.length : Int) := dA;obtain ⟨ad192, e192, hx192_0, hx192_1⟩ := at_T38 HR1.out x5_1 p192 q192;have hw192_1 := hx192_1;have hw192_0 := hx192_0;cases e192;replace hx192_0 := bc HB hx192_0;replace hx192_1 := bc HB hx192_1;replace p192 := eq_true p192;replace q192 := eq_true q192
      refine start_ (n := 10) (S := fun w' => w'.cell? (ad191.add ((x5_1).toNat * 2)) = some (.int .i64 ((rd_T38 l0 x5_1).f0)) ∧ w'.cell? ⟨(ad191.add ((x5_1).toNat * 2)).block, (ad191.add ((x5_1).toNat * 2)).off + 1, none⟩ = some (.int .i64 ((rd_T38 l0 x5_1).f1)) ∧ w'.cell? (ad192.add ((x5_1).toNat * 2)) = some (.int .i64 ((rd_T38 l1 x5_1).f0)) ∧ w'.cell? ⟨(ad192.add ((x5_1).toNat * 2)).block, (ad192.add ((x5_1).toNat * 2)).off + 1, none⟩ = some (.int .i64 ((rd_T38 l1 x5_1).f1))) (ds := []) #[false, false, false, false, false, false, false, false, false, false] (by kernel_rfl) rfl rfl ⟨(bc HB hw191_0), (bc HB hw191_1), (bc HB hw192_0), (bc HB hw192_1)⟩ (fun hHeld => ?_); refine with_tabW laws_eqWideS.tab6 laws_eqWideS.bits6 (fun HT_ HW_ => ?_)
      generalize wr.drew = w11 at HB hx191_0 hx191_1 hx192_0 hx192_1 hHeld ⊢;refine pureZ 0 (some 17) (msk 10 1) HT_.out ?_;refine pureZ 1 (some 18) (msk 10 3) HT_.out ?_;refine pureZ 2 (some 19) (msk 10 7) HT_.out ?_;refine pureZ 4 (some 21) (msk 10 23) HT_.out ?_;refine pureZ 5 (some 22) (msk 10 55) HT_.out ?_;refine pureZ 6 (some 23) (msk 10 119) HT_.out ?_;refine takeZ 3 (some 20) (msk 10 127) HT_.out HW_.out hHeld (hy := q5x0) (h := ?_);refine takeZ 7 (some 24) (msk 10 255) HT_.out HW_.out hHeld (hy := q5x0) (h := ?_)
      refine one_Z 8 (some 25) (msk 10 511) HT_.out fun K hK => ?_
      refine goes_ Try.func144 (by kernel_rfl) rfl #[.agg #[.int .i64 ((rd_T38 l0 x5_1).f0), .int .i64 ((rd_T38 l0 x5_1).f1)], .agg #[.int .i64 ((rd_T38 l1 x5_1).f0), .int .i64 ((rd_T38 l1 x5_1).f1)]] (by rfl) rfl rfl (by (try simp only [List.map_toArray, List.map_cons, List.map_nil]); first | done | rfl | (simp only [List.length_drop, List.length_take]; rfl)) ?_
      with_reducible refine (laws_eqWide.calls ((rd_T38 l0 x5_1).f0) ((rd_T38 l0 x5_1).f1) ((rd_T38 l1 x5_1).f0) ((rd_T38 l1 x5_1).f1) false _ A7.out).mono ?_;rintro e w12 ⟨rfl, hb⟩;refine ⟨_, rfl, ?_⟩;replace HB := sB hb;(try clear hb)
      refine hK.out _ _ ⟨(bc HB hw191_0), (bc HB hw191_1), (bc HB hw192_0), (bc HB hw192_1)⟩ (fun hHeld => ?_)
      clear hK K;refine norm_ (a' := ?_) ?_ ?_;rotate_left
      ·show Act.put _ (some 25) _ = _;simp only [Act.put, List.setIfInBounds_toArray, List.set_cons_zero, List.set_cons_succ, i64_w, i32_w];rfl
      refine pureZ 9 (some 26) (msk 10 1023) HT_.out ?_
      refine done_ (done_of HT_.out (by kernel_rfl)) ?_
      try go_wp2
      go_ret;exact ⟨rE, cB⟩
    ·rw [if_neg c4] at H;have c4b0 := decide_eq_false c4;clear c4;obtain rfl := Option.some.inj H;go_wp2;go_ret;exact ⟨rE, cB⟩
 ·rw [if_neg c3] at H;obtain ⟨c3b0, c3b1⟩ := eF c3
  have c3b2 : (l0.length == l1.length) = false := by first | simpa using c3 | (simp at c3 ⊢; omega)
  obtain rfl := Option.some.inj H;go_enter Try.func82, Try.ntmps82;go_wp2;go_ret;exact ⟨rE, cB⟩
def laws_eqCall.f (k : Nat) (a0_0 : Int) (a0_1 : Int) (l0_2 : List (S38)) (a1_0 : Int) (a1_1 : Int) (l1_2 : List (S38)) : Option (Bool) := if a0_0 = a1_0 then (if a0_1 = a1_1 then ((laws_eqWideS.f k l0_2 l1_2).bind fun t196 => (if t196 = true then (some true) else (some false))) else (some false)) else (some false)
set_option maxHeartbeats 8000000 in
set_option maxRecDepth 100000 in
theorem laws_eqCall.calls (k : Nat) (a0_0 : Int) (a0_1 : Int) (A0_2 : Option Addr) (c0_2 : Nat) (l0_2 : List (S38)) (a1_0 : Int) (a1_1 : Int) (A1_2 : Option Addr) (c1_2 : Nat) (l1_2 : List (S38)) (r : Bool) (w : World) (hr0_2 : Kd.C k38 w A0_2 l0_2.length l0_2) (hc0_2 : l0_2.length ≤ c0_2) (hr1_2 : Kd.C k38 w A1_2 l1_2.length l1_2) (hc1_2 : l1_2.length ≤ c1_2) (h : laws_eqCall.f k a0_0 a0_1 l0_2 a1_0 a1_1 l1_2 = some r) :
 Calls Try.prog 25 #[.agg #[.int .i64 a0_0, .int .i64 a0_1, .slice A0_2 l0_2.length c0_2], .agg #[.int .i64 a1_0, .int .i64 a1_1, .slice A1_2 l1_2.length c1_2]] w fun e w' => e = .returned (.bool r) ∧ Below w.heap.size w w' := by
 have hu44 := Try.underlying44;have HR0_2 := Aside0.mk hr0_2;have HC0_2 := Aside0.mk hc0_2;clear hr0_2 hc0_2;have HR1_2 := Aside0.mk hr1_2;have HC1_2 := Aside0.mk hc1_2;clear hr1_2 hc1_2;have HB := Aside0.mk (Below.refl w.heap.size w)
 have H : (if a0_0 = a1_0 then (if a0_1 = a1_1 then ((laws_eqWideS.f k l0_2 l1_2).bind fun t196 => (if t196 = true then (some true) else (some false))) else (some false)) else (some false)) = some r := h
 clear h;by_cases c3 : a0_0 = a1_0
 ·rw [if_pos c3] at H;obtain ⟨c3b0, c3b1⟩ := eT c3;clear c3;by_cases c4 : a0_1 = a1_1
  ·rw [if_pos c4] at H;obtain ⟨c4b0, c4b1⟩ := eT c4;clear c4;replace H := bE H;obtain ⟨t196, A5, H⟩ := H;by_cases c6 : t196 = true
   ·subst c6;replace H := iT H;obtain rfl := Option.some.inj H;go_enter Try.func25, Try.ntmps25
    go_wp2_with (first|((with_reducible refine gN 2 ?_);refine boxZ 2 #[.int .i64 a0_0, .int .i64 a0_1, .slice A0_2 l0_2.length c0_2] 44 ?_;intro gb194 hg w7 hbox hb;have BK194 := Aside0.mk (hbox);have GW194 := gS hg;have GE194 := gS hg;replace HB := sB hb;clear hb hbox hg)|((with_reducible refine gN 3 ?_);refine boxZ 3 #[.int .i64 a1_0, .int .i64 a1_1, .slice A1_2 l1_2.length c1_2] 44 ?_;intro gb195 hg w8 hbox hb;have BK195 := Aside0.mk (hbox);have GW195 := gS hg;have GE195 := gS hg;replace HB := sB hb;have NB194_195 := nL hg BK194;have NB195_194 := nG hg BK194;replace BK194 := kB BK194 hb;clear hb hbox hg;have hnb9 := NB194_195.out;have hnc9 := NB195_194.out;obtain ⟨hcz10_0, hcz10_1, hcz10_2, hfz10_0, hfz10_1, hfz10_2⟩ := cz3 BK194;obtain ⟨hcz11_0, hcz11_1, hcz11_2, hfz11_0, hfz11_1, hfz11_2⟩ := cz3 BK195)|((with_reducible refine gF 82 ?_);refine goZ (some 19) Try.func82 #[.slice A0_2 l0_2.length c0_2, .slice A1_2 l1_2.length c1_2] ?_;(with_reducible refine (laws_eqWideS.calls k _ _ l0_2 _ _ l1_2 true _ ?side1 ?side2 ?side3 ?side4 A5.out).mono ?_);(case side1 => exact cC (Kd.C_below HR0_2.out HB.out));(case side2 => exact HC0_2.out);(case side3 => exact cC (Kd.C_below HR1_2.out HB.out));(case side4 => exact HC1_2.out);rintro e w12 ⟨rfl, hb⟩;refine ⟨_, rfl, ?_⟩;replace BK194 := kB BK194 hb;replace BK195 := kB BK195 hb;replace HB := sB hb;(try clear hb)))
    go_ret;exact ⟨rE, cB⟩
   ·replace c6 := Bool.eq_false_iff.mpr c6;subst c6;replace H := iF H;obtain rfl := Option.some.inj H;go_enter Try.func25, Try.ntmps25
    go_wp2_with (first|((with_reducible refine gN 2 ?_);refine boxZ 2 #[.int .i64 a0_0, .int .i64 a0_1, .slice A0_2 l0_2.length c0_2] 44 ?_;intro gb194 hg w13 hbox hb;have BK194 := Aside0.mk (hbox);have GW194 := gS hg;have GE194 := gS hg;replace HB := sB hb;clear hb hbox hg)|((with_reducible refine gN 3 ?_);refine boxZ 3 #[.int .i64 a1_0, .int .i64 a1_1, .slice A1_2 l1_2.length c1_2] 44 ?_;intro gb195 hg w14 hbox hb;have BK195 := Aside0.mk (hbox);have GW195 := gS hg;have GE195 := gS hg;replace HB := sB hb;have NB194_195 := nL hg BK194;have NB195_194 := nG hg BK194;replace BK194 := kB BK194 hb;clear hb hbox hg;have hnb15 := NB194_195.out;have hnc15 := NB195_194.out;obtain ⟨hcz16_0, hcz16_1, hcz16_2, hfz16_0, hfz16_1, hfz16_2⟩ := cz3 BK194;obtain ⟨hcz17_0, hcz17_1, hcz17_2, hfz17_0, hfz17_1, hfz17_2⟩ := cz3 BK195)|((with_reducible refine gF 82 ?_);refine goZ (some 19) Try.func82 #[.slice A0_2 l0_2.length c0_2, .slice A1_2 l1_2.length c1_2] ?_;(with_reducible refine (laws_eqWideS.calls k _ _ l0_2 _ _ l1_2 false _ ?side1 ?side2 ?side3 ?side4 A5.out).mono ?_);(case side1 => exact cC (Kd.C_below HR0_2.out HB.out));(case side2 => exact HC0_2.out);(case side3 => exact cC (Kd.C_below HR1_2.out HB.out));(case side4 => exact HC1_2.out);rintro e w18 ⟨rfl, hb⟩;refine ⟨_, rfl, ?_⟩;replace BK194 := kB BK194 hb;replace BK195 := kB BK195 hb;replace HB := sB hb;(try clear hb)))
    go_ret;exact ⟨rE, cB⟩
  ·rw [if_neg c4] at H;obtain ⟨c4b0, c4b1⟩ := eF c4;obtain rfl := Option.some.inj H;go_enter Try.func25, Try.ntmps25
   go_wp2_with (first|((with_reducible refine gN 2 ?_);refine boxZ 2 #[.int .i64 a0_0, .int .i64 a0_1, .slice A0_2 l0_2.length c0_2] 44 ?_;intro gb194 hg w19 hbox hb;have BK194 := Aside0.mk (hbox);have GW194 := gS hg;have GE194 := gS hg;replace HB := sB hb;clear hb hbox hg)|((with_reducible refine gN 3 ?_);refine boxZ 3 #[.int .i64 a1_0, .int .i64 a1_1, .slice A1_2 l1_2.length c1_2] 44 ?_;intro gb195 hg w20 hbox hb;have BK195 := Aside0.mk (hbox);have GW195 := gS hg;have GE195 := gS hg;replace HB := sB hb;have NB194_195 := nL hg BK194;have NB195_194 := nG hg BK194;replace BK194 := kB BK194 hb;clear hb hbox hg;have hnb21 := NB194_195.out;have hnc21 := NB195_194.out;obtain ⟨hcz22_0, hcz22_1, hcz22_2, hfz22_0, hfz22_1, hfz22_2⟩ := cz3 BK194;obtain ⟨hcz23_0, hcz23_1, hcz23_2, hfz23_0, hfz23_1, hfz23_2⟩ := cz3 BK195))
   go_ret;exact ⟨rE, cB⟩
 ·rw [if_neg c3] at H;obtain ⟨c3b0, c3b1⟩ := eF c3;obtain rfl := Option.some.inj H;go_enter Try.func25, Try.ntmps25
  go_wp2_with (first|((with_reducible refine gN 2 ?_);refine boxZ 2 #[.int .i64 a0_0, .int .i64 a0_1, .slice A0_2 l0_2.length c0_2] 44 ?_;intro gb194 hg w24 hbox hb;have BK194 := Aside0.mk (hbox);have GW194 := gS hg;have GE194 := gS hg;replace HB := sB hb;clear hb hbox hg)|((with_reducible refine gN 3 ?_);refine boxZ 3 #[.int .i64 a1_0, .int .i64 a1_1, .slice A1_2 l1_2.length c1_2] 44 ?_;intro gb195 hg w25 hbox hb;have BK195 := Aside0.mk (hbox);have GW195 := gS hg;have GE195 := gS hg;replace HB := sB hb;have NB194_195 := nL hg BK194;have NB195_194 := nG hg BK194;replace BK194 := kB BK194 hb;clear hb hbox hg;have hnb26 := NB194_195.out;have hnc26 := NB195_194.out;obtain ⟨hcz27_0, hcz27_1, hcz27_2, hfz27_0, hfz27_1, hfz27_2⟩ := cz3 BK194;obtain ⟨hcz28_0, hcz28_1, hcz28_2, hfz28_0, hfz28_1, hfz28_2⟩ := cz3 BK195))
  go_ret;exact ⟨rE, cB⟩
end Go.Proofs.Ytiinjipfhmgheaa.PFnExactCondHolds
