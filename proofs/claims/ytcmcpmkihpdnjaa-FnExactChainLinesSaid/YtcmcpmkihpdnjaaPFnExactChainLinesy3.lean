import Derived.Test.YtcmcpmkihpdnjaaPFnExactChainLinesy0
import Derived.Test.YtcmcpmkihpdnjaaPFnExactChainLinesy2
namespace Go.Proofs.Ytcmcpmkihpdnjaa.PFnExactChainLines
open Go.RowKit Go.Proofs.YtcmcpmkihpdnjaaW.PrintWords Go.Proofs.YtcmcpmkihpdnjaaW.PrintLast Go.Proofs.YtcmcpmkihpdnjaaW.PrintMore Go.Proofs.YtcmcpmkihpdnjaaW.Z
attribute [local go_sem] isS max2_int min2_int max_two min_two max_three min_three max_four min_four
set_option linter.unusedVariables false
set_option linter.unusedSimpArgs false
def laws_eqRuleS.l0 : Nat → List (S91) → List (S91) → Int → Option (Bool)
  | 0, _, _, _ => none
  | k + 1, x0, x1, x5 => if x5 < (x0.length : Int) then (if 0 ≤ x5 then (if x5 < (x1.length : Int) then ((laws_eqRule.f k ((rd_T91 x0 x5).f0) ((rd_T91 x0 x5).f1) ((rd_T91 x0 x5).f2) ((rd_T91 x0 x5).f3) ((rd_T91 x1 x5).f0) ((rd_T91 x1 x5).f1) ((rd_T91 x1 x5).f2) ((rd_T91 x1 x5).f3)).bind fun t179 => (if t179 = true then (laws_eqRuleS.l0 k x0 x1 (wrap64 (x5 + 1))) else (some false))) else (none)) else (none)) else (some true)
def laws_eqRuleS.f (k : Nat) (l0 : List (S91)) (l1 : List (S91)) : Option (Bool) := if (l0.length : Int) = (l1.length : Int) then (laws_eqRuleS.l0 k l0 l1 0) else (some false)
def laws_eqRuleS.T6 : Bool × List (List Nat × List Nat) := (true, [([], []), ([], []), ([0, 1], [0, 1]), ([2], [2]), ([], []), ([], []), ([4, 5], [4, 5]), ([6], [6]), ([3, 7], [3, 7]), ([8], [8])])
def laws_eqRuleS.B6 : List Nat := [0, 0, 3, 7, 0, 0, 48, 112, 255, 511]
theorem laws_eqRuleS.tab6 : rtab .any (opsOf Try.f75 6) = laws_eqRuleS.T6 := by kernel_rfl
theorem laws_eqRuleS.bits6 : waitsOk laws_eqRuleS.T6.2 laws_eqRuleS.B6 = true := by kernel_rfl
theorem q3x0 {P : Prop} (h : P := by 
 rintro w' ⟨s0, s1, s2, s3, s4, s5, s6, s7⟩
 go_simp
 with_reducible rfl) : P := h
set_option maxHeartbeats 8000000 in
set_option maxRecDepth 100000 in
theorem laws_eqRuleS.calls (k : Nat) (A0 : Option Addr) (c0 : Nat) (l0 : List (S91)) (A1 : Option Addr) (c1 : Nat) (l1 : List (S91)) (r : Bool) (w : World) (hr0 : Kd.C k91 w A0 l0.length l0) (hc0 : l0.length ≤ c0) (hr1 : Kd.C k91 w A1 l1.length l1) (hc1 : l1.length ≤ c1) (h : laws_eqRuleS.f k l0 l1 = some r) :
 Calls Try.prog 75 #[.slice A0 l0.length c0, .slice A1 l1.length c1] w fun e w' => e = .returned (.bool r) ∧ Below w.heap.size w w' := by
 have hu91 := Try.underlying91;have HR0 := Aside0.mk hr0;have HC0 := Aside0.mk hc0;clear hr0 hc0;have HR1 := Aside0.mk hr1;have HC1 := Aside0.mk hc1;clear hr1 hc1;have HB := Aside0.mk (Below.refl w.heap.size w);have H : (if (l0.length : Int) = (l1.length : Int) then (laws_eqRuleS.l0 k l0 l1 0) else (some false)) = some r := h;clear h;by_cases c3 : (l0.length : Int) = (l1.length : Int)
 ·rw [if_pos c3] at H;obtain ⟨c3b0, c3b1⟩ := eT c3
  have c3b2 : (l0.length == l1.length) = true := by first | simpa using c3 | (simp at c3 ⊢; omega)
  clear c3;have H' := Aside0.mk H;clear H;go_enter Try.func75, Try.ntmps75;go_wp2
  go_loopg [5] k (fun kq v5 w' => ∃ (x5_1 : Int), v5 = .int .i64 x5_1 ∧ Aside0 (laws_eqRuleS.l0 kq l0 l1 x5_1 = some r) ∧ Aside0 (kq ≤ k) ∧ Aside0 (Below w.heap.size w w'))
  case atStart => exact ⟨(0), rS, H', ⟨Nat.le_refl _⟩, ⟨cB⟩⟩
  case round =>
   clear H';(try clear c1);(try clear c3);(try clear c3b0);(try clear c3b1);(try clear c3b2);obtain ⟨x5_1, rfl, HA, HK1, HB⟩ := hrel
   cases gk with
   | zero => exact absurd HA.out (by simp [laws_eqRuleS.l0])
   | succ k1 =>
    have H := HA.out;clear HA;simp only [laws_eqRuleS.l0] at H;by_cases c4 : x5_1 < (l0.length : Int)
    ·rw [if_pos c4] at H;have c4b0 := decide_eq_true c4;clear c4;replace H := gD H;obtain ⟨c5b0, H⟩ := H;replace H := gD H;obtain ⟨c6b0, H⟩ := H;replace H := bE H;obtain ⟨t179, A7, H⟩ := H;by_cases c8 : t179 = true
     ·subst c8;replace H := iT H;have H' := Aside0.mk H;clear H
      try go_wp2
      replace HB := Aside0.mk (below_drew1 HB.out);have p177 : 0 ≤ (x5_1 : Int) := dA;have q177 : x5_1 < (l0.length : Int) := dA;obtain ⟨ad177, A177_0, c177_0, A177_1, c177_1, e177, hx177_0, hx177_1, hx177_2, hx177_3, hl177_0, hi177_0, hl177_1, hi177_1⟩ := at_T91 HR0.out x5_1 p177 q177;have hw177_3 := hx177_3;have hw177_2 := hx177_2;have hw177_1 := hx177_1;have hw177_0 := hx177_0;cases e177;replace hx177_0 := (bc HB hx177_0 :);replace hx177_1 := (bc HB hx177_1 :);replace hx177_2 := (bc HB hx177_2 :);replace hx177_3 := (bc HB hx177_3 :);have HR177_0 := Aside0.mk hi177_0;have HC177_0 := Aside0.mk hl177_0;clear hi177_0 hl177_0;have HR177_1 := Aside0.mk hi177_1;have HC177_1 := Aside0.mk hl177_1;clear hi177_1 hl177_1;replace p177 := eq_true p177;replace q177 := eq_true q177;have p178 : 0 ≤ (x5_1 : Int) := dA;have q178 : x5_1 < (l1.length : Int) := dA;obtain ⟨ad178, A178_0, c178_0, A178_1, c178_1, e178, hx178_0, hx178_1, hx178_2, hx178_3, hl178_0, hi178_0, hl178_1, hi178_1⟩ := at_T91 HR1.out x5_1 p178 q178;have hw178_3 := hx178_3;have hw178_2 := hx178_2;have hw178_1 := hx178_1;have hw178_0 := hx178_0;cases e178;replace hx178_0 := (bc HB hx178_0 :);replace hx178_1 := (bc HB hx178_1 :);replace hx178_2 := (bc HB hx178_2 :);replace hx178_3 := (bc HB hx178_3 :);have HR178_0 := Aside0.mk hi178_0;have HC178_0 := Aside0.mk hl178_0;clear hi178_0 hl178_0;have HR178_1 := Aside0.mk hi178_1;have HC178_1 := Aside0.mk hl178_1;clear hi178_1 hl178_1;replace p178 := eq_true p178;replace q178 := eq_true q178
      refine start_ (n := 10) (S := fun w' => w'.cell? (ad177.add ((x5_1).toNat * 4)) = some (.slice A177_0 ((rd_T91 l0 x5_1).f0).length c177_0) ∧ w'.cell? ⟨(ad177.add ((x5_1).toNat * 4)).block, (ad177.add ((x5_1).toNat * 4)).off + 1, none⟩ = some (.slice A177_1 ((rd_T91 l0 x5_1).f1).length c177_1) ∧ w'.cell? ⟨(ad177.add ((x5_1).toNat * 4)).block, (ad177.add ((x5_1).toNat * 4)).off + 2, none⟩ = some (.int .i64 ((rd_T91 l0 x5_1).f2)) ∧ w'.cell? ⟨(ad177.add ((x5_1).toNat * 4)).block, (ad177.add ((x5_1).toNat * 4)).off + 3, none⟩ = some (.int .i64 ((rd_T91 l0 x5_1).f3)) ∧ w'.cell? (ad178.add ((x5_1).toNat * 4)) = some (.slice A178_0 ((rd_T91 l1 x5_1).f0).length c178_0) ∧ w'.cell? ⟨(ad178.add ((x5_1).toNat * 4)).block, (ad178.add ((x5_1).toNat * 4)).off + 1, none⟩ = some (.slice A178_1 ((rd_T91 l1 x5_1).f1).length c178_1) ∧ w'.cell? ⟨(ad178.add ((x5_1).toNat * 4)).block, (ad178.add ((x5_1).toNat * 4)).off + 2, none⟩ = some (.int .i64 ((rd_T91 l1 x5_1).f2)) ∧ w'.cell? ⟨(ad178.add ((x5_1).toNat * 4)).block, (ad178.add ((x5_1).toNat * 4)).off + 3, none⟩ = some (.int .i64 ((rd_T91 l1 x5_1).f3))) (ds := []) #[false, false, false, false, false, false, false, false, false, false] (by kernel_rfl) rfl rfl ⟨((bc HB hw177_0 :)), ((bc HB hw177_1 :)), ((bc HB hw177_2 :)), ((bc HB hw177_3 :)), ((bc HB hw178_0 :)), ((bc HB hw178_1 :)), ((bc HB hw178_2 :)), ((bc HB hw178_3 :))⟩ (fun hHeld => ?_); refine with_tabW laws_eqRuleS.tab6 laws_eqRuleS.bits6 (fun HT_ HW_ => ?_)
      generalize wr.drew = w9 at HB HR177_0 HR177_1 HR178_0 HR178_1 hx177_0 hx177_1 hx177_2 hx177_3 hx178_0 hx178_1 hx178_2 hx178_3 hHeld ⊢;refine pureZ 0 (some 17) (msk 10 1) HT_.out ?_;refine pureZ 1 (some 18) (msk 10 3) HT_.out ?_;refine pureZ 2 (some 19) (msk 10 7) HT_.out ?_;refine pureZ 4 (some 21) (msk 10 23) HT_.out ?_;refine pureZ 5 (some 22) (msk 10 55) HT_.out ?_;refine pureZ 6 (some 23) (msk 10 119) HT_.out ?_;refine takeZ 3 (some 20) (msk 10 127) HT_.out HW_.out hHeld (hy := q3x0) (h := ?_);refine takeZ 7 (some 24) (msk 10 255) HT_.out HW_.out hHeld (hy := q3x0) (h := ?_)
      refine one_Z 8 (some 25) (msk 10 511) HT_.out fun K hK => ?_
      refine goes_ Try.func118 (by kernel_rfl) rfl #[.agg #[.slice A177_0 ((rd_T91 l0 x5_1).f0).length c177_0, .slice A177_1 ((rd_T91 l0 x5_1).f1).length c177_1, .int .i64 ((rd_T91 l0 x5_1).f2), .int .i64 ((rd_T91 l0 x5_1).f3)], .agg #[.slice A178_0 ((rd_T91 l1 x5_1).f0).length c178_0, .slice A178_1 ((rd_T91 l1 x5_1).f1).length c178_1, .int .i64 ((rd_T91 l1 x5_1).f2), .int .i64 ((rd_T91 l1 x5_1).f3)]] (by rfl) rfl rfl (by (try simp only [List.map_toArray, List.map_cons, List.map_nil]); first | done | rfl | (simp only [List.length_drop, List.length_take]; rfl)) ?_
      with_reducible refine (laws_eqRule.calls k1 _ _ ((rd_T91 l0 x5_1).f0) _ _ ((rd_T91 l0 x5_1).f1) ((rd_T91 l0 x5_1).f2) ((rd_T91 l0 x5_1).f3) _ _ ((rd_T91 l1 x5_1).f0) _ _ ((rd_T91 l1 x5_1).f1) ((rd_T91 l1 x5_1).f2) ((rd_T91 l1 x5_1).f3) true _ ?side1 ?side2 ?side3 ?side4 ?side5 ?side6 ?side7 ?side8 A7.out).mono ?_
      (case side1 => exact cC (Kd.C_below HR177_0.out HB.out))
      (case side2 => exact HC177_0.out)
      (case side3 => exact cC (Kd.C_below HR177_1.out HB.out))
      (case side4 => exact HC177_1.out)
      (case side5 => exact cC (Kd.C_below HR178_0.out HB.out))
      (case side6 => exact HC178_0.out)
      (case side7 => exact cC (Kd.C_below HR178_1.out HB.out))
      (case side8 => exact HC178_1.out)
      rintro e w10 ⟨rfl, hb⟩;refine ⟨_, rfl, ?_⟩;replace HB := sB hb;(try clear hb)
      refine hK.out _ _ ⟨((bc HB hw177_0 :)), ((bc HB hw177_1 :)), ((bc HB hw177_2 :)), ((bc HB hw177_3 :)), ((bc HB hw178_0 :)), ((bc HB hw178_1 :)), ((bc HB hw178_2 :)), ((bc HB hw178_3 :))⟩ (fun hHeld => ?_)
      clear hK K;refine normZ (some 25) ?_
      refine pureZ 9 (some 26) (msk 10 1023) HT_.out ?_
      refine done_ (done_of HT_.out (by kernel_rfl)) ?_
      try go_wp2
      go_roundg k1
      case measure => have := HK1.out; omega
      case rel => exact ⟨(wrap64 (x5_1 + 1)), rS, H', ⟨by have := HK1.out; omega⟩, ⟨cB⟩⟩
     ·replace c8 := Bool.eq_false_iff.mpr c8;subst c8;replace H := iF H;obtain rfl := Option.some.inj H
      try go_wp2
      replace HB := Aside0.mk (below_drew1 HB.out);have p177 : 0 ≤ (x5_1 : Int) := dA;have q177 : x5_1 < (l0.length : Int) := dA;obtain ⟨ad177, A177_0, c177_0, A177_1, c177_1, e177, hx177_0, hx177_1, hx177_2, hx177_3, hl177_0, hi177_0, hl177_1, hi177_1⟩ := at_T91 HR0.out x5_1 p177 q177;have hw177_3 := hx177_3;have hw177_2 := hx177_2;have hw177_1 := hx177_1;have hw177_0 := hx177_0;cases e177;replace hx177_0 := (bc HB hx177_0 :);replace hx177_1 := (bc HB hx177_1 :);replace hx177_2 := (bc HB hx177_2 :);replace hx177_3 := (bc HB hx177_3 :);have HR177_0 := Aside0.mk hi177_0;have HC177_0 := Aside0.mk hl177_0;clear hi177_0 hl177_0;have HR177_1 := Aside0.mk hi177_1;have HC177_1 := Aside0.mk hl177_1;clear hi177_1 hl177_1;replace p177 := eq_true p177;replace q177 := eq_true q177;have p178 : 0 ≤ (x5_1 : Int) := dA;have q178 : x5_1 < (l1.length : Int) := dA;obtain ⟨ad178, A178_0, c178_0, A178_1, c178_1, e178, hx178_0, hx178_1, hx178_2, hx178_3, hl178_0, hi178_0, hl178_1, hi178_1⟩ := at_T91 HR1.out x5_1 p178 q178;have hw178_3 := hx178_3;have hw178_2 := hx178_2;have hw178_1 := hx178_1;have hw178_0 := hx178_0;cases e178;replace hx178_0 := (bc HB hx178_0 :);replace hx178_1 := (bc HB hx178_1 :);replace hx178_2 := (bc HB hx178_2 :);replace hx178_3 := (bc HB hx178_3 :);have HR178_0 := Aside0.mk hi178_0;have HC178_0 := Aside0.mk hl178_0;clear hi178_0 hl178_0;have HR178_1 := Aside0.mk hi178_1;have HC178_1 := Aside0.mk hl178_1;clear hi178_1 hl178_1;replace p178 := eq_true p178;replace q178 := eq_true q178
      refine start_ (n := 10) (S := fun w' => w'.cell? (ad177.add ((x5_1).toNat * 4)) = some (.slice A177_0 ((rd_T91 l0 x5_1).f0).length c177_0) ∧ w'.cell? ⟨(ad177.add ((x5_1).toNat * 4)).block, (ad177.add ((x5_1).toNat * 4)).off + 1, none⟩ = some (.slice A177_1 ((rd_T91 l0 x5_1).f1).length c177_1) ∧ w'.cell? ⟨(ad177.add ((x5_1).toNat * 4)).block, (ad177.add ((x5_1).toNat * 4)).off + 2, none⟩ = some (.int .i64 ((rd_T91 l0 x5_1).f2)) ∧ w'.cell? ⟨(ad177.add ((x5_1).toNat * 4)).block, (ad177.add ((x5_1).toNat * 4)).off + 3, none⟩ = some (.int .i64 ((rd_T91 l0 x5_1).f3)) ∧ w'.cell? (ad178.add ((x5_1).toNat * 4)) = some (.slice A178_0 ((rd_T91 l1 x5_1).f0).length c178_0) ∧ w'.cell? ⟨(ad178.add ((x5_1).toNat * 4)).block, (ad178.add ((x5_1).toNat * 4)).off + 1, none⟩ = some (.slice A178_1 ((rd_T91 l1 x5_1).f1).length c178_1) ∧ w'.cell? ⟨(ad178.add ((x5_1).toNat * 4)).block, (ad178.add ((x5_1).toNat * 4)).off + 2, none⟩ = some (.int .i64 ((rd_T91 l1 x5_1).f2)) ∧ w'.cell? ⟨(ad178.add ((x5_1).toNat * 4)).block, (ad178.add ((x5_1).toNat * 4)).off + 3, none⟩ = some (.int .i64 ((rd_T91 l1 x5_1).f3))) (ds := []) #[false, false, false, false, false, false, false, false, false, false] (by kernel_rfl) rfl rfl ⟨((bc HB hw177_0 :)), ((bc HB hw177_1 :)), ((bc HB hw177_2 :)), ((bc HB hw177_3 :)), ((bc HB hw178_0 :)), ((bc HB hw178_1 :)), ((bc HB hw178_2 :)), ((bc HB hw178_3 :))⟩ (fun hHeld => ?_); refine with_tabW laws_eqRuleS.tab6 laws_eqRuleS.bits6 (fun HT_ HW_ => ?_)
      generalize wr.drew = w11 at HB HR177_0 HR177_1 HR178_0 HR178_1 hx177_0 hx177_1 hx177_2 hx177_3 hx178_0 hx178_1 hx178_2 hx178_3 hHeld ⊢;refine pureZ 0 (some 17) (msk 10 1) HT_.out ?_;refine pureZ 1 (some 18) (msk 10 3) HT_.out ?_;refine pureZ 2 (some 19) (msk 10 7) HT_.out ?_;refine pureZ 4 (some 21) (msk 10 23) HT_.out ?_;refine pureZ 5 (some 22) (msk 10 55) HT_.out ?_;refine pureZ 6 (some 23) (msk 10 119) HT_.out ?_;refine takeZ 3 (some 20) (msk 10 127) HT_.out HW_.out hHeld (hy := q3x0) (h := ?_);refine takeZ 7 (some 24) (msk 10 255) HT_.out HW_.out hHeld (hy := q3x0) (h := ?_)
      refine one_Z 8 (some 25) (msk 10 511) HT_.out fun K hK => ?_
      refine goes_ Try.func118 (by kernel_rfl) rfl #[.agg #[.slice A177_0 ((rd_T91 l0 x5_1).f0).length c177_0, .slice A177_1 ((rd_T91 l0 x5_1).f1).length c177_1, .int .i64 ((rd_T91 l0 x5_1).f2), .int .i64 ((rd_T91 l0 x5_1).f3)], .agg #[.slice A178_0 ((rd_T91 l1 x5_1).f0).length c178_0, .slice A178_1 ((rd_T91 l1 x5_1).f1).length c178_1, .int .i64 ((rd_T91 l1 x5_1).f2), .int .i64 ((rd_T91 l1 x5_1).f3)]] (by rfl) rfl rfl (by (try simp only [List.map_toArray, List.map_cons, List.map_nil]); first | done | rfl | (simp only [List.length_drop, List.length_take]; rfl)) ?_
      with_reducible refine (laws_eqRule.calls k1 _ _ ((rd_T91 l0 x5_1).f0) _ _ ((rd_T91 l0 x5_1).f1) ((rd_T91 l0 x5_1).f2) ((rd_T91 l0 x5_1).f3) _ _ ((rd_T91 l1 x5_1).f0) _ _ ((rd_T91 l1 x5_1).f1) ((rd_T91 l1 x5_1).f2) ((rd_T91 l1 x5_1).f3) false _ ?side1 ?side2 ?side3 ?side4 ?side5 ?side6 ?side7 ?side8 A7.out).mono ?_
      (case side1 => exact cC (Kd.C_below HR177_0.out HB.out))
      (case side2 => exact HC177_0.out)
      (case side3 => exact cC (Kd.C_below HR177_1.out HB.out))
      (case side4 => exact HC177_1.out)
      (case side5 => exact cC (Kd.C_below HR178_0.out HB.out))
      (case side6 => exact HC178_0.out)
      (case side7 => exact cC (Kd.C_below HR178_1.out HB.out))
      (case side8 => exact HC178_1.out)
      rintro e w12 ⟨rfl, hb⟩;refine ⟨_, rfl, ?_⟩;replace HB := sB hb;(try clear hb)
      refine hK.out _ _ ⟨((bc HB hw177_0 :)), ((bc HB hw177_1 :)), ((bc HB hw177_2 :)), ((bc HB hw177_3 :)), ((bc HB hw178_0 :)), ((bc HB hw178_1 :)), ((bc HB hw178_2 :)), ((bc HB hw178_3 :))⟩ (fun hHeld => ?_)
      clear hK K;refine normZ (some 25) ?_
      refine pureZ 9 (some 26) (msk 10 1023) HT_.out ?_
      refine done_ (done_of HT_.out (by kernel_rfl)) ?_
      try go_wp2
      go_ret;exact ⟨rE, cB⟩
    ·rw [if_neg c4] at H;have c4b0 := decide_eq_false c4;clear c4;obtain rfl := Option.some.inj H;go_wp2;go_ret;exact ⟨rE, cB⟩
 ·rw [if_neg c3] at H;obtain ⟨c3b0, c3b1⟩ := eF c3
  have c3b2 : (l0.length == l1.length) = false := by first | simpa using c3 | (simp at c3 ⊢; omega)
  obtain rfl := Option.some.inj H;go_enter Try.func75, Try.ntmps75;go_wp2;go_ret;exact ⟨rE, cB⟩
def laws_eqPolicy.f (k : Nat) (a0_0 : Int) (a0_1 : Int) (a0_2 : Int) (l0_3 : List (S91)) (a1_0 : Int) (a1_1 : Int) (a1_2 : Int) (l1_3 : List (S91)) : Option (Bool) := if a0_0 = a1_0 then (if a0_1 = a1_1 then (if a0_2 = a1_2 then ((laws_eqRuleS.f k l0_3 l1_3).bind fun t182 => (if t182 = true then (some true) else (some false))) else (some false)) else (some false)) else (some false)
set_option maxHeartbeats 8000000 in
set_option maxRecDepth 100000 in
theorem laws_eqPolicy.calls (k : Nat) (a0_0 : Int) (a0_1 : Int) (a0_2 : Int) (A0_3 : Option Addr) (c0_3 : Nat) (l0_3 : List (S91)) (a1_0 : Int) (a1_1 : Int) (a1_2 : Int) (A1_3 : Option Addr) (c1_3 : Nat) (l1_3 : List (S91)) (r : Bool) (w : World) (hr0_3 : Kd.C k91 w A0_3 l0_3.length l0_3) (hc0_3 : l0_3.length ≤ c0_3) (hr1_3 : Kd.C k91 w A1_3 l1_3.length l1_3) (hc1_3 : l1_3.length ≤ c1_3) (h : laws_eqPolicy.f k a0_0 a0_1 a0_2 l0_3 a1_0 a1_1 a1_2 l1_3 = some r) :
 Calls Try.prog 32 #[.agg #[.int .i64 a0_0, .int .i64 a0_1, .int .i64 a0_2, .slice A0_3 l0_3.length c0_3], .agg #[.int .i64 a1_0, .int .i64 a1_1, .int .i64 a1_2, .slice A1_3 l1_3.length c1_3]] w fun e w' => e = .returned (.bool r) ∧ Below w.heap.size w w' := by
 have hu50 := Try.underlying50;have HR0_3 := Aside0.mk hr0_3;have HC0_3 := Aside0.mk hc0_3;clear hr0_3 hc0_3;have HR1_3 := Aside0.mk hr1_3;have HC1_3 := Aside0.mk hc1_3;clear hr1_3 hc1_3;have HB := Aside0.mk (Below.refl w.heap.size w)
 have H : (if a0_0 = a1_0 then (if a0_1 = a1_1 then (if a0_2 = a1_2 then ((laws_eqRuleS.f k l0_3 l1_3).bind fun t182 => (if t182 = true then (some true) else (some false))) else (some false)) else (some false)) else (some false)) = some r := h
 clear h;by_cases c3 : a0_0 = a1_0
 ·rw [if_pos c3] at H;obtain ⟨c3b0, c3b1⟩ := eT c3;clear c3;by_cases c4 : a0_1 = a1_1
  ·rw [if_pos c4] at H;obtain ⟨c4b0, c4b1⟩ := eT c4;clear c4;by_cases c5 : a0_2 = a1_2
   ·rw [if_pos c5] at H;obtain ⟨c5b0, c5b1⟩ := eT c5;clear c5;replace H := bE H;obtain ⟨t182, A6, H⟩ := H;by_cases c7 : t182 = true
    ·subst c7;replace H := iT H;obtain rfl := Option.some.inj H;go_enter Try.func32, Try.ntmps32
     go_wp2_with (first|((with_reducible refine gN 2 ?_);refine boxZ 2 #[.int .i64 a0_0, .int .i64 a0_1, .int .i64 a0_2, .slice A0_3 l0_3.length c0_3] 50 ?_;intro gb180 hg w8 hbox hb;have BK180 := Aside0.mk (hbox);have GW180 := gS hg;have GE180 := gS hg;replace HB := sB hb;clear hb hbox hg)|((with_reducible refine gN 3 ?_);refine boxZ 3 #[.int .i64 a1_0, .int .i64 a1_1, .int .i64 a1_2, .slice A1_3 l1_3.length c1_3] 50 ?_;intro gb181 hg w9 hbox hb;have BK181 := Aside0.mk (hbox);have GW181 := gS hg;have GE181 := gS hg;replace HB := sB hb;have NB180_181 := nL hg BK180;have NB181_180 := nG hg BK180;replace BK180 := kB BK180 hb;clear hb hbox hg;have hnb10 := NB180_181.out;have hnc10 := NB181_180.out;obtain ⟨hcz11_0, hcz11_1, hcz11_2, hcz11_3, hfz11_0, hfz11_1, hfz11_2, hfz11_3⟩ := cz4 BK180;obtain ⟨hcz12_0, hcz12_1, hcz12_2, hcz12_3, hfz12_0, hfz12_1, hfz12_2, hfz12_3⟩ := cz4 BK181)|((with_reducible refine gF 75 ?_);refine goZ (some 24) Try.func75 #[.slice A0_3 l0_3.length c0_3, .slice A1_3 l1_3.length c1_3] ?_;(with_reducible refine (laws_eqRuleS.calls k _ _ l0_3 _ _ l1_3 true _ ?side1 ?side2 ?side3 ?side4 A6.out).mono ?_);(case side1 => exact cC (Kd.C_below HR0_3.out HB.out));(case side2 => exact HC0_3.out);(case side3 => exact cC (Kd.C_below HR1_3.out HB.out));(case side4 => exact HC1_3.out);rintro e w13 ⟨rfl, hb⟩;refine ⟨_, rfl, ?_⟩;replace BK180 := kB BK180 hb;replace BK181 := kB BK181 hb;replace HB := sB hb;(try clear hb)))
     go_ret;exact ⟨rE, cB⟩
    ·replace c7 := Bool.eq_false_iff.mpr c7;subst c7;replace H := iF H;obtain rfl := Option.some.inj H;go_enter Try.func32, Try.ntmps32
     go_wp2_with (first|((with_reducible refine gN 2 ?_);refine boxZ 2 #[.int .i64 a0_0, .int .i64 a0_1, .int .i64 a0_2, .slice A0_3 l0_3.length c0_3] 50 ?_;intro gb180 hg w14 hbox hb;have BK180 := Aside0.mk (hbox);have GW180 := gS hg;have GE180 := gS hg;replace HB := sB hb;clear hb hbox hg)|((with_reducible refine gN 3 ?_);refine boxZ 3 #[.int .i64 a1_0, .int .i64 a1_1, .int .i64 a1_2, .slice A1_3 l1_3.length c1_3] 50 ?_;intro gb181 hg w15 hbox hb;have BK181 := Aside0.mk (hbox);have GW181 := gS hg;have GE181 := gS hg;replace HB := sB hb;have NB180_181 := nL hg BK180;have NB181_180 := nG hg BK180;replace BK180 := kB BK180 hb;clear hb hbox hg;have hnb16 := NB180_181.out;have hnc16 := NB181_180.out;obtain ⟨hcz17_0, hcz17_1, hcz17_2, hcz17_3, hfz17_0, hfz17_1, hfz17_2, hfz17_3⟩ := cz4 BK180;obtain ⟨hcz18_0, hcz18_1, hcz18_2, hcz18_3, hfz18_0, hfz18_1, hfz18_2, hfz18_3⟩ := cz4 BK181)|((with_reducible refine gF 75 ?_);refine goZ (some 24) Try.func75 #[.slice A0_3 l0_3.length c0_3, .slice A1_3 l1_3.length c1_3] ?_;(with_reducible refine (laws_eqRuleS.calls k _ _ l0_3 _ _ l1_3 false _ ?side1 ?side2 ?side3 ?side4 A6.out).mono ?_);(case side1 => exact cC (Kd.C_below HR0_3.out HB.out));(case side2 => exact HC0_3.out);(case side3 => exact cC (Kd.C_below HR1_3.out HB.out));(case side4 => exact HC1_3.out);rintro e w19 ⟨rfl, hb⟩;refine ⟨_, rfl, ?_⟩;replace BK180 := kB BK180 hb;replace BK181 := kB BK181 hb;replace HB := sB hb;(try clear hb)))
     go_ret;exact ⟨rE, cB⟩
   ·rw [if_neg c5] at H;obtain ⟨c5b0, c5b1⟩ := eF c5;obtain rfl := Option.some.inj H;go_enter Try.func32, Try.ntmps32
    go_wp2_with (first|((with_reducible refine gN 2 ?_);refine boxZ 2 #[.int .i64 a0_0, .int .i64 a0_1, .int .i64 a0_2, .slice A0_3 l0_3.length c0_3] 50 ?_;intro gb180 hg w20 hbox hb;have BK180 := Aside0.mk (hbox);have GW180 := gS hg;have GE180 := gS hg;replace HB := sB hb;clear hb hbox hg)|((with_reducible refine gN 3 ?_);refine boxZ 3 #[.int .i64 a1_0, .int .i64 a1_1, .int .i64 a1_2, .slice A1_3 l1_3.length c1_3] 50 ?_;intro gb181 hg w21 hbox hb;have BK181 := Aside0.mk (hbox);have GW181 := gS hg;have GE181 := gS hg;replace HB := sB hb;have NB180_181 := nL hg BK180;have NB181_180 := nG hg BK180;replace BK180 := kB BK180 hb;clear hb hbox hg;have hnb22 := NB180_181.out;have hnc22 := NB181_180.out;obtain ⟨hcz23_0, hcz23_1, hcz23_2, hcz23_3, hfz23_0, hfz23_1, hfz23_2, hfz23_3⟩ := cz4 BK180;obtain ⟨hcz24_0, hcz24_1, hcz24_2, hcz24_3, hfz24_0, hfz24_1, hfz24_2, hfz24_3⟩ := cz4 BK181))
    go_ret;exact ⟨rE, cB⟩
  ·rw [if_neg c4] at H;obtain ⟨c4b0, c4b1⟩ := eF c4;obtain rfl := Option.some.inj H;go_enter Try.func32, Try.ntmps32
   go_wp2_with (first|((with_reducible refine gN 2 ?_);refine boxZ 2 #[.int .i64 a0_0, .int .i64 a0_1, .int .i64 a0_2, .slice A0_3 l0_3.length c0_3] 50 ?_;intro gb180 hg w25 hbox hb;have BK180 := Aside0.mk (hbox);have GW180 := gS hg;have GE180 := gS hg;replace HB := sB hb;clear hb hbox hg)|((with_reducible refine gN 3 ?_);refine boxZ 3 #[.int .i64 a1_0, .int .i64 a1_1, .int .i64 a1_2, .slice A1_3 l1_3.length c1_3] 50 ?_;intro gb181 hg w26 hbox hb;have BK181 := Aside0.mk (hbox);have GW181 := gS hg;have GE181 := gS hg;replace HB := sB hb;have NB180_181 := nL hg BK180;have NB181_180 := nG hg BK180;replace BK180 := kB BK180 hb;clear hb hbox hg;have hnb27 := NB180_181.out;have hnc27 := NB181_180.out;obtain ⟨hcz28_0, hcz28_1, hcz28_2, hcz28_3, hfz28_0, hfz28_1, hfz28_2, hfz28_3⟩ := cz4 BK180;obtain ⟨hcz29_0, hcz29_1, hcz29_2, hcz29_3, hfz29_0, hfz29_1, hfz29_2, hfz29_3⟩ := cz4 BK181))
   go_ret;exact ⟨rE, cB⟩
 ·rw [if_neg c3] at H;obtain ⟨c3b0, c3b1⟩ := eF c3;obtain rfl := Option.some.inj H;go_enter Try.func32, Try.ntmps32
  go_wp2_with (first|((with_reducible refine gN 2 ?_);refine boxZ 2 #[.int .i64 a0_0, .int .i64 a0_1, .int .i64 a0_2, .slice A0_3 l0_3.length c0_3] 50 ?_;intro gb180 hg w30 hbox hb;have BK180 := Aside0.mk (hbox);have GW180 := gS hg;have GE180 := gS hg;replace HB := sB hb;clear hb hbox hg)|((with_reducible refine gN 3 ?_);refine boxZ 3 #[.int .i64 a1_0, .int .i64 a1_1, .int .i64 a1_2, .slice A1_3 l1_3.length c1_3] 50 ?_;intro gb181 hg w31 hbox hb;have BK181 := Aside0.mk (hbox);have GW181 := gS hg;have GE181 := gS hg;replace HB := sB hb;have NB180_181 := nL hg BK180;have NB181_180 := nG hg BK180;replace BK180 := kB BK180 hb;clear hb hbox hg;have hnb32 := NB180_181.out;have hnc32 := NB181_180.out;obtain ⟨hcz33_0, hcz33_1, hcz33_2, hcz33_3, hfz33_0, hfz33_1, hfz33_2, hfz33_3⟩ := cz4 BK180;obtain ⟨hcz34_0, hcz34_1, hcz34_2, hcz34_3, hfz34_0, hfz34_1, hfz34_2, hfz34_3⟩ := cz4 BK181))
  go_ret;exact ⟨rE, cB⟩
def spec_l09In.l0 : Nat → List Int → Int → Int → Option (Bool)
  | 0, _, _, _ => none
  | k + 1, x0, x1, x5 => if x5 < (x0.length : Int) then (if 0 ≤ x5 then (if (rd x0 x5) = x1 then (some true) else (spec_l09In.l0 k x0 x1 (wrap64 (x5 + 1)))) else (none)) else (some false)
def spec_l09In.f (k : Nat) (l0 : List Int) (a1 : Int) : Option (Bool) := spec_l09In.l0 k l0 a1 0
set_option maxHeartbeats 8000000 in
set_option maxRecDepth 100000 in
theorem spec_l09In.calls (k : Nat) (A0 : Option Addr) (c0 : Nat) (l0 : List Int) (a1 : Int) (r : Bool) (w : World) (hr0 : Kd.C (Kd.int .i64) w A0 l0.length l0) (hc0 : l0.length ≤ c0) (h : spec_l09In.f k l0 a1 = some r) :
 Calls Try.prog 85 #[.slice A0 l0.length c0, .int .i64 a1] w fun e w' => e = .returned (.bool r) ∧ Drawn0 w w' := by
 have HR0 := Aside0.mk hr0;have HC0 := Aside0.mk hc0;clear hr0 hc0;have H : (spec_l09In.l0 k l0 a1 0) = some r := h;clear h;have H' := Aside0.mk H;clear H;go_enter Try.func85, Try.ntmps85;go_wp2
 go_loopg [5] k (fun kq v5 w' => ∃ (x5_1 : Int), v5 = .int .i64 x5_1 ∧ Aside0 (spec_l09In.l0 kq l0 a1 x5_1 = some r) ∧ Aside0 (kq ≤ k) ∧ Drawn0 w w')
 case atStart => exact ⟨(0), rS, H', ⟨Nat.le_refl _⟩, by repeat (first | exact Drawn0.refl _ | apply Drawn0.step)⟩
 case round =>
  clear H';obtain ⟨x5_1, rfl, HA, HK1, ⟨m1, rfl⟩⟩ := hrel
  cases gk with
  | zero => exact absurd HA.out (by simp [spec_l09In.l0])
  | succ k1 =>
   have H := HA.out;clear HA;simp only [spec_l09In.l0] at H;by_cases c3 : x5_1 < (l0.length : Int)
   ·rw [if_pos c3] at H;have c3b0 := decide_eq_true c3;clear c3;replace H := gD H;obtain ⟨c4b0, H⟩ := H;by_cases c5 : (rd l0 x5_1) = a1
    ·rw [if_pos c5] at H;obtain ⟨c5b0, c5b1⟩ := eT c5;clear c5;obtain rfl := Option.some.inj H;have p183 : 0 ≤ (x5_1 : Int) := dA;have q183 : x5_1 < (l0.length : Int) := dA;obtain ⟨ad183, e183, hx183_0⟩ := Kd.at_int HR0.out x5_1 p183 q183;cases e183;replace p183 := eq_true p183;replace q183 := eq_true q183;go_wp2;go_ret
     exact ⟨by first | rfl | (simp; done) | (simp [*]; done), by repeat (first | exact Drawn0.refl _ | apply Drawn0.step)⟩
    ·rw [if_neg c5] at H;obtain ⟨c5b0, c5b1⟩ := eF c5;have H' := Aside0.mk H;clear H;have p183 : 0 ≤ (x5_1 : Int) := dA;have q183 : x5_1 < (l0.length : Int) := dA;obtain ⟨ad183, e183, hx183_0⟩ := Kd.at_int HR0.out x5_1 p183 q183;cases e183;replace p183 := eq_true p183;replace q183 := eq_true q183;go_wp2;go_roundg k1
     case measure => have := HK1.out; omega
     case rel => exact ⟨(wrap64 (x5_1 + 1)), rS, H', ⟨by have := HK1.out; omega⟩, by repeat (first | exact Drawn0.refl _ | apply Drawn0.step)⟩
   ·rw [if_neg c3] at H;have c3b0 := decide_eq_false c3;clear c3;obtain rfl := Option.some.inj H;go_wp2;go_ret
    exact ⟨by first | rfl | (simp; done) | (simp [*]; done), by repeat (first | exact Drawn0.refl _ | apply Drawn0.step)⟩
def spec_l11Word.f (a0 : Int) (a1 : Int) : Option (ByteArray × Int × Int × Int × Int × ByteArray × ByteArray) := some ((⟨#[]⟩ : ByteArray), a0, a1, 0, 0, (⟨#[]⟩ : ByteArray), (⟨#[]⟩ : ByteArray))
set_option maxHeartbeats 8000000 in
set_option maxRecDepth 100000 in
theorem spec_l11Word.calls (a0 : Int) (a1 : Int) (r1 : ByteArray) (r2 : Int) (r3 : Int) (r4 : Int) (r5 : Int) (r6 : ByteArray) (r7 : ByteArray) (w : World) (h : spec_l11Word.f a0 a1 = some (r1, r2, r3, r4, r5, r6, r7)) :
 Calls Try.prog 87 #[.int .i64 a0, .int .i64 a1] w fun e w' => e = .returned (.agg #[.string r1, .int .i64 r2, .int .i64 r3, .int .i64 r4, .int .i64 r5, .string r6, .string r7]) ∧ Below w.heap.size w w' := by
 have hu110 := Try.underlying110;have hu75 := Try.underlying75;have HB := Aside0.mk (Below.refl w.heap.size w);have H : (some ((⟨#[]⟩ : ByteArray), a0, a1, 0, 0, (⟨#[]⟩ : ByteArray), (⟨#[]⟩ : ByteArray))) = some (r1, r2, r3, r4, r5, r6, r7) := h;clear h;simp only [Option.some.injEq, Prod.mk.injEq] at H;obtain ⟨rfl, rfl, rfl, rfl, rfl, rfl, rfl⟩ := H;go_enter Try.func87, Try.ntmps87
 go_wp2_with (first|((with_reducible refine gN 4 ?_);refine boxZ 4 #[.string (⟨#[]⟩ : ByteArray), .int .i64 0, .int .i64 0, .int .i64 0, .int .i64 0, .string (⟨#[]⟩ : ByteArray), .string (⟨#[]⟩ : ByteArray)] 110 ?_;intro gb184 hg w3 hbox hb;have BK184 := Aside0.mk (hbox);have GW184 := gS hg;have GE184 := gS hg;replace HB := sB hb;clear hb hbox hg;obtain ⟨hcz4_0, hcz4_1, hcz4_2, hcz4_3, hcz4_4, hcz4_5, hcz4_6, hfz4_0, hfz4_1, hfz4_2, hfz4_3, hfz4_4, hfz4_5, hfz4_6⟩ := cz7 BK184))
 refine bodyPost_ret (results_cell_row rfl _ _ gb184 110 #[.string (⟨#[]⟩ : ByteArray), .int .i64 a0, .int .i64 a1, .int .i64 0, .int .i64 0, .string (⟨#[]⟩ : ByteArray), .string (⟨#[]⟩ : ByteArray)] (0, 0) _ rfl (kS BK184 _) Try.underlying110 rfl (by kernel_rfl)) rfl ?_
 exact ⟨rE, cB⟩
def spec_l01In.f (a0 : Int) (a1 : Int) (a2 : Int) : Option (Bool) := if a0 ≥ a1 then (some (decide (a0 ≤ a2))) else (some false)
set_option maxHeartbeats 8000000 in
set_option maxRecDepth 100000 in
theorem spec_l01In.calls (a0 : Int) (a1 : Int) (a2 : Int) (r : Bool) (w : World) (h : spec_l01In.f a0 a1 a2 = some r) :
 Calls Try.prog 112 #[.int .i64 a0, .int .i64 a1, .int .i64 a2] w fun e w' => e = .returned (.bool r) ∧ Drawn0 w w' := by
 have H : (if a0 ≥ a1 then (some (decide (a0 ≤ a2))) else (some false)) = some r := h;clear h;by_cases c4 : a0 ≥ a1
 ·rw [if_pos c4] at H;have c4b0 : decide (a1 ≤ a0) = true := decide_eq_true c4;clear c4;obtain rfl := Option.some.inj H;go_enter Try.func112, Try.ntmps112;go_wp2;go_ret
  exact ⟨by first | rfl | (simp; done) | (simp [*]; done), by repeat (first | exact Drawn0.refl _ | apply Drawn0.step)⟩
 ·rw [if_neg c4] at H;have c4b0 : decide (a1 ≤ a0) = false := decide_eq_false c4;clear c4;obtain rfl := Option.some.inj H;go_enter Try.func112, Try.ntmps112;go_wp2;go_ret
  exact ⟨by first | rfl | (simp; done) | (simp [*]; done), by repeat (first | exact Drawn0.refl _ | apply Drawn0.step)⟩
def spec_ResultOf.f (a0 : Int) (a1 : Int) : Option (Int) := (spec_l01In.f a0 0 5).bind fun t185 => (if t185 = true then ((spec_l01In.f a1 0 65535).bind fun t186 => (if t186 = true then (some (wrap64 ((wrap64 (65536 * a0)) + a1))) else (some 0))) else (some 0))
set_option maxHeartbeats 8000000 in
set_option maxRecDepth 100000 in
theorem spec_ResultOf.calls (a0 : Int) (a1 : Int) (r : Int) (w : World) (h : spec_ResultOf.f a0 a1 = some r) :
 Calls Try.prog 88 #[.int .i64 a0, .int .i64 a1] w fun e w' => e = .returned (.int .i64 r) ∧ Drawn0 w w' := by
 have H : ((spec_l01In.f a0 0 5).bind fun t185 => (if t185 = true then ((spec_l01In.f a1 0 65535).bind fun t186 => (if t186 = true then (some (wrap64 ((wrap64 (65536 * a0)) + a1))) else (some 0))) else (some 0))) = some r := h
 clear h;replace H := bE H;obtain ⟨t185, A3, H⟩ := H;by_cases c4 : t185 = true
 ·subst c4;replace H := iT H;replace H := bE H;obtain ⟨t186, A5, H⟩ := H;by_cases c6 : t186 = true
  ·subst c6;replace H := iT H;obtain rfl := Option.some.inj H;go_enter Try.func88, Try.ntmps88
   go_wp2_with (first|((with_reducible refine gF 112 ?_);refine goZ (some 6) Try.func112 #[.int .i64 a0, .int .i64 0, .int .i64 5] ?_;(with_reducible refine (spec_l01In.calls a0 0 5 true _ A3.out).mono ?_);rintro e w' ⟨rfl, ⟨nd, rfl⟩⟩;refine ⟨_, rfl, ?_⟩)|(go_at_call 112;(with_reducible refine (spec_l01In.calls a1 0 65535 true _ A5.out).mono ?_);rintro e w' ⟨rfl, ⟨nd, rfl⟩⟩))
   go_ret
   exact ⟨by first | rfl | (simp; done) | (simp [*]; done), by repeat (first | exact Drawn0.refl _ | apply Drawn0.step)⟩
  ·replace c6 := Bool.eq_false_iff.mpr c6;subst c6;replace H := iF H;obtain rfl := Option.some.inj H;go_enter Try.func88, Try.ntmps88
   go_wp2_with (first|((with_reducible refine gF 112 ?_);refine goZ (some 6) Try.func112 #[.int .i64 a0, .int .i64 0, .int .i64 5] ?_;(with_reducible refine (spec_l01In.calls a0 0 5 true _ A3.out).mono ?_);rintro e w' ⟨rfl, ⟨nd, rfl⟩⟩;refine ⟨_, rfl, ?_⟩)|(go_at_call 112;(with_reducible refine (spec_l01In.calls a1 0 65535 false _ A5.out).mono ?_);rintro e w' ⟨rfl, ⟨nd, rfl⟩⟩))
   go_ret
   exact ⟨by first | rfl | (simp; done) | (simp [*]; done), by repeat (first | exact Drawn0.refl _ | apply Drawn0.step)⟩
 ·replace c4 := Bool.eq_false_iff.mpr c4;subst c4;replace H := iF H;obtain rfl := Option.some.inj H;go_enter Try.func88, Try.ntmps88
  go_wp2_with (first|((with_reducible refine gF 112 ?_);refine goZ (some 6) Try.func112 #[.int .i64 a0, .int .i64 0, .int .i64 5] ?_;(with_reducible refine (spec_l01In.calls a0 0 5 false _ A3.out).mono ?_);rintro e w' ⟨rfl, ⟨nd, rfl⟩⟩;refine ⟨_, rfl, ?_⟩))
  go_ret
  exact ⟨by first | rfl | (simp; done) | (simp [*]; done), by repeat (first | exact Drawn0.refl _ | apply Drawn0.step)⟩
def spec_l01Figure.f (a0 : Int) : Option (Int) := if a0 < 10 then (some ((wrap64 (48 + a0)) % 256)) else (some ((wrap64 ((wrap64 (97 + a0)) - 10)) % 256))
set_option maxHeartbeats 8000000 in
set_option maxRecDepth 100000 in
theorem spec_l01Figure.calls (a0 : Int) (r : Int) (w : World) (h : spec_l01Figure.f a0 = some r) :
 Calls Try.prog 158 #[.int .i64 a0] w fun e w' => e = .returned (.int .u8 r) ∧ Drawn0 w w' := by
 have H : (if a0 < 10 then (some ((wrap64 (48 + a0)) % 256)) else (some ((wrap64 ((wrap64 (97 + a0)) - 10)) % 256))) = some r := h;clear h;by_cases c2 : a0 < 10
 ·rw [if_pos c2] at H;have c2b0 := decide_eq_true c2;clear c2;obtain rfl := Option.some.inj H;go_enter Try.func158, Try.ntmps158;go_wp2;go_ret
  exact ⟨by first | rfl | (simp; done) | (simp [*]; done), by repeat (first | exact Drawn0.refl _ | apply Drawn0.step)⟩
 ·rw [if_neg c2] at H;have c2b0 := decide_eq_false c2;clear c2;obtain rfl := Option.some.inj H;go_enter Try.func158, Try.ntmps158;go_wp2;go_ret
  exact ⟨by first | rfl | (simp; done) | (simp [*]; done), by repeat (first | exact Drawn0.refl _ | apply Drawn0.step)⟩
end Go.Proofs.Ytcmcpmkihpdnjaa.PFnExactChainLines
