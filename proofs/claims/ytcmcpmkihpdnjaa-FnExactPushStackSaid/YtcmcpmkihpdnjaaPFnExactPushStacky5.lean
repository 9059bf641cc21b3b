import Derived.Test.YtcmcpmkihpdnjaaPFnExactPushStacky0
import Derived.Test.YtcmcpmkihpdnjaaPFnExactPushStacky4
namespace Go.Proofs.Ytcmcpmkihpdnjaa.PFnExactPushStack
open Go.RowKit Go.Proofs.YtcmcpmkihpdnjaaW.PrintWords Go.Proofs.YtcmcpmkihpdnjaaW.PrintLast Go.Proofs.YtcmcpmkihpdnjaaW.PrintMore Go.Proofs.YtcmcpmkihpdnjaaW.Z
attribute [local go_sem] isS max2_int min2_int max_two min_two max_three min_three max_four min_four
set_option linter.unusedVariables false
set_option linter.unusedSimpArgs false
def laws_eqInsSS.l0 : Nat → List (List (S75)) → List (List (S75)) → Int → Option (Bool)
  | 0, _, _, _ => none
  | k + 1, x0, x1, x5 => if x5 < (x0.length : Int) then (if 0 ≤ x5 then (if x5 < (x1.length : Int) then ((laws_eqInsS.f k (rd_L4 x0 x5) (rd_L4 x1 x5)).bind fun t228 => (if t228 = true then (laws_eqInsSS.l0 k x0 x1 (wrap64 (x5 + 1))) else (some false))) else (none)) else (none)) else (some true)
def laws_eqInsSS.f (k : Nat) (l0 : List (List (S75))) (l1 : List (List (S75))) : Option (Bool) := if (l0.length : Int) = (l1.length : Int) then (laws_eqInsSS.l0 k l0 l1 0) else (some false)
def laws_eqInsSS.T6 : Bool × List (List Nat × List Nat) := (true, [([], []), ([], []), ([0, 1], [0, 1]), ([2], [2]), ([], []), ([], []), ([4, 5], [4, 5]), ([6], [6]), ([3, 7], [3, 7]), ([8], [8])])
def laws_eqInsSS.B6 : List Nat := [0, 0, 3, 7, 0, 0, 48, 112, 255, 511]
theorem laws_eqInsSS.tab6 : rtab .any (opsOf Try.f18 6) = laws_eqInsSS.T6 := by kernel_rfl
theorem laws_eqInsSS.bits6 : waitsOk laws_eqInsSS.T6.2 laws_eqInsSS.B6 = true := by kernel_rfl
theorem q5x0 {P : Prop} (h : P := by 
 rintro w' ⟨s0, s1⟩
 go_simp
 with_reducible rfl) : P := h
set_option maxHeartbeats 8000000 in
set_option maxRecDepth 100000 in
theorem laws_eqInsSS.calls (k : Nat) (A0 : Option Addr) (c0 : Nat) (l0 : List (List (S75))) (A1 : Option Addr) (c1 : Nat) (l1 : List (List (S75))) (r : Bool) (w : World) (hr0 : Kd.C (Kd.slice 75 k75) w A0 l0.length l0) (hc0 : l0.length ≤ c0) (hr1 : Kd.C (Kd.slice 75 k75) w A1 l1.length l1) (hc1 : l1.length ≤ c1) (h : laws_eqInsSS.f k l0 l1 = some r) :
 Calls Try.prog 18 #[.slice A0 l0.length c0, .slice A1 l1.length c1] w fun e w' => e = .returned (.bool r) ∧ Below w.heap.size w w' := by
 have HR0 := Aside0.mk hr0;have HC0 := Aside0.mk hc0;clear hr0 hc0;have HR1 := Aside0.mk hr1;have HC1 := Aside0.mk hc1;clear hr1 hc1;have HB := Aside0.mk (Below.refl w.heap.size w);have H : (if (l0.length : Int) = (l1.length : Int) then (laws_eqInsSS.l0 k l0 l1 0) else (some false)) = some r := h;clear h;by_cases c3 : (l0.length : Int) = (l1.length : Int)
 ·rw [if_pos c3] at H;obtain ⟨c3b0, c3b1⟩ := eT c3
  have c3b2 : (l0.length == l1.length) = true := by first | simpa using c3 | (simp at c3 ⊢; omega)
  clear c3;have H' := Aside0.mk H;clear H;go_enter Try.func18, Try.ntmps18;go_wp2
  go_loopg [5] k (fun kq v5 w' => ∃ (x5_1 : Int), v5 = .int .i64 x5_1 ∧ Aside0 (laws_eqInsSS.l0 kq l0 l1 x5_1 = some r) ∧ Aside0 (kq ≤ k) ∧ Aside0 (Below w.heap.size w w'))
  case atStart => exact ⟨(0), rS, H', ⟨Nat.le_refl _⟩, ⟨cB⟩⟩
  case round =>
   clear H';(try clear c1);(try clear c3);(try clear c3b0);(try clear c3b1);(try clear c3b2);obtain ⟨x5_1, rfl, HA, HK1, HB⟩ := hrel
   cases gk with
   | zero => exact absurd HA.out (by simp [laws_eqInsSS.l0])
   | succ k1 =>
    have H := HA.out;clear HA;simp only [laws_eqInsSS.l0] at H;by_cases c4 : x5_1 < (l0.length : Int)
    ·rw [if_pos c4] at H;have c4b0 := decide_eq_true c4;clear c4;replace H := gD H;obtain ⟨c5b0, H⟩ := H;replace H := gD H;obtain ⟨c6b0, H⟩ := H;replace H := bE H;obtain ⟨t228, A7, H⟩ := H;by_cases c8 : t228 = true
     ·subst c8;replace H := iT H;have H' := Aside0.mk H;clear H
      try go_wp2
      replace HB := Aside0.mk (below_drew1 HB.out);have p226 : 0 ≤ (x5_1 : Int) := dA;have q226 : x5_1 < (l0.length : Int) := dA;obtain ⟨ad226, A226_0, c226_0, e226, hx226_0, hl226_0, hi226_0⟩ := at_L4 HR0.out x5_1 p226 q226;have hw226_0 := hx226_0;cases e226;replace hx226_0 := (bc HB hx226_0 :);have HR226_0 := Aside0.mk hi226_0;have HC226_0 := Aside0.mk hl226_0;clear hi226_0 hl226_0;replace p226 := eq_true p226;replace q226 := eq_true q226;have p227 : 0 ≤ (x5_1 : Int) := dA;have q227 : x5_1 < (l1.length : Int) := dA;obtain ⟨ad227, A227_0, c227_0, e227, hx227_0, hl227_0, hi227_0⟩ := at_L4 HR1.out x5_1 p227 q227;have hw227_0 := hx227_0;cases e227;replace hx227_0 := (bc HB hx227_0 :);have HR227_0 := Aside0.mk hi227_0;have HC227_0 := Aside0.mk hl227_0;clear hi227_0 hl227_0;replace p227 := eq_true p227;replace q227 := eq_true q227
      refine start_ (n := 10) (S := fun w' => w'.cell? (ad226.add (x5_1).toNat) = some (.slice A226_0 (rd_L4 l0 x5_1).length c226_0) ∧ w'.cell? (ad227.add (x5_1).toNat) = some (.slice A227_0 (rd_L4 l1 x5_1).length c227_0)) (ds := []) #[false, false, false, false, false, false, false, false, false, false] (by kernel_rfl) rfl rfl ⟨((bc HB hw226_0 :)), ((bc HB hw227_0 :))⟩ (fun hHeld => ?_); refine with_tabW laws_eqInsSS.tab6 laws_eqInsSS.bits6 (fun HT_ HW_ => ?_)
      generalize wr.drew = w9 at HB HR226_0 HR227_0 hx226_0 hx227_0 hHeld ⊢;refine pureZ 0 (some 17) (msk 10 1) HT_.out ?_;refine pureZ 1 (some 18) (msk 10 3) HT_.out ?_;refine pureZ 2 (some 19) (msk 10 7) HT_.out ?_;refine pureZ 4 (some 21) (msk 10 23) HT_.out ?_;refine pureZ 5 (some 22) (msk 10 55) HT_.out ?_;refine pureZ 6 (some 23) (msk 10 119) HT_.out ?_;refine takeZ 3 (some 20) (msk 10 127) HT_.out HW_.out hHeld (hy := q5x0) (h := ?_);refine takeZ 7 (some 24) (msk 10 255) HT_.out HW_.out hHeld (hy := q5x0) (h := ?_)
      refine one_Z 8 (some 25) (msk 10 511) HT_.out fun K hK => ?_
      refine goes_ Try.func19 (by kernel_rfl) rfl #[.slice A226_0 (rd_L4 l0 x5_1).length c226_0, .slice A227_0 (rd_L4 l1 x5_1).length c227_0] (by rfl) rfl rfl (by (try simp only [List.map_toArray, List.map_cons, List.map_nil]); first | done | rfl | (simp only [List.length_drop, List.length_take]; rfl)) ?_
      with_reducible refine (laws_eqInsS.calls k1 _ _ (rd_L4 l0 x5_1) _ _ (rd_L4 l1 x5_1) true _ ?side1 ?side2 ?side3 ?side4 A7.out).mono ?_
      (case side1 => exact cC (Kd.C_below HR226_0.out HB.out))
      (case side2 => exact HC226_0.out)
      (case side3 => exact cC (Kd.C_below HR227_0.out HB.out))
      (case side4 => exact HC227_0.out)
      rintro e w10 ⟨rfl, hb⟩;refine ⟨_, rfl, ?_⟩;replace HB := sB hb;(try clear hb)
      refine hK.out _ _ ⟨((bc HB hw226_0 :)), ((bc HB hw227_0 :))⟩ (fun hHeld => ?_)
      clear hK K;refine normZ (some 25) ?_
      refine pureZ 9 (some 26) (msk 10 1023) HT_.out ?_
      refine done_ (done_of HT_.out (by kernel_rfl)) ?_
      try go_wp2
      go_roundg k1
      case measure => have := HK1.out; omega
      case rel => exact ⟨(wrap64 (x5_1 + 1)), rS, H', ⟨by have := HK1.out; omega⟩, ⟨cB⟩⟩
     ·replace c8 := Bool.eq_false_iff.mpr c8;subst c8;replace H := iF H;obtain rfl := Option.some.inj H
      try go_wp2
      replace HB := Aside0.mk (below_drew1 HB.out);have p226 : 0 ≤ (x5_1 : Int) := dA;have q226 : x5_1 < (l0.length : Int) := dA;obtain ⟨ad226, A226_0, c226_0, e226, hx226_0, hl226_0, hi226_0⟩ := at_L4 HR0.out x5_1 p226 q226;have hw226_0 := hx226_0;cases e226;replace hx226_0 := (bc HB hx226_0 :);have HR226_0 := Aside0.mk hi226_0;have HC226_0 := Aside0.mk hl226_0;clear hi226_0 hl226_0;replace p226 := eq_true p226;replace q226 := eq_true q226;have p227 : 0 ≤ (x5_1 : Int) := dA;have q227 : x5_1 < (l1.length : Int) := dA;obtain ⟨ad227, A227_0, c227_0, e227, hx227_0, hl227_0, hi227_0⟩ := at_L4 HR1.out x5_1 p227 q227;have hw227_0 := hx227_0;cases e227;replace hx227_0 := (bc HB hx227_0 :);have HR227_0 := Aside0.mk hi227_0;have HC227_0 := Aside0.mk hl227_0;clear hi227_0 hl227_0;replace p227 := eq_true p227;replace q227 := eq_true q227
      refine start_ (n := 10) (S := fun w' => w'.cell? (ad226.add (x5_1).toNat) = some (.slice A226_0 (rd_L4 l0 x5_1).length c226_0) ∧ w'.cell? (ad227.add (x5_1).toNat) = some (.slice A227_0 (rd_L4 l1 x5_1).length c227_0)) (ds := []) #[false, false, false, false, false, false, false, false, false, false] (by kernel_rfl) rfl rfl ⟨((bc HB hw226_0 :)), ((bc HB hw227_0 :))⟩ (fun hHeld => ?_); refine with_tabW laws_eqInsSS.tab6 laws_eqInsSS.bits6 (fun HT_ HW_ => ?_)
      generalize wr.drew = w11 at HB HR226_0 HR227_0 hx226_0 hx227_0 hHeld ⊢;refine pureZ 0 (some 17) (msk 10 1) HT_.out ?_;refine pureZ 1 (some 18) (msk 10 3) HT_.out ?_;refine pureZ 2 (some 19) (msk 10 7) HT_.out ?_;refine pureZ 4 (some 21) (msk 10 23) HT_.out ?_;refine pureZ 5 (some 22) (msk 10 55) HT_.out ?_;refine pureZ 6 (some 23) (msk 10 119) HT_.out ?_;refine takeZ 3 (some 20) (msk 10 127) HT_.out HW_.out hHeld (hy := q5x0) (h := ?_);refine takeZ 7 (some 24) (msk 10 255) HT_.out HW_.out hHeld (hy := q5x0) (h := ?_)
      refine one_Z 8 (some 25) (msk 10 511) HT_.out fun K hK => ?_
      refine goes_ Try.func19 (by kernel_rfl) rfl #[.slice A226_0 (rd_L4 l0 x5_1).length c226_0, .slice A227_0 (rd_L4 l1 x5_1).length c227_0] (by rfl) rfl rfl (by (try simp only [List.map_toArray, List.map_cons, List.map_nil]); first | done | rfl | (simp only [List.length_drop, List.length_take]; rfl)) ?_
      with_reducible refine (laws_eqInsS.calls k1 _ _ (rd_L4 l0 x5_1) _ _ (rd_L4 l1 x5_1) false _ ?side1 ?side2 ?side3 ?side4 A7.out).mono ?_
      (case side1 => exact cC (Kd.C_below HR226_0.out HB.out))
      (case side2 => exact HC226_0.out)
      (case side3 => exact cC (Kd.C_below HR227_0.out HB.out))
      (case side4 => exact HC227_0.out)
      rintro e w12 ⟨rfl, hb⟩;refine ⟨_, rfl, ?_⟩;replace HB := sB hb;(try clear hb)
      refine hK.out _ _ ⟨((bc HB hw226_0 :)), ((bc HB hw227_0 :))⟩ (fun hHeld => ?_)
      clear hK K;refine normZ (some 25) ?_
      refine pureZ 9 (some 26) (msk 10 1023) HT_.out ?_
      refine done_ (done_of HT_.out (by kernel_rfl)) ?_
      try go_wp2
      go_ret;exact ⟨rE, cB⟩
    ·rw [if_neg c4] at H;have c4b0 := decide_eq_false c4;clear c4;obtain rfl := Option.some.inj H;go_wp2;go_ret;exact ⟨rE, cB⟩
 ·rw [if_neg c3] at H;obtain ⟨c3b0, c3b1⟩ := eF c3
  have c3b2 : (l0.length == l1.length) = false := by first | simpa using c3 | (simp at c3 ⊢; omega)
  obtain rfl := Option.some.inj H;go_enter Try.func18, Try.ntmps18;go_wp2;go_ret;exact ⟨rE, cB⟩
def laws_markInsS.l0 : Nat → List (S75) → Int → Int → Option (Int × (List (S75)))
  | 0, _, _, _ => none
  | k + 1, x0, x1, x5 => if x5 < (x0.length : Int) then (if 0 ≤ x5 then ((some (x0.set (x5 : Int).toNat (⟨x1, (rd_T75 x0 x5).f1, (rd_T75 x0 x5).f2, (rd_T75 x0 x5).f3⟩ : S75) : List (S75))).bind fun y229 => ((some (y229.set (x5 : Int).toNat (⟨(rd_T75 y229 x5).f0, wrap64 (x1 + 1), (rd_T75 y229 x5).f2, (rd_T75 y229 x5).f3⟩ : S75) : List (S75))).bind fun y230 => ((some (y230.set (x5 : Int).toNat (⟨(rd_T75 y230 x5).f0, (rd_T75 y230 x5).f1, wrap64 ((wrap64 (x1 + 1)) + 1), (rd_T75 y230 x5).f3⟩ : S75) : List (S75))).bind fun y231 => (laws_markInsS.l0 k (y231.set (x5 : Int).toNat (⟨(rd_T75 y231 x5).f0, (rd_T75 y231 x5).f1, (rd_T75 y231 x5).f2, wrap64 ((wrap64 ((wrap64 (x1 + 1)) + 1)) + 1)⟩ : S75)) (wrap64 ((wrap64 ((wrap64 ((wrap64 (x1 + 1)) + 1)) + 1)) + 1)) (wrap64 (x5 + 1)))))) else (none)) else (some (x1, x0))
def laws_markInsS.f (k : Nat) (l0 : List (S75)) (a1 : Int) : Option (Int × (List (S75))) := laws_markInsS.l0 k l0 a1 0
theorem q5x1 {P : Prop} (h : P := by repeat (first | (with_reducible first | exact HK.out | apply Kept.alloc | apply Kept.drewN | apply Kept.drew) | exact HK.out)) : P := h
set_option maxHeartbeats 8000000 in
set_option maxRecDepth 100000 in
theorem laws_markInsS.calls (k : Nat) (P0_ : Nat → Prop) (u9000_ : Value) (l0 : List (S75)) (a1 : Int) (r1 : Int) (r2 : List (S75)) (w0 w : World) (hB : Below w0.heap.size w0 w) (ho0 : Kd.R k75 75 w w0.heap.size P0_ u9000_ l0) (h : laws_markInsS.f k l0 a1 = some (r1, r2)) :
 Calls Try.prog 21 #[u9000_, .int .i64 a1] w fun e w' => e = .returned (.int .i64 r1) ∧ Kd.R k75 75 w' w0.heap.size (fun k_ => (P0_ k_ ∨ w.heap.size ≤ k_)) u9000_ r2 ∧ Below w0.heap.size w0 w' ∧ Kept w w' (fun k_ => P0_ k_) := by
 have HO0 := Aside0.mk (show Kd.R k75 75 w w0.heap.size (fun k_ => (P0_ k_ ∨ w.heap.size ≤ k_)) u9000_ l0 from Kd.R_mono ho0 (fun k_ hk => (.inl hk)))
 have HK := Aside0.mk (Kept.refl w (fun k_ => P0_ k_))
 have HW0 := Aside0.mk hB.size;have HB := Aside0.mk hB;clear hB;have H : (laws_markInsS.l0 k l0 a1 0) = some (r1, r2) := h;clear h;have H' := Aside0.mk H;clear H;go_enter Try.func21, Try.ntmps21;go_wp2
 go_loopg [1, 5] k (fun kq v1 v5 w' => ∃ (x0_1 : List (S75)) (x1_1 : Int) (x5_1 : Int), v1 = .int .i64 x1_1 ∧ v5 = .int .i64 x5_1 ∧ Aside0 (laws_markInsS.l0 kq x0_1 x1_1 x5_1 = some (r1, r2)) ∧ Aside0 (kq ≤ k) ∧ Aside0 (Kd.R k75 75 w' w0.heap.size (fun k_ => (P0_ k_ ∨ w.heap.size ≤ k_)) u9000_ x0_1) ∧ Aside0 (Kept w w' (fun k_ => P0_ k_)) ∧ Aside0 (Below w0.heap.size w0 w'))
 case atStart => exact ⟨(l0), (a1), (0), rS, rS, H', ⟨Nat.le_refl _⟩, ⟨mR HO0⟩, ⟨q5x1⟩, ⟨cB⟩⟩
 case round =>
  clear H';obtain ⟨x0_1, x1_1, x5_1, rfl, rfl, HA, HK1, HO_0, HK, HB⟩ := hrel
  cases gk with
  | zero => exact absurd HA.out (by simp [laws_markInsS.l0])
  | succ k1 =>
   have H := HA.out;clear HA;simp only [laws_markInsS.l0] at H;by_cases c3 : x5_1 < (x0_1.length : Int)
   ·rw [if_pos c3] at H;have c3b0 := decide_eq_true c3;clear c3;replace H := gD H;obtain ⟨c4b0, H⟩ := H;replace H := nE H;obtain ⟨y229, Ny229, H⟩ := H;replace H := nE H;obtain ⟨y230, Ny230, H⟩ := H;replace H := nE H;obtain ⟨y231, Ny231, H⟩ := H;obtain ⟨y232, Ny232⟩ : ∃ y_ : List (S75), Aside0 (y_ = (y231.set (x5_1 : Int).toNat (⟨(rd_T75 y231 x5_1).f0, (rd_T75 y231 x5_1).f1, (rd_T75 y231 x5_1).f2, wrap64 ((wrap64 ((wrap64 (x1_1 + 1)) + 1)) + 1)⟩ : S75))) := ⟨_, ⟨rfl⟩⟩;rw [← Ny232.out] at H;have H' := Aside0.mk H;clear H;obtain ⟨Ao9, co9, eo9⟩ := Kd.R_slice HO_0.out;subst eo9;have p5 : 0 ≤ (x5_1 : Int) := dA;have q5 : (x5_1 : Int) < ((x0_1.length : Int) : Int) := dA
    obtain ⟨go5, co5, eo5, gb5, gl5, cl5, HG5⟩ := Kd.R_form HO_0.out (by omega)
    (first | cases eo5 | (injection eo5 with ea_ en_ ec_; (first | subst ea_ | (injection ea_ with ea_; subst ea_)); subst ec_; clear en_))
    have GB5 := Aside0.mk gb5;have GG5 := Aside0.mk HG5;clear gb5 gl5 HG5;have HMgo5 := Aside0.mk (show (P0_ go5 ∨ w.heap.size ≤ go5) from (HO_0.out.1 _ rfl));obtain ⟨ce5, hcl5, hM5, hcc5, hfr5⟩ := Kd.R_elem HO_0.out z75 (x5_1 : Int) p5 q5;obtain rfl := k75_openM hM5;have hx5_0 : wr.cell? ⟨go5, (x5_1 : Int).toNat * 4, none⟩ = some (.int .i64 ((rd_T75 x0_1 x5_1).f0)) := hcc5 0 _ rfl;have hx5_1 : wr.cell? ⟨go5, (x5_1 : Int).toNat * 4 + 1, none⟩ = some (.int .i64 ((rd_T75 x0_1 x5_1).f1)) := hcc5 1 _ rfl;have hx5_2 : wr.cell? ⟨go5, (x5_1 : Int).toNat * 4 + 2, none⟩ = some (.int .i64 ((rd_T75 x0_1 x5_1).f2)) := hcc5 2 _ rfl;have hx5_3 : wr.cell? ⟨go5, (x5_1 : Int).toNat * 4 + 3, none⟩ = some (.int .i64 ((rd_T75 x0_1 x5_1).f3)) := hcc5 3 _ rfl;have hf5_0 : wr.frozen? ⟨go5, (x5_1 : Int).toNat * 4, none⟩ = false := hfr5 0;have hf5_1 : wr.frozen? ⟨go5, (x5_1 : Int).toNat * 4 + 1, none⟩ = false := hfr5 1;have hf5_2 : wr.frozen? ⟨go5, (x5_1 : Int).toNat * 4 + 2, none⟩ = false := hfr5 2;have hf5_3 : wr.frozen? ⟨go5, (x5_1 : Int).toNat * 4 + 3, none⟩ = false := hfr5 3;clear hcl5 hcc5 hfr5;(try clear hM5);replace p5 := eq_true p5;replace q5 := eq_true q5
    have HX10 := Aside0.mk (show Kd.R k75 75 wr w0.heap.size (fun k_ => (P0_ k_ ∨ w.heap.size ≤ k_)) (.slice (some ⟨go5, 0, none⟩) x0_1.length co9) x0_1 from (mR HO_0))
    obtain ⟨ce10, hcl10, hM10, hcc10, hfr10⟩ := Kd.R_elem HX10.out z75 (x5_1 : Int) (dA) (by have h_ : (x5_1 : Int) < ((x0_1.length : Int) : Int) := dA; first | exact h_ | (have e_ := (Kd.R_reads' HO_0.out).1; omega) | simpa using h_)
    obtain rfl := k75_openM hM10
    have HP10 := Kd.R_seg HX10.out (x5_1 : Int) (dA) (by have h_ : (x5_1 : Int) < ((x0_1.length : Int) : Int) := dA; first | exact h_ | (have e_ := (Kd.R_reads' HO_0.out).1; omega) | simpa using h_) (seg := [.int .i64 x1_1]) (j := 0) hcl10 hcc10 (show 1 ≤ 4 from by decide) (x' := (⟨x1_1, (rd_T75 x0_1 x5_1).f1, (rd_T75 x0_1 x5_1).f2, (rd_T75 x0_1 x5_1).f3⟩ : S75)) (k75_mkM _ _ _ (⟨x1_1, (rd_T75 x0_1 x5_1).f1, (rd_T75 x0_1 x5_1).f2, (rd_T75 x0_1 x5_1).f3⟩ : S75) ) (fun _ hk => hk)
    have hx10_0 := hcc10 0 _ rfl;(try simp only [show (k75).sz = 4 from rfl, Nat.mul_one, Nat.add_zero] at hx10_0);have hf10_0 := hfr10 0;(try simp only [show (k75).sz = 4 from rfl, Nat.mul_one, Nat.add_zero] at hf10_0);clear hcl10 hcc10 hfr10;(try clear hM10)
    go_wp2_with (first|((with_reducible refine gate_store (t := 3) (p := 16) rfl ?_);refine store_event (t := 3) (p := 16) (v := ?vo_w11) (w1 := (wr.setCell ⟨go5, (x5_1 : Int).toNat * 4, none⟩ (.int .i64 x1_1))) ?hg ?ho ?hn ?hr ?_;(case ho => rfl);(case hg => rfl);(case hn => rfl);(case hr => exact rG);intro w11 hw;have hg : wr.grownBy w11 (some go5) := (by rw [hw]; exact HP10.2);have hp_ : Kd.R k75 75 w11 w0.heap.size (fun k_ => (P0_ k_ ∨ w.heap.size ≤ k_)) (.slice (some ⟨go5, 0, none⟩) x0_1.length co9) y229 := (by rw [hw, Ny229.out]; exact HP10.1);clear HP10;replace HB := Aside0.mk ((by rw [hw]; exact below_set (HB.out) GB5.out : Below w0.heap.size w0 w11));replace HK := Aside0.mk (Kept.of_grown (S := (fun k_ => P0_ k_)) hg q5x1 (fun k_ e_ => (HO_0.out.1 k_ e_)));replace HO_0 := Aside0.mk (hp_);clear hg hw hp_;have p6 : 0 ≤ (x5_1 : Int) := dA;have q6 : (x5_1 : Int) < ((x0_1.length : Int) : Int) := dA;obtain ⟨ce6, hcl6, hM6, hcc6, hfr6⟩ := Kd.R_elem HO_0.out z75 (x5_1 : Int) p6 q6;obtain rfl := k75_openM hM6;have hx6_0 : w11.cell? ⟨go5, (x5_1 : Int).toNat * 4, none⟩ = some (.int .i64 ((rd_T75 y229 x5_1).f0)) := hcc6 0 _ rfl;have hx6_1 : w11.cell? ⟨go5, (x5_1 : Int).toNat * 4 + 1, none⟩ = some (.int .i64 ((rd_T75 y229 x5_1).f1)) := hcc6 1 _ rfl;have hx6_2 : w11.cell? ⟨go5, (x5_1 : Int).toNat * 4 + 2, none⟩ = some (.int .i64 ((rd_T75 y229 x5_1).f2)) := hcc6 2 _ rfl;have hx6_3 : w11.cell? ⟨go5, (x5_1 : Int).toNat * 4 + 3, none⟩ = some (.int .i64 ((rd_T75 y229 x5_1).f3)) := hcc6 3 _ rfl;have hf6_0 : w11.frozen? ⟨go5, (x5_1 : Int).toNat * 4, none⟩ = false := hfr6 0;have hf6_1 : w11.frozen? ⟨go5, (x5_1 : Int).toNat * 4 + 1, none⟩ = false := hfr6 1;have hf6_2 : w11.frozen? ⟨go5, (x5_1 : Int).toNat * 4 + 2, none⟩ = false := hfr6 2;have hf6_3 : w11.frozen? ⟨go5, (x5_1 : Int).toNat * 4 + 3, none⟩ = false := hfr6 3;clear hcl6 hcc6 hfr6;(try clear hM6);replace p6 := eq_true p6;replace q6 := eq_true q6;have HX12 := Aside0.mk (show Kd.R k75 75 w11 w0.heap.size (fun k_ => (P0_ k_ ∨ w.heap.size ≤ k_)) (.slice (some ⟨go5, 0, none⟩) x0_1.length co9) y229 from (mR HO_0));obtain ⟨ce12, hcl12, hM12, hcc12, hfr12⟩ := Kd.R_elem HX12.out z75 (x5_1 : Int) (dA) (by have h_ : (x5_1 : Int) < ((x0_1.length : Int) : Int) := dA; first | exact h_ | (have e_ := (Kd.R_reads' HO_0.out).1; omega) | simpa using h_);obtain rfl := k75_openM hM12;have HP12 := Kd.R_seg HX12.out (x5_1 : Int) (dA) (by have h_ : (x5_1 : Int) < ((x0_1.length : Int) : Int) := dA; first | exact h_ | (have e_ := (Kd.R_reads' HO_0.out).1; omega) | simpa using h_) (seg := [.int .i64 (wrap64 (x1_1 + 1))]) (j := 1) hcl12 hcc12 (show 2 ≤ 4 from by decide) (x' := (⟨(rd_T75 y229 x5_1).f0, wrap64 (x1_1 + 1), (rd_T75 y229 x5_1).f2, (rd_T75 y229 x5_1).f3⟩ : S75)) (k75_mkM _ _ _ (⟨(rd_T75 y229 x5_1).f0, wrap64 (x1_1 + 1), (rd_T75 y229 x5_1).f2, (rd_T75 y229 x5_1).f3⟩ : S75) ) (fun _ hk => hk);have hx12_1 := hcc12 1 _ rfl;(try simp only [show (k75).sz = 4 from rfl, Nat.mul_one, Nat.add_zero] at hx12_1);have hf12_1 := hfr12 1;(try simp only [show (k75).sz = 4 from rfl, Nat.mul_one, Nat.add_zero] at hf12_1);clear hcl12 hcc12 hfr12;(try clear hM12))|((with_reducible refine gate_store (t := 3) (p := 23) rfl ?_);refine store_event (t := 3) (p := 23) (v := ?vo_w13) (w1 := (w11.setCell ⟨go5, (x5_1 : Int).toNat * 4 + 1, none⟩ (.int .i64 (wrap64 (x1_1 + 1))))) ?hg ?ho ?hn ?hr ?_;(case ho => rfl);(case hg => rfl);(case hn => rfl);(case hr => exact rG);intro w13 hw;have hg : w11.grownBy w13 (some go5) := (by rw [hw]; exact HP12.2);have hp_ : Kd.R k75 75 w13 w0.heap.size (fun k_ => (P0_ k_ ∨ w.heap.size ≤ k_)) (.slice (some ⟨go5, 0, none⟩) x0_1.length co9) y230 := (by rw [hw, Ny230.out]; exact HP12.1);clear HP12;replace HB := Aside0.mk ((by rw [hw]; exact below_set (HB.out) GB5.out : Below w0.heap.size w0 w13));replace HK := Aside0.mk (Kept.of_grown (S := (fun k_ => P0_ k_)) hg q5x1 (fun k_ e_ => (HO_0.out.1 k_ e_)));replace HO_0 := Aside0.mk (hp_);clear hg hw hp_;have p7 : 0 ≤ (x5_1 : Int) := dA;have q7 : (x5_1 : Int) < ((x0_1.length : Int) : Int) := dA;obtain ⟨ce7, hcl7, hM7, hcc7, hfr7⟩ := Kd.R_elem HO_0.out z75 (x5_1 : Int) p7 q7;obtain rfl := k75_openM hM7;have hx7_0 : w13.cell? ⟨go5, (x5_1 : Int).toNat * 4, none⟩ = some (.int .i64 ((rd_T75 y230 x5_1).f0)) := hcc7 0 _ rfl;have hx7_1 : w13.cell? ⟨go5, (x5_1 : Int).toNat * 4 + 1, none⟩ = some (.int .i64 ((rd_T75 y230 x5_1).f1)) := hcc7 1 _ rfl;have hx7_2 : w13.cell? ⟨go5, (x5_1 : Int).toNat * 4 + 2, none⟩ = some (.int .i64 ((rd_T75 y230 x5_1).f2)) := hcc7 2 _ rfl;have hx7_3 : w13.cell? ⟨go5, (x5_1 : Int).toNat * 4 + 3, none⟩ = some (.int .i64 ((rd_T75 y230 x5_1).f3)) := hcc7 3 _ rfl;have hf7_0 : w13.frozen? ⟨go5, (x5_1 : Int).toNat * 4, none⟩ = false := hfr7 0;have hf7_1 : w13.frozen? ⟨go5, (x5_1 : Int).toNat * 4 + 1, none⟩ = false := hfr7 1;have hf7_2 : w13.frozen? ⟨go5, (x5_1 : Int).toNat * 4 + 2, none⟩ = false := hfr7 2;have hf7_3 : w13.frozen? ⟨go5, (x5_1 : Int).toNat * 4 + 3, none⟩ = false := hfr7 3;clear hcl7 hcc7 hfr7;(try clear hM7);replace p7 := eq_true p7;replace q7 := eq_true q7;have HX14 := Aside0.mk (show Kd.R k75 75 w13 w0.heap.size (fun k_ => (P0_ k_ ∨ w.heap.size ≤ k_)) (.slice (some ⟨go5, 0, none⟩) x0_1.length co9) y230 from (mR HO_0));obtain ⟨ce14, hcl14, hM14, hcc14, hfr14⟩ := Kd.R_elem HX14.out z75 (x5_1 : Int) (dA) (by have h_ : (x5_1 : Int) < ((x0_1.length : Int) : Int) := dA; first | exact h_ | (have e_ := (Kd.R_reads' HO_0.out).1; omega) | simpa using h_);obtain rfl := k75_openM hM14;have HP14 := Kd.R_seg HX14.out (x5_1 : Int) (dA) (by have h_ : (x5_1 : Int) < ((x0_1.length : Int) : Int) := dA; first | exact h_ | (have e_ := (Kd.R_reads' HO_0.out).1; omega) | simpa using h_) (seg := [.int .i64 (wrap64 ((wrap64 (x1_1 + 1)) + 1))]) (j := 2) hcl14 hcc14 (show 3 ≤ 4 from by decide) (x' := (⟨(rd_T75 y230 x5_1).f0, (rd_T75 y230 x5_1).f1, wrap64 ((wrap64 (x1_1 + 1)) + 1), (rd_T75 y230 x5_1).f3⟩ : S75)) (k75_mkM _ _ _ (⟨(rd_T75 y230 x5_1).f0, (rd_T75 y230 x5_1).f1, wrap64 ((wrap64 (x1_1 + 1)) + 1), (rd_T75 y230 x5_1).f3⟩ : S75) ) (fun _ hk => hk);have hx14_2 := hcc14 2 _ rfl;(try simp only [show (k75).sz = 4 from rfl, Nat.mul_one, Nat.add_zero] at hx14_2);have hf14_2 := hfr14 2;(try simp only [show (k75).sz = 4 from rfl, Nat.mul_one, Nat.add_zero] at hf14_2);clear hcl14 hcc14 hfr14;(try clear hM14))|((with_reducible refine gate_store (t := 3) (p := 30) rfl ?_);refine store_event (t := 3) (p := 30) (v := ?vo_w15) (w1 := (w13.setCell ⟨go5, (x5_1 : Int).toNat * 4 + 2, none⟩ (.int .i64 (wrap64 ((wrap64 (x1_1 + 1)) + 1))))) ?hg ?ho ?hn ?hr ?_;(case ho => rfl);(case hg => rfl);(case hn => rfl);(case hr => exact rG);intro w15 hw;have hg : w13.grownBy w15 (some go5) := (by rw [hw]; exact HP14.2);have hp_ : Kd.R k75 75 w15 w0.heap.size (fun k_ => (P0_ k_ ∨ w.heap.size ≤ k_)) (.slice (some ⟨go5, 0, none⟩) x0_1.length co9) y231 := (by rw [hw, Ny231.out]; exact HP14.1);clear HP14;replace HB := Aside0.mk ((by rw [hw]; exact below_set (HB.out) GB5.out : Below w0.heap.size w0 w15));replace HK := Aside0.mk (Kept.of_grown (S := (fun k_ => P0_ k_)) hg q5x1 (fun k_ e_ => (HO_0.out.1 k_ e_)));replace HO_0 := Aside0.mk (hp_);clear hg hw hp_;have p8 : 0 ≤ (x5_1 : Int) := dA;have q8 : (x5_1 : Int) < ((x0_1.length : Int) : Int) := dA;obtain ⟨ce8, hcl8, hM8, hcc8, hfr8⟩ := Kd.R_elem HO_0.out z75 (x5_1 : Int) p8 q8;obtain rfl := k75_openM hM8;have hx8_0 : w15.cell? ⟨go5, (x5_1 : Int).toNat * 4, none⟩ = some (.int .i64 ((rd_T75 y231 x5_1).f0)) := hcc8 0 _ rfl;have hx8_1 : w15.cell? ⟨go5, (x5_1 : Int).toNat * 4 + 1, none⟩ = some (.int .i64 ((rd_T75 y231 x5_1).f1)) := hcc8 1 _ rfl;have hx8_2 : w15.cell? ⟨go5, (x5_1 : Int).toNat * 4 + 2, none⟩ = some (.int .i64 ((rd_T75 y231 x5_1).f2)) := hcc8 2 _ rfl;have hx8_3 : w15.cell? ⟨go5, (x5_1 : Int).toNat * 4 + 3, none⟩ = some (.int .i64 ((rd_T75 y231 x5_1).f3)) := hcc8 3 _ rfl;have hf8_0 : w15.frozen? ⟨go5, (x5_1 : Int).toNat * 4, none⟩ = false := hfr8 0;have hf8_1 : w15.frozen? ⟨go5, (x5_1 : Int).toNat * 4 + 1, none⟩ = false := hfr8 1;have hf8_2 : w15.frozen? ⟨go5, (x5_1 : Int).toNat * 4 + 2, none⟩ = false := hfr8 2;have hf8_3 : w15.frozen? ⟨go5, (x5_1 : Int).toNat * 4 + 3, none⟩ = false := hfr8 3;clear hcl8 hcc8 hfr8;(try clear hM8);replace p8 := eq_true p8;replace q8 := eq_true q8;have HX16 := Aside0.mk (show Kd.R k75 75 w15 w0.heap.size (fun k_ => (P0_ k_ ∨ w.heap.size ≤ k_)) (.slice (some ⟨go5, 0, none⟩) x0_1.length co9) y231 from (mR HO_0));obtain ⟨ce16, hcl16, hM16, hcc16, hfr16⟩ := Kd.R_elem HX16.out z75 (x5_1 : Int) (dA) (by have h_ : (x5_1 : Int) < ((x0_1.length : Int) : Int) := dA; first | exact h_ | (have e_ := (Kd.R_reads' HO_0.out).1; omega) | simpa using h_);obtain rfl := k75_openM hM16;have HP16 := Kd.R_seg HX16.out (x5_1 : Int) (dA) (by have h_ : (x5_1 : Int) < ((x0_1.length : Int) : Int) := dA; first | exact h_ | (have e_ := (Kd.R_reads' HO_0.out).1; omega) | simpa using h_) (seg := [.int .i64 (wrap64 ((wrap64 ((wrap64 (x1_1 + 1)) + 1)) + 1))]) (j := 3) hcl16 hcc16 (show 4 ≤ 4 from by decide) (x' := (⟨(rd_T75 y231 x5_1).f0, (rd_T75 y231 x5_1).f1, (rd_T75 y231 x5_1).f2, wrap64 ((wrap64 ((wrap64 (x1_1 + 1)) + 1)) + 1)⟩ : S75)) (k75_mkM _ _ _ (⟨(rd_T75 y231 x5_1).f0, (rd_T75 y231 x5_1).f1, (rd_T75 y231 x5_1).f2, wrap64 ((wrap64 ((wrap64 (x1_1 + 1)) + 1)) + 1)⟩ : S75) ) (fun _ hk => hk);have hx16_3 := hcc16 3 _ rfl;(try simp only [show (k75).sz = 4 from rfl, Nat.mul_one, Nat.add_zero] at hx16_3);have hf16_3 := hfr16 3;(try simp only [show (k75).sz = 4 from rfl, Nat.mul_one, Nat.add_zero] at hf16_3);clear hcl16 hcc16 hfr16;(try clear hM16))|((with_reducible refine gate_store (t := 3) (p := 37) rfl ?_);refine store_event (t := 3) (p := 37) (v := ?vo_w17) (w1 := (w15.setCell ⟨go5, (x5_1 : Int).toNat * 4 + 3, none⟩ (.int .i64 (wrap64 ((wrap64 ((wrap64 (x1_1 + 1)) + 1)) + 1))))) ?hg ?ho ?hn ?hr ?_;(case ho => rfl);(case hg => rfl);(case hn => rfl);(case hr => exact rG);intro w17 hw;have hg : w15.grownBy w17 (some go5) := (by rw [hw]; exact HP16.2);have hp_ : Kd.R k75 75 w17 w0.heap.size (fun k_ => (P0_ k_ ∨ w.heap.size ≤ k_)) (.slice (some ⟨go5, 0, none⟩) x0_1.length co9) y232 := (by rw [hw, Ny232.out]; exact HP16.1);clear HP16;replace HB := Aside0.mk ((by rw [hw]; exact below_set (HB.out) GB5.out : Below w0.heap.size w0 w17));replace HK := Aside0.mk (Kept.of_grown (S := (fun k_ => P0_ k_)) hg q5x1 (fun k_ e_ => (HO_0.out.1 k_ e_)));replace HO_0 := Aside0.mk (hp_);clear hg hw hp_))
    go_roundg k1
    case measure => have := HK1.out; omega
    case rel => exact ⟨(y232), (wrap64 ((wrap64 ((wrap64 ((wrap64 (x1_1 + 1)) + 1)) + 1)) + 1)), (wrap64 (x5_1 + 1)), rS, rS, H', ⟨by have := HK1.out; omega⟩, ⟨mR HO_0⟩, ⟨q5x1⟩, ⟨cB⟩⟩
   ·rw [if_neg c3] at H;have c3b0 := decide_eq_false c3;clear c3;simp only [Option.some.injEq, Prod.mk.injEq] at H;obtain ⟨rfl, rfl⟩ := H;obtain ⟨Ao18, co18, eo18⟩ := Kd.R_slice HO_0.out;subst eo18;go_wp2;go_ret;exact ⟨rE, mR HO_0, cB, q5x1⟩
/-- A row's own row handed on, and put back. -/
theorem S_hand {α : Type} {d : Kd α} {e e' : Nat} {W : World} {base : Nat} {ok : Nat → Prop} {A : Option Addr} {n cap : Nat} {xs : List (List α)} (h : Kd.S (Kd.slice e' d) e W base ok (.slice A n cap) xs) (hw : ∀ k, W.heap.size ≤ k → ok k) (i : Int) (h0 : 0 ≤ i) (h1 : i < n) :
    ∃ (ad : Addr) (v : Value) (oki : Nat → Prop), A = some ad ∧ W.cell? (ad.add i.toNat) = some v ∧ d.R e' W base oki v (xs.getD i.toNat []) ∧ (∀ k, oki k → ok k) ∧ ∀ (w1 : World) (x' : List α), d.R e' w1 base (fun k => (oki k ∨ W.heap.size ≤ k)) v x' → Kept W w1 (fun k => oki k) → Kd.S (Kd.slice e' d) e w1 base ok (.slice A n cap) (xs.set i.toNat x') := by
  obtain ⟨inner, ho⟩ := Kd.R_own (Kd.S_R h)
  have hn := (Kd.R_reads' (Kd.S_R h)).1
  obtain ⟨g, cap', he, _⟩ := Kd.R_form (Kd.S_R h) (by omega)
  injection he with ha hb hc
  subst ha
  obtain ⟨oki, c, hcl, hM, hcc, hoki, hH⟩ := Kd.S_lend h ([] : List α) i h0 h1
  obtain ⟨v, rfl, hR⟩ := hM
  refine ⟨_, v, oki, rfl, ?_, hR, fun k hk => (hoki k hk).1, fun w1 x' h2 hk => ?_⟩
  · have := hcc 0 v rfl
    rw [add_at, Nat.zero_add]
    simpa [Kd.slice] using this
  · exact Kd.H_back (Kd.H_kept (Kd.H_widen hH) hk (fun k _ hn hs => hn (.inl hs))) (show (Kd.slice e' d).M w1 base _ x' [v] from ⟨v, rfl, h2⟩) (fun k hk => hk.imp id (fun hk => ⟨hw k hk, hk⟩))
def laws_markInsSS.l0 : Nat → List (List (S75)) → Int → Int → Option (Int × List (List (S75)))
  | 0, _, _, _ => none
  | k + 1, x0, x1, x5 => if x5 < (x0.length : Int) then (if 0 ≤ x5 then ((laws_markInsS.f k (rd_L4 x0 x5) x1).bind fun t239 => (laws_markInsSS.l0 k (x0.set x5.toNat t239.2) t239.1 (wrap64 (x5 + 1)))) else (none)) else (some (x1, x0))
def laws_markInsSS.f (k : Nat) (l0 : List (List (S75))) (a1 : Int) : Option (Int × List (List (S75))) := laws_markInsSS.l0 k l0 a1 0
set_option maxHeartbeats 8000000 in
set_option maxRecDepth 100000 in
theorem laws_markInsSS.calls (k : Nat) (P0_ : Nat → Prop) (u9000_ : Value) (l0 : List (List (S75))) (a1 : Int) (r1 : Int) (r2 : List (List (S75))) (w0 w : World) (hB : Below w0.heap.size w0 w) (ho0 : Kd.S (Kd.slice 75 k75) 30 w w0.heap.size P0_ u9000_ l0) (h : laws_markInsSS.f k l0 a1 = some (r1, r2)) :
 Calls Try.prog 20 #[u9000_, .int .i64 a1] w fun e w' => e = .returned (.int .i64 r1) ∧ Kd.S (Kd.slice 75 k75) 30 w' w0.heap.size (fun k_ => (P0_ k_ ∨ w.heap.size ≤ k_)) u9000_ r2 ∧ Below w0.heap.size w0 w' ∧ Kept w w' (fun k_ => P0_ k_) := by
 have HO0 := Aside0.mk (show Kd.S (Kd.slice 75 k75) 30 w w0.heap.size (fun k_ => (P0_ k_ ∨ w.heap.size ≤ k_)) u9000_ l0 from Kd.S_mono ho0 (fun k_ hk => (.inl hk)))
 have HK := Aside0.mk (Kept.refl w (fun k_ => P0_ k_))
 have HB := Aside0.mk hB;clear hB ho0;have H' := Aside0.mk (show (laws_markInsSS.l0 k l0 a1 0) = some (r1, r2) from h);clear h;obtain ⟨A0, c0, eA0⟩ := Kd.R_slice (Kd.S_R HO0.out);go_enter Try.func20, Try.ntmps20;go_wp2
 go_loopg [1, 5] k (fun kq v1 v5 w' => ∃ (x0_1 : List (List (S75))) (x1_1 : Int) (x5_1 : Int), v1 = .int .i64 x1_1 ∧ v5 = .int .i64 x5_1 ∧ Aside0 (laws_markInsSS.l0 kq x0_1 x1_1 x5_1 = some (r1, r2)) ∧ Aside0 (kq ≤ k) ∧ Aside0 (Kd.S (Kd.slice 75 k75) 30 w' w0.heap.size (fun k_ => (P0_ k_ ∨ w.heap.size ≤ k_)) u9000_ x0_1) ∧ Aside0 (Kept w w' (fun k_ => P0_ k_)) ∧ Aside0 (Below w0.heap.size w0 w'))
 case atStart => exact ⟨(l0), (a1), (0), rfl, rfl, H', ⟨Nat.le_refl _⟩, HO0, HK, HB⟩
 case round =>
  clear H' eA0 HO0;obtain ⟨x0_1, x1_1, x5_1, rfl, rfl, HA, HK1, HO_0, HK, HB⟩ := hrel
  cases gk with
  | zero => exact absurd HA.out (by simp [laws_markInsSS.l0])
  | succ k1 =>
   have H := HA.out;clear HA;simp only [laws_markInsSS.l0] at H;obtain ⟨A9, c9, eo9⟩ := Kd.R_slice (Kd.S_R HO_0.out);subst eo9;by_cases c3 : x5_1 < (x0_1.length : Int)
   ·rw [if_pos c3] at H;have c3b0 := decide_eq_true c3;replace H := gC H;obtain ⟨c4, H⟩ := H;have c4b0 := decide_eq_true c4;replace H := Option.bind_eq_some_iff.mp H;obtain ⟨⟨t1, t2⟩, A50, H⟩ := H;have A5 := Aside0.mk A50;have H' := Aside0.mk H;clear A50 H
    obtain ⟨ad, v_, oki, eA, hx, hR, hok, hback⟩ := S_hand HO_0.out (fun k_ hk => .inr (Nat.le_trans HK.out.1 hk)) x5_1 c4 c3
    cases eA;replace hR : Kd.R k75 75 wr w0.heap.size oki v_ (rd_L4 x0_1 x5_1) := hR;obtain ⟨A8, c8, rfl⟩ := Kd.R_slice hR;have HRI := Aside0.mk hR;have HBK := Aside0.mk hback;have HOK := Aside0.mk hok;clear hR hback hok;replace c3 := eq_true c3;replace c4 := eq_true c4
    go_wp2_with (first|(go_at_call 21;(with_reducible refine (laws_markInsS.calls k1 oki _ (rd_L4 x0_1 x5_1) x1_1 t1 t2 w0 wr HB.out HRI.out A5.out).mono ?_);rintro e w8 ⟨rfl, hr, hb, hk⟩;have n0_ := Aside0.mk (HBK.out w8 t2 hr hk);have n1_ := Aside0.mk (HK.out.then_ hk (fun k_ h2 => HOK.out k_ h2));have n2_ := Aside0.mk hb;clear HO_0 HK HB HBK HRI hr hb hk;skip))
    go_roundg k1
    case measure => have := HK1.out; omega
    case rel => exact ⟨(x0_1.set x5_1.toNat t2), (t1), (wrap64 (x5_1 + 1)), rfl, rfl, H', ⟨by have := HK1.out; omega⟩, n0_, n1_, n2_⟩
   ·rw [if_neg c3] at H;have c3b0 := decide_eq_false c3;clear c3;simp only [Option.some.injEq, Prod.mk.injEq] at H;obtain ⟨rfl, rfl⟩ := H;go_wp2;go_ret;exact ⟨rfl, HO_0.out, HB.out, HK.out⟩
def laws_heldInsS.l0 : Nat → List (S75) → Int → Int → Option (Int)
  | 0, _, _, _ => none
  | k + 1, x0, x1, x5 => if x5 < (x0.length : Int) then (if 0 ≤ x5 then (if ((rd_T75 x0 x5).f0) = x1 then (if ((rd_T75 x0 x5).f1) = (wrap64 (x1 + 1)) then (if ((rd_T75 x0 x5).f2) = (wrap64 ((wrap64 (x1 + 1)) + 1)) then (if ((rd_T75 x0 x5).f3) = (wrap64 ((wrap64 ((wrap64 (x1 + 1)) + 1)) + 1)) then (laws_heldInsS.l0 k x0 (wrap64 ((wrap64 ((wrap64 ((wrap64 (x1 + 1)) + 1)) + 1)) + 1)) (wrap64 (x5 + 1))) else (some (-1))) else (some (-1))) else (some (-1))) else (some (-1))) else (none)) else (some x1)
def laws_heldInsS.f (k : Nat) (l0 : List (S75)) (a1 : Int) : Option (Int) := laws_heldInsS.l0 k l0 a1 0
set_option maxHeartbeats 8000000 in
set_option maxRecDepth 100000 in
theorem laws_heldInsS.calls (k : Nat) (A0 : Option Addr) (c0 : Nat) (l0 : List (S75)) (a1 : Int) (r : Int) (w : World) (hr0 : Kd.C k75 w A0 l0.length l0) (hc0 : l0.length ≤ c0) (h : laws_heldInsS.f k l0 a1 = some r) :
 Calls Try.prog 60 #[.slice A0 l0.length c0, .int .i64 a1] w fun e w' => e = .returned (.int .i64 r) ∧ Drawn0 w w' := by
 have HR0 := Aside0.mk hr0;have HC0 := Aside0.mk hc0;clear hr0 hc0;have H : (laws_heldInsS.l0 k l0 a1 0) = some r := h;clear h;have H' := Aside0.mk H;clear H;go_enter Try.func60, Try.ntmps60;go_wp2
 go_loopg [1, 5] k (fun kq v1 v5 w' => ∃ (x1_1 : Int) (x5_1 : Int), v1 = .int .i64 x1_1 ∧ v5 = .int .i64 x5_1 ∧ Aside0 (laws_heldInsS.l0 kq l0 x1_1 x5_1 = some r) ∧ Aside0 (kq ≤ k) ∧ Drawn0 w w')
 case atStart => exact ⟨(a1), (0), rS, rS, H', ⟨Nat.le_refl _⟩, by repeat (first | exact Drawn0.refl _ | apply Drawn0.step)⟩
 case round =>
  clear H';obtain ⟨x1_1, x5_1, rfl, rfl, HA, HK1, ⟨m1, rfl⟩⟩ := hrel
  cases gk with
  | zero => exact absurd HA.out (by simp [laws_heldInsS.l0])
  | succ k1 =>
   have H := HA.out;clear HA;simp only [laws_heldInsS.l0] at H;by_cases c3 : x5_1 < (l0.length : Int)
   ·rw [if_pos c3] at H;have c3b0 := decide_eq_true c3;clear c3;replace H := gD H;obtain ⟨c4b0, H⟩ := H;by_cases c5 : ((rd_T75 l0 x5_1).f0) = x1_1
    ·rw [if_pos c5] at H;obtain ⟨c5b0, c5b1⟩ := eT c5;clear c5;by_cases c6 : ((rd_T75 l0 x5_1).f1) = (wrap64 (x1_1 + 1))
     ·rw [if_pos c6] at H;obtain ⟨c6b0, c6b1⟩ := eT c6;clear c6;by_cases c7 : ((rd_T75 l0 x5_1).f2) = (wrap64 ((wrap64 (x1_1 + 1)) + 1))
      ·rw [if_pos c7] at H;obtain ⟨c7b0, c7b1⟩ := eT c7;clear c7;by_cases c8 : ((rd_T75 l0 x5_1).f3) = (wrap64 ((wrap64 ((wrap64 (x1_1 + 1)) + 1)) + 1))
       ·rw [if_pos c8] at H;obtain ⟨c8b0, c8b1⟩ := eT c8;clear c8;have H' := Aside0.mk H;clear H;have p233 : 0 ≤ (x5_1 : Int) := dA;have q233 : x5_1 < (l0.length : Int) := dA;obtain ⟨ad233, e233, hx233_0, hx233_1, hx233_2, hx233_3⟩ := at_T75 HR0.out x5_1 p233 q233;cases e233;replace p233 := eq_true p233;replace q233 := eq_true q233;have p234 : 0 ≤ (x5_1 : Int) := dA;have q234 : x5_1 < (l0.length : Int) := dA;obtain ⟨ad234, e234, hx234_0, hx234_1, hx234_2, hx234_3⟩ := at_T75 HR0.out x5_1 p234 q234
        obtain rfl : ad233 = ad234 := (by injection e234)
        replace p234 := eq_true p234;replace q234 := eq_true q234;have p235 : 0 ≤ (x5_1 : Int) := dA;have q235 : x5_1 < (l0.length : Int) := dA;obtain ⟨ad235, e235, hx235_0, hx235_1, hx235_2, hx235_3⟩ := at_T75 HR0.out x5_1 p235 q235
        obtain rfl : ad233 = ad235 := (by injection e235)
        replace p235 := eq_true p235;replace q235 := eq_true q235;have p236 : 0 ≤ (x5_1 : Int) := dA;have q236 : x5_1 < (l0.length : Int) := dA;obtain ⟨ad236, e236, hx236_0, hx236_1, hx236_2, hx236_3⟩ := at_T75 HR0.out x5_1 p236 q236
        obtain rfl : ad233 = ad236 := (by injection e236)
        replace p236 := eq_true p236;replace q236 := eq_true q236;go_wp2;go_roundg k1
        case measure => have := HK1.out; omega
        case rel => exact ⟨(wrap64 ((wrap64 ((wrap64 ((wrap64 (x1_1 + 1)) + 1)) + 1)) + 1)), (wrap64 (x5_1 + 1)), rS, rS, H', ⟨by have := HK1.out; omega⟩, by repeat (first | exact Drawn0.refl _ | apply Drawn0.step)⟩
       ·rw [if_neg c8] at H;obtain ⟨c8b0, c8b1⟩ := eF c8;obtain rfl := Option.some.inj H;have p233 : 0 ≤ (x5_1 : Int) := dA;have q233 : x5_1 < (l0.length : Int) := dA;obtain ⟨ad233, e233, hx233_0, hx233_1, hx233_2, hx233_3⟩ := at_T75 HR0.out x5_1 p233 q233;cases e233;replace p233 := eq_true p233;replace q233 := eq_true q233;have p234 : 0 ≤ (x5_1 : Int) := dA;have q234 : x5_1 < (l0.length : Int) := dA;obtain ⟨ad234, e234, hx234_0, hx234_1, hx234_2, hx234_3⟩ := at_T75 HR0.out x5_1 p234 q234
        obtain rfl : ad233 = ad234 := (by injection e234)
        replace p234 := eq_true p234;replace q234 := eq_true q234;have p235 : 0 ≤ (x5_1 : Int) := dA;have q235 : x5_1 < (l0.length : Int) := dA;obtain ⟨ad235, e235, hx235_0, hx235_1, hx235_2, hx235_3⟩ := at_T75 HR0.out x5_1 p235 q235
        obtain rfl : ad233 = ad235 := (by injection e235)
        replace p235 := eq_true p235;replace q235 := eq_true q235;have p236 : 0 ≤ (x5_1 : Int) := dA;have q236 : x5_1 < (l0.length : Int) := dA;obtain ⟨ad236, e236, hx236_0, hx236_1, hx236_2, hx236_3⟩ := at_T75 HR0.out x5_1 p236 q236
        obtain rfl : ad233 = ad236 := (by injection e236)
        replace p236 := eq_true p236;replace q236 := eq_true q236;go_wp2;go_ret
        exact ⟨by first | rfl | (simp; done) | (simp [*]; done), by repeat (first | exact Drawn0.refl _ | apply Drawn0.step)⟩
      ·rw [if_neg c7] at H;obtain ⟨c7b0, c7b1⟩ := eF c7;obtain rfl := Option.some.inj H;have p233 : 0 ≤ (x5_1 : Int) := dA;have q233 : x5_1 < (l0.length : Int) := dA;obtain ⟨ad233, e233, hx233_0, hx233_1, hx233_2, hx233_3⟩ := at_T75 HR0.out x5_1 p233 q233;cases e233;replace p233 := eq_true p233;replace q233 := eq_true q233;have p234 : 0 ≤ (x5_1 : Int) := dA;have q234 : x5_1 < (l0.length : Int) := dA;obtain ⟨ad234, e234, hx234_0, hx234_1, hx234_2, hx234_3⟩ := at_T75 HR0.out x5_1 p234 q234
       obtain rfl : ad233 = ad234 := (by injection e234)
       replace p234 := eq_true p234;replace q234 := eq_true q234;have p235 : 0 ≤ (x5_1 : Int) := dA;have q235 : x5_1 < (l0.length : Int) := dA;obtain ⟨ad235, e235, hx235_0, hx235_1, hx235_2, hx235_3⟩ := at_T75 HR0.out x5_1 p235 q235
       obtain rfl : ad233 = ad235 := (by injection e235)
       replace p235 := eq_true p235;replace q235 := eq_true q235;go_wp2;go_ret
       exact ⟨by first | rfl | (simp; done) | (simp [*]; done), by repeat (first | exact Drawn0.refl _ | apply Drawn0.step)⟩
     ·rw [if_neg c6] at H;obtain ⟨c6b0, c6b1⟩ := eF c6;obtain rfl := Option.some.inj H;have p233 : 0 ≤ (x5_1 : Int) := dA;have q233 : x5_1 < (l0.length : Int) := dA;obtain ⟨ad233, e233, hx233_0, hx233_1, hx233_2, hx233_3⟩ := at_T75 HR0.out x5_1 p233 q233;cases e233;replace p233 := eq_true p233;replace q233 := eq_true q233;have p234 : 0 ≤ (x5_1 : Int) := dA;have q234 : x5_1 < (l0.length : Int) := dA;obtain ⟨ad234, e234, hx234_0, hx234_1, hx234_2, hx234_3⟩ := at_T75 HR0.out x5_1 p234 q234
      obtain rfl : ad233 = ad234 := (by injection e234)
      replace p234 := eq_true p234;replace q234 := eq_true q234;go_wp2;go_ret
      exact ⟨by first | rfl | (simp; done) | (simp [*]; done), by repeat (first | exact Drawn0.refl _ | apply Drawn0.step)⟩
    ·rw [if_neg c5] at H;obtain ⟨c5b0, c5b1⟩ := eF c5;obtain rfl := Option.some.inj H;have p233 : 0 ≤ (x5_1 : Int) := dA;have q233 : x5_1 < (l0.length : Int) := dA;obtain ⟨ad233, e233, hx233_0, hx233_1, hx233_2, hx233_3⟩ := at_T75 HR0.out x5_1 p233 q233;cases e233;replace p233 := eq_true p233;replace q233 := eq_true q233;go_wp2;go_ret
     exact ⟨by first | rfl | (simp; done) | (simp [*]; done), by repeat (first | exact Drawn0.refl _ | apply Drawn0.step)⟩
   ·rw [if_neg c3] at H;have c3b0 := decide_eq_false c3;clear c3;obtain rfl := Option.some.inj H;go_wp2;go_ret
    exact ⟨by first | rfl | (simp; done) | (simp [*]; done), by repeat (first | exact Drawn0.refl _ | apply Drawn0.step)⟩
end Go.Proofs.Ytcmcpmkihpdnjaa.PFnExactPushStack
