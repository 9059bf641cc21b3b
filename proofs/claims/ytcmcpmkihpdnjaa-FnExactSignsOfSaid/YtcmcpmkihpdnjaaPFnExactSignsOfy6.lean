import Derived.Test.YtcmcpmkihpdnjaaPFnExactSignsOfy0
import Derived.Test.YtcmcpmkihpdnjaaPFnExactSignsOfy2
import Derived.Test.YtcmcpmkihpdnjaaPFnExactSignsOfy4
import Derived.Test.YtcmcpmkihpdnjaaPFnExactSignsOfy5
namespace Go.Proofs.Ytcmcpmkihpdnjaa.PFnExactSignsOf
open Go.RowKit Go.Proofs.YtcmcpmkihpdnjaaW.PrintWords Go.Proofs.YtcmcpmkihpdnjaaW.PrintLast Go.Proofs.YtcmcpmkihpdnjaaW.PrintMore Go.Proofs.YtcmcpmkihpdnjaaW.Z
attribute [local go_sem] isS max2_int min2_int max_two min_two max_three min_three max_four min_four
set_option linter.unusedVariables false
set_option linter.unusedSimpArgs false
def laws_heldSignS.l0 : Nat → List (S81) → Int → Int → Option (Int)
  | 0, _, _, _ => none
  | k + 1, x0, x1, x5 => if x5 < (x0.length : Int) then (if 0 ≤ x5 then (if ((rd_T81 x0 x5).f0) = x1 then ((laws_markText.f k (wrap64 (x1 + 1))).bind fun t191 => (if ((rd_T81 x0 x5).f1).toList = t191.toList then (if ((rd_T81 x0 x5).f2) = (wrap64 ((wrap64 (x1 + 1)) + 1)) then (laws_heldSignS.l0 k x0 (wrap64 ((wrap64 ((wrap64 (x1 + 1)) + 1)) + 1)) (wrap64 (x5 + 1))) else (some (-1))) else (some (-1)))) else (some (-1))) else (none)) else (some x1)
def laws_heldSignS.f (k : Nat) (l0 : List (S81)) (a1 : Int) : Option (Int) := laws_heldSignS.l0 k l0 a1 0
def laws_heldSignS.T7 : Bool × List (List Nat × List Nat) := (true, [([], []), ([], []), ([0, 1], [0, 1]), ([2], [2]), ([3], [3]), ([], []), ([5], [5]), ([4, 6], [4, 6])])
def laws_heldSignS.B7 : List Nat := [0, 0, 3, 7, 15, 0, 32, 127]
theorem laws_heldSignS.tab7 : rtab .any (opsOf Try.f27 7) = laws_heldSignS.T7 := by kernel_rfl
theorem laws_heldSignS.bits7 : waitsOk laws_heldSignS.T7.2 laws_heldSignS.B7 = true := by kernel_rfl
theorem q6x0 {P : Prop} (h : P := by 
 rintro w' ⟨s0, s1, s2⟩
 go_simp
 with_reducible rfl) : P := h
set_option maxHeartbeats 8000000 in
set_option maxRecDepth 100000 in
theorem laws_heldSignS.calls (k : Nat) (A0 : Option Addr) (c0 : Nat) (l0 : List (S81)) (a1 : Int) (r : Int) (w : World) (hr0 : Kd.C k81 w A0 l0.length l0) (hc0 : l0.length ≤ c0) (h : laws_heldSignS.f k l0 a1 = some r) :
 Calls Try.prog 27 #[.slice A0 l0.length c0, .int .i64 a1] w fun e w' => e = .returned (.int .i64 r) ∧ Below w.heap.size w w' := by
 have HR0 := Aside0.mk hr0;have HC0 := Aside0.mk hc0;clear hr0 hc0;have HB := Aside0.mk (Below.refl w.heap.size w);have H : (laws_heldSignS.l0 k l0 a1 0) = some r := h;clear h;have H' := Aside0.mk H;clear H;go_enter Try.func27, Try.ntmps27;go_wp2
 go_loopg [1, 5] k (fun kq v1 v5 w' => ∃ (x1_1 : Int) (x5_1 : Int), v1 = .int .i64 x1_1 ∧ v5 = .int .i64 x5_1 ∧ Aside0 (laws_heldSignS.l0 kq l0 x1_1 x5_1 = some r) ∧ Aside0 (kq ≤ k) ∧ Aside0 (Below w.heap.size w w'))
 case atStart => exact ⟨(a1), (0), rS, rS, H', ⟨Nat.le_refl _⟩, ⟨cB⟩⟩
 case round =>
  clear H';obtain ⟨x1_1, x5_1, rfl, rfl, HA, HK1, HB⟩ := hrel
  cases gk with
  | zero => exact absurd HA.out (by simp [laws_heldSignS.l0])
  | succ k1 =>
   have H := HA.out;clear HA;simp only [laws_heldSignS.l0] at H;by_cases c3 : x5_1 < (l0.length : Int)
   ·rw [if_pos c3] at H;have c3b0 := decide_eq_true c3;clear c3;replace H := gD H;obtain ⟨c4b0, H⟩ := H;by_cases c5 : ((rd_T81 l0 x5_1).f0) = x1_1
    ·rw [if_pos c5] at H;obtain ⟨c5b0, c5b1⟩ := eT c5;clear c5;replace H := bE H;obtain ⟨t191, A6, H⟩ := H;by_cases c7 : ((rd_T81 l0 x5_1).f1).toList = t191.toList
     ·rw [if_pos c7] at H;obtain ⟨c7b0, c7b1⟩ := eT c7;clear c7;by_cases c8 : ((rd_T81 l0 x5_1).f2) = (wrap64 ((wrap64 (x1_1 + 1)) + 1))
      ·rw [if_pos c8] at H;obtain ⟨c8b0, c8b1⟩ := eT c8;clear c8;have H' := Aside0.mk H;clear H;have p189 : 0 ≤ (x5_1 : Int) := dA;have q189 : x5_1 < (l0.length : Int) := dA;obtain ⟨ad189, e189, hx189_0, hx189_1, hx189_2⟩ := at_T81 HR0.out x5_1 p189 q189;cases e189;replace hx189_0 := (bc HB hx189_0 :);replace hx189_1 := (bc HB hx189_1 :);replace hx189_2 := (bc HB hx189_2 :);replace p189 := eq_true p189;replace q189 := eq_true q189
       try go_wp2
       replace HB := Aside0.mk (below_drew1 HB.out);have p190 : 0 ≤ (x5_1 : Int) := dA;have q190 : x5_1 < (l0.length : Int) := dA;obtain ⟨ad190, e190, hx190_0, hx190_1, hx190_2⟩ := at_T81 HR0.out x5_1 p190 q190;have hw190_2 := hx190_2;have hw190_1 := hx190_1;have hw190_0 := hx190_0
       obtain rfl : ad189 = ad190 := (by injection e190)
       replace hx190_0 := (bc HB hx190_0 :);replace hx190_1 := (bc HB hx190_1 :);replace hx190_2 := (bc HB hx190_2 :);replace p190 := eq_true p190;replace q190 := eq_true q190
       refine start_ (n := 8) (S := fun w' => w'.cell? (ad189.add ((x5_1).toNat * 3)) = some (.int .i64 ((rd_T81 l0 x5_1).f0)) ∧ w'.cell? ⟨(ad189.add ((x5_1).toNat * 3)).block, (ad189.add ((x5_1).toNat * 3)).off + 1, none⟩ = some (.string ((rd_T81 l0 x5_1).f1)) ∧ w'.cell? ⟨(ad189.add ((x5_1).toNat * 3)).block, (ad189.add ((x5_1).toNat * 3)).off + 2, none⟩ = some (.int .i64 ((rd_T81 l0 x5_1).f2))) (ds := []) #[false, false, false, false, false, false, false, false] (by kernel_rfl) rfl rfl ⟨((bc HB hw190_0 :)), ((bc HB hw190_1 :)), ((bc HB hw190_2 :))⟩ (fun hHeld => ?_); refine with_tabW laws_heldSignS.tab7 laws_heldSignS.bits7 (fun HT_ HW_ => ?_)
       generalize wr.drew = w9 at HB hx190_0 hx190_1 hx190_2 hHeld ⊢;refine pureZ 0 (some 21) (msk 8 1) HT_.out ?_;refine pureZ 1 (some 22) (msk 8 3) HT_.out ?_;refine pureZ 2 (some 23) (msk 8 7) HT_.out ?_;refine pureZ 3 (some 24) (msk 8 15) HT_.out ?_;refine pureZ 5 (some 26) (msk 8 47) HT_.out ?_;refine takeZ 4 (some 25) (msk 8 63) HT_.out HW_.out hHeld (hy := q6x0) (h := ?_)
       refine one_Z 6 (some 27) (msk 8 127) HT_.out fun K hK => ?_
       refine goes_ Try.func69 (by kernel_rfl) rfl #[.int .i64 (wrap64 (x1_1 + 1))] (by rfl) rfl rfl (by (try simp only [List.map_toArray, List.map_cons, List.map_nil]); first | done | rfl | (simp only [List.length_drop, List.length_take]; rfl)) ?_
       with_reducible refine (laws_markText.calls k1 (wrap64 (x1_1 + 1)) t191 _ A6.out).mono ?_;rintro e w10 ⟨rfl, hb⟩;refine ⟨_, rfl, ?_⟩;replace HB := sB hb;(try clear hb)
       refine hK.out _ _ ⟨((bc HB hw190_0 :)), ((bc HB hw190_1 :)), ((bc HB hw190_2 :))⟩ (fun hHeld => ?_)
       clear hK K;refine normZ (some 27) ?_
       refine pureZ 7 (some 28) (msk 8 255) HT_.out ?_
       refine done_ (done_of HT_.out (by kernel_rfl)) ?_
       have p192 : 0 ≤ (x5_1 : Int) := dA;have q192 : x5_1 < (l0.length : Int) := dA;obtain ⟨ad192, e192, hx192_0, hx192_1, hx192_2⟩ := at_T81 HR0.out x5_1 p192 q192
       obtain rfl : ad189 = ad192 := (by injection e192)
       replace hx192_0 := (bc HB hx192_0 :);replace hx192_1 := (bc HB hx192_1 :);replace hx192_2 := (bc HB hx192_2 :);replace p192 := eq_true p192;replace q192 := eq_true q192
       try go_wp2
       go_roundg k1
       case measure => have := HK1.out; omega
       case rel => exact ⟨(wrap64 ((wrap64 ((wrap64 (x1_1 + 1)) + 1)) + 1)), (wrap64 (x5_1 + 1)), rS, rS, H', ⟨by have := HK1.out; omega⟩, ⟨cB⟩⟩
      ·rw [if_neg c8] at H;obtain ⟨c8b0, c8b1⟩ := eF c8;obtain rfl := Option.some.inj H;have p189 : 0 ≤ (x5_1 : Int) := dA;have q189 : x5_1 < (l0.length : Int) := dA;obtain ⟨ad189, e189, hx189_0, hx189_1, hx189_2⟩ := at_T81 HR0.out x5_1 p189 q189;cases e189;replace hx189_0 := (bc HB hx189_0 :);replace hx189_1 := (bc HB hx189_1 :);replace hx189_2 := (bc HB hx189_2 :);replace p189 := eq_true p189;replace q189 := eq_true q189
       try go_wp2
       replace HB := Aside0.mk (below_drew1 HB.out);have p190 : 0 ≤ (x5_1 : Int) := dA;have q190 : x5_1 < (l0.length : Int) := dA;obtain ⟨ad190, e190, hx190_0, hx190_1, hx190_2⟩ := at_T81 HR0.out x5_1 p190 q190;have hw190_2 := hx190_2;have hw190_1 := hx190_1;have hw190_0 := hx190_0
       obtain rfl : ad189 = ad190 := (by injection e190)
       replace hx190_0 := (bc HB hx190_0 :);replace hx190_1 := (bc HB hx190_1 :);replace hx190_2 := (bc HB hx190_2 :);replace p190 := eq_true p190;replace q190 := eq_true q190
       refine start_ (n := 8) (S := fun w' => w'.cell? (ad189.add ((x5_1).toNat * 3)) = some (.int .i64 ((rd_T81 l0 x5_1).f0)) ∧ w'.cell? ⟨(ad189.add ((x5_1).toNat * 3)).block, (ad189.add ((x5_1).toNat * 3)).off + 1, none⟩ = some (.string ((rd_T81 l0 x5_1).f1)) ∧ w'.cell? ⟨(ad189.add ((x5_1).toNat * 3)).block, (ad189.add ((x5_1).toNat * 3)).off + 2, none⟩ = some (.int .i64 ((rd_T81 l0 x5_1).f2))) (ds := []) #[false, false, false, false, false, false, false, false] (by kernel_rfl) rfl rfl ⟨((bc HB hw190_0 :)), ((bc HB hw190_1 :)), ((bc HB hw190_2 :))⟩ (fun hHeld => ?_); refine with_tabW laws_heldSignS.tab7 laws_heldSignS.bits7 (fun HT_ HW_ => ?_)
       generalize wr.drew = w11 at HB hx190_0 hx190_1 hx190_2 hHeld ⊢;refine pureZ 0 (some 21) (msk 8 1) HT_.out ?_;refine pureZ 1 (some 22) (msk 8 3) HT_.out ?_;refine pureZ 2 (some 23) (msk 8 7) HT_.out ?_;refine pureZ 3 (some 24) (msk 8 15) HT_.out ?_;refine pureZ 5 (some 26) (msk 8 47) HT_.out ?_;refine takeZ 4 (some 25) (msk 8 63) HT_.out HW_.out hHeld (hy := q6x0) (h := ?_)
       refine one_Z 6 (some 27) (msk 8 127) HT_.out fun K hK => ?_
       refine goes_ Try.func69 (by kernel_rfl) rfl #[.int .i64 (wrap64 (x1_1 + 1))] (by rfl) rfl rfl (by (try simp only [List.map_toArray, List.map_cons, List.map_nil]); first | done | rfl | (simp only [List.length_drop, List.length_take]; rfl)) ?_
       with_reducible refine (laws_markText.calls k1 (wrap64 (x1_1 + 1)) t191 _ A6.out).mono ?_;rintro e w12 ⟨rfl, hb⟩;refine ⟨_, rfl, ?_⟩;replace HB := sB hb;(try clear hb)
       refine hK.out _ _ ⟨((bc HB hw190_0 :)), ((bc HB hw190_1 :)), ((bc HB hw190_2 :))⟩ (fun hHeld => ?_)
       clear hK K;refine normZ (some 27) ?_
       refine pureZ 7 (some 28) (msk 8 255) HT_.out ?_
       refine done_ (done_of HT_.out (by kernel_rfl)) ?_
       have p192 : 0 ≤ (x5_1 : Int) := dA;have q192 : x5_1 < (l0.length : Int) := dA;obtain ⟨ad192, e192, hx192_0, hx192_1, hx192_2⟩ := at_T81 HR0.out x5_1 p192 q192
       obtain rfl : ad189 = ad192 := (by injection e192)
       replace hx192_0 := (bc HB hx192_0 :);replace hx192_1 := (bc HB hx192_1 :);replace hx192_2 := (bc HB hx192_2 :);replace p192 := eq_true p192;replace q192 := eq_true q192
       try go_wp2
       go_ret;exact ⟨rE, cB⟩
     ·rw [if_neg c7] at H;obtain ⟨c7b0, c7b1⟩ := eF c7;obtain rfl := Option.some.inj H;have p189 : 0 ≤ (x5_1 : Int) := dA;have q189 : x5_1 < (l0.length : Int) := dA;obtain ⟨ad189, e189, hx189_0, hx189_1, hx189_2⟩ := at_T81 HR0.out x5_1 p189 q189;cases e189;replace hx189_0 := (bc HB hx189_0 :);replace hx189_1 := (bc HB hx189_1 :);replace hx189_2 := (bc HB hx189_2 :);replace p189 := eq_true p189;replace q189 := eq_true q189
      try go_wp2
      replace HB := Aside0.mk (below_drew1 HB.out);have p190 : 0 ≤ (x5_1 : Int) := dA;have q190 : x5_1 < (l0.length : Int) := dA;obtain ⟨ad190, e190, hx190_0, hx190_1, hx190_2⟩ := at_T81 HR0.out x5_1 p190 q190;have hw190_2 := hx190_2;have hw190_1 := hx190_1;have hw190_0 := hx190_0
      obtain rfl : ad189 = ad190 := (by injection e190)
      replace hx190_0 := (bc HB hx190_0 :);replace hx190_1 := (bc HB hx190_1 :);replace hx190_2 := (bc HB hx190_2 :);replace p190 := eq_true p190;replace q190 := eq_true q190
      refine start_ (n := 8) (S := fun w' => w'.cell? (ad189.add ((x5_1).toNat * 3)) = some (.int .i64 ((rd_T81 l0 x5_1).f0)) ∧ w'.cell? ⟨(ad189.add ((x5_1).toNat * 3)).block, (ad189.add ((x5_1).toNat * 3)).off + 1, none⟩ = some (.string ((rd_T81 l0 x5_1).f1)) ∧ w'.cell? ⟨(ad189.add ((x5_1).toNat * 3)).block, (ad189.add ((x5_1).toNat * 3)).off + 2, none⟩ = some (.int .i64 ((rd_T81 l0 x5_1).f2))) (ds := []) #[false, false, false, false, false, false, false, false] (by kernel_rfl) rfl rfl ⟨((bc HB hw190_0 :)), ((bc HB hw190_1 :)), ((bc HB hw190_2 :))⟩ (fun hHeld => ?_); refine with_tabW laws_heldSignS.tab7 laws_heldSignS.bits7 (fun HT_ HW_ => ?_)
      generalize wr.drew = w13 at HB hx190_0 hx190_1 hx190_2 hHeld ⊢;refine pureZ 0 (some 21) (msk 8 1) HT_.out ?_;refine pureZ 1 (some 22) (msk 8 3) HT_.out ?_;refine pureZ 2 (some 23) (msk 8 7) HT_.out ?_;refine pureZ 3 (some 24) (msk 8 15) HT_.out ?_;refine pureZ 5 (some 26) (msk 8 47) HT_.out ?_;refine takeZ 4 (some 25) (msk 8 63) HT_.out HW_.out hHeld (hy := q6x0) (h := ?_)
      refine one_Z 6 (some 27) (msk 8 127) HT_.out fun K hK => ?_
      refine goes_ Try.func69 (by kernel_rfl) rfl #[.int .i64 (wrap64 (x1_1 + 1))] (by rfl) rfl rfl (by (try simp only [List.map_toArray, List.map_cons, List.map_nil]); first | done | rfl | (simp only [List.length_drop, List.length_take]; rfl)) ?_
      with_reducible refine (laws_markText.calls k1 (wrap64 (x1_1 + 1)) t191 _ A6.out).mono ?_;rintro e w14 ⟨rfl, hb⟩;refine ⟨_, rfl, ?_⟩;replace HB := sB hb;(try clear hb)
      refine hK.out _ _ ⟨((bc HB hw190_0 :)), ((bc HB hw190_1 :)), ((bc HB hw190_2 :))⟩ (fun hHeld => ?_)
      clear hK K;refine normZ (some 27) ?_
      refine pureZ 7 (some 28) (msk 8 255) HT_.out ?_
      refine done_ (done_of HT_.out (by kernel_rfl)) ?_
      try go_wp2
      go_ret;exact ⟨rE, cB⟩
    ·rw [if_neg c5] at H;obtain ⟨c5b0, c5b1⟩ := eF c5;obtain rfl := Option.some.inj H;have p189 : 0 ≤ (x5_1 : Int) := dA;have q189 : x5_1 < (l0.length : Int) := dA;obtain ⟨ad189, e189, hx189_0, hx189_1, hx189_2⟩ := at_T81 HR0.out x5_1 p189 q189;cases e189;replace hx189_0 := (bc HB hx189_0 :);replace hx189_1 := (bc HB hx189_1 :);replace hx189_2 := (bc HB hx189_2 :);replace p189 := eq_true p189;replace q189 := eq_true q189;go_wp2;go_ret;exact ⟨rE, cB⟩
   ·rw [if_neg c3] at H;have c3b0 := decide_eq_false c3;clear c3;obtain rfl := Option.some.inj H;go_wp2;go_ret;exact ⟨rE, cB⟩
mutual
def laws_FnExactSignsOf.j0 : Nat → ByteArray → List (S81) → Bool → List (S81) → Bool → Option (Bool)
  | 0, _, _, _, _, _ => none
  | k + 1, x0, x3, x4, x5, x32 => if x32 = true then (some false) else ((laws_markSignS.f k x5 1).bind fun bt202 => ((laws_heldSignS.f k bt202.2 1).bind fun t204 => (if t204 < 0 then (some false) else (if t204 = bt202.1 then ((impl_SignsOf.f k x0).bind fun bt205 => ((laws_eqSignS.f k bt205.1 x3).bind fun t209 => (if t209 = true then (laws_FnExactSignsOf.j1 k bt202.2 bt202.1 (bt205.2 != x4)) else (laws_FnExactSignsOf.j1 k bt202.2 bt202.1 true)))) else (some false)))))
def laws_FnExactSignsOf.j1 : Nat → List (S81) → Int → Bool → Option (Bool)
  | 0, _, _, _ => none
  | k + 1, x5, x7, x57 => if x57 = true then (some false) else ((laws_heldSignS.f k x5 1).bind fun t210 => (if t210 < 0 then (some false) else (if t210 = x7 then (some true) else (some false))))
end
def laws_FnExactSignsOf.f (k : Nat) (a0 : ByteArray) : Option (Bool) := if (a0.size : Int) > 1048576 then (some true) else ((spec_SignsOf.f k a0).bind fun bt193 => ((impl_SignsOf.f k a0).bind fun bt197 => ((laws_eqSignS.f k bt197.1 bt193.1).bind fun t201 => (if t201 = true then (laws_FnExactSignsOf.j0 k a0 bt193.1 bt193.2 bt197.1 (bt197.2 != bt193.2)) else (laws_FnExactSignsOf.j0 k a0 bt193.1 bt193.2 bt197.1 true)))))
set_option maxHeartbeats 8000000 in
set_option maxRecDepth 100000 in
theorem laws_FnExactSignsOf.calls (k : Nat) (a0 : ByteArray) (r : Bool) (w : World) (h : laws_FnExactSignsOf.f k a0 = some r) :
 Calls Try.prog 4 #[.string a0] w fun e w' => e = .returned (.bool r) ∧ Below w.heap.size w w' := by
 have HB := Aside0.mk (Below.refl w.heap.size w)
 have H : (if (a0.size : Int) > 1048576 then (some true) else ((spec_SignsOf.f k a0).bind fun bt193 => ((impl_SignsOf.f k a0).bind fun bt197 => ((laws_eqSignS.f k bt197.1 bt193.1).bind fun t201 => (if t201 = true then (laws_FnExactSignsOf.j0 k a0 bt193.1 bt193.2 bt197.1 (bt197.2 != bt193.2)) else (laws_FnExactSignsOf.j0 k a0 bt193.1 bt193.2 bt197.1 true)))))) = some r := h
 clear h;by_cases c2 : (a0.size : Int) > 1048576
 ·rw [if_pos c2] at H;have c2b0 : decide (1048576 < (a0.size : Int)) = true := decide_eq_true c2
  have c2b1 : decide (1048576 < a0.size) = true := decide_eq_true (by omega)
  clear c2;obtain rfl := Option.some.inj H;go_enter Try.func4, Try.ntmps4;go_wp2;go_ret;exact ⟨rE, cB⟩
 ·rw [if_neg c2] at H;have c2b0 : decide (1048576 < (a0.size : Int)) = false := decide_eq_false c2
  have c2b1 : decide (1048576 < a0.size) = false := decide_eq_false (by omega)
  clear c2;replace H := bE H;obtain ⟨⟨t193, t194⟩, A3, H⟩ := H;(try dsimp only at H);replace H := bE H;obtain ⟨⟨t197, t198⟩, A4, H⟩ := H;(try dsimp only at H);have HC5 := Aside0.mk H;clear H;go_enter Try.func4, Try.ntmps4
  go_upto_region 5 with (first|((with_reducible refine gF 23 ?_);refine goZ (some 16) Try.func23 #[.string a0] ?_;(with_reducible refine (spec_SignsOf.calls k a0 t193 t194 _ A3.out).mono ?_);rintro e w6 ⟨v195, rfl, ho0, hb⟩;refine ⟨_, rfl, ?_⟩;have HO196 := Aside0.mk (Kd.R_lower ho0 (below_size cB));replace HB := sB hb;(try clear hb);(try clear ho0))|((with_reducible refine gF 24 ?_);refine goZ (some 21) Try.func24 #[.string a0] ?_;(with_reducible refine (impl_SignsOf.calls k a0 t197 t198 _ A4.out).mono ?_);rintro e w7 ⟨v199, rfl, ho0, hb⟩;refine ⟨_, rfl, ?_⟩;have HO200 := Aside0.mk (Kd.R_lower (Kd.R_new' ho0 (Kd.R_lt (mR HO196))) (below_size cB));replace HO196 := eB HO196 (Kd.R_base ho0) hb;replace HB := sB hb;(try clear hb);(try clear ho0)))
  (try simp only [Act.put, List.setIfInBounds_toArray, List.set_cons_zero, List.set_cons_succ])
  go_cut [32] (fun v32 wc => ∃ (kq : Nat) (x32_4 : Bool), v32 = .bool x32_4 ∧ Aside0 (laws_FnExactSignsOf.j0 kq a0 t193 t194 t197 x32_4 = some r) ∧ Aside0 (kq ≤ k) ∧ Aside0 (Kd.R k81 81 wc w.heap.size (fun k_ => some k_ ≠ (v199 : Value).ownBlock) v195 t193) ∧ Aside0 (Kd.R k81 81 wc w.heap.size (fun k_ => some k_ ≠ (v195 : Value).ownBlock) v199 t197) ∧ Aside0 (Below w.heap.size w wc))
  case first =>
   have H := HC5.out;clear HC5;replace H := bE H;obtain ⟨t201, A8, H⟩ := H;by_cases c9 : t201 = true
   ·subst c9;replace H := iT H;have H' := Aside0.mk H;clear H;obtain ⟨Ao10, co10, eo10⟩ := Kd.R_slice HO200.out;subst eo10;obtain ⟨Ao11, co11, eo11⟩ := Kd.R_slice HO196.out;subst eo11
    go_wp2_with (first|((with_reducible refine gF 25 ?_);refine goZ (some 26) Try.func25 #[.slice Ao10 t197.length co10, .slice Ao11 t193.length co11] ?_;(with_reducible refine (laws_eqSignS.calls k _ _ t197 _ _ t193 true _ ?side1 ?side2 ?side3 ?side4 A8.out).mono ?_);(case side1 => exact cC ((Kd.R_reads' HO200.out).2.2));(case side2 => exact (Kd.R_reads' HO200.out).2.1);(case side3 => exact cC ((Kd.R_reads' HO196.out).2.2));(case side4 => exact (Kd.R_reads' HO196.out).2.1);rintro e w12 ⟨rfl, hb⟩;refine ⟨_, rfl, ?_⟩;replace HO196 := rB HO196 hb;replace HO200 := rB HO200 hb;replace HB := sB hb;(try clear hb)))
    go_meet
    case rel => exact ⟨_, ((t198 != t194)), rS, H', ⟨oL⟩, ⟨by (with_reducible repeat (first | apply Kd.R_alloc | apply Kd.R_drewN | apply Kd.R_drew)); exact Kd.R_mono HO196.out (fun _ hk => hk.2)⟩, ⟨by (with_reducible repeat (first | apply Kd.R_alloc | apply Kd.R_drewN | apply Kd.R_drew)); exact Kd.R_mono HO200.out (fun _ hk => hk.2)⟩, ⟨cB⟩⟩
   ·replace c9 := Bool.eq_false_iff.mpr c9;subst c9;replace H := iF H;have H' := Aside0.mk H;clear H;obtain ⟨Ao13, co13, eo13⟩ := Kd.R_slice HO200.out;subst eo13;obtain ⟨Ao14, co14, eo14⟩ := Kd.R_slice HO196.out;subst eo14
    go_wp2_with (first|((with_reducible refine gF 25 ?_);refine goZ (some 26) Try.func25 #[.slice Ao13 t197.length co13, .slice Ao14 t193.length co14] ?_;(with_reducible refine (laws_eqSignS.calls k _ _ t197 _ _ t193 false _ ?side1 ?side2 ?side3 ?side4 A8.out).mono ?_);(case side1 => exact cC ((Kd.R_reads' HO200.out).2.2));(case side2 => exact (Kd.R_reads' HO200.out).2.1);(case side3 => exact cC ((Kd.R_reads' HO196.out).2.2));(case side4 => exact (Kd.R_reads' HO196.out).2.1);rintro e w15 ⟨rfl, hb⟩;refine ⟨_, rfl, ?_⟩;replace HO196 := rB HO196 hb;replace HO200 := rB HO200 hb;replace HB := sB hb;(try clear hb)))
    go_meet
    case rel => exact ⟨_, (true), rS, H', ⟨oL⟩, ⟨by (with_reducible repeat (first | apply Kd.R_alloc | apply Kd.R_drewN | apply Kd.R_drew)); exact Kd.R_mono HO196.out (fun _ hk => hk.2)⟩, ⟨by (with_reducible repeat (first | apply Kd.R_alloc | apply Kd.R_drewN | apply Kd.R_drew)); exact Kd.R_mono HO200.out (fun _ hk => hk.2)⟩, ⟨cB⟩⟩
  case rest =>
   clear HC5;(try clear c2);(try clear c2b0);(try clear c2b1);(try clear c9);obtain ⟨kq, x32_4, rfl, HA, HJ4, HO_3, HO_5, HB⟩ := hcut
   cases kq with
   | zero => exact absurd HA.out (by simp [laws_FnExactSignsOf.j0])
   | succ kj4 =>
    have H := HA.out;clear HA;simp only [laws_FnExactSignsOf.j0] at H;by_cases c16 : x32_4 = true
    ·subst c16;replace H := iT H;obtain rfl := Option.some.inj H;go_wp2;go_ret;exact ⟨rE, cB⟩
    ·replace c16 := Bool.eq_false_iff.mpr c16;subst c16;replace H := iF H;replace H := bE H;obtain ⟨⟨t202, t203⟩, A17, H⟩ := H;(try dsimp only at H);replace H := bE H;obtain ⟨t204, A18, H⟩ := H;by_cases c19 : t204 < 0
     ·rw [if_pos c19] at H;have c19b0 := decide_eq_true c19;clear c19;obtain rfl := Option.some.inj H;obtain ⟨Ao20, co20, eo20⟩ := Kd.R_slice HO_5.out;subst eo20
      go_wp2_with (first|((with_reducible refine gF 26 ?_);refine goZ (some 35) Try.func26 #[.slice Ao20 t197.length co20, .int .i64 1] ?_;(with_reducible refine (laws_markSignS.calls kj4 (fun k_ => some k_ = (.slice Ao20 t197.length co20 : Value).ownBlock) (.slice Ao20 t197.length co20) t197 1 t202 t203 w _ ?side1 ?side2 A17.out).mono ?_);(case side1 => exact cB);(case side2 => exact Kd.R_tight rfl HO_5.out);rintro e w21 ⟨rfl, hy0, hb, hkp⟩;refine ⟨_, rfl, ?_⟩;replace HO_3 := Aside0.mk (Kd.R_mono (ok' := fun k_ => some k_ ≠ (.slice Ao20 t197.length co20 : Value).ownBlock) (Kd.R_keptB (HO_3.out) hkp (fun k_ hk_ hs_ => (hk_) hs_)) (fun k_ hk_ => hk_.1));replace HO_5 := Aside0.mk (Kd.R_reok rfl hy0 (fun k_ e_ => HO_5.out.1 k_ e_));replace HB := Aside0.mk (hb);(try clear hb);(try clear hkp);(try clear hy0))|((with_reducible refine gF 27 ?_);refine goesL_ (some 38) rfl rfl Try.func27 (by kernel_rfl) rfl #[.slice Ao20 t203.length co20, .int .i64 1] rfl (by (try simp only [List.map_toArray, List.map_cons, List.map_nil]); first | done | (rw [show t203.length = t197.length from (Kd.R_reads' HO_5.out).1.symm] <;> rfl) | rfl | (simp only [List.length_drop, List.length_take]; rfl)) ?_;(with_reducible refine (laws_heldSignS.calls kj4 _ _ t203 1 t204 _ ?side1 ?side2 A18.out).mono ?_);(case side1 => exact cC ((Kd.R_reads' HO_5.out).2.2));(case side2 => rw [show t203.length = t197.length from (Kd.R_reads' HO_5.out).1.symm]; exact (Kd.R_reads' HO_5.out).2.1);rintro e w22 ⟨rfl, hb⟩;refine ⟨_, rfl, ?_⟩;replace HO_3 := rB HO_3 hb;replace HO_5 := rB HO_5 hb;replace HB := sB hb;(try clear hb)))
      go_ret;exact ⟨rE, cB⟩
     ·rw [if_neg c19] at H;have c19b0 := decide_eq_false c19;clear c19;by_cases c23 : t204 = t202
      ·rw [if_pos c23] at H;obtain ⟨c23b0, c23b1⟩ := eT c23;clear c23;replace H := bE H;obtain ⟨⟨t205, t206⟩, A24, H⟩ := H;(try dsimp only at H);have HC25 := Aside0.mk H;clear H;obtain ⟨Ao26, co26, eo26⟩ := Kd.R_slice HO_5.out;subst eo26
       go_upto_region 16 with (first|((with_reducible refine gF 26 ?_);refine goZ (some 35) Try.func26 #[.slice Ao26 t197.length co26, .int .i64 1] ?_;(with_reducible refine (laws_markSignS.calls kj4 (fun k_ => some k_ = (.slice Ao26 t197.length co26 : Value).ownBlock) (.slice Ao26 t197.length co26) t197 1 t202 t203 w _ ?side1 ?side2 A17.out).mono ?_);(case side1 => exact cB);(case side2 => exact Kd.R_tight rfl HO_5.out);rintro e w27 ⟨rfl, hy0, hb, hkp⟩;refine ⟨_, rfl, ?_⟩;replace HO_3 := Aside0.mk (Kd.R_mono (ok' := fun k_ => some k_ ≠ (.slice Ao26 t197.length co26 : Value).ownBlock) (Kd.R_keptB (HO_3.out) hkp (fun k_ hk_ hs_ => (hk_) hs_)) (fun k_ hk_ => hk_.1));replace HO_5 := Aside0.mk (Kd.R_reok rfl hy0 (fun k_ e_ => HO_5.out.1 k_ e_));replace HB := Aside0.mk (hb);(try clear hb);(try clear hkp);(try clear hy0))|((with_reducible refine gF 27 ?_);refine goesL_ (some 38) rfl rfl Try.func27 (by kernel_rfl) rfl #[.slice Ao26 t203.length co26, .int .i64 1] rfl (by (try simp only [List.map_toArray, List.map_cons, List.map_nil]); first | done | (rw [show t203.length = t197.length from (Kd.R_reads' HO_5.out).1.symm] <;> rfl) | rfl | (simp only [List.length_drop, List.length_take]; rfl)) ?_;(with_reducible refine (laws_heldSignS.calls kj4 _ _ t203 1 t204 _ ?side1 ?side2 A18.out).mono ?_);(case side1 => exact cC ((Kd.R_reads' HO_5.out).2.2));(case side2 => rw [show t203.length = t197.length from (Kd.R_reads' HO_5.out).1.symm]; exact (Kd.R_reads' HO_5.out).2.1);rintro e w28 ⟨rfl, hb⟩;refine ⟨_, rfl, ?_⟩;replace HO_3 := rB HO_3 hb;replace HO_5 := rB HO_5 hb;replace HB := sB hb;(try clear hb))|((with_reducible refine gF 24 ?_);refine goZ (some 46) Try.func24 #[.string a0] ?_;(with_reducible refine (impl_SignsOf.calls kj4 a0 t205 t206 _ A24.out).mono ?_);rintro e w29 ⟨v207, rfl, ho0, hb⟩;refine ⟨_, rfl, ?_⟩;have HO208 := Aside0.mk (Kd.R_lower (Kd.R_new' (Kd.R_new' ho0 (Kd.R_lt (mR HO_3))) (Kd.R_lt (mR HO_5))) (below_size cB));replace HO_3 := eB HO_3 (Kd.R_base ho0) hb;replace HO_5 := eB HO_5 (Kd.R_base ho0) hb;replace HB := sB hb;(try clear hb);(try clear ho0)))
       (try simp only [Act.put, List.setIfInBounds_toArray, List.set_cons_zero, List.set_cons_succ])
       go_cut [57] (fun v57 wc => ∃ (kq : Nat) (x57_24 : Bool), v57 = .bool x57_24 ∧ Aside0 (laws_FnExactSignsOf.j1 kq t203 t202 x57_24 = some r) ∧ Aside0 (kq ≤ kj4) ∧ Aside0 (Kd.R k81 81 wc w.heap.size (fun _ => True) (.slice Ao26 t197.length co26) t203) ∧ Aside0 (Below w.heap.size w wc))
       case first =>
        have H := HC25.out;clear HC25;replace H := bE H;obtain ⟨t209, A30, H⟩ := H;by_cases c31 : t209 = true
        ·subst c31;replace H := iT H;have H' := Aside0.mk H;clear H;obtain ⟨Ao32, co32, eo32⟩ := Kd.R_slice HO208.out;subst eo32;obtain ⟨Ao33, co33, eo33⟩ := Kd.R_slice HO_3.out;subst eo33
         go_wp2_with (first|((with_reducible refine gF 25 ?_);refine goZ (some 51) Try.func25 #[.slice Ao32 t205.length co32, .slice Ao33 t193.length co33] ?_;(with_reducible refine (laws_eqSignS.calls kj4 _ _ t205 _ _ t193 true _ ?side1 ?side2 ?side3 ?side4 A30.out).mono ?_);(case side1 => exact cC ((Kd.R_reads' HO208.out).2.2));(case side2 => exact (Kd.R_reads' HO208.out).2.1);(case side3 => exact cC ((Kd.R_reads' HO_3.out).2.2));(case side4 => exact (Kd.R_reads' HO_3.out).2.1);rintro e w34 ⟨rfl, hb⟩;refine ⟨_, rfl, ?_⟩;replace HO_3 := rB HO_3 hb;replace HO_5 := rB HO_5 hb;replace HO208 := rB HO208 hb;replace HB := sB hb;(try clear hb)))
         go_meet
         case rel => exact ⟨_, ((t206 != t194)), rS, H', ⟨by have := HJ4.out; first | omega | exact Nat.le_refl _⟩, ⟨by (with_reducible repeat (first | apply Kd.R_alloc | apply Kd.R_drewN | apply Kd.R_drew)); exact Kd.R_mono HO_5.out (fun _ hk => trivial)⟩, ⟨cB⟩⟩
        ·replace c31 := Bool.eq_false_iff.mpr c31;subst c31;replace H := iF H;have H' := Aside0.mk H;clear H;obtain ⟨Ao35, co35, eo35⟩ := Kd.R_slice HO208.out;subst eo35;obtain ⟨Ao36, co36, eo36⟩ := Kd.R_slice HO_3.out;subst eo36
         go_wp2_with (first|((with_reducible refine gF 25 ?_);refine goZ (some 51) Try.func25 #[.slice Ao35 t205.length co35, .slice Ao36 t193.length co36] ?_;(with_reducible refine (laws_eqSignS.calls kj4 _ _ t205 _ _ t193 false _ ?side1 ?side2 ?side3 ?side4 A30.out).mono ?_);(case side1 => exact cC ((Kd.R_reads' HO208.out).2.2));(case side2 => exact (Kd.R_reads' HO208.out).2.1);(case side3 => exact cC ((Kd.R_reads' HO_3.out).2.2));(case side4 => exact (Kd.R_reads' HO_3.out).2.1);rintro e w37 ⟨rfl, hb⟩;refine ⟨_, rfl, ?_⟩;replace HO_3 := rB HO_3 hb;replace HO_5 := rB HO_5 hb;replace HO208 := rB HO208 hb;replace HB := sB hb;(try clear hb)))
         go_meet
         case rel => exact ⟨_, (true), rS, H', ⟨by have := HJ4.out; first | omega | exact Nat.le_refl _⟩, ⟨by (with_reducible repeat (first | apply Kd.R_alloc | apply Kd.R_drewN | apply Kd.R_drew)); exact Kd.R_mono HO_5.out (fun _ hk => trivial)⟩, ⟨cB⟩⟩
       case rest =>
        clear HC25;(try clear c2);(try clear c2b0);(try clear c2b1);(try clear c9);(try clear c16);(try clear c19);(try clear c19b0);(try clear c23);(try clear c23b0);(try clear c23b1);(try clear c31);obtain ⟨kq, x57_24, rfl, HA, HJ24, HO_5, HB⟩ := hcut;have hl5_24 := (Kd.R_reads' HO_5.out).1;rw [hl5_24] at HO_5;(try simp only [hl5_24])
        cases kq with
        | zero => exact absurd HA.out (by simp [laws_FnExactSignsOf.j1])
        | succ kj24 =>
         have H := HA.out;clear HA;simp only [laws_FnExactSignsOf.j1] at H;by_cases c38 : x57_24 = true
         ·subst c38;replace H := iT H;obtain rfl := Option.some.inj H;go_wp2;go_ret;exact ⟨rE, cB⟩
         ·replace c38 := Bool.eq_false_iff.mpr c38;subst c38;replace H := iF H;replace H := bE H;obtain ⟨t210, A39, H⟩ := H;by_cases c40 : t210 < 0
          ·rw [if_pos c40] at H;have c40b0 := decide_eq_true c40;clear c40;obtain rfl := Option.some.inj H
           go_wp2_with (first|((with_reducible refine gF 27 ?_);refine goZ (some 60) Try.func27 #[.slice Ao26 t203.length co26, .int .i64 1] ?_;(with_reducible refine (laws_heldSignS.calls kj24 _ _ t203 1 t210 _ ?side1 ?side2 A39.out).mono ?_);(case side1 => exact cC ((Kd.R_reads' HO_5.out).2.2));(case side2 => exact (Kd.R_reads' HO_5.out).2.1);rintro e w41 ⟨rfl, hb⟩;refine ⟨_, rfl, ?_⟩;replace HO_5 := rB HO_5 hb;replace HB := sB hb;(try clear hb)))
           go_ret;exact ⟨rE, cB⟩
          ·rw [if_neg c40] at H;have c40b0 := decide_eq_false c40;clear c40;by_cases c42 : t210 = t202
           ·rw [if_pos c42] at H;obtain ⟨c42b0, c42b1⟩ := eT c42;clear c42;obtain rfl := Option.some.inj H
            go_wp2_with (first|((with_reducible refine gF 27 ?_);refine goZ (some 60) Try.func27 #[.slice Ao26 t203.length co26, .int .i64 1] ?_;(with_reducible refine (laws_heldSignS.calls kj24 _ _ t203 1 t210 _ ?side1 ?side2 A39.out).mono ?_);(case side1 => exact cC ((Kd.R_reads' HO_5.out).2.2));(case side2 => exact (Kd.R_reads' HO_5.out).2.1);rintro e w43 ⟨rfl, hb⟩;refine ⟨_, rfl, ?_⟩;replace HO_5 := rB HO_5 hb;replace HB := sB hb;(try clear hb)))
            go_ret;exact ⟨rE, cB⟩
           ·rw [if_neg c42] at H;obtain ⟨c42b0, c42b1⟩ := eF c42;obtain rfl := Option.some.inj H
            go_wp2_with (first|((with_reducible refine gF 27 ?_);refine goZ (some 60) Try.func27 #[.slice Ao26 t203.length co26, .int .i64 1] ?_;(with_reducible refine (laws_heldSignS.calls kj24 _ _ t203 1 t210 _ ?side1 ?side2 A39.out).mono ?_);(case side1 => exact cC ((Kd.R_reads' HO_5.out).2.2));(case side2 => exact (Kd.R_reads' HO_5.out).2.1);rintro e w44 ⟨rfl, hb⟩;refine ⟨_, rfl, ?_⟩;replace HO_5 := rB HO_5 hb;replace HB := sB hb;(try clear hb)))
            go_ret;exact ⟨rE, cB⟩
      ·rw [if_neg c23] at H;obtain ⟨c23b0, c23b1⟩ := eF c23;obtain rfl := Option.some.inj H;obtain ⟨Ao45, co45, eo45⟩ := Kd.R_slice HO_5.out;subst eo45
       go_wp2_with (first|((with_reducible refine gF 26 ?_);refine goZ (some 35) Try.func26 #[.slice Ao45 t197.length co45, .int .i64 1] ?_;(with_reducible refine (laws_markSignS.calls kj4 (fun k_ => some k_ = (.slice Ao45 t197.length co45 : Value).ownBlock) (.slice Ao45 t197.length co45) t197 1 t202 t203 w _ ?side1 ?side2 A17.out).mono ?_);(case side1 => exact cB);(case side2 => exact Kd.R_tight rfl HO_5.out);rintro e w46 ⟨rfl, hy0, hb, hkp⟩;refine ⟨_, rfl, ?_⟩;replace HO_3 := Aside0.mk (Kd.R_mono (ok' := fun k_ => some k_ ≠ (.slice Ao45 t197.length co45 : Value).ownBlock) (Kd.R_keptB (HO_3.out) hkp (fun k_ hk_ hs_ => (hk_) hs_)) (fun k_ hk_ => hk_.1));replace HO_5 := Aside0.mk (Kd.R_reok rfl hy0 (fun k_ e_ => HO_5.out.1 k_ e_));replace HB := Aside0.mk (hb);(try clear hb);(try clear hkp);(try clear hy0))|((with_reducible refine gF 27 ?_);refine goesL_ (some 38) rfl rfl Try.func27 (by kernel_rfl) rfl #[.slice Ao45 t203.length co45, .int .i64 1] rfl (by (try simp only [List.map_toArray, List.map_cons, List.map_nil]); first | done | (rw [show t203.length = t197.length from (Kd.R_reads' HO_5.out).1.symm] <;> rfl) | rfl | (simp only [List.length_drop, List.length_take]; rfl)) ?_;(with_reducible refine (laws_heldSignS.calls kj4 _ _ t203 1 t204 _ ?side1 ?side2 A18.out).mono ?_);(case side1 => exact cC ((Kd.R_reads' HO_5.out).2.2));(case side2 => rw [show t203.length = t197.length from (Kd.R_reads' HO_5.out).1.symm]; exact (Kd.R_reads' HO_5.out).2.1);rintro e w47 ⟨rfl, hb⟩;refine ⟨_, rfl, ?_⟩;replace HO_3 := rB HO_3 hb;replace HO_5 := rB HO_5 hb;replace HB := sB hb;(try clear hb)))
       go_ret;exact ⟨rE, cB⟩
/-- THE ONE PURE STATEMENT of laws_FnExactSignsOf: yours. -/
def laws_FnExactSignsOf.Pure : Prop := ∀ (a0 : ByteArray), a0.size ≤ 140737488351232 → ∃ k, laws_FnExactSignsOf.f k a0 = some true
theorem laws_FnExactSignsOf.walk (P : laws_FnExactSignsOf.Pure) (a0 : ByteArray) (w : World) (w0 : a0.size ≤ 140737488351232) :
    Calls Try.prog 4 #[.string a0] w fun e w' => e = .returned (.bool true) ∧ Below w.heap.size w w' := by
  obtain ⟨k, h⟩ := P a0 w0
  refine (laws_FnExactSignsOf.calls k a0 true w h).mono ?_
  rintro e w' ⟨rfl, hd⟩
  exact ⟨rfl, hd⟩
end Go.Proofs.Ytcmcpmkihpdnjaa.PFnExactSignsOf
