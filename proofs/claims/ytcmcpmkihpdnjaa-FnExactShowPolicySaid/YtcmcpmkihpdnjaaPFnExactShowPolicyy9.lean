import Derived.Test.YtcmcpmkihpdnjaaPFnExactShowPolicyy0
import Derived.Test.YtcmcpmkihpdnjaaPFnExactShowPolicyy8
namespace Go.Proofs.Ytcmcpmkihpdnjaa.PFnExactShowPolicy
open Go.RowKit Go.Proofs.YtcmcpmkihpdnjaaW.PrintWords Go.Proofs.YtcmcpmkihpdnjaaW.PrintLast Go.Proofs.YtcmcpmkihpdnjaaW.PrintMore Go.Proofs.YtcmcpmkihpdnjaaW.Z
attribute [local go_sem] isS max2_int min2_int max_two min_two max_three min_three max_four min_four
set_option linter.unusedVariables false
set_option linter.unusedSimpArgs false
def impl_showWide.f (k : Nat) (a0_0 : Int) (a0_1 : Int) : Option (ByteArray) := (impl_Decimal.f k a0_0).bind fun t281 => (if t281.size + 3 ≤ 9223372036854775807 then ((impl_Decimal.f k a0_1).bind fun t282 => (if (t281 ++ (⟨#[32, 58, 32]⟩ : ByteArray)).size + t282.size ≤ 9223372036854775807 then (some ((t281 ++ (⟨#[32, 58, 32]⟩ : ByteArray)) ++ t282)) else (none))) else (none))
def impl_showWide.T1 : Bool × List (List Nat × List Nat) := (true, [([], []), ([0], [0]), ([1], [1]), ([2], [2]), ([], []), ([4], [4]), ([5, 2], [5]), ([3, 6], [3, 6]), ([7, 6, 0, 1, 2, 3, 4, 5, 6, 7], [7])])
def impl_showWide.B1 : List Nat := [0, 1, 3, 7, 0, 16, 55, 127, 255]
theorem impl_showWide.tab1 : rtab .any (opsOf Try.f83 1) = impl_showWide.T1 := by kernel_rfl
theorem impl_showWide.bits1 : waitsOk impl_showWide.T1.2 impl_showWide.B1 = true := by kernel_rfl
theorem q9x0 {P : Prop} (h : P := by 
 rintro w' ⟨s0, s1⟩
 go_simp
 with_reducible rfl) : P := h
set_option maxHeartbeats 8000000 in
set_option maxRecDepth 100000 in
theorem impl_showWide.calls (k : Nat) (a0_0 : Int) (a0_1 : Int) (r : ByteArray) (w : World) (h : impl_showWide.f k a0_0 a0_1 = some r) :
 Calls Try.prog 83 #[.agg #[.int .i64 a0_0, .int .i64 a0_1]] w fun e w' => e = .returned (.string r) ∧ Below w.heap.size w w' := by
 have hu93 := Try.underlying93;have HB := Aside0.mk (Below.refl w.heap.size w)
 have H : ((impl_Decimal.f k a0_0).bind fun t281 => (if t281.size + 3 ≤ 9223372036854775807 then ((impl_Decimal.f k a0_1).bind fun t282 => (if (t281 ++ (⟨#[32, 58, 32]⟩ : ByteArray)).size + t282.size ≤ 9223372036854775807 then (some ((t281 ++ (⟨#[32, 58, 32]⟩ : ByteArray)) ++ t282)) else (none))) else (none))) = some r := h
 clear h;replace H := bE H;obtain ⟨t281, A2, H⟩ := H;replace H := gC H;obtain ⟨c3, H⟩ := H;have c3b0 := eq_true c3;have c3b1 : decide (t281.size + 3 ≤ 9223372036854775807) = true := decide_eq_true c3
 try have c3b2 : (9223372036854775807 < t281.size + 3) = False := eq_false (Nat.not_lt.2 c3)
 replace H := bE H;obtain ⟨t282, A4, H⟩ := H;replace H := gC H;obtain ⟨c5, H⟩ := H;have c5b0 := eq_true c5;have c5b1 : decide ((t281 ++ (⟨#[32, 58, 32]⟩ : ByteArray)).size + t282.size ≤ 9223372036854775807) = true := decide_eq_true c5
 try have c5b2 : (9223372036854775807 < (t281 ++ (⟨#[32, 58, 32]⟩ : ByteArray)).size + t282.size) = False := eq_false (Nat.not_lt.2 c5)
 try have c5b3 : (9223372036854775807 < t281.size + 3 + t282.size) = False := eq_false (Nat.not_lt.2 (by have h_ := c5; simp only [ByteArray.size_append] at h_; exact h_))
 obtain rfl := Option.some.inj H;go_enter Try.func83, Try.ntmps83
 try go_wp2_with (first|((with_reducible refine gN 1 ?_);refine boxZ 1 #[.int .i64 a0_0, .int .i64 a0_1] 93 ?_;intro gb280 hg w6 hbox hb;have BK280 := Aside0.mk (hbox);have GW280 := gS hg;have GE280 := gS hg;replace HB := sB hb;clear hb hbox hg))
 replace BK280 := Aside0.mk (blk_drew BK280.out);replace HB := Aside0.mk (below_drew1 HB.out)
 refine start_ (n := 9) (S := fun w' => w'.cell? ⟨gb280, 0, none⟩ = some (.int .i64 a0_0) ∧ w'.cell? ⟨gb280, 1, none⟩ = some (.int .i64 a0_1)) (ds := []) #[false, false, false, false, false, false, false, false, false] (by kernel_rfl) rfl rfl ⟨(blk_cell BK280.out 0).trans rfl, (blk_cell BK280.out 1).trans rfl⟩ (fun hHeld => ?_); refine with_tabW impl_showWide.tab1 impl_showWide.bits1 (fun HT_ HW_ => ?_)
 generalize w6.drew = w7 at BK280 HB hHeld ⊢;refine pureZ 0 (some 3) (msk 9 1) HT_.out ?_;refine pureZ 4 (some 7) (msk 9 17) HT_.out ?_;refine takeZ 1 (some 4) (msk 9 19) HT_.out HW_.out hHeld (hy := q9x0) (h := ?_);refine takeZ 5 (some 8) (msk 9 51) HT_.out HW_.out hHeld (hy := q9x0) (h := ?_)
 refine one_Z 2 (some 5) (msk 9 55) HT_.out fun K hK => ?_
 refine goes_ Try.func81 (by kernel_rfl) rfl #[.int .i64 a0_0] (by rfl) rfl rfl (by (try simp only [List.map_toArray, List.map_cons, List.map_nil]); first | done | rfl | (simp only [List.length_drop, List.length_take]; rfl)) ?_
 with_reducible refine (impl_Decimal.calls k a0_0 t281 _ A2.out).mono ?_;rintro e w8 ⟨rfl, hb⟩;refine ⟨_, rfl, ?_⟩;replace BK280 := kB BK280 hb;replace HB := sB hb;(try clear hb)
 refine hK.out _ _ ⟨(blk_cell BK280.out 0).trans rfl, (blk_cell BK280.out 1).trans rfl⟩ (fun hHeld => ?_)
 clear hK K;refine normZ (some 5) ?_
 refine pureZ 3 (some 6) (msk 9 63) HT_.out ?_
 refine one_Z 6 (some 9) (msk 9 127) HT_.out fun K hK => ?_
 refine goes_ Try.func81 (by kernel_rfl) rfl #[.int .i64 a0_1] (by rfl) rfl rfl (by (try simp only [List.map_toArray, List.map_cons, List.map_nil]); first | done | rfl | (simp only [List.length_drop, List.length_take]; rfl)) ?_
 with_reducible refine (impl_Decimal.calls k a0_1 t282 _ A4.out).mono ?_;rintro e w9 ⟨rfl, hb⟩;refine ⟨_, rfl, ?_⟩;replace BK280 := kB BK280 hb;replace HB := sB hb;(try clear hb)
 refine hK.out _ _ ⟨(blk_cell BK280.out 0).trans rfl, (blk_cell BK280.out 1).trans rfl⟩ (fun hHeld => ?_)
 clear hK K;refine normZ (some 9) ?_
 refine pureZ 7 (some 10) (msk 9 255) HT_.out ?_;refine pureZ 8 (some 2) (msk 9 511) HT_.out ?_
 refine done_ (done_of HT_.out (by kernel_rfl)) ?_
 try go_wp2
 go_ret;exact ⟨rE, cB⟩
def impl_cmMarks.f  : Option (List ByteArray) := some (([(⟨#[61, 61]⟩ : ByteArray), (⟨#[33, 61]⟩ : ByteArray), (⟨#[60]⟩ : ByteArray), (⟨#[60, 61]⟩ : ByteArray), (⟨#[62]⟩ : ByteArray), (⟨#[62, 61]⟩ : ByteArray)] : List ByteArray))
set_option maxHeartbeats 8000000 in
set_option maxRecDepth 100000 in
theorem impl_cmMarks.calls  (r : List ByteArray) (w : World) (h : impl_cmMarks.f  = some r) :
 Calls Try.prog 84 #[] w fun e w' => ∃ v0_ : Value, e = .returned (v0_) ∧ Kd.R Kd.string 9 w' w.heap.size (fun _ => True) v0_ r ∧ Below w.heap.size w w' := by
 have HB := Aside0.mk (Below.refl w.heap.size w);have H : (some (([(⟨#[61, 61]⟩ : ByteArray), (⟨#[33, 61]⟩ : ByteArray), (⟨#[60]⟩ : ByteArray), (⟨#[60, 61]⟩ : ByteArray), (⟨#[62]⟩ : ByteArray), (⟨#[62, 61]⟩ : ByteArray)] : List ByteArray))) = some r := h;clear h;obtain ⟨y283, Ny283⟩ : ∃ y_ : List ByteArray, Aside0 (y_ = (([(⟨#[61, 61]⟩ : ByteArray), (⟨#[33, 61]⟩ : ByteArray), (⟨#[60]⟩ : ByteArray), (⟨#[60, 61]⟩ : ByteArray), (⟨#[62]⟩ : ByteArray), (⟨#[62, 61]⟩ : ByteArray)] : List ByteArray))) := ⟨_, ⟨rfl⟩⟩;rw [← Ny283.out] at H;obtain rfl := Option.some.inj H;go_enter Try.func84, Try.ntmps84
 go_wp2_with (first|((with_reducible refine gN 1 ?_);refine Kd.R_lit Kd.string _ 9 ?hg (N := 1) ?hd (xs := ([(⟨#[61, 61]⟩ : ByteArray), (⟨#[33, 61]⟩ : ByteArray), (⟨#[60]⟩ : ByteArray), (⟨#[60, 61]⟩ : ByteArray), (⟨#[62]⟩ : ByteArray), (⟨#[62, 61]⟩ : ByteArray)] : List ByteArray)) (inner := [.string (⟨#[61, 61]⟩ : ByteArray), .string (⟨#[33, 61]⟩ : ByteArray), .string (⟨#[60]⟩ : ByteArray), .string (⟨#[60, 61]⟩ : ByteArray), .string (⟨#[62]⟩ : ByteArray), .string (⟨#[62, 61]⟩ : ByteArray)]) (ok := fun _ => True) (okp := fun _ => True) ?hr ?hp (fun _ hk => hk) trivial (Below.refl _ _) (Nat.le_refl _) (by simp) ?_;(case hd => rfl);(case hg => rfl);(case hr => exact rG);(case hp => exact (Reps.one (show Kd.M Kd.string _ _ _ (⟨#[61, 61]⟩ : ByteArray) [.string (⟨#[61, 61]⟩ : ByteArray)] from rfl) (Reps.one (show Kd.M Kd.string _ _ _ (⟨#[33, 61]⟩ : ByteArray) [.string (⟨#[33, 61]⟩ : ByteArray)] from rfl) (Reps.one (show Kd.M Kd.string _ _ _ (⟨#[60]⟩ : ByteArray) [.string (⟨#[60]⟩ : ByteArray)] from rfl) (Reps.one (show Kd.M Kd.string _ _ _ (⟨#[60, 61]⟩ : ByteArray) [.string (⟨#[60, 61]⟩ : ByteArray)] from rfl) (Reps.one (show Kd.M Kd.string _ _ _ (⟨#[62]⟩ : ByteArray) [.string (⟨#[62]⟩ : ByteArray)] from rfl) (Reps.one (show Kd.M Kd.string _ _ _ (⟨#[62, 61]⟩ : ByteArray) [.string (⟨#[62, 61]⟩ : ByteArray)] from rfl) (Reps.none _ _))))))));intro v284 w1 ho2 hb hg_ hnew_;clear hg_ hnew_;(first | rw [← Ny283.out] at ho2 | (simp only [Int.reduceToNat] at ho2; rw [← Ny283.out] at ho2));have HO285 := Aside0.mk (Kd.R_lower ho2 (below_size cB));replace HB := sB hb;clear hb ho2))
 go_ret;exact ⟨_, rE, mR HO285, cB⟩
end Go.Proofs.Ytcmcpmkihpdnjaa.PFnExactShowPolicy
