import Derived.Test.YtcmcpmkihpdnjaaPFnExactShowPolicyy0
import Derived.Test.YtcmcpmkihpdnjaaPFnExactShowPolicyy3
import Derived.Test.YtcmcpmkihpdnjaaPFnExactShowPolicyy4
namespace Go.Proofs.Ytcmcpmkihpdnjaa.PFnExactShowPolicy
open Go.RowKit Go.Proofs.YtcmcpmkihpdnjaaW.PrintWords Go.Proofs.YtcmcpmkihpdnjaaW.PrintLast Go.Proofs.YtcmcpmkihpdnjaaW.PrintMore Go.Proofs.YtcmcpmkihpdnjaaW.Z
attribute [local go_sem] isS max2_int min2_int max_two min_two max_three min_three max_four min_four
set_option linter.unusedVariables false
set_option linter.unusedSimpArgs false
def spec_ActionName.f (a0 : Int) : Option (ByteArray) := (spec_l01In.f a0 0 5).bind fun t216 => (if t216 = true then ((spec_l05Names.f).bind fun t217 => (if 0 ≤ a0 then (if a0 < (t217.length : Int) then (some (rdOf ByteArray.empty t217 a0)) else (none)) else (none))) else (some (⟨#[]⟩ : ByteArray)))
set_option maxHeartbeats 8000000 in
set_option maxRecDepth 100000 in
theorem spec_ActionName.calls (a0 : Int) (r : ByteArray) (w : World) (h : spec_ActionName.f a0 = some r) :
 Calls Try.prog 121 #[.int .i64 a0] w fun e w' => e = .returned (.string r) ∧ Below w.heap.size w w' := by
 have HB := Aside0.mk (Below.refl w.heap.size w)
 have H : ((spec_l01In.f a0 0 5).bind fun t216 => (if t216 = true then ((spec_l05Names.f).bind fun t217 => (if 0 ≤ a0 then (if a0 < (t217.length : Int) then (some (rdOf ByteArray.empty t217 a0)) else (none)) else (none))) else (some (⟨#[]⟩ : ByteArray)))) = some r := h
 clear h;replace H := bE H;obtain ⟨t216, A2, H⟩ := H;by_cases c3 : t216 = true
 ·subst c3;replace H := iT H;replace H := bE H;obtain ⟨t217, A4, H⟩ := H;replace H := gD H;obtain ⟨c5b0, H⟩ := H;replace H := gD H;obtain ⟨c6b0, H⟩ := H;obtain rfl := Option.some.inj H;go_enter Try.func121, Try.ntmps121
  go_wp2_with (first|((with_reducible refine gF 112 ?_);refine goZ (some 4) Try.func112 #[.int .i64 a0, .int .i64 0, .int .i64 5] ?_;(with_reducible refine (spec_l01In.calls a0 0 5 true _ A2.out).mono ?_);rintro e w' ⟨rfl, ⟨nd, rfl⟩⟩;refine ⟨_, rfl, ?_⟩)|((with_reducible refine gF 138 ?_);refine goZ (some 6) Try.func138 #[] ?_;(with_reducible refine (spec_l05Names.calls  t217 _ A4.out).mono ?_);rintro e w7 ⟨v218, rfl, ho0, hb⟩;refine ⟨_, rfl, ?_⟩;have HO219 := Aside0.mk (Kd.R_lower ho0 (below_size cB));replace HB := sB hb;(try clear hb);(try clear ho0);obtain ⟨Ao8, co8, eo8⟩ := Kd.R_slice HO219.out;subst eo8;have p220 : 0 ≤ (a0 : Int) := dA;have q220 : a0 < (t217.length : Int) := dA;obtain ⟨ad220, e220, hx220_0⟩ := Kd.at_string (Kd.R_reads' HO219.out).2.2 a0 p220 q220;cases e220;replace p220 := eq_true p220;replace q220 := eq_true q220))
  go_ret;exact ⟨rE, cB⟩
 ·replace c3 := Bool.eq_false_iff.mpr c3;subst c3;replace H := iF H;obtain rfl := Option.some.inj H;go_enter Try.func121, Try.ntmps121
  go_wp2_with (first|((with_reducible refine gF 112 ?_);refine goZ (some 4) Try.func112 #[.int .i64 a0, .int .i64 0, .int .i64 5] ?_;(with_reducible refine (spec_l01In.calls a0 0 5 false _ A2.out).mono ?_);rintro e w' ⟨rfl, ⟨nd, rfl⟩⟩;refine ⟨_, rfl, ?_⟩))
  go_ret;exact ⟨rE, cB⟩
def spec_l10Act.f (k : Nat) (a0 : Int) (a1 : Int) : Option (ByteArray) := (spec_ActionName.f a0).bind fun t221 => (if t221.size + 1 ≤ 9223372036854775807 then ((spec_l08Figures.f k a1).bind fun t222 => (if (t221 ++ (⟨#[32]⟩ : ByteArray)).size + t222.size ≤ 9223372036854775807 then (some ((t221 ++ (⟨#[32]⟩ : ByteArray)) ++ t222)) else (none))) else (none))
set_option maxHeartbeats 8000000 in
set_option maxRecDepth 100000 in
theorem spec_l10Act.calls (k : Nat) (a0 : Int) (a1 : Int) (r : ByteArray) (w : World) (h : spec_l10Act.f k a0 a1 = some r) :
 Calls Try.prog 78 #[.int .i64 a0, .int .i64 a1] w fun e w' => e = .returned (.string r) ∧ Below w.heap.size w w' := by
 have HB := Aside0.mk (Below.refl w.heap.size w)
 have H : ((spec_ActionName.f a0).bind fun t221 => (if t221.size + 1 ≤ 9223372036854775807 then ((spec_l08Figures.f k a1).bind fun t222 => (if (t221 ++ (⟨#[32]⟩ : ByteArray)).size + t222.size ≤ 9223372036854775807 then (some ((t221 ++ (⟨#[32]⟩ : ByteArray)) ++ t222)) else (none))) else (none))) = some r := h
 clear h;replace H := bE H;obtain ⟨t221, A3, H⟩ := H;replace H := gC H;obtain ⟨c4, H⟩ := H;have c4b0 := eq_true c4;have c4b1 : decide (t221.size + 1 ≤ 9223372036854775807) = true := decide_eq_true c4
 try have c4b2 : (9223372036854775807 < t221.size + 1) = False := eq_false (Nat.not_lt.2 c4)
 replace H := bE H;obtain ⟨t222, A5, H⟩ := H;replace H := gC H;obtain ⟨c6, H⟩ := H;have c6b0 := eq_true c6;have c6b1 : decide ((t221 ++ (⟨#[32]⟩ : ByteArray)).size + t222.size ≤ 9223372036854775807) = true := decide_eq_true c6
 try have c6b2 : (9223372036854775807 < (t221 ++ (⟨#[32]⟩ : ByteArray)).size + t222.size) = False := eq_false (Nat.not_lt.2 c6)
 try have c6b3 : (9223372036854775807 < t221.size + 1 + t222.size) = False := eq_false (Nat.not_lt.2 (by have h_ := c6; simp only [ByteArray.size_append] at h_; exact h_))
 obtain rfl := Option.some.inj H;go_enter Try.func78, Try.ntmps78
 go_wp2_with (first|((with_reducible refine gF 121 ?_);refine goZ (some 6) Try.func121 #[.int .i64 a0] ?_;(with_reducible refine (spec_ActionName.calls a0 t221 _ A3.out).mono ?_);rintro e w7 ⟨rfl, hb⟩;refine ⟨_, rfl, ?_⟩;replace HB := sB hb;(try clear hb))|((with_reducible refine gF 77 ?_);refine goZ (some 9) Try.func77 #[.int .i64 a1] ?_;(with_reducible refine (spec_l08Figures.calls k a1 t222 _ A5.out).mono ?_);rintro e w8 ⟨rfl, hb⟩;refine ⟨_, rfl, ?_⟩;replace HB := sB hb;(try clear hb)))
 go_ret;exact ⟨rE, cB⟩
def spec_l10Wide.f (k : Nat) (a0_0 : Int) (a0_1 : Int) : Option (ByteArray) := (spec_l08Figures.f k a0_0).bind fun t224 => (if t224.size + 3 ≤ 9223372036854775807 then ((spec_l08Figures.f k a0_1).bind fun t225 => (if (t224 ++ (⟨#[32, 58, 32]⟩ : ByteArray)).size + t225.size ≤ 9223372036854775807 then (some ((t224 ++ (⟨#[32, 58, 32]⟩ : ByteArray)) ++ t225)) else (none))) else (none))
def spec_l10Wide.T1 : Bool × List (List Nat × List Nat) := (true, [([], []), ([0], [0]), ([1], [1]), ([2], [2]), ([], []), ([4], [4]), ([5, 2], [5]), ([3, 6], [3, 6]), ([7, 6, 0, 1, 2, 3, 4, 5, 6, 7], [7])])
def spec_l10Wide.B1 : List Nat := [0, 1, 3, 7, 0, 16, 55, 127, 255]
theorem spec_l10Wide.tab1 : rtab .any (opsOf Try.f122 1) = spec_l10Wide.T1 := by kernel_rfl
theorem spec_l10Wide.bits1 : waitsOk spec_l10Wide.T1.2 spec_l10Wide.B1 = true := by kernel_rfl
theorem q5x0 {P : Prop} (h : P := by 
 rintro w' ⟨s0, s1⟩
 go_simp
 with_reducible rfl) : P := h
set_option maxHeartbeats 8000000 in
set_option maxRecDepth 100000 in
theorem spec_l10Wide.calls (k : Nat) (a0_0 : Int) (a0_1 : Int) (r : ByteArray) (w : World) (h : spec_l10Wide.f k a0_0 a0_1 = some r) :
 Calls Try.prog 122 #[.agg #[.int .i64 a0_0, .int .i64 a0_1]] w fun e w' => e = .returned (.string r) ∧ Below w.heap.size w w' := by
 have hu93 := Try.underlying93;have HB := Aside0.mk (Below.refl w.heap.size w)
 have H : ((spec_l08Figures.f k a0_0).bind fun t224 => (if t224.size + 3 ≤ 9223372036854775807 then ((spec_l08Figures.f k a0_1).bind fun t225 => (if (t224 ++ (⟨#[32, 58, 32]⟩ : ByteArray)).size + t225.size ≤ 9223372036854775807 then (some ((t224 ++ (⟨#[32, 58, 32]⟩ : ByteArray)) ++ t225)) else (none))) else (none))) = some r := h
 clear h;replace H := bE H;obtain ⟨t224, A2, H⟩ := H;replace H := gC H;obtain ⟨c3, H⟩ := H;have c3b0 := eq_true c3;have c3b1 : decide (t224.size + 3 ≤ 9223372036854775807) = true := decide_eq_true c3
 try have c3b2 : (9223372036854775807 < t224.size + 3) = False := eq_false (Nat.not_lt.2 c3)
 replace H := bE H;obtain ⟨t225, A4, H⟩ := H;replace H := gC H;obtain ⟨c5, H⟩ := H;have c5b0 := eq_true c5;have c5b1 : decide ((t224 ++ (⟨#[32, 58, 32]⟩ : ByteArray)).size + t225.size ≤ 9223372036854775807) = true := decide_eq_true c5
 try have c5b2 : (9223372036854775807 < (t224 ++ (⟨#[32, 58, 32]⟩ : ByteArray)).size + t225.size) = False := eq_false (Nat.not_lt.2 c5)
 try have c5b3 : (9223372036854775807 < t224.size + 3 + t225.size) = False := eq_false (Nat.not_lt.2 (by have h_ := c5; simp only [ByteArray.size_append] at h_; exact h_))
 obtain rfl := Option.some.inj H;go_enter Try.func122, Try.ntmps122
 try go_wp2_with (first|((with_reducible refine gN 1 ?_);refine boxZ 1 #[.int .i64 a0_0, .int .i64 a0_1] 93 ?_;intro gb223 hg w6 hbox hb;have BK223 := Aside0.mk (hbox);have GW223 := gS hg;have GE223 := gS hg;replace HB := sB hb;clear hb hbox hg))
 replace BK223 := Aside0.mk (blk_drew BK223.out);replace HB := Aside0.mk (below_drew1 HB.out)
 refine start_ (n := 9) (S := fun w' => w'.cell? ⟨gb223, 0, none⟩ = some (.int .i64 a0_0) ∧ w'.cell? ⟨gb223, 1, none⟩ = some (.int .i64 a0_1)) (ds := []) #[false, false, false, false, false, false, false, false, false] (by kernel_rfl) rfl rfl ⟨(blk_cell BK223.out 0).trans rfl, (blk_cell BK223.out 1).trans rfl⟩ (fun hHeld => ?_); refine with_tabW spec_l10Wide.tab1 spec_l10Wide.bits1 (fun HT_ HW_ => ?_)
 generalize w6.drew = w7 at BK223 HB hHeld ⊢;refine pureZ 0 (some 3) (msk 9 1) HT_.out ?_;refine pureZ 4 (some 7) (msk 9 17) HT_.out ?_;refine takeZ 1 (some 4) (msk 9 19) HT_.out HW_.out hHeld (hy := q5x0) (h := ?_);refine takeZ 5 (some 8) (msk 9 51) HT_.out HW_.out hHeld (hy := q5x0) (h := ?_)
 refine one_Z 2 (some 5) (msk 9 55) HT_.out fun K hK => ?_
 refine goes_ Try.func77 (by kernel_rfl) rfl #[.int .i64 a0_0] (by rfl) rfl rfl (by (try simp only [List.map_toArray, List.map_cons, List.map_nil]); first | done | rfl | (simp only [List.length_drop, List.length_take]; rfl)) ?_
 with_reducible refine (spec_l08Figures.calls k a0_0 t224 _ A2.out).mono ?_;rintro e w8 ⟨rfl, hb⟩;refine ⟨_, rfl, ?_⟩;replace BK223 := kB BK223 hb;replace HB := sB hb;(try clear hb)
 refine hK.out _ _ ⟨(blk_cell BK223.out 0).trans rfl, (blk_cell BK223.out 1).trans rfl⟩ (fun hHeld => ?_)
 clear hK K;refine normZ (some 5) ?_
 refine pureZ 3 (some 6) (msk 9 63) HT_.out ?_
 refine one_Z 6 (some 9) (msk 9 127) HT_.out fun K hK => ?_
 refine goes_ Try.func77 (by kernel_rfl) rfl #[.int .i64 a0_1] (by rfl) rfl rfl (by (try simp only [List.map_toArray, List.map_cons, List.map_nil]); first | done | rfl | (simp only [List.length_drop, List.length_take]; rfl)) ?_
 with_reducible refine (spec_l08Figures.calls k a0_1 t225 _ A4.out).mono ?_;rintro e w9 ⟨rfl, hb⟩;refine ⟨_, rfl, ?_⟩;replace BK223 := kB BK223 hb;replace HB := sB hb;(try clear hb)
 refine hK.out _ _ ⟨(blk_cell BK223.out 0).trans rfl, (blk_cell BK223.out 1).trans rfl⟩ (fun hHeld => ?_)
 clear hK K;refine normZ (some 9) ?_
 refine pureZ 7 (some 10) (msk 9 255) HT_.out ?_;refine pureZ 8 (some 2) (msk 9 511) HT_.out ?_
 refine done_ (done_of HT_.out (by kernel_rfl)) ?_
 try go_wp2
 go_ret;exact ⟨rE, cB⟩
def spec_l10Cms.f  : Option (List ByteArray) := some (([(⟨#[]⟩ : ByteArray), (⟨#[61, 61]⟩ : ByteArray), (⟨#[33, 61]⟩ : ByteArray), (⟨#[60]⟩ : ByteArray), (⟨#[60, 61]⟩ : ByteArray), (⟨#[62]⟩ : ByteArray), (⟨#[62, 61]⟩ : ByteArray)] : List ByteArray))
set_option maxHeartbeats 8000000 in
set_option maxRecDepth 100000 in
theorem spec_l10Cms.calls  (r : List ByteArray) (w : World) (h : spec_l10Cms.f  = some r) :
 Calls Try.prog 123 #[] w fun e w' => ∃ v0_ : Value, e = .returned (v0_) ∧ Kd.R Kd.string 9 w' w.heap.size (fun _ => True) v0_ r ∧ Below w.heap.size w w' := by
 have HB := Aside0.mk (Below.refl w.heap.size w);have H : (some (([(⟨#[]⟩ : ByteArray), (⟨#[61, 61]⟩ : ByteArray), (⟨#[33, 61]⟩ : ByteArray), (⟨#[60]⟩ : ByteArray), (⟨#[60, 61]⟩ : ByteArray), (⟨#[62]⟩ : ByteArray), (⟨#[62, 61]⟩ : ByteArray)] : List ByteArray))) = some r := h;clear h;obtain ⟨y226, Ny226⟩ : ∃ y_ : List ByteArray, Aside0 (y_ = (([(⟨#[]⟩ : ByteArray), (⟨#[61, 61]⟩ : ByteArray), (⟨#[33, 61]⟩ : ByteArray), (⟨#[60]⟩ : ByteArray), (⟨#[60, 61]⟩ : ByteArray), (⟨#[62]⟩ : ByteArray), (⟨#[62, 61]⟩ : ByteArray)] : List ByteArray))) := ⟨_, ⟨rfl⟩⟩;rw [← Ny226.out] at H;obtain rfl := Option.some.inj H;go_enter Try.func123, Try.ntmps123
 go_wp2_with (first|((with_reducible refine gN 1 ?_);refine Kd.R_lit Kd.string _ 9 ?hg (N := 1) ?hd (xs := ([(⟨#[]⟩ : ByteArray), (⟨#[61, 61]⟩ : ByteArray), (⟨#[33, 61]⟩ : ByteArray), (⟨#[60]⟩ : ByteArray), (⟨#[60, 61]⟩ : ByteArray), (⟨#[62]⟩ : ByteArray), (⟨#[62, 61]⟩ : ByteArray)] : List ByteArray)) (inner := [.string (⟨#[]⟩ : ByteArray), .string (⟨#[61, 61]⟩ : ByteArray), .string (⟨#[33, 61]⟩ : ByteArray), .string (⟨#[60]⟩ : ByteArray), .string (⟨#[60, 61]⟩ : ByteArray), .string (⟨#[62]⟩ : ByteArray), .string (⟨#[62, 61]⟩ : ByteArray)]) (ok := fun _ => True) (okp := fun _ => True) ?hr ?hp (fun _ hk => hk) trivial (Below.refl _ _) (Nat.le_refl _) (by simp) ?_;(case hd => rfl);(case hg => rfl);(case hr => exact rG);(case hp => exact (Reps.one (show Kd.M Kd.string _ _ _ (⟨#[]⟩ : ByteArray) [.string (⟨#[]⟩ : ByteArray)] from rfl) (Reps.one (show Kd.M Kd.string _ _ _ (⟨#[61, 61]⟩ : ByteArray) [.string (⟨#[61, 61]⟩ : ByteArray)] from rfl) (Reps.one (show Kd.M Kd.string _ _ _ (⟨#[33, 61]⟩ : ByteArray) [.string (⟨#[33, 61]⟩ : ByteArray)] from rfl) (Reps.one (show Kd.M Kd.string _ _ _ (⟨#[60]⟩ : ByteArray) [.string (⟨#[60]⟩ : ByteArray)] from rfl) (Reps.one (show Kd.M Kd.string _ _ _ (⟨#[60, 61]⟩ : ByteArray) [.string (⟨#[60, 61]⟩ : ByteArray)] from rfl) (Reps.one (show Kd.M Kd.string _ _ _ (⟨#[62]⟩ : ByteArray) [.string (⟨#[62]⟩ : ByteArray)] from rfl) (Reps.one (show Kd.M Kd.string _ _ _ (⟨#[62, 61]⟩ : ByteArray) [.string (⟨#[62, 61]⟩ : ByteArray)] from rfl) (Reps.none _ _)))))))));intro v227 w1 ho2 hb hg_ hnew_;clear hg_ hnew_;(first | rw [← Ny226.out] at ho2 | (simp only [Int.reduceToNat] at ho2; rw [← Ny226.out] at ho2));have HO228 := Aside0.mk (Kd.R_lower ho2 (below_size cB));replace HB := sB hb;clear hb ho2))
 go_ret;exact ⟨_, rE, mR HO228, cB⟩
end Go.Proofs.Ytcmcpmkihpdnjaa.PFnExactShowPolicy
