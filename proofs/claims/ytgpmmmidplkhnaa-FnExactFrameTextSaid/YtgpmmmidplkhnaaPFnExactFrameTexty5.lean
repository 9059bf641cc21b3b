import Derived.Test.YtgpmmmidplkhnaaPFnExactFrameTexty0
import Derived.Test.YtgpmmmidplkhnaaPFnExactFrameTexty4
namespace Go.Proofs.Ytgpmmmidplkhnaa.PFnExactFrameText
open Go.RowKit Go.Proofs.YtgpmmmidplkhnaaW.PrintWords Go.Proofs.YtgpmmmidplkhnaaW.PrintLast Go.Proofs.YtgpmmmidplkhnaaW.PrintMore Go.Proofs.YtgpmmmidplkhnaaW.Z
attribute [local go_sem] isS max2_int min2_int max_two min_two max_three min_three max_four min_four
set_option linter.unusedVariables false
set_option linter.unusedSimpArgs false
theorem qh5x0 {P : Prop} (h : P := by exact ⟨(blk_cell BK179.out 0).trans rfl, (blk_cell BK179.out 1).trans rfl, (blk_cell BK179.out 2).trans rfl, (blk_cell BK179.out 3).trans rfl, (blk_cell BK179.out 4).trans rfl, (blk_cell BK179.out 5).trans rfl, (blk_cell BK179.out 6).trans rfl⟩) : P := h
def impl_FrameText.f (k : Nat) (a0_0 : Int) (a0_1 : Int) (a0_2 : Int) (a0_3 : Int) (a0_4 : Int) (a0_5 : Int) (a0_6 : Int) : Option (ByteArray × Bool) := (impl_FrameOk.f k a0_0 a0_1 a0_2 a0_3 a0_4 a0_5 a0_6).bind fun t180 => (if t180 = true then ((impl_VarText.f k a0_2).bind fun bt181 => ((impl_VarText.f k a0_6).bind fun bt183 => ((some (([(a0_0) % 256, (a0_1) % 256] : List Int) : List Int)).bind fun y185 => (if (strOfNums y185).size + bt181.1.size ≤ 9223372036854775807 then ((some (([(a0_3) % 256] : List Int) : List Int)).bind fun y188 => (if ((strOfNums y185) ++ bt181.1).size + (strOfNums y188).size ≤ 9223372036854775807 then ((impl_four.f a0_4).bind fun t191 => (if (((strOfNums y185) ++ bt181.1) ++ (strOfNums y188)).size + t191.size ≤ 9223372036854775807 then ((impl_four.f a0_5).bind fun t192 => (if ((((strOfNums y185) ++ bt181.1) ++ (strOfNums y188)) ++ t191).size + t192.size ≤ 9223372036854775807 then (if (((((strOfNums y185) ++ bt181.1) ++ (strOfNums y188)) ++ t191) ++ t192).size + bt183.1.size ≤ 9223372036854775807 then ((impl_Sealed.f k ((((((strOfNums y185) ++ bt181.1) ++ (strOfNums y188)) ++ t191) ++ t192) ++ bt183.1)).bind fun bt193 => (some (bt193.1, bt193.2))) else (none)) else (none))) else (none))) else (none))) else (none))))) else (some ((⟨#[]⟩ : ByteArray), false)))
def impl_FrameText.T5 : Bool × List (List Nat × List Nat) := (true, [([], []), ([0], [0]), ([1], [1]), ([], []), ([3], [3]), ([4], [4]), ([2, 5], [2, 5]), ([6], [6]), ([], []), ([7, 8], [7, 8]), ([], []), ([10], [10]), ([11], [11]), ([12], [12]), ([13], [13]), ([14], [14]), ([9, 15], [9, 15]), ([], []), ([17], [17]), ([18], [18]), ([19], [19]), ([16, 20], [16, 20]), ([], []), ([22], [22]), ([23], [23]), ([24, 20], [24]), ([21, 25], [21, 25]), ([], []), ([26, 27], [26, 27]), ([28, 25], [28]), ([29], [29]), ([29], [29]), ([30, 29, 0, 1, 2, 3, 4, 5, 6, 7, 8, 9, 10, 11, 12, 13, 14, 15, 16, 17, 18, 19, 20, 21, 22, 23, 24, 25, 26, 27, 28, 29, 30, 31], [30]), ([31, 32, 0, 1, 2, 3, 4, 5, 6, 7, 8, 9, 10, 11, 12, 13, 14, 15, 16, 17, 18, 19, 20, 21, 22, 23, 24, 25, 26, 27, 28, 29, 30, 31, 32], [31])])
def impl_FrameText.B5 : List Nat := [0, 1, 3, 0, 8, 24, 63, 127, 0, 511, 0, 1024, 3072, 7168, 15360, 31744, 65535, 0, 131072, 393216, 917504, 2097151, 0, 4194304, 12582912, 31326208, 67108863, 0, 268435455, 536870911, 1073741823, 1073741823, 4294967295, 8589934591]
theorem impl_FrameText.tab5 : rtab .any (opsOf Try.f14 5) = impl_FrameText.T5 := by kernel_rfl
theorem impl_FrameText.bits5 : waitsOk impl_FrameText.T5.2 impl_FrameText.B5 = true := by kernel_rfl
theorem q5x0 {P : Prop} (h : P := by 
 rintro w' ⟨s0, s1, s2, s3, s4, s5, s6⟩
 go_simp
 with_reducible rfl) : P := h
set_option maxHeartbeats 8000000 in
set_option maxRecDepth 100000 in
theorem impl_FrameText.calls (k : Nat) (a0_0 : Int) (a0_1 : Int) (a0_2 : Int) (a0_3 : Int) (a0_4 : Int) (a0_5 : Int) (a0_6 : Int) (r1 : ByteArray) (r2 : Bool) (w : World) (h : impl_FrameText.f k a0_0 a0_1 a0_2 a0_3 a0_4 a0_5 a0_6 = some (r1, r2)) :
 Calls Try.prog 14 #[.agg #[.int .i64 a0_0, .int .i64 a0_1, .int .i64 a0_2, .int .i64 a0_3, .int .i64 a0_4, .int .i64 a0_5, .int .i64 a0_6]] w fun e w' => e = .returned (.tuple #[.string r1, .bool r2]) ∧ Below w.heap.size w w' := by
 have hu37 := Try.underlying37;have HB := Aside0.mk (Below.refl w.heap.size w)
 have H : ((impl_FrameOk.f k a0_0 a0_1 a0_2 a0_3 a0_4 a0_5 a0_6).bind fun t180 => (if t180 = true then ((impl_VarText.f k a0_2).bind fun bt181 => ((impl_VarText.f k a0_6).bind fun bt183 => ((some (([(a0_0) % 256, (a0_1) % 256] : List Int) : List Int)).bind fun y185 => (if (strOfNums y185).size + bt181.1.size ≤ 9223372036854775807 then ((some (([(a0_3) % 256] : List Int) : List Int)).bind fun y188 => (if ((strOfNums y185) ++ bt181.1).size + (strOfNums y188).size ≤ 9223372036854775807 then ((impl_four.f a0_4).bind fun t191 => (if (((strOfNums y185) ++ bt181.1) ++ (strOfNums y188)).size + t191.size ≤ 9223372036854775807 then ((impl_four.f a0_5).bind fun t192 => (if ((((strOfNums y185) ++ bt181.1) ++ (strOfNums y188)) ++ t191).size + t192.size ≤ 9223372036854775807 then (if (((((strOfNums y185) ++ bt181.1) ++ (strOfNums y188)) ++ t191) ++ t192).size + bt183.1.size ≤ 9223372036854775807 then ((impl_Sealed.f k ((((((strOfNums y185) ++ bt181.1) ++ (strOfNums y188)) ++ t191) ++ t192) ++ bt183.1)).bind fun bt193 => (some (bt193.1, bt193.2))) else (none)) else (none))) else (none))) else (none))) else (none))))) else (some ((⟨#[]⟩ : ByteArray), false)))) = some (r1, r2) := h
 clear h;replace H := bE H;obtain ⟨t180, A2, H⟩ := H;by_cases c3 : t180 = true
 ·subst c3;replace H := iT H;replace H := bE H;obtain ⟨⟨t181, t182⟩, A4, H⟩ := H;(try dsimp only at H);replace H := bE H;obtain ⟨⟨t183, t184⟩, A5, H⟩ := H;(try dsimp only at H);replace H := nE H;obtain ⟨y185, Ny185, H⟩ := H;replace H := gC H;obtain ⟨c6, H⟩ := H;have c6b0 := eq_true c6;have c6b1 : decide ((strOfNums y185).size + t181.size ≤ 9223372036854775807) = true := decide_eq_true c6
  try have c6b2 : (9223372036854775807 < (strOfNums y185).size + t181.size) = False := eq_false (Nat.not_lt.2 c6)
  replace H := nE H;obtain ⟨y188, Ny188, H⟩ := H;replace H := gC H;obtain ⟨c7, H⟩ := H;have c7b0 := eq_true c7;have c7b1 : decide (((strOfNums y185) ++ t181).size + (strOfNums y188).size ≤ 9223372036854775807) = true := decide_eq_true c7
  try have c7b2 : (9223372036854775807 < ((strOfNums y185) ++ t181).size + (strOfNums y188).size) = False := eq_false (Nat.not_lt.2 c7)
  try have c7b3 : (9223372036854775807 < (strOfNums y185).size + t181.size + (strOfNums y188).size) = False := eq_false (Nat.not_lt.2 (by have h_ := c7; simp only [ByteArray.size_append] at h_; exact h_))
  replace H := bE H;obtain ⟨t191, A8, H⟩ := H;replace H := gC H;obtain ⟨c9, H⟩ := H;have c9b0 := eq_true c9;have c9b1 : decide ((((strOfNums y185) ++ t181) ++ (strOfNums y188)).size + t191.size ≤ 9223372036854775807) = true := decide_eq_true c9
  try have c9b2 : (9223372036854775807 < (((strOfNums y185) ++ t181) ++ (strOfNums y188)).size + t191.size) = False := eq_false (Nat.not_lt.2 c9)
  try have c9b3 : (9223372036854775807 < (strOfNums y185).size + t181.size + (strOfNums y188).size + t191.size) = False := eq_false (Nat.not_lt.2 (by have h_ := c9; simp only [ByteArray.size_append] at h_; exact h_))
  replace H := bE H;obtain ⟨t192, A10, H⟩ := H;replace H := gC H;obtain ⟨c11, H⟩ := H;have c11b0 := eq_true c11;have c11b1 : decide (((((strOfNums y185) ++ t181) ++ (strOfNums y188)) ++ t191).size + t192.size ≤ 9223372036854775807) = true := decide_eq_true c11
  try have c11b2 : (9223372036854775807 < ((((strOfNums y185) ++ t181) ++ (strOfNums y188)) ++ t191).size + t192.size) = False := eq_false (Nat.not_lt.2 c11)
  try have c11b3 : (9223372036854775807 < (strOfNums y185).size + t181.size + (strOfNums y188).size + t191.size + t192.size) = False := eq_false (Nat.not_lt.2 (by have h_ := c11; simp only [ByteArray.size_append] at h_; exact h_))
  replace H := gC H;obtain ⟨c12, H⟩ := H;have c12b0 := eq_true c12;have c12b1 : decide ((((((strOfNums y185) ++ t181) ++ (strOfNums y188)) ++ t191) ++ t192).size + t183.size ≤ 9223372036854775807) = true := decide_eq_true c12
  try have c12b2 : (9223372036854775807 < (((((strOfNums y185) ++ t181) ++ (strOfNums y188)) ++ t191) ++ t192).size + t183.size) = False := eq_false (Nat.not_lt.2 c12)
  try have c12b3 : (9223372036854775807 < (strOfNums y185).size + t181.size + (strOfNums y188).size + t191.size + t192.size + t183.size) = False := eq_false (Nat.not_lt.2 (by have h_ := c12; simp only [ByteArray.size_append] at h_; exact h_))
  replace H := bE H;obtain ⟨⟨t193, t194⟩, A13, H⟩ := H;(try dsimp only at H);simp only [Option.some.injEq, Prod.mk.injEq] at H;obtain ⟨rfl, rfl⟩ := H;go_enter Try.func14, Try.ntmps14
  try go_wp2_with (first|((with_reducible refine gN 1 ?_);refine boxZ 1 #[.int .i64 a0_0, .int .i64 a0_1, .int .i64 a0_2, .int .i64 a0_3, .int .i64 a0_4, .int .i64 a0_5, .int .i64 a0_6] 37 ?_;intro gb179 hg w14 hbox hb;have BK179 := Aside0.mk (hbox);have GW179 := gS hg;have GE179 := gS hg;replace HB := sB hb;clear hb hbox hg;obtain ⟨hcz15_0, hcz15_1, hcz15_2, hcz15_3, hcz15_4, hcz15_5, hcz15_6, hfz15_0, hfz15_1, hfz15_2, hfz15_3, hfz15_4, hfz15_5, hfz15_6⟩ := cz7 BK179)|((with_reducible refine gF 35 ?_);refine goZ (some 9) Try.func35 #[.agg #[.int .i64 a0_0, .int .i64 a0_1, .int .i64 a0_2, .int .i64 a0_3, .int .i64 a0_4, .int .i64 a0_5, .int .i64 a0_6]] ?_;(with_reducible refine (impl_FrameOk.calls k a0_0 a0_1 a0_2 a0_3 a0_4 a0_5 a0_6 true _ A2.out).mono ?_);rintro e w16 ⟨rfl, hb⟩;refine ⟨_, rfl, ?_⟩;replace BK179 := kB BK179 hb;replace HB := sB hb;(try clear hb);obtain ⟨hcz17_0, hcz17_1, hcz17_2, hcz17_3, hcz17_4, hcz17_5, hcz17_6, hfz17_0, hfz17_1, hfz17_2, hfz17_3, hfz17_4, hfz17_5, hfz17_6⟩ := cz7 BK179)|((with_reducible refine gF 36 ?_);refine goZ (some 14) Try.func36 #[.int .i64 a0_2] ?_;(with_reducible refine (impl_VarText.calls k a0_2 t181 t182 _ A4.out).mono ?_);rintro e w18 ⟨rfl, hb⟩;refine ⟨_, rfl, ?_⟩;replace BK179 := kB BK179 hb;replace HB := sB hb;(try clear hb);obtain ⟨hcz19_0, hcz19_1, hcz19_2, hcz19_3, hcz19_4, hcz19_5, hcz19_6, hfz19_0, hfz19_1, hfz19_2, hfz19_3, hfz19_4, hfz19_5, hfz19_6⟩ := cz7 BK179)|((with_reducible refine gF 36 ?_);refine goZ (some 21) Try.func36 #[.int .i64 a0_6] ?_;(with_reducible refine (impl_VarText.calls k a0_6 t183 t184 _ A5.out).mono ?_);rintro e w20 ⟨rfl, hb⟩;refine ⟨_, rfl, ?_⟩;replace BK179 := kB BK179 hb;replace HB := sB hb;(try clear hb)))
  replace BK179 := Aside0.mk (blk_drew BK179.out);replace HB := Aside0.mk (below_drew1 HB.out)
  refine start_ (n := 34) (S := fun w' => w'.cell? ⟨gb179, 0, none⟩ = some (.int .i64 a0_0) ∧ w'.cell? ⟨gb179, 1, none⟩ = some (.int .i64 a0_1) ∧ w'.cell? ⟨gb179, 2, none⟩ = some (.int .i64 a0_2) ∧ w'.cell? ⟨gb179, 3, none⟩ = some (.int .i64 a0_3) ∧ w'.cell? ⟨gb179, 4, none⟩ = some (.int .i64 a0_4) ∧ w'.cell? ⟨gb179, 5, none⟩ = some (.int .i64 a0_5) ∧ w'.cell? ⟨gb179, 6, none⟩ = some (.int .i64 a0_6)) (ds := []) #[false, false, false, false, false, false, false, false, false, false, false, false, false, false, false, false, false, false, false, false, false, false, false, false, false, false, false, false, false, false, false, false, false, false] (by kernel_rfl) rfl rfl ⟨(blk_cell BK179.out 0).trans rfl, (blk_cell BK179.out 1).trans rfl, (blk_cell BK179.out 2).trans rfl, (blk_cell BK179.out 3).trans rfl, (blk_cell BK179.out 4).trans rfl, (blk_cell BK179.out 5).trans rfl, (blk_cell BK179.out 6).trans rfl⟩ (fun hHeld => ?_); refine with_tabW impl_FrameText.tab5 impl_FrameText.bits5 (fun HT_ HW_ => ?_)
  generalize w20.drew = w21 at BK179 HB hHeld ⊢;refine pureZ 0 (some 24) (msk 34 1) HT_.out ?_;refine pureZ 3 (some 27) (msk 34 9) HT_.out ?_;refine pureZ 8 (some 32) (msk 34 265) HT_.out ?_;refine pureZ 10 (some 34) (msk 34 1289) HT_.out ?_;refine pureZ 11 (some 35) (msk 34 3337) HT_.out ?_;refine pureZ 17 (some 41) (msk 34 134409) HT_.out ?_;refine pureZ 18 (some 42) (msk 34 396553) HT_.out ?_;refine pureZ 22 (some 46) (msk 34 4590857) HT_.out ?_;refine pureZ 23 (some 47) (msk 34 12979465) HT_.out ?_;refine pureZ 27 (some 51) (msk 34 147197193) HT_.out ?_;refine takeZ 1 (some 25) (msk 34 147197195) HT_.out HW_.out hHeld (hy := q5x0) (h := ?_);refine pureZ 2 (some 26) (msk 34 147197199) HT_.out ?_;refine takeZ 4 (some 28) (msk 34 147197215) HT_.out HW_.out hHeld (hy := q5x0) (h := ?_);refine pureZ 5 (some 29) (msk 34 147197247) HT_.out ?_;refine takeZ 12 (some 36) (msk 34 147201343) HT_.out HW_.out hHeld (hy := q5x0) (h := ?_);refine pureZ 13 (some 37) (msk 34 147209535) HT_.out ?_;refine takeZ 19 (some 43) (msk 34 147733823) HT_.out HW_.out hHeld (hy := q5x0) (h := ?_);refine takeZ 24 (some 48) (msk 34 164511039) HT_.out HW_.out hHeld (hy := q5x0) (h := ?_)
  refine join_ (σ := Value × Value) 7 (msk 34 201326591) (fun s_ => [(30, s_.1), (31, .string (strOfNums y185)), (38, s_.2), (39, .string (strOfNums y188)), (44, .string t191), (49, .string t192), (33, .string ((strOfNums y185) ++ t181)), (40, .string (((strOfNums y185) ++ t181) ++ (strOfNums y188))), (45, .string ((((strOfNums y185) ++ t181) ++ (strOfNums y188)) ++ t191))]) (fun s_ w' => (w'.cell? ⟨gb179, 0, none⟩ = some (.int .i64 a0_0) ∧ w'.cell? ⟨gb179, 1, none⟩ = some (.int .i64 a0_1) ∧ w'.cell? ⟨gb179, 2, none⟩ = some (.int .i64 a0_2) ∧ w'.cell? ⟨gb179, 3, none⟩ = some (.int .i64 a0_3) ∧ w'.cell? ⟨gb179, 4, none⟩ = some (.int .i64 a0_4) ∧ w'.cell? ⟨gb179, 5, none⟩ = some (.int .i64 a0_5) ∧ w'.cell? ⟨gb179, 6, none⟩ = some (.int .i64 a0_6)) ∧ (Kd.R (Kd.int .u8) 5 w' w.heap.size (fun k_ => some k_ ≠ (s_.2 : Value).ownBlock) s_.1 y185) ∧ (Kd.R (Kd.int .u8) 5 w' w.heap.size (fun k_ => some k_ ≠ (s_.1 : Value).ownBlock) s_.2 y188) ∧ (w'.heap[gb179]? = some (.cells #[.int .i64 a0_0, .int .i64 a0_1, .int .i64 a0_2, .int .i64 a0_3, .int .i64 a0_4, .int .i64 a0_5, .int .i64 a0_6] 37 (0, 0))) ∧ (Below w.heap.size w w')) ?_ ?_
  rotate_left
  ·intro hJ6_7_14_15_20_25
   refine join_ (σ := Value × Value) 8 (msk 34 167772159) (fun s_ => [(30, s_.1), (31, .string (strOfNums y185)), (38, s_.2), (39, .string (strOfNums y188)), (44, .string t191), (33, .string ((strOfNums y185) ++ t181)), (40, .string (((strOfNums y185) ++ t181) ++ (strOfNums y188))), (45, .string ((((strOfNums y185) ++ t181) ++ (strOfNums y188)) ++ t191))]) (fun s_ w' => (w'.cell? ⟨gb179, 0, none⟩ = some (.int .i64 a0_0) ∧ w'.cell? ⟨gb179, 1, none⟩ = some (.int .i64 a0_1) ∧ w'.cell? ⟨gb179, 2, none⟩ = some (.int .i64 a0_2) ∧ w'.cell? ⟨gb179, 3, none⟩ = some (.int .i64 a0_3) ∧ w'.cell? ⟨gb179, 4, none⟩ = some (.int .i64 a0_4) ∧ w'.cell? ⟨gb179, 5, none⟩ = some (.int .i64 a0_5) ∧ w'.cell? ⟨gb179, 6, none⟩ = some (.int .i64 a0_6)) ∧ (Kd.R (Kd.int .u8) 5 w' w.heap.size (fun k_ => some k_ ≠ (s_.2 : Value).ownBlock) s_.1 y185) ∧ (Kd.R (Kd.int .u8) 5 w' w.heap.size (fun k_ => some k_ ≠ (s_.1 : Value).ownBlock) s_.2 y188) ∧ (w'.heap[gb179]? = some (.cells #[.int .i64 a0_0, .int .i64 a0_1, .int .i64 a0_2, .int .i64 a0_3, .int .i64 a0_4, .int .i64 a0_5, .int .i64 a0_6] 37 (0, 0))) ∧ (Below w.heap.size w w')) ?_ ?_
   rotate_left
   ·intro hJ6_7_14_15_20
    refine join_ (σ := Value × Value) 10 (msk 34 199131135) (fun s_ => [(30, s_.1), (31, .string (strOfNums y185)), (38, s_.2), (44, .string t191), (49, .string t192), (33, .string ((strOfNums y185) ++ t181))]) (fun s_ w' => (w'.cell? ⟨gb179, 0, none⟩ = some (.int .i64 a0_0) ∧ w'.cell? ⟨gb179, 1, none⟩ = some (.int .i64 a0_1) ∧ w'.cell? ⟨gb179, 2, none⟩ = some (.int .i64 a0_2) ∧ w'.cell? ⟨gb179, 3, none⟩ = some (.int .i64 a0_3) ∧ w'.cell? ⟨gb179, 4, none⟩ = some (.int .i64 a0_4) ∧ w'.cell? ⟨gb179, 5, none⟩ = some (.int .i64 a0_5) ∧ w'.cell? ⟨gb179, 6, none⟩ = some (.int .i64 a0_6)) ∧ (Kd.R (Kd.int .u8) 5 w' w.heap.size (fun k_ => some k_ ≠ (s_.2 : Value).ownBlock) s_.1 y185) ∧ (Kd.R (Kd.int .u8) 5 w' w.heap.size (fun k_ => some k_ ≠ (s_.1 : Value).ownBlock) s_.2 y188) ∧ (w'.heap[gb179]? = some (.cells #[.int .i64 a0_0, .int .i64 a0_1, .int .i64 a0_2, .int .i64 a0_3, .int .i64 a0_4, .int .i64 a0_5, .int .i64 a0_6] 37 (0, 0))) ∧ (Below w.heap.size w w')) ?_ ?_
    rotate_left
    ·intro hJ6_7_14_20_25
     refine join_ (σ := Value × Value) 11 (msk 34 199163263) (fun s_ => [(30, s_.1), (38, s_.2), (39, .string (strOfNums y188)), (44, .string t191), (49, .string t192)]) (fun s_ w' => (w'.cell? ⟨gb179, 0, none⟩ = some (.int .i64 a0_0) ∧ w'.cell? ⟨gb179, 1, none⟩ = some (.int .i64 a0_1) ∧ w'.cell? ⟨gb179, 2, none⟩ = some (.int .i64 a0_2) ∧ w'.cell? ⟨gb179, 3, none⟩ = some (.int .i64 a0_3) ∧ w'.cell? ⟨gb179, 4, none⟩ = some (.int .i64 a0_4) ∧ w'.cell? ⟨gb179, 5, none⟩ = some (.int .i64 a0_5) ∧ w'.cell? ⟨gb179, 6, none⟩ = some (.int .i64 a0_6)) ∧ (Kd.R (Kd.int .u8) 5 w' w.heap.size (fun k_ => some k_ ≠ (s_.2 : Value).ownBlock) s_.1 y185) ∧ (Kd.R (Kd.int .u8) 5 w' w.heap.size (fun k_ => some k_ ≠ (s_.1 : Value).ownBlock) s_.2 y188) ∧ (w'.heap[gb179]? = some (.cells #[.int .i64 a0_0, .int .i64 a0_1, .int .i64 a0_2, .int .i64 a0_3, .int .i64 a0_4, .int .i64 a0_5, .int .i64 a0_6] 37 (0, 0))) ∧ (Below w.heap.size w w')) ?_ ?_
     rotate_left
     ·intro hJ6_14_15_20_25
      refine join_ (σ := Value × Value) 10 (msk 34 164626431) (fun s_ => [(30, s_.1), (31, .string (strOfNums y185)), (38, s_.2), (39, .string (strOfNums y188)), (33, .string ((strOfNums y185) ++ t181)), (40, .string (((strOfNums y185) ++ t181) ++ (strOfNums y188)))]) (fun s_ w' => (w'.cell? ⟨gb179, 0, none⟩ = some (.int .i64 a0_0) ∧ w'.cell? ⟨gb179, 1, none⟩ = some (.int .i64 a0_1) ∧ w'.cell? ⟨gb179, 2, none⟩ = some (.int .i64 a0_2) ∧ w'.cell? ⟨gb179, 3, none⟩ = some (.int .i64 a0_3) ∧ w'.cell? ⟨gb179, 4, none⟩ = some (.int .i64 a0_4) ∧ w'.cell? ⟨gb179, 5, none⟩ = some (.int .i64 a0_5) ∧ w'.cell? ⟨gb179, 6, none⟩ = some (.int .i64 a0_6)) ∧ (Kd.R (Kd.int .u8) 5 w' w.heap.size (fun k_ => some k_ ≠ (s_.2 : Value).ownBlock) s_.1 y185) ∧ (Kd.R (Kd.int .u8) 5 w' w.heap.size (fun k_ => some k_ ≠ (s_.1 : Value).ownBlock) s_.2 y188) ∧ (w'.heap[gb179]? = some (.cells #[.int .i64 a0_0, .int .i64 a0_1, .int .i64 a0_2, .int .i64 a0_3, .int .i64 a0_4, .int .i64 a0_5, .int .i64 a0_6] 37 (0, 0))) ∧ (Below w.heap.size w w')) ?_ ?_
      rotate_left
      ·intro hJ6_7_14_15
       refine join_ (σ := Value × Value) 11 (msk 34 165576703) (fun s_ => [(30, s_.1), (31, .string (strOfNums y185)), (38, s_.2), (44, .string t191), (33, .string ((strOfNums y185) ++ t181))]) (fun s_ w' => (w'.cell? ⟨gb179, 0, none⟩ = some (.int .i64 a0_0) ∧ w'.cell? ⟨gb179, 1, none⟩ = some (.int .i64 a0_1) ∧ w'.cell? ⟨gb179, 2, none⟩ = some (.int .i64 a0_2) ∧ w'.cell? ⟨gb179, 3, none⟩ = some (.int .i64 a0_3) ∧ w'.cell? ⟨gb179, 4, none⟩ = some (.int .i64 a0_4) ∧ w'.cell? ⟨gb179, 5, none⟩ = some (.int .i64 a0_5) ∧ w'.cell? ⟨gb179, 6, none⟩ = some (.int .i64 a0_6)) ∧ (Kd.R (Kd.int .u8) 5 w' w.heap.size (fun k_ => some k_ ≠ (s_.2 : Value).ownBlock) s_.1 y185) ∧ (Kd.R (Kd.int .u8) 5 w' w.heap.size (fun k_ => some k_ ≠ (s_.1 : Value).ownBlock) s_.2 y188) ∧ (w'.heap[gb179]? = some (.cells #[.int .i64 a0_0, .int .i64 a0_1, .int .i64 a0_2, .int .i64 a0_3, .int .i64 a0_4, .int .i64 a0_5, .int .i64 a0_6] 37 (0, 0))) ∧ (Below w.heap.size w w')) ?_ ?_
       rotate_left
       ·intro hJ6_7_14_20
        refine join_ (σ := Value) 11 (msk 34 199114751) (fun s_ => [(30, s_), (31, .string (strOfNums y185)), (44, .string t191), (49, .string t192), (33, .string ((strOfNums y185) ++ t181))]) (fun s_ w' => (w'.cell? ⟨gb179, 0, none⟩ = some (.int .i64 a0_0) ∧ w'.cell? ⟨gb179, 1, none⟩ = some (.int .i64 a0_1) ∧ w'.cell? ⟨gb179, 2, none⟩ = some (.int .i64 a0_2) ∧ w'.cell? ⟨gb179, 3, none⟩ = some (.int .i64 a0_3) ∧ w'.cell? ⟨gb179, 4, none⟩ = some (.int .i64 a0_4) ∧ w'.cell? ⟨gb179, 5, none⟩ = some (.int .i64 a0_5) ∧ w'.cell? ⟨gb179, 6, none⟩ = some (.int .i64 a0_6)) ∧ (Kd.R (Kd.int .u8) 5 w' w.heap.size (fun _ => True) s_ y185) ∧ (w'.heap[gb179]? = some (.cells #[.int .i64 a0_0, .int .i64 a0_1, .int .i64 a0_2, .int .i64 a0_3, .int .i64 a0_4, .int .i64 a0_5, .int .i64 a0_6] 37 (0, 0))) ∧ (Below w.heap.size w w')) ?_ ?_
        rotate_left
        ·intro hJ6_7_20_25
         refine join_ (σ := Value × Value) 12 (msk 34 165608831) (fun s_ => [(30, s_.1), (38, s_.2), (39, .string (strOfNums y188)), (44, .string t191)]) (fun s_ w' => (w'.cell? ⟨gb179, 0, none⟩ = some (.int .i64 a0_0) ∧ w'.cell? ⟨gb179, 1, none⟩ = some (.int .i64 a0_1) ∧ w'.cell? ⟨gb179, 2, none⟩ = some (.int .i64 a0_2) ∧ w'.cell? ⟨gb179, 3, none⟩ = some (.int .i64 a0_3) ∧ w'.cell? ⟨gb179, 4, none⟩ = some (.int .i64 a0_4) ∧ w'.cell? ⟨gb179, 5, none⟩ = some (.int .i64 a0_5) ∧ w'.cell? ⟨gb179, 6, none⟩ = some (.int .i64 a0_6)) ∧ (Kd.R (Kd.int .u8) 5 w' w.heap.size (fun k_ => some k_ ≠ (s_.2 : Value).ownBlock) s_.1 y185) ∧ (Kd.R (Kd.int .u8) 5 w' w.heap.size (fun k_ => some k_ ≠ (s_.1 : Value).ownBlock) s_.2 y188) ∧ (w'.heap[gb179]? = some (.cells #[.int .i64 a0_0, .int .i64 a0_1, .int .i64 a0_2, .int .i64 a0_3, .int .i64 a0_4, .int .i64 a0_5, .int .i64 a0_6] 37 (0, 0))) ∧ (Below w.heap.size w w')) ?_ ?_
         rotate_left
         ·intro hJ6_14_15_20
          refine join_ (σ := Value × Value) 12 (msk 34 199130495) (fun s_ => [(30, s_.1), (38, s_.2), (44, .string t191), (49, .string t192)]) (fun s_ w' => (w'.cell? ⟨gb179, 0, none⟩ = some (.int .i64 a0_0) ∧ w'.cell? ⟨gb179, 1, none⟩ = some (.int .i64 a0_1) ∧ w'.cell? ⟨gb179, 2, none⟩ = some (.int .i64 a0_2) ∧ w'.cell? ⟨gb179, 3, none⟩ = some (.int .i64 a0_3) ∧ w'.cell? ⟨gb179, 4, none⟩ = some (.int .i64 a0_4) ∧ w'.cell? ⟨gb179, 5, none⟩ = some (.int .i64 a0_5) ∧ w'.cell? ⟨gb179, 6, none⟩ = some (.int .i64 a0_6)) ∧ (Kd.R (Kd.int .u8) 5 w' w.heap.size (fun k_ => some k_ ≠ (s_.2 : Value).ownBlock) s_.1 y185) ∧ (Kd.R (Kd.int .u8) 5 w' w.heap.size (fun k_ => some k_ ≠ (s_.1 : Value).ownBlock) s_.2 y188) ∧ (w'.heap[gb179]? = some (.cells #[.int .i64 a0_0, .int .i64 a0_1, .int .i64 a0_2, .int .i64 a0_3, .int .i64 a0_4, .int .i64 a0_5, .int .i64 a0_6] 37 (0, 0))) ∧ (Below w.heap.size w w')) ?_ ?_
          rotate_left
          ·intro hJ6_14_20_25
           refine join_ (σ := Value) 12 (msk 34 199163199) (fun s_ => [(38, s_), (39, .string (strOfNums y188)), (44, .string t191), (49, .string t192)]) (fun s_ w' => (w'.cell? ⟨gb179, 0, none⟩ = some (.int .i64 a0_0) ∧ w'.cell? ⟨gb179, 1, none⟩ = some (.int .i64 a0_1) ∧ w'.cell? ⟨gb179, 2, none⟩ = some (.int .i64 a0_2) ∧ w'.cell? ⟨gb179, 3, none⟩ = some (.int .i64 a0_3) ∧ w'.cell? ⟨gb179, 4, none⟩ = some (.int .i64 a0_4) ∧ w'.cell? ⟨gb179, 5, none⟩ = some (.int .i64 a0_5) ∧ w'.cell? ⟨gb179, 6, none⟩ = some (.int .i64 a0_6)) ∧ (Kd.R (Kd.int .u8) 5 w' w.heap.size (fun _ => True) s_ y188) ∧ (w'.heap[gb179]? = some (.cells #[.int .i64 a0_0, .int .i64 a0_1, .int .i64 a0_2, .int .i64 a0_3, .int .i64 a0_4, .int .i64 a0_5, .int .i64 a0_6] 37 (0, 0))) ∧ (Below w.heap.size w w')) ?_ ?_
           rotate_left
           ·intro hJ14_15_20_25
            refine join_ (σ := Value × Value) 12 (msk 34 164528127) (fun s_ => [(30, s_.1), (31, .string (strOfNums y185)), (38, s_.2), (33, .string ((strOfNums y185) ++ t181))]) (fun s_ w' => (w'.cell? ⟨gb179, 0, none⟩ = some (.int .i64 a0_0) ∧ w'.cell? ⟨gb179, 1, none⟩ = some (.int .i64 a0_1) ∧ w'.cell? ⟨gb179, 2, none⟩ = some (.int .i64 a0_2) ∧ w'.cell? ⟨gb179, 3, none⟩ = some (.int .i64 a0_3) ∧ w'.cell? ⟨gb179, 4, none⟩ = some (.int .i64 a0_4) ∧ w'.cell? ⟨gb179, 5, none⟩ = some (.int .i64 a0_5) ∧ w'.cell? ⟨gb179, 6, none⟩ = some (.int .i64 a0_6)) ∧ (Kd.R (Kd.int .u8) 5 w' w.heap.size (fun k_ => some k_ ≠ (s_.2 : Value).ownBlock) s_.1 y185) ∧ (Kd.R (Kd.int .u8) 5 w' w.heap.size (fun k_ => some k_ ≠ (s_.1 : Value).ownBlock) s_.2 y188) ∧ (w'.heap[gb179]? = some (.cells #[.int .i64 a0_0, .int .i64 a0_1, .int .i64 a0_2, .int .i64 a0_3, .int .i64 a0_4, .int .i64 a0_5, .int .i64 a0_6] 37 (0, 0))) ∧ (Below w.heap.size w w')) ?_ ?_
            rotate_left
            ·intro hJ6_7_14
             refine join_ (σ := Value) 12 (msk 34 165560319) (fun s_ => [(30, s_), (31, .string (strOfNums y185)), (44, .string t191), (33, .string ((strOfNums y185) ++ t181))]) (fun s_ w' => (w'.cell? ⟨gb179, 0, none⟩ = some (.int .i64 a0_0) ∧ w'.cell? ⟨gb179, 1, none⟩ = some (.int .i64 a0_1) ∧ w'.cell? ⟨gb179, 2, none⟩ = some (.int .i64 a0_2) ∧ w'.cell? ⟨gb179, 3, none⟩ = some (.int .i64 a0_3) ∧ w'.cell? ⟨gb179, 4, none⟩ = some (.int .i64 a0_4) ∧ w'.cell? ⟨gb179, 5, none⟩ = some (.int .i64 a0_5) ∧ w'.cell? ⟨gb179, 6, none⟩ = some (.int .i64 a0_6)) ∧ (Kd.R (Kd.int .u8) 5 w' w.heap.size (fun _ => True) s_ y185) ∧ (w'.heap[gb179]? = some (.cells #[.int .i64 a0_0, .int .i64 a0_1, .int .i64 a0_2, .int .i64 a0_3, .int .i64 a0_4, .int .i64 a0_5, .int .i64 a0_6] 37 (0, 0))) ∧ (Below w.heap.size w w')) ?_ ?_
             rotate_left
             ·intro hJ6_7_20
              refine join_ (σ := Value × Value) 13 (msk 34 164560255) (fun s_ => [(30, s_.1), (38, s_.2), (39, .string (strOfNums y188))]) (fun s_ w' => (w'.cell? ⟨gb179, 0, none⟩ = some (.int .i64 a0_0) ∧ w'.cell? ⟨gb179, 1, none⟩ = some (.int .i64 a0_1) ∧ w'.cell? ⟨gb179, 2, none⟩ = some (.int .i64 a0_2) ∧ w'.cell? ⟨gb179, 3, none⟩ = some (.int .i64 a0_3) ∧ w'.cell? ⟨gb179, 4, none⟩ = some (.int .i64 a0_4) ∧ w'.cell? ⟨gb179, 5, none⟩ = some (.int .i64 a0_5) ∧ w'.cell? ⟨gb179, 6, none⟩ = some (.int .i64 a0_6)) ∧ (Kd.R (Kd.int .u8) 5 w' w.heap.size (fun k_ => some k_ ≠ (s_.2 : Value).ownBlock) s_.1 y185) ∧ (Kd.R (Kd.int .u8) 5 w' w.heap.size (fun k_ => some k_ ≠ (s_.1 : Value).ownBlock) s_.2 y188) ∧ (w'.heap[gb179]? = some (.cells #[.int .i64 a0_0, .int .i64 a0_1, .int .i64 a0_2, .int .i64 a0_3, .int .i64 a0_4, .int .i64 a0_5, .int .i64 a0_6] 37 (0, 0))) ∧ (Below w.heap.size w w')) ?_ ?_
              rotate_left
              ·intro hJ6_14_15
               refine join_ (σ := Value × Value) 13 (msk 34 165576063) (fun s_ => [(30, s_.1), (38, s_.2), (44, .string t191)]) (fun s_ w' => (w'.cell? ⟨gb179, 0, none⟩ = some (.int .i64 a0_0) ∧ w'.cell? ⟨gb179, 1, none⟩ = some (.int .i64 a0_1) ∧ w'.cell? ⟨gb179, 2, none⟩ = some (.int .i64 a0_2) ∧ w'.cell? ⟨gb179, 3, none⟩ = some (.int .i64 a0_3) ∧ w'.cell? ⟨gb179, 4, none⟩ = some (.int .i64 a0_4) ∧ w'.cell? ⟨gb179, 5, none⟩ = some (.int .i64 a0_5) ∧ w'.cell? ⟨gb179, 6, none⟩ = some (.int .i64 a0_6)) ∧ (Kd.R (Kd.int .u8) 5 w' w.heap.size (fun k_ => some k_ ≠ (s_.2 : Value).ownBlock) s_.1 y185) ∧ (Kd.R (Kd.int .u8) 5 w' w.heap.size (fun k_ => some k_ ≠ (s_.1 : Value).ownBlock) s_.2 y188) ∧ (w'.heap[gb179]? = some (.cells #[.int .i64 a0_0, .int .i64 a0_1, .int .i64 a0_2, .int .i64 a0_3, .int .i64 a0_4, .int .i64 a0_5, .int .i64 a0_6] 37 (0, 0))) ∧ (Below w.heap.size w w')) ?_ ?_
               rotate_left
               ·intro hJ6_14_20
                refine join_ (σ := Value) 13 (msk 34 199114111) (fun s_ => [(30, s_), (44, .string t191), (49, .string t192)]) (fun s_ w' => (w'.cell? ⟨gb179, 0, none⟩ = some (.int .i64 a0_0) ∧ w'.cell? ⟨gb179, 1, none⟩ = some (.int .i64 a0_1) ∧ w'.cell? ⟨gb179, 2, none⟩ = some (.int .i64 a0_2) ∧ w'.cell? ⟨gb179, 3, none⟩ = some (.int .i64 a0_3) ∧ w'.cell? ⟨gb179, 4, none⟩ = some (.int .i64 a0_4) ∧ w'.cell? ⟨gb179, 5, none⟩ = some (.int .i64 a0_5) ∧ w'.cell? ⟨gb179, 6, none⟩ = some (.int .i64 a0_6)) ∧ (Kd.R (Kd.int .u8) 5 w' w.heap.size (fun _ => True) s_ y185) ∧ (w'.heap[gb179]? = some (.cells #[.int .i64 a0_0, .int .i64 a0_1, .int .i64 a0_2, .int .i64 a0_3, .int .i64 a0_4, .int .i64 a0_5, .int .i64 a0_6] 37 (0, 0))) ∧ (Below w.heap.size w w')) ?_ ?_
                rotate_left
                ·intro hJ6_20_25
                 refine join_ (σ := Value) 13 (msk 34 165608767) (fun s_ => [(38, s_), (39, .string (strOfNums y188)), (44, .string t191)]) (fun s_ w' => (w'.cell? ⟨gb179, 0, none⟩ = some (.int .i64 a0_0) ∧ w'.cell? ⟨gb179, 1, none⟩ = some (.int .i64 a0_1) ∧ w'.cell? ⟨gb179, 2, none⟩ = some (.int .i64 a0_2) ∧ w'.cell? ⟨gb179, 3, none⟩ = some (.int .i64 a0_3) ∧ w'.cell? ⟨gb179, 4, none⟩ = some (.int .i64 a0_4) ∧ w'.cell? ⟨gb179, 5, none⟩ = some (.int .i64 a0_5) ∧ w'.cell? ⟨gb179, 6, none⟩ = some (.int .i64 a0_6)) ∧ (Kd.R (Kd.int .u8) 5 w' w.heap.size (fun _ => True) s_ y188) ∧ (w'.heap[gb179]? = some (.cells #[.int .i64 a0_0, .int .i64 a0_1, .int .i64 a0_2, .int .i64 a0_3, .int .i64 a0_4, .int .i64 a0_5, .int .i64 a0_6] 37 (0, 0))) ∧ (Below w.heap.size w w')) ?_ ?_
                 rotate_left
                 ·intro hJ14_15_20
                  refine join_ (σ := Value) 13 (msk 34 199130431) (fun s_ => [(38, s_), (44, .string t191), (49, .string t192)]) (fun s_ w' => (w'.cell? ⟨gb179, 0, none⟩ = some (.int .i64 a0_0) ∧ w'.cell? ⟨gb179, 1, none⟩ = some (.int .i64 a0_1) ∧ w'.cell? ⟨gb179, 2, none⟩ = some (.int .i64 a0_2) ∧ w'.cell? ⟨gb179, 3, none⟩ = some (.int .i64 a0_3) ∧ w'.cell? ⟨gb179, 4, none⟩ = some (.int .i64 a0_4) ∧ w'.cell? ⟨gb179, 5, none⟩ = some (.int .i64 a0_5) ∧ w'.cell? ⟨gb179, 6, none⟩ = some (.int .i64 a0_6)) ∧ (Kd.R (Kd.int .u8) 5 w' w.heap.size (fun _ => True) s_ y188) ∧ (w'.heap[gb179]? = some (.cells #[.int .i64 a0_0, .int .i64 a0_1, .int .i64 a0_2, .int .i64 a0_3, .int .i64 a0_4, .int .i64 a0_5, .int .i64 a0_6] 37 (0, 0))) ∧ (Below w.heap.size w w')) ?_ ?_
                  rotate_left
                  ·intro hJ14_20_25
                   refine join_ (σ := Value) 13 (msk 34 164511743) (fun s_ => [(30, s_), (31, .string (strOfNums y185)), (33, .string ((strOfNums y185) ++ t181))]) (fun s_ w' => (w'.cell? ⟨gb179, 0, none⟩ = some (.int .i64 a0_0) ∧ w'.cell? ⟨gb179, 1, none⟩ = some (.int .i64 a0_1) ∧ w'.cell? ⟨gb179, 2, none⟩ = some (.int .i64 a0_2) ∧ w'.cell? ⟨gb179, 3, none⟩ = some (.int .i64 a0_3) ∧ w'.cell? ⟨gb179, 4, none⟩ = some (.int .i64 a0_4) ∧ w'.cell? ⟨gb179, 5, none⟩ = some (.int .i64 a0_5) ∧ w'.cell? ⟨gb179, 6, none⟩ = some (.int .i64 a0_6)) ∧ (Kd.R (Kd.int .u8) 5 w' w.heap.size (fun _ => True) s_ y185) ∧ (w'.heap[gb179]? = some (.cells #[.int .i64 a0_0, .int .i64 a0_1, .int .i64 a0_2, .int .i64 a0_3, .int .i64 a0_4, .int .i64 a0_5, .int .i64 a0_6] 37 (0, 0))) ∧ (Below w.heap.size w w')) ?_ ?_
                   rotate_left
                   ·intro hJ6_7
                    refine join_ (σ := Value × Value) 14 (msk 34 164527487) (fun s_ => [(30, s_.1), (38, s_.2)]) (fun s_ w' => (w'.cell? ⟨gb179, 0, none⟩ = some (.int .i64 a0_0) ∧ w'.cell? ⟨gb179, 1, none⟩ = some (.int .i64 a0_1) ∧ w'.cell? ⟨gb179, 2, none⟩ = some (.int .i64 a0_2) ∧ w'.cell? ⟨gb179, 3, none⟩ = some (.int .i64 a0_3) ∧ w'.cell? ⟨gb179, 4, none⟩ = some (.int .i64 a0_4) ∧ w'.cell? ⟨gb179, 5, none⟩ = some (.int .i64 a0_5) ∧ w'.cell? ⟨gb179, 6, none⟩ = some (.int .i64 a0_6)) ∧ (Kd.R (Kd.int .u8) 5 w' w.heap.size (fun k_ => some k_ ≠ (s_.2 : Value).ownBlock) s_.1 y185) ∧ (Kd.R (Kd.int .u8) 5 w' w.heap.size (fun k_ => some k_ ≠ (s_.1 : Value).ownBlock) s_.2 y188) ∧ (w'.heap[gb179]? = some (.cells #[.int .i64 a0_0, .int .i64 a0_1, .int .i64 a0_2, .int .i64 a0_3, .int .i64 a0_4, .int .i64 a0_5, .int .i64 a0_6] 37 (0, 0))) ∧ (Below w.heap.size w w')) ?_ ?_
                    rotate_left
                    ·intro hJ6_14
                     refine join_ (σ := Value) 14 (msk 34 165559679) (fun s_ => [(30, s_), (44, .string t191)]) (fun s_ w' => (w'.cell? ⟨gb179, 0, none⟩ = some (.int .i64 a0_0) ∧ w'.cell? ⟨gb179, 1, none⟩ = some (.int .i64 a0_1) ∧ w'.cell? ⟨gb179, 2, none⟩ = some (.int .i64 a0_2) ∧ w'.cell? ⟨gb179, 3, none⟩ = some (.int .i64 a0_3) ∧ w'.cell? ⟨gb179, 4, none⟩ = some (.int .i64 a0_4) ∧ w'.cell? ⟨gb179, 5, none⟩ = some (.int .i64 a0_5) ∧ w'.cell? ⟨gb179, 6, none⟩ = some (.int .i64 a0_6)) ∧ (Kd.R (Kd.int .u8) 5 w' w.heap.size (fun _ => True) s_ y185) ∧ (w'.heap[gb179]? = some (.cells #[.int .i64 a0_0, .int .i64 a0_1, .int .i64 a0_2, .int .i64 a0_3, .int .i64 a0_4, .int .i64 a0_5, .int .i64 a0_6] 37 (0, 0))) ∧ (Below w.heap.size w w')) ?_ ?_
                     rotate_left
                     ·intro hJ6_20
                      refine join_ (σ := Value) 14 (msk 34 164560191) (fun s_ => [(38, s_), (39, .string (strOfNums y188))]) (fun s_ w' => (w'.cell? ⟨gb179, 0, none⟩ = some (.int .i64 a0_0) ∧ w'.cell? ⟨gb179, 1, none⟩ = some (.int .i64 a0_1) ∧ w'.cell? ⟨gb179, 2, none⟩ = some (.int .i64 a0_2) ∧ w'.cell? ⟨gb179, 3, none⟩ = some (.int .i64 a0_3) ∧ w'.cell? ⟨gb179, 4, none⟩ = some (.int .i64 a0_4) ∧ w'.cell? ⟨gb179, 5, none⟩ = some (.int .i64 a0_5) ∧ w'.cell? ⟨gb179, 6, none⟩ = some (.int .i64 a0_6)) ∧ (Kd.R (Kd.int .u8) 5 w' w.heap.size (fun _ => True) s_ y188) ∧ (w'.heap[gb179]? = some (.cells #[.int .i64 a0_0, .int .i64 a0_1, .int .i64 a0_2, .int .i64 a0_3, .int .i64 a0_4, .int .i64 a0_5, .int .i64 a0_6] 37 (0, 0))) ∧ (Below w.heap.size w w')) ?_ ?_
                      rotate_left
                      ·intro hJ14_15
                       refine join_ (σ := Value) 14 (msk 34 165575999) (fun s_ => [(38, s_), (44, .string t191)]) (fun s_ w' => (w'.cell? ⟨gb179, 0, none⟩ = some (.int .i64 a0_0) ∧ w'.cell? ⟨gb179, 1, none⟩ = some (.int .i64 a0_1) ∧ w'.cell? ⟨gb179, 2, none⟩ = some (.int .i64 a0_2) ∧ w'.cell? ⟨gb179, 3, none⟩ = some (.int .i64 a0_3) ∧ w'.cell? ⟨gb179, 4, none⟩ = some (.int .i64 a0_4) ∧ w'.cell? ⟨gb179, 5, none⟩ = some (.int .i64 a0_5) ∧ w'.cell? ⟨gb179, 6, none⟩ = some (.int .i64 a0_6)) ∧ (Kd.R (Kd.int .u8) 5 w' w.heap.size (fun _ => True) s_ y188) ∧ (w'.heap[gb179]? = some (.cells #[.int .i64 a0_0, .int .i64 a0_1, .int .i64 a0_2, .int .i64 a0_3, .int .i64 a0_4, .int .i64 a0_5, .int .i64 a0_6] 37 (0, 0))) ∧ (Below w.heap.size w w')) ?_ ?_
                       rotate_left
                       ·intro hJ14_20
                        refine join_ (σ := Unit) 14 (msk 34 199114047) (fun s_ => [(44, .string t191), (49, .string t192)]) (fun s_ w' => (w'.cell? ⟨gb179, 0, none⟩ = some (.int .i64 a0_0) ∧ w'.cell? ⟨gb179, 1, none⟩ = some (.int .i64 a0_1) ∧ w'.cell? ⟨gb179, 2, none⟩ = some (.int .i64 a0_2) ∧ w'.cell? ⟨gb179, 3, none⟩ = some (.int .i64 a0_3) ∧ w'.cell? ⟨gb179, 4, none⟩ = some (.int .i64 a0_4) ∧ w'.cell? ⟨gb179, 5, none⟩ = some (.int .i64 a0_5) ∧ w'.cell? ⟨gb179, 6, none⟩ = some (.int .i64 a0_6)) ∧ (w'.heap[gb179]? = some (.cells #[.int .i64 a0_0, .int .i64 a0_1, .int .i64 a0_2, .int .i64 a0_3, .int .i64 a0_4, .int .i64 a0_5, .int .i64 a0_6] 37 (0, 0))) ∧ (Below w.heap.size w w')) ?_ ?_
                        rotate_left
                        ·intro hJ20_25
                         refine join_ (σ := Value) 15 (msk 34 164511103) (fun s_ => [(30, s_)]) (fun s_ w' => (w'.cell? ⟨gb179, 0, none⟩ = some (.int .i64 a0_0) ∧ w'.cell? ⟨gb179, 1, none⟩ = some (.int .i64 a0_1) ∧ w'.cell? ⟨gb179, 2, none⟩ = some (.int .i64 a0_2) ∧ w'.cell? ⟨gb179, 3, none⟩ = some (.int .i64 a0_3) ∧ w'.cell? ⟨gb179, 4, none⟩ = some (.int .i64 a0_4) ∧ w'.cell? ⟨gb179, 5, none⟩ = some (.int .i64 a0_5) ∧ w'.cell? ⟨gb179, 6, none⟩ = some (.int .i64 a0_6)) ∧ (Kd.R (Kd.int .u8) 5 w' w.heap.size (fun _ => True) s_ y185) ∧ (w'.heap[gb179]? = some (.cells #[.int .i64 a0_0, .int .i64 a0_1, .int .i64 a0_2, .int .i64 a0_3, .int .i64 a0_4, .int .i64 a0_5, .int .i64 a0_6] 37 (0, 0))) ∧ (Below w.heap.size w w')) ?_ ?_
                         rotate_left
                         ·intro hJ6
                          refine join_ (σ := Value) 15 (msk 34 164527423) (fun s_ => [(38, s_)]) (fun s_ w' => (w'.cell? ⟨gb179, 0, none⟩ = some (.int .i64 a0_0) ∧ w'.cell? ⟨gb179, 1, none⟩ = some (.int .i64 a0_1) ∧ w'.cell? ⟨gb179, 2, none⟩ = some (.int .i64 a0_2) ∧ w'.cell? ⟨gb179, 3, none⟩ = some (.int .i64 a0_3) ∧ w'.cell? ⟨gb179, 4, none⟩ = some (.int .i64 a0_4) ∧ w'.cell? ⟨gb179, 5, none⟩ = some (.int .i64 a0_5) ∧ w'.cell? ⟨gb179, 6, none⟩ = some (.int .i64 a0_6)) ∧ (Kd.R (Kd.int .u8) 5 w' w.heap.size (fun _ => True) s_ y188) ∧ (w'.heap[gb179]? = some (.cells #[.int .i64 a0_0, .int .i64 a0_1, .int .i64 a0_2, .int .i64 a0_3, .int .i64 a0_4, .int .i64 a0_5, .int .i64 a0_6] 37 (0, 0))) ∧ (Below w.heap.size w w')) ?_ ?_
                          rotate_left
                          ·intro hJ14
                           refine join_ (σ := Unit) 15 (msk 34 165559615) (fun s_ => [(44, .string t191)]) (fun s_ w' => (w'.cell? ⟨gb179, 0, none⟩ = some (.int .i64 a0_0) ∧ w'.cell? ⟨gb179, 1, none⟩ = some (.int .i64 a0_1) ∧ w'.cell? ⟨gb179, 2, none⟩ = some (.int .i64 a0_2) ∧ w'.cell? ⟨gb179, 3, none⟩ = some (.int .i64 a0_3) ∧ w'.cell? ⟨gb179, 4, none⟩ = some (.int .i64 a0_4) ∧ w'.cell? ⟨gb179, 5, none⟩ = some (.int .i64 a0_5) ∧ w'.cell? ⟨gb179, 6, none⟩ = some (.int .i64 a0_6)) ∧ (w'.heap[gb179]? = some (.cells #[.int .i64 a0_0, .int .i64 a0_1, .int .i64 a0_2, .int .i64 a0_3, .int .i64 a0_4, .int .i64 a0_5, .int .i64 a0_6] 37 (0, 0))) ∧ (Below w.heap.size w w')) ?_ ?_
                           rotate_left
                           ·intro hJ20
                            refine three_ (i := 6) (j := 14) (k := 20) (Ni := some 30) (Nj := some 38) (Nk := some 44) #[true, true, true, true, true, true, true, false, true, false, true, true, true, true, false, false, false, true, true, true, false, false, true, true, true, false, false, true, false, false, false, false, false, false] #[true, true, true, true, true, true, false, false, true, false, true, true, true, true, true, false, false, true, true, true, false, false, true, true, true, false, false, true, false, false, false, false, false, false] #[true, true, true, true, true, true, false, false, true, false, true, true, true, true, false, false, false, true, true, true, true, false, true, true, true, false, false, true, false, false, false, false, false, false] rfl rfl rfl rfl rfl rfl (three_of HT_.out (by kernel_rfl)) (by decide) (by decide) (by decide) (fun K hK => ?_) (fun K hK => ?_) (fun K hK => ?_)
                            ·skip
                             refine Kd.R_lit_step (Kd.int .u8) _ 5 ?hg (N := 30) ?hd (xs := ([(a0_0) % 256, (a0_1) % 256] : List Int)) (inner := [.int .u8 ((a0_0) % 256), .int .u8 ((a0_1) % 256)]) (ok := fun _ => True) (okp := fun _ => True) ?hr ?hp (fun _ hk => hk) trivial (Below.refl _ _) (Nat.le_refl _) (by simp) ?_; (case hd => rfl); (case hg => rfl); (case hr => first | (go_simp; done) | (go_simp; rfl)); (case hp => exact (Reps.one (show Kd.M (Kd.int .u8) _ _ _ ((a0_0) % 256) [.int .u8 ((a0_0) % 256)] from rfl) (Reps.one (show Kd.M (Kd.int .u8) _ _ _ ((a0_1) % 256) [.int .u8 ((a0_1) % 256)] from rfl) (Reps.none _ _))))
                             intro v186 w22 ho23 hb hg_ hnew_;clear hg_ hnew_
                             (first | rw [← Ny185.out] at ho23 | (simp only [Int.reduceToNat] at ho23; rw [← Ny185.out] at ho23))
                             have HO187 := Aside0.mk (Kd.R_lower ho23 (below_size cB));replace BK179 := kB BK179 hb;replace HB := sB hb;clear hb ho23
                             refine hK.out _ _ qh5x0 (fun hHeld => ?_)
                             clear hK K;refine normZ (some 30) ?_
                             exact norm_ nP (hJ6 (v186) _ ⟨hHeld, (mR HO187), (mK BK179), cB⟩)
                            ·skip
                             refine Kd.R_lit_step (Kd.int .u8) _ 5 ?hg (N := 38) ?hd (xs := ([(a0_3) % 256] : List Int)) (inner := [.int .u8 ((a0_3) % 256)]) (ok := fun _ => True) (okp := fun _ => True) ?hr ?hp (fun _ hk => hk) trivial (Below.refl _ _) (Nat.le_refl _) (by simp) ?_; (case hd => rfl); (case hg => rfl); (case hr => first | (go_simp; done) | (go_simp; rfl)); (case hp => exact (Reps.one (show Kd.M (Kd.int .u8) _ _ _ ((a0_3) % 256) [.int .u8 ((a0_3) % 256)] from rfl) (Reps.none _ _)))
                             intro v189 w22 ho23 hb hg_ hnew_;clear hg_ hnew_
                             (first | rw [← Ny188.out] at ho23 | (simp only [Int.reduceToNat] at ho23; rw [← Ny188.out] at ho23))
                             have HO190 := Aside0.mk (Kd.R_lower ho23 (below_size cB));replace BK179 := kB BK179 hb;replace HB := sB hb;clear hb ho23
                             refine hK.out _ _ qh5x0 (fun hHeld => ?_)
                             clear hK K;refine normZ (some 38) ?_
                             exact norm_ nP (hJ14 (v189) _ ⟨hHeld, (mR HO190), (mK BK179), cB⟩)
                            ·skip
                             refine goes_ Try.func38 (by kernel_rfl) rfl #[.int .i64 a0_4] (by rfl) rfl rfl (by (try simp only [List.map_toArray, List.map_cons, List.map_nil]); first | done | rfl | (simp only [List.length_drop, List.length_take]; rfl)) ?_
                             with_reducible refine (impl_four.calls a0_4 t191 _ A8.out).mono ?_;rintro e w22 ⟨rfl, hb⟩;refine ⟨_, rfl, ?_⟩;replace BK179 := kB BK179 hb;replace HB := sB hb;(try clear hb)
                             refine hK.out _ _ qh5x0 (fun hHeld => ?_)
                             clear hK K;refine normZ (some 44) ?_
                             exact norm_ nP (hJ20 () _ ⟨hHeld, (mK BK179), cB⟩)
                           ·skip;rintro _ w23 ⟨hS_, h0_, h1_⟩;have n0_ := Aside0.mk h0_;have n1_ := Aside0.mk h1_;clear BK179 HB h0_ h1_;have BK179 := n0_;have HB := n1_;clear n0_ n1_;have hHeld := hS_;refine norm_ (a' := ?_) ?_ ?_;rotate_left
                            ·simp only [putAll, Act.put, List.setIfInBounds_toArray, List.set_cons_zero, List.set_cons_succ];rfl
                            refine three_ (i := 6) (j := 14) (k := 25) (Ni := some 30) (Nj := some 38) (Nk := some 49) #[true, true, true, true, true, true, true, false, true, false, true, true, true, true, false, false, false, true, true, true, true, false, true, true, true, false, false, true, false, false, false, false, false, false] #[true, true, true, true, true, true, false, false, true, false, true, true, true, true, true, false, false, true, true, true, true, false, true, true, true, false, false, true, false, false, false, false, false, false] #[true, true, true, true, true, true, false, false, true, false, true, true, true, true, false, false, false, true, true, true, true, false, true, true, true, true, false, true, false, false, false, false, false, false] rfl rfl rfl rfl rfl rfl (three_of HT_.out (by kernel_rfl)) (by decide) (by decide) (by decide) (fun K hK => ?_) (fun K hK => ?_) (fun K hK => ?_)
                            ·skip
                             refine Kd.R_lit_step (Kd.int .u8) _ 5 ?hg (N := 30) ?hd (xs := ([(a0_0) % 256, (a0_1) % 256] : List Int)) (inner := [.int .u8 ((a0_0) % 256), .int .u8 ((a0_1) % 256)]) (ok := fun _ => True) (okp := fun _ => True) ?hr ?hp (fun _ hk => hk) trivial (Below.refl _ _) (Nat.le_refl _) (by simp) ?_; (case hd => rfl); (case hg => rfl); (case hr => first | (go_simp; done) | (go_simp; rfl)); (case hp => exact (Reps.one (show Kd.M (Kd.int .u8) _ _ _ ((a0_0) % 256) [.int .u8 ((a0_0) % 256)] from rfl) (Reps.one (show Kd.M (Kd.int .u8) _ _ _ ((a0_1) % 256) [.int .u8 ((a0_1) % 256)] from rfl) (Reps.none _ _))))
                             intro v186 w24 ho25 hb hg_ hnew_;clear hg_ hnew_
                             (first | rw [← Ny185.out] at ho25 | (simp only [Int.reduceToNat] at ho25; rw [← Ny185.out] at ho25))
                             have HO187 := Aside0.mk (Kd.R_lower ho25 (below_size cB));replace BK179 := kB BK179 hb;replace HB := sB hb;clear hb ho25
                             refine hK.out _ _ qh5x0 (fun hHeld => ?_)
                             clear hK K;refine normZ (some 30) ?_
                             exact norm_ nP (hJ6_20 (v186) _ ⟨hHeld, (mR HO187), (mK BK179), cB⟩)
                            ·skip
                             refine Kd.R_lit_step (Kd.int .u8) _ 5 ?hg (N := 38) ?hd (xs := ([(a0_3) % 256] : List Int)) (inner := [.int .u8 ((a0_3) % 256)]) (ok := fun _ => True) (okp := fun _ => True) ?hr ?hp (fun _ hk => hk) trivial (Below.refl _ _) (Nat.le_refl _) (by simp) ?_; (case hd => rfl); (case hg => rfl); (case hr => first | (go_simp; done) | (go_simp; rfl)); (case hp => exact (Reps.one (show Kd.M (Kd.int .u8) _ _ _ ((a0_3) % 256) [.int .u8 ((a0_3) % 256)] from rfl) (Reps.none _ _)))
                             intro v189 w24 ho25 hb hg_ hnew_;clear hg_ hnew_
                             (first | rw [← Ny188.out] at ho25 | (simp only [Int.reduceToNat] at ho25; rw [← Ny188.out] at ho25))
                             have HO190 := Aside0.mk (Kd.R_lower ho25 (below_size cB));replace BK179 := kB BK179 hb;replace HB := sB hb;clear hb ho25
                             refine hK.out _ _ qh5x0 (fun hHeld => ?_)
                             clear hK K;refine normZ (some 38) ?_
                             exact norm_ nP (hJ14_20 (v189) _ ⟨hHeld, (mR HO190), (mK BK179), cB⟩)
                            ·skip
                             refine goes_ Try.func38 (by kernel_rfl) rfl #[.int .i64 a0_5] (by rfl) rfl rfl (by (try simp only [List.map_toArray, List.map_cons, List.map_nil]); first | done | rfl | (simp only [List.length_drop, List.length_take]; rfl)) ?_
                             with_reducible refine (impl_four.calls a0_5 t192 _ A10.out).mono ?_;rintro e w24 ⟨rfl, hb⟩;refine ⟨_, rfl, ?_⟩;replace BK179 := kB BK179 hb;replace HB := sB hb;(try clear hb)
                             refine hK.out _ _ qh5x0 (fun hHeld => ?_)
                             clear hK K;refine normZ (some 49) ?_
                             exact norm_ nP (hJ20_25 () _ ⟨hHeld, (mK BK179), cB⟩)
                          ·skip;rintro v189 w24 ⟨hS_, h0_, h1_, h2_⟩
                           have n0_ : Aside0 (Kd.R (Kd.int .u8) 5 w24 w.heap.size (fun _ => True) v189 y188) := ⟨h0_⟩
                           have n1_ := Aside0.mk h1_;have n2_ := Aside0.mk h2_;clear BK179 HB h0_ h1_ h2_;have HO190 := n0_;have BK179 := n1_;have HB := n2_;clear n0_ n1_ n2_;have hHeld := hS_;refine norm_ (a' := ?_) ?_ ?_;rotate_left
                           ·simp only [putAll, Act.put, List.setIfInBounds_toArray, List.set_cons_zero, List.set_cons_succ];rfl
                           refine three_ (i := 6) (j := 15) (k := 20) (Ni := some 30) (Nj := some 39) (Nk := some 44) #[true, true, true, true, true, true, true, false, true, false, true, true, true, true, true, false, false, true, true, true, false, false, true, true, true, false, false, true, false, false, false, false, false, false] #[true, true, true, true, true, true, false, false, true, false, true, true, true, true, true, true, false, true, true, true, false, false, true, true, true, false, false, true, false, false, false, false, false, false] #[true, true, true, true, true, true, false, false, true, false, true, true, true, true, true, false, false, true, true, true, true, false, true, true, true, false, false, true, false, false, false, false, false, false] rfl rfl rfl rfl rfl rfl (three_of HT_.out (by kernel_rfl)) (by decide) (by decide) (by decide) (fun K hK => ?_) (fun K hK => ?_) (fun K hK => ?_)
                           ·skip
                            refine Kd.R_lit_step (Kd.int .u8) _ 5 ?hg (N := 30) ?hd (xs := ([(a0_0) % 256, (a0_1) % 256] : List Int)) (inner := [.int .u8 ((a0_0) % 256), .int .u8 ((a0_1) % 256)]) (ok := fun _ => True) (okp := fun _ => True) ?hr ?hp (fun _ hk => hk) trivial (Below.refl _ _) (Nat.le_refl _) (by simp) ?_; (case hd => rfl); (case hg => rfl); (case hr => first | (go_simp; done) | (go_simp; rfl)); (case hp => exact (Reps.one (show Kd.M (Kd.int .u8) _ _ _ ((a0_0) % 256) [.int .u8 ((a0_0) % 256)] from rfl) (Reps.one (show Kd.M (Kd.int .u8) _ _ _ ((a0_1) % 256) [.int .u8 ((a0_1) % 256)] from rfl) (Reps.none _ _))))
                            intro v186 w25 ho26 hb hg_ hnew_;clear hg_ hnew_
                            (first | rw [← Ny185.out] at ho26 | (simp only [Int.reduceToNat] at ho26; rw [← Ny185.out] at ho26))
                            have HO187 := Aside0.mk (Kd.R_lower (Kd.R_new' ho26 (Kd.R_lt (mR HO190))) (below_size cB));replace HO190 := eB HO190 (Kd.R_base ho26) hb;replace BK179 := kB BK179 hb;replace HB := sB hb;clear hb ho26
                            refine hK.out _ _ qh5x0 (fun hHeld => ?_)
                            clear hK K;refine normZ (some 30) ?_
                            exact norm_ nP (hJ6_14 (v186, v189) _ ⟨hHeld, (by (with_reducible repeat (first | apply Kd.R_alloc | apply Kd.R_drewN | apply Kd.R_drew)); exact Kd.R_mono HO187.out (fun _ hk => hk.2)), (by (with_reducible repeat (first | apply Kd.R_alloc | apply Kd.R_drewN | apply Kd.R_drew)); exact Kd.R_mono HO190.out (fun _ hk => hk.2)), (mK BK179), cB⟩)
                           ·skip;have hcv25 := own_string (P := Try.prog) Try.underlying65 Try.underlying5 Try.underlying9 (Kd.own_of_R HO190.out)
                            refine value_ (w1 := ?_) (v := ?_) (by rfl) rfl ?_ ?_
                            rotate_left 2
                            ·go_simp;constructor
                             ·rfl
                             ·rfl
                            clear hcv25
                            refine hK.out _ _ qh5x0 (fun hHeld => ?_)
                            clear hK K;refine normZ (some 39) ?_
                            exact norm_ nP (hJ14_15 (v189) _ ⟨hHeld, (mR HO190), (mK BK179), cB⟩)
                           ·skip
                            refine goes_ Try.func38 (by kernel_rfl) rfl #[.int .i64 a0_4] (by rfl) rfl rfl (by (try simp only [List.map_toArray, List.map_cons, List.map_nil]); first | done | rfl | (simp only [List.length_drop, List.length_take]; rfl)) ?_
                            with_reducible refine (impl_four.calls a0_4 t191 _ A8.out).mono ?_;rintro e w25 ⟨rfl, hb⟩;refine ⟨_, rfl, ?_⟩;replace HO190 := rB HO190 hb;replace BK179 := kB BK179 hb;replace HB := sB hb;(try clear hb)
                            refine hK.out _ _ qh5x0 (fun hHeld => ?_)
                            clear hK K;refine normZ (some 44) ?_
                            exact norm_ nP (hJ14_20 (v189) _ ⟨hHeld, (mR HO190), (mK BK179), cB⟩)
                         ·skip;rintro v186 w24 ⟨hS_, h0_, h1_, h2_⟩
                          have n0_ : Aside0 (Kd.R (Kd.int .u8) 5 w24 w.heap.size (fun _ => True) v186 y185) := ⟨h0_⟩
                          have n1_ := Aside0.mk h1_;have n2_ := Aside0.mk h2_;clear BK179 HB h0_ h1_ h2_;have HO187 := n0_;have BK179 := n1_;have HB := n2_;clear n0_ n1_ n2_;have hHeld := hS_;refine norm_ (a' := ?_) ?_ ?_;rotate_left
                          ·simp only [putAll, Act.put, List.setIfInBounds_toArray, List.set_cons_zero, List.set_cons_succ];rfl
                          refine three_ (i := 7) (j := 14) (k := 20) (Ni := some 31) (Nj := some 38) (Nk := some 44) #[true, true, true, true, true, true, true, true, true, false, true, true, true, true, false, false, false, true, true, true, false, false, true, true, true, false, false, true, false, false, false, false, false, false] #[true, true, true, true, true, true, true, false, true, false, true, true, true, true, true, false, false, true, true, true, false, false, true, true, true, false, false, true, false, false, false, false, false, false] #[true, true, true, true, true, true, true, false, true, false, true, true, true, true, false, false, false, true, true, true, true, false, true, true, true, false, false, true, false, false, false, false, false, false] rfl rfl rfl rfl rfl rfl (three_of HT_.out (by kernel_rfl)) (by decide) (by decide) (by decide) (fun K hK => ?_) (fun K hK => ?_) (fun K hK => ?_)
                          ·skip;have hcv25 := own_string (P := Try.prog) Try.underlying65 Try.underlying5 Try.underlying9 (Kd.own_of_R HO187.out)
                           refine value_ (w1 := ?_) (v := ?_) (by rfl) rfl ?_ ?_
                           rotate_left 2
                           ·go_simp;constructor
                            ·rfl
                            ·rfl
                           clear hcv25
                           refine hK.out _ _ qh5x0 (fun hHeld => ?_)
                           clear hK K;refine normZ (some 31) ?_
                           refine pureZ 9 (some 33) (msk 34 164511743) HT_.out ?_
                           exact norm_ nP (hJ6_7 (v186) _ ⟨hHeld, (mR HO187), (mK BK179), cB⟩)
                          ·skip
                           refine Kd.R_lit_step (Kd.int .u8) _ 5 ?hg (N := 38) ?hd (xs := ([(a0_3) % 256] : List Int)) (inner := [.int .u8 ((a0_3) % 256)]) (ok := fun _ => True) (okp := fun _ => True) ?hr ?hp (fun _ hk => hk) trivial (Below.refl _ _) (Nat.le_refl _) (by simp) ?_; (case hd => rfl); (case hg => rfl); (case hr => first | (go_simp; done) | (go_simp; rfl)); (case hp => exact (Reps.one (show Kd.M (Kd.int .u8) _ _ _ ((a0_3) % 256) [.int .u8 ((a0_3) % 256)] from rfl) (Reps.none _ _)))
                           intro v189 w25 ho26 hb hg_ hnew_;clear hg_ hnew_
                           (first | rw [← Ny188.out] at ho26 | (simp only [Int.reduceToNat] at ho26; rw [← Ny188.out] at ho26))
                           have HO190 := Aside0.mk (Kd.R_lower (Kd.R_new' ho26 (Kd.R_lt (mR HO187))) (below_size cB));replace HO187 := eB HO187 (Kd.R_base ho26) hb;replace BK179 := kB BK179 hb;replace HB := sB hb;clear hb ho26
                           refine hK.out _ _ qh5x0 (fun hHeld => ?_)
                           clear hK K;refine normZ (some 38) ?_
                           exact norm_ nP (hJ6_14 (v186, v189) _ ⟨hHeld, (by (with_reducible repeat (first | apply Kd.R_alloc | apply Kd.R_drewN | apply Kd.R_drew)); exact Kd.R_mono HO187.out (fun _ hk => hk.2)), (by (with_reducible repeat (first | apply Kd.R_alloc | apply Kd.R_drewN | apply Kd.R_drew)); exact Kd.R_mono HO190.out (fun _ hk => hk.2)), (mK BK179), cB⟩)
                          ·skip
                           refine goes_ Try.func38 (by kernel_rfl) rfl #[.int .i64 a0_4] (by rfl) rfl rfl (by (try simp only [List.map_toArray, List.map_cons, List.map_nil]); first | done | rfl | (simp only [List.length_drop, List.length_take]; rfl)) ?_
                           with_reducible refine (impl_four.calls a0_4 t191 _ A8.out).mono ?_;rintro e w25 ⟨rfl, hb⟩;refine ⟨_, rfl, ?_⟩;replace HO187 := rB HO187 hb;replace BK179 := kB BK179 hb;replace HB := sB hb;(try clear hb)
                           refine hK.out _ _ qh5x0 (fun hHeld => ?_)
                           clear hK K;refine normZ (some 44) ?_
                           exact norm_ nP (hJ6_20 (v186) _ ⟨hHeld, (mR HO187), (mK BK179), cB⟩)
                        ·skip;rintro _ w24 ⟨hS_, h0_, h1_⟩;have n0_ := Aside0.mk h0_;have n1_ := Aside0.mk h1_;clear BK179 HB h0_ h1_;have BK179 := n0_;have HB := n1_;clear n0_ n1_;have hHeld := hS_;refine norm_ (a' := ?_) ?_ ?_;rotate_left
                         ·simp only [putAll, Act.put, List.setIfInBounds_toArray, List.set_cons_zero, List.set_cons_succ];rfl
                         refine two_ (i := 6) (j := 14) (Ni := some 30) (Nj := some 38) #[true, true, true, true, true, true, true, false, true, false, true, true, true, true, false, false, false, true, true, true, true, false, true, true, true, true, false, true, false, false, false, false, false, false] #[true, true, true, true, true, true, false, false, true, false, true, true, true, true, true, false, false, true, true, true, true, false, true, true, true, true, false, true, false, false, false, false, false, false] rfl rfl rfl rfl (two_of HT_.out (by kernel_rfl)) (by decide) (by decide) (fun K hK => ?_) (fun K hK => ?_)
                         ·skip
                          refine Kd.R_lit_step (Kd.int .u8) _ 5 ?hg (N := 30) ?hd (xs := ([(a0_0) % 256, (a0_1) % 256] : List Int)) (inner := [.int .u8 ((a0_0) % 256), .int .u8 ((a0_1) % 256)]) (ok := fun _ => True) (okp := fun _ => True) ?hr ?hp (fun _ hk => hk) trivial (Below.refl _ _) (Nat.le_refl _) (by simp) ?_; (case hd => rfl); (case hg => rfl); (case hr => first | (go_simp; done) | (go_simp; rfl)); (case hp => exact (Reps.one (show Kd.M (Kd.int .u8) _ _ _ ((a0_0) % 256) [.int .u8 ((a0_0) % 256)] from rfl) (Reps.one (show Kd.M (Kd.int .u8) _ _ _ ((a0_1) % 256) [.int .u8 ((a0_1) % 256)] from rfl) (Reps.none _ _))))
                          intro v186 w25 ho26 hb hg_ hnew_;clear hg_ hnew_
                          (first | rw [← Ny185.out] at ho26 | (simp only [Int.reduceToNat] at ho26; rw [← Ny185.out] at ho26))
                          have HO187 := Aside0.mk (Kd.R_lower ho26 (below_size cB));replace BK179 := kB BK179 hb;replace HB := sB hb;clear hb ho26
                          refine hK.out _ _ qh5x0 (fun hHeld => ?_)
                          clear hK K;refine normZ (some 30) ?_
                          exact norm_ nP (hJ6_20_25 (v186) _ ⟨hHeld, (mR HO187), (mK BK179), cB⟩)
                         ·skip
                          refine Kd.R_lit_step (Kd.int .u8) _ 5 ?hg (N := 38) ?hd (xs := ([(a0_3) % 256] : List Int)) (inner := [.int .u8 ((a0_3) % 256)]) (ok := fun _ => True) (okp := fun _ => True) ?hr ?hp (fun _ hk => hk) trivial (Below.refl _ _) (Nat.le_refl _) (by simp) ?_; (case hd => rfl); (case hg => rfl); (case hr => first | (go_simp; done) | (go_simp; rfl)); (case hp => exact (Reps.one (show Kd.M (Kd.int .u8) _ _ _ ((a0_3) % 256) [.int .u8 ((a0_3) % 256)] from rfl) (Reps.none _ _)))
                          intro v189 w25 ho26 hb hg_ hnew_;clear hg_ hnew_
                          (first | rw [← Ny188.out] at ho26 | (simp only [Int.reduceToNat] at ho26; rw [← Ny188.out] at ho26))
                          have HO190 := Aside0.mk (Kd.R_lower ho26 (below_size cB));replace BK179 := kB BK179 hb;replace HB := sB hb;clear hb ho26
                          refine hK.out _ _ qh5x0 (fun hHeld => ?_)
                          clear hK K;refine normZ (some 38) ?_
                          exact norm_ nP (hJ14_20_25 (v189) _ ⟨hHeld, (mR HO190), (mK BK179), cB⟩)
                       ·skip;rintro v189 w25 ⟨hS_, h0_, h1_, h2_⟩
                        have n0_ : Aside0 (Kd.R (Kd.int .u8) 5 w25 w.heap.size (fun _ => True) v189 y188) := ⟨h0_⟩
                        have n1_ := Aside0.mk h1_;have n2_ := Aside0.mk h2_;clear BK179 HB h0_ h1_ h2_;have HO190 := n0_;have BK179 := n1_;have HB := n2_;clear n0_ n1_ n2_;have hHeld := hS_;refine norm_ (a' := ?_) ?_ ?_;rotate_left
                        ·simp only [putAll, Act.put, List.setIfInBounds_toArray, List.set_cons_zero, List.set_cons_succ];rfl
                        refine three_ (i := 6) (j := 15) (k := 25) (Ni := some 30) (Nj := some 39) (Nk := some 49) #[true, true, true, true, true, true, true, false, true, false, true, true, true, true, true, false, false, true, true, true, true, false, true, true, true, false, false, true, false, false, false, false, false, false] #[true, true, true, true, true, true, false, false, true, false, true, true, true, true, true, true, false, true, true, true, true, false, true, true, true, false, false, true, false, false, false, false, false, false] #[true, true, true, true, true, true, false, false, true, false, true, true, true, true, true, false, false, true, true, true, true, false, true, true, true, true, false, true, false, false, false, false, false, false] rfl rfl rfl rfl rfl rfl (three_of HT_.out (by kernel_rfl)) (by decide) (by decide) (by decide) (fun K hK => ?_) (fun K hK => ?_) (fun K hK => ?_)
                        ·skip
                         refine Kd.R_lit_step (Kd.int .u8) _ 5 ?hg (N := 30) ?hd (xs := ([(a0_0) % 256, (a0_1) % 256] : List Int)) (inner := [.int .u8 ((a0_0) % 256), .int .u8 ((a0_1) % 256)]) (ok := fun _ => True) (okp := fun _ => True) ?hr ?hp (fun _ hk => hk) trivial (Below.refl _ _) (Nat.le_refl _) (by simp) ?_; (case hd => rfl); (case hg => rfl); (case hr => first | (go_simp; done) | (go_simp; rfl)); (case hp => exact (Reps.one (show Kd.M (Kd.int .u8) _ _ _ ((a0_0) % 256) [.int .u8 ((a0_0) % 256)] from rfl) (Reps.one (show Kd.M (Kd.int .u8) _ _ _ ((a0_1) % 256) [.int .u8 ((a0_1) % 256)] from rfl) (Reps.none _ _))))
                         intro v186 w26 ho27 hb hg_ hnew_;clear hg_ hnew_
                         (first | rw [← Ny185.out] at ho27 | (simp only [Int.reduceToNat] at ho27; rw [← Ny185.out] at ho27))
                         have HO187 := Aside0.mk (Kd.R_lower (Kd.R_new' ho27 (Kd.R_lt (mR HO190))) (below_size cB));replace HO190 := eB HO190 (Kd.R_base ho27) hb;replace BK179 := kB BK179 hb;replace HB := sB hb;clear hb ho27
                         refine hK.out _ _ qh5x0 (fun hHeld => ?_)
                         clear hK K;refine normZ (some 30) ?_
                         exact norm_ nP (hJ6_14_20 (v186, v189) _ ⟨hHeld, (by (with_reducible repeat (first | apply Kd.R_alloc | apply Kd.R_drewN | apply Kd.R_drew)); exact Kd.R_mono HO187.out (fun _ hk => hk.2)), (by (with_reducible repeat (first | apply Kd.R_alloc | apply Kd.R_drewN | apply Kd.R_drew)); exact Kd.R_mono HO190.out (fun _ hk => hk.2)), (mK BK179), cB⟩)
                        ·skip;have hcv26 := own_string (P := Try.prog) Try.underlying65 Try.underlying5 Try.underlying9 (Kd.own_of_R HO190.out)
                         refine value_ (w1 := ?_) (v := ?_) (by rfl) rfl ?_ ?_
                         rotate_left 2
                         ·go_simp;constructor
                          ·rfl
                          ·rfl
                         clear hcv26
                         refine hK.out _ _ qh5x0 (fun hHeld => ?_)
                         clear hK K;refine normZ (some 39) ?_
                         exact norm_ nP (hJ14_15_20 (v189) _ ⟨hHeld, (mR HO190), (mK BK179), cB⟩)
                        ·skip
                         refine goes_ Try.func38 (by kernel_rfl) rfl #[.int .i64 a0_5] (by rfl) rfl rfl (by (try simp only [List.map_toArray, List.map_cons, List.map_nil]); first | done | rfl | (simp only [List.length_drop, List.length_take]; rfl)) ?_
                         with_reducible refine (impl_four.calls a0_5 t192 _ A10.out).mono ?_;rintro e w26 ⟨rfl, hb⟩;refine ⟨_, rfl, ?_⟩;replace HO190 := rB HO190 hb;replace BK179 := kB BK179 hb;replace HB := sB hb;(try clear hb)
                         refine hK.out _ _ qh5x0 (fun hHeld => ?_)
                         clear hK K;refine normZ (some 49) ?_
                         exact norm_ nP (hJ14_20_25 (v189) _ ⟨hHeld, (mR HO190), (mK BK179), cB⟩)
                      ·skip;rintro v189 w25 ⟨hS_, h0_, h1_, h2_⟩
                       have n0_ : Aside0 (Kd.R (Kd.int .u8) 5 w25 w.heap.size (fun _ => True) v189 y188) := ⟨h0_⟩
                       have n1_ := Aside0.mk h1_;have n2_ := Aside0.mk h2_;clear BK179 HB h0_ h1_ h2_;have HO190 := n0_;have BK179 := n1_;have HB := n2_;clear n0_ n1_ n2_;have hHeld := hS_;refine norm_ (a' := ?_) ?_ ?_;rotate_left
                       ·simp only [putAll, Act.put, List.setIfInBounds_toArray, List.set_cons_zero, List.set_cons_succ];rfl
                       refine two_ (i := 6) (j := 20) (Ni := some 30) (Nj := some 44) #[true, true, true, true, true, true, true, false, true, false, true, true, true, true, true, true, false, true, true, true, false, false, true, true, true, false, false, true, false, false, false, false, false, false] #[true, true, true, true, true, true, false, false, true, false, true, true, true, true, true, true, false, true, true, true, true, false, true, true, true, false, false, true, false, false, false, false, false, false] rfl rfl rfl rfl (two_of HT_.out (by kernel_rfl)) (by decide) (by decide) (fun K hK => ?_) (fun K hK => ?_)
                       ·skip
                        refine Kd.R_lit_step (Kd.int .u8) _ 5 ?hg (N := 30) ?hd (xs := ([(a0_0) % 256, (a0_1) % 256] : List Int)) (inner := [.int .u8 ((a0_0) % 256), .int .u8 ((a0_1) % 256)]) (ok := fun _ => True) (okp := fun _ => True) ?hr ?hp (fun _ hk => hk) trivial (Below.refl _ _) (Nat.le_refl _) (by simp) ?_; (case hd => rfl); (case hg => rfl); (case hr => first | (go_simp; done) | (go_simp; rfl)); (case hp => exact (Reps.one (show Kd.M (Kd.int .u8) _ _ _ ((a0_0) % 256) [.int .u8 ((a0_0) % 256)] from rfl) (Reps.one (show Kd.M (Kd.int .u8) _ _ _ ((a0_1) % 256) [.int .u8 ((a0_1) % 256)] from rfl) (Reps.none _ _))))
                        intro v186 w26 ho27 hb hg_ hnew_;clear hg_ hnew_
                        (first | rw [← Ny185.out] at ho27 | (simp only [Int.reduceToNat] at ho27; rw [← Ny185.out] at ho27))
                        have HO187 := Aside0.mk (Kd.R_lower (Kd.R_new' ho27 (Kd.R_lt (mR HO190))) (below_size cB));replace HO190 := eB HO190 (Kd.R_base ho27) hb;replace BK179 := kB BK179 hb;replace HB := sB hb;clear hb ho27
                        refine hK.out _ _ qh5x0 (fun hHeld => ?_)
                        clear hK K;refine normZ (some 30) ?_
                        exact norm_ nP (hJ6_14_15 (v186, v189) _ ⟨hHeld, (by (with_reducible repeat (first | apply Kd.R_alloc | apply Kd.R_drewN | apply Kd.R_drew)); exact Kd.R_mono HO187.out (fun _ hk => hk.2)), (by (with_reducible repeat (first | apply Kd.R_alloc | apply Kd.R_drewN | apply Kd.R_drew)); exact Kd.R_mono HO190.out (fun _ hk => hk.2)), (mK BK179), cB⟩)
                       ·skip
                        refine goes_ Try.func38 (by kernel_rfl) rfl #[.int .i64 a0_4] (by rfl) rfl rfl (by (try simp only [List.map_toArray, List.map_cons, List.map_nil]); first | done | rfl | (simp only [List.length_drop, List.length_take]; rfl)) ?_
                        with_reducible refine (impl_four.calls a0_4 t191 _ A8.out).mono ?_;rintro e w26 ⟨rfl, hb⟩;refine ⟨_, rfl, ?_⟩;replace HO190 := rB HO190 hb;replace BK179 := kB BK179 hb;replace HB := sB hb;(try clear hb)
                        refine hK.out _ _ qh5x0 (fun hHeld => ?_)
                        clear hK K;refine normZ (some 44) ?_
                        exact norm_ nP (hJ14_15_20 (v189) _ ⟨hHeld, (mR HO190), (mK BK179), cB⟩)
                     ·skip;rintro v186 w25 ⟨hS_, h0_, h1_, h2_⟩
                      have n0_ : Aside0 (Kd.R (Kd.int .u8) 5 w25 w.heap.size (fun _ => True) v186 y185) := ⟨h0_⟩
                      have n1_ := Aside0.mk h1_;have n2_ := Aside0.mk h2_;clear BK179 HB h0_ h1_ h2_;have HO187 := n0_;have BK179 := n1_;have HB := n2_;clear n0_ n1_ n2_;have hHeld := hS_;refine norm_ (a' := ?_) ?_ ?_;rotate_left
                      ·simp only [putAll, Act.put, List.setIfInBounds_toArray, List.set_cons_zero, List.set_cons_succ];rfl
                      refine three_ (i := 7) (j := 14) (k := 25) (Ni := some 31) (Nj := some 38) (Nk := some 49) #[true, true, true, true, true, true, true, true, true, false, true, true, true, true, false, false, false, true, true, true, true, false, true, true, true, false, false, true, false, false, false, false, false, false] #[true, true, true, true, true, true, true, false, true, false, true, true, true, true, true, false, false, true, true, true, true, false, true, true, true, false, false, true, false, false, false, false, false, false] #[true, true, true, true, true, true, true, false, true, false, true, true, true, true, false, false, false, true, true, true, true, false, true, true, true, true, false, true, false, false, false, false, false, false] rfl rfl rfl rfl rfl rfl (three_of HT_.out (by kernel_rfl)) (by decide) (by decide) (by decide) (fun K hK => ?_) (fun K hK => ?_) (fun K hK => ?_)
                      ·skip;have hcv26 := own_string (P := Try.prog) Try.underlying65 Try.underlying5 Try.underlying9 (Kd.own_of_R HO187.out)
                       refine value_ (w1 := ?_) (v := ?_) (by rfl) rfl ?_ ?_
                       rotate_left 2
                       ·go_simp;constructor
                        ·rfl
                        ·rfl
                       clear hcv26
                       refine hK.out _ _ qh5x0 (fun hHeld => ?_)
                       clear hK K;refine normZ (some 31) ?_
                       refine pureZ 9 (some 33) (msk 34 165560319) HT_.out ?_
                       exact norm_ nP (hJ6_7_20 (v186) _ ⟨hHeld, (mR HO187), (mK BK179), cB⟩)
                      ·skip
                       refine Kd.R_lit_step (Kd.int .u8) _ 5 ?hg (N := 38) ?hd (xs := ([(a0_3) % 256] : List Int)) (inner := [.int .u8 ((a0_3) % 256)]) (ok := fun _ => True) (okp := fun _ => True) ?hr ?hp (fun _ hk => hk) trivial (Below.refl _ _) (Nat.le_refl _) (by simp) ?_; (case hd => rfl); (case hg => rfl); (case hr => first | (go_simp; done) | (go_simp; rfl)); (case hp => exact (Reps.one (show Kd.M (Kd.int .u8) _ _ _ ((a0_3) % 256) [.int .u8 ((a0_3) % 256)] from rfl) (Reps.none _ _)))
                       intro v189 w26 ho27 hb hg_ hnew_;clear hg_ hnew_
                       (first | rw [← Ny188.out] at ho27 | (simp only [Int.reduceToNat] at ho27; rw [← Ny188.out] at ho27))
                       have HO190 := Aside0.mk (Kd.R_lower (Kd.R_new' ho27 (Kd.R_lt (mR HO187))) (below_size cB));replace HO187 := eB HO187 (Kd.R_base ho27) hb;replace BK179 := kB BK179 hb;replace HB := sB hb;clear hb ho27
                       refine hK.out _ _ qh5x0 (fun hHeld => ?_)
                       clear hK K;refine normZ (some 38) ?_
                       exact norm_ nP (hJ6_14_20 (v186, v189) _ ⟨hHeld, (by (with_reducible repeat (first | apply Kd.R_alloc | apply Kd.R_drewN | apply Kd.R_drew)); exact Kd.R_mono HO187.out (fun _ hk => hk.2)), (by (with_reducible repeat (first | apply Kd.R_alloc | apply Kd.R_drewN | apply Kd.R_drew)); exact Kd.R_mono HO190.out (fun _ hk => hk.2)), (mK BK179), cB⟩)
                      ·skip
                       refine goes_ Try.func38 (by kernel_rfl) rfl #[.int .i64 a0_5] (by rfl) rfl rfl (by (try simp only [List.map_toArray, List.map_cons, List.map_nil]); first | done | rfl | (simp only [List.length_drop, List.length_take]; rfl)) ?_
                       with_reducible refine (impl_four.calls a0_5 t192 _ A10.out).mono ?_;rintro e w26 ⟨rfl, hb⟩;refine ⟨_, rfl, ?_⟩;replace HO187 := rB HO187 hb;replace BK179 := kB BK179 hb;replace HB := sB hb;(try clear hb)
                       refine hK.out _ _ qh5x0 (fun hHeld => ?_)
                       clear hK K;refine normZ (some 49) ?_
                       exact norm_ nP (hJ6_20_25 (v186) _ ⟨hHeld, (mR HO187), (mK BK179), cB⟩)
                    ·skip;rintro ⟨v186, v189⟩ w26 ⟨hS_, h0_, h1_, h2_, h3_⟩
                     have n0_ : Aside0 (Kd.R (Kd.int .u8) 5 w26 w.heap.size (fun k_ => some k_ ≠ (v189 : Value).ownBlock) v186 y185) := ⟨h0_⟩
                     have n1_ : Aside0 (Kd.R (Kd.int .u8) 5 w26 w.heap.size (fun k_ => some k_ ≠ (v186 : Value).ownBlock) v189 y188) := ⟨h1_⟩
                     have n2_ := Aside0.mk h2_;have n3_ := Aside0.mk h3_;clear BK179 HB h0_ h1_ h2_ h3_;have HO187 := n0_;have HO190 := n1_;have BK179 := n2_;have HB := n3_;clear n0_ n1_ n2_ n3_;have hHeld := hS_;refine norm_ (a' := ?_) ?_ ?_;rotate_left
                     ·simp only [putAll, Act.put, List.setIfInBounds_toArray, List.set_cons_zero, List.set_cons_succ];rfl
                     refine three_ (i := 7) (j := 15) (k := 20) (Ni := some 31) (Nj := some 39) (Nk := some 44) #[true, true, true, true, true, true, true, true, true, false, true, true, true, true, true, false, false, true, true, true, false, false, true, true, true, false, false, true, false, false, false, false, false, false] #[true, true, true, true, true, true, true, false, true, false, true, true, true, true, true, true, false, true, true, true, false, false, true, true, true, false, false, true, false, false, false, false, false, false] #[true, true, true, true, true, true, true, false, true, false, true, true, true, true, true, false, false, true, true, true, true, false, true, true, true, false, false, true, false, false, false, false, false, false] rfl rfl rfl rfl rfl rfl (three_of HT_.out (by kernel_rfl)) (by decide) (by decide) (by decide) (fun K hK => ?_) (fun K hK => ?_) (fun K hK => ?_)
                     ·skip;have hcv27 := own_string (P := Try.prog) Try.underlying65 Try.underlying5 Try.underlying9 (Kd.own_of_R HO187.out)
                      refine value_ (w1 := ?_) (v := ?_) (by rfl) rfl ?_ ?_
                      rotate_left 2
                      ·go_simp;constructor
                       ·rfl
                       ·rfl
                      clear hcv27
                      refine hK.out _ _ qh5x0 (fun hHeld => ?_)
                      clear hK K;refine normZ (some 31) ?_
                      refine pureZ 9 (some 33) (msk 34 164528127) HT_.out ?_
                      exact norm_ nP (hJ6_7_14 (v186, v189) _ ⟨hHeld, (mR HO187), (mR HO190), (mK BK179), cB⟩)
                     ·skip;have hcv27 := own_string (P := Try.prog) Try.underlying65 Try.underlying5 Try.underlying9 (Kd.own_of_R HO190.out)
                      refine value_ (w1 := ?_) (v := ?_) (by rfl) rfl ?_ ?_
                      rotate_left 2
                      ·go_simp;constructor
                       ·rfl
                       ·rfl
                      clear hcv27
                      refine hK.out _ _ qh5x0 (fun hHeld => ?_)
                      clear hK K;refine normZ (some 39) ?_
                      exact norm_ nP (hJ6_14_15 (v186, v189) _ ⟨hHeld, (mR HO187), (mR HO190), (mK BK179), cB⟩)
                     ·skip
                      refine goes_ Try.func38 (by kernel_rfl) rfl #[.int .i64 a0_4] (by rfl) rfl rfl (by (try simp only [List.map_toArray, List.map_cons, List.map_nil]); first | done | rfl | (simp only [List.length_drop, List.length_take]; rfl)) ?_
                      with_reducible refine (impl_four.calls a0_4 t191 _ A8.out).mono ?_;rintro e w27 ⟨rfl, hb⟩;refine ⟨_, rfl, ?_⟩;replace HO187 := rB HO187 hb;replace HO190 := rB HO190 hb;replace BK179 := kB BK179 hb;replace HB := sB hb;(try clear hb)
                      refine hK.out _ _ qh5x0 (fun hHeld => ?_)
                      clear hK K;refine normZ (some 44) ?_
                      exact norm_ nP (hJ6_14_20 (v186, v189) _ ⟨hHeld, (mR HO187), (mR HO190), (mK BK179), cB⟩)
                   ·skip;rintro v186 w25 ⟨hS_, h0_, h1_, h2_⟩
                    have n0_ : Aside0 (Kd.R (Kd.int .u8) 5 w25 w.heap.size (fun _ => True) v186 y185) := ⟨h0_⟩
                    have n1_ := Aside0.mk h1_;have n2_ := Aside0.mk h2_;clear BK179 HB h0_ h1_ h2_;have HO187 := n0_;have BK179 := n1_;have HB := n2_;clear n0_ n1_ n2_;have hHeld := hS_;refine norm_ (a' := ?_) ?_ ?_;rotate_left
                    ·simp only [putAll, Act.put, List.setIfInBounds_toArray, List.set_cons_zero, List.set_cons_succ];rfl
                    refine two_ (i := 14) (j := 20) (Ni := some 38) (Nj := some 44) #[true, true, true, true, true, true, true, true, true, true, true, true, true, true, true, false, false, true, true, true, false, false, true, true, true, false, false, true, false, false, false, false, false, false] #[true, true, true, true, true, true, true, true, true, true, true, true, true, true, false, false, false, true, true, true, true, false, true, true, true, false, false, true, false, false, false, false, false, false] rfl rfl rfl rfl (two_of HT_.out (by kernel_rfl)) (by decide) (by decide) (fun K hK => ?_) (fun K hK => ?_)
                    ·skip
                     refine Kd.R_lit_step (Kd.int .u8) _ 5 ?hg (N := 38) ?hd (xs := ([(a0_3) % 256] : List Int)) (inner := [.int .u8 ((a0_3) % 256)]) (ok := fun _ => True) (okp := fun _ => True) ?hr ?hp (fun _ hk => hk) trivial (Below.refl _ _) (Nat.le_refl _) (by simp) ?_; (case hd => rfl); (case hg => rfl); (case hr => first | (go_simp; done) | (go_simp; rfl)); (case hp => exact (Reps.one (show Kd.M (Kd.int .u8) _ _ _ ((a0_3) % 256) [.int .u8 ((a0_3) % 256)] from rfl) (Reps.none _ _)))
                     intro v189 w26 ho27 hb hg_ hnew_;clear hg_ hnew_
                     (first | rw [← Ny188.out] at ho27 | (simp only [Int.reduceToNat] at ho27; rw [← Ny188.out] at ho27))
                     have HO190 := Aside0.mk (Kd.R_lower (Kd.R_new' ho27 (Kd.R_lt (mR HO187))) (below_size cB));replace HO187 := eB HO187 (Kd.R_base ho27) hb;replace BK179 := kB BK179 hb;replace HB := sB hb;clear hb ho27
                     refine hK.out _ _ qh5x0 (fun hHeld => ?_)
                     clear hK K;refine normZ (some 38) ?_
                     exact norm_ nP (hJ6_7_14 (v186, v189) _ ⟨hHeld, (by (with_reducible repeat (first | apply Kd.R_alloc | apply Kd.R_drewN | apply Kd.R_drew)); exact Kd.R_mono HO187.out (fun _ hk => hk.2)), (by (with_reducible repeat (first | apply Kd.R_alloc | apply Kd.R_drewN | apply Kd.R_drew)); exact Kd.R_mono HO190.out (fun _ hk => hk.2)), (mK BK179), cB⟩)
                    ·skip
                     refine goes_ Try.func38 (by kernel_rfl) rfl #[.int .i64 a0_4] (by rfl) rfl rfl (by (try simp only [List.map_toArray, List.map_cons, List.map_nil]); first | done | rfl | (simp only [List.length_drop, List.length_take]; rfl)) ?_
                     with_reducible refine (impl_four.calls a0_4 t191 _ A8.out).mono ?_;rintro e w26 ⟨rfl, hb⟩;refine ⟨_, rfl, ?_⟩;replace HO187 := rB HO187 hb;replace BK179 := kB BK179 hb;replace HB := sB hb;(try clear hb)
                     refine hK.out _ _ qh5x0 (fun hHeld => ?_)
                     clear hK K;refine normZ (some 44) ?_
                     exact norm_ nP (hJ6_7_20 (v186) _ ⟨hHeld, (mR HO187), (mK BK179), cB⟩)
                  ·skip;rintro v189 w26 ⟨hS_, h0_, h1_, h2_⟩
                   have n0_ : Aside0 (Kd.R (Kd.int .u8) 5 w26 w.heap.size (fun _ => True) v189 y188) := ⟨h0_⟩
                   have n1_ := Aside0.mk h1_;have n2_ := Aside0.mk h2_;clear BK179 HB h0_ h1_ h2_;have HO190 := n0_;have BK179 := n1_;have HB := n2_;clear n0_ n1_ n2_;have hHeld := hS_;refine norm_ (a' := ?_) ?_ ?_;rotate_left
                   ·simp only [putAll, Act.put, List.setIfInBounds_toArray, List.set_cons_zero, List.set_cons_succ];rfl
                   refine two_ (i := 6) (j := 15) (Ni := some 30) (Nj := some 39) #[true, true, true, true, true, true, true, false, true, false, true, true, true, true, true, false, false, true, true, true, true, false, true, true, true, true, false, true, false, false, false, false, false, false] #[true, true, true, true, true, true, false, false, true, false, true, true, true, true, true, true, false, true, true, true, true, false, true, true, true, true, false, true, false, false, false, false, false, false] rfl rfl rfl rfl (two_of HT_.out (by kernel_rfl)) (by decide) (by decide) (fun K hK => ?_) (fun K hK => ?_)
                   ·skip
                    refine Kd.R_lit_step (Kd.int .u8) _ 5 ?hg (N := 30) ?hd (xs := ([(a0_0) % 256, (a0_1) % 256] : List Int)) (inner := [.int .u8 ((a0_0) % 256), .int .u8 ((a0_1) % 256)]) (ok := fun _ => True) (okp := fun _ => True) ?hr ?hp (fun _ hk => hk) trivial (Below.refl _ _) (Nat.le_refl _) (by simp) ?_; (case hd => rfl); (case hg => rfl); (case hr => first | (go_simp; done) | (go_simp; rfl)); (case hp => exact (Reps.one (show Kd.M (Kd.int .u8) _ _ _ ((a0_0) % 256) [.int .u8 ((a0_0) % 256)] from rfl) (Reps.one (show Kd.M (Kd.int .u8) _ _ _ ((a0_1) % 256) [.int .u8 ((a0_1) % 256)] from rfl) (Reps.none _ _))))
                    intro v186 w27 ho28 hb hg_ hnew_;clear hg_ hnew_
                    (first | rw [← Ny185.out] at ho28 | (simp only [Int.reduceToNat] at ho28; rw [← Ny185.out] at ho28))
                    have HO187 := Aside0.mk (Kd.R_lower (Kd.R_new' ho28 (Kd.R_lt (mR HO190))) (below_size cB));replace HO190 := eB HO190 (Kd.R_base ho28) hb;replace BK179 := kB BK179 hb;replace HB := sB hb;clear hb ho28
                    refine hK.out _ _ qh5x0 (fun hHeld => ?_)
                    clear hK K;refine normZ (some 30) ?_
                    exact norm_ nP (hJ6_14_20_25 (v186, v189) _ ⟨hHeld, (by (with_reducible repeat (first | apply Kd.R_alloc | apply Kd.R_drewN | apply Kd.R_drew)); exact Kd.R_mono HO187.out (fun _ hk => hk.2)), (by (with_reducible repeat (first | apply Kd.R_alloc | apply Kd.R_drewN | apply Kd.R_drew)); exact Kd.R_mono HO190.out (fun _ hk => hk.2)), (mK BK179), cB⟩)
                   ·skip;have hcv27 := own_string (P := Try.prog) Try.underlying65 Try.underlying5 Try.underlying9 (Kd.own_of_R HO190.out)
                    refine value_ (w1 := ?_) (v := ?_) (by rfl) rfl ?_ ?_
                    rotate_left 2
                    ·go_simp;constructor
                     ·rfl
                     ·rfl
                    clear hcv27
                    refine hK.out _ _ qh5x0 (fun hHeld => ?_)
                    clear hK K;refine normZ (some 39) ?_
                    exact norm_ nP (hJ14_15_20_25 (v189) _ ⟨hHeld, (mR HO190), (mK BK179), cB⟩)
                 ·skip;rintro v189 w26 ⟨hS_, h0_, h1_, h2_⟩
                  have n0_ : Aside0 (Kd.R (Kd.int .u8) 5 w26 w.heap.size (fun _ => True) v189 y188) := ⟨h0_⟩
                  have n1_ := Aside0.mk h1_;have n2_ := Aside0.mk h2_;clear BK179 HB h0_ h1_ h2_;have HO190 := n0_;have BK179 := n1_;have HB := n2_;clear n0_ n1_ n2_;have hHeld := hS_;refine norm_ (a' := ?_) ?_ ?_;rotate_left
                  ·simp only [putAll, Act.put, List.setIfInBounds_toArray, List.set_cons_zero, List.set_cons_succ];rfl
                  refine two_ (i := 6) (j := 25) (Ni := some 30) (Nj := some 49) #[true, true, true, true, true, true, true, false, true, false, true, true, true, true, true, true, false, true, true, true, true, false, true, true, true, false, false, true, false, false, false, false, false, false] #[true, true, true, true, true, true, false, false, true, false, true, true, true, true, true, true, false, true, true, true, true, false, true, true, true, true, false, true, false, false, false, false, false, false] rfl rfl rfl rfl (two_of HT_.out (by kernel_rfl)) (by decide) (by decide) (fun K hK => ?_) (fun K hK => ?_)
                  ·skip
                   refine Kd.R_lit_step (Kd.int .u8) _ 5 ?hg (N := 30) ?hd (xs := ([(a0_0) % 256, (a0_1) % 256] : List Int)) (inner := [.int .u8 ((a0_0) % 256), .int .u8 ((a0_1) % 256)]) (ok := fun _ => True) (okp := fun _ => True) ?hr ?hp (fun _ hk => hk) trivial (Below.refl _ _) (Nat.le_refl _) (by simp) ?_; (case hd => rfl); (case hg => rfl); (case hr => first | (go_simp; done) | (go_simp; rfl)); (case hp => exact (Reps.one (show Kd.M (Kd.int .u8) _ _ _ ((a0_0) % 256) [.int .u8 ((a0_0) % 256)] from rfl) (Reps.one (show Kd.M (Kd.int .u8) _ _ _ ((a0_1) % 256) [.int .u8 ((a0_1) % 256)] from rfl) (Reps.none _ _))))
                   intro v186 w27 ho28 hb hg_ hnew_;clear hg_ hnew_
                   (first | rw [← Ny185.out] at ho28 | (simp only [Int.reduceToNat] at ho28; rw [← Ny185.out] at ho28))
                   have HO187 := Aside0.mk (Kd.R_lower (Kd.R_new' ho28 (Kd.R_lt (mR HO190))) (below_size cB));replace HO190 := eB HO190 (Kd.R_base ho28) hb;replace BK179 := kB BK179 hb;replace HB := sB hb;clear hb ho28
                   refine hK.out _ _ qh5x0 (fun hHeld => ?_)
                   clear hK K;refine normZ (some 30) ?_
                   exact norm_ nP (hJ6_14_15_20 (v186, v189) _ ⟨hHeld, (by (with_reducible repeat (first | apply Kd.R_alloc | apply Kd.R_drewN | apply Kd.R_drew)); exact Kd.R_mono HO187.out (fun _ hk => hk.2)), (by (with_reducible repeat (first | apply Kd.R_alloc | apply Kd.R_drewN | apply Kd.R_drew)); exact Kd.R_mono HO190.out (fun _ hk => hk.2)), (mK BK179), cB⟩)
                  ·skip
                   refine goes_ Try.func38 (by kernel_rfl) rfl #[.int .i64 a0_5] (by rfl) rfl rfl (by (try simp only [List.map_toArray, List.map_cons, List.map_nil]); first | done | rfl | (simp only [List.length_drop, List.length_take]; rfl)) ?_
                   with_reducible refine (impl_four.calls a0_5 t192 _ A10.out).mono ?_;rintro e w27 ⟨rfl, hb⟩;refine ⟨_, rfl, ?_⟩;replace HO190 := rB HO190 hb;replace BK179 := kB BK179 hb;replace HB := sB hb;(try clear hb)
                   refine hK.out _ _ qh5x0 (fun hHeld => ?_)
                   clear hK K;refine normZ (some 49) ?_
                   exact norm_ nP (hJ14_15_20_25 (v189) _ ⟨hHeld, (mR HO190), (mK BK179), cB⟩)
                ·skip;rintro v186 w26 ⟨hS_, h0_, h1_, h2_⟩
                 have n0_ : Aside0 (Kd.R (Kd.int .u8) 5 w26 w.heap.size (fun _ => True) v186 y185) := ⟨h0_⟩
                 have n1_ := Aside0.mk h1_;have n2_ := Aside0.mk h2_;clear BK179 HB h0_ h1_ h2_;have HO187 := n0_;have BK179 := n1_;have HB := n2_;clear n0_ n1_ n2_;have hHeld := hS_;refine norm_ (a' := ?_) ?_ ?_;rotate_left
                 ·simp only [putAll, Act.put, List.setIfInBounds_toArray, List.set_cons_zero, List.set_cons_succ];rfl
                 refine two_ (i := 7) (j := 14) (Ni := some 31) (Nj := some 38) #[true, true, true, true, true, true, true, true, true, false, true, true, true, true, false, false, false, true, true, true, true, false, true, true, true, true, false, true, false, false, false, false, false, false] #[true, true, true, true, true, true, true, false, true, false, true, true, true, true, true, false, false, true, true, true, true, false, true, true, true, true, false, true, false, false, false, false, false, false] rfl rfl rfl rfl (two_of HT_.out (by kernel_rfl)) (by decide) (by decide) (fun K hK => ?_) (fun K hK => ?_)
                 ·skip;have hcv27 := own_string (P := Try.prog) Try.underlying65 Try.underlying5 Try.underlying9 (Kd.own_of_R HO187.out)
                  refine value_ (w1 := ?_) (v := ?_) (by rfl) rfl ?_ ?_
                  rotate_left 2
                  ·go_simp;constructor
                   ·rfl
                   ·rfl
                  clear hcv27
                  refine hK.out _ _ qh5x0 (fun hHeld => ?_)
                  clear hK K;refine normZ (some 31) ?_
                  refine pureZ 9 (some 33) (msk 34 199114751) HT_.out ?_
                  exact norm_ nP (hJ6_7_20_25 (v186) _ ⟨hHeld, (mR HO187), (mK BK179), cB⟩)
                 ·skip
                  refine Kd.R_lit_step (Kd.int .u8) _ 5 ?hg (N := 38) ?hd (xs := ([(a0_3) % 256] : List Int)) (inner := [.int .u8 ((a0_3) % 256)]) (ok := fun _ => True) (okp := fun _ => True) ?hr ?hp (fun _ hk => hk) trivial (Below.refl _ _) (Nat.le_refl _) (by simp) ?_; (case hd => rfl); (case hg => rfl); (case hr => first | (go_simp; done) | (go_simp; rfl)); (case hp => exact (Reps.one (show Kd.M (Kd.int .u8) _ _ _ ((a0_3) % 256) [.int .u8 ((a0_3) % 256)] from rfl) (Reps.none _ _)))
                  intro v189 w27 ho28 hb hg_ hnew_;clear hg_ hnew_
                  (first | rw [← Ny188.out] at ho28 | (simp only [Int.reduceToNat] at ho28; rw [← Ny188.out] at ho28))
                  have HO190 := Aside0.mk (Kd.R_lower (Kd.R_new' ho28 (Kd.R_lt (mR HO187))) (below_size cB));replace HO187 := eB HO187 (Kd.R_base ho28) hb;replace BK179 := kB BK179 hb;replace HB := sB hb;clear hb ho28
                  refine hK.out _ _ qh5x0 (fun hHeld => ?_)
                  clear hK K;refine normZ (some 38) ?_
                  exact norm_ nP (hJ6_14_20_25 (v186, v189) _ ⟨hHeld, (by (with_reducible repeat (first | apply Kd.R_alloc | apply Kd.R_drewN | apply Kd.R_drew)); exact Kd.R_mono HO187.out (fun _ hk => hk.2)), (by (with_reducible repeat (first | apply Kd.R_alloc | apply Kd.R_drewN | apply Kd.R_drew)); exact Kd.R_mono HO190.out (fun _ hk => hk.2)), (mK BK179), cB⟩)
               ·skip;rintro ⟨v186, v189⟩ w27 ⟨hS_, h0_, h1_, h2_, h3_⟩
                have n0_ : Aside0 (Kd.R (Kd.int .u8) 5 w27 w.heap.size (fun k_ => some k_ ≠ (v189 : Value).ownBlock) v186 y185) := ⟨h0_⟩
                have n1_ : Aside0 (Kd.R (Kd.int .u8) 5 w27 w.heap.size (fun k_ => some k_ ≠ (v186 : Value).ownBlock) v189 y188) := ⟨h1_⟩
                have n2_ := Aside0.mk h2_;have n3_ := Aside0.mk h3_;clear BK179 HB h0_ h1_ h2_ h3_;have HO187 := n0_;have HO190 := n1_;have BK179 := n2_;have HB := n3_;clear n0_ n1_ n2_ n3_;have hHeld := hS_;refine norm_ (a' := ?_) ?_ ?_;rotate_left
                ·simp only [putAll, Act.put, List.setIfInBounds_toArray, List.set_cons_zero, List.set_cons_succ];rfl
                refine three_ (i := 7) (j := 15) (k := 25) (Ni := some 31) (Nj := some 39) (Nk := some 49) #[true, true, true, true, true, true, true, true, true, false, true, true, true, true, true, false, false, true, true, true, true, false, true, true, true, false, false, true, false, false, false, false, false, false] #[true, true, true, true, true, true, true, false, true, false, true, true, true, true, true, true, false, true, true, true, true, false, true, true, true, false, false, true, false, false, false, false, false, false] #[true, true, true, true, true, true, true, false, true, false, true, true, true, true, true, false, false, true, true, true, true, false, true, true, true, true, false, true, false, false, false, false, false, false] rfl rfl rfl rfl rfl rfl (three_of HT_.out (by kernel_rfl)) (by decide) (by decide) (by decide) (fun K hK => ?_) (fun K hK => ?_) (fun K hK => ?_)
                ·skip;have hcv28 := own_string (P := Try.prog) Try.underlying65 Try.underlying5 Try.underlying9 (Kd.own_of_R HO187.out)
                 refine value_ (w1 := ?_) (v := ?_) (by rfl) rfl ?_ ?_
                 rotate_left 2
                 ·go_simp;constructor
                  ·rfl
                  ·rfl
                 clear hcv28
                 refine hK.out _ _ qh5x0 (fun hHeld => ?_)
                 clear hK K;refine normZ (some 31) ?_
                 refine pureZ 9 (some 33) (msk 34 165576703) HT_.out ?_
                 exact norm_ nP (hJ6_7_14_20 (v186, v189) _ ⟨hHeld, (mR HO187), (mR HO190), (mK BK179), cB⟩)
                ·skip;have hcv28 := own_string (P := Try.prog) Try.underlying65 Try.underlying5 Try.underlying9 (Kd.own_of_R HO190.out)
                 refine value_ (w1 := ?_) (v := ?_) (by rfl) rfl ?_ ?_
                 rotate_left 2
                 ·go_simp;constructor
                  ·rfl
                  ·rfl
                 clear hcv28
                 refine hK.out _ _ qh5x0 (fun hHeld => ?_)
                 clear hK K;refine normZ (some 39) ?_
                 exact norm_ nP (hJ6_14_15_20 (v186, v189) _ ⟨hHeld, (mR HO187), (mR HO190), (mK BK179), cB⟩)
                ·skip
                 refine goes_ Try.func38 (by kernel_rfl) rfl #[.int .i64 a0_5] (by rfl) rfl rfl (by (try simp only [List.map_toArray, List.map_cons, List.map_nil]); first | done | rfl | (simp only [List.length_drop, List.length_take]; rfl)) ?_
                 with_reducible refine (impl_four.calls a0_5 t192 _ A10.out).mono ?_;rintro e w28 ⟨rfl, hb⟩;refine ⟨_, rfl, ?_⟩;replace HO187 := rB HO187 hb;replace HO190 := rB HO190 hb;replace BK179 := kB BK179 hb;replace HB := sB hb;(try clear hb)
                 refine hK.out _ _ qh5x0 (fun hHeld => ?_)
                 clear hK K;refine normZ (some 49) ?_
                 exact norm_ nP (hJ6_14_20_25 (v186, v189) _ ⟨hHeld, (mR HO187), (mR HO190), (mK BK179), cB⟩)
              ·skip;rintro ⟨v186, v189⟩ w27 ⟨hS_, h0_, h1_, h2_, h3_⟩
               have n0_ : Aside0 (Kd.R (Kd.int .u8) 5 w27 w.heap.size (fun k_ => some k_ ≠ (v189 : Value).ownBlock) v186 y185) := ⟨h0_⟩
               have n1_ : Aside0 (Kd.R (Kd.int .u8) 5 w27 w.heap.size (fun k_ => some k_ ≠ (v186 : Value).ownBlock) v189 y188) := ⟨h1_⟩
               have n2_ := Aside0.mk h2_;have n3_ := Aside0.mk h3_;clear BK179 HB h0_ h1_ h2_ h3_;have HO187 := n0_;have HO190 := n1_;have BK179 := n2_;have HB := n3_;clear n0_ n1_ n2_ n3_;have hHeld := hS_;refine norm_ (a' := ?_) ?_ ?_;rotate_left
               ·simp only [putAll, Act.put, List.setIfInBounds_toArray, List.set_cons_zero, List.set_cons_succ];rfl
               refine two_ (i := 7) (j := 20) (Ni := some 31) (Nj := some 44) #[true, true, true, true, true, true, true, true, true, false, true, true, true, true, true, true, false, true, true, true, false, false, true, true, true, false, false, true, false, false, false, false, false, false] #[true, true, true, true, true, true, true, false, true, false, true, true, true, true, true, true, false, true, true, true, true, false, true, true, true, false, false, true, false, false, false, false, false, false] rfl rfl rfl rfl (two_of HT_.out (by kernel_rfl)) (by decide) (by decide) (fun K hK => ?_) (fun K hK => ?_)
               ·skip;have hcv28 := own_string (P := Try.prog) Try.underlying65 Try.underlying5 Try.underlying9 (Kd.own_of_R HO187.out)
                refine value_ (w1 := ?_) (v := ?_) (by rfl) rfl ?_ ?_
                rotate_left 2
                ·go_simp;constructor
                 ·rfl
                 ·rfl
                clear hcv28
                refine hK.out _ _ qh5x0 (fun hHeld => ?_)
                clear hK K;refine normZ (some 31) ?_
                refine pureZ 9 (some 33) (msk 34 164560895) HT_.out ?_;refine pureZ 16 (some 40) (msk 34 164626431) HT_.out ?_
                exact norm_ nP (hJ6_7_14_15 (v186, v189) _ ⟨hHeld, (mR HO187), (mR HO190), (mK BK179), cB⟩)
               ·skip
                refine goes_ Try.func38 (by kernel_rfl) rfl #[.int .i64 a0_4] (by rfl) rfl rfl (by (try simp only [List.map_toArray, List.map_cons, List.map_nil]); first | done | rfl | (simp only [List.length_drop, List.length_take]; rfl)) ?_
                with_reducible refine (impl_four.calls a0_4 t191 _ A8.out).mono ?_;rintro e w28 ⟨rfl, hb⟩;refine ⟨_, rfl, ?_⟩;replace HO187 := rB HO187 hb;replace HO190 := rB HO190 hb;replace BK179 := kB BK179 hb;replace HB := sB hb;(try clear hb)
                refine hK.out _ _ qh5x0 (fun hHeld => ?_)
                clear hK K;refine normZ (some 44) ?_
                exact norm_ nP (hJ6_14_15_20 (v186, v189) _ ⟨hHeld, (mR HO187), (mR HO190), (mK BK179), cB⟩)
             ·skip;rintro v186 w26 ⟨hS_, h0_, h1_, h2_⟩
              have n0_ : Aside0 (Kd.R (Kd.int .u8) 5 w26 w.heap.size (fun _ => True) v186 y185) := ⟨h0_⟩
              have n1_ := Aside0.mk h1_;have n2_ := Aside0.mk h2_;clear BK179 HB h0_ h1_ h2_;have HO187 := n0_;have BK179 := n1_;have HB := n2_;clear n0_ n1_ n2_;have hHeld := hS_;refine norm_ (a' := ?_) ?_ ?_;rotate_left
              ·simp only [putAll, Act.put, List.setIfInBounds_toArray, List.set_cons_zero, List.set_cons_succ];rfl
              refine two_ (i := 14) (j := 25) (Ni := some 38) (Nj := some 49) #[true, true, true, true, true, true, true, true, true, true, true, true, true, true, true, false, false, true, true, true, true, false, true, true, true, false, false, true, false, false, false, false, false, false] #[true, true, true, true, true, true, true, true, true, true, true, true, true, true, false, false, false, true, true, true, true, false, true, true, true, true, false, true, false, false, false, false, false, false] rfl rfl rfl rfl (two_of HT_.out (by kernel_rfl)) (by decide) (by decide) (fun K hK => ?_) (fun K hK => ?_)
              ·skip
               refine Kd.R_lit_step (Kd.int .u8) _ 5 ?hg (N := 38) ?hd (xs := ([(a0_3) % 256] : List Int)) (inner := [.int .u8 ((a0_3) % 256)]) (ok := fun _ => True) (okp := fun _ => True) ?hr ?hp (fun _ hk => hk) trivial (Below.refl _ _) (Nat.le_refl _) (by simp) ?_; (case hd => rfl); (case hg => rfl); (case hr => first | (go_simp; done) | (go_simp; rfl)); (case hp => exact (Reps.one (show Kd.M (Kd.int .u8) _ _ _ ((a0_3) % 256) [.int .u8 ((a0_3) % 256)] from rfl) (Reps.none _ _)))
               intro v189 w27 ho28 hb hg_ hnew_;clear hg_ hnew_
               (first | rw [← Ny188.out] at ho28 | (simp only [Int.reduceToNat] at ho28; rw [← Ny188.out] at ho28))
               have HO190 := Aside0.mk (Kd.R_lower (Kd.R_new' ho28 (Kd.R_lt (mR HO187))) (below_size cB));replace HO187 := eB HO187 (Kd.R_base ho28) hb;replace BK179 := kB BK179 hb;replace HB := sB hb;clear hb ho28
               refine hK.out _ _ qh5x0 (fun hHeld => ?_)
               clear hK K;refine normZ (some 38) ?_
               exact norm_ nP (hJ6_7_14_20 (v186, v189) _ ⟨hHeld, (by (with_reducible repeat (first | apply Kd.R_alloc | apply Kd.R_drewN | apply Kd.R_drew)); exact Kd.R_mono HO187.out (fun _ hk => hk.2)), (by (with_reducible repeat (first | apply Kd.R_alloc | apply Kd.R_drewN | apply Kd.R_drew)); exact Kd.R_mono HO190.out (fun _ hk => hk.2)), (mK BK179), cB⟩)
              ·skip
               refine goes_ Try.func38 (by kernel_rfl) rfl #[.int .i64 a0_5] (by rfl) rfl rfl (by (try simp only [List.map_toArray, List.map_cons, List.map_nil]); first | done | rfl | (simp only [List.length_drop, List.length_take]; rfl)) ?_
               with_reducible refine (impl_four.calls a0_5 t192 _ A10.out).mono ?_;rintro e w27 ⟨rfl, hb⟩;refine ⟨_, rfl, ?_⟩;replace HO187 := rB HO187 hb;replace BK179 := kB BK179 hb;replace HB := sB hb;(try clear hb)
               refine hK.out _ _ qh5x0 (fun hHeld => ?_)
               clear hK K;refine normZ (some 49) ?_
               exact norm_ nP (hJ6_7_20_25 (v186) _ ⟨hHeld, (mR HO187), (mK BK179), cB⟩)
            ·skip;rintro ⟨v186, v189⟩ w27 ⟨hS_, h0_, h1_, h2_, h3_⟩
             have n0_ : Aside0 (Kd.R (Kd.int .u8) 5 w27 w.heap.size (fun k_ => some k_ ≠ (v189 : Value).ownBlock) v186 y185) := ⟨h0_⟩
             have n1_ : Aside0 (Kd.R (Kd.int .u8) 5 w27 w.heap.size (fun k_ => some k_ ≠ (v186 : Value).ownBlock) v189 y188) := ⟨h1_⟩
             have n2_ := Aside0.mk h2_;have n3_ := Aside0.mk h3_;clear BK179 HB h0_ h1_ h2_ h3_;have HO187 := n0_;have HO190 := n1_;have BK179 := n2_;have HB := n3_;clear n0_ n1_ n2_ n3_;have hHeld := hS_;refine norm_ (a' := ?_) ?_ ?_;rotate_left
             ·simp only [putAll, Act.put, List.setIfInBounds_toArray, List.set_cons_zero, List.set_cons_succ];rfl
             refine two_ (i := 15) (j := 20) (Ni := some 39) (Nj := some 44) #[true, true, true, true, true, true, true, true, true, true, true, true, true, true, true, true, false, true, true, true, false, false, true, true, true, false, false, true, false, false, false, false, false, false] #[true, true, true, true, true, true, true, true, true, true, true, true, true, true, true, false, false, true, true, true, true, false, true, true, true, false, false, true, false, false, false, false, false, false] rfl rfl rfl rfl (two_of HT_.out (by kernel_rfl)) (by decide) (by decide) (fun K hK => ?_) (fun K hK => ?_)
             ·skip;have hcv28 := own_string (P := Try.prog) Try.underlying65 Try.underlying5 Try.underlying9 (Kd.own_of_R HO190.out)
              refine value_ (w1 := ?_) (v := ?_) (by rfl) rfl ?_ ?_
              rotate_left 2
              ·go_simp;constructor
               ·rfl
               ·rfl
              clear hcv28
              refine hK.out _ _ qh5x0 (fun hHeld => ?_)
              clear hK K;refine normZ (some 39) ?_
              refine pureZ 16 (some 40) (msk 34 164626431) HT_.out ?_
              exact norm_ nP (hJ6_7_14_15 (v186, v189) _ ⟨hHeld, (mR HO187), (mR HO190), (mK BK179), cB⟩)
             ·skip
              refine goes_ Try.func38 (by kernel_rfl) rfl #[.int .i64 a0_4] (by rfl) rfl rfl (by (try simp only [List.map_toArray, List.map_cons, List.map_nil]); first | done | rfl | (simp only [List.length_drop, List.length_take]; rfl)) ?_
              with_reducible refine (impl_four.calls a0_4 t191 _ A8.out).mono ?_;rintro e w28 ⟨rfl, hb⟩;refine ⟨_, rfl, ?_⟩;replace HO187 := rB HO187 hb;replace HO190 := rB HO190 hb;replace BK179 := kB BK179 hb;replace HB := sB hb;(try clear hb)
              refine hK.out _ _ qh5x0 (fun hHeld => ?_)
              clear hK K;refine normZ (some 44) ?_
              exact norm_ nP (hJ6_7_14_20 (v186, v189) _ ⟨hHeld, (mR HO187), (mR HO190), (mK BK179), cB⟩)
           ·skip;rintro v189 w27 ⟨hS_, h0_, h1_, h2_⟩
            have n0_ : Aside0 (Kd.R (Kd.int .u8) 5 w27 w.heap.size (fun _ => True) v189 y188) := ⟨h0_⟩
            have n1_ := Aside0.mk h1_;have n2_ := Aside0.mk h2_;clear BK179 HB h0_ h1_ h2_;have HO190 := n0_;have BK179 := n1_;have HB := n2_;clear n0_ n1_ n2_;have hHeld := hS_;refine norm_ (a' := ?_) ?_ ?_;rotate_left
            ·simp only [putAll, Act.put, List.setIfInBounds_toArray, List.set_cons_zero, List.set_cons_succ];rfl
            refine one_Z 6 (some 30) (msk 34 199163263) HT_.out fun K hK => ?_
            refine Kd.R_lit_step (Kd.int .u8) _ 5 ?hg (N := 30) ?hd (xs := ([(a0_0) % 256, (a0_1) % 256] : List Int)) (inner := [.int .u8 ((a0_0) % 256), .int .u8 ((a0_1) % 256)]) (ok := fun _ => True) (okp := fun _ => True) ?hr ?hp (fun _ hk => hk) trivial (Below.refl _ _) (Nat.le_refl _) (by simp) ?_; (case hd => rfl); (case hg => rfl); (case hr => first | (go_simp; done) | (go_simp; rfl)); (case hp => exact (Reps.one (show Kd.M (Kd.int .u8) _ _ _ ((a0_0) % 256) [.int .u8 ((a0_0) % 256)] from rfl) (Reps.one (show Kd.M (Kd.int .u8) _ _ _ ((a0_1) % 256) [.int .u8 ((a0_1) % 256)] from rfl) (Reps.none _ _))))
            intro v186 w28 ho29 hb hg_ hnew_;clear hg_ hnew_
            (first | rw [← Ny185.out] at ho29 | (simp only [Int.reduceToNat] at ho29; rw [← Ny185.out] at ho29))
            have HO187 := Aside0.mk (Kd.R_lower (Kd.R_new' ho29 (Kd.R_lt (mR HO190))) (below_size cB));replace HO190 := eB HO190 (Kd.R_base ho29) hb;replace BK179 := kB BK179 hb;replace HB := sB hb;clear hb ho29
            refine hK.out _ _ qh5x0 (fun hHeld => ?_)
            clear hK K;refine normZ (some 30) ?_
            exact norm_ nP (hJ6_14_15_20_25 (v186, v189) _ ⟨hHeld, (by (with_reducible repeat (first | apply Kd.R_alloc | apply Kd.R_drewN | apply Kd.R_drew)); exact Kd.R_mono HO187.out (fun _ hk => hk.2)), (by (with_reducible repeat (first | apply Kd.R_alloc | apply Kd.R_drewN | apply Kd.R_drew)); exact Kd.R_mono HO190.out (fun _ hk => hk.2)), (mK BK179), cB⟩)
          ·skip;rintro ⟨v186, v189⟩ w28 ⟨hS_, h0_, h1_, h2_, h3_⟩
           have n0_ : Aside0 (Kd.R (Kd.int .u8) 5 w28 w.heap.size (fun k_ => some k_ ≠ (v189 : Value).ownBlock) v186 y185) := ⟨h0_⟩
           have n1_ : Aside0 (Kd.R (Kd.int .u8) 5 w28 w.heap.size (fun k_ => some k_ ≠ (v186 : Value).ownBlock) v189 y188) := ⟨h1_⟩
           have n2_ := Aside0.mk h2_;have n3_ := Aside0.mk h3_;clear BK179 HB h0_ h1_ h2_ h3_;have HO187 := n0_;have HO190 := n1_;have BK179 := n2_;have HB := n3_;clear n0_ n1_ n2_ n3_;have hHeld := hS_;refine norm_ (a' := ?_) ?_ ?_;rotate_left
           ·simp only [putAll, Act.put, List.setIfInBounds_toArray, List.set_cons_zero, List.set_cons_succ];rfl
           refine two_ (i := 7) (j := 15) (Ni := some 31) (Nj := some 39) #[true, true, true, true, true, true, true, true, true, false, true, true, true, true, true, false, false, true, true, true, true, false, true, true, true, true, false, true, false, false, false, false, false, false] #[true, true, true, true, true, true, true, false, true, false, true, true, true, true, true, true, false, true, true, true, true, false, true, true, true, true, false, true, false, false, false, false, false, false] rfl rfl rfl rfl (two_of HT_.out (by kernel_rfl)) (by decide) (by decide) (fun K hK => ?_) (fun K hK => ?_)
           ·skip;have hcv29 := own_string (P := Try.prog) Try.underlying65 Try.underlying5 Try.underlying9 (Kd.own_of_R HO187.out)
            refine value_ (w1 := ?_) (v := ?_) (by rfl) rfl ?_ ?_
            rotate_left 2
            ·go_simp;constructor
             ·rfl
             ·rfl
            clear hcv29
            refine hK.out _ _ qh5x0 (fun hHeld => ?_)
            clear hK K;refine normZ (some 31) ?_
            refine pureZ 9 (some 33) (msk 34 199131135) HT_.out ?_
            exact norm_ nP (hJ6_7_14_20_25 (v186, v189) _ ⟨hHeld, (mR HO187), (mR HO190), (mK BK179), cB⟩)
           ·skip;have hcv29 := own_string (P := Try.prog) Try.underlying65 Try.underlying5 Try.underlying9 (Kd.own_of_R HO190.out)
            refine value_ (w1 := ?_) (v := ?_) (by rfl) rfl ?_ ?_
            rotate_left 2
            ·go_simp;constructor
             ·rfl
             ·rfl
            clear hcv29
            refine hK.out _ _ qh5x0 (fun hHeld => ?_)
            clear hK K;refine normZ (some 39) ?_
            exact norm_ nP (hJ6_14_15_20_25 (v186, v189) _ ⟨hHeld, (mR HO187), (mR HO190), (mK BK179), cB⟩)
         ·skip;rintro ⟨v186, v189⟩ w28 ⟨hS_, h0_, h1_, h2_, h3_⟩
          have n0_ : Aside0 (Kd.R (Kd.int .u8) 5 w28 w.heap.size (fun k_ => some k_ ≠ (v189 : Value).ownBlock) v186 y185) := ⟨h0_⟩
          have n1_ : Aside0 (Kd.R (Kd.int .u8) 5 w28 w.heap.size (fun k_ => some k_ ≠ (v186 : Value).ownBlock) v189 y188) := ⟨h1_⟩
          have n2_ := Aside0.mk h2_;have n3_ := Aside0.mk h3_;clear BK179 HB h0_ h1_ h2_ h3_;have HO187 := n0_;have HO190 := n1_;have BK179 := n2_;have HB := n3_;clear n0_ n1_ n2_ n3_;have hHeld := hS_;refine norm_ (a' := ?_) ?_ ?_;rotate_left
          ·simp only [putAll, Act.put, List.setIfInBounds_toArray, List.set_cons_zero, List.set_cons_succ];rfl
          refine two_ (i := 7) (j := 25) (Ni := some 31) (Nj := some 49) #[true, true, true, true, true, true, true, true, true, false, true, true, true, true, true, true, false, true, true, true, true, false, true, true, true, false, false, true, false, false, false, false, false, false] #[true, true, true, true, true, true, true, false, true, false, true, true, true, true, true, true, false, true, true, true, true, false, true, true, true, true, false, true, false, false, false, false, false, false] rfl rfl rfl rfl (two_of HT_.out (by kernel_rfl)) (by decide) (by decide) (fun K hK => ?_) (fun K hK => ?_)
          ·skip;have hcv29 := own_string (P := Try.prog) Try.underlying65 Try.underlying5 Try.underlying9 (Kd.own_of_R HO187.out)
           refine value_ (w1 := ?_) (v := ?_) (by rfl) rfl ?_ ?_
           rotate_left 2
           ·go_simp;constructor
            ·rfl
            ·rfl
           clear hcv29
           refine hK.out _ _ qh5x0 (fun hHeld => ?_)
           clear hK K;refine normZ (some 31) ?_
           refine pureZ 9 (some 33) (msk 34 165609471) HT_.out ?_;refine pureZ 16 (some 40) (msk 34 165675007) HT_.out ?_;refine pureZ 21 (some 45) (msk 34 167772159) HT_.out ?_
           exact norm_ nP (hJ6_7_14_15_20 (v186, v189) _ ⟨hHeld, (mR HO187), (mR HO190), (mK BK179), cB⟩)
          ·skip
           refine goes_ Try.func38 (by kernel_rfl) rfl #[.int .i64 a0_5] (by rfl) rfl rfl (by (try simp only [List.map_toArray, List.map_cons, List.map_nil]); first | done | rfl | (simp only [List.length_drop, List.length_take]; rfl)) ?_
           with_reducible refine (impl_four.calls a0_5 t192 _ A10.out).mono ?_;rintro e w29 ⟨rfl, hb⟩;refine ⟨_, rfl, ?_⟩;replace HO187 := rB HO187 hb;replace HO190 := rB HO190 hb;replace BK179 := kB BK179 hb;replace HB := sB hb;(try clear hb)
           refine hK.out _ _ qh5x0 (fun hHeld => ?_)
           clear hK K;refine normZ (some 49) ?_
           exact norm_ nP (hJ6_14_15_20_25 (v186, v189) _ ⟨hHeld, (mR HO187), (mR HO190), (mK BK179), cB⟩)
        ·skip;rintro v186 w27 ⟨hS_, h0_, h1_, h2_⟩
         have n0_ : Aside0 (Kd.R (Kd.int .u8) 5 w27 w.heap.size (fun _ => True) v186 y185) := ⟨h0_⟩
         have n1_ := Aside0.mk h1_;have n2_ := Aside0.mk h2_;clear BK179 HB h0_ h1_ h2_;have HO187 := n0_;have BK179 := n1_;have HB := n2_;clear n0_ n1_ n2_;have hHeld := hS_;refine norm_ (a' := ?_) ?_ ?_;rotate_left
         ·simp only [putAll, Act.put, List.setIfInBounds_toArray, List.set_cons_zero, List.set_cons_succ];rfl
         refine one_Z 14 (some 38) (msk 34 199131135) HT_.out fun K hK => ?_
         refine Kd.R_lit_step (Kd.int .u8) _ 5 ?hg (N := 38) ?hd (xs := ([(a0_3) % 256] : List Int)) (inner := [.int .u8 ((a0_3) % 256)]) (ok := fun _ => True) (okp := fun _ => True) ?hr ?hp (fun _ hk => hk) trivial (Below.refl _ _) (Nat.le_refl _) (by simp) ?_; (case hd => rfl); (case hg => rfl); (case hr => first | (go_simp; done) | (go_simp; rfl)); (case hp => exact (Reps.one (show Kd.M (Kd.int .u8) _ _ _ ((a0_3) % 256) [.int .u8 ((a0_3) % 256)] from rfl) (Reps.none _ _)))
         intro v189 w28 ho29 hb hg_ hnew_;clear hg_ hnew_
         (first | rw [← Ny188.out] at ho29 | (simp only [Int.reduceToNat] at ho29; rw [← Ny188.out] at ho29))
         have HO190 := Aside0.mk (Kd.R_lower (Kd.R_new' ho29 (Kd.R_lt (mR HO187))) (below_size cB));replace HO187 := eB HO187 (Kd.R_base ho29) hb;replace BK179 := kB BK179 hb;replace HB := sB hb;clear hb ho29
         refine hK.out _ _ qh5x0 (fun hHeld => ?_)
         clear hK K;refine normZ (some 38) ?_
         exact norm_ nP (hJ6_7_14_20_25 (v186, v189) _ ⟨hHeld, (by (with_reducible repeat (first | apply Kd.R_alloc | apply Kd.R_drewN | apply Kd.R_drew)); exact Kd.R_mono HO187.out (fun _ hk => hk.2)), (by (with_reducible repeat (first | apply Kd.R_alloc | apply Kd.R_drewN | apply Kd.R_drew)); exact Kd.R_mono HO190.out (fun _ hk => hk.2)), (mK BK179), cB⟩)
       ·skip;rintro ⟨v186, v189⟩ w28 ⟨hS_, h0_, h1_, h2_, h3_⟩
        have n0_ : Aside0 (Kd.R (Kd.int .u8) 5 w28 w.heap.size (fun k_ => some k_ ≠ (v189 : Value).ownBlock) v186 y185) := ⟨h0_⟩
        have n1_ : Aside0 (Kd.R (Kd.int .u8) 5 w28 w.heap.size (fun k_ => some k_ ≠ (v186 : Value).ownBlock) v189 y188) := ⟨h1_⟩
        have n2_ := Aside0.mk h2_;have n3_ := Aside0.mk h3_;clear BK179 HB h0_ h1_ h2_ h3_;have HO187 := n0_;have HO190 := n1_;have BK179 := n2_;have HB := n3_;clear n0_ n1_ n2_ n3_;have hHeld := hS_;refine norm_ (a' := ?_) ?_ ?_;rotate_left
        ·simp only [putAll, Act.put, List.setIfInBounds_toArray, List.set_cons_zero, List.set_cons_succ];rfl
        refine two_ (i := 15) (j := 25) (Ni := some 39) (Nj := some 49) #[true, true, true, true, true, true, true, true, true, true, true, true, true, true, true, true, false, true, true, true, true, false, true, true, true, false, false, true, false, false, false, false, false, false] #[true, true, true, true, true, true, true, true, true, true, true, true, true, true, true, false, false, true, true, true, true, false, true, true, true, true, false, true, false, false, false, false, false, false] rfl rfl rfl rfl (two_of HT_.out (by kernel_rfl)) (by decide) (by decide) (fun K hK => ?_) (fun K hK => ?_)
        ·skip;have hcv29 := own_string (P := Try.prog) Try.underlying65 Try.underlying5 Try.underlying9 (Kd.own_of_R HO190.out)
         refine value_ (w1 := ?_) (v := ?_) (by rfl) rfl ?_ ?_
         rotate_left 2
         ·go_simp;constructor
          ·rfl
          ·rfl
         clear hcv29
         refine hK.out _ _ qh5x0 (fun hHeld => ?_)
         clear hK K;refine normZ (some 39) ?_
         refine pureZ 16 (some 40) (msk 34 165675007) HT_.out ?_;refine pureZ 21 (some 45) (msk 34 167772159) HT_.out ?_
         exact norm_ nP (hJ6_7_14_15_20 (v186, v189) _ ⟨hHeld, (mR HO187), (mR HO190), (mK BK179), cB⟩)
        ·skip
         refine goes_ Try.func38 (by kernel_rfl) rfl #[.int .i64 a0_5] (by rfl) rfl rfl (by (try simp only [List.map_toArray, List.map_cons, List.map_nil]); first | done | rfl | (simp only [List.length_drop, List.length_take]; rfl)) ?_
         with_reducible refine (impl_four.calls a0_5 t192 _ A10.out).mono ?_;rintro e w29 ⟨rfl, hb⟩;refine ⟨_, rfl, ?_⟩;replace HO187 := rB HO187 hb;replace HO190 := rB HO190 hb;replace BK179 := kB BK179 hb;replace HB := sB hb;(try clear hb)
         refine hK.out _ _ qh5x0 (fun hHeld => ?_)
         clear hK K;refine normZ (some 49) ?_
         exact norm_ nP (hJ6_7_14_20_25 (v186, v189) _ ⟨hHeld, (mR HO187), (mR HO190), (mK BK179), cB⟩)
      ·skip;rintro ⟨v186, v189⟩ w28 ⟨hS_, h0_, h1_, h2_, h3_⟩
       have n0_ : Aside0 (Kd.R (Kd.int .u8) 5 w28 w.heap.size (fun k_ => some k_ ≠ (v189 : Value).ownBlock) v186 y185) := ⟨h0_⟩
       have n1_ : Aside0 (Kd.R (Kd.int .u8) 5 w28 w.heap.size (fun k_ => some k_ ≠ (v186 : Value).ownBlock) v189 y188) := ⟨h1_⟩
       have n2_ := Aside0.mk h2_;have n3_ := Aside0.mk h3_;clear BK179 HB h0_ h1_ h2_ h3_;have HO187 := n0_;have HO190 := n1_;have BK179 := n2_;have HB := n3_;clear n0_ n1_ n2_ n3_;have hHeld := hS_;refine norm_ (a' := ?_) ?_ ?_;rotate_left
       ·simp only [putAll, Act.put, List.setIfInBounds_toArray, List.set_cons_zero, List.set_cons_succ];rfl
       refine one_Z 20 (some 44) (msk 34 165675007) HT_.out fun K hK => ?_
       refine goes_ Try.func38 (by kernel_rfl) rfl #[.int .i64 a0_4] (by rfl) rfl rfl (by (try simp only [List.map_toArray, List.map_cons, List.map_nil]); first | done | rfl | (simp only [List.length_drop, List.length_take]; rfl)) ?_
       with_reducible refine (impl_four.calls a0_4 t191 _ A8.out).mono ?_;rintro e w29 ⟨rfl, hb⟩;refine ⟨_, rfl, ?_⟩;replace HO187 := rB HO187 hb;replace HO190 := rB HO190 hb;replace BK179 := kB BK179 hb;replace HB := sB hb;(try clear hb)
       refine hK.out _ _ qh5x0 (fun hHeld => ?_)
       clear hK K;refine normZ (some 44) ?_
       refine pureZ 21 (some 45) (msk 34 167772159) HT_.out ?_
       exact norm_ nP (hJ6_7_14_15_20 (v186, v189) _ ⟨hHeld, (mR HO187), (mR HO190), (mK BK179), cB⟩)
     ·skip;rintro ⟨v186, v189⟩ w29 ⟨hS_, h0_, h1_, h2_, h3_⟩
      have n0_ : Aside0 (Kd.R (Kd.int .u8) 5 w29 w.heap.size (fun k_ => some k_ ≠ (v189 : Value).ownBlock) v186 y185) := ⟨h0_⟩
      have n1_ : Aside0 (Kd.R (Kd.int .u8) 5 w29 w.heap.size (fun k_ => some k_ ≠ (v186 : Value).ownBlock) v189 y188) := ⟨h1_⟩
      have n2_ := Aside0.mk h2_;have n3_ := Aside0.mk h3_;clear BK179 HB h0_ h1_ h2_ h3_;have HO187 := n0_;have HO190 := n1_;have BK179 := n2_;have HB := n3_;clear n0_ n1_ n2_ n3_;have hHeld := hS_;refine norm_ (a' := ?_) ?_ ?_;rotate_left
      ·simp only [putAll, Act.put, List.setIfInBounds_toArray, List.set_cons_zero, List.set_cons_succ];rfl
      refine one_Z 7 (some 31) (msk 34 199163391) HT_.out fun K hK => ?_
      have hcv30 := own_string (P := Try.prog) Try.underlying65 Try.underlying5 Try.underlying9 (Kd.own_of_R HO187.out)
      refine value_ (w1 := ?_) (v := ?_) (by rfl) rfl ?_ ?_
      rotate_left 2
      ·go_simp;constructor
       ·rfl
       ·rfl
      clear hcv30
      refine hK.out _ _ qh5x0 (fun hHeld => ?_)
      clear hK K;refine normZ (some 31) ?_
      refine pureZ 9 (some 33) (msk 34 199163903) HT_.out ?_;refine pureZ 16 (some 40) (msk 34 199229439) HT_.out ?_;refine pureZ 21 (some 45) (msk 34 201326591) HT_.out ?_
      exact norm_ nP (hJ6_7_14_15_20_25 (v186, v189) _ ⟨hHeld, (mR HO187), (mR HO190), (mK BK179), cB⟩)
    ·skip;rintro ⟨v186, v189⟩ w29 ⟨hS_, h0_, h1_, h2_, h3_⟩
     have n0_ : Aside0 (Kd.R (Kd.int .u8) 5 w29 w.heap.size (fun k_ => some k_ ≠ (v189 : Value).ownBlock) v186 y185) := ⟨h0_⟩
     have n1_ : Aside0 (Kd.R (Kd.int .u8) 5 w29 w.heap.size (fun k_ => some k_ ≠ (v186 : Value).ownBlock) v189 y188) := ⟨h1_⟩
     have n2_ := Aside0.mk h2_;have n3_ := Aside0.mk h3_;clear BK179 HB h0_ h1_ h2_ h3_;have HO187 := n0_;have HO190 := n1_;have BK179 := n2_;have HB := n3_;clear n0_ n1_ n2_ n3_;have hHeld := hS_;refine norm_ (a' := ?_) ?_ ?_;rotate_left
     ·simp only [putAll, Act.put, List.setIfInBounds_toArray, List.set_cons_zero, List.set_cons_succ];rfl
     refine one_Z 15 (some 39) (msk 34 199163903) HT_.out fun K hK => ?_
     have hcv30 := own_string (P := Try.prog) Try.underlying65 Try.underlying5 Try.underlying9 (Kd.own_of_R HO190.out)
     refine value_ (w1 := ?_) (v := ?_) (by rfl) rfl ?_ ?_
     rotate_left 2
     ·go_simp;constructor
      ·rfl
      ·rfl
     clear hcv30
     refine hK.out _ _ qh5x0 (fun hHeld => ?_)
     clear hK K;refine normZ (some 39) ?_
     refine pureZ 16 (some 40) (msk 34 199229439) HT_.out ?_;refine pureZ 21 (some 45) (msk 34 201326591) HT_.out ?_
     exact norm_ nP (hJ6_7_14_15_20_25 (v186, v189) _ ⟨hHeld, (mR HO187), (mR HO190), (mK BK179), cB⟩)
   ·skip;rintro ⟨v186, v189⟩ w29 ⟨hS_, h0_, h1_, h2_, h3_⟩
    have n0_ : Aside0 (Kd.R (Kd.int .u8) 5 w29 w.heap.size (fun k_ => some k_ ≠ (v189 : Value).ownBlock) v186 y185) := ⟨h0_⟩
    have n1_ : Aside0 (Kd.R (Kd.int .u8) 5 w29 w.heap.size (fun k_ => some k_ ≠ (v186 : Value).ownBlock) v189 y188) := ⟨h1_⟩
    have n2_ := Aside0.mk h2_;have n3_ := Aside0.mk h3_;clear BK179 HB h0_ h1_ h2_ h3_;have HO187 := n0_;have HO190 := n1_;have BK179 := n2_;have HB := n3_;clear n0_ n1_ n2_ n3_;have hHeld := hS_;refine norm_ (a' := ?_) ?_ ?_;rotate_left
    ·simp only [putAll, Act.put, List.setIfInBounds_toArray, List.set_cons_zero, List.set_cons_succ];rfl
    refine one_Z 25 (some 49) (msk 34 201326591) HT_.out fun K hK => ?_
    refine goes_ Try.func38 (by kernel_rfl) rfl #[.int .i64 a0_5] (by rfl) rfl rfl (by (try simp only [List.map_toArray, List.map_cons, List.map_nil]); first | done | rfl | (simp only [List.length_drop, List.length_take]; rfl)) ?_
    with_reducible refine (impl_four.calls a0_5 t192 _ A10.out).mono ?_;rintro e w30 ⟨rfl, hb⟩;refine ⟨_, rfl, ?_⟩;replace HO187 := rB HO187 hb;replace HO190 := rB HO190 hb;replace BK179 := kB BK179 hb;replace HB := sB hb;(try clear hb)
    refine hK.out _ _ qh5x0 (fun hHeld => ?_)
    clear hK K;refine normZ (some 49) ?_
    exact norm_ nP (hJ6_7_14_15_20_25 (v186, v189) _ ⟨hHeld, (mR HO187), (mR HO190), (mK BK179), cB⟩)
  rintro ⟨v186, v189⟩ w30 ⟨hS_, h0_, h1_, h2_, h3_⟩
  have n0_ : Aside0 (Kd.R (Kd.int .u8) 5 w30 w.heap.size (fun k_ => some k_ ≠ (v189 : Value).ownBlock) v186 y185) := ⟨h0_⟩
  have n1_ : Aside0 (Kd.R (Kd.int .u8) 5 w30 w.heap.size (fun k_ => some k_ ≠ (v186 : Value).ownBlock) v189 y188) := ⟨h1_⟩
  have n2_ := Aside0.mk h2_;have n3_ := Aside0.mk h3_;clear BK179 HB h0_ h1_ h2_ h3_;have HO187 := n0_;have HO190 := n1_;have BK179 := n2_;have HB := n3_;clear n0_ n1_ n2_ n3_;have hHeld := hS_;refine norm_ (a' := ?_) ?_ ?_;rotate_left
  ·simp only [putAll, Act.put, List.setIfInBounds_toArray, List.set_cons_zero, List.set_cons_succ];rfl
  refine pureZ 26 (some 50) (msk 34 268435455) HT_.out ?_;refine pureZ 28 (some 52) (msk 34 536870911) HT_.out ?_
  refine one_Z 29 (some 53) (msk 34 1073741823) HT_.out fun K hK => ?_
  refine goes_ Try.func37 (by kernel_rfl) rfl #[.string ((((((strOfNums y185) ++ t181) ++ (strOfNums y188)) ++ t191) ++ t192) ++ t183)] (by rfl) rfl rfl (by (try simp only [List.map_toArray, List.map_cons, List.map_nil]); first | done | rfl | (simp only [List.length_drop, List.length_take]; rfl)) ?_
  with_reducible refine (impl_Sealed.calls k ((((((strOfNums y185) ++ t181) ++ (strOfNums y188)) ++ t191) ++ t192) ++ t183) t193 t194 _ A13.out).mono ?_;rintro e w31 ⟨rfl, hb⟩;refine ⟨_, rfl, ?_⟩;replace HO187 := rB HO187 hb;replace HO190 := rB HO190 hb;replace BK179 := kB BK179 hb;replace HB := sB hb;(try clear hb)
  refine hK.out _ _ qh5x0 (fun hHeld => ?_)
  clear hK K;refine normZ (some 53) ?_
  refine pureZ 30 (some 54) (msk 34 2147483647) HT_.out ?_;refine pureZ 31 (some 55) (msk 34 4294967295) HT_.out ?_;refine pureZ 32 (some 2) (msk 34 8589934591) HT_.out ?_;refine pureZ 33 (some 3) (msk 34 17179869183) HT_.out ?_
  refine done_ (done_of HT_.out (by kernel_rfl)) ?_
  try go_wp2
  go_ret2;exact ⟨rE, cB⟩
 ·replace c3 := Bool.eq_false_iff.mpr c3;subst c3;replace H := iF H;simp only [Option.some.injEq, Prod.mk.injEq] at H;obtain ⟨rfl, rfl⟩ := H;go_enter Try.func14, Try.ntmps14
  go_wp2_with (first|((with_reducible refine gN 1 ?_);refine boxZ 1 #[.int .i64 a0_0, .int .i64 a0_1, .int .i64 a0_2, .int .i64 a0_3, .int .i64 a0_4, .int .i64 a0_5, .int .i64 a0_6] 37 ?_;intro gb179 hg w32 hbox hb;have BK179 := Aside0.mk (hbox);have GW179 := gS hg;have GE179 := gS hg;replace HB := sB hb;clear hb hbox hg;obtain ⟨hcz33_0, hcz33_1, hcz33_2, hcz33_3, hcz33_4, hcz33_5, hcz33_6, hfz33_0, hfz33_1, hfz33_2, hfz33_3, hfz33_4, hfz33_5, hfz33_6⟩ := cz7 BK179)|((with_reducible refine gF 35 ?_);refine goZ (some 9) Try.func35 #[.agg #[.int .i64 a0_0, .int .i64 a0_1, .int .i64 a0_2, .int .i64 a0_3, .int .i64 a0_4, .int .i64 a0_5, .int .i64 a0_6]] ?_;(with_reducible refine (impl_FrameOk.calls k a0_0 a0_1 a0_2 a0_3 a0_4 a0_5 a0_6 false _ A2.out).mono ?_);rintro e w34 ⟨rfl, hb⟩;refine ⟨_, rfl, ?_⟩;replace BK179 := kB BK179 hb;replace HB := sB hb;(try clear hb)))
  go_ret2;exact ⟨rE, cB⟩
end Go.Proofs.Ytgpmmmidplkhnaa.PFnExactFrameText
