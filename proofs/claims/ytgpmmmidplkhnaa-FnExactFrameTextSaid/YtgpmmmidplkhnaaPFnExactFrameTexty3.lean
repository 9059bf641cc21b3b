import Derived.Test.YtgpmmmidplkhnaaPFnExactFrameTexty0
import Derived.Test.YtgpmmmidplkhnaaPFnExactFrameTexty2
namespace Go.Proofs.Ytgpmmmidplkhnaa.PFnExactFrameText
open Go.RowKit Go.Proofs.YtgpmmmidplkhnaaW.PrintWords Go.Proofs.YtgpmmmidplkhnaaW.PrintLast Go.Proofs.YtgpmmmidplkhnaaW.PrintMore Go.Proofs.YtgpmmmidplkhnaaW.Z
attribute [local go_sem] isS max2_int min2_int max_two min_two max_three min_three max_four min_four
set_option linter.unusedVariables false
set_option linter.unusedSimpArgs false
theorem qh3x0 {P : Prop} (h : P := by exact ⟨(blk_cell BK128.out 0).trans rfl, (blk_cell BK128.out 1).trans rfl, (blk_cell BK128.out 2).trans rfl, (blk_cell BK128.out 3).trans rfl, (blk_cell BK128.out 4).trans rfl, (blk_cell BK128.out 5).trans rfl, (blk_cell BK128.out 6).trans rfl, (blk_cell BK130.out 0).trans rfl, (blk_cell BK130.out 1).trans rfl, (blk_cell BK130.out 2).trans rfl, (blk_cell BK130.out 3).trans rfl⟩) : P := h
def spec_FrameText.f (k : Nat) (a0_0 : Int) (a0_1 : Int) (a0_2 : Int) (a0_3 : Int) (a0_4 : Int) (a0_5 : Int) (a0_6 : Int) : Option (ByteArray × Bool) := (spec_FrameOk.f k a0_0 a0_1 a0_2 a0_3 a0_4 a0_5 a0_6).bind fun t129 => (if t129 = true then ((some (([(a0_0) % 256, (a0_1) % 256] : List Int) : List Int)).bind fun y131 => ((spec_l01Var.f k a0_2).bind fun t134 => (if (strOfNums y131).size + t134.size ≤ 9223372036854775807 then ((some (([(a0_3) % 256] : List Int) : List Int)).bind fun y135 => (if ((strOfNums y131) ++ t134).size + (strOfNums y135).size ≤ 9223372036854775807 then ((spec_l06Four.f a0_4).bind fun t138 => (if (((strOfNums y131) ++ t134) ++ (strOfNums y135)).size + t138.size ≤ 9223372036854775807 then ((spec_l06Four.f a0_5).bind fun t139 => (if ((((strOfNums y131) ++ t134) ++ (strOfNums y135)) ++ t138).size + t139.size ≤ 9223372036854775807 then ((spec_l01Var.f k a0_6).bind fun t140 => (if (((((strOfNums y131) ++ t134) ++ (strOfNums y135)) ++ t138) ++ t139).size + t140.size ≤ 9223372036854775807 then ((spec_Sealed.f k ((((((strOfNums y131) ++ t134) ++ (strOfNums y135)) ++ t138) ++ t139) ++ t140)).bind fun bt141 => (some (bt141.1, bt141.2))) else (none))) else (none))) else (none))) else (none))) else (none)))) else (some ((⟨#[]⟩ : ByteArray), false)))
def spec_FrameText.T4 : Bool × List (List Nat × List Nat) := (true, [([], []), ([0], [0]), ([1], [1]), ([], []), ([3], [3]), ([4], [4]), ([2, 5], [2, 5]), ([6], [6]), ([], []), ([8], [8]), ([9], [9]), ([7, 10], [7, 10]), ([], []), ([12], [12]), ([13], [13]), ([14], [14]), ([15], [15]), ([11, 16], [11, 16]), ([], []), ([18], [18]), ([19, 10], [19]), ([17, 20], [17, 20]), ([], []), ([22], [22]), ([23, 20], [23]), ([21, 24], [21, 24]), ([], []), ([26], [26]), ([27, 24], [27]), ([25, 28], [25, 28]), ([29, 28], [29]), ([30], [30]), ([30], [30]), ([31, 30, 0, 1, 2, 3, 4, 5, 6, 7, 8, 9, 10, 11, 12, 13, 14, 15, 16, 17, 18, 19, 20, 21, 22, 23, 24, 25, 26, 27, 28, 29, 30, 31, 32], [31]), ([32, 33, 0, 1, 2, 3, 4, 5, 6, 7, 8, 9, 10, 11, 12, 13, 14, 15, 16, 17, 18, 19, 20, 21, 22, 23, 24, 25, 26, 27, 28, 29, 30, 31, 32, 33], [32])])
def spec_FrameText.B4 : List Nat := [0, 1, 3, 0, 8, 24, 63, 127, 0, 256, 768, 2047, 0, 4096, 12288, 28672, 61440, 131071, 0, 262144, 788224, 2097151, 0, 4194304, 14419712, 33554431, 0, 67108864, 232523520, 536870911, 1073741823, 2147483647, 2147483647, 8589934591, 17179869183]
theorem spec_FrameText.tab4 : rtab .any (opsOf Try.f12 4) = spec_FrameText.T4 := by kernel_rfl
theorem spec_FrameText.bits4 : waitsOk spec_FrameText.T4.2 spec_FrameText.B4 = true := by kernel_rfl
theorem q3x0 {P : Prop} (h : P := by 
 rintro w' ⟨s0, s1, s2, s3, s4, s5, s6, s7, s8, s9, s10⟩
 go_simp
 with_reducible rfl) : P := h
set_option maxHeartbeats 8000000 in
set_option maxRecDepth 100000 in
theorem spec_FrameText.calls (k : Nat) (a0_0 : Int) (a0_1 : Int) (a0_2 : Int) (a0_3 : Int) (a0_4 : Int) (a0_5 : Int) (a0_6 : Int) (r1 : ByteArray) (r2 : Bool) (w : World) (h : spec_FrameText.f k a0_0 a0_1 a0_2 a0_3 a0_4 a0_5 a0_6 = some (r1, r2)) :
 Calls Try.prog 12 #[.agg #[.int .i64 a0_0, .int .i64 a0_1, .int .i64 a0_2, .int .i64 a0_3, .int .i64 a0_4, .int .i64 a0_5, .int .i64 a0_6]] w fun e w' => e = .returned (.tuple #[.string r1, .bool r2]) ∧ Below w.heap.size w w' := by
 have hu37 := Try.underlying37;have hu35 := Try.underlying35;have HB := Aside0.mk (Below.refl w.heap.size w)
 have H : ((spec_FrameOk.f k a0_0 a0_1 a0_2 a0_3 a0_4 a0_5 a0_6).bind fun t129 => (if t129 = true then ((some (([(a0_0) % 256, (a0_1) % 256] : List Int) : List Int)).bind fun y131 => ((spec_l01Var.f k a0_2).bind fun t134 => (if (strOfNums y131).size + t134.size ≤ 9223372036854775807 then ((some (([(a0_3) % 256] : List Int) : List Int)).bind fun y135 => (if ((strOfNums y131) ++ t134).size + (strOfNums y135).size ≤ 9223372036854775807 then ((spec_l06Four.f a0_4).bind fun t138 => (if (((strOfNums y131) ++ t134) ++ (strOfNums y135)).size + t138.size ≤ 9223372036854775807 then ((spec_l06Four.f a0_5).bind fun t139 => (if ((((strOfNums y131) ++ t134) ++ (strOfNums y135)) ++ t138).size + t139.size ≤ 9223372036854775807 then ((spec_l01Var.f k a0_6).bind fun t140 => (if (((((strOfNums y131) ++ t134) ++ (strOfNums y135)) ++ t138) ++ t139).size + t140.size ≤ 9223372036854775807 then ((spec_Sealed.f k ((((((strOfNums y131) ++ t134) ++ (strOfNums y135)) ++ t138) ++ t139) ++ t140)).bind fun bt141 => (some (bt141.1, bt141.2))) else (none))) else (none))) else (none))) else (none))) else (none)))) else (some ((⟨#[]⟩ : ByteArray), false)))) = some (r1, r2) := h
 clear h;replace H := bE H;obtain ⟨t129, A2, H⟩ := H;by_cases c3 : t129 = true
 ·subst c3;replace H := iT H;replace H := nE H;obtain ⟨y131, Ny131, H⟩ := H;replace H := bE H;obtain ⟨t134, A4, H⟩ := H;replace H := gC H;obtain ⟨c5, H⟩ := H;have c5b0 := eq_true c5;have c5b1 : decide ((strOfNums y131).size + t134.size ≤ 9223372036854775807) = true := decide_eq_true c5
  try have c5b2 : (9223372036854775807 < (strOfNums y131).size + t134.size) = False := eq_false (Nat.not_lt.2 c5)
  replace H := nE H;obtain ⟨y135, Ny135, H⟩ := H;replace H := gC H;obtain ⟨c6, H⟩ := H;have c6b0 := eq_true c6;have c6b1 : decide (((strOfNums y131) ++ t134).size + (strOfNums y135).size ≤ 9223372036854775807) = true := decide_eq_true c6
  try have c6b2 : (9223372036854775807 < ((strOfNums y131) ++ t134).size + (strOfNums y135).size) = False := eq_false (Nat.not_lt.2 c6)
  try have c6b3 : (9223372036854775807 < (strOfNums y131).size + t134.size + (strOfNums y135).size) = False := eq_false (Nat.not_lt.2 (by have h_ := c6; simp only [ByteArray.size_append] at h_; exact h_))
  replace H := bE H;obtain ⟨t138, A7, H⟩ := H;replace H := gC H;obtain ⟨c8, H⟩ := H;have c8b0 := eq_true c8;have c8b1 : decide ((((strOfNums y131) ++ t134) ++ (strOfNums y135)).size + t138.size ≤ 9223372036854775807) = true := decide_eq_true c8
  try have c8b2 : (9223372036854775807 < (((strOfNums y131) ++ t134) ++ (strOfNums y135)).size + t138.size) = False := eq_false (Nat.not_lt.2 c8)
  try have c8b3 : (9223372036854775807 < (strOfNums y131).size + t134.size + (strOfNums y135).size + t138.size) = False := eq_false (Nat.not_lt.2 (by have h_ := c8; simp only [ByteArray.size_append] at h_; exact h_))
  replace H := bE H;obtain ⟨t139, A9, H⟩ := H;replace H := gC H;obtain ⟨c10, H⟩ := H;have c10b0 := eq_true c10;have c10b1 : decide (((((strOfNums y131) ++ t134) ++ (strOfNums y135)) ++ t138).size + t139.size ≤ 9223372036854775807) = true := decide_eq_true c10
  try have c10b2 : (9223372036854775807 < ((((strOfNums y131) ++ t134) ++ (strOfNums y135)) ++ t138).size + t139.size) = False := eq_false (Nat.not_lt.2 c10)
  try have c10b3 : (9223372036854775807 < (strOfNums y131).size + t134.size + (strOfNums y135).size + t138.size + t139.size) = False := eq_false (Nat.not_lt.2 (by have h_ := c10; simp only [ByteArray.size_append] at h_; exact h_))
  replace H := bE H;obtain ⟨t140, A11, H⟩ := H;replace H := gC H;obtain ⟨c12, H⟩ := H;have c12b0 := eq_true c12;have c12b1 : decide ((((((strOfNums y131) ++ t134) ++ (strOfNums y135)) ++ t138) ++ t139).size + t140.size ≤ 9223372036854775807) = true := decide_eq_true c12
  try have c12b2 : (9223372036854775807 < (((((strOfNums y131) ++ t134) ++ (strOfNums y135)) ++ t138) ++ t139).size + t140.size) = False := eq_false (Nat.not_lt.2 c12)
  try have c12b3 : (9223372036854775807 < (strOfNums y131).size + t134.size + (strOfNums y135).size + t138.size + t139.size + t140.size) = False := eq_false (Nat.not_lt.2 (by have h_ := c12; simp only [ByteArray.size_append] at h_; exact h_))
  replace H := bE H;obtain ⟨⟨t141, t142⟩, A13, H⟩ := H;(try dsimp only at H);simp only [Option.some.injEq, Prod.mk.injEq] at H;obtain ⟨rfl, rfl⟩ := H;go_enter Try.func12, Try.ntmps12
  try go_wp2_with (first|((with_reducible refine gN 1 ?_);refine boxZ 1 #[.int .i64 a0_0, .int .i64 a0_1, .int .i64 a0_2, .int .i64 a0_3, .int .i64 a0_4, .int .i64 a0_5, .int .i64 a0_6] 37 ?_;intro gb128 hg w14 hbox hb;have BK128 := Aside0.mk (hbox);have GW128 := gS hg;have GE128 := gS hg;replace HB := sB hb;clear hb hbox hg;obtain ⟨hcz15_0, hcz15_1, hcz15_2, hcz15_3, hcz15_4, hcz15_5, hcz15_6, hfz15_0, hfz15_1, hfz15_2, hfz15_3, hfz15_4, hfz15_5, hfz15_6⟩ := cz7 BK128)|((with_reducible refine gF 30 ?_);refine goZ (some 6) Try.func30 #[.agg #[.int .i64 a0_0, .int .i64 a0_1, .int .i64 a0_2, .int .i64 a0_3, .int .i64 a0_4, .int .i64 a0_5, .int .i64 a0_6]] ?_;(with_reducible refine (spec_FrameOk.calls k a0_0 a0_1 a0_2 a0_3 a0_4 a0_5 a0_6 true _ A2.out).mono ?_);rintro e w16 ⟨rfl, hb⟩;refine ⟨_, rfl, ?_⟩;replace BK128 := kB BK128 hb;replace HB := sB hb;(try clear hb);obtain ⟨hcz17_0, hcz17_1, hcz17_2, hcz17_3, hcz17_4, hcz17_5, hcz17_6, hfz17_0, hfz17_1, hfz17_2, hfz17_3, hfz17_4, hfz17_5, hfz17_6⟩ := cz7 BK128)|((with_reducible refine gN 4 ?_);refine boxZ 4 #[.int .i64 0, .int .i64 0, .int .i64 0, .int .i64 0] 35 ?_;intro gb130 hg w18 hbox hb;have BK130 := Aside0.mk (hbox);have GW130 := gS hg;have GE130 := gS hg;replace HB := sB hb;have NB128_130 := nL hg BK128;have NB130_128 := nG hg BK128;replace BK128 := kB BK128 hb;clear hb hbox hg;have hnb19 := NB130_128.out;have hnc19 := NB128_130.out;obtain ⟨hcz20_0, hcz20_1, hcz20_2, hcz20_3, hfz20_0, hfz20_1, hfz20_2, hfz20_3⟩ := cz4 BK130))
  have n0_ : Aside0 (((((w18.setCell ⟨gb130, 0, none⟩ (.int .i64 a0_3)).setCell ⟨gb130, 1, none⟩ (.int .i64 a0_4)).setCell ⟨gb130, 2, none⟩ (.int .i64 a0_5)).setCell ⟨gb130, 3, none⟩ (.int .i64 a0_6)).heap[gb128]? = some (.cells #[.int .i64 a0_0, .int .i64 a0_1, .int .i64 a0_2, .int .i64 a0_3, .int .i64 a0_4, .int .i64 a0_5, .int .i64 a0_6] 37 (0, 0))) := ⟨mK BK128⟩
  have n1_ : Aside0 (((((w18.setCell ⟨gb130, 0, none⟩ (.int .i64 a0_3)).setCell ⟨gb130, 1, none⟩ (.int .i64 a0_4)).setCell ⟨gb130, 2, none⟩ (.int .i64 a0_5)).setCell ⟨gb130, 3, none⟩ (.int .i64 a0_6)).heap[gb130]? = some (.cells #[.int .i64 a0_3, .int .i64 a0_4, .int .i64 a0_5, .int .i64 a0_6] 35 (0, 0))) := ⟨kS BK130 _⟩
  have n2_ : Aside0 (Below w.heap.size w ((((w18.setCell ⟨gb130, 0, none⟩ (.int .i64 a0_3)).setCell ⟨gb130, 1, none⟩ (.int .i64 a0_4)).setCell ⟨gb130, 2, none⟩ (.int .i64 a0_5)).setCell ⟨gb130, 3, none⟩ (.int .i64 a0_6))) := ⟨cB⟩;(try clear BK128);(try clear BK130);(try clear HB);generalize ((((w18.setCell ⟨gb130, 0, none⟩ (.int .i64 a0_3)).setCell ⟨gb130, 1, none⟩ (.int .i64 a0_4)).setCell ⟨gb130, 2, none⟩ (.int .i64 a0_5)).setCell ⟨gb130, 3, none⟩ (.int .i64 a0_6)) = w21 at n0_ n1_ n2_ ⊢;have BK128 := n0_;have BK130 := n1_;have HB := n2_;clear n0_ n1_ n2_;replace BK128 := Aside0.mk (blk_drew BK128.out);replace BK130 := Aside0.mk (blk_drew BK130.out);replace HB := Aside0.mk (below_drew1 HB.out)
  refine start_ (n := 35) (S := fun w' => w'.cell? ⟨gb128, 0, none⟩ = some (.int .i64 a0_0) ∧ w'.cell? ⟨gb128, 1, none⟩ = some (.int .i64 a0_1) ∧ w'.cell? ⟨gb128, 2, none⟩ = some (.int .i64 a0_2) ∧ w'.cell? ⟨gb128, 3, none⟩ = some (.int .i64 a0_3) ∧ w'.cell? ⟨gb128, 4, none⟩ = some (.int .i64 a0_4) ∧ w'.cell? ⟨gb128, 5, none⟩ = some (.int .i64 a0_5) ∧ w'.cell? ⟨gb128, 6, none⟩ = some (.int .i64 a0_6) ∧ w'.cell? ⟨gb130, 0, none⟩ = some (.int .i64 a0_3) ∧ w'.cell? ⟨gb130, 1, none⟩ = some (.int .i64 a0_4) ∧ w'.cell? ⟨gb130, 2, none⟩ = some (.int .i64 a0_5) ∧ w'.cell? ⟨gb130, 3, none⟩ = some (.int .i64 a0_6)) (ds := []) #[false, false, false, false, false, false, false, false, false, false, false, false, false, false, false, false, false, false, false, false, false, false, false, false, false, false, false, false, false, false, false, false, false, false, false] (by kernel_rfl) rfl rfl ⟨(blk_cell BK128.out 0).trans rfl, (blk_cell BK128.out 1).trans rfl, (blk_cell BK128.out 2).trans rfl, (blk_cell BK128.out 3).trans rfl, (blk_cell BK128.out 4).trans rfl, (blk_cell BK128.out 5).trans rfl, (blk_cell BK128.out 6).trans rfl, (blk_cell BK130.out 0).trans rfl, (blk_cell BK130.out 1).trans rfl, (blk_cell BK130.out 2).trans rfl, (blk_cell BK130.out 3).trans rfl⟩ (fun hHeld => ?_); refine with_tabW spec_FrameText.tab4 spec_FrameText.bits4 (fun HT_ HW_ => ?_)
  generalize w21.drew = w22 at BK128 BK130 HB hHeld ⊢;refine pureZ 0 (some 10) (msk 35 1) HT_.out ?_;refine pureZ 3 (some 13) (msk 35 9) HT_.out ?_;refine pureZ 8 (some 18) (msk 35 265) HT_.out ?_;refine pureZ 12 (some 22) (msk 35 4361) HT_.out ?_;refine pureZ 18 (some 28) (msk 35 266505) HT_.out ?_;refine pureZ 22 (some 32) (msk 35 4460809) HT_.out ?_;refine pureZ 26 (some 36) (msk 35 71569673) HT_.out ?_;refine takeZ 1 (some 11) (msk 35 71569675) HT_.out HW_.out hHeld (hy := q3x0) (h := ?_);refine pureZ 2 (some 12) (msk 35 71569679) HT_.out ?_;refine takeZ 4 (some 14) (msk 35 71569695) HT_.out HW_.out hHeld (hy := q3x0) (h := ?_);refine pureZ 5 (some 15) (msk 35 71569727) HT_.out ?_;refine takeZ 9 (some 19) (msk 35 71570239) HT_.out HW_.out hHeld (hy := q3x0) (h := ?_);refine takeZ 13 (some 23) (msk 35 71578431) HT_.out HW_.out hHeld (hy := q3x0) (h := ?_);refine pureZ 14 (some 24) (msk 35 71594815) HT_.out ?_;refine takeZ 19 (some 29) (msk 35 72119103) HT_.out HW_.out hHeld (hy := q3x0) (h := ?_);refine takeZ 23 (some 33) (msk 35 80507711) HT_.out HW_.out hHeld (hy := q3x0) (h := ?_);refine takeZ 27 (some 37) (msk 35 214725439) HT_.out HW_.out hHeld (hy := q3x0) (h := ?_)
  refine join_ (σ := Value × Value) 6 (msk 35 536870911) (fun s_ => [(16, s_.1), (17, .string (strOfNums y131)), (20, .string t134), (25, s_.2), (26, .string (strOfNums y135)), (30, .string t138), (34, .string t139), (38, .string t140), (21, .string ((strOfNums y131) ++ t134)), (27, .string (((strOfNums y131) ++ t134) ++ (strOfNums y135))), (31, .string ((((strOfNums y131) ++ t134) ++ (strOfNums y135)) ++ t138)), (35, .string (((((strOfNums y131) ++ t134) ++ (strOfNums y135)) ++ t138) ++ t139))]) (fun s_ w' => (w'.cell? ⟨gb128, 0, none⟩ = some (.int .i64 a0_0) ∧ w'.cell? ⟨gb128, 1, none⟩ = some (.int .i64 a0_1) ∧ w'.cell? ⟨gb128, 2, none⟩ = some (.int .i64 a0_2) ∧ w'.cell? ⟨gb128, 3, none⟩ = some (.int .i64 a0_3) ∧ w'.cell? ⟨gb128, 4, none⟩ = some (.int .i64 a0_4) ∧ w'.cell? ⟨gb128, 5, none⟩ = some (.int .i64 a0_5) ∧ w'.cell? ⟨gb128, 6, none⟩ = some (.int .i64 a0_6) ∧ w'.cell? ⟨gb130, 0, none⟩ = some (.int .i64 a0_3) ∧ w'.cell? ⟨gb130, 1, none⟩ = some (.int .i64 a0_4) ∧ w'.cell? ⟨gb130, 2, none⟩ = some (.int .i64 a0_5) ∧ w'.cell? ⟨gb130, 3, none⟩ = some (.int .i64 a0_6)) ∧ (Kd.R (Kd.int .u8) 5 w' w.heap.size (fun k_ => some k_ ≠ (s_.2 : Value).ownBlock) s_.1 y131) ∧ (Kd.R (Kd.int .u8) 5 w' w.heap.size (fun k_ => some k_ ≠ (s_.1 : Value).ownBlock) s_.2 y135) ∧ (w'.heap[gb128]? = some (.cells #[.int .i64 a0_0, .int .i64 a0_1, .int .i64 a0_2, .int .i64 a0_3, .int .i64 a0_4, .int .i64 a0_5, .int .i64 a0_6] 37 (0, 0))) ∧ (w'.heap[gb130]? = some (.cells #[.int .i64 a0_3, .int .i64 a0_4, .int .i64 a0_5, .int .i64 a0_6] 35 (0, 0))) ∧ (Below w.heap.size w w')) ?_ ?_
  rotate_left
  ·intro hJ6_7_10_15_16_20_24_28
   refine join_ (σ := Value × Value) 7 (msk 35 268435455) (fun s_ => [(16, s_.1), (17, .string (strOfNums y131)), (20, .string t134), (25, s_.2), (26, .string (strOfNums y135)), (30, .string t138), (34, .string t139), (21, .string ((strOfNums y131) ++ t134)), (27, .string (((strOfNums y131) ++ t134) ++ (strOfNums y135))), (31, .string ((((strOfNums y131) ++ t134) ++ (strOfNums y135)) ++ t138)), (35, .string (((((strOfNums y131) ++ t134) ++ (strOfNums y135)) ++ t138) ++ t139))]) (fun s_ w' => (w'.cell? ⟨gb128, 0, none⟩ = some (.int .i64 a0_0) ∧ w'.cell? ⟨gb128, 1, none⟩ = some (.int .i64 a0_1) ∧ w'.cell? ⟨gb128, 2, none⟩ = some (.int .i64 a0_2) ∧ w'.cell? ⟨gb128, 3, none⟩ = some (.int .i64 a0_3) ∧ w'.cell? ⟨gb128, 4, none⟩ = some (.int .i64 a0_4) ∧ w'.cell? ⟨gb128, 5, none⟩ = some (.int .i64 a0_5) ∧ w'.cell? ⟨gb128, 6, none⟩ = some (.int .i64 a0_6) ∧ w'.cell? ⟨gb130, 0, none⟩ = some (.int .i64 a0_3) ∧ w'.cell? ⟨gb130, 1, none⟩ = some (.int .i64 a0_4) ∧ w'.cell? ⟨gb130, 2, none⟩ = some (.int .i64 a0_5) ∧ w'.cell? ⟨gb130, 3, none⟩ = some (.int .i64 a0_6)) ∧ (Kd.R (Kd.int .u8) 5 w' w.heap.size (fun k_ => some k_ ≠ (s_.2 : Value).ownBlock) s_.1 y131) ∧ (Kd.R (Kd.int .u8) 5 w' w.heap.size (fun k_ => some k_ ≠ (s_.1 : Value).ownBlock) s_.2 y135) ∧ (w'.heap[gb128]? = some (.cells #[.int .i64 a0_0, .int .i64 a0_1, .int .i64 a0_2, .int .i64 a0_3, .int .i64 a0_4, .int .i64 a0_5, .int .i64 a0_6] 37 (0, 0))) ∧ (w'.heap[gb130]? = some (.cells #[.int .i64 a0_3, .int .i64 a0_4, .int .i64 a0_5, .int .i64 a0_6] 35 (0, 0))) ∧ (Below w.heap.size w w')) ?_ ?_
   rotate_left
   ·intro hJ6_7_10_15_16_20_24
    refine join_ (σ := Value × Value) 10 (msk 35 501022719) (fun s_ => [(16, s_.1), (17, .string (strOfNums y131)), (20, .string t134), (25, s_.2), (30, .string t138), (34, .string t139), (38, .string t140), (21, .string ((strOfNums y131) ++ t134))]) (fun s_ w' => (w'.cell? ⟨gb128, 0, none⟩ = some (.int .i64 a0_0) ∧ w'.cell? ⟨gb128, 1, none⟩ = some (.int .i64 a0_1) ∧ w'.cell? ⟨gb128, 2, none⟩ = some (.int .i64 a0_2) ∧ w'.cell? ⟨gb128, 3, none⟩ = some (.int .i64 a0_3) ∧ w'.cell? ⟨gb128, 4, none⟩ = some (.int .i64 a0_4) ∧ w'.cell? ⟨gb128, 5, none⟩ = some (.int .i64 a0_5) ∧ w'.cell? ⟨gb128, 6, none⟩ = some (.int .i64 a0_6) ∧ w'.cell? ⟨gb130, 0, none⟩ = some (.int .i64 a0_3) ∧ w'.cell? ⟨gb130, 1, none⟩ = some (.int .i64 a0_4) ∧ w'.cell? ⟨gb130, 2, none⟩ = some (.int .i64 a0_5) ∧ w'.cell? ⟨gb130, 3, none⟩ = some (.int .i64 a0_6)) ∧ (Kd.R (Kd.int .u8) 5 w' w.heap.size (fun k_ => some k_ ≠ (s_.2 : Value).ownBlock) s_.1 y131) ∧ (Kd.R (Kd.int .u8) 5 w' w.heap.size (fun k_ => some k_ ≠ (s_.1 : Value).ownBlock) s_.2 y135) ∧ (w'.heap[gb128]? = some (.cells #[.int .i64 a0_0, .int .i64 a0_1, .int .i64 a0_2, .int .i64 a0_3, .int .i64 a0_4, .int .i64 a0_5, .int .i64 a0_6] 37 (0, 0))) ∧ (w'.heap[gb130]? = some (.cells #[.int .i64 a0_3, .int .i64 a0_4, .int .i64 a0_5, .int .i64 a0_6] 35 (0, 0))) ∧ (Below w.heap.size w w')) ?_ ?_
    rotate_left
    ·intro hJ6_7_10_15_20_24_28
     refine join_ (σ := Value × Value) 11 (msk 35 501086079) (fun s_ => [(16, s_.1), (20, .string t134), (25, s_.2), (26, .string (strOfNums y135)), (30, .string t138), (34, .string t139), (38, .string t140)]) (fun s_ w' => (w'.cell? ⟨gb128, 0, none⟩ = some (.int .i64 a0_0) ∧ w'.cell? ⟨gb128, 1, none⟩ = some (.int .i64 a0_1) ∧ w'.cell? ⟨gb128, 2, none⟩ = some (.int .i64 a0_2) ∧ w'.cell? ⟨gb128, 3, none⟩ = some (.int .i64 a0_3) ∧ w'.cell? ⟨gb128, 4, none⟩ = some (.int .i64 a0_4) ∧ w'.cell? ⟨gb128, 5, none⟩ = some (.int .i64 a0_5) ∧ w'.cell? ⟨gb128, 6, none⟩ = some (.int .i64 a0_6) ∧ w'.cell? ⟨gb130, 0, none⟩ = some (.int .i64 a0_3) ∧ w'.cell? ⟨gb130, 1, none⟩ = some (.int .i64 a0_4) ∧ w'.cell? ⟨gb130, 2, none⟩ = some (.int .i64 a0_5) ∧ w'.cell? ⟨gb130, 3, none⟩ = some (.int .i64 a0_6)) ∧ (Kd.R (Kd.int .u8) 5 w' w.heap.size (fun k_ => some k_ ≠ (s_.2 : Value).ownBlock) s_.1 y131) ∧ (Kd.R (Kd.int .u8) 5 w' w.heap.size (fun k_ => some k_ ≠ (s_.1 : Value).ownBlock) s_.2 y135) ∧ (w'.heap[gb128]? = some (.cells #[.int .i64 a0_0, .int .i64 a0_1, .int .i64 a0_2, .int .i64 a0_3, .int .i64 a0_4, .int .i64 a0_5, .int .i64 a0_6] 37 (0, 0))) ∧ (w'.heap[gb130]? = some (.cells #[.int .i64 a0_3, .int .i64 a0_4, .int .i64 a0_5, .int .i64 a0_6] 35 (0, 0))) ∧ (Below w.heap.size w w')) ?_ ?_
     rotate_left
     ·intro hJ6_10_15_16_20_24_28
      refine join_ (σ := Value × Value) 9 (msk 35 218103807) (fun s_ => [(16, s_.1), (17, .string (strOfNums y131)), (20, .string t134), (25, s_.2), (26, .string (strOfNums y135)), (30, .string t138), (21, .string ((strOfNums y131) ++ t134)), (27, .string (((strOfNums y131) ++ t134) ++ (strOfNums y135))), (31, .string ((((strOfNums y131) ++ t134) ++ (strOfNums y135)) ++ t138))]) (fun s_ w' => (w'.cell? ⟨gb128, 0, none⟩ = some (.int .i64 a0_0) ∧ w'.cell? ⟨gb128, 1, none⟩ = some (.int .i64 a0_1) ∧ w'.cell? ⟨gb128, 2, none⟩ = some (.int .i64 a0_2) ∧ w'.cell? ⟨gb128, 3, none⟩ = some (.int .i64 a0_3) ∧ w'.cell? ⟨gb128, 4, none⟩ = some (.int .i64 a0_4) ∧ w'.cell? ⟨gb128, 5, none⟩ = some (.int .i64 a0_5) ∧ w'.cell? ⟨gb128, 6, none⟩ = some (.int .i64 a0_6) ∧ w'.cell? ⟨gb130, 0, none⟩ = some (.int .i64 a0_3) ∧ w'.cell? ⟨gb130, 1, none⟩ = some (.int .i64 a0_4) ∧ w'.cell? ⟨gb130, 2, none⟩ = some (.int .i64 a0_5) ∧ w'.cell? ⟨gb130, 3, none⟩ = some (.int .i64 a0_6)) ∧ (Kd.R (Kd.int .u8) 5 w' w.heap.size (fun k_ => some k_ ≠ (s_.2 : Value).ownBlock) s_.1 y131) ∧ (Kd.R (Kd.int .u8) 5 w' w.heap.size (fun k_ => some k_ ≠ (s_.1 : Value).ownBlock) s_.2 y135) ∧ (w'.heap[gb128]? = some (.cells #[.int .i64 a0_0, .int .i64 a0_1, .int .i64 a0_2, .int .i64 a0_3, .int .i64 a0_4, .int .i64 a0_5, .int .i64 a0_6] 37 (0, 0))) ∧ (w'.heap[gb130]? = some (.cells #[.int .i64 a0_3, .int .i64 a0_4, .int .i64 a0_5, .int .i64 a0_6] 35 (0, 0))) ∧ (Below w.heap.size w w')) ?_ ?_
      rotate_left
      ·intro hJ6_7_10_15_16_20
       refine join_ (σ := Value × Value) 11 (msk 35 232587263) (fun s_ => [(16, s_.1), (17, .string (strOfNums y131)), (20, .string t134), (25, s_.2), (30, .string t138), (34, .string t139), (21, .string ((strOfNums y131) ++ t134))]) (fun s_ w' => (w'.cell? ⟨gb128, 0, none⟩ = some (.int .i64 a0_0) ∧ w'.cell? ⟨gb128, 1, none⟩ = some (.int .i64 a0_1) ∧ w'.cell? ⟨gb128, 2, none⟩ = some (.int .i64 a0_2) ∧ w'.cell? ⟨gb128, 3, none⟩ = some (.int .i64 a0_3) ∧ w'.cell? ⟨gb128, 4, none⟩ = some (.int .i64 a0_4) ∧ w'.cell? ⟨gb128, 5, none⟩ = some (.int .i64 a0_5) ∧ w'.cell? ⟨gb128, 6, none⟩ = some (.int .i64 a0_6) ∧ w'.cell? ⟨gb130, 0, none⟩ = some (.int .i64 a0_3) ∧ w'.cell? ⟨gb130, 1, none⟩ = some (.int .i64 a0_4) ∧ w'.cell? ⟨gb130, 2, none⟩ = some (.int .i64 a0_5) ∧ w'.cell? ⟨gb130, 3, none⟩ = some (.int .i64 a0_6)) ∧ (Kd.R (Kd.int .u8) 5 w' w.heap.size (fun k_ => some k_ ≠ (s_.2 : Value).ownBlock) s_.1 y131) ∧ (Kd.R (Kd.int .u8) 5 w' w.heap.size (fun k_ => some k_ ≠ (s_.1 : Value).ownBlock) s_.2 y135) ∧ (w'.heap[gb128]? = some (.cells #[.int .i64 a0_0, .int .i64 a0_1, .int .i64 a0_2, .int .i64 a0_3, .int .i64 a0_4, .int .i64 a0_5, .int .i64 a0_6] 37 (0, 0))) ∧ (w'.heap[gb130]? = some (.cells #[.int .i64 a0_3, .int .i64 a0_4, .int .i64 a0_5, .int .i64 a0_6] 35 (0, 0))) ∧ (Below w.heap.size w w')) ?_ ?_
       rotate_left
       ·intro hJ6_7_10_15_20_24
        refine join_ (σ := Value) 11 (msk 35 500989951) (fun s_ => [(16, s_), (17, .string (strOfNums y131)), (20, .string t134), (30, .string t138), (34, .string t139), (38, .string t140), (21, .string ((strOfNums y131) ++ t134))]) (fun s_ w' => (w'.cell? ⟨gb128, 0, none⟩ = some (.int .i64 a0_0) ∧ w'.cell? ⟨gb128, 1, none⟩ = some (.int .i64 a0_1) ∧ w'.cell? ⟨gb128, 2, none⟩ = some (.int .i64 a0_2) ∧ w'.cell? ⟨gb128, 3, none⟩ = some (.int .i64 a0_3) ∧ w'.cell? ⟨gb128, 4, none⟩ = some (.int .i64 a0_4) ∧ w'.cell? ⟨gb128, 5, none⟩ = some (.int .i64 a0_5) ∧ w'.cell? ⟨gb128, 6, none⟩ = some (.int .i64 a0_6) ∧ w'.cell? ⟨gb130, 0, none⟩ = some (.int .i64 a0_3) ∧ w'.cell? ⟨gb130, 1, none⟩ = some (.int .i64 a0_4) ∧ w'.cell? ⟨gb130, 2, none⟩ = some (.int .i64 a0_5) ∧ w'.cell? ⟨gb130, 3, none⟩ = some (.int .i64 a0_6)) ∧ (Kd.R (Kd.int .u8) 5 w' w.heap.size (fun _ => True) s_ y131) ∧ (w'.heap[gb128]? = some (.cells #[.int .i64 a0_0, .int .i64 a0_1, .int .i64 a0_2, .int .i64 a0_3, .int .i64 a0_4, .int .i64 a0_5, .int .i64 a0_6] 37 (0, 0))) ∧ (w'.heap[gb130]? = some (.cells #[.int .i64 a0_3, .int .i64 a0_4, .int .i64 a0_5, .int .i64 a0_6] 35 (0, 0))) ∧ (Below w.heap.size w w')) ?_ ?_
        rotate_left
        ·intro hJ6_7_10_20_24_28
         refine join_ (σ := Value × Value) 12 (msk 35 232650623) (fun s_ => [(16, s_.1), (20, .string t134), (25, s_.2), (26, .string (strOfNums y135)), (30, .string t138), (34, .string t139)]) (fun s_ w' => (w'.cell? ⟨gb128, 0, none⟩ = some (.int .i64 a0_0) ∧ w'.cell? ⟨gb128, 1, none⟩ = some (.int .i64 a0_1) ∧ w'.cell? ⟨gb128, 2, none⟩ = some (.int .i64 a0_2) ∧ w'.cell? ⟨gb128, 3, none⟩ = some (.int .i64 a0_3) ∧ w'.cell? ⟨gb128, 4, none⟩ = some (.int .i64 a0_4) ∧ w'.cell? ⟨gb128, 5, none⟩ = some (.int .i64 a0_5) ∧ w'.cell? ⟨gb128, 6, none⟩ = some (.int .i64 a0_6) ∧ w'.cell? ⟨gb130, 0, none⟩ = some (.int .i64 a0_3) ∧ w'.cell? ⟨gb130, 1, none⟩ = some (.int .i64 a0_4) ∧ w'.cell? ⟨gb130, 2, none⟩ = some (.int .i64 a0_5) ∧ w'.cell? ⟨gb130, 3, none⟩ = some (.int .i64 a0_6)) ∧ (Kd.R (Kd.int .u8) 5 w' w.heap.size (fun k_ => some k_ ≠ (s_.2 : Value).ownBlock) s_.1 y131) ∧ (Kd.R (Kd.int .u8) 5 w' w.heap.size (fun k_ => some k_ ≠ (s_.1 : Value).ownBlock) s_.2 y135) ∧ (w'.heap[gb128]? = some (.cells #[.int .i64 a0_0, .int .i64 a0_1, .int .i64 a0_2, .int .i64 a0_3, .int .i64 a0_4, .int .i64 a0_5, .int .i64 a0_6] 37 (0, 0))) ∧ (w'.heap[gb130]? = some (.cells #[.int .i64 a0_3, .int .i64 a0_4, .int .i64 a0_5, .int .i64 a0_6] 35 (0, 0))) ∧ (Below w.heap.size w w')) ?_ ?_
         rotate_left
         ·intro hJ6_10_15_16_20_24
          refine join_ (σ := Value × Value) 12 (msk 35 501020543) (fun s_ => [(16, s_.1), (20, .string t134), (25, s_.2), (30, .string t138), (34, .string t139), (38, .string t140)]) (fun s_ w' => (w'.cell? ⟨gb128, 0, none⟩ = some (.int .i64 a0_0) ∧ w'.cell? ⟨gb128, 1, none⟩ = some (.int .i64 a0_1) ∧ w'.cell? ⟨gb128, 2, none⟩ = some (.int .i64 a0_2) ∧ w'.cell? ⟨gb128, 3, none⟩ = some (.int .i64 a0_3) ∧ w'.cell? ⟨gb128, 4, none⟩ = some (.int .i64 a0_4) ∧ w'.cell? ⟨gb128, 5, none⟩ = some (.int .i64 a0_5) ∧ w'.cell? ⟨gb128, 6, none⟩ = some (.int .i64 a0_6) ∧ w'.cell? ⟨gb130, 0, none⟩ = some (.int .i64 a0_3) ∧ w'.cell? ⟨gb130, 1, none⟩ = some (.int .i64 a0_4) ∧ w'.cell? ⟨gb130, 2, none⟩ = some (.int .i64 a0_5) ∧ w'.cell? ⟨gb130, 3, none⟩ = some (.int .i64 a0_6)) ∧ (Kd.R (Kd.int .u8) 5 w' w.heap.size (fun k_ => some k_ ≠ (s_.2 : Value).ownBlock) s_.1 y131) ∧ (Kd.R (Kd.int .u8) 5 w' w.heap.size (fun k_ => some k_ ≠ (s_.1 : Value).ownBlock) s_.2 y135) ∧ (w'.heap[gb128]? = some (.cells #[.int .i64 a0_0, .int .i64 a0_1, .int .i64 a0_2, .int .i64 a0_3, .int .i64 a0_4, .int .i64 a0_5, .int .i64 a0_6] 37 (0, 0))) ∧ (w'.heap[gb130]? = some (.cells #[.int .i64 a0_3, .int .i64 a0_4, .int .i64 a0_5, .int .i64 a0_6] 35 (0, 0))) ∧ (Below w.heap.size w w')) ?_ ?_
          rotate_left
          ·intro hJ6_10_15_20_24_28
           refine join_ (σ := Value) 12 (msk 35 501086015) (fun s_ => [(20, .string t134), (25, s_), (26, .string (strOfNums y135)), (30, .string t138), (34, .string t139), (38, .string t140)]) (fun s_ w' => (w'.cell? ⟨gb128, 0, none⟩ = some (.int .i64 a0_0) ∧ w'.cell? ⟨gb128, 1, none⟩ = some (.int .i64 a0_1) ∧ w'.cell? ⟨gb128, 2, none⟩ = some (.int .i64 a0_2) ∧ w'.cell? ⟨gb128, 3, none⟩ = some (.int .i64 a0_3) ∧ w'.cell? ⟨gb128, 4, none⟩ = some (.int .i64 a0_4) ∧ w'.cell? ⟨gb128, 5, none⟩ = some (.int .i64 a0_5) ∧ w'.cell? ⟨gb128, 6, none⟩ = some (.int .i64 a0_6) ∧ w'.cell? ⟨gb130, 0, none⟩ = some (.int .i64 a0_3) ∧ w'.cell? ⟨gb130, 1, none⟩ = some (.int .i64 a0_4) ∧ w'.cell? ⟨gb130, 2, none⟩ = some (.int .i64 a0_5) ∧ w'.cell? ⟨gb130, 3, none⟩ = some (.int .i64 a0_6)) ∧ (Kd.R (Kd.int .u8) 5 w' w.heap.size (fun _ => True) s_ y135) ∧ (w'.heap[gb128]? = some (.cells #[.int .i64 a0_0, .int .i64 a0_1, .int .i64 a0_2, .int .i64 a0_3, .int .i64 a0_4, .int .i64 a0_5, .int .i64 a0_6] 37 (0, 0))) ∧ (w'.heap[gb130]? = some (.cells #[.int .i64 a0_3, .int .i64 a0_4, .int .i64 a0_5, .int .i64 a0_6] 35 (0, 0))) ∧ (Below w.heap.size w w')) ?_ ?_
           rotate_left
           ·intro hJ10_15_16_20_24_28
            refine join_ (σ := Value × Value) 11 (msk 35 214958079) (fun s_ => [(16, s_.1), (17, .string (strOfNums y131)), (20, .string t134), (25, s_.2), (26, .string (strOfNums y135)), (21, .string ((strOfNums y131) ++ t134)), (27, .string (((strOfNums y131) ++ t134) ++ (strOfNums y135)))]) (fun s_ w' => (w'.cell? ⟨gb128, 0, none⟩ = some (.int .i64 a0_0) ∧ w'.cell? ⟨gb128, 1, none⟩ = some (.int .i64 a0_1) ∧ w'.cell? ⟨gb128, 2, none⟩ = some (.int .i64 a0_2) ∧ w'.cell? ⟨gb128, 3, none⟩ = some (.int .i64 a0_3) ∧ w'.cell? ⟨gb128, 4, none⟩ = some (.int .i64 a0_4) ∧ w'.cell? ⟨gb128, 5, none⟩ = some (.int .i64 a0_5) ∧ w'.cell? ⟨gb128, 6, none⟩ = some (.int .i64 a0_6) ∧ w'.cell? ⟨gb130, 0, none⟩ = some (.int .i64 a0_3) ∧ w'.cell? ⟨gb130, 1, none⟩ = some (.int .i64 a0_4) ∧ w'.cell? ⟨gb130, 2, none⟩ = some (.int .i64 a0_5) ∧ w'.cell? ⟨gb130, 3, none⟩ = some (.int .i64 a0_6)) ∧ (Kd.R (Kd.int .u8) 5 w' w.heap.size (fun k_ => some k_ ≠ (s_.2 : Value).ownBlock) s_.1 y131) ∧ (Kd.R (Kd.int .u8) 5 w' w.heap.size (fun k_ => some k_ ≠ (s_.1 : Value).ownBlock) s_.2 y135) ∧ (w'.heap[gb128]? = some (.cells #[.int .i64 a0_0, .int .i64 a0_1, .int .i64 a0_2, .int .i64 a0_3, .int .i64 a0_4, .int .i64 a0_5, .int .i64 a0_6] 37 (0, 0))) ∧ (w'.heap[gb130]? = some (.cells #[.int .i64 a0_3, .int .i64 a0_4, .int .i64 a0_5, .int .i64 a0_6] 35 (0, 0))) ∧ (Below w.heap.size w w')) ?_ ?_
            rotate_left
            ·intro hJ6_7_10_15_16
             refine join_ (σ := Value × Value) 12 (msk 35 215810047) (fun s_ => [(16, s_.1), (17, .string (strOfNums y131)), (20, .string t134), (25, s_.2), (30, .string t138), (21, .string ((strOfNums y131) ++ t134))]) (fun s_ w' => (w'.cell? ⟨gb128, 0, none⟩ = some (.int .i64 a0_0) ∧ w'.cell? ⟨gb128, 1, none⟩ = some (.int .i64 a0_1) ∧ w'.cell? ⟨gb128, 2, none⟩ = some (.int .i64 a0_2) ∧ w'.cell? ⟨gb128, 3, none⟩ = some (.int .i64 a0_3) ∧ w'.cell? ⟨gb128, 4, none⟩ = some (.int .i64 a0_4) ∧ w'.cell? ⟨gb128, 5, none⟩ = some (.int .i64 a0_5) ∧ w'.cell? ⟨gb128, 6, none⟩ = some (.int .i64 a0_6) ∧ w'.cell? ⟨gb130, 0, none⟩ = some (.int .i64 a0_3) ∧ w'.cell? ⟨gb130, 1, none⟩ = some (.int .i64 a0_4) ∧ w'.cell? ⟨gb130, 2, none⟩ = some (.int .i64 a0_5) ∧ w'.cell? ⟨gb130, 3, none⟩ = some (.int .i64 a0_6)) ∧ (Kd.R (Kd.int .u8) 5 w' w.heap.size (fun k_ => some k_ ≠ (s_.2 : Value).ownBlock) s_.1 y131) ∧ (Kd.R (Kd.int .u8) 5 w' w.heap.size (fun k_ => some k_ ≠ (s_.1 : Value).ownBlock) s_.2 y135) ∧ (w'.heap[gb128]? = some (.cells #[.int .i64 a0_0, .int .i64 a0_1, .int .i64 a0_2, .int .i64 a0_3, .int .i64 a0_4, .int .i64 a0_5, .int .i64 a0_6] 37 (0, 0))) ∧ (w'.heap[gb130]? = some (.cells #[.int .i64 a0_3, .int .i64 a0_4, .int .i64 a0_5, .int .i64 a0_6] 35 (0, 0))) ∧ (Below w.heap.size w w')) ?_ ?_
             rotate_left
             ·intro hJ6_7_10_15_20
              refine join_ (σ := Value) 12 (msk 35 232554495) (fun s_ => [(16, s_), (17, .string (strOfNums y131)), (20, .string t134), (30, .string t138), (34, .string t139), (21, .string ((strOfNums y131) ++ t134))]) (fun s_ w' => (w'.cell? ⟨gb128, 0, none⟩ = some (.int .i64 a0_0) ∧ w'.cell? ⟨gb128, 1, none⟩ = some (.int .i64 a0_1) ∧ w'.cell? ⟨gb128, 2, none⟩ = some (.int .i64 a0_2) ∧ w'.cell? ⟨gb128, 3, none⟩ = some (.int .i64 a0_3) ∧ w'.cell? ⟨gb128, 4, none⟩ = some (.int .i64 a0_4) ∧ w'.cell? ⟨gb128, 5, none⟩ = some (.int .i64 a0_5) ∧ w'.cell? ⟨gb128, 6, none⟩ = some (.int .i64 a0_6) ∧ w'.cell? ⟨gb130, 0, none⟩ = some (.int .i64 a0_3) ∧ w'.cell? ⟨gb130, 1, none⟩ = some (.int .i64 a0_4) ∧ w'.cell? ⟨gb130, 2, none⟩ = some (.int .i64 a0_5) ∧ w'.cell? ⟨gb130, 3, none⟩ = some (.int .i64 a0_6)) ∧ (Kd.R (Kd.int .u8) 5 w' w.heap.size (fun _ => True) s_ y131) ∧ (w'.heap[gb128]? = some (.cells #[.int .i64 a0_0, .int .i64 a0_1, .int .i64 a0_2, .int .i64 a0_3, .int .i64 a0_4, .int .i64 a0_5, .int .i64 a0_6] 37 (0, 0))) ∧ (w'.heap[gb130]? = some (.cells #[.int .i64 a0_3, .int .i64 a0_4, .int .i64 a0_5, .int .i64 a0_6] 35 (0, 0))) ∧ (Below w.heap.size w w')) ?_ ?_
              rotate_left
              ·intro hJ6_7_10_20_24
               refine join_ (σ := Value × Value) 13 (msk 35 215873407) (fun s_ => [(16, s_.1), (20, .string t134), (25, s_.2), (26, .string (strOfNums y135)), (30, .string t138)]) (fun s_ w' => (w'.cell? ⟨gb128, 0, none⟩ = some (.int .i64 a0_0) ∧ w'.cell? ⟨gb128, 1, none⟩ = some (.int .i64 a0_1) ∧ w'.cell? ⟨gb128, 2, none⟩ = some (.int .i64 a0_2) ∧ w'.cell? ⟨gb128, 3, none⟩ = some (.int .i64 a0_3) ∧ w'.cell? ⟨gb128, 4, none⟩ = some (.int .i64 a0_4) ∧ w'.cell? ⟨gb128, 5, none⟩ = some (.int .i64 a0_5) ∧ w'.cell? ⟨gb128, 6, none⟩ = some (.int .i64 a0_6) ∧ w'.cell? ⟨gb130, 0, none⟩ = some (.int .i64 a0_3) ∧ w'.cell? ⟨gb130, 1, none⟩ = some (.int .i64 a0_4) ∧ w'.cell? ⟨gb130, 2, none⟩ = some (.int .i64 a0_5) ∧ w'.cell? ⟨gb130, 3, none⟩ = some (.int .i64 a0_6)) ∧ (Kd.R (Kd.int .u8) 5 w' w.heap.size (fun k_ => some k_ ≠ (s_.2 : Value).ownBlock) s_.1 y131) ∧ (Kd.R (Kd.int .u8) 5 w' w.heap.size (fun k_ => some k_ ≠ (s_.1 : Value).ownBlock) s_.2 y135) ∧ (w'.heap[gb128]? = some (.cells #[.int .i64 a0_0, .int .i64 a0_1, .int .i64 a0_2, .int .i64 a0_3, .int .i64 a0_4, .int .i64 a0_5, .int .i64 a0_6] 37 (0, 0))) ∧ (w'.heap[gb130]? = some (.cells #[.int .i64 a0_3, .int .i64 a0_4, .int .i64 a0_5, .int .i64 a0_6] 35 (0, 0))) ∧ (Below w.heap.size w w')) ?_ ?_
               rotate_left
               ·intro hJ6_10_15_16_20
                refine join_ (σ := Value × Value) 13 (msk 35 232585087) (fun s_ => [(16, s_.1), (20, .string t134), (25, s_.2), (30, .string t138), (34, .string t139)]) (fun s_ w' => (w'.cell? ⟨gb128, 0, none⟩ = some (.int .i64 a0_0) ∧ w'.cell? ⟨gb128, 1, none⟩ = some (.int .i64 a0_1) ∧ w'.cell? ⟨gb128, 2, none⟩ = some (.int .i64 a0_2) ∧ w'.cell? ⟨gb128, 3, none⟩ = some (.int .i64 a0_3) ∧ w'.cell? ⟨gb128, 4, none⟩ = some (.int .i64 a0_4) ∧ w'.cell? ⟨gb128, 5, none⟩ = some (.int .i64 a0_5) ∧ w'.cell? ⟨gb128, 6, none⟩ = some (.int .i64 a0_6) ∧ w'.cell? ⟨gb130, 0, none⟩ = some (.int .i64 a0_3) ∧ w'.cell? ⟨gb130, 1, none⟩ = some (.int .i64 a0_4) ∧ w'.cell? ⟨gb130, 2, none⟩ = some (.int .i64 a0_5) ∧ w'.cell? ⟨gb130, 3, none⟩ = some (.int .i64 a0_6)) ∧ (Kd.R (Kd.int .u8) 5 w' w.heap.size (fun k_ => some k_ ≠ (s_.2 : Value).ownBlock) s_.1 y131) ∧ (Kd.R (Kd.int .u8) 5 w' w.heap.size (fun k_ => some k_ ≠ (s_.1 : Value).ownBlock) s_.2 y135) ∧ (w'.heap[gb128]? = some (.cells #[.int .i64 a0_0, .int .i64 a0_1, .int .i64 a0_2, .int .i64 a0_3, .int .i64 a0_4, .int .i64 a0_5, .int .i64 a0_6] 37 (0, 0))) ∧ (w'.heap[gb130]? = some (.cells #[.int .i64 a0_3, .int .i64 a0_4, .int .i64 a0_5, .int .i64 a0_6] 35 (0, 0))) ∧ (Below w.heap.size w w')) ?_ ?_
                rotate_left
                ·intro hJ6_10_15_20_24
                 refine join_ (σ := Value) 13 (msk 35 500987775) (fun s_ => [(16, s_), (20, .string t134), (30, .string t138), (34, .string t139), (38, .string t140)]) (fun s_ w' => (w'.cell? ⟨gb128, 0, none⟩ = some (.int .i64 a0_0) ∧ w'.cell? ⟨gb128, 1, none⟩ = some (.int .i64 a0_1) ∧ w'.cell? ⟨gb128, 2, none⟩ = some (.int .i64 a0_2) ∧ w'.cell? ⟨gb128, 3, none⟩ = some (.int .i64 a0_3) ∧ w'.cell? ⟨gb128, 4, none⟩ = some (.int .i64 a0_4) ∧ w'.cell? ⟨gb128, 5, none⟩ = some (.int .i64 a0_5) ∧ w'.cell? ⟨gb128, 6, none⟩ = some (.int .i64 a0_6) ∧ w'.cell? ⟨gb130, 0, none⟩ = some (.int .i64 a0_3) ∧ w'.cell? ⟨gb130, 1, none⟩ = some (.int .i64 a0_4) ∧ w'.cell? ⟨gb130, 2, none⟩ = some (.int .i64 a0_5) ∧ w'.cell? ⟨gb130, 3, none⟩ = some (.int .i64 a0_6)) ∧ (Kd.R (Kd.int .u8) 5 w' w.heap.size (fun _ => True) s_ y131) ∧ (w'.heap[gb128]? = some (.cells #[.int .i64 a0_0, .int .i64 a0_1, .int .i64 a0_2, .int .i64 a0_3, .int .i64 a0_4, .int .i64 a0_5, .int .i64 a0_6] 37 (0, 0))) ∧ (w'.heap[gb130]? = some (.cells #[.int .i64 a0_3, .int .i64 a0_4, .int .i64 a0_5, .int .i64 a0_6] 35 (0, 0))) ∧ (Below w.heap.size w w')) ?_ ?_
                 rotate_left
                 ·intro hJ6_10_20_24_28
                  refine join_ (σ := Value) 13 (msk 35 232650559) (fun s_ => [(20, .string t134), (25, s_), (26, .string (strOfNums y135)), (30, .string t138), (34, .string t139)]) (fun s_ w' => (w'.cell? ⟨gb128, 0, none⟩ = some (.int .i64 a0_0) ∧ w'.cell? ⟨gb128, 1, none⟩ = some (.int .i64 a0_1) ∧ w'.cell? ⟨gb128, 2, none⟩ = some (.int .i64 a0_2) ∧ w'.cell? ⟨gb128, 3, none⟩ = some (.int .i64 a0_3) ∧ w'.cell? ⟨gb128, 4, none⟩ = some (.int .i64 a0_4) ∧ w'.cell? ⟨gb128, 5, none⟩ = some (.int .i64 a0_5) ∧ w'.cell? ⟨gb128, 6, none⟩ = some (.int .i64 a0_6) ∧ w'.cell? ⟨gb130, 0, none⟩ = some (.int .i64 a0_3) ∧ w'.cell? ⟨gb130, 1, none⟩ = some (.int .i64 a0_4) ∧ w'.cell? ⟨gb130, 2, none⟩ = some (.int .i64 a0_5) ∧ w'.cell? ⟨gb130, 3, none⟩ = some (.int .i64 a0_6)) ∧ (Kd.R (Kd.int .u8) 5 w' w.heap.size (fun _ => True) s_ y135) ∧ (w'.heap[gb128]? = some (.cells #[.int .i64 a0_0, .int .i64 a0_1, .int .i64 a0_2, .int .i64 a0_3, .int .i64 a0_4, .int .i64 a0_5, .int .i64 a0_6] 37 (0, 0))) ∧ (w'.heap[gb130]? = some (.cells #[.int .i64 a0_3, .int .i64 a0_4, .int .i64 a0_5, .int .i64 a0_6] 35 (0, 0))) ∧ (Below w.heap.size w w')) ?_ ?_
                  rotate_left
                  ·intro hJ10_15_16_20_24
                   refine join_ (σ := Value) 13 (msk 35 501020479) (fun s_ => [(20, .string t134), (25, s_), (30, .string t138), (34, .string t139), (38, .string t140)]) (fun s_ w' => (w'.cell? ⟨gb128, 0, none⟩ = some (.int .i64 a0_0) ∧ w'.cell? ⟨gb128, 1, none⟩ = some (.int .i64 a0_1) ∧ w'.cell? ⟨gb128, 2, none⟩ = some (.int .i64 a0_2) ∧ w'.cell? ⟨gb128, 3, none⟩ = some (.int .i64 a0_3) ∧ w'.cell? ⟨gb128, 4, none⟩ = some (.int .i64 a0_4) ∧ w'.cell? ⟨gb128, 5, none⟩ = some (.int .i64 a0_5) ∧ w'.cell? ⟨gb128, 6, none⟩ = some (.int .i64 a0_6) ∧ w'.cell? ⟨gb130, 0, none⟩ = some (.int .i64 a0_3) ∧ w'.cell? ⟨gb130, 1, none⟩ = some (.int .i64 a0_4) ∧ w'.cell? ⟨gb130, 2, none⟩ = some (.int .i64 a0_5) ∧ w'.cell? ⟨gb130, 3, none⟩ = some (.int .i64 a0_6)) ∧ (Kd.R (Kd.int .u8) 5 w' w.heap.size (fun _ => True) s_ y135) ∧ (w'.heap[gb128]? = some (.cells #[.int .i64 a0_0, .int .i64 a0_1, .int .i64 a0_2, .int .i64 a0_3, .int .i64 a0_4, .int .i64 a0_5, .int .i64 a0_6] 37 (0, 0))) ∧ (w'.heap[gb130]? = some (.cells #[.int .i64 a0_3, .int .i64 a0_4, .int .i64 a0_5, .int .i64 a0_6] 35 (0, 0))) ∧ (Below w.heap.size w w')) ?_ ?_
                   rotate_left
                   ·intro hJ10_15_20_24_28
                    refine join_ (σ := Value × Value) 13 (msk 35 214761471) (fun s_ => [(16, s_.1), (17, .string (strOfNums y131)), (20, .string t134), (25, s_.2), (21, .string ((strOfNums y131) ++ t134))]) (fun s_ w' => (w'.cell? ⟨gb128, 0, none⟩ = some (.int .i64 a0_0) ∧ w'.cell? ⟨gb128, 1, none⟩ = some (.int .i64 a0_1) ∧ w'.cell? ⟨gb128, 2, none⟩ = some (.int .i64 a0_2) ∧ w'.cell? ⟨gb128, 3, none⟩ = some (.int .i64 a0_3) ∧ w'.cell? ⟨gb128, 4, none⟩ = some (.int .i64 a0_4) ∧ w'.cell? ⟨gb128, 5, none⟩ = some (.int .i64 a0_5) ∧ w'.cell? ⟨gb128, 6, none⟩ = some (.int .i64 a0_6) ∧ w'.cell? ⟨gb130, 0, none⟩ = some (.int .i64 a0_3) ∧ w'.cell? ⟨gb130, 1, none⟩ = some (.int .i64 a0_4) ∧ w'.cell? ⟨gb130, 2, none⟩ = some (.int .i64 a0_5) ∧ w'.cell? ⟨gb130, 3, none⟩ = some (.int .i64 a0_6)) ∧ (Kd.R (Kd.int .u8) 5 w' w.heap.size (fun k_ => some k_ ≠ (s_.2 : Value).ownBlock) s_.1 y131) ∧ (Kd.R (Kd.int .u8) 5 w' w.heap.size (fun k_ => some k_ ≠ (s_.1 : Value).ownBlock) s_.2 y135) ∧ (w'.heap[gb128]? = some (.cells #[.int .i64 a0_0, .int .i64 a0_1, .int .i64 a0_2, .int .i64 a0_3, .int .i64 a0_4, .int .i64 a0_5, .int .i64 a0_6] 37 (0, 0))) ∧ (w'.heap[gb130]? = some (.cells #[.int .i64 a0_3, .int .i64 a0_4, .int .i64 a0_5, .int .i64 a0_6] 35 (0, 0))) ∧ (Below w.heap.size w w')) ?_ ?_
                    rotate_left
                    ·intro hJ6_7_10_15
                     refine join_ (σ := Value) 13 (msk 35 215777279) (fun s_ => [(16, s_), (17, .string (strOfNums y131)), (20, .string t134), (30, .string t138), (21, .string ((strOfNums y131) ++ t134))]) (fun s_ w' => (w'.cell? ⟨gb128, 0, none⟩ = some (.int .i64 a0_0) ∧ w'.cell? ⟨gb128, 1, none⟩ = some (.int .i64 a0_1) ∧ w'.cell? ⟨gb128, 2, none⟩ = some (.int .i64 a0_2) ∧ w'.cell? ⟨gb128, 3, none⟩ = some (.int .i64 a0_3) ∧ w'.cell? ⟨gb128, 4, none⟩ = some (.int .i64 a0_4) ∧ w'.cell? ⟨gb128, 5, none⟩ = some (.int .i64 a0_5) ∧ w'.cell? ⟨gb128, 6, none⟩ = some (.int .i64 a0_6) ∧ w'.cell? ⟨gb130, 0, none⟩ = some (.int .i64 a0_3) ∧ w'.cell? ⟨gb130, 1, none⟩ = some (.int .i64 a0_4) ∧ w'.cell? ⟨gb130, 2, none⟩ = some (.int .i64 a0_5) ∧ w'.cell? ⟨gb130, 3, none⟩ = some (.int .i64 a0_6)) ∧ (Kd.R (Kd.int .u8) 5 w' w.heap.size (fun _ => True) s_ y131) ∧ (w'.heap[gb128]? = some (.cells #[.int .i64 a0_0, .int .i64 a0_1, .int .i64 a0_2, .int .i64 a0_3, .int .i64 a0_4, .int .i64 a0_5, .int .i64 a0_6] 37 (0, 0))) ∧ (w'.heap[gb130]? = some (.cells #[.int .i64 a0_3, .int .i64 a0_4, .int .i64 a0_5, .int .i64 a0_6] 35 (0, 0))) ∧ (Below w.heap.size w w')) ?_ ?_
                     rotate_left
                     ·intro hJ6_7_10_20
                      refine join_ (σ := Value × Value) 14 (msk 35 214823935) (fun s_ => [(16, s_.1), (17, .string (strOfNums y131)), (25, s_.2), (26, .string (strOfNums y135))]) (fun s_ w' => (w'.cell? ⟨gb128, 0, none⟩ = some (.int .i64 a0_0) ∧ w'.cell? ⟨gb128, 1, none⟩ = some (.int .i64 a0_1) ∧ w'.cell? ⟨gb128, 2, none⟩ = some (.int .i64 a0_2) ∧ w'.cell? ⟨gb128, 3, none⟩ = some (.int .i64 a0_3) ∧ w'.cell? ⟨gb128, 4, none⟩ = some (.int .i64 a0_4) ∧ w'.cell? ⟨gb128, 5, none⟩ = some (.int .i64 a0_5) ∧ w'.cell? ⟨gb128, 6, none⟩ = some (.int .i64 a0_6) ∧ w'.cell? ⟨gb130, 0, none⟩ = some (.int .i64 a0_3) ∧ w'.cell? ⟨gb130, 1, none⟩ = some (.int .i64 a0_4) ∧ w'.cell? ⟨gb130, 2, none⟩ = some (.int .i64 a0_5) ∧ w'.cell? ⟨gb130, 3, none⟩ = some (.int .i64 a0_6)) ∧ (Kd.R (Kd.int .u8) 5 w' w.heap.size (fun k_ => some k_ ≠ (s_.2 : Value).ownBlock) s_.1 y131) ∧ (Kd.R (Kd.int .u8) 5 w' w.heap.size (fun k_ => some k_ ≠ (s_.1 : Value).ownBlock) s_.2 y135) ∧ (w'.heap[gb128]? = some (.cells #[.int .i64 a0_0, .int .i64 a0_1, .int .i64 a0_2, .int .i64 a0_3, .int .i64 a0_4, .int .i64 a0_5, .int .i64 a0_6] 37 (0, 0))) ∧ (w'.heap[gb130]? = some (.cells #[.int .i64 a0_3, .int .i64 a0_4, .int .i64 a0_5, .int .i64 a0_6] 35 (0, 0))) ∧ (Below w.heap.size w w')) ?_ ?_
                      rotate_left
                      ·intro hJ6_7_15_16
                       refine join_ (σ := Value × Value) 14 (msk 35 214824831) (fun s_ => [(16, s_.1), (20, .string t134), (25, s_.2), (26, .string (strOfNums y135))]) (fun s_ w' => (w'.cell? ⟨gb128, 0, none⟩ = some (.int .i64 a0_0) ∧ w'.cell? ⟨gb128, 1, none⟩ = some (.int .i64 a0_1) ∧ w'.cell? ⟨gb128, 2, none⟩ = some (.int .i64 a0_2) ∧ w'.cell? ⟨gb128, 3, none⟩ = some (.int .i64 a0_3) ∧ w'.cell? ⟨gb128, 4, none⟩ = some (.int .i64 a0_4) ∧ w'.cell? ⟨gb128, 5, none⟩ = some (.int .i64 a0_5) ∧ w'.cell? ⟨gb128, 6, none⟩ = some (.int .i64 a0_6) ∧ w'.cell? ⟨gb130, 0, none⟩ = some (.int .i64 a0_3) ∧ w'.cell? ⟨gb130, 1, none⟩ = some (.int .i64 a0_4) ∧ w'.cell? ⟨gb130, 2, none⟩ = some (.int .i64 a0_5) ∧ w'.cell? ⟨gb130, 3, none⟩ = some (.int .i64 a0_6)) ∧ (Kd.R (Kd.int .u8) 5 w' w.heap.size (fun k_ => some k_ ≠ (s_.2 : Value).ownBlock) s_.1 y131) ∧ (Kd.R (Kd.int .u8) 5 w' w.heap.size (fun k_ => some k_ ≠ (s_.1 : Value).ownBlock) s_.2 y135) ∧ (w'.heap[gb128]? = some (.cells #[.int .i64 a0_0, .int .i64 a0_1, .int .i64 a0_2, .int .i64 a0_3, .int .i64 a0_4, .int .i64 a0_5, .int .i64 a0_6] 37 (0, 0))) ∧ (w'.heap[gb130]? = some (.cells #[.int .i64 a0_3, .int .i64 a0_4, .int .i64 a0_5, .int .i64 a0_6] 35 (0, 0))) ∧ (Below w.heap.size w w')) ?_ ?_
                       rotate_left
                       ·intro hJ6_10_15_16
                        refine join_ (σ := Value × Value) 14 (msk 35 215807871) (fun s_ => [(16, s_.1), (20, .string t134), (25, s_.2), (30, .string t138)]) (fun s_ w' => (w'.cell? ⟨gb128, 0, none⟩ = some (.int .i64 a0_0) ∧ w'.cell? ⟨gb128, 1, none⟩ = some (.int .i64 a0_1) ∧ w'.cell? ⟨gb128, 2, none⟩ = some (.int .i64 a0_2) ∧ w'.cell? ⟨gb128, 3, none⟩ = some (.int .i64 a0_3) ∧ w'.cell? ⟨gb128, 4, none⟩ = some (.int .i64 a0_4) ∧ w'.cell? ⟨gb128, 5, none⟩ = some (.int .i64 a0_5) ∧ w'.cell? ⟨gb128, 6, none⟩ = some (.int .i64 a0_6) ∧ w'.cell? ⟨gb130, 0, none⟩ = some (.int .i64 a0_3) ∧ w'.cell? ⟨gb130, 1, none⟩ = some (.int .i64 a0_4) ∧ w'.cell? ⟨gb130, 2, none⟩ = some (.int .i64 a0_5) ∧ w'.cell? ⟨gb130, 3, none⟩ = some (.int .i64 a0_6)) ∧ (Kd.R (Kd.int .u8) 5 w' w.heap.size (fun k_ => some k_ ≠ (s_.2 : Value).ownBlock) s_.1 y131) ∧ (Kd.R (Kd.int .u8) 5 w' w.heap.size (fun k_ => some k_ ≠ (s_.1 : Value).ownBlock) s_.2 y135) ∧ (w'.heap[gb128]? = some (.cells #[.int .i64 a0_0, .int .i64 a0_1, .int .i64 a0_2, .int .i64 a0_3, .int .i64 a0_4, .int .i64 a0_5, .int .i64 a0_6] 37 (0, 0))) ∧ (w'.heap[gb130]? = some (.cells #[.int .i64 a0_3, .int .i64 a0_4, .int .i64 a0_5, .int .i64 a0_6] 35 (0, 0))) ∧ (Below w.heap.size w w')) ?_ ?_
                        rotate_left
                        ·intro hJ6_10_15_20
                         refine join_ (σ := Value) 14 (msk 35 232552319) (fun s_ => [(16, s_), (20, .string t134), (30, .string t138), (34, .string t139)]) (fun s_ w' => (w'.cell? ⟨gb128, 0, none⟩ = some (.int .i64 a0_0) ∧ w'.cell? ⟨gb128, 1, none⟩ = some (.int .i64 a0_1) ∧ w'.cell? ⟨gb128, 2, none⟩ = some (.int .i64 a0_2) ∧ w'.cell? ⟨gb128, 3, none⟩ = some (.int .i64 a0_3) ∧ w'.cell? ⟨gb128, 4, none⟩ = some (.int .i64 a0_4) ∧ w'.cell? ⟨gb128, 5, none⟩ = some (.int .i64 a0_5) ∧ w'.cell? ⟨gb128, 6, none⟩ = some (.int .i64 a0_6) ∧ w'.cell? ⟨gb130, 0, none⟩ = some (.int .i64 a0_3) ∧ w'.cell? ⟨gb130, 1, none⟩ = some (.int .i64 a0_4) ∧ w'.cell? ⟨gb130, 2, none⟩ = some (.int .i64 a0_5) ∧ w'.cell? ⟨gb130, 3, none⟩ = some (.int .i64 a0_6)) ∧ (Kd.R (Kd.int .u8) 5 w' w.heap.size (fun _ => True) s_ y131) ∧ (w'.heap[gb128]? = some (.cells #[.int .i64 a0_0, .int .i64 a0_1, .int .i64 a0_2, .int .i64 a0_3, .int .i64 a0_4, .int .i64 a0_5, .int .i64 a0_6] 37 (0, 0))) ∧ (w'.heap[gb130]? = some (.cells #[.int .i64 a0_3, .int .i64 a0_4, .int .i64 a0_5, .int .i64 a0_6] 35 (0, 0))) ∧ (Below w.heap.size w w')) ?_ ?_
                         rotate_left
                         ·intro hJ6_10_20_24
                          refine join_ (σ := Value) 14 (msk 35 215873343) (fun s_ => [(20, .string t134), (25, s_), (26, .string (strOfNums y135)), (30, .string t138)]) (fun s_ w' => (w'.cell? ⟨gb128, 0, none⟩ = some (.int .i64 a0_0) ∧ w'.cell? ⟨gb128, 1, none⟩ = some (.int .i64 a0_1) ∧ w'.cell? ⟨gb128, 2, none⟩ = some (.int .i64 a0_2) ∧ w'.cell? ⟨gb128, 3, none⟩ = some (.int .i64 a0_3) ∧ w'.cell? ⟨gb128, 4, none⟩ = some (.int .i64 a0_4) ∧ w'.cell? ⟨gb128, 5, none⟩ = some (.int .i64 a0_5) ∧ w'.cell? ⟨gb128, 6, none⟩ = some (.int .i64 a0_6) ∧ w'.cell? ⟨gb130, 0, none⟩ = some (.int .i64 a0_3) ∧ w'.cell? ⟨gb130, 1, none⟩ = some (.int .i64 a0_4) ∧ w'.cell? ⟨gb130, 2, none⟩ = some (.int .i64 a0_5) ∧ w'.cell? ⟨gb130, 3, none⟩ = some (.int .i64 a0_6)) ∧ (Kd.R (Kd.int .u8) 5 w' w.heap.size (fun _ => True) s_ y135) ∧ (w'.heap[gb128]? = some (.cells #[.int .i64 a0_0, .int .i64 a0_1, .int .i64 a0_2, .int .i64 a0_3, .int .i64 a0_4, .int .i64 a0_5, .int .i64 a0_6] 37 (0, 0))) ∧ (w'.heap[gb130]? = some (.cells #[.int .i64 a0_3, .int .i64 a0_4, .int .i64 a0_5, .int .i64 a0_6] 35 (0, 0))) ∧ (Below w.heap.size w w')) ?_ ?_
                          rotate_left
                          ·intro hJ10_15_16_20
                           refine join_ (σ := Value) 14 (msk 35 232585023) (fun s_ => [(20, .string t134), (25, s_), (30, .string t138), (34, .string t139)]) (fun s_ w' => (w'.cell? ⟨gb128, 0, none⟩ = some (.int .i64 a0_0) ∧ w'.cell? ⟨gb128, 1, none⟩ = some (.int .i64 a0_1) ∧ w'.cell? ⟨gb128, 2, none⟩ = some (.int .i64 a0_2) ∧ w'.cell? ⟨gb128, 3, none⟩ = some (.int .i64 a0_3) ∧ w'.cell? ⟨gb128, 4, none⟩ = some (.int .i64 a0_4) ∧ w'.cell? ⟨gb128, 5, none⟩ = some (.int .i64 a0_5) ∧ w'.cell? ⟨gb128, 6, none⟩ = some (.int .i64 a0_6) ∧ w'.cell? ⟨gb130, 0, none⟩ = some (.int .i64 a0_3) ∧ w'.cell? ⟨gb130, 1, none⟩ = some (.int .i64 a0_4) ∧ w'.cell? ⟨gb130, 2, none⟩ = some (.int .i64 a0_5) ∧ w'.cell? ⟨gb130, 3, none⟩ = some (.int .i64 a0_6)) ∧ (Kd.R (Kd.int .u8) 5 w' w.heap.size (fun _ => True) s_ y135) ∧ (w'.heap[gb128]? = some (.cells #[.int .i64 a0_0, .int .i64 a0_1, .int .i64 a0_2, .int .i64 a0_3, .int .i64 a0_4, .int .i64 a0_5, .int .i64 a0_6] 37 (0, 0))) ∧ (w'.heap[gb130]? = some (.cells #[.int .i64 a0_3, .int .i64 a0_4, .int .i64 a0_5, .int .i64 a0_6] 35 (0, 0))) ∧ (Below w.heap.size w w')) ?_ ?_
                           rotate_left
                           ·intro hJ10_15_20_24
                            refine join_ (σ := Unit) 14 (msk 35 500987711) (fun s_ => [(20, .string t134), (30, .string t138), (34, .string t139), (38, .string t140)]) (fun s_ w' => (w'.cell? ⟨gb128, 0, none⟩ = some (.int .i64 a0_0) ∧ w'.cell? ⟨gb128, 1, none⟩ = some (.int .i64 a0_1) ∧ w'.cell? ⟨gb128, 2, none⟩ = some (.int .i64 a0_2) ∧ w'.cell? ⟨gb128, 3, none⟩ = some (.int .i64 a0_3) ∧ w'.cell? ⟨gb128, 4, none⟩ = some (.int .i64 a0_4) ∧ w'.cell? ⟨gb128, 5, none⟩ = some (.int .i64 a0_5) ∧ w'.cell? ⟨gb128, 6, none⟩ = some (.int .i64 a0_6) ∧ w'.cell? ⟨gb130, 0, none⟩ = some (.int .i64 a0_3) ∧ w'.cell? ⟨gb130, 1, none⟩ = some (.int .i64 a0_4) ∧ w'.cell? ⟨gb130, 2, none⟩ = some (.int .i64 a0_5) ∧ w'.cell? ⟨gb130, 3, none⟩ = some (.int .i64 a0_6)) ∧ (w'.heap[gb128]? = some (.cells #[.int .i64 a0_0, .int .i64 a0_1, .int .i64 a0_2, .int .i64 a0_3, .int .i64 a0_4, .int .i64 a0_5, .int .i64 a0_6] 37 (0, 0))) ∧ (w'.heap[gb130]? = some (.cells #[.int .i64 a0_3, .int .i64 a0_4, .int .i64 a0_5, .int .i64 a0_6] 35 (0, 0))) ∧ (Below w.heap.size w w')) ?_ ?_
                            rotate_left
                            ·intro hJ10_20_24_28
                             refine join_ (σ := Value) 14 (msk 35 214728703) (fun s_ => [(16, s_), (17, .string (strOfNums y131)), (20, .string t134), (21, .string ((strOfNums y131) ++ t134))]) (fun s_ w' => (w'.cell? ⟨gb128, 0, none⟩ = some (.int .i64 a0_0) ∧ w'.cell? ⟨gb128, 1, none⟩ = some (.int .i64 a0_1) ∧ w'.cell? ⟨gb128, 2, none⟩ = some (.int .i64 a0_2) ∧ w'.cell? ⟨gb128, 3, none⟩ = some (.int .i64 a0_3) ∧ w'.cell? ⟨gb128, 4, none⟩ = some (.int .i64 a0_4) ∧ w'.cell? ⟨gb128, 5, none⟩ = some (.int .i64 a0_5) ∧ w'.cell? ⟨gb128, 6, none⟩ = some (.int .i64 a0_6) ∧ w'.cell? ⟨gb130, 0, none⟩ = some (.int .i64 a0_3) ∧ w'.cell? ⟨gb130, 1, none⟩ = some (.int .i64 a0_4) ∧ w'.cell? ⟨gb130, 2, none⟩ = some (.int .i64 a0_5) ∧ w'.cell? ⟨gb130, 3, none⟩ = some (.int .i64 a0_6)) ∧ (Kd.R (Kd.int .u8) 5 w' w.heap.size (fun _ => True) s_ y131) ∧ (w'.heap[gb128]? = some (.cells #[.int .i64 a0_0, .int .i64 a0_1, .int .i64 a0_2, .int .i64 a0_3, .int .i64 a0_4, .int .i64 a0_5, .int .i64 a0_6] 37 (0, 0))) ∧ (w'.heap[gb130]? = some (.cells #[.int .i64 a0_3, .int .i64 a0_4, .int .i64 a0_5, .int .i64 a0_6] 35 (0, 0))) ∧ (Below w.heap.size w w')) ?_ ?_
                             rotate_left
                             ·intro hJ6_7_10
                              refine join_ (σ := Value × Value) 15 (msk 35 214758399) (fun s_ => [(16, s_.1), (17, .string (strOfNums y131)), (25, s_.2)]) (fun s_ w' => (w'.cell? ⟨gb128, 0, none⟩ = some (.int .i64 a0_0) ∧ w'.cell? ⟨gb128, 1, none⟩ = some (.int .i64 a0_1) ∧ w'.cell? ⟨gb128, 2, none⟩ = some (.int .i64 a0_2) ∧ w'.cell? ⟨gb128, 3, none⟩ = some (.int .i64 a0_3) ∧ w'.cell? ⟨gb128, 4, none⟩ = some (.int .i64 a0_4) ∧ w'.cell? ⟨gb128, 5, none⟩ = some (.int .i64 a0_5) ∧ w'.cell? ⟨gb128, 6, none⟩ = some (.int .i64 a0_6) ∧ w'.cell? ⟨gb130, 0, none⟩ = some (.int .i64 a0_3) ∧ w'.cell? ⟨gb130, 1, none⟩ = some (.int .i64 a0_4) ∧ w'.cell? ⟨gb130, 2, none⟩ = some (.int .i64 a0_5) ∧ w'.cell? ⟨gb130, 3, none⟩ = some (.int .i64 a0_6)) ∧ (Kd.R (Kd.int .u8) 5 w' w.heap.size (fun k_ => some k_ ≠ (s_.2 : Value).ownBlock) s_.1 y131) ∧ (Kd.R (Kd.int .u8) 5 w' w.heap.size (fun k_ => some k_ ≠ (s_.1 : Value).ownBlock) s_.2 y135) ∧ (w'.heap[gb128]? = some (.cells #[.int .i64 a0_0, .int .i64 a0_1, .int .i64 a0_2, .int .i64 a0_3, .int .i64 a0_4, .int .i64 a0_5, .int .i64 a0_6] 37 (0, 0))) ∧ (w'.heap[gb130]? = some (.cells #[.int .i64 a0_3, .int .i64 a0_4, .int .i64 a0_5, .int .i64 a0_6] 35 (0, 0))) ∧ (Below w.heap.size w w')) ?_ ?_
                              rotate_left
                              ·intro hJ6_7_15
                               refine join_ (σ := Value × Value) 15 (msk 35 214759295) (fun s_ => [(16, s_.1), (20, .string t134), (25, s_.2)]) (fun s_ w' => (w'.cell? ⟨gb128, 0, none⟩ = some (.int .i64 a0_0) ∧ w'.cell? ⟨gb128, 1, none⟩ = some (.int .i64 a0_1) ∧ w'.cell? ⟨gb128, 2, none⟩ = some (.int .i64 a0_2) ∧ w'.cell? ⟨gb128, 3, none⟩ = some (.int .i64 a0_3) ∧ w'.cell? ⟨gb128, 4, none⟩ = some (.int .i64 a0_4) ∧ w'.cell? ⟨gb128, 5, none⟩ = some (.int .i64 a0_5) ∧ w'.cell? ⟨gb128, 6, none⟩ = some (.int .i64 a0_6) ∧ w'.cell? ⟨gb130, 0, none⟩ = some (.int .i64 a0_3) ∧ w'.cell? ⟨gb130, 1, none⟩ = some (.int .i64 a0_4) ∧ w'.cell? ⟨gb130, 2, none⟩ = some (.int .i64 a0_5) ∧ w'.cell? ⟨gb130, 3, none⟩ = some (.int .i64 a0_6)) ∧ (Kd.R (Kd.int .u8) 5 w' w.heap.size (fun k_ => some k_ ≠ (s_.2 : Value).ownBlock) s_.1 y131) ∧ (Kd.R (Kd.int .u8) 5 w' w.heap.size (fun k_ => some k_ ≠ (s_.1 : Value).ownBlock) s_.2 y135) ∧ (w'.heap[gb128]? = some (.cells #[.int .i64 a0_0, .int .i64 a0_1, .int .i64 a0_2, .int .i64 a0_3, .int .i64 a0_4, .int .i64 a0_5, .int .i64 a0_6] 37 (0, 0))) ∧ (w'.heap[gb130]? = some (.cells #[.int .i64 a0_3, .int .i64 a0_4, .int .i64 a0_5, .int .i64 a0_6] 35 (0, 0))) ∧ (Below w.heap.size w w')) ?_ ?_
                               rotate_left
                               ·intro hJ6_10_15
                                refine join_ (σ := Value) 15 (msk 35 215775103) (fun s_ => [(16, s_), (20, .string t134), (30, .string t138)]) (fun s_ w' => (w'.cell? ⟨gb128, 0, none⟩ = some (.int .i64 a0_0) ∧ w'.cell? ⟨gb128, 1, none⟩ = some (.int .i64 a0_1) ∧ w'.cell? ⟨gb128, 2, none⟩ = some (.int .i64 a0_2) ∧ w'.cell? ⟨gb128, 3, none⟩ = some (.int .i64 a0_3) ∧ w'.cell? ⟨gb128, 4, none⟩ = some (.int .i64 a0_4) ∧ w'.cell? ⟨gb128, 5, none⟩ = some (.int .i64 a0_5) ∧ w'.cell? ⟨gb128, 6, none⟩ = some (.int .i64 a0_6) ∧ w'.cell? ⟨gb130, 0, none⟩ = some (.int .i64 a0_3) ∧ w'.cell? ⟨gb130, 1, none⟩ = some (.int .i64 a0_4) ∧ w'.cell? ⟨gb130, 2, none⟩ = some (.int .i64 a0_5) ∧ w'.cell? ⟨gb130, 3, none⟩ = some (.int .i64 a0_6)) ∧ (Kd.R (Kd.int .u8) 5 w' w.heap.size (fun _ => True) s_ y131) ∧ (w'.heap[gb128]? = some (.cells #[.int .i64 a0_0, .int .i64 a0_1, .int .i64 a0_2, .int .i64 a0_3, .int .i64 a0_4, .int .i64 a0_5, .int .i64 a0_6] 37 (0, 0))) ∧ (w'.heap[gb130]? = some (.cells #[.int .i64 a0_3, .int .i64 a0_4, .int .i64 a0_5, .int .i64 a0_6] 35 (0, 0))) ∧ (Below w.heap.size w w')) ?_ ?_
                                rotate_left
                                ·intro hJ6_10_20
                                 refine join_ (σ := Value × Value) 15 (msk 35 214823807) (fun s_ => [(16, s_.1), (25, s_.2), (26, .string (strOfNums y135))]) (fun s_ w' => (w'.cell? ⟨gb128, 0, none⟩ = some (.int .i64 a0_0) ∧ w'.cell? ⟨gb128, 1, none⟩ = some (.int .i64 a0_1) ∧ w'.cell? ⟨gb128, 2, none⟩ = some (.int .i64 a0_2) ∧ w'.cell? ⟨gb128, 3, none⟩ = some (.int .i64 a0_3) ∧ w'.cell? ⟨gb128, 4, none⟩ = some (.int .i64 a0_4) ∧ w'.cell? ⟨gb128, 5, none⟩ = some (.int .i64 a0_5) ∧ w'.cell? ⟨gb128, 6, none⟩ = some (.int .i64 a0_6) ∧ w'.cell? ⟨gb130, 0, none⟩ = some (.int .i64 a0_3) ∧ w'.cell? ⟨gb130, 1, none⟩ = some (.int .i64 a0_4) ∧ w'.cell? ⟨gb130, 2, none⟩ = some (.int .i64 a0_5) ∧ w'.cell? ⟨gb130, 3, none⟩ = some (.int .i64 a0_6)) ∧ (Kd.R (Kd.int .u8) 5 w' w.heap.size (fun k_ => some k_ ≠ (s_.2 : Value).ownBlock) s_.1 y131) ∧ (Kd.R (Kd.int .u8) 5 w' w.heap.size (fun k_ => some k_ ≠ (s_.1 : Value).ownBlock) s_.2 y135) ∧ (w'.heap[gb128]? = some (.cells #[.int .i64 a0_0, .int .i64 a0_1, .int .i64 a0_2, .int .i64 a0_3, .int .i64 a0_4, .int .i64 a0_5, .int .i64 a0_6] 37 (0, 0))) ∧ (w'.heap[gb130]? = some (.cells #[.int .i64 a0_3, .int .i64 a0_4, .int .i64 a0_5, .int .i64 a0_6] 35 (0, 0))) ∧ (Below w.heap.size w w')) ?_ ?_
                                 rotate_left
                                 ·intro hJ6_15_16
                                  refine join_ (σ := Value) 15 (msk 35 214824767) (fun s_ => [(20, .string t134), (25, s_), (26, .string (strOfNums y135))]) (fun s_ w' => (w'.cell? ⟨gb128, 0, none⟩ = some (.int .i64 a0_0) ∧ w'.cell? ⟨gb128, 1, none⟩ = some (.int .i64 a0_1) ∧ w'.cell? ⟨gb128, 2, none⟩ = some (.int .i64 a0_2) ∧ w'.cell? ⟨gb128, 3, none⟩ = some (.int .i64 a0_3) ∧ w'.cell? ⟨gb128, 4, none⟩ = some (.int .i64 a0_4) ∧ w'.cell? ⟨gb128, 5, none⟩ = some (.int .i64 a0_5) ∧ w'.cell? ⟨gb128, 6, none⟩ = some (.int .i64 a0_6) ∧ w'.cell? ⟨gb130, 0, none⟩ = some (.int .i64 a0_3) ∧ w'.cell? ⟨gb130, 1, none⟩ = some (.int .i64 a0_4) ∧ w'.cell? ⟨gb130, 2, none⟩ = some (.int .i64 a0_5) ∧ w'.cell? ⟨gb130, 3, none⟩ = some (.int .i64 a0_6)) ∧ (Kd.R (Kd.int .u8) 5 w' w.heap.size (fun _ => True) s_ y135) ∧ (w'.heap[gb128]? = some (.cells #[.int .i64 a0_0, .int .i64 a0_1, .int .i64 a0_2, .int .i64 a0_3, .int .i64 a0_4, .int .i64 a0_5, .int .i64 a0_6] 37 (0, 0))) ∧ (w'.heap[gb130]? = some (.cells #[.int .i64 a0_3, .int .i64 a0_4, .int .i64 a0_5, .int .i64 a0_6] 35 (0, 0))) ∧ (Below w.heap.size w w')) ?_ ?_
                                  rotate_left
                                  ·intro hJ10_15_16
                                   refine join_ (σ := Value) 15 (msk 35 215807807) (fun s_ => [(20, .string t134), (25, s_), (30, .string t138)]) (fun s_ w' => (w'.cell? ⟨gb128, 0, none⟩ = some (.int .i64 a0_0) ∧ w'.cell? ⟨gb128, 1, none⟩ = some (.int .i64 a0_1) ∧ w'.cell? ⟨gb128, 2, none⟩ = some (.int .i64 a0_2) ∧ w'.cell? ⟨gb128, 3, none⟩ = some (.int .i64 a0_3) ∧ w'.cell? ⟨gb128, 4, none⟩ = some (.int .i64 a0_4) ∧ w'.cell? ⟨gb128, 5, none⟩ = some (.int .i64 a0_5) ∧ w'.cell? ⟨gb128, 6, none⟩ = some (.int .i64 a0_6) ∧ w'.cell? ⟨gb130, 0, none⟩ = some (.int .i64 a0_3) ∧ w'.cell? ⟨gb130, 1, none⟩ = some (.int .i64 a0_4) ∧ w'.cell? ⟨gb130, 2, none⟩ = some (.int .i64 a0_5) ∧ w'.cell? ⟨gb130, 3, none⟩ = some (.int .i64 a0_6)) ∧ (Kd.R (Kd.int .u8) 5 w' w.heap.size (fun _ => True) s_ y135) ∧ (w'.heap[gb128]? = some (.cells #[.int .i64 a0_0, .int .i64 a0_1, .int .i64 a0_2, .int .i64 a0_3, .int .i64 a0_4, .int .i64 a0_5, .int .i64 a0_6] 37 (0, 0))) ∧ (w'.heap[gb130]? = some (.cells #[.int .i64 a0_3, .int .i64 a0_4, .int .i64 a0_5, .int .i64 a0_6] 35 (0, 0))) ∧ (Below w.heap.size w w')) ?_ ?_
                                   rotate_left
                                   ·intro hJ10_15_20
                                    refine join_ (σ := Unit) 15 (msk 35 232552255) (fun s_ => [(20, .string t134), (30, .string t138), (34, .string t139)]) (fun s_ w' => (w'.cell? ⟨gb128, 0, none⟩ = some (.int .i64 a0_0) ∧ w'.cell? ⟨gb128, 1, none⟩ = some (.int .i64 a0_1) ∧ w'.cell? ⟨gb128, 2, none⟩ = some (.int .i64 a0_2) ∧ w'.cell? ⟨gb128, 3, none⟩ = some (.int .i64 a0_3) ∧ w'.cell? ⟨gb128, 4, none⟩ = some (.int .i64 a0_4) ∧ w'.cell? ⟨gb128, 5, none⟩ = some (.int .i64 a0_5) ∧ w'.cell? ⟨gb128, 6, none⟩ = some (.int .i64 a0_6) ∧ w'.cell? ⟨gb130, 0, none⟩ = some (.int .i64 a0_3) ∧ w'.cell? ⟨gb130, 1, none⟩ = some (.int .i64 a0_4) ∧ w'.cell? ⟨gb130, 2, none⟩ = some (.int .i64 a0_5) ∧ w'.cell? ⟨gb130, 3, none⟩ = some (.int .i64 a0_6)) ∧ (w'.heap[gb128]? = some (.cells #[.int .i64 a0_0, .int .i64 a0_1, .int .i64 a0_2, .int .i64 a0_3, .int .i64 a0_4, .int .i64 a0_5, .int .i64 a0_6] 37 (0, 0))) ∧ (w'.heap[gb130]? = some (.cells #[.int .i64 a0_3, .int .i64 a0_4, .int .i64 a0_5, .int .i64 a0_6] 35 (0, 0))) ∧ (Below w.heap.size w w')) ?_ ?_
                                    rotate_left
                                    ·intro hJ10_20_24
                                     refine join_ (σ := Value) 16 (msk 35 214725631) (fun s_ => [(16, s_), (17, .string (strOfNums y131))]) (fun s_ w' => (w'.cell? ⟨gb128, 0, none⟩ = some (.int .i64 a0_0) ∧ w'.cell? ⟨gb128, 1, none⟩ = some (.int .i64 a0_1) ∧ w'.cell? ⟨gb128, 2, none⟩ = some (.int .i64 a0_2) ∧ w'.cell? ⟨gb128, 3, none⟩ = some (.int .i64 a0_3) ∧ w'.cell? ⟨gb128, 4, none⟩ = some (.int .i64 a0_4) ∧ w'.cell? ⟨gb128, 5, none⟩ = some (.int .i64 a0_5) ∧ w'.cell? ⟨gb128, 6, none⟩ = some (.int .i64 a0_6) ∧ w'.cell? ⟨gb130, 0, none⟩ = some (.int .i64 a0_3) ∧ w'.cell? ⟨gb130, 1, none⟩ = some (.int .i64 a0_4) ∧ w'.cell? ⟨gb130, 2, none⟩ = some (.int .i64 a0_5) ∧ w'.cell? ⟨gb130, 3, none⟩ = some (.int .i64 a0_6)) ∧ (Kd.R (Kd.int .u8) 5 w' w.heap.size (fun _ => True) s_ y131) ∧ (w'.heap[gb128]? = some (.cells #[.int .i64 a0_0, .int .i64 a0_1, .int .i64 a0_2, .int .i64 a0_3, .int .i64 a0_4, .int .i64 a0_5, .int .i64 a0_6] 37 (0, 0))) ∧ (w'.heap[gb130]? = some (.cells #[.int .i64 a0_3, .int .i64 a0_4, .int .i64 a0_5, .int .i64 a0_6] 35 (0, 0))) ∧ (Below w.heap.size w w')) ?_ ?_
                                     rotate_left
                                     ·intro hJ6_7
                                      refine join_ (σ := Value) 16 (msk 35 214726527) (fun s_ => [(16, s_), (20, .string t134)]) (fun s_ w' => (w'.cell? ⟨gb128, 0, none⟩ = some (.int .i64 a0_0) ∧ w'.cell? ⟨gb128, 1, none⟩ = some (.int .i64 a0_1) ∧ w'.cell? ⟨gb128, 2, none⟩ = some (.int .i64 a0_2) ∧ w'.cell? ⟨gb128, 3, none⟩ = some (.int .i64 a0_3) ∧ w'.cell? ⟨gb128, 4, none⟩ = some (.int .i64 a0_4) ∧ w'.cell? ⟨gb128, 5, none⟩ = some (.int .i64 a0_5) ∧ w'.cell? ⟨gb128, 6, none⟩ = some (.int .i64 a0_6) ∧ w'.cell? ⟨gb130, 0, none⟩ = some (.int .i64 a0_3) ∧ w'.cell? ⟨gb130, 1, none⟩ = some (.int .i64 a0_4) ∧ w'.cell? ⟨gb130, 2, none⟩ = some (.int .i64 a0_5) ∧ w'.cell? ⟨gb130, 3, none⟩ = some (.int .i64 a0_6)) ∧ (Kd.R (Kd.int .u8) 5 w' w.heap.size (fun _ => True) s_ y131) ∧ (w'.heap[gb128]? = some (.cells #[.int .i64 a0_0, .int .i64 a0_1, .int .i64 a0_2, .int .i64 a0_3, .int .i64 a0_4, .int .i64 a0_5, .int .i64 a0_6] 37 (0, 0))) ∧ (w'.heap[gb130]? = some (.cells #[.int .i64 a0_3, .int .i64 a0_4, .int .i64 a0_5, .int .i64 a0_6] 35 (0, 0))) ∧ (Below w.heap.size w w')) ?_ ?_
                                      rotate_left
                                      ·intro hJ6_10
                                       refine join_ (σ := Value × Value) 16 (msk 35 214758271) (fun s_ => [(16, s_.1), (25, s_.2)]) (fun s_ w' => (w'.cell? ⟨gb128, 0, none⟩ = some (.int .i64 a0_0) ∧ w'.cell? ⟨gb128, 1, none⟩ = some (.int .i64 a0_1) ∧ w'.cell? ⟨gb128, 2, none⟩ = some (.int .i64 a0_2) ∧ w'.cell? ⟨gb128, 3, none⟩ = some (.int .i64 a0_3) ∧ w'.cell? ⟨gb128, 4, none⟩ = some (.int .i64 a0_4) ∧ w'.cell? ⟨gb128, 5, none⟩ = some (.int .i64 a0_5) ∧ w'.cell? ⟨gb128, 6, none⟩ = some (.int .i64 a0_6) ∧ w'.cell? ⟨gb130, 0, none⟩ = some (.int .i64 a0_3) ∧ w'.cell? ⟨gb130, 1, none⟩ = some (.int .i64 a0_4) ∧ w'.cell? ⟨gb130, 2, none⟩ = some (.int .i64 a0_5) ∧ w'.cell? ⟨gb130, 3, none⟩ = some (.int .i64 a0_6)) ∧ (Kd.R (Kd.int .u8) 5 w' w.heap.size (fun k_ => some k_ ≠ (s_.2 : Value).ownBlock) s_.1 y131) ∧ (Kd.R (Kd.int .u8) 5 w' w.heap.size (fun k_ => some k_ ≠ (s_.1 : Value).ownBlock) s_.2 y135) ∧ (w'.heap[gb128]? = some (.cells #[.int .i64 a0_0, .int .i64 a0_1, .int .i64 a0_2, .int .i64 a0_3, .int .i64 a0_4, .int .i64 a0_5, .int .i64 a0_6] 37 (0, 0))) ∧ (w'.heap[gb130]? = some (.cells #[.int .i64 a0_3, .int .i64 a0_4, .int .i64 a0_5, .int .i64 a0_6] 35 (0, 0))) ∧ (Below w.heap.size w w')) ?_ ?_
                                       rotate_left
                                       ·intro hJ6_15
                                        refine join_ (σ := Value) 16 (msk 35 214759231) (fun s_ => [(20, .string t134), (25, s_)]) (fun s_ w' => (w'.cell? ⟨gb128, 0, none⟩ = some (.int .i64 a0_0) ∧ w'.cell? ⟨gb128, 1, none⟩ = some (.int .i64 a0_1) ∧ w'.cell? ⟨gb128, 2, none⟩ = some (.int .i64 a0_2) ∧ w'.cell? ⟨gb128, 3, none⟩ = some (.int .i64 a0_3) ∧ w'.cell? ⟨gb128, 4, none⟩ = some (.int .i64 a0_4) ∧ w'.cell? ⟨gb128, 5, none⟩ = some (.int .i64 a0_5) ∧ w'.cell? ⟨gb128, 6, none⟩ = some (.int .i64 a0_6) ∧ w'.cell? ⟨gb130, 0, none⟩ = some (.int .i64 a0_3) ∧ w'.cell? ⟨gb130, 1, none⟩ = some (.int .i64 a0_4) ∧ w'.cell? ⟨gb130, 2, none⟩ = some (.int .i64 a0_5) ∧ w'.cell? ⟨gb130, 3, none⟩ = some (.int .i64 a0_6)) ∧ (Kd.R (Kd.int .u8) 5 w' w.heap.size (fun _ => True) s_ y135) ∧ (w'.heap[gb128]? = some (.cells #[.int .i64 a0_0, .int .i64 a0_1, .int .i64 a0_2, .int .i64 a0_3, .int .i64 a0_4, .int .i64 a0_5, .int .i64 a0_6] 37 (0, 0))) ∧ (w'.heap[gb130]? = some (.cells #[.int .i64 a0_3, .int .i64 a0_4, .int .i64 a0_5, .int .i64 a0_6] 35 (0, 0))) ∧ (Below w.heap.size w w')) ?_ ?_
                                        rotate_left
                                        ·intro hJ10_15
                                         refine join_ (σ := Unit) 16 (msk 35 215775039) (fun s_ => [(20, .string t134), (30, .string t138)]) (fun s_ w' => (w'.cell? ⟨gb128, 0, none⟩ = some (.int .i64 a0_0) ∧ w'.cell? ⟨gb128, 1, none⟩ = some (.int .i64 a0_1) ∧ w'.cell? ⟨gb128, 2, none⟩ = some (.int .i64 a0_2) ∧ w'.cell? ⟨gb128, 3, none⟩ = some (.int .i64 a0_3) ∧ w'.cell? ⟨gb128, 4, none⟩ = some (.int .i64 a0_4) ∧ w'.cell? ⟨gb128, 5, none⟩ = some (.int .i64 a0_5) ∧ w'.cell? ⟨gb128, 6, none⟩ = some (.int .i64 a0_6) ∧ w'.cell? ⟨gb130, 0, none⟩ = some (.int .i64 a0_3) ∧ w'.cell? ⟨gb130, 1, none⟩ = some (.int .i64 a0_4) ∧ w'.cell? ⟨gb130, 2, none⟩ = some (.int .i64 a0_5) ∧ w'.cell? ⟨gb130, 3, none⟩ = some (.int .i64 a0_6)) ∧ (w'.heap[gb128]? = some (.cells #[.int .i64 a0_0, .int .i64 a0_1, .int .i64 a0_2, .int .i64 a0_3, .int .i64 a0_4, .int .i64 a0_5, .int .i64 a0_6] 37 (0, 0))) ∧ (w'.heap[gb130]? = some (.cells #[.int .i64 a0_3, .int .i64 a0_4, .int .i64 a0_5, .int .i64 a0_6] 35 (0, 0))) ∧ (Below w.heap.size w w')) ?_ ?_
                                         rotate_left
                                         ·intro hJ10_20
                                          refine join_ (σ := Value) 16 (msk 35 214823743) (fun s_ => [(25, s_), (26, .string (strOfNums y135))]) (fun s_ w' => (w'.cell? ⟨gb128, 0, none⟩ = some (.int .i64 a0_0) ∧ w'.cell? ⟨gb128, 1, none⟩ = some (.int .i64 a0_1) ∧ w'.cell? ⟨gb128, 2, none⟩ = some (.int .i64 a0_2) ∧ w'.cell? ⟨gb128, 3, none⟩ = some (.int .i64 a0_3) ∧ w'.cell? ⟨gb128, 4, none⟩ = some (.int .i64 a0_4) ∧ w'.cell? ⟨gb128, 5, none⟩ = some (.int .i64 a0_5) ∧ w'.cell? ⟨gb128, 6, none⟩ = some (.int .i64 a0_6) ∧ w'.cell? ⟨gb130, 0, none⟩ = some (.int .i64 a0_3) ∧ w'.cell? ⟨gb130, 1, none⟩ = some (.int .i64 a0_4) ∧ w'.cell? ⟨gb130, 2, none⟩ = some (.int .i64 a0_5) ∧ w'.cell? ⟨gb130, 3, none⟩ = some (.int .i64 a0_6)) ∧ (Kd.R (Kd.int .u8) 5 w' w.heap.size (fun _ => True) s_ y135) ∧ (w'.heap[gb128]? = some (.cells #[.int .i64 a0_0, .int .i64 a0_1, .int .i64 a0_2, .int .i64 a0_3, .int .i64 a0_4, .int .i64 a0_5, .int .i64 a0_6] 37 (0, 0))) ∧ (w'.heap[gb130]? = some (.cells #[.int .i64 a0_3, .int .i64 a0_4, .int .i64 a0_5, .int .i64 a0_6] 35 (0, 0))) ∧ (Below w.heap.size w w')) ?_ ?_
                                          rotate_left
                                          ·intro hJ15_16
                                           refine join_ (σ := Value) 17 (msk 35 214725503) (fun s_ => [(16, s_)]) (fun s_ w' => (w'.cell? ⟨gb128, 0, none⟩ = some (.int .i64 a0_0) ∧ w'.cell? ⟨gb128, 1, none⟩ = some (.int .i64 a0_1) ∧ w'.cell? ⟨gb128, 2, none⟩ = some (.int .i64 a0_2) ∧ w'.cell? ⟨gb128, 3, none⟩ = some (.int .i64 a0_3) ∧ w'.cell? ⟨gb128, 4, none⟩ = some (.int .i64 a0_4) ∧ w'.cell? ⟨gb128, 5, none⟩ = some (.int .i64 a0_5) ∧ w'.cell? ⟨gb128, 6, none⟩ = some (.int .i64 a0_6) ∧ w'.cell? ⟨gb130, 0, none⟩ = some (.int .i64 a0_3) ∧ w'.cell? ⟨gb130, 1, none⟩ = some (.int .i64 a0_4) ∧ w'.cell? ⟨gb130, 2, none⟩ = some (.int .i64 a0_5) ∧ w'.cell? ⟨gb130, 3, none⟩ = some (.int .i64 a0_6)) ∧ (Kd.R (Kd.int .u8) 5 w' w.heap.size (fun _ => True) s_ y131) ∧ (w'.heap[gb128]? = some (.cells #[.int .i64 a0_0, .int .i64 a0_1, .int .i64 a0_2, .int .i64 a0_3, .int .i64 a0_4, .int .i64 a0_5, .int .i64 a0_6] 37 (0, 0))) ∧ (w'.heap[gb130]? = some (.cells #[.int .i64 a0_3, .int .i64 a0_4, .int .i64 a0_5, .int .i64 a0_6] 35 (0, 0))) ∧ (Below w.heap.size w w')) ?_ ?_
                                           rotate_left
                                           ·intro hJ6
                                            refine join_ (σ := Unit) 17 (msk 35 214726463) (fun s_ => [(20, .string t134)]) (fun s_ w' => (w'.cell? ⟨gb128, 0, none⟩ = some (.int .i64 a0_0) ∧ w'.cell? ⟨gb128, 1, none⟩ = some (.int .i64 a0_1) ∧ w'.cell? ⟨gb128, 2, none⟩ = some (.int .i64 a0_2) ∧ w'.cell? ⟨gb128, 3, none⟩ = some (.int .i64 a0_3) ∧ w'.cell? ⟨gb128, 4, none⟩ = some (.int .i64 a0_4) ∧ w'.cell? ⟨gb128, 5, none⟩ = some (.int .i64 a0_5) ∧ w'.cell? ⟨gb128, 6, none⟩ = some (.int .i64 a0_6) ∧ w'.cell? ⟨gb130, 0, none⟩ = some (.int .i64 a0_3) ∧ w'.cell? ⟨gb130, 1, none⟩ = some (.int .i64 a0_4) ∧ w'.cell? ⟨gb130, 2, none⟩ = some (.int .i64 a0_5) ∧ w'.cell? ⟨gb130, 3, none⟩ = some (.int .i64 a0_6)) ∧ (w'.heap[gb128]? = some (.cells #[.int .i64 a0_0, .int .i64 a0_1, .int .i64 a0_2, .int .i64 a0_3, .int .i64 a0_4, .int .i64 a0_5, .int .i64 a0_6] 37 (0, 0))) ∧ (w'.heap[gb130]? = some (.cells #[.int .i64 a0_3, .int .i64 a0_4, .int .i64 a0_5, .int .i64 a0_6] 35 (0, 0))) ∧ (Below w.heap.size w w')) ?_ ?_
                                            rotate_left
                                            ·intro hJ10
                                             refine join_ (σ := Value) 17 (msk 35 214758207) (fun s_ => [(25, s_)]) (fun s_ w' => (w'.cell? ⟨gb128, 0, none⟩ = some (.int .i64 a0_0) ∧ w'.cell? ⟨gb128, 1, none⟩ = some (.int .i64 a0_1) ∧ w'.cell? ⟨gb128, 2, none⟩ = some (.int .i64 a0_2) ∧ w'.cell? ⟨gb128, 3, none⟩ = some (.int .i64 a0_3) ∧ w'.cell? ⟨gb128, 4, none⟩ = some (.int .i64 a0_4) ∧ w'.cell? ⟨gb128, 5, none⟩ = some (.int .i64 a0_5) ∧ w'.cell? ⟨gb128, 6, none⟩ = some (.int .i64 a0_6) ∧ w'.cell? ⟨gb130, 0, none⟩ = some (.int .i64 a0_3) ∧ w'.cell? ⟨gb130, 1, none⟩ = some (.int .i64 a0_4) ∧ w'.cell? ⟨gb130, 2, none⟩ = some (.int .i64 a0_5) ∧ w'.cell? ⟨gb130, 3, none⟩ = some (.int .i64 a0_6)) ∧ (Kd.R (Kd.int .u8) 5 w' w.heap.size (fun _ => True) s_ y135) ∧ (w'.heap[gb128]? = some (.cells #[.int .i64 a0_0, .int .i64 a0_1, .int .i64 a0_2, .int .i64 a0_3, .int .i64 a0_4, .int .i64 a0_5, .int .i64 a0_6] 37 (0, 0))) ∧ (w'.heap[gb130]? = some (.cells #[.int .i64 a0_3, .int .i64 a0_4, .int .i64 a0_5, .int .i64 a0_6] 35 (0, 0))) ∧ (Below w.heap.size w w')) ?_ ?_
                                             rotate_left
                                             ·intro hJ15
                                              refine three_ (i := 6) (j := 10) (k := 15) (Ni := some 16) (Nj := some 20) (Nk := some 25) #[true, true, true, true, true, true, true, false, true, true, false, false, true, true, true, false, false, false, true, true, false, false, true, true, false, false, true, true, false, false, false, false, false, false, false] #[true, true, true, true, true, true, false, false, true, true, true, false, true, true, true, false, false, false, true, true, false, false, true, true, false, false, true, true, false, false, false, false, false, false, false] #[true, true, true, true, true, true, false, false, true, true, false, false, true, true, true, true, false, false, true, true, false, false, true, true, false, false, true, true, false, false, false, false, false, false, false] rfl rfl rfl rfl rfl rfl (three_of HT_.out (by kernel_rfl)) (by decide) (by decide) (by decide) (fun K hK => ?_) (fun K hK => ?_) (fun K hK => ?_)
                                              ·skip
                                               refine Kd.R_lit_step (Kd.int .u8) _ 5 ?hg (N := 16) ?hd (xs := ([(a0_0) % 256, (a0_1) % 256] : List Int)) (inner := [.int .u8 ((a0_0) % 256), .int .u8 ((a0_1) % 256)]) (ok := fun _ => True) (okp := fun _ => True) ?hr ?hp (fun _ hk => hk) trivial (Below.refl _ _) (Nat.le_refl _) (by simp) ?_; (case hd => rfl); (case hg => rfl); (case hr => first | (go_simp; done) | (go_simp; rfl)); (case hp => exact (Reps.one (show Kd.M (Kd.int .u8) _ _ _ ((a0_0) % 256) [.int .u8 ((a0_0) % 256)] from rfl) (Reps.one (show Kd.M (Kd.int .u8) _ _ _ ((a0_1) % 256) [.int .u8 ((a0_1) % 256)] from rfl) (Reps.none _ _))))
                                               intro v132 w23 ho24 hb hg_ hnew_;clear hg_ hnew_
                                               (first | rw [← Ny131.out] at ho24 | (simp only [Int.reduceToNat] at ho24; rw [← Ny131.out] at ho24))
                                               have HO133 := Aside0.mk (Kd.R_lower ho24 (below_size cB));replace BK128 := kB BK128 hb;replace BK130 := kB BK130 hb;replace HB := sB hb;clear hb ho24
                                               refine hK.out _ _ qh3x0 (fun hHeld => ?_)
                                               clear hK K;refine normZ (some 16) ?_
                                               exact norm_ nP (hJ6 (v132) _ ⟨hHeld, (mR HO133), (mK BK128), (mK BK130), cB⟩)
                                              ·skip
                                               refine goes_ Try.func32 (by kernel_rfl) rfl #[.int .i64 a0_2] (by rfl) rfl rfl (by (try simp only [List.map_toArray, List.map_cons, List.map_nil]); first | done | rfl | (simp only [List.length_drop, List.length_take]; rfl)) ?_
                                               with_reducible refine (spec_l01Var.calls k a0_2 t134 _ A4.out).mono ?_;rintro e w23 ⟨rfl, hb⟩;refine ⟨_, rfl, ?_⟩;replace BK128 := kB BK128 hb;replace BK130 := kB BK130 hb;replace HB := sB hb;(try clear hb)
                                               refine hK.out _ _ qh3x0 (fun hHeld => ?_)
                                               clear hK K;refine normZ (some 20) ?_
                                               exact norm_ nP (hJ10 () _ ⟨hHeld, (mK BK128), (mK BK130), cB⟩)
                                              ·skip
                                               refine Kd.R_lit_step (Kd.int .u8) _ 5 ?hg (N := 25) ?hd (xs := ([(a0_3) % 256] : List Int)) (inner := [.int .u8 ((a0_3) % 256)]) (ok := fun _ => True) (okp := fun _ => True) ?hr ?hp (fun _ hk => hk) trivial (Below.refl _ _) (Nat.le_refl _) (by simp) ?_; (case hd => rfl); (case hg => rfl); (case hr => first | (go_simp; done) | (go_simp; rfl)); (case hp => exact (Reps.one (show Kd.M (Kd.int .u8) _ _ _ ((a0_3) % 256) [.int .u8 ((a0_3) % 256)] from rfl) (Reps.none _ _)))
                                               intro v136 w23 ho24 hb hg_ hnew_;clear hg_ hnew_
                                               (first | rw [← Ny135.out] at ho24 | (simp only [Int.reduceToNat] at ho24; rw [← Ny135.out] at ho24))
                                               have HO137 := Aside0.mk (Kd.R_lower ho24 (below_size cB));replace BK128 := kB BK128 hb;replace BK130 := kB BK130 hb;replace HB := sB hb;clear hb ho24
                                               refine hK.out _ _ qh3x0 (fun hHeld => ?_)
                                               clear hK K;refine normZ (some 25) ?_
                                               exact norm_ nP (hJ15 (v136) _ ⟨hHeld, (mR HO137), (mK BK128), (mK BK130), cB⟩)
                                             ·skip;rintro v136 w25 ⟨hS_, h0_, h1_, h2_, h3_⟩
                                              have n0_ : Aside0 (Kd.R (Kd.int .u8) 5 w25 w.heap.size (fun _ => True) v136 y135) := ⟨h0_⟩
                                              have n1_ := Aside0.mk h1_;have n2_ := Aside0.mk h2_;have n3_ := Aside0.mk h3_;clear BK128 BK130 HB h0_ h1_ h2_ h3_;have HO137 := n0_;have BK128 := n1_;have BK130 := n2_;have HB := n3_;clear n0_ n1_ n2_ n3_;have hHeld := hS_;refine norm_ (a' := ?_) ?_ ?_;rotate_left
                                              ·simp only [putAll, Act.put, List.setIfInBounds_toArray, List.set_cons_zero, List.set_cons_succ];rfl
                                              refine three_ (i := 6) (j := 10) (k := 16) (Ni := some 16) (Nj := some 20) (Nk := some 26) #[true, true, true, true, true, true, true, false, true, true, false, false, true, true, true, true, false, false, true, true, false, false, true, true, false, false, true, true, false, false, false, false, false, false, false] #[true, true, true, true, true, true, false, false, true, true, true, false, true, true, true, true, false, false, true, true, false, false, true, true, false, false, true, true, false, false, false, false, false, false, false] #[true, true, true, true, true, true, false, false, true, true, false, false, true, true, true, true, true, false, true, true, false, false, true, true, false, false, true, true, false, false, false, false, false, false, false] rfl rfl rfl rfl rfl rfl (three_of HT_.out (by kernel_rfl)) (by decide) (by decide) (by decide) (fun K hK => ?_) (fun K hK => ?_) (fun K hK => ?_)
                                              ·skip
                                               refine Kd.R_lit_step (Kd.int .u8) _ 5 ?hg (N := 16) ?hd (xs := ([(a0_0) % 256, (a0_1) % 256] : List Int)) (inner := [.int .u8 ((a0_0) % 256), .int .u8 ((a0_1) % 256)]) (ok := fun _ => True) (okp := fun _ => True) ?hr ?hp (fun _ hk => hk) trivial (Below.refl _ _) (Nat.le_refl _) (by simp) ?_; (case hd => rfl); (case hg => rfl); (case hr => first | (go_simp; done) | (go_simp; rfl)); (case hp => exact (Reps.one (show Kd.M (Kd.int .u8) _ _ _ ((a0_0) % 256) [.int .u8 ((a0_0) % 256)] from rfl) (Reps.one (show Kd.M (Kd.int .u8) _ _ _ ((a0_1) % 256) [.int .u8 ((a0_1) % 256)] from rfl) (Reps.none _ _))))
                                               intro v132 w26 ho27 hb hg_ hnew_;clear hg_ hnew_
                                               (first | rw [← Ny131.out] at ho27 | (simp only [Int.reduceToNat] at ho27; rw [← Ny131.out] at ho27))
                                               have HO133 := Aside0.mk (Kd.R_lower (Kd.R_new' ho27 (Kd.R_lt (mR HO137))) (below_size cB));replace HO137 := eB HO137 (Kd.R_base ho27) hb;replace BK128 := kB BK128 hb;replace BK130 := kB BK130 hb;replace HB := sB hb;clear hb ho27
                                               refine hK.out _ _ qh3x0 (fun hHeld => ?_)
                                               clear hK K;refine normZ (some 16) ?_
                                               exact norm_ nP (hJ6_15 (v132, v136) _ ⟨hHeld, (by (with_reducible repeat (first | apply Kd.R_alloc | apply Kd.R_drewN | apply Kd.R_drew)); exact Kd.R_mono HO133.out (fun _ hk => hk.2)), (by (with_reducible repeat (first | apply Kd.R_alloc | apply Kd.R_drewN | apply Kd.R_drew)); exact Kd.R_mono HO137.out (fun _ hk => hk.2)), (mK BK128), (mK BK130), cB⟩)
                                              ·skip
                                               refine goes_ Try.func32 (by kernel_rfl) rfl #[.int .i64 a0_2] (by rfl) rfl rfl (by (try simp only [List.map_toArray, List.map_cons, List.map_nil]); first | done | rfl | (simp only [List.length_drop, List.length_take]; rfl)) ?_
                                               with_reducible refine (spec_l01Var.calls k a0_2 t134 _ A4.out).mono ?_;rintro e w26 ⟨rfl, hb⟩;refine ⟨_, rfl, ?_⟩;replace HO137 := rB HO137 hb;replace BK128 := kB BK128 hb;replace BK130 := kB BK130 hb;replace HB := sB hb;(try clear hb)
                                               refine hK.out _ _ qh3x0 (fun hHeld => ?_)
                                               clear hK K;refine normZ (some 20) ?_
                                               exact norm_ nP (hJ10_15 (v136) _ ⟨hHeld, (mR HO137), (mK BK128), (mK BK130), cB⟩)
                                              ·skip;have hcv26 := own_string (P := Try.prog) Try.underlying65 Try.underlying5 Try.underlying9 (Kd.own_of_R HO137.out)
                                               refine value_ (w1 := ?_) (v := ?_) (by rfl) rfl ?_ ?_
                                               rotate_left 2
                                               ·go_simp;constructor
                                                ·rfl
                                                ·rfl
                                               clear hcv26
                                               refine hK.out _ _ qh3x0 (fun hHeld => ?_)
                                               clear hK K;refine normZ (some 26) ?_
                                               exact norm_ nP (hJ15_16 (v136) _ ⟨hHeld, (mR HO137), (mK BK128), (mK BK130), cB⟩)
                                            ·skip;rintro _ w24 ⟨hS_, h0_, h1_, h2_⟩;have n0_ := Aside0.mk h0_;have n1_ := Aside0.mk h1_;have n2_ := Aside0.mk h2_;clear BK128 BK130 HB h0_ h1_ h2_;have BK128 := n0_;have BK130 := n1_;have HB := n2_;clear n0_ n1_ n2_;have hHeld := hS_;refine norm_ (a' := ?_) ?_ ?_;rotate_left
                                             ·simp only [putAll, Act.put, List.setIfInBounds_toArray, List.set_cons_zero, List.set_cons_succ];rfl
                                             refine three_ (i := 6) (j := 15) (k := 20) (Ni := some 16) (Nj := some 25) (Nk := some 30) #[true, true, true, true, true, true, true, false, true, true, true, false, true, true, true, false, false, false, true, true, false, false, true, true, false, false, true, true, false, false, false, false, false, false, false] #[true, true, true, true, true, true, false, false, true, true, true, false, true, true, true, true, false, false, true, true, false, false, true, true, false, false, true, true, false, false, false, false, false, false, false] #[true, true, true, true, true, true, false, false, true, true, true, false, true, true, true, false, false, false, true, true, true, false, true, true, false, false, true, true, false, false, false, false, false, false, false] rfl rfl rfl rfl rfl rfl (three_of HT_.out (by kernel_rfl)) (by decide) (by decide) (by decide) (fun K hK => ?_) (fun K hK => ?_) (fun K hK => ?_)
                                             ·skip
                                              refine Kd.R_lit_step (Kd.int .u8) _ 5 ?hg (N := 16) ?hd (xs := ([(a0_0) % 256, (a0_1) % 256] : List Int)) (inner := [.int .u8 ((a0_0) % 256), .int .u8 ((a0_1) % 256)]) (ok := fun _ => True) (okp := fun _ => True) ?hr ?hp (fun _ hk => hk) trivial (Below.refl _ _) (Nat.le_refl _) (by simp) ?_; (case hd => rfl); (case hg => rfl); (case hr => first | (go_simp; done) | (go_simp; rfl)); (case hp => exact (Reps.one (show Kd.M (Kd.int .u8) _ _ _ ((a0_0) % 256) [.int .u8 ((a0_0) % 256)] from rfl) (Reps.one (show Kd.M (Kd.int .u8) _ _ _ ((a0_1) % 256) [.int .u8 ((a0_1) % 256)] from rfl) (Reps.none _ _))))
                                              intro v132 w25 ho26 hb hg_ hnew_;clear hg_ hnew_
                                              (first | rw [← Ny131.out] at ho26 | (simp only [Int.reduceToNat] at ho26; rw [← Ny131.out] at ho26))
                                              have HO133 := Aside0.mk (Kd.R_lower ho26 (below_size cB));replace BK128 := kB BK128 hb;replace BK130 := kB BK130 hb;replace HB := sB hb;clear hb ho26
                                              refine hK.out _ _ qh3x0 (fun hHeld => ?_)
                                              clear hK K;refine normZ (some 16) ?_
                                              exact norm_ nP (hJ6_10 (v132) _ ⟨hHeld, (mR HO133), (mK BK128), (mK BK130), cB⟩)
                                             ·skip
                                              refine Kd.R_lit_step (Kd.int .u8) _ 5 ?hg (N := 25) ?hd (xs := ([(a0_3) % 256] : List Int)) (inner := [.int .u8 ((a0_3) % 256)]) (ok := fun _ => True) (okp := fun _ => True) ?hr ?hp (fun _ hk => hk) trivial (Below.refl _ _) (Nat.le_refl _) (by simp) ?_; (case hd => rfl); (case hg => rfl); (case hr => first | (go_simp; done) | (go_simp; rfl)); (case hp => exact (Reps.one (show Kd.M (Kd.int .u8) _ _ _ ((a0_3) % 256) [.int .u8 ((a0_3) % 256)] from rfl) (Reps.none _ _)))
                                              intro v136 w25 ho26 hb hg_ hnew_;clear hg_ hnew_
                                              (first | rw [← Ny135.out] at ho26 | (simp only [Int.reduceToNat] at ho26; rw [← Ny135.out] at ho26))
                                              have HO137 := Aside0.mk (Kd.R_lower ho26 (below_size cB));replace BK128 := kB BK128 hb;replace BK130 := kB BK130 hb;replace HB := sB hb;clear hb ho26
                                              refine hK.out _ _ qh3x0 (fun hHeld => ?_)
                                              clear hK K;refine normZ (some 25) ?_
                                              exact norm_ nP (hJ10_15 (v136) _ ⟨hHeld, (mR HO137), (mK BK128), (mK BK130), cB⟩)
                                             ·skip
                                              refine goes_ Try.func33 (by kernel_rfl) rfl #[.int .i64 a0_4] (by rfl) rfl rfl (by (try simp only [List.map_toArray, List.map_cons, List.map_nil]); first | done | rfl | (simp only [List.length_drop, List.length_take]; rfl)) ?_
                                              with_reducible refine (spec_l06Four.calls a0_4 t138 _ A7.out).mono ?_;rintro e w25 ⟨rfl, hb⟩;refine ⟨_, rfl, ?_⟩;replace BK128 := kB BK128 hb;replace BK130 := kB BK130 hb;replace HB := sB hb;(try clear hb)
                                              refine hK.out _ _ qh3x0 (fun hHeld => ?_)
                                              clear hK K;refine normZ (some 30) ?_
                                              exact norm_ nP (hJ10_20 () _ ⟨hHeld, (mK BK128), (mK BK130), cB⟩)
                                           ·skip;rintro v132 w25 ⟨hS_, h0_, h1_, h2_, h3_⟩
                                            have n0_ : Aside0 (Kd.R (Kd.int .u8) 5 w25 w.heap.size (fun _ => True) v132 y131) := ⟨h0_⟩
                                            have n1_ := Aside0.mk h1_;have n2_ := Aside0.mk h2_;have n3_ := Aside0.mk h3_;clear BK128 BK130 HB h0_ h1_ h2_ h3_;have HO133 := n0_;have BK128 := n1_;have BK130 := n2_;have HB := n3_;clear n0_ n1_ n2_ n3_;have hHeld := hS_;refine norm_ (a' := ?_) ?_ ?_;rotate_left
                                            ·simp only [putAll, Act.put, List.setIfInBounds_toArray, List.set_cons_zero, List.set_cons_succ];rfl
                                            refine three_ (i := 7) (j := 10) (k := 15) (Ni := some 17) (Nj := some 20) (Nk := some 25) #[true, true, true, true, true, true, true, true, true, true, false, false, true, true, true, false, false, false, true, true, false, false, true, true, false, false, true, true, false, false, false, false, false, false, false] #[true, true, true, true, true, true, true, false, true, true, true, false, true, true, true, false, false, false, true, true, false, false, true, true, false, false, true, true, false, false, false, false, false, false, false] #[true, true, true, true, true, true, true, false, true, true, false, false, true, true, true, true, false, false, true, true, false, false, true, true, false, false, true, true, false, false, false, false, false, false, false] rfl rfl rfl rfl rfl rfl (three_of HT_.out (by kernel_rfl)) (by decide) (by decide) (by decide) (fun K hK => ?_) (fun K hK => ?_) (fun K hK => ?_)
                                            ·skip;have hcv26 := own_string (P := Try.prog) Try.underlying65 Try.underlying5 Try.underlying9 (Kd.own_of_R HO133.out)
                                             refine value_ (w1 := ?_) (v := ?_) (by rfl) rfl ?_ ?_
                                             rotate_left 2
                                             ·go_simp;constructor
                                              ·rfl
                                              ·rfl
                                             clear hcv26
                                             refine hK.out _ _ qh3x0 (fun hHeld => ?_)
                                             clear hK K;refine normZ (some 17) ?_
                                             exact norm_ nP (hJ6_7 (v132) _ ⟨hHeld, (mR HO133), (mK BK128), (mK BK130), cB⟩)
                                            ·skip
                                             refine goes_ Try.func32 (by kernel_rfl) rfl #[.int .i64 a0_2] (by rfl) rfl rfl (by (try simp only [List.map_toArray, List.map_cons, List.map_nil]); first | done | rfl | (simp only [List.length_drop, List.length_take]; rfl)) ?_
                                             with_reducible refine (spec_l01Var.calls k a0_2 t134 _ A4.out).mono ?_;rintro e w26 ⟨rfl, hb⟩;refine ⟨_, rfl, ?_⟩;replace HO133 := rB HO133 hb;replace BK128 := kB BK128 hb;replace BK130 := kB BK130 hb;replace HB := sB hb;(try clear hb)
                                             refine hK.out _ _ qh3x0 (fun hHeld => ?_)
                                             clear hK K;refine normZ (some 20) ?_
                                             exact norm_ nP (hJ6_10 (v132) _ ⟨hHeld, (mR HO133), (mK BK128), (mK BK130), cB⟩)
                                            ·skip
                                             refine Kd.R_lit_step (Kd.int .u8) _ 5 ?hg (N := 25) ?hd (xs := ([(a0_3) % 256] : List Int)) (inner := [.int .u8 ((a0_3) % 256)]) (ok := fun _ => True) (okp := fun _ => True) ?hr ?hp (fun _ hk => hk) trivial (Below.refl _ _) (Nat.le_refl _) (by simp) ?_; (case hd => rfl); (case hg => rfl); (case hr => first | (go_simp; done) | (go_simp; rfl)); (case hp => exact (Reps.one (show Kd.M (Kd.int .u8) _ _ _ ((a0_3) % 256) [.int .u8 ((a0_3) % 256)] from rfl) (Reps.none _ _)))
                                             intro v136 w26 ho27 hb hg_ hnew_;clear hg_ hnew_
                                             (first | rw [← Ny135.out] at ho27 | (simp only [Int.reduceToNat] at ho27; rw [← Ny135.out] at ho27))
                                             have HO137 := Aside0.mk (Kd.R_lower (Kd.R_new' ho27 (Kd.R_lt (mR HO133))) (below_size cB));replace HO133 := eB HO133 (Kd.R_base ho27) hb;replace BK128 := kB BK128 hb;replace BK130 := kB BK130 hb;replace HB := sB hb;clear hb ho27
                                             refine hK.out _ _ qh3x0 (fun hHeld => ?_)
                                             clear hK K;refine normZ (some 25) ?_
                                             exact norm_ nP (hJ6_15 (v132, v136) _ ⟨hHeld, (by (with_reducible repeat (first | apply Kd.R_alloc | apply Kd.R_drewN | apply Kd.R_drew)); exact Kd.R_mono HO133.out (fun _ hk => hk.2)), (by (with_reducible repeat (first | apply Kd.R_alloc | apply Kd.R_drewN | apply Kd.R_drew)); exact Kd.R_mono HO137.out (fun _ hk => hk.2)), (mK BK128), (mK BK130), cB⟩)
                                          ·skip;rintro v136 w26 ⟨hS_, h0_, h1_, h2_, h3_⟩
                                           have n0_ : Aside0 (Kd.R (Kd.int .u8) 5 w26 w.heap.size (fun _ => True) v136 y135) := ⟨h0_⟩
                                           have n1_ := Aside0.mk h1_;have n2_ := Aside0.mk h2_;have n3_ := Aside0.mk h3_;clear BK128 BK130 HB h0_ h1_ h2_ h3_;have HO137 := n0_;have BK128 := n1_;have BK130 := n2_;have HB := n3_;clear n0_ n1_ n2_ n3_;have hHeld := hS_;refine norm_ (a' := ?_) ?_ ?_;rotate_left
                                           ·simp only [putAll, Act.put, List.setIfInBounds_toArray, List.set_cons_zero, List.set_cons_succ];rfl
                                           refine two_ (i := 6) (j := 10) (Ni := some 16) (Nj := some 20) #[true, true, true, true, true, true, true, false, true, true, false, false, true, true, true, true, true, false, true, true, false, false, true, true, false, false, true, true, false, false, false, false, false, false, false] #[true, true, true, true, true, true, false, false, true, true, true, false, true, true, true, true, true, false, true, true, false, false, true, true, false, false, true, true, false, false, false, false, false, false, false] rfl rfl rfl rfl (two_of HT_.out (by kernel_rfl)) (by decide) (by decide) (fun K hK => ?_) (fun K hK => ?_)
                                           ·skip
                                            refine Kd.R_lit_step (Kd.int .u8) _ 5 ?hg (N := 16) ?hd (xs := ([(a0_0) % 256, (a0_1) % 256] : List Int)) (inner := [.int .u8 ((a0_0) % 256), .int .u8 ((a0_1) % 256)]) (ok := fun _ => True) (okp := fun _ => True) ?hr ?hp (fun _ hk => hk) trivial (Below.refl _ _) (Nat.le_refl _) (by simp) ?_; (case hd => rfl); (case hg => rfl); (case hr => first | (go_simp; done) | (go_simp; rfl)); (case hp => exact (Reps.one (show Kd.M (Kd.int .u8) _ _ _ ((a0_0) % 256) [.int .u8 ((a0_0) % 256)] from rfl) (Reps.one (show Kd.M (Kd.int .u8) _ _ _ ((a0_1) % 256) [.int .u8 ((a0_1) % 256)] from rfl) (Reps.none _ _))))
                                            intro v132 w27 ho28 hb hg_ hnew_;clear hg_ hnew_
                                            (first | rw [← Ny131.out] at ho28 | (simp only [Int.reduceToNat] at ho28; rw [← Ny131.out] at ho28))
                                            have HO133 := Aside0.mk (Kd.R_lower (Kd.R_new' ho28 (Kd.R_lt (mR HO137))) (below_size cB));replace HO137 := eB HO137 (Kd.R_base ho28) hb;replace BK128 := kB BK128 hb;replace BK130 := kB BK130 hb;replace HB := sB hb;clear hb ho28
                                            refine hK.out _ _ qh3x0 (fun hHeld => ?_)
                                            clear hK K;refine normZ (some 16) ?_
                                            exact norm_ nP (hJ6_15_16 (v132, v136) _ ⟨hHeld, (by (with_reducible repeat (first | apply Kd.R_alloc | apply Kd.R_drewN | apply Kd.R_drew)); exact Kd.R_mono HO133.out (fun _ hk => hk.2)), (by (with_reducible repeat (first | apply Kd.R_alloc | apply Kd.R_drewN | apply Kd.R_drew)); exact Kd.R_mono HO137.out (fun _ hk => hk.2)), (mK BK128), (mK BK130), cB⟩)
                                           ·skip
                                            refine goes_ Try.func32 (by kernel_rfl) rfl #[.int .i64 a0_2] (by rfl) rfl rfl (by (try simp only [List.map_toArray, List.map_cons, List.map_nil]); first | done | rfl | (simp only [List.length_drop, List.length_take]; rfl)) ?_
                                            with_reducible refine (spec_l01Var.calls k a0_2 t134 _ A4.out).mono ?_;rintro e w27 ⟨rfl, hb⟩;refine ⟨_, rfl, ?_⟩;replace HO137 := rB HO137 hb;replace BK128 := kB BK128 hb;replace BK130 := kB BK130 hb;replace HB := sB hb;(try clear hb)
                                            refine hK.out _ _ qh3x0 (fun hHeld => ?_)
                                            clear hK K;refine normZ (some 20) ?_
                                            exact norm_ nP (hJ10_15_16 (v136) _ ⟨hHeld, (mR HO137), (mK BK128), (mK BK130), cB⟩)
                                         ·skip;rintro _ w25 ⟨hS_, h0_, h1_, h2_⟩;have n0_ := Aside0.mk h0_;have n1_ := Aside0.mk h1_;have n2_ := Aside0.mk h2_;clear BK128 BK130 HB h0_ h1_ h2_;have BK128 := n0_;have BK130 := n1_;have HB := n2_;clear n0_ n1_ n2_;have hHeld := hS_;refine norm_ (a' := ?_) ?_ ?_;rotate_left
                                          ·simp only [putAll, Act.put, List.setIfInBounds_toArray, List.set_cons_zero, List.set_cons_succ];rfl
                                          refine three_ (i := 6) (j := 15) (k := 24) (Ni := some 16) (Nj := some 25) (Nk := some 34) #[true, true, true, true, true, true, true, false, true, true, true, false, true, true, true, false, false, false, true, true, true, false, true, true, false, false, true, true, false, false, false, false, false, false, false] #[true, true, true, true, true, true, false, false, true, true, true, false, true, true, true, true, false, false, true, true, true, false, true, true, false, false, true, true, false, false, false, false, false, false, false] #[true, true, true, true, true, true, false, false, true, true, true, false, true, true, true, false, false, false, true, true, true, false, true, true, true, false, true, true, false, false, false, false, false, false, false] rfl rfl rfl rfl rfl rfl (three_of HT_.out (by kernel_rfl)) (by decide) (by decide) (by decide) (fun K hK => ?_) (fun K hK => ?_) (fun K hK => ?_)
                                          ·skip
                                           refine Kd.R_lit_step (Kd.int .u8) _ 5 ?hg (N := 16) ?hd (xs := ([(a0_0) % 256, (a0_1) % 256] : List Int)) (inner := [.int .u8 ((a0_0) % 256), .int .u8 ((a0_1) % 256)]) (ok := fun _ => True) (okp := fun _ => True) ?hr ?hp (fun _ hk => hk) trivial (Below.refl _ _) (Nat.le_refl _) (by simp) ?_; (case hd => rfl); (case hg => rfl); (case hr => first | (go_simp; done) | (go_simp; rfl)); (case hp => exact (Reps.one (show Kd.M (Kd.int .u8) _ _ _ ((a0_0) % 256) [.int .u8 ((a0_0) % 256)] from rfl) (Reps.one (show Kd.M (Kd.int .u8) _ _ _ ((a0_1) % 256) [.int .u8 ((a0_1) % 256)] from rfl) (Reps.none _ _))))
                                           intro v132 w26 ho27 hb hg_ hnew_;clear hg_ hnew_
                                           (first | rw [← Ny131.out] at ho27 | (simp only [Int.reduceToNat] at ho27; rw [← Ny131.out] at ho27))
                                           have HO133 := Aside0.mk (Kd.R_lower ho27 (below_size cB));replace BK128 := kB BK128 hb;replace BK130 := kB BK130 hb;replace HB := sB hb;clear hb ho27
                                           refine hK.out _ _ qh3x0 (fun hHeld => ?_)
                                           clear hK K;refine normZ (some 16) ?_
                                           exact norm_ nP (hJ6_10_20 (v132) _ ⟨hHeld, (mR HO133), (mK BK128), (mK BK130), cB⟩)
                                          ·skip
                                           refine Kd.R_lit_step (Kd.int .u8) _ 5 ?hg (N := 25) ?hd (xs := ([(a0_3) % 256] : List Int)) (inner := [.int .u8 ((a0_3) % 256)]) (ok := fun _ => True) (okp := fun _ => True) ?hr ?hp (fun _ hk => hk) trivial (Below.refl _ _) (Nat.le_refl _) (by simp) ?_; (case hd => rfl); (case hg => rfl); (case hr => first | (go_simp; done) | (go_simp; rfl)); (case hp => exact (Reps.one (show Kd.M (Kd.int .u8) _ _ _ ((a0_3) % 256) [.int .u8 ((a0_3) % 256)] from rfl) (Reps.none _ _)))
                                           intro v136 w26 ho27 hb hg_ hnew_;clear hg_ hnew_
                                           (first | rw [← Ny135.out] at ho27 | (simp only [Int.reduceToNat] at ho27; rw [← Ny135.out] at ho27))
                                           have HO137 := Aside0.mk (Kd.R_lower ho27 (below_size cB));replace BK128 := kB BK128 hb;replace BK130 := kB BK130 hb;replace HB := sB hb;clear hb ho27
                                           refine hK.out _ _ qh3x0 (fun hHeld => ?_)
                                           clear hK K;refine normZ (some 25) ?_
                                           exact norm_ nP (hJ10_15_20 (v136) _ ⟨hHeld, (mR HO137), (mK BK128), (mK BK130), cB⟩)
                                          ·skip
                                           refine goes_ Try.func33 (by kernel_rfl) rfl #[.int .i64 a0_5] (by rfl) rfl rfl (by (try simp only [List.map_toArray, List.map_cons, List.map_nil]); first | done | rfl | (simp only [List.length_drop, List.length_take]; rfl)) ?_
                                           with_reducible refine (spec_l06Four.calls a0_5 t139 _ A9.out).mono ?_;rintro e w26 ⟨rfl, hb⟩;refine ⟨_, rfl, ?_⟩;replace BK128 := kB BK128 hb;replace BK130 := kB BK130 hb;replace HB := sB hb;(try clear hb)
                                           refine hK.out _ _ qh3x0 (fun hHeld => ?_)
                                           clear hK K;refine normZ (some 34) ?_
                                           exact norm_ nP (hJ10_20_24 () _ ⟨hHeld, (mK BK128), (mK BK130), cB⟩)
                                        ·skip;rintro v136 w26 ⟨hS_, h0_, h1_, h2_, h3_⟩
                                         have n0_ : Aside0 (Kd.R (Kd.int .u8) 5 w26 w.heap.size (fun _ => True) v136 y135) := ⟨h0_⟩
                                         have n1_ := Aside0.mk h1_;have n2_ := Aside0.mk h2_;have n3_ := Aside0.mk h3_;clear BK128 BK130 HB h0_ h1_ h2_ h3_;have HO137 := n0_;have BK128 := n1_;have BK130 := n2_;have HB := n3_;clear n0_ n1_ n2_ n3_;have hHeld := hS_;refine norm_ (a' := ?_) ?_ ?_;rotate_left
                                         ·simp only [putAll, Act.put, List.setIfInBounds_toArray, List.set_cons_zero, List.set_cons_succ];rfl
                                         refine three_ (i := 6) (j := 16) (k := 20) (Ni := some 16) (Nj := some 26) (Nk := some 30) #[true, true, true, true, true, true, true, false, true, true, true, false, true, true, true, true, false, false, true, true, false, false, true, true, false, false, true, true, false, false, false, false, false, false, false] #[true, true, true, true, true, true, false, false, true, true, true, false, true, true, true, true, true, false, true, true, false, false, true, true, false, false, true, true, false, false, false, false, false, false, false] #[true, true, true, true, true, true, false, false, true, true, true, false, true, true, true, true, false, false, true, true, true, false, true, true, false, false, true, true, false, false, false, false, false, false, false] rfl rfl rfl rfl rfl rfl (three_of HT_.out (by kernel_rfl)) (by decide) (by decide) (by decide) (fun K hK => ?_) (fun K hK => ?_) (fun K hK => ?_)
                                         ·skip
                                          refine Kd.R_lit_step (Kd.int .u8) _ 5 ?hg (N := 16) ?hd (xs := ([(a0_0) % 256, (a0_1) % 256] : List Int)) (inner := [.int .u8 ((a0_0) % 256), .int .u8 ((a0_1) % 256)]) (ok := fun _ => True) (okp := fun _ => True) ?hr ?hp (fun _ hk => hk) trivial (Below.refl _ _) (Nat.le_refl _) (by simp) ?_; (case hd => rfl); (case hg => rfl); (case hr => first | (go_simp; done) | (go_simp; rfl)); (case hp => exact (Reps.one (show Kd.M (Kd.int .u8) _ _ _ ((a0_0) % 256) [.int .u8 ((a0_0) % 256)] from rfl) (Reps.one (show Kd.M (Kd.int .u8) _ _ _ ((a0_1) % 256) [.int .u8 ((a0_1) % 256)] from rfl) (Reps.none _ _))))
                                          intro v132 w27 ho28 hb hg_ hnew_;clear hg_ hnew_
                                          (first | rw [← Ny131.out] at ho28 | (simp only [Int.reduceToNat] at ho28; rw [← Ny131.out] at ho28))
                                          have HO133 := Aside0.mk (Kd.R_lower (Kd.R_new' ho28 (Kd.R_lt (mR HO137))) (below_size cB));replace HO137 := eB HO137 (Kd.R_base ho28) hb;replace BK128 := kB BK128 hb;replace BK130 := kB BK130 hb;replace HB := sB hb;clear hb ho28
                                          refine hK.out _ _ qh3x0 (fun hHeld => ?_)
                                          clear hK K;refine normZ (some 16) ?_
                                          exact norm_ nP (hJ6_10_15 (v132, v136) _ ⟨hHeld, (by (with_reducible repeat (first | apply Kd.R_alloc | apply Kd.R_drewN | apply Kd.R_drew)); exact Kd.R_mono HO133.out (fun _ hk => hk.2)), (by (with_reducible repeat (first | apply Kd.R_alloc | apply Kd.R_drewN | apply Kd.R_drew)); exact Kd.R_mono HO137.out (fun _ hk => hk.2)), (mK BK128), (mK BK130), cB⟩)
                                         ·skip;have hcv27 := own_string (P := Try.prog) Try.underlying65 Try.underlying5 Try.underlying9 (Kd.own_of_R HO137.out)
                                          refine value_ (w1 := ?_) (v := ?_) (by rfl) rfl ?_ ?_
                                          rotate_left 2
                                          ·go_simp;constructor
                                           ·rfl
                                           ·rfl
                                          clear hcv27
                                          refine hK.out _ _ qh3x0 (fun hHeld => ?_)
                                          clear hK K;refine normZ (some 26) ?_
                                          exact norm_ nP (hJ10_15_16 (v136) _ ⟨hHeld, (mR HO137), (mK BK128), (mK BK130), cB⟩)
                                         ·skip
                                          refine goes_ Try.func33 (by kernel_rfl) rfl #[.int .i64 a0_4] (by rfl) rfl rfl (by (try simp only [List.map_toArray, List.map_cons, List.map_nil]); first | done | rfl | (simp only [List.length_drop, List.length_take]; rfl)) ?_
                                          with_reducible refine (spec_l06Four.calls a0_4 t138 _ A7.out).mono ?_;rintro e w27 ⟨rfl, hb⟩;refine ⟨_, rfl, ?_⟩;replace HO137 := rB HO137 hb;replace BK128 := kB BK128 hb;replace BK130 := kB BK130 hb;replace HB := sB hb;(try clear hb)
                                          refine hK.out _ _ qh3x0 (fun hHeld => ?_)
                                          clear hK K;refine normZ (some 30) ?_
                                          exact norm_ nP (hJ10_15_20 (v136) _ ⟨hHeld, (mR HO137), (mK BK128), (mK BK130), cB⟩)
                                       ·skip;rintro ⟨v132, v136⟩ w27 ⟨hS_, h0_, h1_, h2_, h3_, h4_⟩
                                        have n0_ : Aside0 (Kd.R (Kd.int .u8) 5 w27 w.heap.size (fun k_ => some k_ ≠ (v136 : Value).ownBlock) v132 y131) := ⟨h0_⟩
                                        have n1_ : Aside0 (Kd.R (Kd.int .u8) 5 w27 w.heap.size (fun k_ => some k_ ≠ (v132 : Value).ownBlock) v136 y135) := ⟨h1_⟩
                                        have n2_ := Aside0.mk h2_;have n3_ := Aside0.mk h3_;have n4_ := Aside0.mk h4_;clear BK128 BK130 HB h0_ h1_ h2_ h3_ h4_;have HO133 := n0_;have HO137 := n1_;have BK128 := n2_;have BK130 := n3_;have HB := n4_;clear n0_ n1_ n2_ n3_ n4_;have hHeld := hS_;refine norm_ (a' := ?_) ?_ ?_;rotate_left
                                        ·simp only [putAll, Act.put, List.setIfInBounds_toArray, List.set_cons_zero, List.set_cons_succ];rfl
                                        refine three_ (i := 7) (j := 10) (k := 16) (Ni := some 17) (Nj := some 20) (Nk := some 26) #[true, true, true, true, true, true, true, true, true, true, false, false, true, true, true, true, false, false, true, true, false, false, true, true, false, false, true, true, false, false, false, false, false, false, false] #[true, true, true, true, true, true, true, false, true, true, true, false, true, true, true, true, false, false, true, true, false, false, true, true, false, false, true, true, false, false, false, false, false, false, false] #[true, true, true, true, true, true, true, false, true, true, false, false, true, true, true, true, true, false, true, true, false, false, true, true, false, false, true, true, false, false, false, false, false, false, false] rfl rfl rfl rfl rfl rfl (three_of HT_.out (by kernel_rfl)) (by decide) (by decide) (by decide) (fun K hK => ?_) (fun K hK => ?_) (fun K hK => ?_)
                                        ·skip;have hcv28 := own_string (P := Try.prog) Try.underlying65 Try.underlying5 Try.underlying9 (Kd.own_of_R HO133.out)
                                         refine value_ (w1 := ?_) (v := ?_) (by rfl) rfl ?_ ?_
                                         rotate_left 2
                                         ·go_simp;constructor
                                          ·rfl
                                          ·rfl
                                         clear hcv28
                                         refine hK.out _ _ qh3x0 (fun hHeld => ?_)
                                         clear hK K;refine normZ (some 17) ?_
                                         exact norm_ nP (hJ6_7_15 (v132, v136) _ ⟨hHeld, (mR HO133), (mR HO137), (mK BK128), (mK BK130), cB⟩)
                                        ·skip
                                         refine goes_ Try.func32 (by kernel_rfl) rfl #[.int .i64 a0_2] (by rfl) rfl rfl (by (try simp only [List.map_toArray, List.map_cons, List.map_nil]); first | done | rfl | (simp only [List.length_drop, List.length_take]; rfl)) ?_
                                         with_reducible refine (spec_l01Var.calls k a0_2 t134 _ A4.out).mono ?_;rintro e w28 ⟨rfl, hb⟩;refine ⟨_, rfl, ?_⟩;replace HO133 := rB HO133 hb;replace HO137 := rB HO137 hb;replace BK128 := kB BK128 hb;replace BK130 := kB BK130 hb;replace HB := sB hb;(try clear hb)
                                         refine hK.out _ _ qh3x0 (fun hHeld => ?_)
                                         clear hK K;refine normZ (some 20) ?_
                                         exact norm_ nP (hJ6_10_15 (v132, v136) _ ⟨hHeld, (mR HO133), (mR HO137), (mK BK128), (mK BK130), cB⟩)
                                        ·skip;have hcv28 := own_string (P := Try.prog) Try.underlying65 Try.underlying5 Try.underlying9 (Kd.own_of_R HO137.out)
                                         refine value_ (w1 := ?_) (v := ?_) (by rfl) rfl ?_ ?_
                                         rotate_left 2
                                         ·go_simp;constructor
                                          ·rfl
                                          ·rfl
                                         clear hcv28
                                         refine hK.out _ _ qh3x0 (fun hHeld => ?_)
                                         clear hK K;refine normZ (some 26) ?_
                                         exact norm_ nP (hJ6_15_16 (v132, v136) _ ⟨hHeld, (mR HO133), (mR HO137), (mK BK128), (mK BK130), cB⟩)
                                      ·skip;rintro v132 w26 ⟨hS_, h0_, h1_, h2_, h3_⟩
                                       have n0_ : Aside0 (Kd.R (Kd.int .u8) 5 w26 w.heap.size (fun _ => True) v132 y131) := ⟨h0_⟩
                                       have n1_ := Aside0.mk h1_;have n2_ := Aside0.mk h2_;have n3_ := Aside0.mk h3_;clear BK128 BK130 HB h0_ h1_ h2_ h3_;have HO133 := n0_;have BK128 := n1_;have BK130 := n2_;have HB := n3_;clear n0_ n1_ n2_ n3_;have hHeld := hS_;refine norm_ (a' := ?_) ?_ ?_;rotate_left
                                       ·simp only [putAll, Act.put, List.setIfInBounds_toArray, List.set_cons_zero, List.set_cons_succ];rfl
                                       refine three_ (i := 7) (j := 15) (k := 20) (Ni := some 17) (Nj := some 25) (Nk := some 30) #[true, true, true, true, true, true, true, true, true, true, true, false, true, true, true, false, false, false, true, true, false, false, true, true, false, false, true, true, false, false, false, false, false, false, false] #[true, true, true, true, true, true, true, false, true, true, true, false, true, true, true, true, false, false, true, true, false, false, true, true, false, false, true, true, false, false, false, false, false, false, false] #[true, true, true, true, true, true, true, false, true, true, true, false, true, true, true, false, false, false, true, true, true, false, true, true, false, false, true, true, false, false, false, false, false, false, false] rfl rfl rfl rfl rfl rfl (three_of HT_.out (by kernel_rfl)) (by decide) (by decide) (by decide) (fun K hK => ?_) (fun K hK => ?_) (fun K hK => ?_)
                                       ·skip;have hcv27 := own_string (P := Try.prog) Try.underlying65 Try.underlying5 Try.underlying9 (Kd.own_of_R HO133.out)
                                        refine value_ (w1 := ?_) (v := ?_) (by rfl) rfl ?_ ?_
                                        rotate_left 2
                                        ·go_simp;constructor
                                         ·rfl
                                         ·rfl
                                        clear hcv27
                                        refine hK.out _ _ qh3x0 (fun hHeld => ?_)
                                        clear hK K;refine normZ (some 17) ?_
                                        refine pureZ 11 (some 21) (msk 35 214728703) HT_.out ?_
                                        exact norm_ nP (hJ6_7_10 (v132) _ ⟨hHeld, (mR HO133), (mK BK128), (mK BK130), cB⟩)
                                       ·skip
                                        refine Kd.R_lit_step (Kd.int .u8) _ 5 ?hg (N := 25) ?hd (xs := ([(a0_3) % 256] : List Int)) (inner := [.int .u8 ((a0_3) % 256)]) (ok := fun _ => True) (okp := fun _ => True) ?hr ?hp (fun _ hk => hk) trivial (Below.refl _ _) (Nat.le_refl _) (by simp) ?_; (case hd => rfl); (case hg => rfl); (case hr => first | (go_simp; done) | (go_simp; rfl)); (case hp => exact (Reps.one (show Kd.M (Kd.int .u8) _ _ _ ((a0_3) % 256) [.int .u8 ((a0_3) % 256)] from rfl) (Reps.none _ _)))
                                        intro v136 w27 ho28 hb hg_ hnew_;clear hg_ hnew_
                                        (first | rw [← Ny135.out] at ho28 | (simp only [Int.reduceToNat] at ho28; rw [← Ny135.out] at ho28))
                                        have HO137 := Aside0.mk (Kd.R_lower (Kd.R_new' ho28 (Kd.R_lt (mR HO133))) (below_size cB));replace HO133 := eB HO133 (Kd.R_base ho28) hb;replace BK128 := kB BK128 hb;replace BK130 := kB BK130 hb;replace HB := sB hb;clear hb ho28
                                        refine hK.out _ _ qh3x0 (fun hHeld => ?_)
                                        clear hK K;refine normZ (some 25) ?_
                                        exact norm_ nP (hJ6_10_15 (v132, v136) _ ⟨hHeld, (by (with_reducible repeat (first | apply Kd.R_alloc | apply Kd.R_drewN | apply Kd.R_drew)); exact Kd.R_mono HO133.out (fun _ hk => hk.2)), (by (with_reducible repeat (first | apply Kd.R_alloc | apply Kd.R_drewN | apply Kd.R_drew)); exact Kd.R_mono HO137.out (fun _ hk => hk.2)), (mK BK128), (mK BK130), cB⟩)
                                       ·skip
                                        refine goes_ Try.func33 (by kernel_rfl) rfl #[.int .i64 a0_4] (by rfl) rfl rfl (by (try simp only [List.map_toArray, List.map_cons, List.map_nil]); first | done | rfl | (simp only [List.length_drop, List.length_take]; rfl)) ?_
                                        with_reducible refine (spec_l06Four.calls a0_4 t138 _ A7.out).mono ?_;rintro e w27 ⟨rfl, hb⟩;refine ⟨_, rfl, ?_⟩;replace HO133 := rB HO133 hb;replace BK128 := kB BK128 hb;replace BK130 := kB BK130 hb;replace HB := sB hb;(try clear hb)
                                        refine hK.out _ _ qh3x0 (fun hHeld => ?_)
                                        clear hK K;refine normZ (some 30) ?_
                                        exact norm_ nP (hJ6_10_20 (v132) _ ⟨hHeld, (mR HO133), (mK BK128), (mK BK130), cB⟩)
                                     ·skip;rintro v132 w26 ⟨hS_, h0_, h1_, h2_, h3_⟩
                                      have n0_ : Aside0 (Kd.R (Kd.int .u8) 5 w26 w.heap.size (fun _ => True) v132 y131) := ⟨h0_⟩
                                      have n1_ := Aside0.mk h1_;have n2_ := Aside0.mk h2_;have n3_ := Aside0.mk h3_;clear BK128 BK130 HB h0_ h1_ h2_ h3_;have HO133 := n0_;have BK128 := n1_;have BK130 := n2_;have HB := n3_;clear n0_ n1_ n2_ n3_;have hHeld := hS_;refine norm_ (a' := ?_) ?_ ?_;rotate_left
                                      ·simp only [putAll, Act.put, List.setIfInBounds_toArray, List.set_cons_zero, List.set_cons_succ];rfl
                                      refine two_ (i := 10) (j := 15) (Ni := some 20) (Nj := some 25) #[true, true, true, true, true, true, true, true, true, true, true, false, true, true, true, false, false, false, true, true, false, false, true, true, false, false, true, true, false, false, false, false, false, false, false] #[true, true, true, true, true, true, true, true, true, true, false, false, true, true, true, true, false, false, true, true, false, false, true, true, false, false, true, true, false, false, false, false, false, false, false] rfl rfl rfl rfl (two_of HT_.out (by kernel_rfl)) (by decide) (by decide) (fun K hK => ?_) (fun K hK => ?_)
                                      ·skip
                                       refine goes_ Try.func32 (by kernel_rfl) rfl #[.int .i64 a0_2] (by rfl) rfl rfl (by (try simp only [List.map_toArray, List.map_cons, List.map_nil]); first | done | rfl | (simp only [List.length_drop, List.length_take]; rfl)) ?_
                                       with_reducible refine (spec_l01Var.calls k a0_2 t134 _ A4.out).mono ?_;rintro e w27 ⟨rfl, hb⟩;refine ⟨_, rfl, ?_⟩;replace HO133 := rB HO133 hb;replace BK128 := kB BK128 hb;replace BK130 := kB BK130 hb;replace HB := sB hb;(try clear hb)
                                       refine hK.out _ _ qh3x0 (fun hHeld => ?_)
                                       clear hK K;refine normZ (some 20) ?_
                                       refine pureZ 11 (some 21) (msk 35 214728703) HT_.out ?_
                                       exact norm_ nP (hJ6_7_10 (v132) _ ⟨hHeld, (mR HO133), (mK BK128), (mK BK130), cB⟩)
                                      ·skip
                                       refine Kd.R_lit_step (Kd.int .u8) _ 5 ?hg (N := 25) ?hd (xs := ([(a0_3) % 256] : List Int)) (inner := [.int .u8 ((a0_3) % 256)]) (ok := fun _ => True) (okp := fun _ => True) ?hr ?hp (fun _ hk => hk) trivial (Below.refl _ _) (Nat.le_refl _) (by simp) ?_; (case hd => rfl); (case hg => rfl); (case hr => first | (go_simp; done) | (go_simp; rfl)); (case hp => exact (Reps.one (show Kd.M (Kd.int .u8) _ _ _ ((a0_3) % 256) [.int .u8 ((a0_3) % 256)] from rfl) (Reps.none _ _)))
                                       intro v136 w27 ho28 hb hg_ hnew_;clear hg_ hnew_
                                       (first | rw [← Ny135.out] at ho28 | (simp only [Int.reduceToNat] at ho28; rw [← Ny135.out] at ho28))
                                       have HO137 := Aside0.mk (Kd.R_lower (Kd.R_new' ho28 (Kd.R_lt (mR HO133))) (below_size cB));replace HO133 := eB HO133 (Kd.R_base ho28) hb;replace BK128 := kB BK128 hb;replace BK130 := kB BK130 hb;replace HB := sB hb;clear hb ho28
                                       refine hK.out _ _ qh3x0 (fun hHeld => ?_)
                                       clear hK K;refine normZ (some 25) ?_
                                       exact norm_ nP (hJ6_7_15 (v132, v136) _ ⟨hHeld, (by (with_reducible repeat (first | apply Kd.R_alloc | apply Kd.R_drewN | apply Kd.R_drew)); exact Kd.R_mono HO133.out (fun _ hk => hk.2)), (by (with_reducible repeat (first | apply Kd.R_alloc | apply Kd.R_drewN | apply Kd.R_drew)); exact Kd.R_mono HO137.out (fun _ hk => hk.2)), (mK BK128), (mK BK130), cB⟩)
                                    ·skip;rintro _ w26 ⟨hS_, h0_, h1_, h2_⟩;have n0_ := Aside0.mk h0_;have n1_ := Aside0.mk h1_;have n2_ := Aside0.mk h2_;clear BK128 BK130 HB h0_ h1_ h2_;have BK128 := n0_;have BK130 := n1_;have HB := n2_;clear n0_ n1_ n2_;have hHeld := hS_;refine norm_ (a' := ?_) ?_ ?_;rotate_left
                                     ·simp only [putAll, Act.put, List.setIfInBounds_toArray, List.set_cons_zero, List.set_cons_succ];rfl
                                     refine three_ (i := 6) (j := 15) (k := 28) (Ni := some 16) (Nj := some 25) (Nk := some 38) #[true, true, true, true, true, true, true, false, true, true, true, false, true, true, true, false, false, false, true, true, true, false, true, true, true, false, true, true, false, false, false, false, false, false, false] #[true, true, true, true, true, true, false, false, true, true, true, false, true, true, true, true, false, false, true, true, true, false, true, true, true, false, true, true, false, false, false, false, false, false, false] #[true, true, true, true, true, true, false, false, true, true, true, false, true, true, true, false, false, false, true, true, true, false, true, true, true, false, true, true, true, false, false, false, false, false, false] rfl rfl rfl rfl rfl rfl (three_of HT_.out (by kernel_rfl)) (by decide) (by decide) (by decide) (fun K hK => ?_) (fun K hK => ?_) (fun K hK => ?_)
                                     ·skip
                                      refine Kd.R_lit_step (Kd.int .u8) _ 5 ?hg (N := 16) ?hd (xs := ([(a0_0) % 256, (a0_1) % 256] : List Int)) (inner := [.int .u8 ((a0_0) % 256), .int .u8 ((a0_1) % 256)]) (ok := fun _ => True) (okp := fun _ => True) ?hr ?hp (fun _ hk => hk) trivial (Below.refl _ _) (Nat.le_refl _) (by simp) ?_; (case hd => rfl); (case hg => rfl); (case hr => first | (go_simp; done) | (go_simp; rfl)); (case hp => exact (Reps.one (show Kd.M (Kd.int .u8) _ _ _ ((a0_0) % 256) [.int .u8 ((a0_0) % 256)] from rfl) (Reps.one (show Kd.M (Kd.int .u8) _ _ _ ((a0_1) % 256) [.int .u8 ((a0_1) % 256)] from rfl) (Reps.none _ _))))
                                      intro v132 w27 ho28 hb hg_ hnew_;clear hg_ hnew_
                                      (first | rw [← Ny131.out] at ho28 | (simp only [Int.reduceToNat] at ho28; rw [← Ny131.out] at ho28))
                                      have HO133 := Aside0.mk (Kd.R_lower ho28 (below_size cB));replace BK128 := kB BK128 hb;replace BK130 := kB BK130 hb;replace HB := sB hb;clear hb ho28
                                      refine hK.out _ _ qh3x0 (fun hHeld => ?_)
                                      clear hK K;refine normZ (some 16) ?_
                                      exact norm_ nP (hJ6_10_20_24 (v132) _ ⟨hHeld, (mR HO133), (mK BK128), (mK BK130), cB⟩)
                                     ·skip
                                      refine Kd.R_lit_step (Kd.int .u8) _ 5 ?hg (N := 25) ?hd (xs := ([(a0_3) % 256] : List Int)) (inner := [.int .u8 ((a0_3) % 256)]) (ok := fun _ => True) (okp := fun _ => True) ?hr ?hp (fun _ hk => hk) trivial (Below.refl _ _) (Nat.le_refl _) (by simp) ?_; (case hd => rfl); (case hg => rfl); (case hr => first | (go_simp; done) | (go_simp; rfl)); (case hp => exact (Reps.one (show Kd.M (Kd.int .u8) _ _ _ ((a0_3) % 256) [.int .u8 ((a0_3) % 256)] from rfl) (Reps.none _ _)))
                                      intro v136 w27 ho28 hb hg_ hnew_;clear hg_ hnew_
                                      (first | rw [← Ny135.out] at ho28 | (simp only [Int.reduceToNat] at ho28; rw [← Ny135.out] at ho28))
                                      have HO137 := Aside0.mk (Kd.R_lower ho28 (below_size cB));replace BK128 := kB BK128 hb;replace BK130 := kB BK130 hb;replace HB := sB hb;clear hb ho28
                                      refine hK.out _ _ qh3x0 (fun hHeld => ?_)
                                      clear hK K;refine normZ (some 25) ?_
                                      exact norm_ nP (hJ10_15_20_24 (v136) _ ⟨hHeld, (mR HO137), (mK BK128), (mK BK130), cB⟩)
                                     ·skip
                                      refine goes_ Try.func32 (by kernel_rfl) rfl #[.int .i64 a0_6] (by rfl) rfl rfl (by (try simp only [List.map_toArray, List.map_cons, List.map_nil]); first | done | rfl | (simp only [List.length_drop, List.length_take]; rfl)) ?_
                                      with_reducible refine (spec_l01Var.calls k a0_6 t140 _ A11.out).mono ?_;rintro e w27 ⟨rfl, hb⟩;refine ⟨_, rfl, ?_⟩;replace BK128 := kB BK128 hb;replace BK130 := kB BK130 hb;replace HB := sB hb;(try clear hb)
                                      refine hK.out _ _ qh3x0 (fun hHeld => ?_)
                                      clear hK K;refine normZ (some 38) ?_
                                      exact norm_ nP (hJ10_20_24_28 () _ ⟨hHeld, (mK BK128), (mK BK130), cB⟩)
                                   ·skip;rintro v136 w27 ⟨hS_, h0_, h1_, h2_, h3_⟩
                                    have n0_ : Aside0 (Kd.R (Kd.int .u8) 5 w27 w.heap.size (fun _ => True) v136 y135) := ⟨h0_⟩
                                    have n1_ := Aside0.mk h1_;have n2_ := Aside0.mk h2_;have n3_ := Aside0.mk h3_;clear BK128 BK130 HB h0_ h1_ h2_ h3_;have HO137 := n0_;have BK128 := n1_;have BK130 := n2_;have HB := n3_;clear n0_ n1_ n2_ n3_;have hHeld := hS_;refine norm_ (a' := ?_) ?_ ?_;rotate_left
                                    ·simp only [putAll, Act.put, List.setIfInBounds_toArray, List.set_cons_zero, List.set_cons_succ];rfl
                                    refine three_ (i := 6) (j := 16) (k := 24) (Ni := some 16) (Nj := some 26) (Nk := some 34) #[true, true, true, true, true, true, true, false, true, true, true, false, true, true, true, true, false, false, true, true, true, false, true, true, false, false, true, true, false, false, false, false, false, false, false] #[true, true, true, true, true, true, false, false, true, true, true, false, true, true, true, true, true, false, true, true, true, false, true, true, false, false, true, true, false, false, false, false, false, false, false] #[true, true, true, true, true, true, false, false, true, true, true, false, true, true, true, true, false, false, true, true, true, false, true, true, true, false, true, true, false, false, false, false, false, false, false] rfl rfl rfl rfl rfl rfl (three_of HT_.out (by kernel_rfl)) (by decide) (by decide) (by decide) (fun K hK => ?_) (fun K hK => ?_) (fun K hK => ?_)
                                    ·skip
                                     refine Kd.R_lit_step (Kd.int .u8) _ 5 ?hg (N := 16) ?hd (xs := ([(a0_0) % 256, (a0_1) % 256] : List Int)) (inner := [.int .u8 ((a0_0) % 256), .int .u8 ((a0_1) % 256)]) (ok := fun _ => True) (okp := fun _ => True) ?hr ?hp (fun _ hk => hk) trivial (Below.refl _ _) (Nat.le_refl _) (by simp) ?_; (case hd => rfl); (case hg => rfl); (case hr => first | (go_simp; done) | (go_simp; rfl)); (case hp => exact (Reps.one (show Kd.M (Kd.int .u8) _ _ _ ((a0_0) % 256) [.int .u8 ((a0_0) % 256)] from rfl) (Reps.one (show Kd.M (Kd.int .u8) _ _ _ ((a0_1) % 256) [.int .u8 ((a0_1) % 256)] from rfl) (Reps.none _ _))))
                                     intro v132 w28 ho29 hb hg_ hnew_;clear hg_ hnew_
                                     (first | rw [← Ny131.out] at ho29 | (simp only [Int.reduceToNat] at ho29; rw [← Ny131.out] at ho29))
                                     have HO133 := Aside0.mk (Kd.R_lower (Kd.R_new' ho29 (Kd.R_lt (mR HO137))) (below_size cB));replace HO137 := eB HO137 (Kd.R_base ho29) hb;replace BK128 := kB BK128 hb;replace BK130 := kB BK130 hb;replace HB := sB hb;clear hb ho29
                                     refine hK.out _ _ qh3x0 (fun hHeld => ?_)
                                     clear hK K;refine normZ (some 16) ?_
                                     exact norm_ nP (hJ6_10_15_20 (v132, v136) _ ⟨hHeld, (by (with_reducible repeat (first | apply Kd.R_alloc | apply Kd.R_drewN | apply Kd.R_drew)); exact Kd.R_mono HO133.out (fun _ hk => hk.2)), (by (with_reducible repeat (first | apply Kd.R_alloc | apply Kd.R_drewN | apply Kd.R_drew)); exact Kd.R_mono HO137.out (fun _ hk => hk.2)), (mK BK128), (mK BK130), cB⟩)
                                    ·skip;have hcv28 := own_string (P := Try.prog) Try.underlying65 Try.underlying5 Try.underlying9 (Kd.own_of_R HO137.out)
                                     refine value_ (w1 := ?_) (v := ?_) (by rfl) rfl ?_ ?_
                                     rotate_left 2
                                     ·go_simp;constructor
                                      ·rfl
                                      ·rfl
                                     clear hcv28
                                     refine hK.out _ _ qh3x0 (fun hHeld => ?_)
                                     clear hK K;refine normZ (some 26) ?_
                                     exact norm_ nP (hJ10_15_16_20 (v136) _ ⟨hHeld, (mR HO137), (mK BK128), (mK BK130), cB⟩)
                                    ·skip
                                     refine goes_ Try.func33 (by kernel_rfl) rfl #[.int .i64 a0_5] (by rfl) rfl rfl (by (try simp only [List.map_toArray, List.map_cons, List.map_nil]); first | done | rfl | (simp only [List.length_drop, List.length_take]; rfl)) ?_
                                     with_reducible refine (spec_l06Four.calls a0_5 t139 _ A9.out).mono ?_;rintro e w28 ⟨rfl, hb⟩;refine ⟨_, rfl, ?_⟩;replace HO137 := rB HO137 hb;replace BK128 := kB BK128 hb;replace BK130 := kB BK130 hb;replace HB := sB hb;(try clear hb)
                                     refine hK.out _ _ qh3x0 (fun hHeld => ?_)
                                     clear hK K;refine normZ (some 34) ?_
                                     exact norm_ nP (hJ10_15_20_24 (v136) _ ⟨hHeld, (mR HO137), (mK BK128), (mK BK130), cB⟩)
                                  ·skip;rintro v136 w27 ⟨hS_, h0_, h1_, h2_, h3_⟩
                                   have n0_ : Aside0 (Kd.R (Kd.int .u8) 5 w27 w.heap.size (fun _ => True) v136 y135) := ⟨h0_⟩
                                   have n1_ := Aside0.mk h1_;have n2_ := Aside0.mk h2_;have n3_ := Aside0.mk h3_;clear BK128 BK130 HB h0_ h1_ h2_ h3_;have HO137 := n0_;have BK128 := n1_;have BK130 := n2_;have HB := n3_;clear n0_ n1_ n2_ n3_;have hHeld := hS_;refine norm_ (a' := ?_) ?_ ?_;rotate_left
                                   ·simp only [putAll, Act.put, List.setIfInBounds_toArray, List.set_cons_zero, List.set_cons_succ];rfl
                                   refine two_ (i := 6) (j := 20) (Ni := some 16) (Nj := some 30) #[true, true, true, true, true, true, true, false, true, true, true, false, true, true, true, true, true, false, true, true, false, false, true, true, false, false, true, true, false, false, false, false, false, false, false] #[true, true, true, true, true, true, false, false, true, true, true, false, true, true, true, true, true, false, true, true, true, false, true, true, false, false, true, true, false, false, false, false, false, false, false] rfl rfl rfl rfl (two_of HT_.out (by kernel_rfl)) (by decide) (by decide) (fun K hK => ?_) (fun K hK => ?_)
                                   ·skip
                                    refine Kd.R_lit_step (Kd.int .u8) _ 5 ?hg (N := 16) ?hd (xs := ([(a0_0) % 256, (a0_1) % 256] : List Int)) (inner := [.int .u8 ((a0_0) % 256), .int .u8 ((a0_1) % 256)]) (ok := fun _ => True) (okp := fun _ => True) ?hr ?hp (fun _ hk => hk) trivial (Below.refl _ _) (Nat.le_refl _) (by simp) ?_; (case hd => rfl); (case hg => rfl); (case hr => first | (go_simp; done) | (go_simp; rfl)); (case hp => exact (Reps.one (show Kd.M (Kd.int .u8) _ _ _ ((a0_0) % 256) [.int .u8 ((a0_0) % 256)] from rfl) (Reps.one (show Kd.M (Kd.int .u8) _ _ _ ((a0_1) % 256) [.int .u8 ((a0_1) % 256)] from rfl) (Reps.none _ _))))
                                    intro v132 w28 ho29 hb hg_ hnew_;clear hg_ hnew_
                                    (first | rw [← Ny131.out] at ho29 | (simp only [Int.reduceToNat] at ho29; rw [← Ny131.out] at ho29))
                                    have HO133 := Aside0.mk (Kd.R_lower (Kd.R_new' ho29 (Kd.R_lt (mR HO137))) (below_size cB));replace HO137 := eB HO137 (Kd.R_base ho29) hb;replace BK128 := kB BK128 hb;replace BK130 := kB BK130 hb;replace HB := sB hb;clear hb ho29
                                    refine hK.out _ _ qh3x0 (fun hHeld => ?_)
                                    clear hK K;refine normZ (some 16) ?_
                                    exact norm_ nP (hJ6_10_15_16 (v132, v136) _ ⟨hHeld, (by (with_reducible repeat (first | apply Kd.R_alloc | apply Kd.R_drewN | apply Kd.R_drew)); exact Kd.R_mono HO133.out (fun _ hk => hk.2)), (by (with_reducible repeat (first | apply Kd.R_alloc | apply Kd.R_drewN | apply Kd.R_drew)); exact Kd.R_mono HO137.out (fun _ hk => hk.2)), (mK BK128), (mK BK130), cB⟩)
                                   ·skip
                                    refine goes_ Try.func33 (by kernel_rfl) rfl #[.int .i64 a0_4] (by rfl) rfl rfl (by (try simp only [List.map_toArray, List.map_cons, List.map_nil]); first | done | rfl | (simp only [List.length_drop, List.length_take]; rfl)) ?_
                                    with_reducible refine (spec_l06Four.calls a0_4 t138 _ A7.out).mono ?_;rintro e w28 ⟨rfl, hb⟩;refine ⟨_, rfl, ?_⟩;replace HO137 := rB HO137 hb;replace BK128 := kB BK128 hb;replace BK130 := kB BK130 hb;replace HB := sB hb;(try clear hb)
                                    refine hK.out _ _ qh3x0 (fun hHeld => ?_)
                                    clear hK K;refine normZ (some 30) ?_
                                    exact norm_ nP (hJ10_15_16_20 (v136) _ ⟨hHeld, (mR HO137), (mK BK128), (mK BK130), cB⟩)
                                 ·skip;rintro ⟨v132, v136⟩ w28 ⟨hS_, h0_, h1_, h2_, h3_, h4_⟩
                                  have n0_ : Aside0 (Kd.R (Kd.int .u8) 5 w28 w.heap.size (fun k_ => some k_ ≠ (v136 : Value).ownBlock) v132 y131) := ⟨h0_⟩
                                  have n1_ : Aside0 (Kd.R (Kd.int .u8) 5 w28 w.heap.size (fun k_ => some k_ ≠ (v132 : Value).ownBlock) v136 y135) := ⟨h1_⟩
                                  have n2_ := Aside0.mk h2_;have n3_ := Aside0.mk h3_;have n4_ := Aside0.mk h4_;clear BK128 BK130 HB h0_ h1_ h2_ h3_ h4_;have HO133 := n0_;have HO137 := n1_;have BK128 := n2_;have BK130 := n3_;have HB := n4_;clear n0_ n1_ n2_ n3_ n4_;have hHeld := hS_;refine norm_ (a' := ?_) ?_ ?_;rotate_left
                                  ·simp only [putAll, Act.put, List.setIfInBounds_toArray, List.set_cons_zero, List.set_cons_succ];rfl
                                  refine two_ (i := 7) (j := 10) (Ni := some 17) (Nj := some 20) #[true, true, true, true, true, true, true, true, true, true, false, false, true, true, true, true, true, false, true, true, false, false, true, true, false, false, true, true, false, false, false, false, false, false, false] #[true, true, true, true, true, true, true, false, true, true, true, false, true, true, true, true, true, false, true, true, false, false, true, true, false, false, true, true, false, false, false, false, false, false, false] rfl rfl rfl rfl (two_of HT_.out (by kernel_rfl)) (by decide) (by decide) (fun K hK => ?_) (fun K hK => ?_)
                                  ·skip;have hcv29 := own_string (P := Try.prog) Try.underlying65 Try.underlying5 Try.underlying9 (Kd.own_of_R HO133.out)
                                   refine value_ (w1 := ?_) (v := ?_) (by rfl) rfl ?_ ?_
                                   rotate_left 2
                                   ·go_simp;constructor
                                    ·rfl
                                    ·rfl
                                   clear hcv29
                                   refine hK.out _ _ qh3x0 (fun hHeld => ?_)
                                   clear hK K;refine normZ (some 17) ?_
                                   exact norm_ nP (hJ6_7_15_16 (v132, v136) _ ⟨hHeld, (mR HO133), (mR HO137), (mK BK128), (mK BK130), cB⟩)
                                  ·skip
                                   refine goes_ Try.func32 (by kernel_rfl) rfl #[.int .i64 a0_2] (by rfl) rfl rfl (by (try simp only [List.map_toArray, List.map_cons, List.map_nil]); first | done | rfl | (simp only [List.length_drop, List.length_take]; rfl)) ?_
                                   with_reducible refine (spec_l01Var.calls k a0_2 t134 _ A4.out).mono ?_;rintro e w29 ⟨rfl, hb⟩;refine ⟨_, rfl, ?_⟩;replace HO133 := rB HO133 hb;replace HO137 := rB HO137 hb;replace BK128 := kB BK128 hb;replace BK130 := kB BK130 hb;replace HB := sB hb;(try clear hb)
                                   refine hK.out _ _ qh3x0 (fun hHeld => ?_)
                                   clear hK K;refine normZ (some 20) ?_
                                   exact norm_ nP (hJ6_10_15_16 (v132, v136) _ ⟨hHeld, (mR HO133), (mR HO137), (mK BK128), (mK BK130), cB⟩)
                                ·skip;rintro v132 w27 ⟨hS_, h0_, h1_, h2_, h3_⟩
                                 have n0_ : Aside0 (Kd.R (Kd.int .u8) 5 w27 w.heap.size (fun _ => True) v132 y131) := ⟨h0_⟩
                                 have n1_ := Aside0.mk h1_;have n2_ := Aside0.mk h2_;have n3_ := Aside0.mk h3_;clear BK128 BK130 HB h0_ h1_ h2_ h3_;have HO133 := n0_;have BK128 := n1_;have BK130 := n2_;have HB := n3_;clear n0_ n1_ n2_ n3_;have hHeld := hS_;refine norm_ (a' := ?_) ?_ ?_;rotate_left
                                 ·simp only [putAll, Act.put, List.setIfInBounds_toArray, List.set_cons_zero, List.set_cons_succ];rfl
                                 refine three_ (i := 7) (j := 15) (k := 24) (Ni := some 17) (Nj := some 25) (Nk := some 34) #[true, true, true, true, true, true, true, true, true, true, true, false, true, true, true, false, false, false, true, true, true, false, true, true, false, false, true, true, false, false, false, false, false, false, false] #[true, true, true, true, true, true, true, false, true, true, true, false, true, true, true, true, false, false, true, true, true, false, true, true, false, false, true, true, false, false, false, false, false, false, false] #[true, true, true, true, true, true, true, false, true, true, true, false, true, true, true, false, false, false, true, true, true, false, true, true, true, false, true, true, false, false, false, false, false, false, false] rfl rfl rfl rfl rfl rfl (three_of HT_.out (by kernel_rfl)) (by decide) (by decide) (by decide) (fun K hK => ?_) (fun K hK => ?_) (fun K hK => ?_)
                                 ·skip;have hcv28 := own_string (P := Try.prog) Try.underlying65 Try.underlying5 Try.underlying9 (Kd.own_of_R HO133.out)
                                  refine value_ (w1 := ?_) (v := ?_) (by rfl) rfl ?_ ?_
                                  rotate_left 2
                                  ·go_simp;constructor
                                   ·rfl
                                   ·rfl
                                  clear hcv28
                                  refine hK.out _ _ qh3x0 (fun hHeld => ?_)
                                  clear hK K;refine normZ (some 17) ?_
                                  refine pureZ 11 (some 21) (msk 35 215777279) HT_.out ?_
                                  exact norm_ nP (hJ6_7_10_20 (v132) _ ⟨hHeld, (mR HO133), (mK BK128), (mK BK130), cB⟩)
                                 ·skip
                                  refine Kd.R_lit_step (Kd.int .u8) _ 5 ?hg (N := 25) ?hd (xs := ([(a0_3) % 256] : List Int)) (inner := [.int .u8 ((a0_3) % 256)]) (ok := fun _ => True) (okp := fun _ => True) ?hr ?hp (fun _ hk => hk) trivial (Below.refl _ _) (Nat.le_refl _) (by simp) ?_; (case hd => rfl); (case hg => rfl); (case hr => first | (go_simp; done) | (go_simp; rfl)); (case hp => exact (Reps.one (show Kd.M (Kd.int .u8) _ _ _ ((a0_3) % 256) [.int .u8 ((a0_3) % 256)] from rfl) (Reps.none _ _)))
                                  intro v136 w28 ho29 hb hg_ hnew_;clear hg_ hnew_
                                  (first | rw [← Ny135.out] at ho29 | (simp only [Int.reduceToNat] at ho29; rw [← Ny135.out] at ho29))
                                  have HO137 := Aside0.mk (Kd.R_lower (Kd.R_new' ho29 (Kd.R_lt (mR HO133))) (below_size cB));replace HO133 := eB HO133 (Kd.R_base ho29) hb;replace BK128 := kB BK128 hb;replace BK130 := kB BK130 hb;replace HB := sB hb;clear hb ho29
                                  refine hK.out _ _ qh3x0 (fun hHeld => ?_)
                                  clear hK K;refine normZ (some 25) ?_
                                  exact norm_ nP (hJ6_10_15_20 (v132, v136) _ ⟨hHeld, (by (with_reducible repeat (first | apply Kd.R_alloc | apply Kd.R_drewN | apply Kd.R_drew)); exact Kd.R_mono HO133.out (fun _ hk => hk.2)), (by (with_reducible repeat (first | apply Kd.R_alloc | apply Kd.R_drewN | apply Kd.R_drew)); exact Kd.R_mono HO137.out (fun _ hk => hk.2)), (mK BK128), (mK BK130), cB⟩)
                                 ·skip
                                  refine goes_ Try.func33 (by kernel_rfl) rfl #[.int .i64 a0_5] (by rfl) rfl rfl (by (try simp only [List.map_toArray, List.map_cons, List.map_nil]); first | done | rfl | (simp only [List.length_drop, List.length_take]; rfl)) ?_
                                  with_reducible refine (spec_l06Four.calls a0_5 t139 _ A9.out).mono ?_;rintro e w28 ⟨rfl, hb⟩;refine ⟨_, rfl, ?_⟩;replace HO133 := rB HO133 hb;replace BK128 := kB BK128 hb;replace BK130 := kB BK130 hb;replace HB := sB hb;(try clear hb)
                                  refine hK.out _ _ qh3x0 (fun hHeld => ?_)
                                  clear hK K;refine normZ (some 34) ?_
                                  exact norm_ nP (hJ6_10_20_24 (v132) _ ⟨hHeld, (mR HO133), (mK BK128), (mK BK130), cB⟩)
                               ·skip;rintro ⟨v132, v136⟩ w28 ⟨hS_, h0_, h1_, h2_, h3_, h4_⟩
                                have n0_ : Aside0 (Kd.R (Kd.int .u8) 5 w28 w.heap.size (fun k_ => some k_ ≠ (v136 : Value).ownBlock) v132 y131) := ⟨h0_⟩
                                have n1_ : Aside0 (Kd.R (Kd.int .u8) 5 w28 w.heap.size (fun k_ => some k_ ≠ (v132 : Value).ownBlock) v136 y135) := ⟨h1_⟩
                                have n2_ := Aside0.mk h2_;have n3_ := Aside0.mk h3_;have n4_ := Aside0.mk h4_;clear BK128 BK130 HB h0_ h1_ h2_ h3_ h4_;have HO133 := n0_;have HO137 := n1_;have BK128 := n2_;have BK130 := n3_;have HB := n4_;clear n0_ n1_ n2_ n3_ n4_;have hHeld := hS_;refine norm_ (a' := ?_) ?_ ?_;rotate_left
                                ·simp only [putAll, Act.put, List.setIfInBounds_toArray, List.set_cons_zero, List.set_cons_succ];rfl
                                refine three_ (i := 7) (j := 16) (k := 20) (Ni := some 17) (Nj := some 26) (Nk := some 30) #[true, true, true, true, true, true, true, true, true, true, true, false, true, true, true, true, false, false, true, true, false, false, true, true, false, false, true, true, false, false, false, false, false, false, false] #[true, true, true, true, true, true, true, false, true, true, true, false, true, true, true, true, true, false, true, true, false, false, true, true, false, false, true, true, false, false, false, false, false, false, false] #[true, true, true, true, true, true, true, false, true, true, true, false, true, true, true, true, false, false, true, true, true, false, true, true, false, false, true, true, false, false, false, false, false, false, false] rfl rfl rfl rfl rfl rfl (three_of HT_.out (by kernel_rfl)) (by decide) (by decide) (by decide) (fun K hK => ?_) (fun K hK => ?_) (fun K hK => ?_)
                                ·skip;have hcv29 := own_string (P := Try.prog) Try.underlying65 Try.underlying5 Try.underlying9 (Kd.own_of_R HO133.out)
                                 refine value_ (w1 := ?_) (v := ?_) (by rfl) rfl ?_ ?_
                                 rotate_left 2
                                 ·go_simp;constructor
                                  ·rfl
                                  ·rfl
                                 clear hcv29
                                 refine hK.out _ _ qh3x0 (fun hHeld => ?_)
                                 clear hK K;refine normZ (some 17) ?_
                                 refine pureZ 11 (some 21) (msk 35 214761471) HT_.out ?_
                                 exact norm_ nP (hJ6_7_10_15 (v132, v136) _ ⟨hHeld, (mR HO133), (mR HO137), (mK BK128), (mK BK130), cB⟩)
                                ·skip;have hcv29 := own_string (P := Try.prog) Try.underlying65 Try.underlying5 Try.underlying9 (Kd.own_of_R HO137.out)
                                 refine value_ (w1 := ?_) (v := ?_) (by rfl) rfl ?_ ?_
                                 rotate_left 2
                                 ·go_simp;constructor
                                  ·rfl
                                  ·rfl
                                 clear hcv29
                                 refine hK.out _ _ qh3x0 (fun hHeld => ?_)
                                 clear hK K;refine normZ (some 26) ?_
                                 exact norm_ nP (hJ6_10_15_16 (v132, v136) _ ⟨hHeld, (mR HO133), (mR HO137), (mK BK128), (mK BK130), cB⟩)
                                ·skip
                                 refine goes_ Try.func33 (by kernel_rfl) rfl #[.int .i64 a0_4] (by rfl) rfl rfl (by (try simp only [List.map_toArray, List.map_cons, List.map_nil]); first | done | rfl | (simp only [List.length_drop, List.length_take]; rfl)) ?_
                                 with_reducible refine (spec_l06Four.calls a0_4 t138 _ A7.out).mono ?_;rintro e w29 ⟨rfl, hb⟩;refine ⟨_, rfl, ?_⟩;replace HO133 := rB HO133 hb;replace HO137 := rB HO137 hb;replace BK128 := kB BK128 hb;replace BK130 := kB BK130 hb;replace HB := sB hb;(try clear hb)
                                 refine hK.out _ _ qh3x0 (fun hHeld => ?_)
                                 clear hK K;refine normZ (some 30) ?_
                                 exact norm_ nP (hJ6_10_15_20 (v132, v136) _ ⟨hHeld, (mR HO133), (mR HO137), (mK BK128), (mK BK130), cB⟩)
                              ·skip;rintro ⟨v132, v136⟩ w28 ⟨hS_, h0_, h1_, h2_, h3_, h4_⟩
                               have n0_ : Aside0 (Kd.R (Kd.int .u8) 5 w28 w.heap.size (fun k_ => some k_ ≠ (v136 : Value).ownBlock) v132 y131) := ⟨h0_⟩
                               have n1_ : Aside0 (Kd.R (Kd.int .u8) 5 w28 w.heap.size (fun k_ => some k_ ≠ (v132 : Value).ownBlock) v136 y135) := ⟨h1_⟩
                               have n2_ := Aside0.mk h2_;have n3_ := Aside0.mk h3_;have n4_ := Aside0.mk h4_;clear BK128 BK130 HB h0_ h1_ h2_ h3_ h4_;have HO133 := n0_;have HO137 := n1_;have BK128 := n2_;have BK130 := n3_;have HB := n4_;clear n0_ n1_ n2_ n3_ n4_;have hHeld := hS_;refine norm_ (a' := ?_) ?_ ?_;rotate_left
                               ·simp only [putAll, Act.put, List.setIfInBounds_toArray, List.set_cons_zero, List.set_cons_succ];rfl
                               refine two_ (i := 10) (j := 16) (Ni := some 20) (Nj := some 26) #[true, true, true, true, true, true, true, true, true, true, true, false, true, true, true, true, false, false, true, true, false, false, true, true, false, false, true, true, false, false, false, false, false, false, false] #[true, true, true, true, true, true, true, true, true, true, false, false, true, true, true, true, true, false, true, true, false, false, true, true, false, false, true, true, false, false, false, false, false, false, false] rfl rfl rfl rfl (two_of HT_.out (by kernel_rfl)) (by decide) (by decide) (fun K hK => ?_) (fun K hK => ?_)
                               ·skip
                                refine goes_ Try.func32 (by kernel_rfl) rfl #[.int .i64 a0_2] (by rfl) rfl rfl (by (try simp only [List.map_toArray, List.map_cons, List.map_nil]); first | done | rfl | (simp only [List.length_drop, List.length_take]; rfl)) ?_
                                with_reducible refine (spec_l01Var.calls k a0_2 t134 _ A4.out).mono ?_;rintro e w29 ⟨rfl, hb⟩;refine ⟨_, rfl, ?_⟩;replace HO133 := rB HO133 hb;replace HO137 := rB HO137 hb;replace BK128 := kB BK128 hb;replace BK130 := kB BK130 hb;replace HB := sB hb;(try clear hb)
                                refine hK.out _ _ qh3x0 (fun hHeld => ?_)
                                clear hK K;refine normZ (some 20) ?_
                                refine pureZ 11 (some 21) (msk 35 214761471) HT_.out ?_
                                exact norm_ nP (hJ6_7_10_15 (v132, v136) _ ⟨hHeld, (mR HO133), (mR HO137), (mK BK128), (mK BK130), cB⟩)
                               ·skip;have hcv29 := own_string (P := Try.prog) Try.underlying65 Try.underlying5 Try.underlying9 (Kd.own_of_R HO137.out)
                                refine value_ (w1 := ?_) (v := ?_) (by rfl) rfl ?_ ?_
                                rotate_left 2
                                ·go_simp;constructor
                                 ·rfl
                                 ·rfl
                                clear hcv29
                                refine hK.out _ _ qh3x0 (fun hHeld => ?_)
                                clear hK K;refine normZ (some 26) ?_
                                exact norm_ nP (hJ6_7_15_16 (v132, v136) _ ⟨hHeld, (mR HO133), (mR HO137), (mK BK128), (mK BK130), cB⟩)
                             ·skip;rintro v132 w27 ⟨hS_, h0_, h1_, h2_, h3_⟩
                              have n0_ : Aside0 (Kd.R (Kd.int .u8) 5 w27 w.heap.size (fun _ => True) v132 y131) := ⟨h0_⟩
                              have n1_ := Aside0.mk h1_;have n2_ := Aside0.mk h2_;have n3_ := Aside0.mk h3_;clear BK128 BK130 HB h0_ h1_ h2_ h3_;have HO133 := n0_;have BK128 := n1_;have BK130 := n2_;have HB := n3_;clear n0_ n1_ n2_ n3_;have hHeld := hS_;refine norm_ (a' := ?_) ?_ ?_;rotate_left
                              ·simp only [putAll, Act.put, List.setIfInBounds_toArray, List.set_cons_zero, List.set_cons_succ];rfl
                              refine two_ (i := 15) (j := 20) (Ni := some 25) (Nj := some 30) #[true, true, true, true, true, true, true, true, true, true, true, true, true, true, true, true, false, false, true, true, false, false, true, true, false, false, true, true, false, false, false, false, false, false, false] #[true, true, true, true, true, true, true, true, true, true, true, true, true, true, true, false, false, false, true, true, true, false, true, true, false, false, true, true, false, false, false, false, false, false, false] rfl rfl rfl rfl (two_of HT_.out (by kernel_rfl)) (by decide) (by decide) (fun K hK => ?_) (fun K hK => ?_)
                              ·skip
                               refine Kd.R_lit_step (Kd.int .u8) _ 5 ?hg (N := 25) ?hd (xs := ([(a0_3) % 256] : List Int)) (inner := [.int .u8 ((a0_3) % 256)]) (ok := fun _ => True) (okp := fun _ => True) ?hr ?hp (fun _ hk => hk) trivial (Below.refl _ _) (Nat.le_refl _) (by simp) ?_; (case hd => rfl); (case hg => rfl); (case hr => first | (go_simp; done) | (go_simp; rfl)); (case hp => exact (Reps.one (show Kd.M (Kd.int .u8) _ _ _ ((a0_3) % 256) [.int .u8 ((a0_3) % 256)] from rfl) (Reps.none _ _)))
                               intro v136 w28 ho29 hb hg_ hnew_;clear hg_ hnew_
                               (first | rw [← Ny135.out] at ho29 | (simp only [Int.reduceToNat] at ho29; rw [← Ny135.out] at ho29))
                               have HO137 := Aside0.mk (Kd.R_lower (Kd.R_new' ho29 (Kd.R_lt (mR HO133))) (below_size cB));replace HO133 := eB HO133 (Kd.R_base ho29) hb;replace BK128 := kB BK128 hb;replace BK130 := kB BK130 hb;replace HB := sB hb;clear hb ho29
                               refine hK.out _ _ qh3x0 (fun hHeld => ?_)
                               clear hK K;refine normZ (some 25) ?_
                               exact norm_ nP (hJ6_7_10_15 (v132, v136) _ ⟨hHeld, (by (with_reducible repeat (first | apply Kd.R_alloc | apply Kd.R_drewN | apply Kd.R_drew)); exact Kd.R_mono HO133.out (fun _ hk => hk.2)), (by (with_reducible repeat (first | apply Kd.R_alloc | apply Kd.R_drewN | apply Kd.R_drew)); exact Kd.R_mono HO137.out (fun _ hk => hk.2)), (mK BK128), (mK BK130), cB⟩)
                              ·skip
                               refine goes_ Try.func33 (by kernel_rfl) rfl #[.int .i64 a0_4] (by rfl) rfl rfl (by (try simp only [List.map_toArray, List.map_cons, List.map_nil]); first | done | rfl | (simp only [List.length_drop, List.length_take]; rfl)) ?_
                               with_reducible refine (spec_l06Four.calls a0_4 t138 _ A7.out).mono ?_;rintro e w28 ⟨rfl, hb⟩;refine ⟨_, rfl, ?_⟩;replace HO133 := rB HO133 hb;replace BK128 := kB BK128 hb;replace BK130 := kB BK130 hb;replace HB := sB hb;(try clear hb)
                               refine hK.out _ _ qh3x0 (fun hHeld => ?_)
                               clear hK K;refine normZ (some 30) ?_
                               exact norm_ nP (hJ6_7_10_20 (v132) _ ⟨hHeld, (mR HO133), (mK BK128), (mK BK130), cB⟩)
                            ·skip;rintro _ w27 ⟨hS_, h0_, h1_, h2_⟩;have n0_ := Aside0.mk h0_;have n1_ := Aside0.mk h1_;have n2_ := Aside0.mk h2_;clear BK128 BK130 HB h0_ h1_ h2_;have BK128 := n0_;have BK130 := n1_;have HB := n2_;clear n0_ n1_ n2_;have hHeld := hS_;refine norm_ (a' := ?_) ?_ ?_;rotate_left
                             ·simp only [putAll, Act.put, List.setIfInBounds_toArray, List.set_cons_zero, List.set_cons_succ];rfl
                             refine two_ (i := 6) (j := 15) (Ni := some 16) (Nj := some 25) #[true, true, true, true, true, true, true, false, true, true, true, false, true, true, true, false, false, false, true, true, true, false, true, true, true, false, true, true, true, false, false, false, false, false, false] #[true, true, true, true, true, true, false, false, true, true, true, false, true, true, true, true, false, false, true, true, true, false, true, true, true, false, true, true, true, false, false, false, false, false, false] rfl rfl rfl rfl (two_of HT_.out (by kernel_rfl)) (by decide) (by decide) (fun K hK => ?_) (fun K hK => ?_)
                             ·skip
                              refine Kd.R_lit_step (Kd.int .u8) _ 5 ?hg (N := 16) ?hd (xs := ([(a0_0) % 256, (a0_1) % 256] : List Int)) (inner := [.int .u8 ((a0_0) % 256), .int .u8 ((a0_1) % 256)]) (ok := fun _ => True) (okp := fun _ => True) ?hr ?hp (fun _ hk => hk) trivial (Below.refl _ _) (Nat.le_refl _) (by simp) ?_; (case hd => rfl); (case hg => rfl); (case hr => first | (go_simp; done) | (go_simp; rfl)); (case hp => exact (Reps.one (show Kd.M (Kd.int .u8) _ _ _ ((a0_0) % 256) [.int .u8 ((a0_0) % 256)] from rfl) (Reps.one (show Kd.M (Kd.int .u8) _ _ _ ((a0_1) % 256) [.int .u8 ((a0_1) % 256)] from rfl) (Reps.none _ _))))
                              intro v132 w28 ho29 hb hg_ hnew_;clear hg_ hnew_
                              (first | rw [← Ny131.out] at ho29 | (simp only [Int.reduceToNat] at ho29; rw [← Ny131.out] at ho29))
                              have HO133 := Aside0.mk (Kd.R_lower ho29 (below_size cB));replace BK128 := kB BK128 hb;replace BK130 := kB BK130 hb;replace HB := sB hb;clear hb ho29
                              refine hK.out _ _ qh3x0 (fun hHeld => ?_)
                              clear hK K;refine normZ (some 16) ?_
                              exact norm_ nP (hJ6_10_20_24_28 (v132) _ ⟨hHeld, (mR HO133), (mK BK128), (mK BK130), cB⟩)
                             ·skip
                              refine Kd.R_lit_step (Kd.int .u8) _ 5 ?hg (N := 25) ?hd (xs := ([(a0_3) % 256] : List Int)) (inner := [.int .u8 ((a0_3) % 256)]) (ok := fun _ => True) (okp := fun _ => True) ?hr ?hp (fun _ hk => hk) trivial (Below.refl _ _) (Nat.le_refl _) (by simp) ?_; (case hd => rfl); (case hg => rfl); (case hr => first | (go_simp; done) | (go_simp; rfl)); (case hp => exact (Reps.one (show Kd.M (Kd.int .u8) _ _ _ ((a0_3) % 256) [.int .u8 ((a0_3) % 256)] from rfl) (Reps.none _ _)))
                              intro v136 w28 ho29 hb hg_ hnew_;clear hg_ hnew_
                              (first | rw [← Ny135.out] at ho29 | (simp only [Int.reduceToNat] at ho29; rw [← Ny135.out] at ho29))
                              have HO137 := Aside0.mk (Kd.R_lower ho29 (below_size cB));replace BK128 := kB BK128 hb;replace BK130 := kB BK130 hb;replace HB := sB hb;clear hb ho29
                              refine hK.out _ _ qh3x0 (fun hHeld => ?_)
                              clear hK K;refine normZ (some 25) ?_
                              exact norm_ nP (hJ10_15_20_24_28 (v136) _ ⟨hHeld, (mR HO137), (mK BK128), (mK BK130), cB⟩)
                           ·skip;rintro v136 w28 ⟨hS_, h0_, h1_, h2_, h3_⟩
                            have n0_ : Aside0 (Kd.R (Kd.int .u8) 5 w28 w.heap.size (fun _ => True) v136 y135) := ⟨h0_⟩
                            have n1_ := Aside0.mk h1_;have n2_ := Aside0.mk h2_;have n3_ := Aside0.mk h3_;clear BK128 BK130 HB h0_ h1_ h2_ h3_;have HO137 := n0_;have BK128 := n1_;have BK130 := n2_;have HB := n3_;clear n0_ n1_ n2_ n3_;have hHeld := hS_;refine norm_ (a' := ?_) ?_ ?_;rotate_left
                            ·simp only [putAll, Act.put, List.setIfInBounds_toArray, List.set_cons_zero, List.set_cons_succ];rfl
                            refine three_ (i := 6) (j := 16) (k := 28) (Ni := some 16) (Nj := some 26) (Nk := some 38) #[true, true, true, true, true, true, true, false, true, true, true, false, true, true, true, true, false, false, true, true, true, false, true, true, true, false, true, true, false, false, false, false, false, false, false] #[true, true, true, true, true, true, false, false, true, true, true, false, true, true, true, true, true, false, true, true, true, false, true, true, true, false, true, true, false, false, false, false, false, false, false] #[true, true, true, true, true, true, false, false, true, true, true, false, true, true, true, true, false, false, true, true, true, false, true, true, true, false, true, true, true, false, false, false, false, false, false] rfl rfl rfl rfl rfl rfl (three_of HT_.out (by kernel_rfl)) (by decide) (by decide) (by decide) (fun K hK => ?_) (fun K hK => ?_) (fun K hK => ?_)
                            ·skip
                             refine Kd.R_lit_step (Kd.int .u8) _ 5 ?hg (N := 16) ?hd (xs := ([(a0_0) % 256, (a0_1) % 256] : List Int)) (inner := [.int .u8 ((a0_0) % 256), .int .u8 ((a0_1) % 256)]) (ok := fun _ => True) (okp := fun _ => True) ?hr ?hp (fun _ hk => hk) trivial (Below.refl _ _) (Nat.le_refl _) (by simp) ?_; (case hd => rfl); (case hg => rfl); (case hr => first | (go_simp; done) | (go_simp; rfl)); (case hp => exact (Reps.one (show Kd.M (Kd.int .u8) _ _ _ ((a0_0) % 256) [.int .u8 ((a0_0) % 256)] from rfl) (Reps.one (show Kd.M (Kd.int .u8) _ _ _ ((a0_1) % 256) [.int .u8 ((a0_1) % 256)] from rfl) (Reps.none _ _))))
                             intro v132 w29 ho30 hb hg_ hnew_;clear hg_ hnew_
                             (first | rw [← Ny131.out] at ho30 | (simp only [Int.reduceToNat] at ho30; rw [← Ny131.out] at ho30))
                             have HO133 := Aside0.mk (Kd.R_lower (Kd.R_new' ho30 (Kd.R_lt (mR HO137))) (below_size cB));replace HO137 := eB HO137 (Kd.R_base ho30) hb;replace BK128 := kB BK128 hb;replace BK130 := kB BK130 hb;replace HB := sB hb;clear hb ho30
                             refine hK.out _ _ qh3x0 (fun hHeld => ?_)
                             clear hK K;refine normZ (some 16) ?_
                             exact norm_ nP (hJ6_10_15_20_24 (v132, v136) _ ⟨hHeld, (by (with_reducible repeat (first | apply Kd.R_alloc | apply Kd.R_drewN | apply Kd.R_drew)); exact Kd.R_mono HO133.out (fun _ hk => hk.2)), (by (with_reducible repeat (first | apply Kd.R_alloc | apply Kd.R_drewN | apply Kd.R_drew)); exact Kd.R_mono HO137.out (fun _ hk => hk.2)), (mK BK128), (mK BK130), cB⟩)
                            ·skip;have hcv29 := own_string (P := Try.prog) Try.underlying65 Try.underlying5 Try.underlying9 (Kd.own_of_R HO137.out)
                             refine value_ (w1 := ?_) (v := ?_) (by rfl) rfl ?_ ?_
                             rotate_left 2
                             ·go_simp;constructor
                              ·rfl
                              ·rfl
                             clear hcv29
                             refine hK.out _ _ qh3x0 (fun hHeld => ?_)
                             clear hK K;refine normZ (some 26) ?_
                             exact norm_ nP (hJ10_15_16_20_24 (v136) _ ⟨hHeld, (mR HO137), (mK BK128), (mK BK130), cB⟩)
                            ·skip
                             refine goes_ Try.func32 (by kernel_rfl) rfl #[.int .i64 a0_6] (by rfl) rfl rfl (by (try simp only [List.map_toArray, List.map_cons, List.map_nil]); first | done | rfl | (simp only [List.length_drop, List.length_take]; rfl)) ?_
                             with_reducible refine (spec_l01Var.calls k a0_6 t140 _ A11.out).mono ?_;rintro e w29 ⟨rfl, hb⟩;refine ⟨_, rfl, ?_⟩;replace HO137 := rB HO137 hb;replace BK128 := kB BK128 hb;replace BK130 := kB BK130 hb;replace HB := sB hb;(try clear hb)
                             refine hK.out _ _ qh3x0 (fun hHeld => ?_)
                             clear hK K;refine normZ (some 38) ?_
                             exact norm_ nP (hJ10_15_20_24_28 (v136) _ ⟨hHeld, (mR HO137), (mK BK128), (mK BK130), cB⟩)
                          ·skip;rintro v136 w28 ⟨hS_, h0_, h1_, h2_, h3_⟩
                           have n0_ : Aside0 (Kd.R (Kd.int .u8) 5 w28 w.heap.size (fun _ => True) v136 y135) := ⟨h0_⟩
                           have n1_ := Aside0.mk h1_;have n2_ := Aside0.mk h2_;have n3_ := Aside0.mk h3_;clear BK128 BK130 HB h0_ h1_ h2_ h3_;have HO137 := n0_;have BK128 := n1_;have BK130 := n2_;have HB := n3_;clear n0_ n1_ n2_ n3_;have hHeld := hS_;refine norm_ (a' := ?_) ?_ ?_;rotate_left
                           ·simp only [putAll, Act.put, List.setIfInBounds_toArray, List.set_cons_zero, List.set_cons_succ];rfl
                           refine two_ (i := 6) (j := 24) (Ni := some 16) (Nj := some 34) #[true, true, true, true, true, true, true, false, true, true, true, false, true, true, true, true, true, false, true, true, true, false, true, true, false, false, true, true, false, false, false, false, false, false, false] #[true, true, true, true, true, true, false, false, true, true, true, false, true, true, true, true, true, false, true, true, true, false, true, true, true, false, true, true, false, false, false, false, false, false, false] rfl rfl rfl rfl (two_of HT_.out (by kernel_rfl)) (by decide) (by decide) (fun K hK => ?_) (fun K hK => ?_)
                           ·skip
                            refine Kd.R_lit_step (Kd.int .u8) _ 5 ?hg (N := 16) ?hd (xs := ([(a0_0) % 256, (a0_1) % 256] : List Int)) (inner := [.int .u8 ((a0_0) % 256), .int .u8 ((a0_1) % 256)]) (ok := fun _ => True) (okp := fun _ => True) ?hr ?hp (fun _ hk => hk) trivial (Below.refl _ _) (Nat.le_refl _) (by simp) ?_; (case hd => rfl); (case hg => rfl); (case hr => first | (go_simp; done) | (go_simp; rfl)); (case hp => exact (Reps.one (show Kd.M (Kd.int .u8) _ _ _ ((a0_0) % 256) [.int .u8 ((a0_0) % 256)] from rfl) (Reps.one (show Kd.M (Kd.int .u8) _ _ _ ((a0_1) % 256) [.int .u8 ((a0_1) % 256)] from rfl) (Reps.none _ _))))
                            intro v132 w29 ho30 hb hg_ hnew_;clear hg_ hnew_
                            (first | rw [← Ny131.out] at ho30 | (simp only [Int.reduceToNat] at ho30; rw [← Ny131.out] at ho30))
                            have HO133 := Aside0.mk (Kd.R_lower (Kd.R_new' ho30 (Kd.R_lt (mR HO137))) (below_size cB));replace HO137 := eB HO137 (Kd.R_base ho30) hb;replace BK128 := kB BK128 hb;replace BK130 := kB BK130 hb;replace HB := sB hb;clear hb ho30
                            refine hK.out _ _ qh3x0 (fun hHeld => ?_)
                            clear hK K;refine normZ (some 16) ?_
                            exact norm_ nP (hJ6_10_15_16_20 (v132, v136) _ ⟨hHeld, (by (with_reducible repeat (first | apply Kd.R_alloc | apply Kd.R_drewN | apply Kd.R_drew)); exact Kd.R_mono HO133.out (fun _ hk => hk.2)), (by (with_reducible repeat (first | apply Kd.R_alloc | apply Kd.R_drewN | apply Kd.R_drew)); exact Kd.R_mono HO137.out (fun _ hk => hk.2)), (mK BK128), (mK BK130), cB⟩)
                           ·skip
                            refine goes_ Try.func33 (by kernel_rfl) rfl #[.int .i64 a0_5] (by rfl) rfl rfl (by (try simp only [List.map_toArray, List.map_cons, List.map_nil]); first | done | rfl | (simp only [List.length_drop, List.length_take]; rfl)) ?_
                            with_reducible refine (spec_l06Four.calls a0_5 t139 _ A9.out).mono ?_;rintro e w29 ⟨rfl, hb⟩;refine ⟨_, rfl, ?_⟩;replace HO137 := rB HO137 hb;replace BK128 := kB BK128 hb;replace BK130 := kB BK130 hb;replace HB := sB hb;(try clear hb)
                            refine hK.out _ _ qh3x0 (fun hHeld => ?_)
                            clear hK K;refine normZ (some 34) ?_
                            exact norm_ nP (hJ10_15_16_20_24 (v136) _ ⟨hHeld, (mR HO137), (mK BK128), (mK BK130), cB⟩)
                         ·skip;rintro v132 w28 ⟨hS_, h0_, h1_, h2_, h3_⟩
                          have n0_ : Aside0 (Kd.R (Kd.int .u8) 5 w28 w.heap.size (fun _ => True) v132 y131) := ⟨h0_⟩
                          have n1_ := Aside0.mk h1_;have n2_ := Aside0.mk h2_;have n3_ := Aside0.mk h3_;clear BK128 BK130 HB h0_ h1_ h2_ h3_;have HO133 := n0_;have BK128 := n1_;have BK130 := n2_;have HB := n3_;clear n0_ n1_ n2_ n3_;have hHeld := hS_;refine norm_ (a' := ?_) ?_ ?_;rotate_left
                          ·simp only [putAll, Act.put, List.setIfInBounds_toArray, List.set_cons_zero, List.set_cons_succ];rfl
                          refine three_ (i := 7) (j := 15) (k := 28) (Ni := some 17) (Nj := some 25) (Nk := some 38) #[true, true, true, true, true, true, true, true, true, true, true, false, true, true, true, false, false, false, true, true, true, false, true, true, true, false, true, true, false, false, false, false, false, false, false] #[true, true, true, true, true, true, true, false, true, true, true, false, true, true, true, true, false, false, true, true, true, false, true, true, true, false, true, true, false, false, false, false, false, false, false] #[true, true, true, true, true, true, true, false, true, true, true, false, true, true, true, false, false, false, true, true, true, false, true, true, true, false, true, true, true, false, false, false, false, false, false] rfl rfl rfl rfl rfl rfl (three_of HT_.out (by kernel_rfl)) (by decide) (by decide) (by decide) (fun K hK => ?_) (fun K hK => ?_) (fun K hK => ?_)
                          ·skip;have hcv29 := own_string (P := Try.prog) Try.underlying65 Try.underlying5 Try.underlying9 (Kd.own_of_R HO133.out)
                           refine value_ (w1 := ?_) (v := ?_) (by rfl) rfl ?_ ?_
                           rotate_left 2
                           ·go_simp;constructor
                            ·rfl
                            ·rfl
                           clear hcv29
                           refine hK.out _ _ qh3x0 (fun hHeld => ?_)
                           clear hK K;refine normZ (some 17) ?_
                           refine pureZ 11 (some 21) (msk 35 232554495) HT_.out ?_
                           exact norm_ nP (hJ6_7_10_20_24 (v132) _ ⟨hHeld, (mR HO133), (mK BK128), (mK BK130), cB⟩)
                          ·skip
                           refine Kd.R_lit_step (Kd.int .u8) _ 5 ?hg (N := 25) ?hd (xs := ([(a0_3) % 256] : List Int)) (inner := [.int .u8 ((a0_3) % 256)]) (ok := fun _ => True) (okp := fun _ => True) ?hr ?hp (fun _ hk => hk) trivial (Below.refl _ _) (Nat.le_refl _) (by simp) ?_; (case hd => rfl); (case hg => rfl); (case hr => first | (go_simp; done) | (go_simp; rfl)); (case hp => exact (Reps.one (show Kd.M (Kd.int .u8) _ _ _ ((a0_3) % 256) [.int .u8 ((a0_3) % 256)] from rfl) (Reps.none _ _)))
                           intro v136 w29 ho30 hb hg_ hnew_;clear hg_ hnew_
                           (first | rw [← Ny135.out] at ho30 | (simp only [Int.reduceToNat] at ho30; rw [← Ny135.out] at ho30))
                           have HO137 := Aside0.mk (Kd.R_lower (Kd.R_new' ho30 (Kd.R_lt (mR HO133))) (below_size cB));replace HO133 := eB HO133 (Kd.R_base ho30) hb;replace BK128 := kB BK128 hb;replace BK130 := kB BK130 hb;replace HB := sB hb;clear hb ho30
                           refine hK.out _ _ qh3x0 (fun hHeld => ?_)
                           clear hK K;refine normZ (some 25) ?_
                           exact norm_ nP (hJ6_10_15_20_24 (v132, v136) _ ⟨hHeld, (by (with_reducible repeat (first | apply Kd.R_alloc | apply Kd.R_drewN | apply Kd.R_drew)); exact Kd.R_mono HO133.out (fun _ hk => hk.2)), (by (with_reducible repeat (first | apply Kd.R_alloc | apply Kd.R_drewN | apply Kd.R_drew)); exact Kd.R_mono HO137.out (fun _ hk => hk.2)), (mK BK128), (mK BK130), cB⟩)
                          ·skip
                           refine goes_ Try.func32 (by kernel_rfl) rfl #[.int .i64 a0_6] (by rfl) rfl rfl (by (try simp only [List.map_toArray, List.map_cons, List.map_nil]); first | done | rfl | (simp only [List.length_drop, List.length_take]; rfl)) ?_
                           with_reducible refine (spec_l01Var.calls k a0_6 t140 _ A11.out).mono ?_;rintro e w29 ⟨rfl, hb⟩;refine ⟨_, rfl, ?_⟩;replace HO133 := rB HO133 hb;replace BK128 := kB BK128 hb;replace BK130 := kB BK130 hb;replace HB := sB hb;(try clear hb)
                           refine hK.out _ _ qh3x0 (fun hHeld => ?_)
                           clear hK K;refine normZ (some 38) ?_
                           exact norm_ nP (hJ6_10_20_24_28 (v132) _ ⟨hHeld, (mR HO133), (mK BK128), (mK BK130), cB⟩)
                        ·skip;rintro ⟨v132, v136⟩ w29 ⟨hS_, h0_, h1_, h2_, h3_, h4_⟩
                         have n0_ : Aside0 (Kd.R (Kd.int .u8) 5 w29 w.heap.size (fun k_ => some k_ ≠ (v136 : Value).ownBlock) v132 y131) := ⟨h0_⟩
                         have n1_ : Aside0 (Kd.R (Kd.int .u8) 5 w29 w.heap.size (fun k_ => some k_ ≠ (v132 : Value).ownBlock) v136 y135) := ⟨h1_⟩
                         have n2_ := Aside0.mk h2_;have n3_ := Aside0.mk h3_;have n4_ := Aside0.mk h4_;clear BK128 BK130 HB h0_ h1_ h2_ h3_ h4_;have HO133 := n0_;have HO137 := n1_;have BK128 := n2_;have BK130 := n3_;have HB := n4_;clear n0_ n1_ n2_ n3_ n4_;have hHeld := hS_;refine norm_ (a' := ?_) ?_ ?_;rotate_left
                         ·simp only [putAll, Act.put, List.setIfInBounds_toArray, List.set_cons_zero, List.set_cons_succ];rfl
                         refine three_ (i := 7) (j := 16) (k := 24) (Ni := some 17) (Nj := some 26) (Nk := some 34) #[true, true, true, true, true, true, true, true, true, true, true, false, true, true, true, true, false, false, true, true, true, false, true, true, false, false, true, true, false, false, false, false, false, false, false] #[true, true, true, true, true, true, true, false, true, true, true, false, true, true, true, true, true, false, true, true, true, false, true, true, false, false, true, true, false, false, false, false, false, false, false] #[true, true, true, true, true, true, true, false, true, true, true, false, true, true, true, true, false, false, true, true, true, false, true, true, true, false, true, true, false, false, false, false, false, false, false] rfl rfl rfl rfl rfl rfl (three_of HT_.out (by kernel_rfl)) (by decide) (by decide) (by decide) (fun K hK => ?_) (fun K hK => ?_) (fun K hK => ?_)
                         ·skip;have hcv30 := own_string (P := Try.prog) Try.underlying65 Try.underlying5 Try.underlying9 (Kd.own_of_R HO133.out)
                          refine value_ (w1 := ?_) (v := ?_) (by rfl) rfl ?_ ?_
                          rotate_left 2
                          ·go_simp;constructor
                           ·rfl
                           ·rfl
                          clear hcv30
                          refine hK.out _ _ qh3x0 (fun hHeld => ?_)
                          clear hK K;refine normZ (some 17) ?_
                          refine pureZ 11 (some 21) (msk 35 215810047) HT_.out ?_
                          exact norm_ nP (hJ6_7_10_15_20 (v132, v136) _ ⟨hHeld, (mR HO133), (mR HO137), (mK BK128), (mK BK130), cB⟩)
                         ·skip;have hcv30 := own_string (P := Try.prog) Try.underlying65 Try.underlying5 Try.underlying9 (Kd.own_of_R HO137.out)
                          refine value_ (w1 := ?_) (v := ?_) (by rfl) rfl ?_ ?_
                          rotate_left 2
                          ·go_simp;constructor
                           ·rfl
                           ·rfl
                          clear hcv30
                          refine hK.out _ _ qh3x0 (fun hHeld => ?_)
                          clear hK K;refine normZ (some 26) ?_
                          exact norm_ nP (hJ6_10_15_16_20 (v132, v136) _ ⟨hHeld, (mR HO133), (mR HO137), (mK BK128), (mK BK130), cB⟩)
                         ·skip
                          refine goes_ Try.func33 (by kernel_rfl) rfl #[.int .i64 a0_5] (by rfl) rfl rfl (by (try simp only [List.map_toArray, List.map_cons, List.map_nil]); first | done | rfl | (simp only [List.length_drop, List.length_take]; rfl)) ?_
                          with_reducible refine (spec_l06Four.calls a0_5 t139 _ A9.out).mono ?_;rintro e w30 ⟨rfl, hb⟩;refine ⟨_, rfl, ?_⟩;replace HO133 := rB HO133 hb;replace HO137 := rB HO137 hb;replace BK128 := kB BK128 hb;replace BK130 := kB BK130 hb;replace HB := sB hb;(try clear hb)
                          refine hK.out _ _ qh3x0 (fun hHeld => ?_)
                          clear hK K;refine normZ (some 34) ?_
                          exact norm_ nP (hJ6_10_15_20_24 (v132, v136) _ ⟨hHeld, (mR HO133), (mR HO137), (mK BK128), (mK BK130), cB⟩)
                       ·skip;rintro ⟨v132, v136⟩ w29 ⟨hS_, h0_, h1_, h2_, h3_, h4_⟩
                        have n0_ : Aside0 (Kd.R (Kd.int .u8) 5 w29 w.heap.size (fun k_ => some k_ ≠ (v136 : Value).ownBlock) v132 y131) := ⟨h0_⟩
                        have n1_ : Aside0 (Kd.R (Kd.int .u8) 5 w29 w.heap.size (fun k_ => some k_ ≠ (v132 : Value).ownBlock) v136 y135) := ⟨h1_⟩
                        have n2_ := Aside0.mk h2_;have n3_ := Aside0.mk h3_;have n4_ := Aside0.mk h4_;clear BK128 BK130 HB h0_ h1_ h2_ h3_ h4_;have HO133 := n0_;have HO137 := n1_;have BK128 := n2_;have BK130 := n3_;have HB := n4_;clear n0_ n1_ n2_ n3_ n4_;have hHeld := hS_;refine norm_ (a' := ?_) ?_ ?_;rotate_left
                        ·simp only [putAll, Act.put, List.setIfInBounds_toArray, List.set_cons_zero, List.set_cons_succ];rfl
                        refine two_ (i := 7) (j := 20) (Ni := some 17) (Nj := some 30) #[true, true, true, true, true, true, true, true, true, true, true, false, true, true, true, true, true, false, true, true, false, false, true, true, false, false, true, true, false, false, false, false, false, false, false] #[true, true, true, true, true, true, true, false, true, true, true, false, true, true, true, true, true, false, true, true, true, false, true, true, false, false, true, true, false, false, false, false, false, false, false] rfl rfl rfl rfl (two_of HT_.out (by kernel_rfl)) (by decide) (by decide) (fun K hK => ?_) (fun K hK => ?_)
                        ·skip;have hcv30 := own_string (P := Try.prog) Try.underlying65 Try.underlying5 Try.underlying9 (Kd.own_of_R HO133.out)
                         refine value_ (w1 := ?_) (v := ?_) (by rfl) rfl ?_ ?_
                         rotate_left 2
                         ·go_simp;constructor
                          ·rfl
                          ·rfl
                         clear hcv30
                         refine hK.out _ _ qh3x0 (fun hHeld => ?_)
                         clear hK K;refine normZ (some 17) ?_
                         refine pureZ 11 (some 21) (msk 35 214827007) HT_.out ?_;refine pureZ 17 (some 27) (msk 35 214958079) HT_.out ?_
                         exact norm_ nP (hJ6_7_10_15_16 (v132, v136) _ ⟨hHeld, (mR HO133), (mR HO137), (mK BK128), (mK BK130), cB⟩)
                        ·skip
                         refine goes_ Try.func33 (by kernel_rfl) rfl #[.int .i64 a0_4] (by rfl) rfl rfl (by (try simp only [List.map_toArray, List.map_cons, List.map_nil]); first | done | rfl | (simp only [List.length_drop, List.length_take]; rfl)) ?_
                         with_reducible refine (spec_l06Four.calls a0_4 t138 _ A7.out).mono ?_;rintro e w30 ⟨rfl, hb⟩;refine ⟨_, rfl, ?_⟩;replace HO133 := rB HO133 hb;replace HO137 := rB HO137 hb;replace BK128 := kB BK128 hb;replace BK130 := kB BK130 hb;replace HB := sB hb;(try clear hb)
                         refine hK.out _ _ qh3x0 (fun hHeld => ?_)
                         clear hK K;refine normZ (some 30) ?_
                         exact norm_ nP (hJ6_10_15_16_20 (v132, v136) _ ⟨hHeld, (mR HO133), (mR HO137), (mK BK128), (mK BK130), cB⟩)
                      ·skip;rintro ⟨v132, v136⟩ w29 ⟨hS_, h0_, h1_, h2_, h3_, h4_⟩
                       have n0_ : Aside0 (Kd.R (Kd.int .u8) 5 w29 w.heap.size (fun k_ => some k_ ≠ (v136 : Value).ownBlock) v132 y131) := ⟨h0_⟩
                       have n1_ : Aside0 (Kd.R (Kd.int .u8) 5 w29 w.heap.size (fun k_ => some k_ ≠ (v132 : Value).ownBlock) v136 y135) := ⟨h1_⟩
                       have n2_ := Aside0.mk h2_;have n3_ := Aside0.mk h3_;have n4_ := Aside0.mk h4_;clear BK128 BK130 HB h0_ h1_ h2_ h3_ h4_;have HO133 := n0_;have HO137 := n1_;have BK128 := n2_;have BK130 := n3_;have HB := n4_;clear n0_ n1_ n2_ n3_ n4_;have hHeld := hS_;refine norm_ (a' := ?_) ?_ ?_;rotate_left
                       ·simp only [putAll, Act.put, List.setIfInBounds_toArray, List.set_cons_zero, List.set_cons_succ];rfl
                       refine one_Z 10 (some 20) (msk 35 214824959) HT_.out fun K hK => ?_
                       refine goes_ Try.func32 (by kernel_rfl) rfl #[.int .i64 a0_2] (by rfl) rfl rfl (by (try simp only [List.map_toArray, List.map_cons, List.map_nil]); first | done | rfl | (simp only [List.length_drop, List.length_take]; rfl)) ?_
                       with_reducible refine (spec_l01Var.calls k a0_2 t134 _ A4.out).mono ?_;rintro e w30 ⟨rfl, hb⟩;refine ⟨_, rfl, ?_⟩;replace HO133 := rB HO133 hb;replace HO137 := rB HO137 hb;replace BK128 := kB BK128 hb;replace BK130 := kB BK130 hb;replace HB := sB hb;(try clear hb)
                       refine hK.out _ _ qh3x0 (fun hHeld => ?_)
                       clear hK K;refine normZ (some 20) ?_
                       refine pureZ 11 (some 21) (msk 35 214827007) HT_.out ?_;refine pureZ 17 (some 27) (msk 35 214958079) HT_.out ?_
                       exact norm_ nP (hJ6_7_10_15_16 (v132, v136) _ ⟨hHeld, (mR HO133), (mR HO137), (mK BK128), (mK BK130), cB⟩)
                     ·skip;rintro v132 w28 ⟨hS_, h0_, h1_, h2_, h3_⟩
                      have n0_ : Aside0 (Kd.R (Kd.int .u8) 5 w28 w.heap.size (fun _ => True) v132 y131) := ⟨h0_⟩
                      have n1_ := Aside0.mk h1_;have n2_ := Aside0.mk h2_;have n3_ := Aside0.mk h3_;clear BK128 BK130 HB h0_ h1_ h2_ h3_;have HO133 := n0_;have BK128 := n1_;have BK130 := n2_;have HB := n3_;clear n0_ n1_ n2_ n3_;have hHeld := hS_;refine norm_ (a' := ?_) ?_ ?_;rotate_left
                      ·simp only [putAll, Act.put, List.setIfInBounds_toArray, List.set_cons_zero, List.set_cons_succ];rfl
                      refine two_ (i := 15) (j := 24) (Ni := some 25) (Nj := some 34) #[true, true, true, true, true, true, true, true, true, true, true, true, true, true, true, true, false, false, true, true, true, false, true, true, false, false, true, true, false, false, false, false, false, false, false] #[true, true, true, true, true, true, true, true, true, true, true, true, true, true, true, false, false, false, true, true, true, false, true, true, true, false, true, true, false, false, false, false, false, false, false] rfl rfl rfl rfl (two_of HT_.out (by kernel_rfl)) (by decide) (by decide) (fun K hK => ?_) (fun K hK => ?_)
                      ·skip
                       refine Kd.R_lit_step (Kd.int .u8) _ 5 ?hg (N := 25) ?hd (xs := ([(a0_3) % 256] : List Int)) (inner := [.int .u8 ((a0_3) % 256)]) (ok := fun _ => True) (okp := fun _ => True) ?hr ?hp (fun _ hk => hk) trivial (Below.refl _ _) (Nat.le_refl _) (by simp) ?_; (case hd => rfl); (case hg => rfl); (case hr => first | (go_simp; done) | (go_simp; rfl)); (case hp => exact (Reps.one (show Kd.M (Kd.int .u8) _ _ _ ((a0_3) % 256) [.int .u8 ((a0_3) % 256)] from rfl) (Reps.none _ _)))
                       intro v136 w29 ho30 hb hg_ hnew_;clear hg_ hnew_
                       (first | rw [← Ny135.out] at ho30 | (simp only [Int.reduceToNat] at ho30; rw [← Ny135.out] at ho30))
                       have HO137 := Aside0.mk (Kd.R_lower (Kd.R_new' ho30 (Kd.R_lt (mR HO133))) (below_size cB));replace HO133 := eB HO133 (Kd.R_base ho30) hb;replace BK128 := kB BK128 hb;replace BK130 := kB BK130 hb;replace HB := sB hb;clear hb ho30
                       refine hK.out _ _ qh3x0 (fun hHeld => ?_)
                       clear hK K;refine normZ (some 25) ?_
                       exact norm_ nP (hJ6_7_10_15_20 (v132, v136) _ ⟨hHeld, (by (with_reducible repeat (first | apply Kd.R_alloc | apply Kd.R_drewN | apply Kd.R_drew)); exact Kd.R_mono HO133.out (fun _ hk => hk.2)), (by (with_reducible repeat (first | apply Kd.R_alloc | apply Kd.R_drewN | apply Kd.R_drew)); exact Kd.R_mono HO137.out (fun _ hk => hk.2)), (mK BK128), (mK BK130), cB⟩)
                      ·skip
                       refine goes_ Try.func33 (by kernel_rfl) rfl #[.int .i64 a0_5] (by rfl) rfl rfl (by (try simp only [List.map_toArray, List.map_cons, List.map_nil]); first | done | rfl | (simp only [List.length_drop, List.length_take]; rfl)) ?_
                       with_reducible refine (spec_l06Four.calls a0_5 t139 _ A9.out).mono ?_;rintro e w29 ⟨rfl, hb⟩;refine ⟨_, rfl, ?_⟩;replace HO133 := rB HO133 hb;replace BK128 := kB BK128 hb;replace BK130 := kB BK130 hb;replace HB := sB hb;(try clear hb)
                       refine hK.out _ _ qh3x0 (fun hHeld => ?_)
                       clear hK K;refine normZ (some 34) ?_
                       exact norm_ nP (hJ6_7_10_20_24 (v132) _ ⟨hHeld, (mR HO133), (mK BK128), (mK BK130), cB⟩)
                    ·skip;rintro ⟨v132, v136⟩ w29 ⟨hS_, h0_, h1_, h2_, h3_, h4_⟩
                     have n0_ : Aside0 (Kd.R (Kd.int .u8) 5 w29 w.heap.size (fun k_ => some k_ ≠ (v136 : Value).ownBlock) v132 y131) := ⟨h0_⟩
                     have n1_ : Aside0 (Kd.R (Kd.int .u8) 5 w29 w.heap.size (fun k_ => some k_ ≠ (v132 : Value).ownBlock) v136 y135) := ⟨h1_⟩
                     have n2_ := Aside0.mk h2_;have n3_ := Aside0.mk h3_;have n4_ := Aside0.mk h4_;clear BK128 BK130 HB h0_ h1_ h2_ h3_ h4_;have HO133 := n0_;have HO137 := n1_;have BK128 := n2_;have BK130 := n3_;have HB := n4_;clear n0_ n1_ n2_ n3_ n4_;have hHeld := hS_;refine norm_ (a' := ?_) ?_ ?_;rotate_left
                     ·simp only [putAll, Act.put, List.setIfInBounds_toArray, List.set_cons_zero, List.set_cons_succ];rfl
                     refine two_ (i := 16) (j := 20) (Ni := some 26) (Nj := some 30) #[true, true, true, true, true, true, true, true, true, true, true, true, true, true, true, true, true, false, true, true, false, false, true, true, false, false, true, true, false, false, false, false, false, false, false] #[true, true, true, true, true, true, true, true, true, true, true, true, true, true, true, true, false, false, true, true, true, false, true, true, false, false, true, true, false, false, false, false, false, false, false] rfl rfl rfl rfl (two_of HT_.out (by kernel_rfl)) (by decide) (by decide) (fun K hK => ?_) (fun K hK => ?_)
                     ·skip;have hcv30 := own_string (P := Try.prog) Try.underlying65 Try.underlying5 Try.underlying9 (Kd.own_of_R HO137.out)
                      refine value_ (w1 := ?_) (v := ?_) (by rfl) rfl ?_ ?_
                      rotate_left 2
                      ·go_simp;constructor
                       ·rfl
                       ·rfl
                      clear hcv30
                      refine hK.out _ _ qh3x0 (fun hHeld => ?_)
                      clear hK K;refine normZ (some 26) ?_
                      refine pureZ 17 (some 27) (msk 35 214958079) HT_.out ?_
                      exact norm_ nP (hJ6_7_10_15_16 (v132, v136) _ ⟨hHeld, (mR HO133), (mR HO137), (mK BK128), (mK BK130), cB⟩)
                     ·skip
                      refine goes_ Try.func33 (by kernel_rfl) rfl #[.int .i64 a0_4] (by rfl) rfl rfl (by (try simp only [List.map_toArray, List.map_cons, List.map_nil]); first | done | rfl | (simp only [List.length_drop, List.length_take]; rfl)) ?_
                      with_reducible refine (spec_l06Four.calls a0_4 t138 _ A7.out).mono ?_;rintro e w30 ⟨rfl, hb⟩;refine ⟨_, rfl, ?_⟩;replace HO133 := rB HO133 hb;replace HO137 := rB HO137 hb;replace BK128 := kB BK128 hb;replace BK130 := kB BK130 hb;replace HB := sB hb;(try clear hb)
                      refine hK.out _ _ qh3x0 (fun hHeld => ?_)
                      clear hK K;refine normZ (some 30) ?_
                      exact norm_ nP (hJ6_7_10_15_20 (v132, v136) _ ⟨hHeld, (mR HO133), (mR HO137), (mK BK128), (mK BK130), cB⟩)
                   ·skip;rintro v136 w29 ⟨hS_, h0_, h1_, h2_, h3_⟩
                    have n0_ : Aside0 (Kd.R (Kd.int .u8) 5 w29 w.heap.size (fun _ => True) v136 y135) := ⟨h0_⟩
                    have n1_ := Aside0.mk h1_;have n2_ := Aside0.mk h2_;have n3_ := Aside0.mk h3_;clear BK128 BK130 HB h0_ h1_ h2_ h3_;have HO137 := n0_;have BK128 := n1_;have BK130 := n2_;have HB := n3_;clear n0_ n1_ n2_ n3_;have hHeld := hS_;refine norm_ (a' := ?_) ?_ ?_;rotate_left
                    ·simp only [putAll, Act.put, List.setIfInBounds_toArray, List.set_cons_zero, List.set_cons_succ];rfl
                    refine two_ (i := 6) (j := 16) (Ni := some 16) (Nj := some 26) #[true, true, true, true, true, true, true, false, true, true, true, false, true, true, true, true, false, false, true, true, true, false, true, true, true, false, true, true, true, false, false, false, false, false, false] #[true, true, true, true, true, true, false, false, true, true, true, false, true, true, true, true, true, false, true, true, true, false, true, true, true, false, true, true, true, false, false, false, false, false, false] rfl rfl rfl rfl (two_of HT_.out (by kernel_rfl)) (by decide) (by decide) (fun K hK => ?_) (fun K hK => ?_)
                    ·skip
                     refine Kd.R_lit_step (Kd.int .u8) _ 5 ?hg (N := 16) ?hd (xs := ([(a0_0) % 256, (a0_1) % 256] : List Int)) (inner := [.int .u8 ((a0_0) % 256), .int .u8 ((a0_1) % 256)]) (ok := fun _ => True) (okp := fun _ => True) ?hr ?hp (fun _ hk => hk) trivial (Below.refl _ _) (Nat.le_refl _) (by simp) ?_; (case hd => rfl); (case hg => rfl); (case hr => first | (go_simp; done) | (go_simp; rfl)); (case hp => exact (Reps.one (show Kd.M (Kd.int .u8) _ _ _ ((a0_0) % 256) [.int .u8 ((a0_0) % 256)] from rfl) (Reps.one (show Kd.M (Kd.int .u8) _ _ _ ((a0_1) % 256) [.int .u8 ((a0_1) % 256)] from rfl) (Reps.none _ _))))
                     intro v132 w30 ho31 hb hg_ hnew_;clear hg_ hnew_
                     (first | rw [← Ny131.out] at ho31 | (simp only [Int.reduceToNat] at ho31; rw [← Ny131.out] at ho31))
                     have HO133 := Aside0.mk (Kd.R_lower (Kd.R_new' ho31 (Kd.R_lt (mR HO137))) (below_size cB));replace HO137 := eB HO137 (Kd.R_base ho31) hb;replace BK128 := kB BK128 hb;replace BK130 := kB BK130 hb;replace HB := sB hb;clear hb ho31
                     refine hK.out _ _ qh3x0 (fun hHeld => ?_)
                     clear hK K;refine normZ (some 16) ?_
                     exact norm_ nP (hJ6_10_15_20_24_28 (v132, v136) _ ⟨hHeld, (by (with_reducible repeat (first | apply Kd.R_alloc | apply Kd.R_drewN | apply Kd.R_drew)); exact Kd.R_mono HO133.out (fun _ hk => hk.2)), (by (with_reducible repeat (first | apply Kd.R_alloc | apply Kd.R_drewN | apply Kd.R_drew)); exact Kd.R_mono HO137.out (fun _ hk => hk.2)), (mK BK128), (mK BK130), cB⟩)
                    ·skip;have hcv30 := own_string (P := Try.prog) Try.underlying65 Try.underlying5 Try.underlying9 (Kd.own_of_R HO137.out)
                     refine value_ (w1 := ?_) (v := ?_) (by rfl) rfl ?_ ?_
                     rotate_left 2
                     ·go_simp;constructor
                      ·rfl
                      ·rfl
                     clear hcv30
                     refine hK.out _ _ qh3x0 (fun hHeld => ?_)
                     clear hK K;refine normZ (some 26) ?_
                     exact norm_ nP (hJ10_15_16_20_24_28 (v136) _ ⟨hHeld, (mR HO137), (mK BK128), (mK BK130), cB⟩)
                  ·skip;rintro v136 w29 ⟨hS_, h0_, h1_, h2_, h3_⟩
                   have n0_ : Aside0 (Kd.R (Kd.int .u8) 5 w29 w.heap.size (fun _ => True) v136 y135) := ⟨h0_⟩
                   have n1_ := Aside0.mk h1_;have n2_ := Aside0.mk h2_;have n3_ := Aside0.mk h3_;clear BK128 BK130 HB h0_ h1_ h2_ h3_;have HO137 := n0_;have BK128 := n1_;have BK130 := n2_;have HB := n3_;clear n0_ n1_ n2_ n3_;have hHeld := hS_;refine norm_ (a' := ?_) ?_ ?_;rotate_left
                   ·simp only [putAll, Act.put, List.setIfInBounds_toArray, List.set_cons_zero, List.set_cons_succ];rfl
                   refine two_ (i := 6) (j := 28) (Ni := some 16) (Nj := some 38) #[true, true, true, true, true, true, true, false, true, true, true, false, true, true, true, true, true, false, true, true, true, false, true, true, true, false, true, true, false, false, false, false, false, false, false] #[true, true, true, true, true, true, false, false, true, true, true, false, true, true, true, true, true, false, true, true, true, false, true, true, true, false, true, true, true, false, false, false, false, false, false] rfl rfl rfl rfl (two_of HT_.out (by kernel_rfl)) (by decide) (by decide) (fun K hK => ?_) (fun K hK => ?_)
                   ·skip
                    refine Kd.R_lit_step (Kd.int .u8) _ 5 ?hg (N := 16) ?hd (xs := ([(a0_0) % 256, (a0_1) % 256] : List Int)) (inner := [.int .u8 ((a0_0) % 256), .int .u8 ((a0_1) % 256)]) (ok := fun _ => True) (okp := fun _ => True) ?hr ?hp (fun _ hk => hk) trivial (Below.refl _ _) (Nat.le_refl _) (by simp) ?_; (case hd => rfl); (case hg => rfl); (case hr => first | (go_simp; done) | (go_simp; rfl)); (case hp => exact (Reps.one (show Kd.M (Kd.int .u8) _ _ _ ((a0_0) % 256) [.int .u8 ((a0_0) % 256)] from rfl) (Reps.one (show Kd.M (Kd.int .u8) _ _ _ ((a0_1) % 256) [.int .u8 ((a0_1) % 256)] from rfl) (Reps.none _ _))))
                    intro v132 w30 ho31 hb hg_ hnew_;clear hg_ hnew_
                    (first | rw [← Ny131.out] at ho31 | (simp only [Int.reduceToNat] at ho31; rw [← Ny131.out] at ho31))
                    have HO133 := Aside0.mk (Kd.R_lower (Kd.R_new' ho31 (Kd.R_lt (mR HO137))) (below_size cB));replace HO137 := eB HO137 (Kd.R_base ho31) hb;replace BK128 := kB BK128 hb;replace BK130 := kB BK130 hb;replace HB := sB hb;clear hb ho31
                    refine hK.out _ _ qh3x0 (fun hHeld => ?_)
                    clear hK K;refine normZ (some 16) ?_
                    exact norm_ nP (hJ6_10_15_16_20_24 (v132, v136) _ ⟨hHeld, (by (with_reducible repeat (first | apply Kd.R_alloc | apply Kd.R_drewN | apply Kd.R_drew)); exact Kd.R_mono HO133.out (fun _ hk => hk.2)), (by (with_reducible repeat (first | apply Kd.R_alloc | apply Kd.R_drewN | apply Kd.R_drew)); exact Kd.R_mono HO137.out (fun _ hk => hk.2)), (mK BK128), (mK BK130), cB⟩)
                   ·skip
                    refine goes_ Try.func32 (by kernel_rfl) rfl #[.int .i64 a0_6] (by rfl) rfl rfl (by (try simp only [List.map_toArray, List.map_cons, List.map_nil]); first | done | rfl | (simp only [List.length_drop, List.length_take]; rfl)) ?_
                    with_reducible refine (spec_l01Var.calls k a0_6 t140 _ A11.out).mono ?_;rintro e w30 ⟨rfl, hb⟩;refine ⟨_, rfl, ?_⟩;replace HO137 := rB HO137 hb;replace BK128 := kB BK128 hb;replace BK130 := kB BK130 hb;replace HB := sB hb;(try clear hb)
                    refine hK.out _ _ qh3x0 (fun hHeld => ?_)
                    clear hK K;refine normZ (some 38) ?_
                    exact norm_ nP (hJ10_15_16_20_24_28 (v136) _ ⟨hHeld, (mR HO137), (mK BK128), (mK BK130), cB⟩)
                 ·skip;rintro v132 w29 ⟨hS_, h0_, h1_, h2_, h3_⟩
                  have n0_ : Aside0 (Kd.R (Kd.int .u8) 5 w29 w.heap.size (fun _ => True) v132 y131) := ⟨h0_⟩
                  have n1_ := Aside0.mk h1_;have n2_ := Aside0.mk h2_;have n3_ := Aside0.mk h3_;clear BK128 BK130 HB h0_ h1_ h2_ h3_;have HO133 := n0_;have BK128 := n1_;have BK130 := n2_;have HB := n3_;clear n0_ n1_ n2_ n3_;have hHeld := hS_;refine norm_ (a' := ?_) ?_ ?_;rotate_left
                  ·simp only [putAll, Act.put, List.setIfInBounds_toArray, List.set_cons_zero, List.set_cons_succ];rfl
                  refine two_ (i := 7) (j := 15) (Ni := some 17) (Nj := some 25) #[true, true, true, true, true, true, true, true, true, true, true, false, true, true, true, false, false, false, true, true, true, false, true, true, true, false, true, true, true, false, false, false, false, false, false] #[true, true, true, true, true, true, true, false, true, true, true, false, true, true, true, true, false, false, true, true, true, false, true, true, true, false, true, true, true, false, false, false, false, false, false] rfl rfl rfl rfl (two_of HT_.out (by kernel_rfl)) (by decide) (by decide) (fun K hK => ?_) (fun K hK => ?_)
                  ·skip;have hcv30 := own_string (P := Try.prog) Try.underlying65 Try.underlying5 Try.underlying9 (Kd.own_of_R HO133.out)
                   refine value_ (w1 := ?_) (v := ?_) (by rfl) rfl ?_ ?_
                   rotate_left 2
                   ·go_simp;constructor
                    ·rfl
                    ·rfl
                   clear hcv30
                   refine hK.out _ _ qh3x0 (fun hHeld => ?_)
                   clear hK K;refine normZ (some 17) ?_
                   refine pureZ 11 (some 21) (msk 35 500989951) HT_.out ?_
                   exact norm_ nP (hJ6_7_10_20_24_28 (v132) _ ⟨hHeld, (mR HO133), (mK BK128), (mK BK130), cB⟩)
                  ·skip
                   refine Kd.R_lit_step (Kd.int .u8) _ 5 ?hg (N := 25) ?hd (xs := ([(a0_3) % 256] : List Int)) (inner := [.int .u8 ((a0_3) % 256)]) (ok := fun _ => True) (okp := fun _ => True) ?hr ?hp (fun _ hk => hk) trivial (Below.refl _ _) (Nat.le_refl _) (by simp) ?_; (case hd => rfl); (case hg => rfl); (case hr => first | (go_simp; done) | (go_simp; rfl)); (case hp => exact (Reps.one (show Kd.M (Kd.int .u8) _ _ _ ((a0_3) % 256) [.int .u8 ((a0_3) % 256)] from rfl) (Reps.none _ _)))
                   intro v136 w30 ho31 hb hg_ hnew_;clear hg_ hnew_
                   (first | rw [← Ny135.out] at ho31 | (simp only [Int.reduceToNat] at ho31; rw [← Ny135.out] at ho31))
                   have HO137 := Aside0.mk (Kd.R_lower (Kd.R_new' ho31 (Kd.R_lt (mR HO133))) (below_size cB));replace HO133 := eB HO133 (Kd.R_base ho31) hb;replace BK128 := kB BK128 hb;replace BK130 := kB BK130 hb;replace HB := sB hb;clear hb ho31
                   refine hK.out _ _ qh3x0 (fun hHeld => ?_)
                   clear hK K;refine normZ (some 25) ?_
                   exact norm_ nP (hJ6_10_15_20_24_28 (v132, v136) _ ⟨hHeld, (by (with_reducible repeat (first | apply Kd.R_alloc | apply Kd.R_drewN | apply Kd.R_drew)); exact Kd.R_mono HO133.out (fun _ hk => hk.2)), (by (with_reducible repeat (first | apply Kd.R_alloc | apply Kd.R_drewN | apply Kd.R_drew)); exact Kd.R_mono HO137.out (fun _ hk => hk.2)), (mK BK128), (mK BK130), cB⟩)
                ·skip;rintro ⟨v132, v136⟩ w30 ⟨hS_, h0_, h1_, h2_, h3_, h4_⟩
                 have n0_ : Aside0 (Kd.R (Kd.int .u8) 5 w30 w.heap.size (fun k_ => some k_ ≠ (v136 : Value).ownBlock) v132 y131) := ⟨h0_⟩
                 have n1_ : Aside0 (Kd.R (Kd.int .u8) 5 w30 w.heap.size (fun k_ => some k_ ≠ (v132 : Value).ownBlock) v136 y135) := ⟨h1_⟩
                 have n2_ := Aside0.mk h2_;have n3_ := Aside0.mk h3_;have n4_ := Aside0.mk h4_;clear BK128 BK130 HB h0_ h1_ h2_ h3_ h4_;have HO133 := n0_;have HO137 := n1_;have BK128 := n2_;have BK130 := n3_;have HB := n4_;clear n0_ n1_ n2_ n3_ n4_;have hHeld := hS_;refine norm_ (a' := ?_) ?_ ?_;rotate_left
                 ·simp only [putAll, Act.put, List.setIfInBounds_toArray, List.set_cons_zero, List.set_cons_succ];rfl
                 refine three_ (i := 7) (j := 16) (k := 28) (Ni := some 17) (Nj := some 26) (Nk := some 38) #[true, true, true, true, true, true, true, true, true, true, true, false, true, true, true, true, false, false, true, true, true, false, true, true, true, false, true, true, false, false, false, false, false, false, false] #[true, true, true, true, true, true, true, false, true, true, true, false, true, true, true, true, true, false, true, true, true, false, true, true, true, false, true, true, false, false, false, false, false, false, false] #[true, true, true, true, true, true, true, false, true, true, true, false, true, true, true, true, false, false, true, true, true, false, true, true, true, false, true, true, true, false, false, false, false, false, false] rfl rfl rfl rfl rfl rfl (three_of HT_.out (by kernel_rfl)) (by decide) (by decide) (by decide) (fun K hK => ?_) (fun K hK => ?_) (fun K hK => ?_)
                 ·skip;have hcv31 := own_string (P := Try.prog) Try.underlying65 Try.underlying5 Try.underlying9 (Kd.own_of_R HO133.out)
                  refine value_ (w1 := ?_) (v := ?_) (by rfl) rfl ?_ ?_
                  rotate_left 2
                  ·go_simp;constructor
                   ·rfl
                   ·rfl
                  clear hcv31
                  refine hK.out _ _ qh3x0 (fun hHeld => ?_)
                  clear hK K;refine normZ (some 17) ?_
                  refine pureZ 11 (some 21) (msk 35 232587263) HT_.out ?_
                  exact norm_ nP (hJ6_7_10_15_20_24 (v132, v136) _ ⟨hHeld, (mR HO133), (mR HO137), (mK BK128), (mK BK130), cB⟩)
                 ·skip;have hcv31 := own_string (P := Try.prog) Try.underlying65 Try.underlying5 Try.underlying9 (Kd.own_of_R HO137.out)
                  refine value_ (w1 := ?_) (v := ?_) (by rfl) rfl ?_ ?_
                  rotate_left 2
                  ·go_simp;constructor
                   ·rfl
                   ·rfl
                  clear hcv31
                  refine hK.out _ _ qh3x0 (fun hHeld => ?_)
                  clear hK K;refine normZ (some 26) ?_
                  exact norm_ nP (hJ6_10_15_16_20_24 (v132, v136) _ ⟨hHeld, (mR HO133), (mR HO137), (mK BK128), (mK BK130), cB⟩)
                 ·skip
                  refine goes_ Try.func32 (by kernel_rfl) rfl #[.int .i64 a0_6] (by rfl) rfl rfl (by (try simp only [List.map_toArray, List.map_cons, List.map_nil]); first | done | rfl | (simp only [List.length_drop, List.length_take]; rfl)) ?_
                  with_reducible refine (spec_l01Var.calls k a0_6 t140 _ A11.out).mono ?_;rintro e w31 ⟨rfl, hb⟩;refine ⟨_, rfl, ?_⟩;replace HO133 := rB HO133 hb;replace HO137 := rB HO137 hb;replace BK128 := kB BK128 hb;replace BK130 := kB BK130 hb;replace HB := sB hb;(try clear hb)
                  refine hK.out _ _ qh3x0 (fun hHeld => ?_)
                  clear hK K;refine normZ (some 38) ?_
                  exact norm_ nP (hJ6_10_15_20_24_28 (v132, v136) _ ⟨hHeld, (mR HO133), (mR HO137), (mK BK128), (mK BK130), cB⟩)
               ·skip;rintro ⟨v132, v136⟩ w30 ⟨hS_, h0_, h1_, h2_, h3_, h4_⟩
                have n0_ : Aside0 (Kd.R (Kd.int .u8) 5 w30 w.heap.size (fun k_ => some k_ ≠ (v136 : Value).ownBlock) v132 y131) := ⟨h0_⟩
                have n1_ : Aside0 (Kd.R (Kd.int .u8) 5 w30 w.heap.size (fun k_ => some k_ ≠ (v132 : Value).ownBlock) v136 y135) := ⟨h1_⟩
                have n2_ := Aside0.mk h2_;have n3_ := Aside0.mk h3_;have n4_ := Aside0.mk h4_;clear BK128 BK130 HB h0_ h1_ h2_ h3_ h4_;have HO133 := n0_;have HO137 := n1_;have BK128 := n2_;have BK130 := n3_;have HB := n4_;clear n0_ n1_ n2_ n3_ n4_;have hHeld := hS_;refine norm_ (a' := ?_) ?_ ?_;rotate_left
                ·simp only [putAll, Act.put, List.setIfInBounds_toArray, List.set_cons_zero, List.set_cons_succ];rfl
                refine two_ (i := 7) (j := 24) (Ni := some 17) (Nj := some 34) #[true, true, true, true, true, true, true, true, true, true, true, false, true, true, true, true, true, false, true, true, true, false, true, true, false, false, true, true, false, false, false, false, false, false, false] #[true, true, true, true, true, true, true, false, true, true, true, false, true, true, true, true, true, false, true, true, true, false, true, true, true, false, true, true, false, false, false, false, false, false, false] rfl rfl rfl rfl (two_of HT_.out (by kernel_rfl)) (by decide) (by decide) (fun K hK => ?_) (fun K hK => ?_)
                ·skip;have hcv31 := own_string (P := Try.prog) Try.underlying65 Try.underlying5 Try.underlying9 (Kd.own_of_R HO133.out)
                 refine value_ (w1 := ?_) (v := ?_) (by rfl) rfl ?_ ?_
                 rotate_left 2
                 ·go_simp;constructor
                  ·rfl
                  ·rfl
                 clear hcv31
                 refine hK.out _ _ qh3x0 (fun hHeld => ?_)
                 clear hK K;refine normZ (some 17) ?_
                 refine pureZ 11 (some 21) (msk 35 215875583) HT_.out ?_;refine pureZ 17 (some 27) (msk 35 216006655) HT_.out ?_;refine pureZ 21 (some 31) (msk 35 218103807) HT_.out ?_
                 exact norm_ nP (hJ6_7_10_15_16_20 (v132, v136) _ ⟨hHeld, (mR HO133), (mR HO137), (mK BK128), (mK BK130), cB⟩)
                ·skip
                 refine goes_ Try.func33 (by kernel_rfl) rfl #[.int .i64 a0_5] (by rfl) rfl rfl (by (try simp only [List.map_toArray, List.map_cons, List.map_nil]); first | done | rfl | (simp only [List.length_drop, List.length_take]; rfl)) ?_
                 with_reducible refine (spec_l06Four.calls a0_5 t139 _ A9.out).mono ?_;rintro e w31 ⟨rfl, hb⟩;refine ⟨_, rfl, ?_⟩;replace HO133 := rB HO133 hb;replace HO137 := rB HO137 hb;replace BK128 := kB BK128 hb;replace BK130 := kB BK130 hb;replace HB := sB hb;(try clear hb)
                 refine hK.out _ _ qh3x0 (fun hHeld => ?_)
                 clear hK K;refine normZ (some 34) ?_
                 exact norm_ nP (hJ6_10_15_16_20_24 (v132, v136) _ ⟨hHeld, (mR HO133), (mR HO137), (mK BK128), (mK BK130), cB⟩)
              ·skip;rintro v132 w29 ⟨hS_, h0_, h1_, h2_, h3_⟩
               have n0_ : Aside0 (Kd.R (Kd.int .u8) 5 w29 w.heap.size (fun _ => True) v132 y131) := ⟨h0_⟩
               have n1_ := Aside0.mk h1_;have n2_ := Aside0.mk h2_;have n3_ := Aside0.mk h3_;clear BK128 BK130 HB h0_ h1_ h2_ h3_;have HO133 := n0_;have BK128 := n1_;have BK130 := n2_;have HB := n3_;clear n0_ n1_ n2_ n3_;have hHeld := hS_;refine norm_ (a' := ?_) ?_ ?_;rotate_left
               ·simp only [putAll, Act.put, List.setIfInBounds_toArray, List.set_cons_zero, List.set_cons_succ];rfl
               refine two_ (i := 15) (j := 28) (Ni := some 25) (Nj := some 38) #[true, true, true, true, true, true, true, true, true, true, true, true, true, true, true, true, false, false, true, true, true, false, true, true, true, false, true, true, false, false, false, false, false, false, false] #[true, true, true, true, true, true, true, true, true, true, true, true, true, true, true, false, false, false, true, true, true, false, true, true, true, false, true, true, true, false, false, false, false, false, false] rfl rfl rfl rfl (two_of HT_.out (by kernel_rfl)) (by decide) (by decide) (fun K hK => ?_) (fun K hK => ?_)
               ·skip
                refine Kd.R_lit_step (Kd.int .u8) _ 5 ?hg (N := 25) ?hd (xs := ([(a0_3) % 256] : List Int)) (inner := [.int .u8 ((a0_3) % 256)]) (ok := fun _ => True) (okp := fun _ => True) ?hr ?hp (fun _ hk => hk) trivial (Below.refl _ _) (Nat.le_refl _) (by simp) ?_; (case hd => rfl); (case hg => rfl); (case hr => first | (go_simp; done) | (go_simp; rfl)); (case hp => exact (Reps.one (show Kd.M (Kd.int .u8) _ _ _ ((a0_3) % 256) [.int .u8 ((a0_3) % 256)] from rfl) (Reps.none _ _)))
                intro v136 w30 ho31 hb hg_ hnew_;clear hg_ hnew_
                (first | rw [← Ny135.out] at ho31 | (simp only [Int.reduceToNat] at ho31; rw [← Ny135.out] at ho31))
                have HO137 := Aside0.mk (Kd.R_lower (Kd.R_new' ho31 (Kd.R_lt (mR HO133))) (below_size cB));replace HO133 := eB HO133 (Kd.R_base ho31) hb;replace BK128 := kB BK128 hb;replace BK130 := kB BK130 hb;replace HB := sB hb;clear hb ho31
                refine hK.out _ _ qh3x0 (fun hHeld => ?_)
                clear hK K;refine normZ (some 25) ?_
                exact norm_ nP (hJ6_7_10_15_20_24 (v132, v136) _ ⟨hHeld, (by (with_reducible repeat (first | apply Kd.R_alloc | apply Kd.R_drewN | apply Kd.R_drew)); exact Kd.R_mono HO133.out (fun _ hk => hk.2)), (by (with_reducible repeat (first | apply Kd.R_alloc | apply Kd.R_drewN | apply Kd.R_drew)); exact Kd.R_mono HO137.out (fun _ hk => hk.2)), (mK BK128), (mK BK130), cB⟩)
               ·skip
                refine goes_ Try.func32 (by kernel_rfl) rfl #[.int .i64 a0_6] (by rfl) rfl rfl (by (try simp only [List.map_toArray, List.map_cons, List.map_nil]); first | done | rfl | (simp only [List.length_drop, List.length_take]; rfl)) ?_
                with_reducible refine (spec_l01Var.calls k a0_6 t140 _ A11.out).mono ?_;rintro e w30 ⟨rfl, hb⟩;refine ⟨_, rfl, ?_⟩;replace HO133 := rB HO133 hb;replace BK128 := kB BK128 hb;replace BK130 := kB BK130 hb;replace HB := sB hb;(try clear hb)
                refine hK.out _ _ qh3x0 (fun hHeld => ?_)
                clear hK K;refine normZ (some 38) ?_
                exact norm_ nP (hJ6_7_10_20_24_28 (v132) _ ⟨hHeld, (mR HO133), (mK BK128), (mK BK130), cB⟩)
             ·skip;rintro ⟨v132, v136⟩ w30 ⟨hS_, h0_, h1_, h2_, h3_, h4_⟩
              have n0_ : Aside0 (Kd.R (Kd.int .u8) 5 w30 w.heap.size (fun k_ => some k_ ≠ (v136 : Value).ownBlock) v132 y131) := ⟨h0_⟩
              have n1_ : Aside0 (Kd.R (Kd.int .u8) 5 w30 w.heap.size (fun k_ => some k_ ≠ (v132 : Value).ownBlock) v136 y135) := ⟨h1_⟩
              have n2_ := Aside0.mk h2_;have n3_ := Aside0.mk h3_;have n4_ := Aside0.mk h4_;clear BK128 BK130 HB h0_ h1_ h2_ h3_ h4_;have HO133 := n0_;have HO137 := n1_;have BK128 := n2_;have BK130 := n3_;have HB := n4_;clear n0_ n1_ n2_ n3_ n4_;have hHeld := hS_;refine norm_ (a' := ?_) ?_ ?_;rotate_left
              ·simp only [putAll, Act.put, List.setIfInBounds_toArray, List.set_cons_zero, List.set_cons_succ];rfl
              refine two_ (i := 16) (j := 24) (Ni := some 26) (Nj := some 34) #[true, true, true, true, true, true, true, true, true, true, true, true, true, true, true, true, true, false, true, true, true, false, true, true, false, false, true, true, false, false, false, false, false, false, false] #[true, true, true, true, true, true, true, true, true, true, true, true, true, true, true, true, false, false, true, true, true, false, true, true, true, false, true, true, false, false, false, false, false, false, false] rfl rfl rfl rfl (two_of HT_.out (by kernel_rfl)) (by decide) (by decide) (fun K hK => ?_) (fun K hK => ?_)
              ·skip;have hcv31 := own_string (P := Try.prog) Try.underlying65 Try.underlying5 Try.underlying9 (Kd.own_of_R HO137.out)
               refine value_ (w1 := ?_) (v := ?_) (by rfl) rfl ?_ ?_
               rotate_left 2
               ·go_simp;constructor
                ·rfl
                ·rfl
               clear hcv31
               refine hK.out _ _ qh3x0 (fun hHeld => ?_)
               clear hK K;refine normZ (some 26) ?_
               refine pureZ 17 (some 27) (msk 35 216006655) HT_.out ?_;refine pureZ 21 (some 31) (msk 35 218103807) HT_.out ?_
               exact norm_ nP (hJ6_7_10_15_16_20 (v132, v136) _ ⟨hHeld, (mR HO133), (mR HO137), (mK BK128), (mK BK130), cB⟩)
              ·skip
               refine goes_ Try.func33 (by kernel_rfl) rfl #[.int .i64 a0_5] (by rfl) rfl rfl (by (try simp only [List.map_toArray, List.map_cons, List.map_nil]); first | done | rfl | (simp only [List.length_drop, List.length_take]; rfl)) ?_
               with_reducible refine (spec_l06Four.calls a0_5 t139 _ A9.out).mono ?_;rintro e w31 ⟨rfl, hb⟩;refine ⟨_, rfl, ?_⟩;replace HO133 := rB HO133 hb;replace HO137 := rB HO137 hb;replace BK128 := kB BK128 hb;replace BK130 := kB BK130 hb;replace HB := sB hb;(try clear hb)
               refine hK.out _ _ qh3x0 (fun hHeld => ?_)
               clear hK K;refine normZ (some 34) ?_
               exact norm_ nP (hJ6_7_10_15_20_24 (v132, v136) _ ⟨hHeld, (mR HO133), (mR HO137), (mK BK128), (mK BK130), cB⟩)
            ·skip;rintro ⟨v132, v136⟩ w30 ⟨hS_, h0_, h1_, h2_, h3_, h4_⟩
             have n0_ : Aside0 (Kd.R (Kd.int .u8) 5 w30 w.heap.size (fun k_ => some k_ ≠ (v136 : Value).ownBlock) v132 y131) := ⟨h0_⟩
             have n1_ : Aside0 (Kd.R (Kd.int .u8) 5 w30 w.heap.size (fun k_ => some k_ ≠ (v132 : Value).ownBlock) v136 y135) := ⟨h1_⟩
             have n2_ := Aside0.mk h2_;have n3_ := Aside0.mk h3_;have n4_ := Aside0.mk h4_;clear BK128 BK130 HB h0_ h1_ h2_ h3_ h4_;have HO133 := n0_;have HO137 := n1_;have BK128 := n2_;have BK130 := n3_;have HB := n4_;clear n0_ n1_ n2_ n3_ n4_;have hHeld := hS_;refine norm_ (a' := ?_) ?_ ?_;rotate_left
             ·simp only [putAll, Act.put, List.setIfInBounds_toArray, List.set_cons_zero, List.set_cons_succ];rfl
             refine one_Z 20 (some 30) (msk 35 216006655) HT_.out fun K hK => ?_
             refine goes_ Try.func33 (by kernel_rfl) rfl #[.int .i64 a0_4] (by rfl) rfl rfl (by (try simp only [List.map_toArray, List.map_cons, List.map_nil]); first | done | rfl | (simp only [List.length_drop, List.length_take]; rfl)) ?_
             with_reducible refine (spec_l06Four.calls a0_4 t138 _ A7.out).mono ?_;rintro e w31 ⟨rfl, hb⟩;refine ⟨_, rfl, ?_⟩;replace HO133 := rB HO133 hb;replace HO137 := rB HO137 hb;replace BK128 := kB BK128 hb;replace BK130 := kB BK130 hb;replace HB := sB hb;(try clear hb)
             refine hK.out _ _ qh3x0 (fun hHeld => ?_)
             clear hK K;refine normZ (some 30) ?_
             refine pureZ 21 (some 31) (msk 35 218103807) HT_.out ?_
             exact norm_ nP (hJ6_7_10_15_16_20 (v132, v136) _ ⟨hHeld, (mR HO133), (mR HO137), (mK BK128), (mK BK130), cB⟩)
           ·skip;rintro v136 w30 ⟨hS_, h0_, h1_, h2_, h3_⟩
            have n0_ : Aside0 (Kd.R (Kd.int .u8) 5 w30 w.heap.size (fun _ => True) v136 y135) := ⟨h0_⟩
            have n1_ := Aside0.mk h1_;have n2_ := Aside0.mk h2_;have n3_ := Aside0.mk h3_;clear BK128 BK130 HB h0_ h1_ h2_ h3_;have HO137 := n0_;have BK128 := n1_;have BK130 := n2_;have HB := n3_;clear n0_ n1_ n2_ n3_;have hHeld := hS_;refine norm_ (a' := ?_) ?_ ?_;rotate_left
            ·simp only [putAll, Act.put, List.setIfInBounds_toArray, List.set_cons_zero, List.set_cons_succ];rfl
            refine one_Z 6 (some 16) (msk 35 501086079) HT_.out fun K hK => ?_
            refine Kd.R_lit_step (Kd.int .u8) _ 5 ?hg (N := 16) ?hd (xs := ([(a0_0) % 256, (a0_1) % 256] : List Int)) (inner := [.int .u8 ((a0_0) % 256), .int .u8 ((a0_1) % 256)]) (ok := fun _ => True) (okp := fun _ => True) ?hr ?hp (fun _ hk => hk) trivial (Below.refl _ _) (Nat.le_refl _) (by simp) ?_; (case hd => rfl); (case hg => rfl); (case hr => first | (go_simp; done) | (go_simp; rfl)); (case hp => exact (Reps.one (show Kd.M (Kd.int .u8) _ _ _ ((a0_0) % 256) [.int .u8 ((a0_0) % 256)] from rfl) (Reps.one (show Kd.M (Kd.int .u8) _ _ _ ((a0_1) % 256) [.int .u8 ((a0_1) % 256)] from rfl) (Reps.none _ _))))
            intro v132 w31 ho32 hb hg_ hnew_;clear hg_ hnew_
            (first | rw [← Ny131.out] at ho32 | (simp only [Int.reduceToNat] at ho32; rw [← Ny131.out] at ho32))
            have HO133 := Aside0.mk (Kd.R_lower (Kd.R_new' ho32 (Kd.R_lt (mR HO137))) (below_size cB));replace HO137 := eB HO137 (Kd.R_base ho32) hb;replace BK128 := kB BK128 hb;replace BK130 := kB BK130 hb;replace HB := sB hb;clear hb ho32
            refine hK.out _ _ qh3x0 (fun hHeld => ?_)
            clear hK K;refine normZ (some 16) ?_
            exact norm_ nP (hJ6_10_15_16_20_24_28 (v132, v136) _ ⟨hHeld, (by (with_reducible repeat (first | apply Kd.R_alloc | apply Kd.R_drewN | apply Kd.R_drew)); exact Kd.R_mono HO133.out (fun _ hk => hk.2)), (by (with_reducible repeat (first | apply Kd.R_alloc | apply Kd.R_drewN | apply Kd.R_drew)); exact Kd.R_mono HO137.out (fun _ hk => hk.2)), (mK BK128), (mK BK130), cB⟩)
          ·skip;rintro ⟨v132, v136⟩ w31 ⟨hS_, h0_, h1_, h2_, h3_, h4_⟩
           have n0_ : Aside0 (Kd.R (Kd.int .u8) 5 w31 w.heap.size (fun k_ => some k_ ≠ (v136 : Value).ownBlock) v132 y131) := ⟨h0_⟩
           have n1_ : Aside0 (Kd.R (Kd.int .u8) 5 w31 w.heap.size (fun k_ => some k_ ≠ (v132 : Value).ownBlock) v136 y135) := ⟨h1_⟩
           have n2_ := Aside0.mk h2_;have n3_ := Aside0.mk h3_;have n4_ := Aside0.mk h4_;clear BK128 BK130 HB h0_ h1_ h2_ h3_ h4_;have HO133 := n0_;have HO137 := n1_;have BK128 := n2_;have BK130 := n3_;have HB := n4_;clear n0_ n1_ n2_ n3_ n4_;have hHeld := hS_;refine norm_ (a' := ?_) ?_ ?_;rotate_left
           ·simp only [putAll, Act.put, List.setIfInBounds_toArray, List.set_cons_zero, List.set_cons_succ];rfl
           refine two_ (i := 7) (j := 16) (Ni := some 17) (Nj := some 26) #[true, true, true, true, true, true, true, true, true, true, true, false, true, true, true, true, false, false, true, true, true, false, true, true, true, false, true, true, true, false, false, false, false, false, false] #[true, true, true, true, true, true, true, false, true, true, true, false, true, true, true, true, true, false, true, true, true, false, true, true, true, false, true, true, true, false, false, false, false, false, false] rfl rfl rfl rfl (two_of HT_.out (by kernel_rfl)) (by decide) (by decide) (fun K hK => ?_) (fun K hK => ?_)
           ·skip;have hcv32 := own_string (P := Try.prog) Try.underlying65 Try.underlying5 Try.underlying9 (Kd.own_of_R HO133.out)
            refine value_ (w1 := ?_) (v := ?_) (by rfl) rfl ?_ ?_
            rotate_left 2
            ·go_simp;constructor
             ·rfl
             ·rfl
            clear hcv32
            refine hK.out _ _ qh3x0 (fun hHeld => ?_)
            clear hK K;refine normZ (some 17) ?_
            refine pureZ 11 (some 21) (msk 35 501022719) HT_.out ?_
            exact norm_ nP (hJ6_7_10_15_20_24_28 (v132, v136) _ ⟨hHeld, (mR HO133), (mR HO137), (mK BK128), (mK BK130), cB⟩)
           ·skip;have hcv32 := own_string (P := Try.prog) Try.underlying65 Try.underlying5 Try.underlying9 (Kd.own_of_R HO137.out)
            refine value_ (w1 := ?_) (v := ?_) (by rfl) rfl ?_ ?_
            rotate_left 2
            ·go_simp;constructor
             ·rfl
             ·rfl
            clear hcv32
            refine hK.out _ _ qh3x0 (fun hHeld => ?_)
            clear hK K;refine normZ (some 26) ?_
            exact norm_ nP (hJ6_10_15_16_20_24_28 (v132, v136) _ ⟨hHeld, (mR HO133), (mR HO137), (mK BK128), (mK BK130), cB⟩)
         ·skip;rintro ⟨v132, v136⟩ w31 ⟨hS_, h0_, h1_, h2_, h3_, h4_⟩
          have n0_ : Aside0 (Kd.R (Kd.int .u8) 5 w31 w.heap.size (fun k_ => some k_ ≠ (v136 : Value).ownBlock) v132 y131) := ⟨h0_⟩
          have n1_ : Aside0 (Kd.R (Kd.int .u8) 5 w31 w.heap.size (fun k_ => some k_ ≠ (v132 : Value).ownBlock) v136 y135) := ⟨h1_⟩
          have n2_ := Aside0.mk h2_;have n3_ := Aside0.mk h3_;have n4_ := Aside0.mk h4_;clear BK128 BK130 HB h0_ h1_ h2_ h3_ h4_;have HO133 := n0_;have HO137 := n1_;have BK128 := n2_;have BK130 := n3_;have HB := n4_;clear n0_ n1_ n2_ n3_ n4_;have hHeld := hS_;refine norm_ (a' := ?_) ?_ ?_;rotate_left
          ·simp only [putAll, Act.put, List.setIfInBounds_toArray, List.set_cons_zero, List.set_cons_succ];rfl
          refine two_ (i := 7) (j := 28) (Ni := some 17) (Nj := some 38) #[true, true, true, true, true, true, true, true, true, true, true, false, true, true, true, true, true, false, true, true, true, false, true, true, true, false, true, true, false, false, false, false, false, false, false] #[true, true, true, true, true, true, true, false, true, true, true, false, true, true, true, true, true, false, true, true, true, false, true, true, true, false, true, true, true, false, false, false, false, false, false] rfl rfl rfl rfl (two_of HT_.out (by kernel_rfl)) (by decide) (by decide) (fun K hK => ?_) (fun K hK => ?_)
          ·skip;have hcv32 := own_string (P := Try.prog) Try.underlying65 Try.underlying5 Try.underlying9 (Kd.own_of_R HO133.out)
           refine value_ (w1 := ?_) (v := ?_) (by rfl) rfl ?_ ?_
           rotate_left 2
           ·go_simp;constructor
            ·rfl
            ·rfl
           clear hcv32
           refine hK.out _ _ qh3x0 (fun hHeld => ?_)
           clear hK K;refine normZ (some 17) ?_
           refine pureZ 11 (some 21) (msk 35 232652799) HT_.out ?_;refine pureZ 17 (some 27) (msk 35 232783871) HT_.out ?_;refine pureZ 21 (some 31) (msk 35 234881023) HT_.out ?_;refine pureZ 25 (some 35) (msk 35 268435455) HT_.out ?_
           exact norm_ nP (hJ6_7_10_15_16_20_24 (v132, v136) _ ⟨hHeld, (mR HO133), (mR HO137), (mK BK128), (mK BK130), cB⟩)
          ·skip
           refine goes_ Try.func32 (by kernel_rfl) rfl #[.int .i64 a0_6] (by rfl) rfl rfl (by (try simp only [List.map_toArray, List.map_cons, List.map_nil]); first | done | rfl | (simp only [List.length_drop, List.length_take]; rfl)) ?_
           with_reducible refine (spec_l01Var.calls k a0_6 t140 _ A11.out).mono ?_;rintro e w32 ⟨rfl, hb⟩;refine ⟨_, rfl, ?_⟩;replace HO133 := rB HO133 hb;replace HO137 := rB HO137 hb;replace BK128 := kB BK128 hb;replace BK130 := kB BK130 hb;replace HB := sB hb;(try clear hb)
           refine hK.out _ _ qh3x0 (fun hHeld => ?_)
           clear hK K;refine normZ (some 38) ?_
           exact norm_ nP (hJ6_10_15_16_20_24_28 (v132, v136) _ ⟨hHeld, (mR HO133), (mR HO137), (mK BK128), (mK BK130), cB⟩)
        ·skip;rintro v132 w30 ⟨hS_, h0_, h1_, h2_, h3_⟩
         have n0_ : Aside0 (Kd.R (Kd.int .u8) 5 w30 w.heap.size (fun _ => True) v132 y131) := ⟨h0_⟩
         have n1_ := Aside0.mk h1_;have n2_ := Aside0.mk h2_;have n3_ := Aside0.mk h3_;clear BK128 BK130 HB h0_ h1_ h2_ h3_;have HO133 := n0_;have BK128 := n1_;have BK130 := n2_;have HB := n3_;clear n0_ n1_ n2_ n3_;have hHeld := hS_;refine norm_ (a' := ?_) ?_ ?_;rotate_left
         ·simp only [putAll, Act.put, List.setIfInBounds_toArray, List.set_cons_zero, List.set_cons_succ];rfl
         refine one_Z 15 (some 25) (msk 35 501022719) HT_.out fun K hK => ?_
         refine Kd.R_lit_step (Kd.int .u8) _ 5 ?hg (N := 25) ?hd (xs := ([(a0_3) % 256] : List Int)) (inner := [.int .u8 ((a0_3) % 256)]) (ok := fun _ => True) (okp := fun _ => True) ?hr ?hp (fun _ hk => hk) trivial (Below.refl _ _) (Nat.le_refl _) (by simp) ?_; (case hd => rfl); (case hg => rfl); (case hr => first | (go_simp; done) | (go_simp; rfl)); (case hp => exact (Reps.one (show Kd.M (Kd.int .u8) _ _ _ ((a0_3) % 256) [.int .u8 ((a0_3) % 256)] from rfl) (Reps.none _ _)))
         intro v136 w31 ho32 hb hg_ hnew_;clear hg_ hnew_
         (first | rw [← Ny135.out] at ho32 | (simp only [Int.reduceToNat] at ho32; rw [← Ny135.out] at ho32))
         have HO137 := Aside0.mk (Kd.R_lower (Kd.R_new' ho32 (Kd.R_lt (mR HO133))) (below_size cB));replace HO133 := eB HO133 (Kd.R_base ho32) hb;replace BK128 := kB BK128 hb;replace BK130 := kB BK130 hb;replace HB := sB hb;clear hb ho32
         refine hK.out _ _ qh3x0 (fun hHeld => ?_)
         clear hK K;refine normZ (some 25) ?_
         exact norm_ nP (hJ6_7_10_15_20_24_28 (v132, v136) _ ⟨hHeld, (by (with_reducible repeat (first | apply Kd.R_alloc | apply Kd.R_drewN | apply Kd.R_drew)); exact Kd.R_mono HO133.out (fun _ hk => hk.2)), (by (with_reducible repeat (first | apply Kd.R_alloc | apply Kd.R_drewN | apply Kd.R_drew)); exact Kd.R_mono HO137.out (fun _ hk => hk.2)), (mK BK128), (mK BK130), cB⟩)
       ·skip;rintro ⟨v132, v136⟩ w31 ⟨hS_, h0_, h1_, h2_, h3_, h4_⟩
        have n0_ : Aside0 (Kd.R (Kd.int .u8) 5 w31 w.heap.size (fun k_ => some k_ ≠ (v136 : Value).ownBlock) v132 y131) := ⟨h0_⟩
        have n1_ : Aside0 (Kd.R (Kd.int .u8) 5 w31 w.heap.size (fun k_ => some k_ ≠ (v132 : Value).ownBlock) v136 y135) := ⟨h1_⟩
        have n2_ := Aside0.mk h2_;have n3_ := Aside0.mk h3_;have n4_ := Aside0.mk h4_;clear BK128 BK130 HB h0_ h1_ h2_ h3_ h4_;have HO133 := n0_;have HO137 := n1_;have BK128 := n2_;have BK130 := n3_;have HB := n4_;clear n0_ n1_ n2_ n3_ n4_;have hHeld := hS_;refine norm_ (a' := ?_) ?_ ?_;rotate_left
        ·simp only [putAll, Act.put, List.setIfInBounds_toArray, List.set_cons_zero, List.set_cons_succ];rfl
        refine two_ (i := 16) (j := 28) (Ni := some 26) (Nj := some 38) #[true, true, true, true, true, true, true, true, true, true, true, true, true, true, true, true, true, false, true, true, true, false, true, true, true, false, true, true, false, false, false, false, false, false, false] #[true, true, true, true, true, true, true, true, true, true, true, true, true, true, true, true, false, false, true, true, true, false, true, true, true, false, true, true, true, false, false, false, false, false, false] rfl rfl rfl rfl (two_of HT_.out (by kernel_rfl)) (by decide) (by decide) (fun K hK => ?_) (fun K hK => ?_)
        ·skip;have hcv32 := own_string (P := Try.prog) Try.underlying65 Try.underlying5 Try.underlying9 (Kd.own_of_R HO137.out)
         refine value_ (w1 := ?_) (v := ?_) (by rfl) rfl ?_ ?_
         rotate_left 2
         ·go_simp;constructor
          ·rfl
          ·rfl
         clear hcv32
         refine hK.out _ _ qh3x0 (fun hHeld => ?_)
         clear hK K;refine normZ (some 26) ?_
         refine pureZ 17 (some 27) (msk 35 232783871) HT_.out ?_;refine pureZ 21 (some 31) (msk 35 234881023) HT_.out ?_;refine pureZ 25 (some 35) (msk 35 268435455) HT_.out ?_
         exact norm_ nP (hJ6_7_10_15_16_20_24 (v132, v136) _ ⟨hHeld, (mR HO133), (mR HO137), (mK BK128), (mK BK130), cB⟩)
        ·skip
         refine goes_ Try.func32 (by kernel_rfl) rfl #[.int .i64 a0_6] (by rfl) rfl rfl (by (try simp only [List.map_toArray, List.map_cons, List.map_nil]); first | done | rfl | (simp only [List.length_drop, List.length_take]; rfl)) ?_
         with_reducible refine (spec_l01Var.calls k a0_6 t140 _ A11.out).mono ?_;rintro e w32 ⟨rfl, hb⟩;refine ⟨_, rfl, ?_⟩;replace HO133 := rB HO133 hb;replace HO137 := rB HO137 hb;replace BK128 := kB BK128 hb;replace BK130 := kB BK130 hb;replace HB := sB hb;(try clear hb)
         refine hK.out _ _ qh3x0 (fun hHeld => ?_)
         clear hK K;refine normZ (some 38) ?_
         exact norm_ nP (hJ6_7_10_15_20_24_28 (v132, v136) _ ⟨hHeld, (mR HO133), (mR HO137), (mK BK128), (mK BK130), cB⟩)
      ·skip;rintro ⟨v132, v136⟩ w31 ⟨hS_, h0_, h1_, h2_, h3_, h4_⟩
       have n0_ : Aside0 (Kd.R (Kd.int .u8) 5 w31 w.heap.size (fun k_ => some k_ ≠ (v136 : Value).ownBlock) v132 y131) := ⟨h0_⟩
       have n1_ : Aside0 (Kd.R (Kd.int .u8) 5 w31 w.heap.size (fun k_ => some k_ ≠ (v132 : Value).ownBlock) v136 y135) := ⟨h1_⟩
       have n2_ := Aside0.mk h2_;have n3_ := Aside0.mk h3_;have n4_ := Aside0.mk h4_;clear BK128 BK130 HB h0_ h1_ h2_ h3_ h4_;have HO133 := n0_;have HO137 := n1_;have BK128 := n2_;have BK130 := n3_;have HB := n4_;clear n0_ n1_ n2_ n3_ n4_;have hHeld := hS_;refine norm_ (a' := ?_) ?_ ?_;rotate_left
       ·simp only [putAll, Act.put, List.setIfInBounds_toArray, List.set_cons_zero, List.set_cons_succ];rfl
       refine one_Z 24 (some 34) (msk 35 234881023) HT_.out fun K hK => ?_
       refine goes_ Try.func33 (by kernel_rfl) rfl #[.int .i64 a0_5] (by rfl) rfl rfl (by (try simp only [List.map_toArray, List.map_cons, List.map_nil]); first | done | rfl | (simp only [List.length_drop, List.length_take]; rfl)) ?_
       with_reducible refine (spec_l06Four.calls a0_5 t139 _ A9.out).mono ?_;rintro e w32 ⟨rfl, hb⟩;refine ⟨_, rfl, ?_⟩;replace HO133 := rB HO133 hb;replace HO137 := rB HO137 hb;replace BK128 := kB BK128 hb;replace BK130 := kB BK130 hb;replace HB := sB hb;(try clear hb)
       refine hK.out _ _ qh3x0 (fun hHeld => ?_)
       clear hK K;refine normZ (some 34) ?_
       refine pureZ 25 (some 35) (msk 35 268435455) HT_.out ?_
       exact norm_ nP (hJ6_7_10_15_16_20_24 (v132, v136) _ ⟨hHeld, (mR HO133), (mR HO137), (mK BK128), (mK BK130), cB⟩)
     ·skip;rintro ⟨v132, v136⟩ w32 ⟨hS_, h0_, h1_, h2_, h3_, h4_⟩
      have n0_ : Aside0 (Kd.R (Kd.int .u8) 5 w32 w.heap.size (fun k_ => some k_ ≠ (v136 : Value).ownBlock) v132 y131) := ⟨h0_⟩
      have n1_ : Aside0 (Kd.R (Kd.int .u8) 5 w32 w.heap.size (fun k_ => some k_ ≠ (v132 : Value).ownBlock) v136 y135) := ⟨h1_⟩
      have n2_ := Aside0.mk h2_;have n3_ := Aside0.mk h3_;have n4_ := Aside0.mk h4_;clear BK128 BK130 HB h0_ h1_ h2_ h3_ h4_;have HO133 := n0_;have HO137 := n1_;have BK128 := n2_;have BK130 := n3_;have HB := n4_;clear n0_ n1_ n2_ n3_ n4_;have hHeld := hS_;refine norm_ (a' := ?_) ?_ ?_;rotate_left
      ·simp only [putAll, Act.put, List.setIfInBounds_toArray, List.set_cons_zero, List.set_cons_succ];rfl
      refine one_Z 7 (some 17) (msk 35 501086207) HT_.out fun K hK => ?_
      have hcv33 := own_string (P := Try.prog) Try.underlying65 Try.underlying5 Try.underlying9 (Kd.own_of_R HO133.out)
      refine value_ (w1 := ?_) (v := ?_) (by rfl) rfl ?_ ?_
      rotate_left 2
      ·go_simp;constructor
       ·rfl
       ·rfl
      clear hcv33
      refine hK.out _ _ qh3x0 (fun hHeld => ?_)
      clear hK K;refine normZ (some 17) ?_
      refine pureZ 11 (some 21) (msk 35 501088255) HT_.out ?_;refine pureZ 17 (some 27) (msk 35 501219327) HT_.out ?_;refine pureZ 21 (some 31) (msk 35 503316479) HT_.out ?_;refine pureZ 25 (some 35) (msk 35 536870911) HT_.out ?_
      exact norm_ nP (hJ6_7_10_15_16_20_24_28 (v132, v136) _ ⟨hHeld, (mR HO133), (mR HO137), (mK BK128), (mK BK130), cB⟩)
    ·skip;rintro ⟨v132, v136⟩ w32 ⟨hS_, h0_, h1_, h2_, h3_, h4_⟩
     have n0_ : Aside0 (Kd.R (Kd.int .u8) 5 w32 w.heap.size (fun k_ => some k_ ≠ (v136 : Value).ownBlock) v132 y131) := ⟨h0_⟩
     have n1_ : Aside0 (Kd.R (Kd.int .u8) 5 w32 w.heap.size (fun k_ => some k_ ≠ (v132 : Value).ownBlock) v136 y135) := ⟨h1_⟩
     have n2_ := Aside0.mk h2_;have n3_ := Aside0.mk h3_;have n4_ := Aside0.mk h4_;clear BK128 BK130 HB h0_ h1_ h2_ h3_ h4_;have HO133 := n0_;have HO137 := n1_;have BK128 := n2_;have BK130 := n3_;have HB := n4_;clear n0_ n1_ n2_ n3_ n4_;have hHeld := hS_;refine norm_ (a' := ?_) ?_ ?_;rotate_left
     ·simp only [putAll, Act.put, List.setIfInBounds_toArray, List.set_cons_zero, List.set_cons_succ];rfl
     refine one_Z 16 (some 26) (msk 35 501088255) HT_.out fun K hK => ?_
     have hcv33 := own_string (P := Try.prog) Try.underlying65 Try.underlying5 Try.underlying9 (Kd.own_of_R HO137.out)
     refine value_ (w1 := ?_) (v := ?_) (by rfl) rfl ?_ ?_
     rotate_left 2
     ·go_simp;constructor
      ·rfl
      ·rfl
     clear hcv33
     refine hK.out _ _ qh3x0 (fun hHeld => ?_)
     clear hK K;refine normZ (some 26) ?_
     refine pureZ 17 (some 27) (msk 35 501219327) HT_.out ?_;refine pureZ 21 (some 31) (msk 35 503316479) HT_.out ?_;refine pureZ 25 (some 35) (msk 35 536870911) HT_.out ?_
     exact norm_ nP (hJ6_7_10_15_16_20_24_28 (v132, v136) _ ⟨hHeld, (mR HO133), (mR HO137), (mK BK128), (mK BK130), cB⟩)
   ·skip;rintro ⟨v132, v136⟩ w32 ⟨hS_, h0_, h1_, h2_, h3_, h4_⟩
    have n0_ : Aside0 (Kd.R (Kd.int .u8) 5 w32 w.heap.size (fun k_ => some k_ ≠ (v136 : Value).ownBlock) v132 y131) := ⟨h0_⟩
    have n1_ : Aside0 (Kd.R (Kd.int .u8) 5 w32 w.heap.size (fun k_ => some k_ ≠ (v132 : Value).ownBlock) v136 y135) := ⟨h1_⟩
    have n2_ := Aside0.mk h2_;have n3_ := Aside0.mk h3_;have n4_ := Aside0.mk h4_;clear BK128 BK130 HB h0_ h1_ h2_ h3_ h4_;have HO133 := n0_;have HO137 := n1_;have BK128 := n2_;have BK130 := n3_;have HB := n4_;clear n0_ n1_ n2_ n3_ n4_;have hHeld := hS_;refine norm_ (a' := ?_) ?_ ?_;rotate_left
    ·simp only [putAll, Act.put, List.setIfInBounds_toArray, List.set_cons_zero, List.set_cons_succ];rfl
    refine one_Z 28 (some 38) (msk 35 536870911) HT_.out fun K hK => ?_
    refine goes_ Try.func32 (by kernel_rfl) rfl #[.int .i64 a0_6] (by rfl) rfl rfl (by (try simp only [List.map_toArray, List.map_cons, List.map_nil]); first | done | rfl | (simp only [List.length_drop, List.length_take]; rfl)) ?_
    with_reducible refine (spec_l01Var.calls k a0_6 t140 _ A11.out).mono ?_;rintro e w33 ⟨rfl, hb⟩;refine ⟨_, rfl, ?_⟩;replace HO133 := rB HO133 hb;replace HO137 := rB HO137 hb;replace BK128 := kB BK128 hb;replace BK130 := kB BK130 hb;replace HB := sB hb;(try clear hb)
    refine hK.out _ _ qh3x0 (fun hHeld => ?_)
    clear hK K;refine normZ (some 38) ?_
    exact norm_ nP (hJ6_7_10_15_16_20_24_28 (v132, v136) _ ⟨hHeld, (mR HO133), (mR HO137), (mK BK128), (mK BK130), cB⟩)
  rintro ⟨v132, v136⟩ w33 ⟨hS_, h0_, h1_, h2_, h3_, h4_⟩
  have n0_ : Aside0 (Kd.R (Kd.int .u8) 5 w33 w.heap.size (fun k_ => some k_ ≠ (v136 : Value).ownBlock) v132 y131) := ⟨h0_⟩
  have n1_ : Aside0 (Kd.R (Kd.int .u8) 5 w33 w.heap.size (fun k_ => some k_ ≠ (v132 : Value).ownBlock) v136 y135) := ⟨h1_⟩
  have n2_ := Aside0.mk h2_;have n3_ := Aside0.mk h3_;have n4_ := Aside0.mk h4_;clear BK128 BK130 HB h0_ h1_ h2_ h3_ h4_;have HO133 := n0_;have HO137 := n1_;have BK128 := n2_;have BK130 := n3_;have HB := n4_;clear n0_ n1_ n2_ n3_ n4_;have hHeld := hS_;refine norm_ (a' := ?_) ?_ ?_;rotate_left
  ·simp only [putAll, Act.put, List.setIfInBounds_toArray, List.set_cons_zero, List.set_cons_succ];rfl
  refine pureZ 29 (some 39) (msk 35 1073741823) HT_.out ?_
  refine one_Z 30 (some 40) (msk 35 2147483647) HT_.out fun K hK => ?_
  refine goes_ Try.func31 (by kernel_rfl) rfl #[.string ((((((strOfNums y131) ++ t134) ++ (strOfNums y135)) ++ t138) ++ t139) ++ t140)] (by rfl) rfl rfl (by (try simp only [List.map_toArray, List.map_cons, List.map_nil]); first | done | rfl | (simp only [List.length_drop, List.length_take]; rfl)) ?_
  with_reducible refine (spec_Sealed.calls k ((((((strOfNums y131) ++ t134) ++ (strOfNums y135)) ++ t138) ++ t139) ++ t140) t141 t142 _ A13.out).mono ?_;rintro e w34 ⟨rfl, hb⟩;refine ⟨_, rfl, ?_⟩;replace HO133 := rB HO133 hb;replace HO137 := rB HO137 hb;replace BK128 := kB BK128 hb;replace BK130 := kB BK130 hb;replace HB := sB hb;(try clear hb)
  refine hK.out _ _ qh3x0 (fun hHeld => ?_)
  clear hK K;refine normZ (some 40) ?_
  refine pureZ 31 (some 41) (msk 35 4294967295) HT_.out ?_;refine pureZ 32 (some 42) (msk 35 8589934591) HT_.out ?_;refine pureZ 33 (some 2) (msk 35 17179869183) HT_.out ?_;refine pureZ 34 (some 3) (msk 35 34359738367) HT_.out ?_
  refine done_ (done_of HT_.out (by kernel_rfl)) ?_
  try go_wp2
  go_ret2;exact ⟨rE, cB⟩
 ·replace c3 := Bool.eq_false_iff.mpr c3;subst c3;replace H := iF H;simp only [Option.some.injEq, Prod.mk.injEq] at H;obtain ⟨rfl, rfl⟩ := H;go_enter Try.func12, Try.ntmps12
  go_wp2_with (first|((with_reducible refine gN 1 ?_);refine boxZ 1 #[.int .i64 a0_0, .int .i64 a0_1, .int .i64 a0_2, .int .i64 a0_3, .int .i64 a0_4, .int .i64 a0_5, .int .i64 a0_6] 37 ?_;intro gb128 hg w35 hbox hb;have BK128 := Aside0.mk (hbox);have GW128 := gS hg;have GE128 := gS hg;replace HB := sB hb;clear hb hbox hg;obtain ⟨hcz36_0, hcz36_1, hcz36_2, hcz36_3, hcz36_4, hcz36_5, hcz36_6, hfz36_0, hfz36_1, hfz36_2, hfz36_3, hfz36_4, hfz36_5, hfz36_6⟩ := cz7 BK128)|((with_reducible refine gF 30 ?_);refine goZ (some 6) Try.func30 #[.agg #[.int .i64 a0_0, .int .i64 a0_1, .int .i64 a0_2, .int .i64 a0_3, .int .i64 a0_4, .int .i64 a0_5, .int .i64 a0_6]] ?_;(with_reducible refine (spec_FrameOk.calls k a0_0 a0_1 a0_2 a0_3 a0_4 a0_5 a0_6 false _ A2.out).mono ?_);rintro e w37 ⟨rfl, hb⟩;refine ⟨_, rfl, ?_⟩;replace BK128 := kB BK128 hb;replace HB := sB hb;(try clear hb)))
  go_ret2;exact ⟨rE, cB⟩
end Go.Proofs.Ytgpmmmidplkhnaa.PFnExactFrameText
