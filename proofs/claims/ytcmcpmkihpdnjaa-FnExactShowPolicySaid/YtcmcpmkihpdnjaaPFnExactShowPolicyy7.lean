import Derived.Test.YtcmcpmkihpdnjaaPFnExactShowPolicyy0
import Derived.Test.YtcmcpmkihpdnjaaPFnExactShowPolicyy4
import Derived.Test.YtcmcpmkihpdnjaaPFnExactShowPolicyy5
import Derived.Test.YtcmcpmkihpdnjaaPFnExactShowPolicyy6
namespace Go.Proofs.Ytcmcpmkihpdnjaa.PFnExactShowPolicy
open Go.RowKit Go.Proofs.YtcmcpmkihpdnjaaW.PrintWords Go.Proofs.YtcmcpmkihpdnjaaW.PrintLast Go.Proofs.YtcmcpmkihpdnjaaW.PrintMore Go.Proofs.YtcmcpmkihpdnjaaW.Z
attribute [local go_sem] isS max2_int min2_int max_two min_two max_three min_three max_four min_four
set_option linter.unusedVariables false
set_option linter.unusedSimpArgs false
theorem qh7x0 {P : Prop} (h : P := by exact ⟨(blk_cell BK244.out 0).trans rfl, (blk_cell BK244.out 1).trans rfl, (blk_cell BK244.out 2).trans rfl, (blk_cell BK244.out 3).trans rfl⟩) : P := h
def spec_ShowPolicy.l0 : Nat → ByteArray → Int → Int → Int → Int → List (S91) → Option (ByteArray × Bool)
  | 0, _, _, _, _, _, _ => none
  | k + 1, x4, x5, x245000, x245001, x245002, x245003 => if x5 < (x245003.length : Int) then (if x4.size + 1 ≤ 9223372036854775807 then (if 0 ≤ x5 then ((spec_l10Rule.f k ((rd_T91 x245003 x5).f0) ((rd_T91 x245003 x5).f1) ((rd_T91 x245003 x5).f2) ((rd_T91 x245003 x5).f3)).bind fun t249 => (if (x4 ++ (⟨#[32]⟩ : ByteArray)).size + t249.size ≤ 9223372036854775807 then (spec_ShowPolicy.l0 k ((x4 ++ (⟨#[32]⟩ : ByteArray)) ++ t249) (wrap64 (x5 + 1)) x245000 x245001 x245002 x245003) else (none))) else (none)) else (none)) else (if (x4.size : Int) > 1200 then (some ((⟨#[]⟩ : ByteArray), false)) else (some (x4, true)))
def spec_ShowPolicy.f (k : Nat) (a0_0 : Int) (a0_1 : Int) (a0_2 : Int) (l0_3 : List (S91)) : Option (ByteArray × Bool) := (spec_PolicyOk.f k a0_0 a0_1 a0_2 l0_3).bind fun t245 => (if t245 = true then ((spec_l08Figures.f k a0_0).bind fun t246 => (if 5 + t246.size ≤ 9223372036854775807 then (if ((⟨#[97, 114, 99, 104, 32]⟩ : ByteArray) ++ t246).size + 11 ≤ 9223372036854775807 then ((spec_l10Act.f k a0_1 a0_2).bind fun t247 => (if (((⟨#[97, 114, 99, 104, 32]⟩ : ByteArray) ++ t246) ++ (⟨#[32, 59, 32, 100, 101, 102, 97, 117, 108, 116, 32]⟩ : ByteArray)).size + t247.size ≤ 9223372036854775807 then (if ((((⟨#[97, 114, 99, 104, 32]⟩ : ByteArray) ++ t246) ++ (⟨#[32, 59, 32, 100, 101, 102, 97, 117, 108, 116, 32]⟩ : ByteArray)) ++ t247).size + 2 ≤ 9223372036854775807 then (spec_ShowPolicy.l0 k (((((⟨#[97, 114, 99, 104, 32]⟩ : ByteArray) ++ t246) ++ (⟨#[32, 59, 32, 100, 101, 102, 97, 117, 108, 116, 32]⟩ : ByteArray)) ++ t247) ++ (⟨#[32, 59]⟩ : ByteArray)) 0 a0_0 a0_1 a0_2 l0_3) else (none)) else (none))) else (none)) else (none))) else (some ((⟨#[]⟩ : ByteArray), false)))
def spec_ShowPolicy.T3 : Bool × List (List Nat × List Nat) := (true, [([], []), ([0], [0]), ([1], [1]), ([2], [2]), ([3], [3]), ([], []), ([5], [5]), ([], []), ([7], [7]), ([6, 8, 2], [6, 8]), ([4, 9], [4, 9]), ([10], [10]), ([11, 9, 0, 1, 2, 3, 4, 5, 6, 7, 8, 9, 10, 11], [11])])
def spec_ShowPolicy.B3 : List Nat := [0, 1, 3, 7, 15, 0, 32, 0, 128, 487, 1023, 2047, 4095]
theorem spec_ShowPolicy.tab3 : rtab .any (opsOf Try.f33 3) = spec_ShowPolicy.T3 := by kernel_rfl
theorem spec_ShowPolicy.bits3 : waitsOk spec_ShowPolicy.T3.2 spec_ShowPolicy.B3 = true := by kernel_rfl
theorem q7x0 {P : Prop} (h : P := by 
 rintro w' ⟨s0, s1, s2, s3⟩
 go_simp
 with_reducible rfl) : P := h
set_option maxHeartbeats 8000000 in
set_option maxRecDepth 100000 in
theorem spec_ShowPolicy.calls (k : Nat) (a0_0 : Int) (a0_1 : Int) (a0_2 : Int) (A0_3 : Option Addr) (c0_3 : Nat) (l0_3 : List (S91)) (r1 : ByteArray) (r2 : Bool) (w : World) (hr0_3 : Kd.C k91 w A0_3 l0_3.length l0_3) (hc0_3 : l0_3.length ≤ c0_3) (h : spec_ShowPolicy.f k a0_0 a0_1 a0_2 l0_3 = some (r1, r2)) :
 Calls Try.prog 33 #[.agg #[.int .i64 a0_0, .int .i64 a0_1, .int .i64 a0_2, .slice A0_3 l0_3.length c0_3]] w fun e w' => e = .returned (.tuple #[.string r1, .bool r2]) ∧ Below w.heap.size w w' := by
 have hu50 := Try.underlying50;have hu91 := Try.underlying91;have HR0_3 := Aside0.mk hr0_3;have HC0_3 := Aside0.mk hc0_3;clear hr0_3 hc0_3;have HB := Aside0.mk (Below.refl w.heap.size w)
 have H : ((spec_PolicyOk.f k a0_0 a0_1 a0_2 l0_3).bind fun t245 => (if t245 = true then ((spec_l08Figures.f k a0_0).bind fun t246 => (if 5 + t246.size ≤ 9223372036854775807 then (if ((⟨#[97, 114, 99, 104, 32]⟩ : ByteArray) ++ t246).size + 11 ≤ 9223372036854775807 then ((spec_l10Act.f k a0_1 a0_2).bind fun t247 => (if (((⟨#[97, 114, 99, 104, 32]⟩ : ByteArray) ++ t246) ++ (⟨#[32, 59, 32, 100, 101, 102, 97, 117, 108, 116, 32]⟩ : ByteArray)).size + t247.size ≤ 9223372036854775807 then (if ((((⟨#[97, 114, 99, 104, 32]⟩ : ByteArray) ++ t246) ++ (⟨#[32, 59, 32, 100, 101, 102, 97, 117, 108, 116, 32]⟩ : ByteArray)) ++ t247).size + 2 ≤ 9223372036854775807 then (spec_ShowPolicy.l0 k (((((⟨#[97, 114, 99, 104, 32]⟩ : ByteArray) ++ t246) ++ (⟨#[32, 59, 32, 100, 101, 102, 97, 117, 108, 116, 32]⟩ : ByteArray)) ++ t247) ++ (⟨#[32, 59]⟩ : ByteArray)) 0 a0_0 a0_1 a0_2 l0_3) else (none)) else (none))) else (none)) else (none))) else (some ((⟨#[]⟩ : ByteArray), false)))) = some (r1, r2) := h
 clear h;replace H := bE H;obtain ⟨t245, A2, H⟩ := H;by_cases c3 : t245 = true
 ·subst c3;replace H := iT H;replace H := bE H;obtain ⟨t246, A4, H⟩ := H;replace H := gC H;obtain ⟨c5, H⟩ := H;have c5b0 := eq_true c5;have c5b1 : decide (5 + t246.size ≤ 9223372036854775807) = true := decide_eq_true c5
  try have c5b2 : (9223372036854775807 < 5 + t246.size) = False := eq_false (Nat.not_lt.2 c5)
  replace H := gC H;obtain ⟨c6, H⟩ := H;have c6b0 := eq_true c6;have c6b1 : decide (((⟨#[97, 114, 99, 104, 32]⟩ : ByteArray) ++ t246).size + 11 ≤ 9223372036854775807) = true := decide_eq_true c6
  try have c6b2 : (9223372036854775807 < ((⟨#[97, 114, 99, 104, 32]⟩ : ByteArray) ++ t246).size + 11) = False := eq_false (Nat.not_lt.2 c6)
  try have c6b3 : (9223372036854775807 < 5 + t246.size + 11) = False := eq_false (Nat.not_lt.2 (by have h_ := c6; simp only [ByteArray.size_append] at h_; exact h_))
  replace H := bE H;obtain ⟨t247, A7, H⟩ := H;replace H := gC H;obtain ⟨c8, H⟩ := H;have c8b0 := eq_true c8;have c8b1 : decide ((((⟨#[97, 114, 99, 104, 32]⟩ : ByteArray) ++ t246) ++ (⟨#[32, 59, 32, 100, 101, 102, 97, 117, 108, 116, 32]⟩ : ByteArray)).size + t247.size ≤ 9223372036854775807) = true := decide_eq_true c8
  try have c8b2 : (9223372036854775807 < (((⟨#[97, 114, 99, 104, 32]⟩ : ByteArray) ++ t246) ++ (⟨#[32, 59, 32, 100, 101, 102, 97, 117, 108, 116, 32]⟩ : ByteArray)).size + t247.size) = False := eq_false (Nat.not_lt.2 c8)
  try have c8b3 : (9223372036854775807 < 5 + t246.size + 11 + t247.size) = False := eq_false (Nat.not_lt.2 (by have h_ := c8; simp only [ByteArray.size_append] at h_; exact h_))
  replace H := gC H;obtain ⟨c9, H⟩ := H;have c9b0 := eq_true c9;have c9b1 : decide (((((⟨#[97, 114, 99, 104, 32]⟩ : ByteArray) ++ t246) ++ (⟨#[32, 59, 32, 100, 101, 102, 97, 117, 108, 116, 32]⟩ : ByteArray)) ++ t247).size + 2 ≤ 9223372036854775807) = true := decide_eq_true c9
  try have c9b2 : (9223372036854775807 < ((((⟨#[97, 114, 99, 104, 32]⟩ : ByteArray) ++ t246) ++ (⟨#[32, 59, 32, 100, 101, 102, 97, 117, 108, 116, 32]⟩ : ByteArray)) ++ t247).size + 2) = False := eq_false (Nat.not_lt.2 c9)
  try have c9b3 : (9223372036854775807 < 5 + t246.size + 11 + t247.size + 2) = False := eq_false (Nat.not_lt.2 (by have h_ := c9; simp only [ByteArray.size_append] at h_; exact h_))
  have H' := Aside0.mk H;clear H;go_enter Try.func33, Try.ntmps33
  try go_wp2_with (first|((with_reducible refine gN 1 ?_);refine boxZ 1 #[.int .i64 a0_0, .int .i64 a0_1, .int .i64 a0_2, .slice A0_3 l0_3.length c0_3] 50 ?_;intro gb244 hg w10 hbox hb;have BK244 := Aside0.mk (hbox);have GW244 := gS hg;have GE244 := gS hg;replace HB := sB hb;clear hb hbox hg;obtain ⟨hcz11_0, hcz11_1, hcz11_2, hcz11_3, hfz11_0, hfz11_1, hfz11_2, hfz11_3⟩ := cz4 BK244)|((with_reducible refine gF 76 ?_);refine goZ (some 7) Try.func76 #[.agg #[.int .i64 a0_0, .int .i64 a0_1, .int .i64 a0_2, .slice A0_3 l0_3.length c0_3]] ?_;(with_reducible refine (spec_PolicyOk.calls k a0_0 a0_1 a0_2 _ _ l0_3 true _ ?side1 ?side2 A2.out).mono ?_);(case side1 => exact cC (Kd.C_below HR0_3.out HB.out));(case side2 => exact HC0_3.out);rintro e w12 ⟨rfl, hb⟩;refine ⟨_, rfl, ?_⟩;replace BK244 := kB BK244 hb;replace HB := sB hb;(try clear hb)))
  replace BK244 := Aside0.mk (blk_drew BK244.out);replace HB := Aside0.mk (below_drew1 HB.out)
  refine start_ (n := 13) (S := fun w' => w'.cell? ⟨gb244, 0, none⟩ = some (.int .i64 a0_0) ∧ w'.cell? ⟨gb244, 1, none⟩ = some (.int .i64 a0_1) ∧ w'.cell? ⟨gb244, 2, none⟩ = some (.int .i64 a0_2) ∧ w'.cell? ⟨gb244, 3, none⟩ = some (.slice A0_3 l0_3.length c0_3)) (ds := []) #[false, false, false, false, false, false, false, false, false, false, false, false, false] (by kernel_rfl) rfl rfl ⟨(blk_cell BK244.out 0).trans rfl, (blk_cell BK244.out 1).trans rfl, (blk_cell BK244.out 2).trans rfl, (blk_cell BK244.out 3).trans rfl⟩ (fun hHeld => ?_); refine with_tabW spec_ShowPolicy.tab3 spec_ShowPolicy.bits3 (fun HT_ HW_ => ?_)
  generalize w12.drew = w13 at BK244 HB hHeld ⊢;refine pureZ 0 (some 9) (msk 13 1) HT_.out ?_;refine pureZ 5 (some 14) (msk 13 33) HT_.out ?_;refine pureZ 7 (some 16) (msk 13 161) HT_.out ?_;refine takeZ 1 (some 10) (msk 13 163) HT_.out HW_.out hHeld (hy := q7x0) (h := ?_);refine takeZ 6 (some 15) (msk 13 227) HT_.out HW_.out hHeld (hy := q7x0) (h := ?_);refine takeZ 8 (some 17) (msk 13 483) HT_.out HW_.out hHeld (hy := q7x0) (h := ?_)
  refine one_Z 2 (some 11) (msk 13 487) HT_.out fun K hK => ?_
  refine goes_ Try.func77 (by kernel_rfl) rfl #[.int .i64 a0_0] (by rfl) rfl rfl (by (try simp only [List.map_toArray, List.map_cons, List.map_nil]); first | done | rfl | (simp only [List.length_drop, List.length_take]; rfl)) ?_
  with_reducible refine (spec_l08Figures.calls k a0_0 t246 _ A4.out).mono ?_;rintro e w14 ⟨rfl, hb⟩;refine ⟨_, rfl, ?_⟩;replace BK244 := kB BK244 hb;replace HB := sB hb;(try clear hb)
  refine hK.out _ _ qh7x0 (fun hHeld => ?_)
  clear hK K;refine normZ (some 11) ?_
  refine pureZ 3 (some 12) (msk 13 495) HT_.out ?_;refine pureZ 4 (some 13) (msk 13 511) HT_.out ?_
  refine one_Z 9 (some 18) (msk 13 1023) HT_.out fun K hK => ?_
  refine goes_ Try.func78 (by kernel_rfl) rfl #[.int .i64 a0_1, .int .i64 a0_2] (by rfl) rfl rfl (by (try simp only [List.map_toArray, List.map_cons, List.map_nil]); first | done | rfl | (simp only [List.length_drop, List.length_take]; rfl)) ?_
  with_reducible refine (spec_l10Act.calls k a0_1 a0_2 t247 _ A7.out).mono ?_;rintro e w15 ⟨rfl, hb⟩;refine ⟨_, rfl, ?_⟩;replace BK244 := kB BK244 hb;replace HB := sB hb;(try clear hb)
  refine hK.out _ _ qh7x0 (fun hHeld => ?_)
  clear hK K;refine normZ (some 18) ?_
  refine pureZ 10 (some 19) (msk 13 2047) HT_.out ?_;refine pureZ 11 (some 20) (msk 13 4095) HT_.out ?_;refine pureZ 12 (some 4) (msk 13 8191) HT_.out ?_
  refine done_ (done_of HT_.out (by kernel_rfl)) ?_
  try go_wp2
  go_loopg [4, 5] k (fun kq v4 v5 w' => ∃ (x4_1 : ByteArray) (x5_1 : Int), v4 = .string x4_1 ∧ v5 = .int .i64 x5_1 ∧ Aside0 (spec_ShowPolicy.l0 kq x4_1 x5_1 a0_0 a0_1 a0_2 l0_3 = some (r1, r2)) ∧ Aside0 (kq ≤ k) ∧ Aside0 (w'.heap[gb244]? = some (.cells #[.int .i64 a0_0, .int .i64 a0_1, .int .i64 a0_2, (.slice A0_3 l0_3.length c0_3)] 50 (0, 0))) ∧ Aside0 (Below w.heap.size w w'))
  case atStart => exact ⟨(((((⟨#[97, 114, 99, 104, 32]⟩ : ByteArray) ++ t246) ++ (⟨#[32, 59, 32, 100, 101, 102, 97, 117, 108, 116, 32]⟩ : ByteArray)) ++ t247) ++ (⟨#[32, 59]⟩ : ByteArray)), (0), rS, rS, H', ⟨Nat.le_refl _⟩, ⟨mK BK244⟩, ⟨cB⟩⟩
  case round =>
   clear H';(try clear c3);(try clear c5);(try clear c5b0);(try clear c5b1);(try clear c5b2);(try clear c6);(try clear c6b0);(try clear c6b1);(try clear c6b2);(try clear c8);(try clear c8b0);(try clear c8b1);(try clear c8b2);(try clear c9);(try clear c9b0);(try clear c9b1);(try clear c9b2);(try clear hcz11_0);(try clear hcz11_1);(try clear hcz11_2);(try clear hcz11_3);(try clear hfz11_0);(try clear hfz11_1);(try clear hfz11_2);(try clear hfz11_3);obtain ⟨x4_1, x5_1, rfl, rfl, HA, HK1, BK244, HB⟩ := hrel
   cases gk with
   | zero => exact absurd HA.out (by simp [spec_ShowPolicy.l0])
   | succ k1 =>
    have H := HA.out;clear HA;simp only [spec_ShowPolicy.l0] at H;by_cases c16 : x5_1 < (l0_3.length : Int)
    ·rw [if_pos c16] at H;have c16b0 := decide_eq_true c16;clear c16;replace H := gC H;obtain ⟨c17, H⟩ := H;have c17b0 := eq_true c17;have c17b1 : decide (x4_1.size + 1 ≤ 9223372036854775807) = true := decide_eq_true c17
     try have c17b2 : (9223372036854775807 < x4_1.size + 1) = False := eq_false (Nat.not_lt.2 c17)
     replace H := gD H;obtain ⟨c18b0, H⟩ := H;replace H := bE H;obtain ⟨t249, A19, H⟩ := H;replace H := gC H;obtain ⟨c20, H⟩ := H;have c20b0 := eq_true c20;have c20b1 : decide ((x4_1 ++ (⟨#[32]⟩ : ByteArray)).size + t249.size ≤ 9223372036854775807) = true := decide_eq_true c20
     try have c20b2 : (9223372036854775807 < (x4_1 ++ (⟨#[32]⟩ : ByteArray)).size + t249.size) = False := eq_false (Nat.not_lt.2 c20)
     try have c20b3 : (9223372036854775807 < x4_1.size + 1 + t249.size) = False := eq_false (Nat.not_lt.2 (by have h_ := c20; simp only [ByteArray.size_append] at h_; exact h_))
     have H' := Aside0.mk H;clear H;obtain ⟨hcz21_0, hcz21_1, hcz21_2, hcz21_3, hfz21_0, hfz21_1, hfz21_2, hfz21_3⟩ := cz4 BK244;have p248 : 0 ≤ (x5_1 : Int) := dA;have q248 : x5_1 < (l0_3.length : Int) := dA;obtain ⟨ad248, A248_0, c248_0, A248_1, c248_1, e248, hx248_0, hx248_1, hx248_2, hx248_3, hl248_0, hi248_0, hl248_1, hi248_1⟩ := at_T91 HR0_3.out x5_1 p248 q248;cases e248;replace hx248_0 := (bc HB hx248_0 :);replace hx248_1 := (bc HB hx248_1 :);replace hx248_2 := (bc HB hx248_2 :);replace hx248_3 := (bc HB hx248_3 :);have HR248_0 := Aside0.mk hi248_0;have HC248_0 := Aside0.mk hl248_0;clear hi248_0 hl248_0;have HR248_1 := Aside0.mk hi248_1;have HC248_1 := Aside0.mk hl248_1;clear hi248_1 hl248_1;replace p248 := eq_true p248;replace q248 := eq_true q248
     go_wp2_with (first|((with_reducible refine gF 79 ?_);refine goZ (some 35) Try.func79 #[.agg #[.slice A248_0 ((rd_T91 l0_3 x5_1).f0).length c248_0, .slice A248_1 ((rd_T91 l0_3 x5_1).f1).length c248_1, .int .i64 ((rd_T91 l0_3 x5_1).f2), .int .i64 ((rd_T91 l0_3 x5_1).f3)]] ?_;(with_reducible refine (spec_l10Rule.calls k1 _ _ ((rd_T91 l0_3 x5_1).f0) _ _ ((rd_T91 l0_3 x5_1).f1) ((rd_T91 l0_3 x5_1).f2) ((rd_T91 l0_3 x5_1).f3) t249 _ ?side1 ?side2 ?side3 ?side4 A19.out).mono ?_);(case side1 => exact cC (Kd.C_below HR248_0.out HB.out));(case side2 => exact HC248_0.out);(case side3 => exact cC (Kd.C_below HR248_1.out HB.out));(case side4 => exact HC248_1.out);rintro e w22 ⟨rfl, hb⟩;refine ⟨_, rfl, ?_⟩;replace BK244 := kB BK244 hb;replace HB := sB hb;(try clear hb)))
     go_roundg k1
     case measure => have := HK1.out; omega
     case rel => exact ⟨((x4_1 ++ (⟨#[32]⟩ : ByteArray)) ++ t249), (wrap64 (x5_1 + 1)), rS, rS, H', ⟨by have := HK1.out; omega⟩, ⟨mK BK244⟩, ⟨cB⟩⟩
    ·rw [if_neg c16] at H;have c16b0 := decide_eq_false c16;clear c16;by_cases c23 : (x4_1.size : Int) > 1200
     ·rw [if_pos c23] at H;have c23b0 : decide (1200 < (x4_1.size : Int)) = true := decide_eq_true c23
      have c23b1 : decide (1200 < x4_1.size) = true := decide_eq_true (by omega)
      clear c23;simp only [Option.some.injEq, Prod.mk.injEq] at H;obtain ⟨rfl, rfl⟩ := H;obtain ⟨hcz24_0, hcz24_1, hcz24_2, hcz24_3, hfz24_0, hfz24_1, hfz24_2, hfz24_3⟩ := cz4 BK244;go_wp2;go_ret2;exact ⟨rE, cB⟩
     ·rw [if_neg c23] at H;have c23b0 : decide (1200 < (x4_1.size : Int)) = false := decide_eq_false c23
      have c23b1 : decide (1200 < x4_1.size) = false := decide_eq_false (by omega)
      clear c23;simp only [Option.some.injEq, Prod.mk.injEq] at H;obtain ⟨rfl, rfl⟩ := H;obtain ⟨hcz25_0, hcz25_1, hcz25_2, hcz25_3, hfz25_0, hfz25_1, hfz25_2, hfz25_3⟩ := cz4 BK244;go_wp2;go_ret2;exact ⟨rE, cB⟩
 ·replace c3 := Bool.eq_false_iff.mpr c3;subst c3;replace H := iF H;simp only [Option.some.injEq, Prod.mk.injEq] at H;obtain ⟨rfl, rfl⟩ := H;go_enter Try.func33, Try.ntmps33
  go_wp2_with (first|((with_reducible refine gN 1 ?_);refine boxZ 1 #[.int .i64 a0_0, .int .i64 a0_1, .int .i64 a0_2, .slice A0_3 l0_3.length c0_3] 50 ?_;intro gb244 hg w26 hbox hb;have BK244 := Aside0.mk (hbox);have GW244 := gS hg;have GE244 := gS hg;replace HB := sB hb;clear hb hbox hg;obtain ⟨hcz27_0, hcz27_1, hcz27_2, hcz27_3, hfz27_0, hfz27_1, hfz27_2, hfz27_3⟩ := cz4 BK244)|((with_reducible refine gF 76 ?_);refine goZ (some 7) Try.func76 #[.agg #[.int .i64 a0_0, .int .i64 a0_1, .int .i64 a0_2, .slice A0_3 l0_3.length c0_3]] ?_;(with_reducible refine (spec_PolicyOk.calls k a0_0 a0_1 a0_2 _ _ l0_3 false _ ?side1 ?side2 A2.out).mono ?_);(case side1 => exact cC (Kd.C_below HR0_3.out HB.out));(case side2 => exact HC0_3.out);rintro e w28 ⟨rfl, hb⟩;refine ⟨_, rfl, ?_⟩;replace BK244 := kB BK244 hb;replace HB := sB hb;(try clear hb)))
  go_ret2;exact ⟨rE, cB⟩
def impl_within.f (a0 : Int) (a1 : Int) (a2 : Int) : Option (Bool) := if a0 ≥ a1 then (some (decide (a0 ≤ a2))) else (some false)
set_option maxHeartbeats 8000000 in
set_option maxRecDepth 100000 in
theorem impl_within.calls (a0 : Int) (a1 : Int) (a2 : Int) (r : Bool) (w : World) (h : impl_within.f a0 a1 a2 = some r) :
 Calls Try.prog 127 #[.int .i64 a0, .int .i64 a1, .int .i64 a2] w fun e w' => e = .returned (.bool r) ∧ Drawn0 w w' := by
 have H : (if a0 ≥ a1 then (some (decide (a0 ≤ a2))) else (some false)) = some r := h;clear h;by_cases c4 : a0 ≥ a1
 ·rw [if_pos c4] at H;have c4b0 : decide (a1 ≤ a0) = true := decide_eq_true c4;clear c4;obtain rfl := Option.some.inj H;go_enter Try.func127, Try.ntmps127;go_wp2;go_ret
  exact ⟨by first | rfl | (simp; done) | (simp [*]; done), by repeat (first | exact Drawn0.refl _ | apply Drawn0.step)⟩
 ·rw [if_neg c4] at H;have c4b0 : decide (a1 ≤ a0) = false := decide_eq_false c4;clear c4;obtain rfl := Option.some.inj H;go_enter Try.func127, Try.ntmps127;go_wp2;go_ret
  exact ⟨by first | rfl | (simp; done) | (simp [*]; done), by repeat (first | exact Drawn0.refl _ | apply Drawn0.step)⟩
def impl_HalfOk.f (a0 : Int) : Option (Bool) := (impl_within.f a0 0 4294967295).bind fun t250 => (some t250)
set_option maxHeartbeats 8000000 in
set_option maxRecDepth 100000 in
theorem impl_HalfOk.calls (a0 : Int) (r : Bool) (w : World) (h : impl_HalfOk.f a0 = some r) :
 Calls Try.prog 125 #[.int .i64 a0] w fun e w' => e = .returned (.bool r) ∧ Drawn0 w w' := by
 have H : ((impl_within.f a0 0 4294967295).bind fun t250 => (some t250)) = some r := h
 clear h;replace H := bE H;obtain ⟨t250, A2, H⟩ := H;obtain rfl := Option.some.inj H;go_enter Try.func125, Try.ntmps125
 go_wp2_with (first|((with_reducible refine gF 127 ?_);refine goZ (some 4) Try.func127 #[.int .i64 a0, .int .i64 0, .int .i64 4294967295] ?_;(with_reducible refine (impl_within.calls a0 0 4294967295 t250 _ A2.out).mono ?_);rintro e w' ⟨rfl, ⟨nd, rfl⟩⟩;refine ⟨_, rfl, ?_⟩))
 go_ret
 exact ⟨by first | rfl | (simp; done) | (simp [*]; done), by repeat (first | exact Drawn0.refl _ | apply Drawn0.step)⟩
def impl_actionOk.f (a0 : Int) (a1 : Int) : Option (Bool) := (impl_within.f a0 0 5).bind fun t251 => (if t251 = true then ((impl_within.f a1 0 65535).bind fun t252 => (some t252)) else (some false))
set_option maxHeartbeats 8000000 in
set_option maxRecDepth 100000 in
theorem impl_actionOk.calls (a0 : Int) (a1 : Int) (r : Bool) (w : World) (h : impl_actionOk.f a0 a1 = some r) :
 Calls Try.prog 126 #[.int .i64 a0, .int .i64 a1] w fun e w' => e = .returned (.bool r) ∧ Drawn0 w w' := by
 have H : ((impl_within.f a0 0 5).bind fun t251 => (if t251 = true then ((impl_within.f a1 0 65535).bind fun t252 => (some t252)) else (some false))) = some r := h
 clear h;replace H := bE H;obtain ⟨t251, A3, H⟩ := H;by_cases c4 : t251 = true
 ·subst c4;replace H := iT H;replace H := bE H;obtain ⟨t252, A5, H⟩ := H;obtain rfl := Option.some.inj H;go_enter Try.func126, Try.ntmps126
  go_wp2_with (first|((with_reducible refine gF 127 ?_);refine goZ (some 6) Try.func127 #[.int .i64 a0, .int .i64 0, .int .i64 5] ?_;(with_reducible refine (impl_within.calls a0 0 5 true _ A3.out).mono ?_);rintro e w' ⟨rfl, ⟨nd, rfl⟩⟩;refine ⟨_, rfl, ?_⟩)|(go_at_call 127;(with_reducible refine (impl_within.calls a1 0 65535 t252 _ A5.out).mono ?_);rintro e w' ⟨rfl, ⟨nd, rfl⟩⟩))
  go_ret
  exact ⟨by first | rfl | (simp; done) | (simp [*]; done), by repeat (first | exact Drawn0.refl _ | apply Drawn0.step)⟩
 ·replace c4 := Bool.eq_false_iff.mpr c4;subst c4;replace H := iF H;obtain rfl := Option.some.inj H;go_enter Try.func126, Try.ntmps126
  go_wp2_with (first|((with_reducible refine gF 127 ?_);refine goZ (some 6) Try.func127 #[.int .i64 a0, .int .i64 0, .int .i64 5] ?_;(with_reducible refine (impl_within.calls a0 0 5 false _ A3.out).mono ?_);rintro e w' ⟨rfl, ⟨nd, rfl⟩⟩;refine ⟨_, rfl, ?_⟩))
  go_ret
  exact ⟨by first | rfl | (simp; done) | (simp [*]; done), by repeat (first | exact Drawn0.refl _ | apply Drawn0.step)⟩
def impl_WideOk.f (a0_0 : Int) (a0_1 : Int) : Option (Bool) := (impl_HalfOk.f a0_0).bind fun t254 => (if t254 = true then ((impl_HalfOk.f a0_1).bind fun t255 => (some t255)) else (some false))
set_option maxHeartbeats 8000000 in
set_option maxRecDepth 100000 in
theorem impl_WideOk.calls (a0_0 : Int) (a0_1 : Int) (r : Bool) (w : World) (h : impl_WideOk.f a0_0 a0_1 = some r) :
 Calls Try.prog 184 #[.agg #[.int .i64 a0_0, .int .i64 a0_1]] w fun e w' => e = .returned (.bool r) ∧ Below w.heap.size w w' := by
 have hu93 := Try.underlying93;have HB := Aside0.mk (Below.refl w.heap.size w)
 have H : ((impl_HalfOk.f a0_0).bind fun t254 => (if t254 = true then ((impl_HalfOk.f a0_1).bind fun t255 => (some t255)) else (some false))) = some r := h
 clear h;replace H := bE H;obtain ⟨t254, A2, H⟩ := H;by_cases c3 : t254 = true
 ·subst c3;replace H := iT H;replace H := bE H;obtain ⟨t255, A4, H⟩ := H;obtain rfl := Option.some.inj H;go_enter Try.func184, Try.ntmps184
  go_wp2_with (first|((with_reducible refine gN 1 ?_);refine boxZ 1 #[.int .i64 a0_0, .int .i64 a0_1] 93 ?_;intro gb253 hg w5 hbox hb;have BK253 := Aside0.mk (hbox);have GW253 := gS hg;have GE253 := gS hg;replace HB := sB hb;clear hb hbox hg;obtain ⟨hcz6_0, hcz6_1, hfz6_0, hfz6_1⟩ := cz2 BK253)|((with_reducible refine gF 125 ?_);refine goZ (some 5) Try.func125 #[.int .i64 a0_0] ?_;(with_reducible refine (impl_HalfOk.calls a0_0 true _ A2.out).mono ?_);rintro e w' ⟨rfl, ⟨nd, rfl⟩⟩;refine ⟨_, rfl, ?_⟩)|(go_at_call 125;(with_reducible refine (impl_HalfOk.calls a0_1 t255 _ A4.out).mono ?_);rintro e w' ⟨rfl, ⟨nd, rfl⟩⟩))
  go_ret;exact ⟨rE, cB⟩
 ·replace c3 := Bool.eq_false_iff.mpr c3;subst c3;replace H := iF H;obtain rfl := Option.some.inj H;go_enter Try.func184, Try.ntmps184
  go_wp2_with (first|((with_reducible refine gN 1 ?_);refine boxZ 1 #[.int .i64 a0_0, .int .i64 a0_1] 93 ?_;intro gb253 hg w7 hbox hb;have BK253 := Aside0.mk (hbox);have GW253 := gS hg;have GE253 := gS hg;replace HB := sB hb;clear hb hbox hg;obtain ⟨hcz8_0, hcz8_1, hfz8_0, hfz8_1⟩ := cz2 BK253)|((with_reducible refine gF 125 ?_);refine goZ (some 5) Try.func125 #[.int .i64 a0_0] ?_;(with_reducible refine (impl_HalfOk.calls a0_0 false _ A2.out).mono ?_);rintro e w' ⟨rfl, ⟨nd, rfl⟩⟩;refine ⟨_, rfl, ?_⟩))
  go_ret;exact ⟨rE, cB⟩
def impl_CondOk.f (a0_0 : Int) (a0_1 : Int) (a0_2 : Int) (a0_3 : Int) (a0_4 : Int) (a0_5 : Int) : Option (Bool) := (impl_within.f a0_0 0 2).bind fun t257 => (if t257 = true then ((impl_WideOk.f a0_1 a0_2).bind fun t258 => (if t258 = true then ((impl_WideOk.f a0_4 a0_5).bind fun t259 => (if t259 = true then ((impl_within.f a0_3 1 6).bind fun t260 => (some t260)) else (some false))) else (some false))) else (some false))
set_option maxHeartbeats 8000000 in
set_option maxRecDepth 100000 in
theorem impl_CondOk.calls (a0_0 : Int) (a0_1 : Int) (a0_2 : Int) (a0_3 : Int) (a0_4 : Int) (a0_5 : Int) (r : Bool) (w : World) (h : impl_CondOk.f a0_0 a0_1 a0_2 a0_3 a0_4 a0_5 = some r) :
 Calls Try.prog 157 #[.agg #[.int .i64 a0_0, .int .i64 a0_1, .int .i64 a0_2, .int .i64 a0_3, .int .i64 a0_4, .int .i64 a0_5]] w fun e w' => e = .returned (.bool r) ∧ Below w.heap.size w w' := by
 have hu95 := Try.underlying95;have hu93 := Try.underlying93;have HB := Aside0.mk (Below.refl w.heap.size w)
 have H : ((impl_within.f a0_0 0 2).bind fun t257 => (if t257 = true then ((impl_WideOk.f a0_1 a0_2).bind fun t258 => (if t258 = true then ((impl_WideOk.f a0_4 a0_5).bind fun t259 => (if t259 = true then ((impl_within.f a0_3 1 6).bind fun t260 => (some t260)) else (some false))) else (some false))) else (some false))) = some r := h
 clear h;replace H := bE H;obtain ⟨t257, A2, H⟩ := H;by_cases c3 : t257 = true
 ·subst c3;replace H := iT H;replace H := bE H;obtain ⟨t258, A4, H⟩ := H;by_cases c5 : t258 = true
  ·subst c5;replace H := iT H;replace H := bE H;obtain ⟨t259, A6, H⟩ := H;by_cases c7 : t259 = true
   ·subst c7;replace H := iT H;replace H := bE H;obtain ⟨t260, A8, H⟩ := H;obtain rfl := Option.some.inj H;go_enter Try.func157, Try.ntmps157
    go_wp2_with (first|((with_reducible refine gN 1 ?_);refine boxZ 1 #[.int .i64 a0_0, .int .i64 a0_1, .int .i64 a0_2, .int .i64 a0_3, .int .i64 a0_4, .int .i64 a0_5] 95 ?_;intro gb256 hg w9 hbox hb;have BK256 := Aside0.mk (hbox);have GW256 := gS hg;have GE256 := gS hg;replace HB := sB hb;clear hb hbox hg;obtain ⟨hcz10_0, hcz10_1, hcz10_2, hcz10_3, hcz10_4, hcz10_5, hfz10_0, hfz10_1, hfz10_2, hfz10_3, hfz10_4, hfz10_5⟩ := cz6 BK256)|((with_reducible refine gF 127 ?_);refine goZ (some 5) Try.func127 #[.int .i64 a0_0, .int .i64 0, .int .i64 2] ?_;(with_reducible refine (impl_within.calls a0_0 0 2 true _ A2.out).mono ?_);rintro e w' ⟨rfl, ⟨nd, rfl⟩⟩;refine ⟨_, rfl, ?_⟩)|(go_at_call 184;(with_reducible refine (impl_WideOk.calls a0_1 a0_2 true _ A4.out).mono ?_);rintro e w11 ⟨rfl, hb⟩;replace BK256 := kB BK256 hb;replace HB := sB hb;(try clear hb);obtain ⟨hcz12_0, hcz12_1, hcz12_2, hcz12_3, hcz12_4, hcz12_5, hfz12_0, hfz12_1, hfz12_2, hfz12_3, hfz12_4, hfz12_5⟩ := cz6 BK256)|(go_at_call 184;(with_reducible refine (impl_WideOk.calls a0_4 a0_5 true _ A6.out).mono ?_);rintro e w13 ⟨rfl, hb⟩;replace BK256 := kB BK256 hb;replace HB := sB hb;(try clear hb);obtain ⟨hcz14_0, hcz14_1, hcz14_2, hcz14_3, hcz14_4, hcz14_5, hfz14_0, hfz14_1, hfz14_2, hfz14_3, hfz14_4, hfz14_5⟩ := cz6 BK256)|(go_at_call 127;(with_reducible refine (impl_within.calls a0_3 1 6 t260 _ A8.out).mono ?_);rintro e w' ⟨rfl, ⟨nd, rfl⟩⟩))
    go_ret;exact ⟨rE, cB⟩
   ·replace c7 := Bool.eq_false_iff.mpr c7;subst c7;replace H := iF H;obtain rfl := Option.some.inj H;go_enter Try.func157, Try.ntmps157
    go_wp2_with (first|((with_reducible refine gN 1 ?_);refine boxZ 1 #[.int .i64 a0_0, .int .i64 a0_1, .int .i64 a0_2, .int .i64 a0_3, .int .i64 a0_4, .int .i64 a0_5] 95 ?_;intro gb256 hg w15 hbox hb;have BK256 := Aside0.mk (hbox);have GW256 := gS hg;have GE256 := gS hg;replace HB := sB hb;clear hb hbox hg;obtain ⟨hcz16_0, hcz16_1, hcz16_2, hcz16_3, hcz16_4, hcz16_5, hfz16_0, hfz16_1, hfz16_2, hfz16_3, hfz16_4, hfz16_5⟩ := cz6 BK256)|((with_reducible refine gF 127 ?_);refine goZ (some 5) Try.func127 #[.int .i64 a0_0, .int .i64 0, .int .i64 2] ?_;(with_reducible refine (impl_within.calls a0_0 0 2 true _ A2.out).mono ?_);rintro e w' ⟨rfl, ⟨nd, rfl⟩⟩;refine ⟨_, rfl, ?_⟩)|(go_at_call 184;(with_reducible refine (impl_WideOk.calls a0_1 a0_2 true _ A4.out).mono ?_);rintro e w17 ⟨rfl, hb⟩;replace BK256 := kB BK256 hb;replace HB := sB hb;(try clear hb);obtain ⟨hcz18_0, hcz18_1, hcz18_2, hcz18_3, hcz18_4, hcz18_5, hfz18_0, hfz18_1, hfz18_2, hfz18_3, hfz18_4, hfz18_5⟩ := cz6 BK256)|(go_at_call 184;(with_reducible refine (impl_WideOk.calls a0_4 a0_5 false _ A6.out).mono ?_);rintro e w19 ⟨rfl, hb⟩;replace BK256 := kB BK256 hb;replace HB := sB hb;(try clear hb)))
    go_ret;exact ⟨rE, cB⟩
  ·replace c5 := Bool.eq_false_iff.mpr c5;subst c5;replace H := iF H;obtain rfl := Option.some.inj H;go_enter Try.func157, Try.ntmps157
   go_wp2_with (first|((with_reducible refine gN 1 ?_);refine boxZ 1 #[.int .i64 a0_0, .int .i64 a0_1, .int .i64 a0_2, .int .i64 a0_3, .int .i64 a0_4, .int .i64 a0_5] 95 ?_;intro gb256 hg w20 hbox hb;have BK256 := Aside0.mk (hbox);have GW256 := gS hg;have GE256 := gS hg;replace HB := sB hb;clear hb hbox hg;obtain ⟨hcz21_0, hcz21_1, hcz21_2, hcz21_3, hcz21_4, hcz21_5, hfz21_0, hfz21_1, hfz21_2, hfz21_3, hfz21_4, hfz21_5⟩ := cz6 BK256)|((with_reducible refine gF 127 ?_);refine goZ (some 5) Try.func127 #[.int .i64 a0_0, .int .i64 0, .int .i64 2] ?_;(with_reducible refine (impl_within.calls a0_0 0 2 true _ A2.out).mono ?_);rintro e w' ⟨rfl, ⟨nd, rfl⟩⟩;refine ⟨_, rfl, ?_⟩)|(go_at_call 184;(with_reducible refine (impl_WideOk.calls a0_1 a0_2 false _ A4.out).mono ?_);rintro e w22 ⟨rfl, hb⟩;replace BK256 := kB BK256 hb;replace HB := sB hb;(try clear hb)))
   go_ret;exact ⟨rE, cB⟩
 ·replace c3 := Bool.eq_false_iff.mpr c3;subst c3;replace H := iF H;obtain rfl := Option.some.inj H;go_enter Try.func157, Try.ntmps157
  go_wp2_with (first|((with_reducible refine gN 1 ?_);refine boxZ 1 #[.int .i64 a0_0, .int .i64 a0_1, .int .i64 a0_2, .int .i64 a0_3, .int .i64 a0_4, .int .i64 a0_5] 95 ?_;intro gb256 hg w23 hbox hb;have BK256 := Aside0.mk (hbox);have GW256 := gS hg;have GE256 := gS hg;replace HB := sB hb;clear hb hbox hg;obtain ⟨hcz24_0, hcz24_1, hcz24_2, hcz24_3, hcz24_4, hcz24_5, hfz24_0, hfz24_1, hfz24_2, hfz24_3, hfz24_4, hfz24_5⟩ := cz6 BK256)|((with_reducible refine gF 127 ?_);refine goZ (some 5) Try.func127 #[.int .i64 a0_0, .int .i64 0, .int .i64 2] ?_;(with_reducible refine (impl_within.calls a0_0 0 2 false _ A2.out).mono ?_);rintro e w' ⟨rfl, ⟨nd, rfl⟩⟩;refine ⟨_, rfl, ?_⟩))
  go_ret;exact ⟨rE, cB⟩
end Go.Proofs.Ytcmcpmkihpdnjaa.PFnExactShowPolicy
