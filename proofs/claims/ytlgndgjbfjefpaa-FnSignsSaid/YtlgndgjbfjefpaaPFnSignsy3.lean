import Derived.Test.YtlgndgjbfjefpaaPFnSignsy0
namespace Go.Proofs.Ytlgndgjbfjefpaa.PFnSigns
open Go.RowKit Go.Proofs.YtlgndgjbfjefpaaW.PrintWords Go.Proofs.YtlgndgjbfjefpaaW.PrintLast Go.Proofs.YtlgndgjbfjefpaaW.PrintMore Go.Proofs.YtlgndgjbfjefpaaW.Z
attribute [local go_sem] isS max2_int min2_int max_two min_two max_three min_three max_four min_four
set_option linter.unusedVariables false
set_option linter.unusedSimpArgs false
def impl_Decimal.l0 : Nat → Int → ByteArray → Int → Option (ByteArray)
  | 0, _, _, _ => none
  | k + 1, x0, x3, x4 => if x4 = 0 then (if x0 < 0 then (if 1 + x3.size ≤ 9223372036854775807 then (some ((⟨#[45]⟩ : ByteArray) ++ x3)) else (none)) else (some x3)) else (if 0 ≤ (mx (Int.tmod x4 10) (wrap64 (-(Int.tmod x4 10)))) then (if (mx (Int.tmod x4 10) (wrap64 (-(Int.tmod x4 10)))) ≤ (wrap64 ((mx (Int.tmod x4 10) (wrap64 (-(Int.tmod x4 10)))) + 1)) then (if (wrap64 ((mx (Int.tmod x4 10) (wrap64 (-(Int.tmod x4 10)))) + 1)) ≤ 16 then (if ((⟨#[48, 49, 50, 51, 52, 53, 54, 55, 56, 57, 97, 98, 99, 100, 101, 102]⟩ : ByteArray).extract ((mx (Int.tmod x4 10) (wrap64 (-(Int.tmod x4 10)))) : Int).toNat ((wrap64 ((mx (Int.tmod x4 10) (wrap64 (-(Int.tmod x4 10)))) + 1)) : Int).toNat).size + x3.size ≤ 9223372036854775807 then (impl_Decimal.l0 k x0 (((⟨#[48, 49, 50, 51, 52, 53, 54, 55, 56, 57, 97, 98, 99, 100, 101, 102]⟩ : ByteArray).extract ((mx (Int.tmod x4 10) (wrap64 (-(Int.tmod x4 10)))) : Int).toNat ((wrap64 ((mx (Int.tmod x4 10) (wrap64 (-(Int.tmod x4 10)))) + 1)) : Int).toNat) ++ x3) (wrap64 (Int.tdiv x4 10))) else (none)) else (none)) else (none)) else (none))
def impl_Decimal.f (k : Nat) (a0 : Int) : Option (ByteArray) := if a0 = 0 then (some (⟨#[48]⟩ : ByteArray)) else (impl_Decimal.l0 k a0 (⟨#[]⟩ : ByteArray) a0)
set_option maxHeartbeats 8000000 in
set_option maxRecDepth 100000 in
theorem impl_Decimal.calls (k : Nat) (a0 : Int) (r : ByteArray) (w : World) (h : impl_Decimal.f k a0 = some r) :
 Calls Try.prog 114 #[.int .i64 a0] w fun e w' => e = .returned (.string r) ∧ Below w.heap.size w w' := by
 have HB := Aside0.mk (Below.refl w.heap.size w);have H : (if a0 = 0 then (some (⟨#[48]⟩ : ByteArray)) else (impl_Decimal.l0 k a0 (⟨#[]⟩ : ByteArray) a0)) = some r := h;clear h;by_cases c2 : a0 = 0
 ·rw [if_pos c2] at H;obtain ⟨c2b0, c2b1⟩ := eT c2;clear c2;obtain rfl := Option.some.inj H;go_enter Try.func114, Try.ntmps114;go_wp2;go_ret;exact ⟨rE, cB⟩
 ·rw [if_neg c2] at H;obtain ⟨c2b0, c2b1⟩ := eF c2;have H' := Aside0.mk H;clear H;go_enter Try.func114, Try.ntmps114;go_wp2
  go_loopg [3, 4] k (fun kq v3 v4 w' => ∃ (x3_1 : ByteArray) (x4_1 : Int), v3 = .string x3_1 ∧ v4 = .int .i64 x4_1 ∧ Aside0 (impl_Decimal.l0 kq a0 x3_1 x4_1 = some r) ∧ Aside0 (kq ≤ k) ∧ Aside0 (Below w.heap.size w w'))
  case atStart => exact ⟨((⟨#[]⟩ : ByteArray)), (a0), rS, rS, H', ⟨Nat.le_refl _⟩, ⟨cB⟩⟩
  case round =>
   clear H';(try clear c2);(try clear c2b0);(try clear c2b1);obtain ⟨x3_1, x4_1, rfl, rfl, HA, HK1, HB⟩ := hrel
   cases gk with
   | zero => exact absurd HA.out (by simp [impl_Decimal.l0])
   | succ k1 =>
    have H := HA.out;clear HA;simp only [impl_Decimal.l0] at H;by_cases c3 : x4_1 = 0
    ·rw [if_pos c3] at H;obtain ⟨c3b0, c3b1⟩ := eT c3;clear c3;by_cases c4 : a0 < 0
     ·rw [if_pos c4] at H;have c4b0 := decide_eq_true c4;clear c4;replace H := gC H;obtain ⟨c5, H⟩ := H;have c5b0 := eq_true c5;have c5b1 : decide (1 + x3_1.size ≤ 9223372036854775807) = true := decide_eq_true c5
      try have c5b2 : (9223372036854775807 < 1 + x3_1.size) = False := eq_false (Nat.not_lt.2 c5)
      obtain rfl := Option.some.inj H;go_wp2;go_ret;exact ⟨rE, cB⟩
     ·rw [if_neg c4] at H;have c4b0 := decide_eq_false c4;clear c4;obtain rfl := Option.some.inj H;go_wp2;go_ret;exact ⟨rE, cB⟩
    ·rw [if_neg c3] at H;obtain ⟨c3b0, c3b1⟩ := eF c3;obtain ⟨ji6, hji6⟩ : ∃ j_ : Int, (mx (Int.tmod x4_1 10) (wrap64 (-(Int.tmod x4_1 10)))) = j_ := ⟨_, rfl⟩
     (first|rw [hji6] at H|simp only [hji6] at H)
     have hji6_ : (if (Int.tmod x4_1 10) < (wrap64 (-(Int.tmod x4_1 10))) then (wrap64 (-(Int.tmod x4_1 10))) else (Int.tmod x4_1 10)) = ji6 := hji6;replace H := gC H;obtain ⟨c7, H⟩ := H;have c7b0 := eq_true c7;have c7b1 : decide (0 ≤ (ji6)) = true := decide_eq_true c7;clear c7;replace H := gC H;obtain ⟨c8, H⟩ := H;have c8b0 := eq_true c8;have c8b1 : decide ((ji6) ≤ (wrap64 ((ji6) + 1))) = true := decide_eq_true c8;replace H := gC H;obtain ⟨c9, H⟩ := H;have c9b0 := eq_true c9;have c9b1 : decide ((wrap64 ((ji6) + 1)) ≤ 16) = true := decide_eq_true c9;replace H := gC H;obtain ⟨c10, H⟩ := H;have c10b0 := eq_true c10;have c10b1 : decide (((⟨#[48, 49, 50, 51, 52, 53, 54, 55, 56, 57, 97, 98, 99, 100, 101, 102]⟩ : ByteArray).extract ((ji6) : Int).toNat ((wrap64 ((ji6) + 1)) : Int).toNat).size + x3_1.size ≤ 9223372036854775807) = true := decide_eq_true c10
     try have c10b2 : (9223372036854775807 < ((⟨#[48, 49, 50, 51, 52, 53, 54, 55, 56, 57, 97, 98, 99, 100, 101, 102]⟩ : ByteArray).extract ((ji6) : Int).toNat ((wrap64 ((ji6) + 1)) : Int).toNat).size + x3_1.size) = False := eq_false (Nat.not_lt.2 c10)
     have H' := Aside0.mk H;clear H;go_wp2;go_roundg k1
     case measure => have := HK1.out; omega
     case rel => exact ⟨(((⟨#[48, 49, 50, 51, 52, 53, 54, 55, 56, 57, 97, 98, 99, 100, 101, 102]⟩ : ByteArray).extract ((ji6) : Int).toNat ((wrap64 ((ji6) + 1)) : Int).toNat) ++ x3_1), (wrap64 (Int.tdiv x4_1 10)), (by first | rfl | (simp; done) | (simp only [← hji6] <;> (first | rfl | simp)) | (simp [*]; done)), rS, H', ⟨by have := HK1.out; omega⟩, ⟨cB⟩⟩
def impl_SignText.l0 : Nat → ByteArray → List (S153) → Int → Int → Option (ByteArray)
  | 0, _, _, _, _ => none
  | k + 1, x3, x6, x7, x8 => if x8 < x7 then (if 0 ≤ x8 then (if x8 < (x6.length : Int) then (if x8 > 0 then (if x3.size + 1 ≤ 9223372036854775807 then (if ((rd_T153 x6 x8).f0) = 2 then ((impl_Decimal.f k (mx 0 ((rd_T153 x6 x8).f2))).bind fun t200 => (if (x3 ++ (⟨#[32]⟩ : ByteArray)).size + t200.size ≤ 9223372036854775807 then (impl_SignText.l0 k ((x3 ++ (⟨#[32]⟩ : ByteArray)) ++ t200) x6 x7 (wrap64 (x8 + 1))) else (none))) else (if (x3 ++ (⟨#[32]⟩ : ByteArray)).size + ((rd_T153 x6 x8).f1).size ≤ 9223372036854775807 then (impl_SignText.l0 k ((x3 ++ (⟨#[32]⟩ : ByteArray)) ++ ((rd_T153 x6 x8).f1)) x6 x7 (wrap64 (x8 + 1))) else (none))) else (none)) else (if ((rd_T153 x6 x8).f0) = 2 then ((impl_Decimal.f k (mx 0 ((rd_T153 x6 x8).f2))).bind fun t201 => (if x3.size + t201.size ≤ 9223372036854775807 then (impl_SignText.l0 k (x3 ++ t201) x6 x7 (wrap64 (x8 + 1))) else (none))) else (if x3.size + ((rd_T153 x6 x8).f1).size ≤ 9223372036854775807 then (impl_SignText.l0 k (x3 ++ ((rd_T153 x6 x8).f1)) x6 x7 (wrap64 (x8 + 1))) else (none)))) else (none)) else (none)) else (some x3)
def impl_SignText.f (k : Nat) (l0 : List (S153)) : Option (ByteArray) := impl_SignText.l0 k (⟨#[]⟩ : ByteArray) l0 (l0.length : Int) 0
set_option maxHeartbeats 8000000 in
set_option maxRecDepth 100000 in
theorem impl_SignText.calls (k : Nat) (A0 : Option Addr) (c0 : Nat) (l0 : List (S153)) (r : ByteArray) (w : World) (hr0 : Kd.C k153 w A0 l0.length l0) (hc0 : l0.length ≤ c0) (h : impl_SignText.f k l0 = some r) :
 Calls Try.prog 76 #[.slice A0 l0.length c0] w fun e w' => e = .returned (.string r) ∧ Below w.heap.size w w' := by
 have hu153 := Try.underlying153;have HR0 := Aside0.mk hr0;have HC0 := Aside0.mk hc0;clear hr0 hc0;have HB := Aside0.mk (Below.refl w.heap.size w);have H : (impl_SignText.l0 k (⟨#[]⟩ : ByteArray) l0 (l0.length : Int) 0) = some r := h;clear h;have H' := Aside0.mk H;clear H;go_enter Try.func76, Try.ntmps76;go_wp2
 go_loopg [3, 8] k (fun kq v3 v8 w' => ∃ (x3_1 : ByteArray) (x8_1 : Int), v3 = .string x3_1 ∧ v8 = .int .i64 x8_1 ∧ Aside0 (impl_SignText.l0 kq x3_1 l0 (l0.length : Int) x8_1 = some r) ∧ Aside0 (kq ≤ k) ∧ Aside0 (Below w.heap.size w w'))
 case atStart => exact ⟨((⟨#[]⟩ : ByteArray)), (0), rS, rS, H', ⟨Nat.le_refl _⟩, ⟨cB⟩⟩
 case round =>
  clear H';obtain ⟨x3_1, x8_1, rfl, rfl, HA, HK1, HB⟩ := hrel
  cases gk with
  | zero => exact absurd HA.out (by simp [impl_SignText.l0])
  | succ k1 =>
   have H := HA.out;clear HA;simp only [impl_SignText.l0] at H;by_cases c2 : x8_1 < (l0.length : Int)
   ·rw [if_pos c2] at H;have c2b0 := decide_eq_true c2;clear c2;replace H := gD H;obtain ⟨c3b0, H⟩ := H;replace H := gD H;obtain ⟨c4b0, H⟩ := H;by_cases c5 : x8_1 > 0
    ·rw [if_pos c5] at H;have c5b0 : decide (0 < x8_1) = true := decide_eq_true c5;clear c5;replace H := gC H;obtain ⟨c6, H⟩ := H;have c6b0 := eq_true c6;have c6b1 : decide (x3_1.size + 1 ≤ 9223372036854775807) = true := decide_eq_true c6
     try have c6b2 : (9223372036854775807 < x3_1.size + 1) = False := eq_false (Nat.not_lt.2 c6)
     by_cases c7 : ((rd_T153 l0 x8_1).f0) = 2
     ·rw [if_pos c7] at H;obtain ⟨c7b0, c7b1⟩ := eT c7;clear c7;obtain ⟨ji8, hji8⟩ : ∃ j_ : Int, (mx 0 ((rd_T153 l0 x8_1).f2)) = j_ := ⟨_, rfl⟩
      (first|rw [hji8] at H|simp only [hji8] at H)
      have hji8_ : (if 0 < ((rd_T153 l0 x8_1).f2) then ((rd_T153 l0 x8_1).f2) else 0) = ji8 := hji8;replace H := bE H;obtain ⟨t200, A9, H⟩ := H;replace H := gC H;obtain ⟨c10, H⟩ := H;have c10b0 := eq_true c10;have c10b1 : decide ((x3_1 ++ (⟨#[32]⟩ : ByteArray)).size + t200.size ≤ 9223372036854775807) = true := decide_eq_true c10
      try have c10b2 : (9223372036854775807 < (x3_1 ++ (⟨#[32]⟩ : ByteArray)).size + t200.size) = False := eq_false (Nat.not_lt.2 c10)
      try have c10b3 : (9223372036854775807 < x3_1.size + 1 + t200.size) = False := eq_false (Nat.not_lt.2 (by have h_ := c10; simp only [ByteArray.size_append] at h_; exact h_))
      have H' := Aside0.mk H;clear H;have p198 : 0 ≤ (x8_1 : Int) := dA;have q198 : x8_1 < (l0.length : Int) := dA;obtain ⟨ad198, e198, hx198_0, hx198_1, hx198_2⟩ := at_T153 HR0.out x8_1 p198 q198;cases e198;replace hx198_0 := (bc HB hx198_0 :);replace hx198_1 := (bc HB hx198_1 :);replace hx198_2 := (bc HB hx198_2 :);replace p198 := eq_true p198;replace q198 := eq_true q198
      go_wp2_with (first|((with_reducible refine gN 5 ?_);refine boxZ 5 #[.int .i64 0, .string (⟨#[]⟩ : ByteArray), .int .i64 0] 153 ?_;intro gb199 hg w11 hbox hb;have BK199 := Aside0.mk (hbox);have GW199 := gS hg;have GE199 := gS hg;replace HB := sB hb;clear hb hbox hg;obtain ⟨hcz12_0, hcz12_1, hcz12_2, hfz12_0, hfz12_1, hfz12_2⟩ := cz3 BK199)|((with_reducible refine gF 114 ?_);refine goesL_ (some 24) rfl rfl Try.func114 (by kernel_rfl) rfl #[.int .i64 ji8] rfl (by (try simp only [List.map_toArray, List.map_cons, List.map_nil]); first | done | (simp only [hji8]; rfl) | rfl | (simp only [List.length_drop, List.length_take]; rfl)) ?_;(with_reducible refine (impl_Decimal.calls k1 ji8 t200 _ A9.out).mono ?_);rintro e w13 ⟨rfl, hb⟩;refine ⟨_, rfl, ?_⟩;replace BK199 := kP BK199 hb (.cells #[.int .i64 ((rd_T153 l0 x8_1).f0), .string ((rd_T153 l0 x8_1).f1), .int .i64 ((rd_T153 l0 x8_1).f2)] 153 (0, 0));replace HB := sB hb;(try clear hb)))
      go_roundg k1
      case measure => have := HK1.out; omega
      case rel => exact ⟨((x3_1 ++ (⟨#[32]⟩ : ByteArray)) ++ t200), (wrap64 (x8_1 + 1)), rS, rS, H', ⟨by have := HK1.out; omega⟩, ⟨cB⟩⟩
     ·rw [if_neg c7] at H;obtain ⟨c7b0, c7b1⟩ := eF c7;replace H := gC H;obtain ⟨c14, H⟩ := H;have c14b0 := eq_true c14;have c14b1 : decide ((x3_1 ++ (⟨#[32]⟩ : ByteArray)).size + ((rd_T153 l0 x8_1).f1).size ≤ 9223372036854775807) = true := decide_eq_true c14
      try have c14b2 : (9223372036854775807 < (x3_1 ++ (⟨#[32]⟩ : ByteArray)).size + ((rd_T153 l0 x8_1).f1).size) = False := eq_false (Nat.not_lt.2 c14)
      try have c14b3 : (9223372036854775807 < x3_1.size + 1 + ((rd_T153 l0 x8_1).f1).size) = False := eq_false (Nat.not_lt.2 (by have h_ := c14; simp only [ByteArray.size_append] at h_; exact h_))
      have H' := Aside0.mk H;clear H;have p198 : 0 ≤ (x8_1 : Int) := dA;have q198 : x8_1 < (l0.length : Int) := dA;obtain ⟨ad198, e198, hx198_0, hx198_1, hx198_2⟩ := at_T153 HR0.out x8_1 p198 q198;cases e198;replace hx198_0 := (bc HB hx198_0 :);replace hx198_1 := (bc HB hx198_1 :);replace hx198_2 := (bc HB hx198_2 :);replace p198 := eq_true p198;replace q198 := eq_true q198
      go_wp2_with (first|((with_reducible refine gN 5 ?_);refine boxZ 5 #[.int .i64 0, .string (⟨#[]⟩ : ByteArray), .int .i64 0] 153 ?_;intro gb199 hg w15 hbox hb;have BK199 := Aside0.mk (hbox);have GW199 := gS hg;have GE199 := gS hg;replace HB := sB hb;clear hb hbox hg;obtain ⟨hcz16_0, hcz16_1, hcz16_2, hfz16_0, hfz16_1, hfz16_2⟩ := cz3 BK199))
      go_roundg k1
      case measure => have := HK1.out; omega
      case rel => exact ⟨((x3_1 ++ (⟨#[32]⟩ : ByteArray)) ++ ((rd_T153 l0 x8_1).f1)), (wrap64 (x8_1 + 1)), rS, rS, H', ⟨by have := HK1.out; omega⟩, ⟨cB⟩⟩
    ·rw [if_neg c5] at H;have c5b0 : decide (0 < x8_1) = false := decide_eq_false c5;clear c5;by_cases c17 : ((rd_T153 l0 x8_1).f0) = 2
     ·rw [if_pos c17] at H;obtain ⟨c17b0, c17b1⟩ := eT c17;clear c17;obtain ⟨ji18, hji18⟩ : ∃ j_ : Int, (mx 0 ((rd_T153 l0 x8_1).f2)) = j_ := ⟨_, rfl⟩
      (first|rw [hji18] at H|simp only [hji18] at H)
      have hji18_ : (if 0 < ((rd_T153 l0 x8_1).f2) then ((rd_T153 l0 x8_1).f2) else 0) = ji18 := hji18;replace H := bE H;obtain ⟨t201, A19, H⟩ := H;replace H := gC H;obtain ⟨c20, H⟩ := H;have c20b0 := eq_true c20;have c20b1 : decide (x3_1.size + t201.size ≤ 9223372036854775807) = true := decide_eq_true c20
      try have c20b2 : (9223372036854775807 < x3_1.size + t201.size) = False := eq_false (Nat.not_lt.2 c20)
      have H' := Aside0.mk H;clear H;have p198 : 0 ≤ (x8_1 : Int) := dA;have q198 : x8_1 < (l0.length : Int) := dA;obtain ⟨ad198, e198, hx198_0, hx198_1, hx198_2⟩ := at_T153 HR0.out x8_1 p198 q198;cases e198;replace hx198_0 := (bc HB hx198_0 :);replace hx198_1 := (bc HB hx198_1 :);replace hx198_2 := (bc HB hx198_2 :);replace p198 := eq_true p198;replace q198 := eq_true q198
      go_wp2_with (first|((with_reducible refine gN 5 ?_);refine boxZ 5 #[.int .i64 0, .string (⟨#[]⟩ : ByteArray), .int .i64 0] 153 ?_;intro gb199 hg w21 hbox hb;have BK199 := Aside0.mk (hbox);have GW199 := gS hg;have GE199 := gS hg;replace HB := sB hb;clear hb hbox hg;obtain ⟨hcz22_0, hcz22_1, hcz22_2, hfz22_0, hfz22_1, hfz22_2⟩ := cz3 BK199)|((with_reducible refine gF 114 ?_);refine goesL_ (some 24) rfl rfl Try.func114 (by kernel_rfl) rfl #[.int .i64 ji18] rfl (by (try simp only [List.map_toArray, List.map_cons, List.map_nil]); first | done | (simp only [hji18]; rfl) | rfl | (simp only [List.length_drop, List.length_take]; rfl)) ?_;(with_reducible refine (impl_Decimal.calls k1 ji18 t201 _ A19.out).mono ?_);rintro e w23 ⟨rfl, hb⟩;refine ⟨_, rfl, ?_⟩;replace BK199 := kP BK199 hb (.cells #[.int .i64 ((rd_T153 l0 x8_1).f0), .string ((rd_T153 l0 x8_1).f1), .int .i64 ((rd_T153 l0 x8_1).f2)] 153 (0, 0));replace HB := sB hb;(try clear hb)))
      go_roundg k1
      case measure => have := HK1.out; omega
      case rel => exact ⟨(x3_1 ++ t201), (wrap64 (x8_1 + 1)), rS, rS, H', ⟨by have := HK1.out; omega⟩, ⟨cB⟩⟩
     ·rw [if_neg c17] at H;obtain ⟨c17b0, c17b1⟩ := eF c17;replace H := gC H;obtain ⟨c24, H⟩ := H;have c24b0 := eq_true c24;have c24b1 : decide (x3_1.size + ((rd_T153 l0 x8_1).f1).size ≤ 9223372036854775807) = true := decide_eq_true c24
      try have c24b2 : (9223372036854775807 < x3_1.size + ((rd_T153 l0 x8_1).f1).size) = False := eq_false (Nat.not_lt.2 c24)
      have H' := Aside0.mk H;clear H;have p198 : 0 ≤ (x8_1 : Int) := dA;have q198 : x8_1 < (l0.length : Int) := dA;obtain ⟨ad198, e198, hx198_0, hx198_1, hx198_2⟩ := at_T153 HR0.out x8_1 p198 q198;cases e198;replace hx198_0 := (bc HB hx198_0 :);replace hx198_1 := (bc HB hx198_1 :);replace hx198_2 := (bc HB hx198_2 :);replace p198 := eq_true p198;replace q198 := eq_true q198
      go_wp2_with (first|((with_reducible refine gN 5 ?_);refine boxZ 5 #[.int .i64 0, .string (⟨#[]⟩ : ByteArray), .int .i64 0] 153 ?_;intro gb199 hg w25 hbox hb;have BK199 := Aside0.mk (hbox);have GW199 := gS hg;have GE199 := gS hg;replace HB := sB hb;clear hb hbox hg;obtain ⟨hcz26_0, hcz26_1, hcz26_2, hfz26_0, hfz26_1, hfz26_2⟩ := cz3 BK199))
      go_roundg k1
      case measure => have := HK1.out; omega
      case rel => exact ⟨(x3_1 ++ ((rd_T153 l0 x8_1).f1)), (wrap64 (x8_1 + 1)), rS, rS, H', ⟨by have := HK1.out; omega⟩, ⟨cB⟩⟩
   ·rw [if_neg c2] at H;have c2b0 := decide_eq_false c2;clear c2;obtain rfl := Option.some.inj H;go_wp2;go_ret;exact ⟨rE, cB⟩
def impl_isLetter.f (a0 : Int) : Option (Bool) := if a0 ≥ 97 then (some (decide (a0 ≤ 122))) else (some false)
set_option maxHeartbeats 8000000 in
set_option maxRecDepth 100000 in
theorem impl_isLetter.calls (a0 : Int) (r : Bool) (w : World) (h : impl_isLetter.f a0 = some r) :
 Calls Try.prog 144 #[.int .u8 a0] w fun e w' => e = .returned (.bool r) ∧ Drawn0 w w' := by
 have H : (if a0 ≥ 97 then (some (decide (a0 ≤ 122))) else (some false)) = some r := h;clear h;by_cases c2 : a0 ≥ 97
 ·rw [if_pos c2] at H;have c2b0 : decide (97 ≤ a0) = true := decide_eq_true c2;clear c2;obtain rfl := Option.some.inj H;go_enter Try.func144, Try.ntmps144;go_wp2;go_ret
  exact ⟨by first | rfl | (simp; done) | (simp [*]; done), by repeat (first | exact Drawn0.refl _ | apply Drawn0.step)⟩
 ·rw [if_neg c2] at H;have c2b0 : decide (97 ≤ a0) = false := decide_eq_false c2;clear c2;obtain rfl := Option.some.inj H;go_enter Try.func144, Try.ntmps144;go_wp2;go_ret
  exact ⟨by first | rfl | (simp; done) | (simp [*]; done), by repeat (first | exact Drawn0.refl _ | apply Drawn0.step)⟩
def impl_isFigure.f (a0 : Int) : Option (Bool) := if a0 ≥ 48 then (some (decide (a0 ≤ 57))) else (some false)
set_option maxHeartbeats 8000000 in
set_option maxRecDepth 100000 in
theorem impl_isFigure.calls (a0 : Int) (r : Bool) (w : World) (h : impl_isFigure.f a0 = some r) :
 Calls Try.prog 146 #[.int .u8 a0] w fun e w' => e = .returned (.bool r) ∧ Drawn0 w w' := by
 have H : (if a0 ≥ 48 then (some (decide (a0 ≤ 57))) else (some false)) = some r := h;clear h;by_cases c2 : a0 ≥ 48
 ·rw [if_pos c2] at H;have c2b0 : decide (48 ≤ a0) = true := decide_eq_true c2;clear c2;obtain rfl := Option.some.inj H;go_enter Try.func146, Try.ntmps146;go_wp2;go_ret
  exact ⟨by first | rfl | (simp; done) | (simp [*]; done), by repeat (first | exact Drawn0.refl _ | apply Drawn0.step)⟩
 ·rw [if_neg c2] at H;have c2b0 : decide (48 ≤ a0) = false := decide_eq_false c2;clear c2;obtain rfl := Option.some.inj H;go_enter Try.func146, Try.ntmps146;go_wp2;go_ret
  exact ⟨by first | rfl | (simp; done) | (simp [*]; done), by repeat (first | exact Drawn0.refl _ | apply Drawn0.step)⟩
def impl_markAt.l0 : Nat → ByteArray → Int → List ByteArray → Int → Int → Option (ByteArray)
  | 0, _, _, _, _, _ => none
  | k + 1, x0, x1, x7, x8, x9 => if x9 < x8 then (if 0 ≤ x9 then (if x9 < (x7.length : Int) then (if (wrap64 ((x0.size : Int) - x1)) ≥ ((rdOf ByteArray.empty x7 x9).size : Int) then (if 0 ≤ x1 then (if x1 ≤ (wrap64 (x1 + ((rdOf ByteArray.empty x7 x9).size : Int))) then (if (wrap64 (x1 + ((rdOf ByteArray.empty x7 x9).size : Int))) ≤ (x0.size : Int) then (if (x0.extract (x1 : Int).toNat ((wrap64 (x1 + ((rdOf ByteArray.empty x7 x9).size : Int))) : Int).toNat).toList = (rdOf ByteArray.empty x7 x9).toList then (some (rdOf ByteArray.empty x7 x9)) else (impl_markAt.l0 k x0 x1 x7 x8 (wrap64 (x9 + 1)))) else (none)) else (none)) else (none)) else (impl_markAt.l0 k x0 x1 x7 x8 (wrap64 (x9 + 1)))) else (none)) else (none)) else (some (⟨#[]⟩ : ByteArray))
def impl_markAt.f (k : Nat) (a0 : ByteArray) (a1 : Int) : Option (ByteArray) := (some (([(⟨#[61, 61]⟩ : ByteArray), (⟨#[33, 61]⟩ : ByteArray), (⟨#[60, 61]⟩ : ByteArray), (⟨#[62, 61]⟩ : ByteArray), (⟨#[60]⟩ : ByteArray), (⟨#[62]⟩ : ByteArray), (⟨#[38]⟩ : ByteArray), (⟨#[58]⟩ : ByteArray), (⟨#[59]⟩ : ByteArray), (⟨#[44]⟩ : ByteArray)] : List ByteArray) : List ByteArray)).bind fun y202 => (impl_markAt.l0 k a0 a1 y202 (y202.length : Int) 0)
set_option maxHeartbeats 8000000 in
set_option maxRecDepth 100000 in
theorem impl_markAt.calls (k : Nat) (a0 : ByteArray) (a1 : Int) (r : ByteArray) (w : World) (h : impl_markAt.f k a0 a1 = some r) :
 Calls Try.prog 147 #[.string a0, .int .i64 a1] w fun e w' => e = .returned (.string r) ∧ Below w.heap.size w w' := by
 have HB := Aside0.mk (Below.refl w.heap.size w)
 have H : ((some (([(⟨#[61, 61]⟩ : ByteArray), (⟨#[33, 61]⟩ : ByteArray), (⟨#[60, 61]⟩ : ByteArray), (⟨#[62, 61]⟩ : ByteArray), (⟨#[60]⟩ : ByteArray), (⟨#[62]⟩ : ByteArray), (⟨#[38]⟩ : ByteArray), (⟨#[58]⟩ : ByteArray), (⟨#[59]⟩ : ByteArray), (⟨#[44]⟩ : ByteArray)] : List ByteArray) : List ByteArray)).bind fun y202 => (impl_markAt.l0 k a0 a1 y202 (y202.length : Int) 0)) = some r := h
 clear h;replace H := nE H;obtain ⟨y202, Ny202, H⟩ := H;have H' := Aside0.mk H;clear H;go_enter Try.func147, Try.ntmps147
 go_wp2_with (first|((with_reducible refine gN 7 ?_);(try (refine gate_guard (by rfl) ?_; dsimp only));refine Kd.R_lit Kd.string _ 9 ?hg (N := 7) ?hd (xs := ([(⟨#[61, 61]⟩ : ByteArray), (⟨#[33, 61]⟩ : ByteArray), (⟨#[60, 61]⟩ : ByteArray), (⟨#[62, 61]⟩ : ByteArray), (⟨#[60]⟩ : ByteArray), (⟨#[62]⟩ : ByteArray), (⟨#[38]⟩ : ByteArray), (⟨#[58]⟩ : ByteArray), (⟨#[59]⟩ : ByteArray), (⟨#[44]⟩ : ByteArray)] : List ByteArray)) (inner := [.string (⟨#[61, 61]⟩ : ByteArray), .string (⟨#[33, 61]⟩ : ByteArray), .string (⟨#[60, 61]⟩ : ByteArray), .string (⟨#[62, 61]⟩ : ByteArray), .string (⟨#[60]⟩ : ByteArray), .string (⟨#[62]⟩ : ByteArray), .string (⟨#[38]⟩ : ByteArray), .string (⟨#[58]⟩ : ByteArray), .string (⟨#[59]⟩ : ByteArray), .string (⟨#[44]⟩ : ByteArray)]) (ok := fun _ => True) (okp := fun _ => True) ?hr ?hp (fun _ hk => hk) trivial (Below.refl _ _) (Nat.le_refl _) (by simp) ?_;(case hd => rfl);(case hg => rfl);(case hr => exact rG);(case hp => exact (Reps.one (show Kd.M Kd.string _ _ _ (⟨#[61, 61]⟩ : ByteArray) [.string (⟨#[61, 61]⟩ : ByteArray)] from rfl) (Reps.one (show Kd.M Kd.string _ _ _ (⟨#[33, 61]⟩ : ByteArray) [.string (⟨#[33, 61]⟩ : ByteArray)] from rfl) (Reps.one (show Kd.M Kd.string _ _ _ (⟨#[60, 61]⟩ : ByteArray) [.string (⟨#[60, 61]⟩ : ByteArray)] from rfl) (Reps.one (show Kd.M Kd.string _ _ _ (⟨#[62, 61]⟩ : ByteArray) [.string (⟨#[62, 61]⟩ : ByteArray)] from rfl) (Reps.one (show Kd.M Kd.string _ _ _ (⟨#[60]⟩ : ByteArray) [.string (⟨#[60]⟩ : ByteArray)] from rfl) (Reps.one (show Kd.M Kd.string _ _ _ (⟨#[62]⟩ : ByteArray) [.string (⟨#[62]⟩ : ByteArray)] from rfl) (Reps.one (show Kd.M Kd.string _ _ _ (⟨#[38]⟩ : ByteArray) [.string (⟨#[38]⟩ : ByteArray)] from rfl) (Reps.one (show Kd.M Kd.string _ _ _ (⟨#[58]⟩ : ByteArray) [.string (⟨#[58]⟩ : ByteArray)] from rfl) (Reps.one (show Kd.M Kd.string _ _ _ (⟨#[59]⟩ : ByteArray) [.string (⟨#[59]⟩ : ByteArray)] from rfl) (Reps.one (show Kd.M Kd.string _ _ _ (⟨#[44]⟩ : ByteArray) [.string (⟨#[44]⟩ : ByteArray)] from rfl) (Reps.none _ _))))))))))));intro v203 w3 ho4 hb hg_ hnew_;clear hg_ hnew_;(first | rw [← Ny202.out] at ho4 | (simp only [Int.reduceToNat] at ho4; rw [← Ny202.out] at ho4));have HO204 := Aside0.mk (Kd.R_lower ho4 (below_size cB));replace HB := sB hb;clear hb ho4;obtain ⟨Ao5, co5, eo5⟩ := Kd.R_slice HO204.out;subst eo5))
 go_loopg [9] k (fun kq v9 w' => ∃ (x9_1 : Int), v9 = .int .i64 x9_1 ∧ Aside0 (impl_markAt.l0 kq a0 a1 y202 (y202.length : Int) x9_1 = some r) ∧ Aside0 (kq ≤ k) ∧ Aside0 (Kd.R Kd.string 9 w' w.heap.size (fun _ => True) (.slice Ao5 y202.length co5) y202) ∧ Aside0 (Below w.heap.size w w'))
 case atStart => exact ⟨(0), rS, H', ⟨Nat.le_refl _⟩, ⟨mR HO204⟩, ⟨cB⟩⟩
 case round =>
  clear H';obtain ⟨x9_1, rfl, HA, HK1, HO_7, HB⟩ := hrel
  cases gk with
  | zero => exact absurd HA.out (by simp [impl_markAt.l0])
  | succ k1 =>
   have H := HA.out;clear HA;simp only [impl_markAt.l0] at H;by_cases c6 : x9_1 < (y202.length : Int)
   ·rw [if_pos c6] at H;have c6b0 := decide_eq_true c6;clear c6;replace H := gD H;obtain ⟨c7b0, H⟩ := H;replace H := gD H;obtain ⟨c8b0, H⟩ := H;by_cases c9 : (wrap64 ((a0.size : Int) - a1)) ≥ ((rdOf ByteArray.empty y202 x9_1).size : Int)
    ·rw [if_pos c9] at H;have c9b0 : decide (((rdOf ByteArray.empty y202 x9_1).size : Int) ≤ (wrap64 ((a0.size : Int) - a1))) = true := decide_eq_true c9;clear c9;replace H := gC H;obtain ⟨c10, H⟩ := H;have c10b0 := eq_true c10;have c10b1 : decide (0 ≤ a1) = true := decide_eq_true c10;clear c10;replace H := gC H;obtain ⟨c11, H⟩ := H;have c11b0 := eq_true c11;have c11b1 : decide (a1 ≤ (wrap64 (a1 + ((rdOf ByteArray.empty y202 x9_1).size : Int)))) = true := decide_eq_true c11;replace H := gC H;obtain ⟨c12, H⟩ := H;have c12b0 := eq_true c12;have c12b1 : decide ((wrap64 (a1 + ((rdOf ByteArray.empty y202 x9_1).size : Int))) ≤ (a0.size : Int)) = true := decide_eq_true c12;by_cases c13 : (a0.extract (a1 : Int).toNat ((wrap64 (a1 + ((rdOf ByteArray.empty y202 x9_1).size : Int))) : Int).toNat).toList = (rdOf ByteArray.empty y202 x9_1).toList
     ·rw [if_pos c13] at H;obtain ⟨c13b0, c13b1⟩ := eT c13;clear c13;obtain rfl := Option.some.inj H;have p205 : 0 ≤ (x9_1 : Int) := dA;have q205 : x9_1 < (y202.length : Int) := dA;obtain ⟨ad205, e205, hx205_0⟩ := Kd.at_string (Kd.R_reads' HO_7.out).2.2 x9_1 p205 q205;cases e205;replace p205 := eq_true p205;replace q205 := eq_true q205;go_wp2;go_ret;exact ⟨rE, cB⟩
     ·rw [if_neg c13] at H;obtain ⟨c13b0, c13b1⟩ := eF c13;have H' := Aside0.mk H;clear H;have p205 : 0 ≤ (x9_1 : Int) := dA;have q205 : x9_1 < (y202.length : Int) := dA;obtain ⟨ad205, e205, hx205_0⟩ := Kd.at_string (Kd.R_reads' HO_7.out).2.2 x9_1 p205 q205;cases e205;replace p205 := eq_true p205;replace q205 := eq_true q205;go_wp2;go_roundg k1
      case measure => have := HK1.out; omega
      case rel => exact ⟨(wrap64 (x9_1 + 1)), rS, H', ⟨by have := HK1.out; omega⟩, ⟨mR HO_7⟩, ⟨cB⟩⟩
    ·rw [if_neg c9] at H;have c9b0 : decide (((rdOf ByteArray.empty y202 x9_1).size : Int) ≤ (wrap64 ((a0.size : Int) - a1))) = false := decide_eq_false c9;clear c9;have H' := Aside0.mk H;clear H;have p205 : 0 ≤ (x9_1 : Int) := dA;have q205 : x9_1 < (y202.length : Int) := dA;obtain ⟨ad205, e205, hx205_0⟩ := Kd.at_string (Kd.R_reads' HO_7.out).2.2 x9_1 p205 q205;cases e205;replace p205 := eq_true p205;replace q205 := eq_true q205;go_wp2;go_roundg k1
     case measure => have := HK1.out; omega
     case rel => exact ⟨(wrap64 (x9_1 + 1)), rS, H', ⟨by have := HK1.out; omega⟩, ⟨mR HO_7⟩, ⟨cB⟩⟩
   ·rw [if_neg c6] at H;have c6b0 := decide_eq_false c6;clear c6;obtain rfl := Option.some.inj H;go_wp2;go_ret;exact ⟨rE, cB⟩
def impl_runOf_144.l0 : Nat → ByteArray → Int → Option (Int)
  | 0, _, _ => none
  | k + 1, x0, x1 => if x1 < (x0.size : Int) then (if 0 ≤ x1 then ((impl_isLetter.f (bt x0 x1)).bind fun t206 => (if t206 = true then (impl_runOf_144.l0 k x0 (wrap64 (x1 + 1))) else (some x1))) else (none)) else (some x1)
def impl_runOf_144.f (k : Nat) (a0 : ByteArray) (a1 : Int) (a2 : Unit) : Option (Int) := impl_runOf_144.l0 k a0 a1
set_option maxHeartbeats 8000000 in
set_option maxRecDepth 100000 in
theorem impl_runOf_144.calls (k : Nat) (a0 : ByteArray) (a1 : Int) (a2 : Unit) (r : Int) (w : World) (h : impl_runOf_144.f k a0 a1 a2 = some r) :
 Calls Try.prog 145 #[.string a0, .int .i64 a1, .func (.func 144) #[] #[]] w fun e w' => e = .returned (.int .i64 r) ∧ Drawn0 w w' := by
 have H : (impl_runOf_144.l0 k a0 a1) = some r := h;clear h;have H' := Aside0.mk H;clear H;go_enter Try.func145, Try.ntmps145;go_wp2
 go_loopg [1] k (fun kq v1 w' => ∃ (x1_1 : Int), v1 = .int .i64 x1_1 ∧ Aside0 (impl_runOf_144.l0 kq a0 x1_1 = some r) ∧ Aside0 (kq ≤ k) ∧ Drawn0 w w')
 case atStart => exact ⟨(a1), rS, H', ⟨Nat.le_refl _⟩, by repeat (first | exact Drawn0.refl _ | apply Drawn0.step)⟩
 case round =>
  clear H';obtain ⟨x1_1, rfl, HA, HK1, ⟨m1, rfl⟩⟩ := hrel
  cases gk with
  | zero => exact absurd HA.out (by simp [impl_runOf_144.l0])
  | succ k1 =>
   have H := HA.out;clear HA;simp only [impl_runOf_144.l0] at H;by_cases c4 : x1_1 < (a0.size : Int)
   ·rw [if_pos c4] at H;have c4b0 := decide_eq_true c4;clear c4;replace H := gD H;obtain ⟨c5b0, H⟩ := H;replace H := bE H;obtain ⟨t206, A7, H⟩ := H;by_cases c8 : t206 = true
    ·subst c8;replace H := iT H;have H' := Aside0.mk H;clear H;have p6 : 0 ≤ (x1_1 : Int) := dA;have q6 : x1_1 < (a0.size : Int) := dA;have hx6 := bt_at a0 x1_1;replace p6 := eq_true p6;replace q6 := eq_true q6
     go_wp2_with (first|(go_at_call 144;(with_reducible refine (impl_isLetter.calls (bt a0 x1_1) true _ A7.out).mono ?_);rintro e w' ⟨rfl, ⟨nd, rfl⟩⟩))
     go_roundg k1
     case measure => have := HK1.out; omega
     case rel => exact ⟨(wrap64 (x1_1 + 1)), rS, H', ⟨by have := HK1.out; omega⟩, by repeat (first | exact Drawn0.refl _ | apply Drawn0.step)⟩
    ·replace c8 := Bool.eq_false_iff.mpr c8;subst c8;replace H := iF H;obtain rfl := Option.some.inj H;have p6 : 0 ≤ (x1_1 : Int) := dA;have q6 : x1_1 < (a0.size : Int) := dA;have hx6 := bt_at a0 x1_1;replace p6 := eq_true p6;replace q6 := eq_true q6
     go_wp2_with (first|(go_at_call 144;(with_reducible refine (impl_isLetter.calls (bt a0 x1_1) false _ A7.out).mono ?_);rintro e w' ⟨rfl, ⟨nd, rfl⟩⟩))
     go_ret
     exact ⟨by first | rfl | (simp; done) | (simp [*]; done), by repeat (first | exact Drawn0.refl _ | apply Drawn0.step)⟩
   ·rw [if_neg c4] at H;have c4b0 := decide_eq_false c4;clear c4;obtain rfl := Option.some.inj H;go_wp2;go_ret
    exact ⟨by first | rfl | (simp; done) | (simp [*]; done), by repeat (first | exact Drawn0.refl _ | apply Drawn0.step)⟩
def impl_runOf_146.l0 : Nat → ByteArray → Int → Option (Int)
  | 0, _, _ => none
  | k + 1, x0, x1 => if x1 < (x0.size : Int) then (if 0 ≤ x1 then ((impl_isFigure.f (bt x0 x1)).bind fun t207 => (if t207 = true then (impl_runOf_146.l0 k x0 (wrap64 (x1 + 1))) else (some x1))) else (none)) else (some x1)
def impl_runOf_146.f (k : Nat) (a0 : ByteArray) (a1 : Int) (a2 : Unit) : Option (Int) := impl_runOf_146.l0 k a0 a1
set_option maxHeartbeats 8000000 in
set_option maxRecDepth 100000 in
theorem impl_runOf_146.calls (k : Nat) (a0 : ByteArray) (a1 : Int) (a2 : Unit) (r : Int) (w : World) (h : impl_runOf_146.f k a0 a1 a2 = some r) :
 Calls Try.prog 145 #[.string a0, .int .i64 a1, .func (.func 146) #[] #[]] w fun e w' => e = .returned (.int .i64 r) ∧ Drawn0 w w' := by
 have H : (impl_runOf_146.l0 k a0 a1) = some r := h;clear h;have H' := Aside0.mk H;clear H;go_enter Try.func145, Try.ntmps145;go_wp2
 go_loopg [1] k (fun kq v1 w' => ∃ (x1_1 : Int), v1 = .int .i64 x1_1 ∧ Aside0 (impl_runOf_146.l0 kq a0 x1_1 = some r) ∧ Aside0 (kq ≤ k) ∧ Drawn0 w w')
 case atStart => exact ⟨(a1), rS, H', ⟨Nat.le_refl _⟩, by repeat (first | exact Drawn0.refl _ | apply Drawn0.step)⟩
 case round =>
  clear H';obtain ⟨x1_1, rfl, HA, HK1, ⟨m1, rfl⟩⟩ := hrel
  cases gk with
  | zero => exact absurd HA.out (by simp [impl_runOf_146.l0])
  | succ k1 =>
   have H := HA.out;clear HA;simp only [impl_runOf_146.l0] at H;by_cases c4 : x1_1 < (a0.size : Int)
   ·rw [if_pos c4] at H;have c4b0 := decide_eq_true c4;clear c4;replace H := gD H;obtain ⟨c5b0, H⟩ := H;replace H := bE H;obtain ⟨t207, A7, H⟩ := H;by_cases c8 : t207 = true
    ·subst c8;replace H := iT H;have H' := Aside0.mk H;clear H;have p6 : 0 ≤ (x1_1 : Int) := dA;have q6 : x1_1 < (a0.size : Int) := dA;have hx6 := bt_at a0 x1_1;replace p6 := eq_true p6;replace q6 := eq_true q6
     go_wp2_with (first|(go_at_call 146;(with_reducible refine (impl_isFigure.calls (bt a0 x1_1) true _ A7.out).mono ?_);rintro e w' ⟨rfl, ⟨nd, rfl⟩⟩))
     go_roundg k1
     case measure => have := HK1.out; omega
     case rel => exact ⟨(wrap64 (x1_1 + 1)), rS, H', ⟨by have := HK1.out; omega⟩, by repeat (first | exact Drawn0.refl _ | apply Drawn0.step)⟩
    ·replace c8 := Bool.eq_false_iff.mpr c8;subst c8;replace H := iF H;obtain rfl := Option.some.inj H;have p6 : 0 ≤ (x1_1 : Int) := dA;have q6 : x1_1 < (a0.size : Int) := dA;have hx6 := bt_at a0 x1_1;replace p6 := eq_true p6;replace q6 := eq_true q6
     go_wp2_with (first|(go_at_call 146;(with_reducible refine (impl_isFigure.calls (bt a0 x1_1) false _ A7.out).mono ?_);rintro e w' ⟨rfl, ⟨nd, rfl⟩⟩))
     go_ret
     exact ⟨by first | rfl | (simp; done) | (simp [*]; done), by repeat (first | exact Drawn0.refl _ | apply Drawn0.step)⟩
   ·rw [if_neg c4] at H;have c4b0 := decide_eq_false c4;clear c4;obtain rfl := Option.some.inj H;go_wp2;go_ret
    exact ⟨by first | rfl | (simp; done) | (simp [*]; done), by repeat (first | exact Drawn0.refl _ | apply Drawn0.step)⟩
end Go.Proofs.Ytlgndgjbfjefpaa.PFnSigns
