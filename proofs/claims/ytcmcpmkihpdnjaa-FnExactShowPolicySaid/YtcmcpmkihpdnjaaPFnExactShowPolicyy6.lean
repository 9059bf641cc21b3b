import Derived.Test.YtcmcpmkihpdnjaaPFnExactShowPolicyy0
import Derived.Test.YtcmcpmkihpdnjaaPFnExactShowPolicyy4
import Derived.Test.YtcmcpmkihpdnjaaPFnExactShowPolicyy5
namespace Go.Proofs.Ytcmcpmkihpdnjaa.PFnExactShowPolicy
open Go.RowKit Go.Proofs.YtcmcpmkihpdnjaaW.PrintWords Go.Proofs.YtcmcpmkihpdnjaaW.PrintLast Go.Proofs.YtcmcpmkihpdnjaaW.PrintMore Go.Proofs.YtcmcpmkihpdnjaaW.Z
attribute [local go_sem] isS max2_int min2_int max_two min_two max_three min_three max_four min_four
set_option linter.unusedVariables false
set_option linter.unusedSimpArgs false
/-- More is held from here on. -/
theorem re_ {P : Program} {md : Region.Mode} {ops : Array Oper} {Q : Exit → Act → World → Prop} {S : World → Prop} (S1 : World → Prop) (hS : ∀ w, S1 w → S w) : ∀ {fuel : Nat} {l : Array Bool} {a : Act} {w : World}, S1 w → wpAnyLast P md ops Q S1 [] fuel l a w → wpAnyLast P md ops Q S [] fuel l a w
  | 0, _, _, _, _, h => h
  | fuel + 1, _, _, w, h1, h => ⟨h.1, fun i hi => wpOp_mono (fun a' w' h' => ⟨fun _ _ => hS w' (h'.1 (by simp) h1), re_ S1 hS (h'.1 (by simp) h1) h'.2⟩) (h.2 i hi)⟩
theorem qh6x0 {P : Prop} (h : P := by exact ⟨(blk_cell BK236.out 0).trans rfl, (blk_cell BK236.out 1).trans rfl, (blk_cell BK236.out 2).trans rfl, (blk_cell BK236.out 3).trans rfl, (blk_cell BK236.out 4).trans rfl, (blk_cell BK236.out 5).trans rfl, HS6_⟩) : P := h
theorem qh6x0a {P : Prop} (h : P := by exact ⟨(blk_cell BK236.out 0).trans rfl, (blk_cell BK236.out 1).trans rfl, (blk_cell BK236.out 2).trans rfl, (blk_cell BK236.out 3).trans rfl, (blk_cell BK236.out 4).trans rfl, (blk_cell BK236.out 5).trans rfl⟩) : P := h
mutual
def spec_l10Rule.j0 : Nat → ByteArray → List Int → List (S95) → Int → Int → Option (ByteArray)
  | 0, _, _, _, _, _ => none
  | k + 1, x3, x230000, x230001, x230002, x230003 => spec_l10Rule.l0 k x3 0 x230000 x230001 x230002 x230003
def spec_l10Rule.l0 : Nat → ByteArray → Int → List Int → List (S95) → Int → Int → Option (ByteArray)
  | 0, _, _, _, _, _, _ => none
  | k + 1, x3, x4, x230000, x230001, x230002, x230003 => if x4 < (x230000.length : Int) then (if x4 > 0 then (if x3.size + 3 ≤ 9223372036854775807 then (if 0 ≤ x4 then ((spec_l08Figures.f k (rd x230000 x4)).bind fun t231 => (if (x3 ++ (⟨#[32, 44, 32]⟩ : ByteArray)).size + t231.size ≤ 9223372036854775807 then (spec_l10Rule.l0 k ((x3 ++ (⟨#[32, 44, 32]⟩ : ByteArray)) ++ t231) (wrap64 (x4 + 1)) x230000 x230001 x230002 x230003) else (none))) else (none)) else (none)) else (if 0 ≤ x4 then ((spec_l08Figures.f k (rd x230000 x4)).bind fun t233 => (if x3.size + t233.size ≤ 9223372036854775807 then (spec_l10Rule.l0 k (x3 ++ t233) (wrap64 (x4 + 1)) x230000 x230001 x230002 x230003) else (none))) else (none))) else (spec_l10Rule.l1 k x3 0 x230000 x230001 x230002 x230003)
def spec_l10Rule.l1 : Nat → ByteArray → Int → List Int → List (S95) → Int → Int → Option (ByteArray)
  | 0, _, _, _, _, _, _ => none
  | k + 1, x3, x5, x230000, x230001, x230002, x230003 => if x5 < (x230001.length : Int) then (if 0 ≤ x5 then (if x5 = 0 then (if x3.size + 4 ≤ 9223372036854775807 then (spec_l10Rule.j3 k (x3 ++ (⟨#[32, 105, 102, 32]⟩ : ByteArray)) x5 x230000 x230001 x230002 x230003 ((rd_T95 x230001 x5).f0) ((rd_T95 x230001 x5).f1.f0) ((rd_T95 x230001 x5).f1.f1) ((rd_T95 x230001 x5).f2) ((rd_T95 x230001 x5).f3.f0) ((rd_T95 x230001 x5).f3.f1)) else (none)) else (if x3.size + 5 ≤ 9223372036854775807 then (spec_l10Rule.j3 k (x3 ++ (⟨#[32, 97, 110, 100, 32]⟩ : ByteArray)) x5 x230000 x230001 x230002 x230003 ((rd_T95 x230001 x5).f0) ((rd_T95 x230001 x5).f1.f0) ((rd_T95 x230001 x5).f1.f1) ((rd_T95 x230001 x5).f2) ((rd_T95 x230001 x5).f3.f0) ((rd_T95 x230001 x5).f3.f1)) else (none))) else (none)) else (if x3.size + 4 ≤ 9223372036854775807 then ((spec_l10Act.f k x230002 x230003).bind fun t234 => (if (x3 ++ (⟨#[32, 100, 111, 32]⟩ : ByteArray)).size + t234.size ≤ 9223372036854775807 then (if ((x3 ++ (⟨#[32, 100, 111, 32]⟩ : ByteArray)) ++ t234).size + 2 ≤ 9223372036854775807 then (some (((x3 ++ (⟨#[32, 100, 111, 32]⟩ : ByteArray)) ++ t234) ++ (⟨#[32, 59]⟩ : ByteArray))) else (none)) else (none))) else (none))
def spec_l10Rule.j3 : Nat → ByteArray → Int → List Int → List (S95) → Int → Int → Int → Int → Int → Int → Int → Int → Option (ByteArray)
  | 0, _, _, _, _, _, _, _, _, _, _, _, _ => none
  | k + 1, x3, x5, x230000, x230001, x230002, x230003, x237000, x237001, x237002, x237003, x237004, x237005 => if x3.size + 4 ≤ 9223372036854775807 then ((spec_l08Figures.f k x237000).bind fun t237 => (if (x3 ++ (⟨#[97, 114, 103, 32]⟩ : ByteArray)).size + t237.size ≤ 9223372036854775807 then (if ((x3 ++ (⟨#[97, 114, 103, 32]⟩ : ByteArray)) ++ t237).size + 3 ≤ 9223372036854775807 then ((spec_l10Wide.f k x237001 x237002).bind fun t238 => (if (((x3 ++ (⟨#[97, 114, 103, 32]⟩ : ByteArray)) ++ t237) ++ (⟨#[32, 38, 32]⟩ : ByteArray)).size + t238.size ≤ 9223372036854775807 then (if ((((x3 ++ (⟨#[97, 114, 103, 32]⟩ : ByteArray)) ++ t237) ++ (⟨#[32, 38, 32]⟩ : ByteArray)) ++ t238).size + 1 ≤ 9223372036854775807 then ((spec_l10Cms.f).bind fun t239 => (if 0 ≤ x237003 then (if x237003 < (t239.length : Int) then (if (((((x3 ++ (⟨#[97, 114, 103, 32]⟩ : ByteArray)) ++ t237) ++ (⟨#[32, 38, 32]⟩ : ByteArray)) ++ t238) ++ (⟨#[32]⟩ : ByteArray)).size + (rdOf ByteArray.empty t239 x237003).size ≤ 9223372036854775807 then (if ((((((x3 ++ (⟨#[97, 114, 103, 32]⟩ : ByteArray)) ++ t237) ++ (⟨#[32, 38, 32]⟩ : ByteArray)) ++ t238) ++ (⟨#[32]⟩ : ByteArray)) ++ (rdOf ByteArray.empty t239 x237003)).size + 1 ≤ 9223372036854775807 then ((spec_l10Wide.f k x237004 x237005).bind fun t243 => (if (((((((x3 ++ (⟨#[97, 114, 103, 32]⟩ : ByteArray)) ++ t237) ++ (⟨#[32, 38, 32]⟩ : ByteArray)) ++ t238) ++ (⟨#[32]⟩ : ByteArray)) ++ (rdOf ByteArray.empty t239 x237003)) ++ (⟨#[32]⟩ : ByteArray)).size + t243.size ≤ 9223372036854775807 then (spec_l10Rule.l1 k ((((((((x3 ++ (⟨#[97, 114, 103, 32]⟩ : ByteArray)) ++ t237) ++ (⟨#[32, 38, 32]⟩ : ByteArray)) ++ t238) ++ (⟨#[32]⟩ : ByteArray)) ++ (rdOf ByteArray.empty t239 x237003)) ++ (⟨#[32]⟩ : ByteArray)) ++ t243) (wrap64 (x5 + 1)) x230000 x230001 x230002 x230003) else (none))) else (none)) else (none)) else (none)) else (none))) else (none)) else (none))) else (none)) else (none))) else (none)
end
def spec_l10Rule.f (k : Nat) (l0_0 : List Int) (l0_1 : List (S95)) (a0_2 : Int) (a0_3 : Int) : Option (ByteArray) := if (l0_0.length : Int) = 0 then (if 3 + 3 ≤ 9223372036854775807 then (spec_l10Rule.j0 k ((⟨#[111, 110, 32]⟩ : ByteArray) ++ (⟨#[97, 110, 121]⟩ : ByteArray)) l0_0 l0_1 a0_2 a0_3) else (none)) else (spec_l10Rule.j0 k (⟨#[111, 110, 32]⟩ : ByteArray) l0_0 l0_1 a0_2 a0_3)
def spec_l10Rule.T17 : Bool × List (List Nat × List Nat) := (true, [([], []), ([0], [0]), ([], []), ([2], [2]), ([3], [3]), ([1, 4], [1, 4]), ([5], [5]), ([], []), ([7], [7]), ([8, 4], [8]), ([6, 9], [6, 9]), ([10], [10]), ([9], []), ([], []), ([13], [13]), ([12, 14], [12, 14]), ([15], [15]), ([11, 16], [11, 16]), ([17], [17]), ([], []), ([19], [19]), ([20, 12], [20]), ([18, 21], [18, 21]), ([22, 21, 0, 1, 2, 3, 4, 5, 6, 7, 8, 9, 10, 11, 12, 13, 14, 15, 16, 17, 18, 19, 20, 21, 22], [0, 22])])
def spec_l10Rule.B17 : List Nat := [0, 1, 0, 4, 12, 31, 63, 0, 128, 412, 1023, 2047, 924, 0, 8192, 29596, 62364, 131071, 262143, 0, 524288, 1577884, 4194303, 8388607]
theorem spec_l10Rule.tab17 : rtab .any (opsOf Try.f79 17) = spec_l10Rule.T17 := by kernel_rfl
theorem spec_l10Rule.bits17 : waitsOk spec_l10Rule.T17.2 spec_l10Rule.B17 = true := by kernel_rfl
theorem q6x0 {P : Prop} (h : P := by 
 rintro w' ⟨s0, s1, s2, s3, s4, s5, s6⟩
 go_simp
 with_reducible rfl) : P := h
theorem q6x0a {P : Prop} (h : P := by 
 rintro w' ⟨s0, s1, s2, s3, s4, s5⟩
 go_simp
 with_reducible rfl) : P := h
set_option maxHeartbeats 8000000 in
set_option maxRecDepth 100000 in
theorem spec_l10Rule.calls (k : Nat) (A0_0 : Option Addr) (c0_0 : Nat) (l0_0 : List Int) (A0_1 : Option Addr) (c0_1 : Nat) (l0_1 : List (S95)) (a0_2 : Int) (a0_3 : Int) (r : ByteArray) (w : World) (hr0_0 : Kd.C (Kd.int .i64) w A0_0 l0_0.length l0_0) (hc0_0 : l0_0.length ≤ c0_0) (hr0_1 : Kd.C k95 w A0_1 l0_1.length l0_1) (hc0_1 : l0_1.length ≤ c0_1) (h : spec_l10Rule.f k l0_0 l0_1 a0_2 a0_3 = some r) :
 Calls Try.prog 79 #[.agg #[.slice A0_0 l0_0.length c0_0, .slice A0_1 l0_1.length c0_1, .int .i64 a0_2, .int .i64 a0_3]] w fun e w' => e = .returned (.string r) ∧ Below w.heap.size w w' := by
 have hu91 := Try.underlying91;have hu95 := Try.underlying95;have hu93 := Try.underlying93;have HR0_0 := Aside0.mk hr0_0;have HC0_0 := Aside0.mk hc0_0;clear hr0_0 hc0_0;have HR0_1 := Aside0.mk hr0_1;have HC0_1 := Aside0.mk hc0_1;clear hr0_1 hc0_1;have HB := Aside0.mk (Below.refl w.heap.size w);have H : (if (l0_0.length : Int) = 0 then (if 3 + 3 ≤ 9223372036854775807 then (spec_l10Rule.j0 k ((⟨#[111, 110, 32]⟩ : ByteArray) ++ (⟨#[97, 110, 121]⟩ : ByteArray)) l0_0 l0_1 a0_2 a0_3) else (none)) else (spec_l10Rule.j0 k (⟨#[111, 110, 32]⟩ : ByteArray) l0_0 l0_1 a0_2 a0_3)) = some r := h;clear h;have HC2 := Aside0.mk H;clear H;go_enter Try.func79, Try.ntmps79
 go_upto_if 10 with (first|((with_reducible refine gN 1 ?_);refine boxZ 1 #[.slice A0_0 l0_0.length c0_0, .slice A0_1 l0_1.length c0_1, .int .i64 a0_2, .int .i64 a0_3] 91 ?_;intro gb229 hg w3 hbox hb;have BK229 := Aside0.mk (hbox);have GW229 := gS hg;have GE229 := gS hg;replace HB := sB hb;clear hb hbox hg;obtain ⟨hcz4_0, hcz4_1, hcz4_2, hcz4_3, hfz4_0, hfz4_1, hfz4_2, hfz4_3⟩ := cz4 BK229))
 (try simp only [Act.put, List.setIfInBounds_toArray, List.set_cons_zero, List.set_cons_succ])
 go_cut [3] (fun v3 wc => ∃ (kq : Nat) (x3_1 : ByteArray), v3 = .string x3_1 ∧ Aside0 (spec_l10Rule.j0 kq x3_1 l0_0 l0_1 a0_2 a0_3 = some r) ∧ Aside0 (kq ≤ k) ∧ Aside0 (wc.heap[gb229]? = some (.cells #[(.slice A0_0 l0_0.length c0_0), (.slice A0_1 l0_1.length c0_1), .int .i64 a0_2, .int .i64 a0_3] 91 (0, 0))) ∧ Aside0 (Below w.heap.size w wc))
 case first =>
  have H := HC2.out;clear HC2;by_cases c5 : (l0_0.length : Int) = 0
  ·rw [if_pos c5] at H;obtain ⟨c5b0, c5b1⟩ := eT c5;clear c5
   (first | rw [c5b0] | (simp only [i64_w, i32_w]; rw [c5b0]) | skip)
   replace H := gC H;obtain ⟨c6, H⟩ := H;have c6b0 := eq_true c6;have c6b1 : decide (3 + 3 ≤ 9223372036854775807) = true := decide_eq_true c6
   try have c6b2 : (9223372036854775807 < 3 + 3) = False := eq_false (Nat.not_lt.2 c6)
   have H' := Aside0.mk H;clear H;go_wp2;go_meet
   case rel => exact ⟨_, ((⟨#[111, 110, 32]⟩ : ByteArray) ++ (⟨#[97, 110, 121]⟩ : ByteArray)), rS, H', ⟨oL⟩, ⟨mK BK229⟩, ⟨cB⟩⟩
  ·rw [if_neg c5] at H;obtain ⟨c5b0, c5b1⟩ := eF c5
   have c5b2 : ¬ (l0_0 = []) := fun h_ => c5 (by rw [h_]; rfl)
   (first | rw [c5b0] | (simp only [i64_w, i32_w]; rw [c5b0]) | skip)
   have H' := Aside0.mk H;clear H;go_wp2;go_meet
   case rel => exact ⟨_, ((⟨#[111, 110, 32]⟩ : ByteArray)), rS, H', ⟨oL⟩, ⟨mK BK229⟩, ⟨cB⟩⟩
 case rest =>
  clear HC2;(try clear c5);(try clear c5b0);(try clear c5b1);(try clear c5b2);(try clear c6);(try clear c6b0);(try clear c6b1);(try clear c6b2);(try clear hcz4_0);(try clear hcz4_1);(try clear hcz4_2);(try clear hcz4_3);(try clear hfz4_0);(try clear hfz4_1);(try clear hfz4_2);(try clear hfz4_3);obtain ⟨kq, x3_1, rfl, HA, HJ1, BK229, HB⟩ := hcut
  cases kq with
  | zero => exact absurd HA.out (by simp [spec_l10Rule.j0])
  | succ kj1 =>
   have H := HA.out;clear HA;simp only [spec_l10Rule.j0] at H;have H' := Aside0.mk H;clear H;go_wp2
   go_loopg [3, 4] kj1 (fun kq v3 v4 w' => ∃ (x3_2 : ByteArray) (x4_2 : Int), v3 = .string x3_2 ∧ v4 = .int .i64 x4_2 ∧ Aside0 (spec_l10Rule.l0 kq x3_2 x4_2 l0_0 l0_1 a0_2 a0_3 = some r) ∧ Aside0 (kq ≤ kj1) ∧ Aside0 (w'.heap[gb229]? = some (.cells #[(.slice A0_0 l0_0.length c0_0), (.slice A0_1 l0_1.length c0_1), .int .i64 a0_2, .int .i64 a0_3] 91 (0, 0))) ∧ Aside0 (Below w.heap.size w w'))
   case atStart => exact ⟨(x3_1), (0), rS, rS, H', ⟨Nat.le_refl _⟩, ⟨mK BK229⟩, ⟨cB⟩⟩
   case round =>
    clear H';(try clear c5);(try clear c5b0);(try clear c5b1);(try clear c5b2);(try clear c6);(try clear c6b0);(try clear c6b1);(try clear c6b2);(try clear hcz4_0);(try clear hcz4_1);(try clear hcz4_2);(try clear hcz4_3);(try clear hfz4_0);(try clear hfz4_1);(try clear hfz4_2);(try clear hfz4_3);obtain ⟨x3_2, x4_2, rfl, rfl, HA, HK2, BK229, HB⟩ := hrel
    cases gk with
    | zero => exact absurd HA.out (by simp [spec_l10Rule.l0])
    | succ k2 =>
     have H := HA.out;clear HA;simp only [spec_l10Rule.l0] at H;by_cases c7 : x4_2 < (l0_0.length : Int)
     ·rw [if_pos c7] at H;have c7b0 := decide_eq_true c7;clear c7;by_cases c8 : x4_2 > 0
      ·rw [if_pos c8] at H;have c8b0 : decide (0 < x4_2) = true := decide_eq_true c8;clear c8;replace H := gC H;obtain ⟨c9, H⟩ := H;have c9b0 := eq_true c9;have c9b1 : decide (x3_2.size + 3 ≤ 9223372036854775807) = true := decide_eq_true c9
       try have c9b2 : (9223372036854775807 < x3_2.size + 3) = False := eq_false (Nat.not_lt.2 c9)
       replace H := gD H;obtain ⟨c10b0, H⟩ := H;replace H := bE H;obtain ⟨t231, A11, H⟩ := H;replace H := gC H;obtain ⟨c12, H⟩ := H;have c12b0 := eq_true c12;have c12b1 : decide ((x3_2 ++ (⟨#[32, 44, 32]⟩ : ByteArray)).size + t231.size ≤ 9223372036854775807) = true := decide_eq_true c12
       try have c12b2 : (9223372036854775807 < (x3_2 ++ (⟨#[32, 44, 32]⟩ : ByteArray)).size + t231.size) = False := eq_false (Nat.not_lt.2 c12)
       try have c12b3 : (9223372036854775807 < x3_2.size + 3 + t231.size) = False := eq_false (Nat.not_lt.2 (by have h_ := c12; simp only [ByteArray.size_append] at h_; exact h_))
       have H' := Aside0.mk H;clear H;obtain ⟨hcz13_0, hcz13_1, hcz13_2, hcz13_3, hfz13_0, hfz13_1, hfz13_2, hfz13_3⟩ := cz4 BK229;have p230 : 0 ≤ (x4_2 : Int) := dA;have q230 : x4_2 < (l0_0.length : Int) := dA;obtain ⟨ad230, e230, hx230_0⟩ := Kd.at_int HR0_0.out x4_2 p230 q230;cases e230;replace hx230_0 := (bc HB hx230_0 :);replace p230 := eq_true p230;replace q230 := eq_true q230
       go_wp2_with (first|((with_reducible refine gF 77 ?_);refine goZ (some 30) Try.func77 #[.int .i64 (rd l0_0 x4_2)] ?_;(with_reducible refine (spec_l08Figures.calls k2 (rd l0_0 x4_2) t231 _ A11.out).mono ?_);rintro e w14 ⟨rfl, hb⟩;refine ⟨_, rfl, ?_⟩;replace BK229 := kB BK229 hb;replace HB := sB hb;(try clear hb)))
       go_roundg k2
       case measure => have := HJ1.out; have := HK2.out; omega
       case rel => exact ⟨((x3_2 ++ (⟨#[32, 44, 32]⟩ : ByteArray)) ++ t231), (wrap64 (x4_2 + 1)), rS, rS, H', ⟨by have := HJ1.out; have := HK2.out; omega⟩, ⟨mK BK229⟩, ⟨cB⟩⟩
      ·rw [if_neg c8] at H;have c8b0 : decide (0 < x4_2) = false := decide_eq_false c8;clear c8;replace H := gD H;obtain ⟨c15b0, H⟩ := H;replace H := bE H;obtain ⟨t233, A16, H⟩ := H;replace H := gC H;obtain ⟨c17, H⟩ := H;have c17b0 := eq_true c17;have c17b1 : decide (x3_2.size + t233.size ≤ 9223372036854775807) = true := decide_eq_true c17
       try have c17b2 : (9223372036854775807 < x3_2.size + t233.size) = False := eq_false (Nat.not_lt.2 c17)
       have H' := Aside0.mk H;clear H;obtain ⟨hcz18_0, hcz18_1, hcz18_2, hcz18_3, hfz18_0, hfz18_1, hfz18_2, hfz18_3⟩ := cz4 BK229;have p232 : 0 ≤ (x4_2 : Int) := dA;have q232 : x4_2 < (l0_0.length : Int) := dA;obtain ⟨ad232, e232, hx232_0⟩ := Kd.at_int HR0_0.out x4_2 p232 q232;cases e232;replace hx232_0 := (bc HB hx232_0 :);replace p232 := eq_true p232;replace q232 := eq_true q232
       go_wp2_with (first|((with_reducible refine gF 77 ?_);refine goZ (some 30) Try.func77 #[.int .i64 (rd l0_0 x4_2)] ?_;(with_reducible refine (spec_l08Figures.calls k2 (rd l0_0 x4_2) t233 _ A16.out).mono ?_);rintro e w19 ⟨rfl, hb⟩;refine ⟨_, rfl, ?_⟩;replace BK229 := kB BK229 hb;replace HB := sB hb;(try clear hb)))
       go_roundg k2
       case measure => have := HJ1.out; have := HK2.out; omega
       case rel => exact ⟨(x3_2 ++ t233), (wrap64 (x4_2 + 1)), rS, rS, H', ⟨by have := HJ1.out; have := HK2.out; omega⟩, ⟨mK BK229⟩, ⟨cB⟩⟩
     ·rw [if_neg c7] at H;have c7b0 := decide_eq_false c7;clear c7;have H' := Aside0.mk H;clear H;obtain ⟨hcz20_0, hcz20_1, hcz20_2, hcz20_3, hfz20_0, hfz20_1, hfz20_2, hfz20_3⟩ := cz4 BK229;go_wp2
      go_loopg [3, 5] k2 (fun kq v3 v5 w' => ∃ (x3_3 : ByteArray) (x5_3 : Int), v3 = .string x3_3 ∧ v5 = .int .i64 x5_3 ∧ Aside0 (spec_l10Rule.l1 kq x3_3 x5_3 l0_0 l0_1 a0_2 a0_3 = some r) ∧ Aside0 (kq ≤ k2) ∧ Aside0 (w'.heap[gb229]? = some (.cells #[(.slice A0_0 l0_0.length c0_0), (.slice A0_1 l0_1.length c0_1), .int .i64 a0_2, .int .i64 a0_3] 91 (0, 0))) ∧ Aside0 (Below w.heap.size w w'))
      case atStart => exact ⟨(x3_2), (0), rS, rS, H', ⟨Nat.le_refl _⟩, ⟨mK BK229⟩, ⟨cB⟩⟩
      case round =>
       clear H';(try clear c5);(try clear c5b0);(try clear c5b1);(try clear c5b2);(try clear c6);(try clear c6b0);(try clear c6b1);(try clear c6b2);(try clear c7);(try clear c7b0);(try clear c8);(try clear c8b0);(try clear c9);(try clear c9b0);(try clear c9b1);(try clear c9b2);(try clear c10);(try clear c10b0);(try clear c12);(try clear c12b0);(try clear c12b1);(try clear c12b2);(try clear c15);(try clear c15b0);(try clear c17);(try clear c17b0);(try clear c17b1);(try clear c17b2);(try clear hcz13_0);(try clear hcz13_1);(try clear hcz13_2);(try clear hcz13_3);(try clear hcz18_0);(try clear hcz18_1);(try clear hcz18_2);(try clear hcz18_3);(try clear hcz20_0);(try clear hcz20_1);(try clear hcz20_2);(try clear hcz20_3);(try clear hcz4_0);(try clear hcz4_1);(try clear hcz4_2);(try clear hcz4_3);(try clear hfz13_0);(try clear hfz13_1);(try clear hfz13_2);(try clear hfz13_3);(try clear hfz18_0);(try clear hfz18_1);(try clear hfz18_2);(try clear hfz18_3);(try clear hfz20_0);(try clear hfz20_1);(try clear hfz20_2);(try clear hfz20_3);(try clear hfz4_0);(try clear hfz4_1);(try clear hfz4_2);(try clear hfz4_3);(try clear hx230_0);(try clear hx232_0);(try clear p230);(try clear p232);(try clear q230);(try clear q232);obtain ⟨x3_3, x5_3, rfl, rfl, HA, HK3, BK229, HB⟩ := hrel
       cases gk with
       | zero => exact absurd HA.out (by simp [spec_l10Rule.l1])
       | succ k3 =>
        have H := HA.out;clear HA;simp only [spec_l10Rule.l1] at H;by_cases c21 : x5_3 < (l0_1.length : Int)
        ·rw [if_pos c21] at H;have c21b0 := decide_eq_true c21;clear c21;replace H := gD H;obtain ⟨c22b0, H⟩ := H;have HC23 := Aside0.mk H;clear H;obtain ⟨hcz24_0, hcz24_1, hcz24_2, hcz24_3, hfz24_0, hfz24_1, hfz24_2, hfz24_3⟩ := cz4 BK229;have p235 : 0 ≤ (x5_3 : Int) := dA;have q235 : x5_3 < (l0_1.length : Int) := dA;obtain ⟨ad235, e235, hx235_0, hx235_1, hx235_2, hx235_3, hx235_4, hx235_5⟩ := at_T95 HR0_1.out x5_3 p235 q235;cases e235;replace hx235_0 := (bc HB hx235_0 :);replace hx235_1 := (bc HB hx235_1 :);replace hx235_2 := (bc HB hx235_2 :);replace hx235_3 := (bc HB hx235_3 :);replace hx235_4 := (bc HB hx235_4 :);replace hx235_5 := (bc HB hx235_5 :);replace p235 := eq_true p235;replace q235 := eq_true q235
         go_upto_if 45 with (first|((with_reducible refine gN 6 ?_);refine boxZ 6 #[.int .i64 0, .int .i64 0, .int .i64 0, .int .i64 0, .int .i64 0, .int .i64 0] 95 ?_;intro gb236 hg w25 hbox hb;have BK236 := Aside0.mk (hbox);have GW236 := gS hg;have GE236 := gS hg;replace HB := sB hb;have NB229_236 := nL hg BK229;have NB236_229 := nG hg BK229;replace BK229 := kB BK229 hb;clear hb hbox hg;have hnb26 := NB236_229.out;have hnc26 := NB229_236.out;obtain ⟨hcz27_0, hcz27_1, hcz27_2, hcz27_3, hcz27_4, hcz27_5, hfz27_0, hfz27_1, hfz27_2, hfz27_3, hfz27_4, hfz27_5⟩ := cz6 BK236))
         (try simp only [Act.put, List.setIfInBounds_toArray, List.set_cons_zero, List.set_cons_succ])
         go_cut [3] (fun v3 wc => ∃ (kq : Nat) (x3_22 : ByteArray), v3 = .string x3_22 ∧ Aside0 (spec_l10Rule.j3 kq x3_22 x5_3 l0_0 l0_1 a0_2 a0_3 ((rd_T95 l0_1 x5_3).f0) ((rd_T95 l0_1 x5_3).f1.f0) ((rd_T95 l0_1 x5_3).f1.f1) ((rd_T95 l0_1 x5_3).f2) ((rd_T95 l0_1 x5_3).f3.f0) ((rd_T95 l0_1 x5_3).f3.f1) = some r) ∧ Aside0 (kq ≤ k3) ∧ Aside0 (wc.heap[gb229]? = some (.cells #[(.slice A0_0 l0_0.length c0_0), (.slice (some ad235) l0_1.length c0_1), .int .i64 a0_2, .int .i64 a0_3] 91 (0, 0))) ∧ Aside0 (wc.heap[gb236]? = some (.cells #[.int .i64 ((rd_T95 l0_1 x5_3).f0), .int .i64 ((rd_T95 l0_1 x5_3).f1.f0), .int .i64 ((rd_T95 l0_1 x5_3).f1.f1), .int .i64 ((rd_T95 l0_1 x5_3).f2), .int .i64 ((rd_T95 l0_1 x5_3).f3.f0), .int .i64 ((rd_T95 l0_1 x5_3).f3.f1)] 95 (0, 0))) ∧ Aside0 (Below w.heap.size w wc))
         case first =>
          have H := HC23.out;clear HC23;by_cases c28 : x5_3 = 0
          ·rw [if_pos c28] at H;obtain ⟨c28b0, c28b1⟩ := eT c28;clear c28
           (first | rw [c28b0] | (simp only [i64_w, i32_w]; rw [c28b0]) | skip)
           replace H := gC H;obtain ⟨c29, H⟩ := H;have c29b0 := eq_true c29;have c29b1 : decide (x3_3.size + 4 ≤ 9223372036854775807) = true := decide_eq_true c29
           try have c29b2 : (9223372036854775807 < x3_3.size + 4) = False := eq_false (Nat.not_lt.2 c29)
           have H' := Aside0.mk H;clear H;go_wp2;go_meet
           case rel => exact ⟨_, (x3_3 ++ (⟨#[32, 105, 102, 32]⟩ : ByteArray)), rS, H', ⟨by have := HJ1.out; have := HK2.out; have := HK3.out; first | omega | exact Nat.le_refl _⟩, ⟨mK BK229⟩, ⟨kS BK236 _⟩, ⟨cB⟩⟩
          ·rw [if_neg c28] at H;obtain ⟨c28b0, c28b1⟩ := eF c28
           (first | rw [c28b0] | (simp only [i64_w, i32_w]; rw [c28b0]) | skip)
           replace H := gC H;obtain ⟨c30, H⟩ := H;have c30b0 := eq_true c30;have c30b1 : decide (x3_3.size + 5 ≤ 9223372036854775807) = true := decide_eq_true c30
           try have c30b2 : (9223372036854775807 < x3_3.size + 5) = False := eq_false (Nat.not_lt.2 c30)
           have H' := Aside0.mk H;clear H;go_wp2;go_meet
           case rel => exact ⟨_, (x3_3 ++ (⟨#[32, 97, 110, 100, 32]⟩ : ByteArray)), rS, H', ⟨by have := HJ1.out; have := HK2.out; have := HK3.out; first | omega | exact Nat.le_refl _⟩, ⟨mK BK229⟩, ⟨kS BK236 _⟩, ⟨cB⟩⟩
         case rest =>
          clear HC23;(try clear c5);(try clear c5b0);(try clear c5b1);(try clear c5b2);(try clear c6);(try clear c6b0);(try clear c6b1);(try clear c6b2);(try clear c7);(try clear c7b0);(try clear c8);(try clear c8b0);(try clear c9);(try clear c9b0);(try clear c9b1);(try clear c9b2);(try clear c10);(try clear c10b0);(try clear c12);(try clear c12b0);(try clear c12b1);(try clear c12b2);(try clear c15);(try clear c15b0);(try clear c17);(try clear c17b0);(try clear c17b1);(try clear c17b2);(try clear c21);(try clear c21b0);(try clear c22);(try clear c22b0);(try clear c28);(try clear c28b0);(try clear c28b1);(try clear c29);(try clear c29b0);(try clear c29b1);(try clear c29b2);(try clear c30);(try clear c30b0);(try clear c30b1);(try clear c30b2);(try clear hcz13_0);(try clear hcz13_1);(try clear hcz13_2);(try clear hcz13_3);(try clear hcz18_0);(try clear hcz18_1);(try clear hcz18_2);(try clear hcz18_3);(try clear hcz20_0);(try clear hcz20_1);(try clear hcz20_2);(try clear hcz20_3);(try clear hcz24_0);(try clear hcz24_1);(try clear hcz24_2);(try clear hcz24_3);(try clear hcz27_0);(try clear hcz27_1);(try clear hcz27_2);(try clear hcz27_3);(try clear hcz27_4);(try clear hcz27_5);(try clear hcz4_0);(try clear hcz4_1);(try clear hcz4_2);(try clear hcz4_3);(try clear hfz13_0);(try clear hfz13_1);(try clear hfz13_2);(try clear hfz13_3);(try clear hfz18_0);(try clear hfz18_1);(try clear hfz18_2);(try clear hfz18_3);(try clear hfz20_0);(try clear hfz20_1);(try clear hfz20_2);(try clear hfz20_3);(try clear hfz24_0);(try clear hfz24_1);(try clear hfz24_2);(try clear hfz24_3);(try clear hfz27_0);(try clear hfz27_1);(try clear hfz27_2);(try clear hfz27_3);(try clear hfz27_4);(try clear hfz27_5);(try clear hfz4_0);(try clear hfz4_1);(try clear hfz4_2);(try clear hfz4_3);(try clear hx230_0);(try clear hx232_0);(try clear hx235_0);(try clear hx235_1);(try clear hx235_2);(try clear hx235_3);(try clear hx235_4);(try clear hx235_5);(try clear p230);(try clear p232);(try clear p235);(try clear q230);(try clear q232);(try clear q235);obtain ⟨kq, x3_22, rfl, HA, HJ22, BK229, BK236, HB⟩ := hcut
          cases kq with
          | zero => exact absurd HA.out (by simp [spec_l10Rule.j3])
          | succ kj22 =>
           have H := HA.out;clear HA;simp only [spec_l10Rule.j3] at H;replace H := gC H;obtain ⟨c31, H⟩ := H;have c31b0 := eq_true c31;have c31b1 : decide (x3_22.size + 4 ≤ 9223372036854775807) = true := decide_eq_true c31
           try have c31b2 : (9223372036854775807 < x3_22.size + 4) = False := eq_false (Nat.not_lt.2 c31)
           replace H := bE H;obtain ⟨t237, A32, H⟩ := H;replace H := gC H;obtain ⟨c33, H⟩ := H;have c33b0 := eq_true c33;have c33b1 : decide ((x3_22 ++ (⟨#[97, 114, 103, 32]⟩ : ByteArray)).size + t237.size ≤ 9223372036854775807) = true := decide_eq_true c33
           try have c33b2 : (9223372036854775807 < (x3_22 ++ (⟨#[97, 114, 103, 32]⟩ : ByteArray)).size + t237.size) = False := eq_false (Nat.not_lt.2 c33)
           try have c33b3 : (9223372036854775807 < x3_22.size + 4 + t237.size) = False := eq_false (Nat.not_lt.2 (by have h_ := c33; simp only [ByteArray.size_append] at h_; exact h_))
           replace H := gC H;obtain ⟨c34, H⟩ := H;have c34b0 := eq_true c34;have c34b1 : decide (((x3_22 ++ (⟨#[97, 114, 103, 32]⟩ : ByteArray)) ++ t237).size + 3 ≤ 9223372036854775807) = true := decide_eq_true c34
           try have c34b2 : (9223372036854775807 < ((x3_22 ++ (⟨#[97, 114, 103, 32]⟩ : ByteArray)) ++ t237).size + 3) = False := eq_false (Nat.not_lt.2 c34)
           try have c34b3 : (9223372036854775807 < x3_22.size + 4 + t237.size + 3) = False := eq_false (Nat.not_lt.2 (by have h_ := c34; simp only [ByteArray.size_append] at h_; exact h_))
           replace H := bE H;obtain ⟨t238, A35, H⟩ := H;replace H := gC H;obtain ⟨c36, H⟩ := H;have c36b0 := eq_true c36;have c36b1 : decide ((((x3_22 ++ (⟨#[97, 114, 103, 32]⟩ : ByteArray)) ++ t237) ++ (⟨#[32, 38, 32]⟩ : ByteArray)).size + t238.size ≤ 9223372036854775807) = true := decide_eq_true c36
           try have c36b2 : (9223372036854775807 < (((x3_22 ++ (⟨#[97, 114, 103, 32]⟩ : ByteArray)) ++ t237) ++ (⟨#[32, 38, 32]⟩ : ByteArray)).size + t238.size) = False := eq_false (Nat.not_lt.2 c36)
           try have c36b3 : (9223372036854775807 < x3_22.size + 4 + t237.size + 3 + t238.size) = False := eq_false (Nat.not_lt.2 (by have h_ := c36; simp only [ByteArray.size_append] at h_; exact h_))
           replace H := gC H;obtain ⟨c37, H⟩ := H;have c37b0 := eq_true c37;have c37b1 : decide (((((x3_22 ++ (⟨#[97, 114, 103, 32]⟩ : ByteArray)) ++ t237) ++ (⟨#[32, 38, 32]⟩ : ByteArray)) ++ t238).size + 1 ≤ 9223372036854775807) = true := decide_eq_true c37
           try have c37b2 : (9223372036854775807 < ((((x3_22 ++ (⟨#[97, 114, 103, 32]⟩ : ByteArray)) ++ t237) ++ (⟨#[32, 38, 32]⟩ : ByteArray)) ++ t238).size + 1) = False := eq_false (Nat.not_lt.2 c37)
           try have c37b3 : (9223372036854775807 < x3_22.size + 4 + t237.size + 3 + t238.size + 1) = False := eq_false (Nat.not_lt.2 (by have h_ := c37; simp only [ByteArray.size_append] at h_; exact h_))
           replace H := bE H;obtain ⟨t239, A38, H⟩ := H;replace H := gD H;obtain ⟨c39b0, H⟩ := H;replace H := gD H;obtain ⟨c40b0, H⟩ := H;replace H := gC H;obtain ⟨c41, H⟩ := H;have c41b0 := eq_true c41;have c41b1 : decide ((((((x3_22 ++ (⟨#[97, 114, 103, 32]⟩ : ByteArray)) ++ t237) ++ (⟨#[32, 38, 32]⟩ : ByteArray)) ++ t238) ++ (⟨#[32]⟩ : ByteArray)).size + (rdOf ByteArray.empty t239 ((rd_T95 l0_1 x5_3).f2)).size ≤ 9223372036854775807) = true := decide_eq_true c41
           try have c41b2 : (9223372036854775807 < (((((x3_22 ++ (⟨#[97, 114, 103, 32]⟩ : ByteArray)) ++ t237) ++ (⟨#[32, 38, 32]⟩ : ByteArray)) ++ t238) ++ (⟨#[32]⟩ : ByteArray)).size + (rdOf ByteArray.empty t239 ((rd_T95 l0_1 x5_3).f2)).size) = False := eq_false (Nat.not_lt.2 c41)
           try have c41b3 : (9223372036854775807 < x3_22.size + 4 + t237.size + 3 + t238.size + 1 + (rdOf ByteArray.empty t239 ((rd_T95 l0_1 x5_3).f2)).size) = False := eq_false (Nat.not_lt.2 (by have h_ := c41; simp only [ByteArray.size_append] at h_; exact h_))
           replace H := gC H;obtain ⟨c42, H⟩ := H;have c42b0 := eq_true c42;have c42b1 : decide (((((((x3_22 ++ (⟨#[97, 114, 103, 32]⟩ : ByteArray)) ++ t237) ++ (⟨#[32, 38, 32]⟩ : ByteArray)) ++ t238) ++ (⟨#[32]⟩ : ByteArray)) ++ (rdOf ByteArray.empty t239 ((rd_T95 l0_1 x5_3).f2))).size + 1 ≤ 9223372036854775807) = true := decide_eq_true c42
           try have c42b2 : (9223372036854775807 < ((((((x3_22 ++ (⟨#[97, 114, 103, 32]⟩ : ByteArray)) ++ t237) ++ (⟨#[32, 38, 32]⟩ : ByteArray)) ++ t238) ++ (⟨#[32]⟩ : ByteArray)) ++ (rdOf ByteArray.empty t239 ((rd_T95 l0_1 x5_3).f2))).size + 1) = False := eq_false (Nat.not_lt.2 c42)
           try have c42b3 : (9223372036854775807 < x3_22.size + 4 + t237.size + 3 + t238.size + 1 + (rdOf ByteArray.empty t239 ((rd_T95 l0_1 x5_3).f2)).size + 1) = False := eq_false (Nat.not_lt.2 (by have h_ := c42; simp only [ByteArray.size_append] at h_; exact h_))
           replace H := bE H;obtain ⟨t243, A43, H⟩ := H;replace H := gC H;obtain ⟨c44, H⟩ := H;have c44b0 := eq_true c44;have c44b1 : decide ((((((((x3_22 ++ (⟨#[97, 114, 103, 32]⟩ : ByteArray)) ++ t237) ++ (⟨#[32, 38, 32]⟩ : ByteArray)) ++ t238) ++ (⟨#[32]⟩ : ByteArray)) ++ (rdOf ByteArray.empty t239 ((rd_T95 l0_1 x5_3).f2))) ++ (⟨#[32]⟩ : ByteArray)).size + t243.size ≤ 9223372036854775807) = true := decide_eq_true c44
           try have c44b2 : (9223372036854775807 < (((((((x3_22 ++ (⟨#[97, 114, 103, 32]⟩ : ByteArray)) ++ t237) ++ (⟨#[32, 38, 32]⟩ : ByteArray)) ++ t238) ++ (⟨#[32]⟩ : ByteArray)) ++ (rdOf ByteArray.empty t239 ((rd_T95 l0_1 x5_3).f2))) ++ (⟨#[32]⟩ : ByteArray)).size + t243.size) = False := eq_false (Nat.not_lt.2 c44)
           try have c44b3 : (9223372036854775807 < x3_22.size + 4 + t237.size + 3 + t238.size + 1 + (rdOf ByteArray.empty t239 ((rd_T95 l0_1 x5_3).f2)).size + 1 + t243.size) = False := eq_false (Nat.not_lt.2 (by have h_ := c44; simp only [ByteArray.size_append] at h_; exact h_))
           have H' := Aside0.mk H;clear H
           try go_wp2
           replace BK229 := Aside0.mk (blk_drew BK229.out);replace BK236 := Aside0.mk (blk_drew BK236.out);replace HB := Aside0.mk (below_drew1 HB.out)
           refine start_ (n := 24) (S := fun w' => w'.cell? ⟨gb236, 0, none⟩ = some (.int .i64 ((rd_T95 l0_1 x5_3).f0)) ∧ w'.cell? ⟨gb236, 1, none⟩ = some (.int .i64 ((rd_T95 l0_1 x5_3).f1.f0)) ∧ w'.cell? ⟨gb236, 2, none⟩ = some (.int .i64 ((rd_T95 l0_1 x5_3).f1.f1)) ∧ w'.cell? ⟨gb236, 3, none⟩ = some (.int .i64 ((rd_T95 l0_1 x5_3).f2)) ∧ w'.cell? ⟨gb236, 4, none⟩ = some (.int .i64 ((rd_T95 l0_1 x5_3).f3.f0)) ∧ w'.cell? ⟨gb236, 5, none⟩ = some (.int .i64 ((rd_T95 l0_1 x5_3).f3.f1))) (ds := []) #[false, false, false, false, false, false, false, false, false, false, false, false, false, false, false, false, false, false, false, false, false, false, false, false] (by kernel_rfl) rfl rfl ⟨(blk_cell BK236.out 0).trans rfl, (blk_cell BK236.out 1).trans rfl, (blk_cell BK236.out 2).trans rfl, (blk_cell BK236.out 3).trans rfl, (blk_cell BK236.out 4).trans rfl, (blk_cell BK236.out 5).trans rfl⟩ (fun hHeld => ?_); refine with_tabW spec_l10Rule.tab17 spec_l10Rule.bits17 (fun HT_ HW_ => ?_)
           generalize wc.drew = w45 at BK229 BK236 HB hHeld ⊢;refine pureZ 0 (some 50) (msk 24 1) HT_.out ?_;refine pureZ 1 (some 51) (msk 24 3) HT_.out ?_;refine pureZ 2 (some 52) (msk 24 7) HT_.out ?_;refine pureZ 7 (some 57) (msk 24 135) HT_.out ?_;refine pureZ 13 (some 63) (msk 24 8327) HT_.out ?_;refine pureZ 19 (some 69) (msk 24 532615) HT_.out ?_;refine takeZ 3 (some 53) (msk 24 532623) HT_.out HW_.out hHeld (hy := q6x0a) (h := ?_);refine takeZ 8 (some 58) (msk 24 532879) HT_.out HW_.out hHeld (hy := q6x0a) (h := ?_);refine takeZ 14 (some 64) (msk 24 549263) HT_.out HW_.out hHeld (hy := q6x0a) (h := ?_);refine takeZ 20 (some 70) (msk 24 1597839) HT_.out HW_.out hHeld (hy := q6x0a) (h := ?_)
           refine one_Z 4 (some 54) (msk 24 1597855) HT_.out fun K hK => ?_
           refine goes_ Try.func77 (by kernel_rfl) rfl #[.int .i64 ((rd_T95 l0_1 x5_3).f0)] (by rfl) rfl rfl (by (try simp only [List.map_toArray, List.map_cons, List.map_nil]); first | done | rfl | (simp only [List.length_drop, List.length_take]; rfl)) ?_
           with_reducible refine (spec_l08Figures.calls kj22 ((rd_T95 l0_1 x5_3).f0) t237 _ A32.out).mono ?_;rintro e w46 ⟨rfl, hb⟩;refine ⟨_, rfl, ?_⟩;replace BK229 := kB BK229 hb;replace BK236 := kB BK236 hb;replace HB := sB hb;(try clear hb)
           refine hK.out _ _ qh6x0a (fun hHeld => ?_)
           clear hK K;refine normZ (some 54) ?_
           refine pureZ 5 (some 55) (msk 24 1597887) HT_.out ?_;refine pureZ 6 (some 56) (msk 24 1597951) HT_.out ?_
           refine one_Z 9 (some 59) (msk 24 1598463) HT_.out fun K hK => ?_
           refine goes_ Try.func122 (by kernel_rfl) rfl #[.agg #[.int .i64 ((rd_T95 l0_1 x5_3).f1.f0), .int .i64 ((rd_T95 l0_1 x5_3).f1.f1)]] (by rfl) rfl rfl (by (try simp only [List.map_toArray, List.map_cons, List.map_nil]); first | done | rfl | (simp only [List.length_drop, List.length_take]; rfl)) ?_
           with_reducible refine (spec_l10Wide.calls kj22 ((rd_T95 l0_1 x5_3).f1.f0) ((rd_T95 l0_1 x5_3).f1.f1) t238 _ A35.out).mono ?_;rintro e w47 ⟨rfl, hb⟩;refine ⟨_, rfl, ?_⟩;replace BK229 := kB BK229 hb;replace BK236 := kB BK236 hb;replace HB := sB hb;(try clear hb)
           refine hK.out _ _ qh6x0a (fun hHeld => ?_)
           clear hK K;refine normZ (some 59) ?_
           refine pureZ 10 (some 60) (msk 24 1599487) HT_.out ?_;refine pureZ 11 (some 61) (msk 24 1601535) HT_.out ?_
           refine one_Z 12 (some 62) (msk 24 1605631) HT_.out fun K hK => ?_
           refine goes_ Try.func123 (by kernel_rfl) rfl #[] (by rfl) rfl rfl (by (try simp only [List.map_toArray, List.map_cons, List.map_nil]); first | done | rfl | (simp only [List.length_drop, List.length_take]; rfl)) ?_
           with_reducible refine (spec_l10Cms.calls  t239 _ A38.out).mono ?_;rintro e w48 ⟨v240, rfl, ho0, hb⟩;refine ⟨_, rfl, ?_⟩;have HO241 := Aside0.mk (Kd.R_lower ho0 (below_size cB));replace BK229 := kB BK229 hb;replace BK236 := kB BK236 hb;replace HB := sB hb;(try clear hb);(try clear ho0);obtain ⟨Ao49, co49, eo49⟩ := Kd.R_slice HO241.out
           (first | subst eo49 | (injection eo49 with f1_ f2_ f3_; have f4_ := f1_.symm; have f5_ := f3_.symm; clear f1_ f2_ f3_; subst f4_; subst f5_))
           have p242 : 0 ≤ (((rd_T95 l0_1 x5_3).f2) : Int) := dA;have q242 : ((rd_T95 l0_1 x5_3).f2) < (t239.length : Int) := dA;obtain ⟨ad242, e242, hx242_0⟩ := Kd.at_string (Kd.R_reads' HO241.out).2.2 ((rd_T95 l0_1 x5_3).f2) p242 q242;cases e242;replace p242 := eq_true p242;replace q242 := eq_true q242
           refine hK.out _ _ qh6x0a (fun hHeld => ?_)
           clear hK K;refine normZ (some 62) ?_
           refine re_ (fun w' => w'.cell? ⟨gb236, 0, none⟩ = some (.int .i64 ((rd_T95 l0_1 x5_3).f0)) ∧ w'.cell? ⟨gb236, 1, none⟩ = some (.int .i64 ((rd_T95 l0_1 x5_3).f1.f0)) ∧ w'.cell? ⟨gb236, 2, none⟩ = some (.int .i64 ((rd_T95 l0_1 x5_3).f1.f1)) ∧ w'.cell? ⟨gb236, 3, none⟩ = some (.int .i64 ((rd_T95 l0_1 x5_3).f2)) ∧ w'.cell? ⟨gb236, 4, none⟩ = some (.int .i64 ((rd_T95 l0_1 x5_3).f3.f0)) ∧ w'.cell? ⟨gb236, 5, none⟩ = some (.int .i64 ((rd_T95 l0_1 x5_3).f3.f1)) ∧ w'.cell? (ad242.add (((rd_T95 l0_1 x5_3).f2)).toNat) = some (.string (rdOf ByteArray.empty t239 ((rd_T95 l0_1 x5_3).f2)))) (fun w' h => ⟨h.1, h.2.1, h.2.2.1, h.2.2.2.1, h.2.2.2.2.1, h.2.2.2.2.2.1⟩) ⟨hHeld.1, hHeld.2.1, hHeld.2.2.1, hHeld.2.2.2.1, hHeld.2.2.2.2.1, hHeld.2.2.2.2.2, hx242_0⟩ ?_;replace hHeld := (⟨hHeld.1, hHeld.2.1, hHeld.2.2.1, hHeld.2.2.2.1, hHeld.2.2.2.2.1, hHeld.2.2.2.2.2, hx242_0⟩ : _ ∧ _ ∧ _ ∧ _ ∧ _ ∧ _ ∧ _)
           refine pureZ 15 (some 65) (msk 24 1638399) HT_.out ?_;refine takeZ 16 (some 66) (msk 24 1703935) HT_.out HW_.out hHeld (hy := q6x0) (h := ?_);refine pureZ 17 (some 67) (msk 24 1835007) HT_.out ?_;refine pureZ 18 (some 68) (msk 24 2097151) HT_.out ?_
           refine one_Z 21 (some 71) (msk 24 4194303) HT_.out fun K hK => ?_
           refine goes_ Try.func122 (by kernel_rfl) rfl #[.agg #[.int .i64 ((rd_T95 l0_1 x5_3).f3.f0), .int .i64 ((rd_T95 l0_1 x5_3).f3.f1)]] (by rfl) rfl rfl (by (try simp only [List.map_toArray, List.map_cons, List.map_nil]); first | done | rfl | (simp only [List.length_drop, List.length_take]; rfl)) ?_
           with_reducible refine (spec_l10Wide.calls kj22 ((rd_T95 l0_1 x5_3).f3.f0) ((rd_T95 l0_1 x5_3).f3.f1) t243 _ A43.out).mono ?_;rintro e w50 ⟨rfl, hb⟩;have HS6_ := (hb.cell (World.block_lt_of_cell? _ _ (hHeld.2.2.2.2.2.2))).trans (hHeld.2.2.2.2.2.2);refine ⟨_, rfl, ?_⟩;replace HO241 := rB HO241 hb;replace BK229 := kB BK229 hb;replace BK236 := kB BK236 hb;replace HB := sB hb;(try clear hb)
           refine hK.out _ _ qh6x0 (fun hHeld => ?_)
           clear hK K;refine normZ (some 71) ?_
           refine pureZ 22 (some 72) (msk 24 8388607) HT_.out ?_;refine pureZ 23 (some 3) (msk 24 16777215) HT_.out ?_
           refine done_ (done_of HT_.out (by kernel_rfl)) ?_
           try go_wp2
           go_roundg kj22
           case measure => have := HJ1.out; have := HK2.out; have := HK3.out; have := HJ22.out; omega
           case rel => exact ⟨((((((((x3_22 ++ (⟨#[97, 114, 103, 32]⟩ : ByteArray)) ++ t237) ++ (⟨#[32, 38, 32]⟩ : ByteArray)) ++ t238) ++ (⟨#[32]⟩ : ByteArray)) ++ (rdOf ByteArray.empty t239 ((rd_T95 l0_1 x5_3).f2))) ++ (⟨#[32]⟩ : ByteArray)) ++ t243), (wrap64 (x5_3 + 1)), rS, rS, H', ⟨by have := HJ1.out; have := HK2.out; have := HK3.out; have := HJ22.out; omega⟩, ⟨mK BK229⟩, ⟨cB⟩⟩
        ·rw [if_neg c21] at H;have c21b0 := decide_eq_false c21;clear c21;replace H := gC H;obtain ⟨c51, H⟩ := H;have c51b0 := eq_true c51;have c51b1 : decide (x3_3.size + 4 ≤ 9223372036854775807) = true := decide_eq_true c51
         try have c51b2 : (9223372036854775807 < x3_3.size + 4) = False := eq_false (Nat.not_lt.2 c51)
         replace H := bE H;obtain ⟨t234, A52, H⟩ := H;replace H := gC H;obtain ⟨c53, H⟩ := H;have c53b0 := eq_true c53;have c53b1 : decide ((x3_3 ++ (⟨#[32, 100, 111, 32]⟩ : ByteArray)).size + t234.size ≤ 9223372036854775807) = true := decide_eq_true c53
         try have c53b2 : (9223372036854775807 < (x3_3 ++ (⟨#[32, 100, 111, 32]⟩ : ByteArray)).size + t234.size) = False := eq_false (Nat.not_lt.2 c53)
         try have c53b3 : (9223372036854775807 < x3_3.size + 4 + t234.size) = False := eq_false (Nat.not_lt.2 (by have h_ := c53; simp only [ByteArray.size_append] at h_; exact h_))
         replace H := gC H;obtain ⟨c54, H⟩ := H;have c54b0 := eq_true c54;have c54b1 : decide (((x3_3 ++ (⟨#[32, 100, 111, 32]⟩ : ByteArray)) ++ t234).size + 2 ≤ 9223372036854775807) = true := decide_eq_true c54
         try have c54b2 : (9223372036854775807 < ((x3_3 ++ (⟨#[32, 100, 111, 32]⟩ : ByteArray)) ++ t234).size + 2) = False := eq_false (Nat.not_lt.2 c54)
         try have c54b3 : (9223372036854775807 < x3_3.size + 4 + t234.size + 2) = False := eq_false (Nat.not_lt.2 (by have h_ := c54; simp only [ByteArray.size_append] at h_; exact h_))
         obtain rfl := Option.some.inj H;obtain ⟨hcz55_0, hcz55_1, hcz55_2, hcz55_3, hfz55_0, hfz55_1, hfz55_2, hfz55_3⟩ := cz4 BK229
         go_wp2_with (first|((with_reducible refine gF 78 ?_);refine goZ (some 79) Try.func78 #[.int .i64 a0_2, .int .i64 a0_3] ?_;(with_reducible refine (spec_l10Act.calls k3 a0_2 a0_3 t234 _ A52.out).mono ?_);rintro e w56 ⟨rfl, hb⟩;refine ⟨_, rfl, ?_⟩;replace BK229 := kB BK229 hb;replace HB := sB hb;(try clear hb)))
         go_ret;exact ⟨rE, cB⟩
end Go.Proofs.Ytcmcpmkihpdnjaa.PFnExactShowPolicy
