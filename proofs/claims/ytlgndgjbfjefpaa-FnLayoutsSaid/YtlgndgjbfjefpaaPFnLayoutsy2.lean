import Derived.Test.YtlgndgjbfjefpaaPFnLayoutsy0
namespace Go.Proofs.Ytlgndgjbfjefpaa.PFnLayouts
open Go.RowKit Go.Proofs.YtlgndgjbfjefpaaW.PrintWords Go.Proofs.YtlgndgjbfjefpaaW.PrintLast Go.Proofs.YtlgndgjbfjefpaaW.PrintMore Go.Proofs.YtlgndgjbfjefpaaW.Z
attribute [local go_sem] isS max2_int min2_int max_two min_two max_three min_three max_four min_four
set_option linter.unusedVariables false
set_option linter.unusedSimpArgs false
def laws_big.f (l0 : List Int) : Option (Bool) := some (decide ((l0.length : Int) > 1048576))
set_option maxHeartbeats 8000000 in
set_option maxRecDepth 100000 in
theorem laws_big.calls (A0 : Option Addr) (c0 : Nat) (l0 : List Int) (r : Bool) (w : World) (hr0 : Kd.C (Kd.int .u8) w A0 l0.length l0) (hc0 : l0.length ≤ c0) (h : laws_big.f l0 = some r) :
 Calls Try.prog 12 #[.slice A0 l0.length c0] w fun e w' => e = .returned (.bool r) ∧ Drawn0 w w' := by
 have HR0 := Aside0.mk hr0;have HC0 := Aside0.mk hc0;clear hr0 hc0;have H : (some (decide ((l0.length : Int) > 1048576))) = some r := h;clear h;obtain rfl := Option.some.inj H;go_enter Try.func12, Try.ntmps12;go_wp2;go_ret
 exact ⟨by first | rfl | (simp; done) | (simp [*]; done), by repeat (first | exact Drawn0.refl _ | apply Drawn0.step)⟩
def impl_within.f (a0 : Int) (a1 : Int) (a2 : Int) : Option (Bool) := if a0 ≥ a1 then (some (decide (a0 ≤ a2))) else (some false)
set_option maxHeartbeats 8000000 in
set_option maxRecDepth 100000 in
theorem impl_within.calls (a0 : Int) (a1 : Int) (a2 : Int) (r : Bool) (w : World) (h : impl_within.f a0 a1 a2 = some r) :
 Calls Try.prog 92 #[.int .i64 a0, .int .i64 a1, .int .i64 a2] w fun e w' => e = .returned (.bool r) ∧ Drawn0 w w' := by
 have H : (if a0 ≥ a1 then (some (decide (a0 ≤ a2))) else (some false)) = some r := h;clear h;by_cases c4 : a0 ≥ a1
 ·rw [if_pos c4] at H;have c4b0 : decide (a1 ≤ a0) = true := decide_eq_true c4;clear c4;obtain rfl := Option.some.inj H;go_enter Try.func92, Try.ntmps92;go_wp2;go_ret
  exact ⟨by first | rfl | (simp; done) | (simp [*]; done), by repeat (first | exact Drawn0.refl _ | apply Drawn0.step)⟩
 ·rw [if_neg c4] at H;have c4b0 : decide (a1 ≤ a0) = false := decide_eq_false c4;clear c4;obtain rfl := Option.some.inj H;go_enter Try.func92, Try.ntmps92;go_wp2;go_ret
  exact ⟨by first | rfl | (simp; done) | (simp [*]; done), by repeat (first | exact Drawn0.refl _ | apply Drawn0.step)⟩
def impl_Line_isPlace.f (a0_0 : ByteArray) (a0_1 : Int) (a0_2 : Int) (a0_3 : Int) (a0_4 : Int) (a0_5 : ByteArray) (a0_6 : ByteArray) : Option (Bool) := some (a0_1 == 0)
set_option maxHeartbeats 8000000 in
set_option maxRecDepth 100000 in
theorem impl_Line_isPlace.calls (a0_0 : ByteArray) (a0_1 : Int) (a0_2 : Int) (a0_3 : Int) (a0_4 : Int) (a0_5 : ByteArray) (a0_6 : ByteArray) (r : Bool) (w : World) (h : impl_Line_isPlace.f a0_0 a0_1 a0_2 a0_3 a0_4 a0_5 a0_6 = some r) :
 Calls Try.prog 129 #[.agg #[.string a0_0, .int .i64 a0_1, .int .i64 a0_2, .int .i64 a0_3, .int .i64 a0_4, .string a0_5, .string a0_6]] w fun e w' => e = .returned (.bool r) ∧ Below w.heap.size w w' := by
 have hu95 := Try.underlying95;have HB := Aside0.mk (Below.refl w.heap.size w);have H : (some (a0_1 == 0)) = some r := h;clear h;obtain rfl := Option.some.inj H;go_enter Try.func129, Try.ntmps129
 go_wp2_with (first|((with_reducible refine gN 1 ?_);refine boxZ 1 #[.string a0_0, .int .i64 a0_1, .int .i64 a0_2, .int .i64 a0_3, .int .i64 a0_4, .string a0_5, .string a0_6] 95 ?_;intro gb101 hg w2 hbox hb;have BK101 := Aside0.mk (hbox);have GW101 := gS hg;have GE101 := gS hg;replace HB := sB hb;clear hb hbox hg;obtain ⟨hcz3_0, hcz3_1, hcz3_2, hcz3_3, hcz3_4, hcz3_5, hcz3_6, hfz3_0, hfz3_1, hfz3_2, hfz3_3, hfz3_4, hfz3_5, hfz3_6⟩ := cz7 BK101))
 go_ret;exact ⟨rE, cB⟩
def impl_Ins_asks.f (a0_0 : Int) (a0_1 : Int) (a0_2 : Int) (a0_3 : Int) : Option (Bool) := (impl_within.f a0_0 3 6).bind fun t103 => (some t103)
set_option maxHeartbeats 8000000 in
set_option maxRecDepth 100000 in
theorem impl_Ins_asks.calls (a0_0 : Int) (a0_1 : Int) (a0_2 : Int) (a0_3 : Int) (r : Bool) (w : World) (h : impl_Ins_asks.f a0_0 a0_1 a0_2 a0_3 = some r) :
 Calls Try.prog 131 #[.agg #[.int .i64 a0_0, .int .i64 a0_1, .int .i64 a0_2, .int .i64 a0_3]] w fun e w' => e = .returned (.bool r) ∧ Below w.heap.size w w' := by
 have hu93 := Try.underlying93;have HB := Aside0.mk (Below.refl w.heap.size w)
 have H : ((impl_within.f a0_0 3 6).bind fun t103 => (some t103)) = some r := h
 clear h;replace H := bE H;obtain ⟨t103, A2, H⟩ := H;obtain rfl := Option.some.inj H;go_enter Try.func131, Try.ntmps131
 go_wp2_with (first|((with_reducible refine gN 1 ?_);refine boxZ 1 #[.int .i64 a0_0, .int .i64 a0_1, .int .i64 a0_2, .int .i64 a0_3] 93 ?_;intro gb102 hg w3 hbox hb;have BK102 := Aside0.mk (hbox);have GW102 := gS hg;have GE102 := gS hg;replace HB := sB hb;clear hb hbox hg;obtain ⟨hcz4_0, hcz4_1, hcz4_2, hcz4_3, hfz4_0, hfz4_1, hfz4_2, hfz4_3⟩ := cz4 BK102)|((with_reducible refine gF 92 ?_);refine goZ (some 5) Try.func92 #[.int .i64 a0_0, .int .i64 3, .int .i64 6] ?_;(with_reducible refine (impl_within.calls a0_0 3 6 t103 _ A2.out).mono ?_);rintro e w' ⟨rfl, ⟨nd, rfl⟩⟩;refine ⟨_, rfl, ?_⟩))
 go_ret;exact ⟨rE, cB⟩
def impl_placeOf.l0 : Nat → List (S95) → ByteArray → Int → Option (Int)
  | 0, _, _, _ => none
  | k + 1, x0, x1, x7 => if x7 < (x0.length : Int) then (if 0 ≤ x7 then ((impl_Line_isPlace.f ((rd_T95 x0 x7).f0) ((rd_T95 x0 x7).f1.f0) ((rd_T95 x0 x7).f1.f1) ((rd_T95 x0 x7).f1.f2) ((rd_T95 x0 x7).f1.f3) ((rd_T95 x0 x7).f2) ((rd_T95 x0 x7).f3)).bind fun t105 => (if t105 = true then (if ((rd_T95 x0 x7).f0).toList = x1.toList then (some x7) else (impl_placeOf.l0 k x0 x1 (wrap64 (x7 + 1)))) else (impl_placeOf.l0 k x0 x1 (wrap64 (x7 + 1))))) else (none)) else (some (-1))
def impl_placeOf.f (k : Nat) (l0 : List (S95)) (a1 : ByteArray) (a2 : Int) : Option (Int) := impl_placeOf.l0 k l0 a1 (wrap64 (a2 + 1))
set_option maxHeartbeats 8000000 in
set_option maxRecDepth 100000 in
theorem impl_placeOf.calls (k : Nat) (A0 : Option Addr) (c0 : Nat) (l0 : List (S95)) (a1 : ByteArray) (a2 : Int) (r : Int) (w : World) (hr0 : Kd.C k95 w A0 l0.length l0) (hc0 : l0.length ≤ c0) (h : impl_placeOf.f k l0 a1 a2 = some r) :
 Calls Try.prog 162 #[.slice A0 l0.length c0, .string a1, .int .i64 a2] w fun e w' => e = .returned (.int .i64 r) ∧ Below w.heap.size w w' := by
 have hu95 := Try.underlying95;have HR0 := Aside0.mk hr0;have HC0 := Aside0.mk hc0;clear hr0 hc0;have HB := Aside0.mk (Below.refl w.heap.size w);have H : (impl_placeOf.l0 k l0 a1 (wrap64 (a2 + 1))) = some r := h;clear h;have H' := Aside0.mk H;clear H;go_enter Try.func162, Try.ntmps162;go_wp2
 go_loopg [7] k (fun kq v7 w' => ∃ (x7_1 : Int), v7 = .int .i64 x7_1 ∧ Aside0 (impl_placeOf.l0 kq l0 a1 x7_1 = some r) ∧ Aside0 (kq ≤ k) ∧ Aside0 (Below w.heap.size w w'))
 case atStart => exact ⟨(wrap64 (a2 + 1)), rS, H', ⟨Nat.le_refl _⟩, ⟨cB⟩⟩
 case round =>
  clear H';obtain ⟨x7_1, rfl, HA, HK1, HB⟩ := hrel
  cases gk with
  | zero => exact absurd HA.out (by simp [impl_placeOf.l0])
  | succ k1 =>
   have H := HA.out;clear HA;simp only [impl_placeOf.l0] at H;by_cases c4 : x7_1 < (l0.length : Int)
   ·rw [if_pos c4] at H;have c4b0 := decide_eq_true c4;clear c4;replace H := gD H;obtain ⟨c5b0, H⟩ := H;replace H := bE H;obtain ⟨t105, A6, H⟩ := H;by_cases c7 : t105 = true
    ·subst c7;replace H := iT H;by_cases c8 : ((rd_T95 l0 x7_1).f0).toList = a1.toList
     ·rw [if_pos c8] at H;obtain ⟨c8b0, c8b1⟩ := eT c8;clear c8;obtain rfl := Option.some.inj H;have p104 : 0 ≤ (x7_1 : Int) := dA;have q104 : x7_1 < (l0.length : Int) := dA;obtain ⟨ad104, e104, hx104_0, hx104_1, hx104_2, hx104_3, hx104_4, hx104_5, hx104_6⟩ := at_T95 HR0.out x7_1 p104 q104;cases e104;replace hx104_0 := (bc HB hx104_0 :);replace hx104_1 := (bc HB hx104_1 :);replace hx104_2 := (bc HB hx104_2 :);replace hx104_3 := (bc HB hx104_3 :);replace hx104_4 := (bc HB hx104_4 :);replace hx104_5 := (bc HB hx104_5 :);replace hx104_6 := (bc HB hx104_6 :);replace p104 := eq_true p104;replace q104 := eq_true q104
      go_wp2_with (first|((with_reducible refine gF 129 ?_);refine goZ (some 20) Try.func129 #[.agg #[.string ((rd_T95 l0 x7_1).f0), .int .i64 ((rd_T95 l0 x7_1).f1.f0), .int .i64 ((rd_T95 l0 x7_1).f1.f1), .int .i64 ((rd_T95 l0 x7_1).f1.f2), .int .i64 ((rd_T95 l0 x7_1).f1.f3), .string ((rd_T95 l0 x7_1).f2), .string ((rd_T95 l0 x7_1).f3)]] ?_;(with_reducible refine (impl_Line_isPlace.calls ((rd_T95 l0 x7_1).f0) ((rd_T95 l0 x7_1).f1.f0) ((rd_T95 l0 x7_1).f1.f1) ((rd_T95 l0 x7_1).f1.f2) ((rd_T95 l0 x7_1).f1.f3) ((rd_T95 l0 x7_1).f2) ((rd_T95 l0 x7_1).f3) true _ A6.out).mono ?_);rintro e w9 ⟨rfl, hb⟩;refine ⟨_, rfl, ?_⟩;replace HB := sB hb;(try clear hb);have p106 : 0 ≤ (x7_1 : Int) := dA;have q106 : x7_1 < (l0.length : Int) := dA;obtain ⟨ad106, e106, hx106_0, hx106_1, hx106_2, hx106_3, hx106_4, hx106_5, hx106_6⟩ := at_T95 HR0.out x7_1 p106 q106;obtain rfl : ad104 = ad106 := (by injection e106);replace hx106_0 := (bc HB hx106_0 :);replace hx106_1 := (bc HB hx106_1 :);replace hx106_2 := (bc HB hx106_2 :);replace hx106_3 := (bc HB hx106_3 :);replace hx106_4 := (bc HB hx106_4 :);replace hx106_5 := (bc HB hx106_5 :);replace hx106_6 := (bc HB hx106_6 :);replace p106 := eq_true p106;replace q106 := eq_true q106))
      go_ret;exact ⟨rE, cB⟩
     ·rw [if_neg c8] at H;obtain ⟨c8b0, c8b1⟩ := eF c8;have H' := Aside0.mk H;clear H;have p104 : 0 ≤ (x7_1 : Int) := dA;have q104 : x7_1 < (l0.length : Int) := dA;obtain ⟨ad104, e104, hx104_0, hx104_1, hx104_2, hx104_3, hx104_4, hx104_5, hx104_6⟩ := at_T95 HR0.out x7_1 p104 q104;cases e104;replace hx104_0 := (bc HB hx104_0 :);replace hx104_1 := (bc HB hx104_1 :);replace hx104_2 := (bc HB hx104_2 :);replace hx104_3 := (bc HB hx104_3 :);replace hx104_4 := (bc HB hx104_4 :);replace hx104_5 := (bc HB hx104_5 :);replace hx104_6 := (bc HB hx104_6 :);replace p104 := eq_true p104;replace q104 := eq_true q104
      go_wp2_with (first|((with_reducible refine gF 129 ?_);refine goZ (some 20) Try.func129 #[.agg #[.string ((rd_T95 l0 x7_1).f0), .int .i64 ((rd_T95 l0 x7_1).f1.f0), .int .i64 ((rd_T95 l0 x7_1).f1.f1), .int .i64 ((rd_T95 l0 x7_1).f1.f2), .int .i64 ((rd_T95 l0 x7_1).f1.f3), .string ((rd_T95 l0 x7_1).f2), .string ((rd_T95 l0 x7_1).f3)]] ?_;(with_reducible refine (impl_Line_isPlace.calls ((rd_T95 l0 x7_1).f0) ((rd_T95 l0 x7_1).f1.f0) ((rd_T95 l0 x7_1).f1.f1) ((rd_T95 l0 x7_1).f1.f2) ((rd_T95 l0 x7_1).f1.f3) ((rd_T95 l0 x7_1).f2) ((rd_T95 l0 x7_1).f3) true _ A6.out).mono ?_);rintro e w10 ⟨rfl, hb⟩;refine ⟨_, rfl, ?_⟩;replace HB := sB hb;(try clear hb);have p106 : 0 ≤ (x7_1 : Int) := dA;have q106 : x7_1 < (l0.length : Int) := dA;obtain ⟨ad106, e106, hx106_0, hx106_1, hx106_2, hx106_3, hx106_4, hx106_5, hx106_6⟩ := at_T95 HR0.out x7_1 p106 q106;obtain rfl : ad104 = ad106 := (by injection e106);replace hx106_0 := (bc HB hx106_0 :);replace hx106_1 := (bc HB hx106_1 :);replace hx106_2 := (bc HB hx106_2 :);replace hx106_3 := (bc HB hx106_3 :);replace hx106_4 := (bc HB hx106_4 :);replace hx106_5 := (bc HB hx106_5 :);replace hx106_6 := (bc HB hx106_6 :);replace p106 := eq_true p106;replace q106 := eq_true q106))
      go_roundg k1
      case measure => have := HK1.out; omega
      case rel => exact ⟨(wrap64 (x7_1 + 1)), rS, H', ⟨by have := HK1.out; omega⟩, ⟨cB⟩⟩
    ·replace c7 := Bool.eq_false_iff.mpr c7;subst c7;replace H := iF H;have H' := Aside0.mk H;clear H;have p104 : 0 ≤ (x7_1 : Int) := dA;have q104 : x7_1 < (l0.length : Int) := dA;obtain ⟨ad104, e104, hx104_0, hx104_1, hx104_2, hx104_3, hx104_4, hx104_5, hx104_6⟩ := at_T95 HR0.out x7_1 p104 q104;cases e104;replace hx104_0 := (bc HB hx104_0 :);replace hx104_1 := (bc HB hx104_1 :);replace hx104_2 := (bc HB hx104_2 :);replace hx104_3 := (bc HB hx104_3 :);replace hx104_4 := (bc HB hx104_4 :);replace hx104_5 := (bc HB hx104_5 :);replace hx104_6 := (bc HB hx104_6 :);replace p104 := eq_true p104;replace q104 := eq_true q104
     go_wp2_with (first|((with_reducible refine gF 129 ?_);refine goZ (some 20) Try.func129 #[.agg #[.string ((rd_T95 l0 x7_1).f0), .int .i64 ((rd_T95 l0 x7_1).f1.f0), .int .i64 ((rd_T95 l0 x7_1).f1.f1), .int .i64 ((rd_T95 l0 x7_1).f1.f2), .int .i64 ((rd_T95 l0 x7_1).f1.f3), .string ((rd_T95 l0 x7_1).f2), .string ((rd_T95 l0 x7_1).f3)]] ?_;(with_reducible refine (impl_Line_isPlace.calls ((rd_T95 l0 x7_1).f0) ((rd_T95 l0 x7_1).f1.f0) ((rd_T95 l0 x7_1).f1.f1) ((rd_T95 l0 x7_1).f1.f2) ((rd_T95 l0 x7_1).f1.f3) ((rd_T95 l0 x7_1).f2) ((rd_T95 l0 x7_1).f3) false _ A6.out).mono ?_);rintro e w11 ⟨rfl, hb⟩;refine ⟨_, rfl, ?_⟩;replace HB := sB hb;(try clear hb)))
     go_roundg k1
     case measure => have := HK1.out; omega
     case rel => exact ⟨(wrap64 (x7_1 + 1)), rS, H', ⟨by have := HK1.out; omega⟩, ⟨cB⟩⟩
   ·rw [if_neg c4] at H;have c4b0 := decide_eq_false c4;clear c4;obtain rfl := Option.some.inj H;go_wp2;go_ret;exact ⟨rE, cB⟩
def impl_HalfOk.f (a0 : Int) : Option (Bool) := (impl_within.f a0 0 4294967295).bind fun t107 => (some t107)
set_option maxHeartbeats 8000000 in
set_option maxRecDepth 100000 in
theorem impl_HalfOk.calls (a0 : Int) (r : Bool) (w : World) (h : impl_HalfOk.f a0 = some r) :
 Calls Try.prog 90 #[.int .i64 a0] w fun e w' => e = .returned (.bool r) ∧ Drawn0 w w' := by
 have H : ((impl_within.f a0 0 4294967295).bind fun t107 => (some t107)) = some r := h
 clear h;replace H := bE H;obtain ⟨t107, A2, H⟩ := H;obtain rfl := Option.some.inj H;go_enter Try.func90, Try.ntmps90
 go_wp2_with (first|((with_reducible refine gF 92 ?_);refine goZ (some 4) Try.func92 #[.int .i64 a0, .int .i64 0, .int .i64 4294967295] ?_;(with_reducible refine (impl_within.calls a0 0 4294967295 t107 _ A2.out).mono ?_);rintro e w' ⟨rfl, ⟨nd, rfl⟩⟩;refine ⟨_, rfl, ?_⟩))
 go_ret
 exact ⟨by first | rfl | (simp; done) | (simp [*]; done), by repeat (first | exact Drawn0.refl _ | apply Drawn0.step)⟩
def impl_InsOk.j0 : Nat → Bool → Int → Int → Int → Int → Option (Bool)
  | 0, _, _, _, _, _ => none
  | k + 1, x25, x109000, x109001, x109002, x109003 => if x25 = true then (some false) else (if x109000 = 1 then ((impl_within.f x109001 0 7).bind fun t113 => (some t113)) else (if x109000 = 7 then ((impl_within.f x109001 0 399).bind fun t114 => (some t114)) else (if x109000 = 2 then ((impl_HalfOk.f x109001).bind fun t115 => (some t115)) else (if x109000 = 8 then ((impl_HalfOk.f x109001).bind fun t116 => (some t116)) else (some false)))))
def impl_InsOk.f (k : Nat) (a0_0 : Int) (a0_1 : Int) (a0_2 : Int) (a0_3 : Int) : Option (Bool) := (impl_Ins_asks.f a0_0 a0_1 a0_2 a0_3).bind fun t109 => (if t109 = true then ((impl_HalfOk.f a0_1).bind fun t110 => (if t110 = true then ((impl_within.f a0_2 0 15).bind fun t111 => (if t111 = true then ((impl_within.f a0_3 0 15).bind fun t112 => (some t112)) else (some false))) else (some false))) else (if a0_2 = 0 then (impl_InsOk.j0 k (a0_3 != 0) a0_0 a0_1 a0_2 a0_3) else (impl_InsOk.j0 k true a0_0 a0_1 a0_2 a0_3)))
set_option maxHeartbeats 8000000 in
set_option maxRecDepth 100000 in
theorem impl_InsOk.calls (k : Nat) (a0_0 : Int) (a0_1 : Int) (a0_2 : Int) (a0_3 : Int) (r : Bool) (w : World) (h : impl_InsOk.f k a0_0 a0_1 a0_2 a0_3 = some r) :
 Calls Try.prog 164 #[.agg #[.int .i64 a0_0, .int .i64 a0_1, .int .i64 a0_2, .int .i64 a0_3]] w fun e w' => e = .returned (.bool r) ∧ Below w.heap.size w w' := by
 have hu93 := Try.underlying93;have HB := Aside0.mk (Below.refl w.heap.size w)
 have H : ((impl_Ins_asks.f a0_0 a0_1 a0_2 a0_3).bind fun t109 => (if t109 = true then ((impl_HalfOk.f a0_1).bind fun t110 => (if t110 = true then ((impl_within.f a0_2 0 15).bind fun t111 => (if t111 = true then ((impl_within.f a0_3 0 15).bind fun t112 => (some t112)) else (some false))) else (some false))) else (if a0_2 = 0 then (impl_InsOk.j0 k (a0_3 != 0) a0_0 a0_1 a0_2 a0_3) else (impl_InsOk.j0 k true a0_0 a0_1 a0_2 a0_3)))) = some r := h
 clear h;replace H := bE H;obtain ⟨t109, A2, H⟩ := H;by_cases c3 : t109 = true
 ·subst c3;replace H := iT H;replace H := bE H;obtain ⟨t110, A4, H⟩ := H;by_cases c5 : t110 = true
  ·subst c5;replace H := iT H;replace H := bE H;obtain ⟨t111, A6, H⟩ := H;by_cases c7 : t111 = true
   ·subst c7;replace H := iT H;replace H := bE H;obtain ⟨t112, A8, H⟩ := H;obtain rfl := Option.some.inj H;go_enter Try.func164, Try.ntmps164
    go_wp2_with (first|((with_reducible refine gN 1 ?_);refine boxZ 1 #[.int .i64 a0_0, .int .i64 a0_1, .int .i64 a0_2, .int .i64 a0_3] 93 ?_;intro gb108 hg w9 hbox hb;have BK108 := Aside0.mk (hbox);have GW108 := gS hg;have GE108 := gS hg;replace HB := sB hb;clear hb hbox hg;obtain ⟨hcz10_0, hcz10_1, hcz10_2, hcz10_3, hfz10_0, hfz10_1, hfz10_2, hfz10_3⟩ := cz4 BK108)|((with_reducible refine gF 131 ?_);refine goZ (some 4) Try.func131 #[.agg #[.int .i64 a0_0, .int .i64 a0_1, .int .i64 a0_2, .int .i64 a0_3]] ?_;(with_reducible refine (impl_Ins_asks.calls a0_0 a0_1 a0_2 a0_3 true _ A2.out).mono ?_);rintro e w11 ⟨rfl, hb⟩;refine ⟨_, rfl, ?_⟩;replace BK108 := kB BK108 hb;replace HB := sB hb;(try clear hb);obtain ⟨hcz12_0, hcz12_1, hcz12_2, hcz12_3, hfz12_0, hfz12_1, hfz12_2, hfz12_3⟩ := cz4 BK108)|((with_reducible refine gF 90 ?_);refine goZ (some 7) Try.func90 #[.int .i64 a0_1] ?_;(with_reducible refine (impl_HalfOk.calls a0_1 true _ A4.out).mono ?_);rintro e w' ⟨rfl, ⟨nd, rfl⟩⟩;refine ⟨_, rfl, ?_⟩)|(go_at_call 92;(with_reducible refine (impl_within.calls a0_2 0 15 true _ A6.out).mono ?_);rintro e w' ⟨rfl, ⟨nd, rfl⟩⟩)|(go_at_call 92;(with_reducible refine (impl_within.calls a0_3 0 15 t112 _ A8.out).mono ?_);rintro e w' ⟨rfl, ⟨nd, rfl⟩⟩))
    go_ret;exact ⟨rE, cB⟩
   ·replace c7 := Bool.eq_false_iff.mpr c7;subst c7;replace H := iF H;obtain rfl := Option.some.inj H;go_enter Try.func164, Try.ntmps164
    go_wp2_with (first|((with_reducible refine gN 1 ?_);refine boxZ 1 #[.int .i64 a0_0, .int .i64 a0_1, .int .i64 a0_2, .int .i64 a0_3] 93 ?_;intro gb108 hg w13 hbox hb;have BK108 := Aside0.mk (hbox);have GW108 := gS hg;have GE108 := gS hg;replace HB := sB hb;clear hb hbox hg;obtain ⟨hcz14_0, hcz14_1, hcz14_2, hcz14_3, hfz14_0, hfz14_1, hfz14_2, hfz14_3⟩ := cz4 BK108)|((with_reducible refine gF 131 ?_);refine goZ (some 4) Try.func131 #[.agg #[.int .i64 a0_0, .int .i64 a0_1, .int .i64 a0_2, .int .i64 a0_3]] ?_;(with_reducible refine (impl_Ins_asks.calls a0_0 a0_1 a0_2 a0_3 true _ A2.out).mono ?_);rintro e w15 ⟨rfl, hb⟩;refine ⟨_, rfl, ?_⟩;replace BK108 := kB BK108 hb;replace HB := sB hb;(try clear hb);obtain ⟨hcz16_0, hcz16_1, hcz16_2, hcz16_3, hfz16_0, hfz16_1, hfz16_2, hfz16_3⟩ := cz4 BK108)|((with_reducible refine gF 90 ?_);refine goZ (some 7) Try.func90 #[.int .i64 a0_1] ?_;(with_reducible refine (impl_HalfOk.calls a0_1 true _ A4.out).mono ?_);rintro e w' ⟨rfl, ⟨nd, rfl⟩⟩;refine ⟨_, rfl, ?_⟩)|(go_at_call 92;(with_reducible refine (impl_within.calls a0_2 0 15 false _ A6.out).mono ?_);rintro e w' ⟨rfl, ⟨nd, rfl⟩⟩))
    go_ret;exact ⟨rE, cB⟩
  ·replace c5 := Bool.eq_false_iff.mpr c5;subst c5;replace H := iF H;obtain rfl := Option.some.inj H;go_enter Try.func164, Try.ntmps164
   go_wp2_with (first|((with_reducible refine gN 1 ?_);refine boxZ 1 #[.int .i64 a0_0, .int .i64 a0_1, .int .i64 a0_2, .int .i64 a0_3] 93 ?_;intro gb108 hg w17 hbox hb;have BK108 := Aside0.mk (hbox);have GW108 := gS hg;have GE108 := gS hg;replace HB := sB hb;clear hb hbox hg;obtain ⟨hcz18_0, hcz18_1, hcz18_2, hcz18_3, hfz18_0, hfz18_1, hfz18_2, hfz18_3⟩ := cz4 BK108)|((with_reducible refine gF 131 ?_);refine goZ (some 4) Try.func131 #[.agg #[.int .i64 a0_0, .int .i64 a0_1, .int .i64 a0_2, .int .i64 a0_3]] ?_;(with_reducible refine (impl_Ins_asks.calls a0_0 a0_1 a0_2 a0_3 true _ A2.out).mono ?_);rintro e w19 ⟨rfl, hb⟩;refine ⟨_, rfl, ?_⟩;replace BK108 := kB BK108 hb;replace HB := sB hb;(try clear hb);obtain ⟨hcz20_0, hcz20_1, hcz20_2, hcz20_3, hfz20_0, hfz20_1, hfz20_2, hfz20_3⟩ := cz4 BK108)|((with_reducible refine gF 90 ?_);refine goZ (some 7) Try.func90 #[.int .i64 a0_1] ?_;(with_reducible refine (impl_HalfOk.calls a0_1 false _ A4.out).mono ?_);rintro e w' ⟨rfl, ⟨nd, rfl⟩⟩;refine ⟨_, rfl, ?_⟩))
   go_ret;exact ⟨rE, cB⟩
 ·replace c3 := Bool.eq_false_iff.mpr c3;subst c3;replace H := iF H;have HC21 := Aside0.mk H;clear H;go_enter Try.func164, Try.ntmps164
  go_upto_region 3 with (first|((with_reducible refine gN 1 ?_);refine boxZ 1 #[.int .i64 a0_0, .int .i64 a0_1, .int .i64 a0_2, .int .i64 a0_3] 93 ?_;intro gb108 hg w22 hbox hb;have BK108 := Aside0.mk (hbox);have GW108 := gS hg;have GE108 := gS hg;replace HB := sB hb;clear hb hbox hg;obtain ⟨hcz23_0, hcz23_1, hcz23_2, hcz23_3, hfz23_0, hfz23_1, hfz23_2, hfz23_3⟩ := cz4 BK108)|((with_reducible refine gF 131 ?_);refine goZ (some 4) Try.func131 #[.agg #[.int .i64 a0_0, .int .i64 a0_1, .int .i64 a0_2, .int .i64 a0_3]] ?_;(with_reducible refine (impl_Ins_asks.calls a0_0 a0_1 a0_2 a0_3 false _ A2.out).mono ?_);rintro e w24 ⟨rfl, hb⟩;refine ⟨_, rfl, ?_⟩;replace BK108 := kB BK108 hb;replace HB := sB hb;(try clear hb)))
  (try simp only [Act.put, List.setIfInBounds_toArray, List.set_cons_zero, List.set_cons_succ])
  go_cut [25] (fun v25 wc => ∃ (kq : Nat) (x25_20 : Bool), v25 = .bool x25_20 ∧ Aside0 (impl_InsOk.j0 kq x25_20 a0_0 a0_1 a0_2 a0_3 = some r) ∧ Aside0 (kq ≤ k) ∧ Aside0 (wc.heap[gb108]? = some (.cells #[.int .i64 a0_0, .int .i64 a0_1, .int .i64 a0_2, .int .i64 a0_3] 93 (0, 0))) ∧ Aside0 (Below w.heap.size w wc))
  case first =>
   have H := HC21.out;clear HC21;by_cases c25 : a0_2 = 0
   ·rw [if_pos c25] at H;obtain ⟨c25b0, c25b1⟩ := eT c25;clear c25
    (first | rw [c25b0] | (simp only [i64_w, i32_w]; rw [c25b0]) | skip)
    have H' := Aside0.mk H;clear H;obtain ⟨hcz26_0, hcz26_1, hcz26_2, hcz26_3, hfz26_0, hfz26_1, hfz26_2, hfz26_3⟩ := cz4 BK108;go_wp2;go_meet
    case rel => exact ⟨_, ((a0_3 != 0)), rS, H', ⟨oL⟩, ⟨mK BK108⟩, ⟨cB⟩⟩
   ·rw [if_neg c25] at H;obtain ⟨c25b0, c25b1⟩ := eF c25
    (first | rw [c25b0] | (simp only [i64_w, i32_w]; rw [c25b0]) | skip)
    have H' := Aside0.mk H;clear H;obtain ⟨hcz27_0, hcz27_1, hcz27_2, hcz27_3, hfz27_0, hfz27_1, hfz27_2, hfz27_3⟩ := cz4 BK108;go_wp2;go_meet
    case rel => exact ⟨_, (true), rS, H', ⟨oL⟩, ⟨mK BK108⟩, ⟨cB⟩⟩
  case rest =>
   clear HC21;(try clear c3);(try clear c5);(try clear c7);(try clear c25);(try clear c25b0);(try clear c25b1);(try clear hcz10_0);(try clear hcz10_1);(try clear hcz10_2);(try clear hcz10_3);(try clear hcz12_0);(try clear hcz12_1);(try clear hcz12_2);(try clear hcz12_3);(try clear hcz14_0);(try clear hcz14_1);(try clear hcz14_2);(try clear hcz14_3);(try clear hcz16_0);(try clear hcz16_1);(try clear hcz16_2);(try clear hcz16_3);(try clear hcz18_0);(try clear hcz18_1);(try clear hcz18_2);(try clear hcz18_3);(try clear hcz20_0);(try clear hcz20_1);(try clear hcz20_2);(try clear hcz20_3);(try clear hcz23_0);(try clear hcz23_1);(try clear hcz23_2);(try clear hcz23_3);(try clear hcz26_0);(try clear hcz26_1);(try clear hcz26_2);(try clear hcz26_3);(try clear hcz27_0);(try clear hcz27_1);(try clear hcz27_2);(try clear hcz27_3);(try clear hfz10_0);(try clear hfz10_1);(try clear hfz10_2);(try clear hfz10_3);(try clear hfz12_0);(try clear hfz12_1);(try clear hfz12_2);(try clear hfz12_3);(try clear hfz14_0);(try clear hfz14_1);(try clear hfz14_2);(try clear hfz14_3);(try clear hfz16_0);(try clear hfz16_1);(try clear hfz16_2);(try clear hfz16_3);(try clear hfz18_0);(try clear hfz18_1);(try clear hfz18_2);(try clear hfz18_3);(try clear hfz20_0);(try clear hfz20_1);(try clear hfz20_2);(try clear hfz20_3);(try clear hfz23_0);(try clear hfz23_1);(try clear hfz23_2);(try clear hfz23_3);(try clear hfz26_0);(try clear hfz26_1);(try clear hfz26_2);(try clear hfz26_3);(try clear hfz27_0);(try clear hfz27_1);(try clear hfz27_2);(try clear hfz27_3);obtain ⟨kq, x25_20, rfl, HA, HJ20, BK108, HB⟩ := hcut
   cases kq with
   | zero => exact absurd HA.out (by simp [impl_InsOk.j0])
   | succ kj20 =>
    have H := HA.out;clear HA;simp only [impl_InsOk.j0] at H;by_cases c28 : x25_20 = true
    ·subst c28;replace H := iT H;obtain rfl := Option.some.inj H;go_wp2;go_ret;exact ⟨rE, cB⟩
    ·replace c28 := Bool.eq_false_iff.mpr c28;subst c28;replace H := iF H;by_cases c29 : a0_0 = 1
     ·rw [if_pos c29] at H;obtain ⟨c29b0, c29b1⟩ := eT c29;clear c29;replace H := bE H;obtain ⟨t113, A30, H⟩ := H;obtain rfl := Option.some.inj H;obtain ⟨hcz31_0, hcz31_1, hcz31_2, hcz31_3, hfz31_0, hfz31_1, hfz31_2, hfz31_3⟩ := cz4 BK108
      go_wp2_with (first|((with_reducible refine gF 92 ?_);refine goZ (some 32) Try.func92 #[.int .i64 a0_1, .int .i64 0, .int .i64 7] ?_;(with_reducible refine (impl_within.calls a0_1 0 7 t113 _ A30.out).mono ?_);rintro e w' ⟨rfl, ⟨nd, rfl⟩⟩;refine ⟨_, rfl, ?_⟩))
      go_ret;exact ⟨rE, cB⟩
     ·rw [if_neg c29] at H;obtain ⟨c29b0, c29b1⟩ := eF c29;by_cases c32 : a0_0 = 7
      ·rw [if_pos c32] at H;obtain ⟨c32b0, c32b1⟩ := eT c32;clear c32;replace H := bE H;obtain ⟨t114, A33, H⟩ := H;obtain rfl := Option.some.inj H;obtain ⟨hcz34_0, hcz34_1, hcz34_2, hcz34_3, hfz34_0, hfz34_1, hfz34_2, hfz34_3⟩ := cz4 BK108
       go_wp2_with (first|((with_reducible refine gF 92 ?_);refine goZ (some 37) Try.func92 #[.int .i64 a0_1, .int .i64 0, .int .i64 399] ?_;(with_reducible refine (impl_within.calls a0_1 0 399 t114 _ A33.out).mono ?_);rintro e w' ⟨rfl, ⟨nd, rfl⟩⟩;refine ⟨_, rfl, ?_⟩))
       go_ret;exact ⟨rE, cB⟩
      ·rw [if_neg c32] at H;obtain ⟨c32b0, c32b1⟩ := eF c32;by_cases c35 : a0_0 = 2
       ·rw [if_pos c35] at H;obtain ⟨c35b0, c35b1⟩ := eT c35;clear c35;replace H := bE H;obtain ⟨t115, A36, H⟩ := H;obtain rfl := Option.some.inj H;obtain ⟨hcz37_0, hcz37_1, hcz37_2, hcz37_3, hfz37_0, hfz37_1, hfz37_2, hfz37_3⟩ := cz4 BK108
        go_wp2_with (first|((with_reducible refine gF 90 ?_);refine goZ (some 43) Try.func90 #[.int .i64 a0_1] ?_;(with_reducible refine (impl_HalfOk.calls a0_1 t115 _ A36.out).mono ?_);rintro e w' ⟨rfl, ⟨nd, rfl⟩⟩;refine ⟨_, rfl, ?_⟩))
        go_ret;exact ⟨rE, cB⟩
       ·rw [if_neg c35] at H;obtain ⟨c35b0, c35b1⟩ := eF c35;by_cases c38 : a0_0 = 8
        ·rw [if_pos c38] at H;obtain ⟨c38b0, c38b1⟩ := eT c38;clear c38;replace H := bE H;obtain ⟨t116, A39, H⟩ := H;obtain rfl := Option.some.inj H;obtain ⟨hcz40_0, hcz40_1, hcz40_2, hcz40_3, hfz40_0, hfz40_1, hfz40_2, hfz40_3⟩ := cz4 BK108
         go_wp2_with (first|((with_reducible refine gF 90 ?_);refine goZ (some 43) Try.func90 #[.int .i64 a0_1] ?_;(with_reducible refine (impl_HalfOk.calls a0_1 t116 _ A39.out).mono ?_);rintro e w' ⟨rfl, ⟨nd, rfl⟩⟩;refine ⟨_, rfl, ?_⟩))
         go_ret;exact ⟨rE, cB⟩
        ·rw [if_neg c38] at H;obtain ⟨c38b0, c38b1⟩ := eF c38;obtain rfl := Option.some.inj H;obtain ⟨hcz41_0, hcz41_1, hcz41_2, hcz41_3, hfz41_0, hfz41_1, hfz41_2, hfz41_3⟩ := cz4 BK108;go_wp2;go_ret;exact ⟨rE, cB⟩
end Go.Proofs.Ytlgndgjbfjefpaa.PFnLayouts
