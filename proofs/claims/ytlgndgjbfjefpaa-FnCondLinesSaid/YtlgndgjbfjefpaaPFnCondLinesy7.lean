import Derived.Test.YtlgndgjbfjefpaaPFnCondLinesy0
namespace Go.Proofs.Ytlgndgjbfjefpaa.PFnCondLines
open Go.RowKit Go.Proofs.YtlgndgjbfjefpaaW.PrintWords Go.Proofs.YtlgndgjbfjefpaaW.PrintLast Go.Proofs.YtlgndgjbfjefpaaW.PrintMore Go.Proofs.YtlgndgjbfjefpaaW.Z
attribute [local go_sem] isS max2_int min2_int max_two min_two max_three min_three max_four min_four
set_option linter.unusedVariables false
set_option linter.unusedSimpArgs false
def impl_within.f (a0 : Int) (a1 : Int) (a2 : Int) : Option (Bool) := if a0 ≥ a1 then (some (decide (a0 ≤ a2))) else (some false)
set_option maxHeartbeats 8000000 in
set_option maxRecDepth 100000 in
theorem impl_within.calls (a0 : Int) (a1 : Int) (a2 : Int) (r : Bool) (w : World) (h : impl_within.f a0 a1 a2 = some r) :
 Calls Try.prog 92 #[.int .i64 a0, .int .i64 a1, .int .i64 a2] w fun e w' => e = .returned (.bool r) ∧ Drawn0 w w' := by
 have H : (if a0 ≥ a1 then (some (decide (a0 ≤ a2))) else (some false)) = some r := h;clear h;by_cases c4 : a0 ≥ a1
 ·rw [if_pos c4] at H;have c4b0 : decide (a1 ≤ a0) = true := decide_eq_true c4;clear c4;obtain rfl := Option.some.inj H;go_enter Try.func92, Try.ntmps92;go_wp2;go_ret
  exact ⟨by first | rfl | (simp; done) | (simp [*]; done), by repeat (first | exact Drawn0.refl _ | apply Drawn0.step)⟩
 ·rw [if_neg c4] at H;have c4b0 : decide (a1 ≤ a0) = false := decide_eq_false c4;clear c4;obtain rfl := Option.some.inj H;go_enter Try.func92, Try.ntmps92;go_wp2;go_ret
  exact ⟨by first | rfl | (simp; done) | (simp [*]; done), by repeat (first | exact Drawn0.refl _ | apply Drawn0.step)⟩
def impl_HalfOk.f (a0 : Int) : Option (Bool) := (impl_within.f a0 0 4294967295).bind fun t309 => (some t309)
set_option maxHeartbeats 8000000 in
set_option maxRecDepth 100000 in
theorem impl_HalfOk.calls (a0 : Int) (r : Bool) (w : World) (h : impl_HalfOk.f a0 = some r) :
 Calls Try.prog 90 #[.int .i64 a0] w fun e w' => e = .returned (.bool r) ∧ Drawn0 w w' := by
 have H : ((impl_within.f a0 0 4294967295).bind fun t309 => (some t309)) = some r := h
 clear h;replace H := bE H;obtain ⟨t309, A2, H⟩ := H;obtain rfl := Option.some.inj H;go_enter Try.func90, Try.ntmps90
 go_wp2_with (first|((with_reducible refine gF 92 ?_);refine goZ (some 4) Try.func92 #[.int .i64 a0, .int .i64 0, .int .i64 4294967295] ?_;(with_reducible refine (impl_within.calls a0 0 4294967295 t309 _ A2.out).mono ?_);rintro e w' ⟨rfl, ⟨nd, rfl⟩⟩;refine ⟨_, rfl, ?_⟩))
 go_ret
 exact ⟨by first | rfl | (simp; done) | (simp [*]; done), by repeat (first | exact Drawn0.refl _ | apply Drawn0.step)⟩
def impl_WideOk.f (a0_0 : Int) (a0_1 : Int) : Option (Bool) := (impl_HalfOk.f a0_0).bind fun t311 => (if t311 = true then ((impl_HalfOk.f a0_1).bind fun t312 => (some t312)) else (some false))
set_option maxHeartbeats 8000000 in
set_option maxRecDepth 100000 in
theorem impl_WideOk.calls (a0_0 : Int) (a0_1 : Int) (r : Bool) (w : World) (h : impl_WideOk.f a0_0 a0_1 = some r) :
 Calls Try.prog 113 #[.agg #[.int .i64 a0_0, .int .i64 a0_1]] w fun e w' => e = .returned (.bool r) ∧ Below w.heap.size w w' := by
 have hu48 := Try.underlying48;have HB := Aside0.mk (Below.refl w.heap.size w)
 have H : ((impl_HalfOk.f a0_0).bind fun t311 => (if t311 = true then ((impl_HalfOk.f a0_1).bind fun t312 => (some t312)) else (some false))) = some r := h
 clear h;replace H := bE H;obtain ⟨t311, A2, H⟩ := H;by_cases c3 : t311 = true
 ·subst c3;replace H := iT H;replace H := bE H;obtain ⟨t312, A4, H⟩ := H;obtain rfl := Option.some.inj H;go_enter Try.func113, Try.ntmps113
  go_wp2_with (first|((with_reducible refine gN 1 ?_);refine boxZ 1 #[.int .i64 a0_0, .int .i64 a0_1] 48 ?_;intro gb310 hg w5 hbox hb;have BK310 := Aside0.mk (hbox);have GW310 := gS hg;have GE310 := gS hg;replace HB := sB hb;clear hb hbox hg;obtain ⟨hcz6_0, hcz6_1, hfz6_0, hfz6_1⟩ := cz2 BK310)|((with_reducible refine gF 90 ?_);refine goZ (some 5) Try.func90 #[.int .i64 a0_0] ?_;(with_reducible refine (impl_HalfOk.calls a0_0 true _ A2.out).mono ?_);rintro e w' ⟨rfl, ⟨nd, rfl⟩⟩;refine ⟨_, rfl, ?_⟩)|(go_at_call 90;(with_reducible refine (impl_HalfOk.calls a0_1 t312 _ A4.out).mono ?_);rintro e w' ⟨rfl, ⟨nd, rfl⟩⟩))
  go_ret;exact ⟨rE, cB⟩
 ·replace c3 := Bool.eq_false_iff.mpr c3;subst c3;replace H := iF H;obtain rfl := Option.some.inj H;go_enter Try.func113, Try.ntmps113
  go_wp2_with (first|((with_reducible refine gN 1 ?_);refine boxZ 1 #[.int .i64 a0_0, .int .i64 a0_1] 48 ?_;intro gb310 hg w7 hbox hb;have BK310 := Aside0.mk (hbox);have GW310 := gS hg;have GE310 := gS hg;replace HB := sB hb;clear hb hbox hg;obtain ⟨hcz8_0, hcz8_1, hfz8_0, hfz8_1⟩ := cz2 BK310)|((with_reducible refine gF 90 ?_);refine goZ (some 5) Try.func90 #[.int .i64 a0_0] ?_;(with_reducible refine (impl_HalfOk.calls a0_0 false _ A2.out).mono ?_);rintro e w' ⟨rfl, ⟨nd, rfl⟩⟩;refine ⟨_, rfl, ?_⟩))
  go_ret;exact ⟨rE, cB⟩
def impl_CondOk.f (a0_0 : Int) (a0_1 : Int) (a0_2 : Int) (a0_3 : Int) (a0_4 : Int) (a0_5 : Int) : Option (Bool) := (impl_within.f a0_0 0 2).bind fun t314 => (if t314 = true then ((impl_WideOk.f a0_1 a0_2).bind fun t315 => (if t315 = true then ((impl_WideOk.f a0_4 a0_5).bind fun t316 => (if t316 = true then ((impl_within.f a0_3 1 6).bind fun t317 => (some t317)) else (some false))) else (some false))) else (some false))
set_option maxHeartbeats 8000000 in
set_option maxRecDepth 100000 in
theorem impl_CondOk.calls (a0_0 : Int) (a0_1 : Int) (a0_2 : Int) (a0_3 : Int) (a0_4 : Int) (a0_5 : Int) (r : Bool) (w : World) (h : impl_CondOk.f a0_0 a0_1 a0_2 a0_3 a0_4 a0_5 = some r) :
 Calls Try.prog 40 #[.agg #[.int .i64 a0_0, .int .i64 a0_1, .int .i64 a0_2, .int .i64 a0_3, .int .i64 a0_4, .int .i64 a0_5]] w fun e w' => e = .returned (.bool r) ∧ Below w.heap.size w w' := by
 have hu50 := Try.underlying50;have hu48 := Try.underlying48;have HB := Aside0.mk (Below.refl w.heap.size w)
 have H : ((impl_within.f a0_0 0 2).bind fun t314 => (if t314 = true then ((impl_WideOk.f a0_1 a0_2).bind fun t315 => (if t315 = true then ((impl_WideOk.f a0_4 a0_5).bind fun t316 => (if t316 = true then ((impl_within.f a0_3 1 6).bind fun t317 => (some t317)) else (some false))) else (some false))) else (some false))) = some r := h
 clear h;replace H := bE H;obtain ⟨t314, A2, H⟩ := H;by_cases c3 : t314 = true
 ·subst c3;replace H := iT H;replace H := bE H;obtain ⟨t315, A4, H⟩ := H;by_cases c5 : t315 = true
  ·subst c5;replace H := iT H;replace H := bE H;obtain ⟨t316, A6, H⟩ := H;by_cases c7 : t316 = true
   ·subst c7;replace H := iT H;replace H := bE H;obtain ⟨t317, A8, H⟩ := H;obtain rfl := Option.some.inj H;go_enter Try.func40, Try.ntmps40
    go_wp2_with (first|((with_reducible refine gN 1 ?_);refine boxZ 1 #[.int .i64 a0_0, .int .i64 a0_1, .int .i64 a0_2, .int .i64 a0_3, .int .i64 a0_4, .int .i64 a0_5] 50 ?_;intro gb313 hg w9 hbox hb;have BK313 := Aside0.mk (hbox);have GW313 := gS hg;have GE313 := gS hg;replace HB := sB hb;clear hb hbox hg;obtain ⟨hcz10_0, hcz10_1, hcz10_2, hcz10_3, hcz10_4, hcz10_5, hfz10_0, hfz10_1, hfz10_2, hfz10_3, hfz10_4, hfz10_5⟩ := cz6 BK313)|((with_reducible refine gF 92 ?_);refine goZ (some 5) Try.func92 #[.int .i64 a0_0, .int .i64 0, .int .i64 2] ?_;(with_reducible refine (impl_within.calls a0_0 0 2 true _ A2.out).mono ?_);rintro e w' ⟨rfl, ⟨nd, rfl⟩⟩;refine ⟨_, rfl, ?_⟩)|(go_at_call 113;(with_reducible refine (impl_WideOk.calls a0_1 a0_2 true _ A4.out).mono ?_);rintro e w11 ⟨rfl, hb⟩;replace BK313 := kB BK313 hb;replace HB := sB hb;(try clear hb);obtain ⟨hcz12_0, hcz12_1, hcz12_2, hcz12_3, hcz12_4, hcz12_5, hfz12_0, hfz12_1, hfz12_2, hfz12_3, hfz12_4, hfz12_5⟩ := cz6 BK313)|(go_at_call 113;(with_reducible refine (impl_WideOk.calls a0_4 a0_5 true _ A6.out).mono ?_);rintro e w13 ⟨rfl, hb⟩;replace BK313 := kB BK313 hb;replace HB := sB hb;(try clear hb);obtain ⟨hcz14_0, hcz14_1, hcz14_2, hcz14_3, hcz14_4, hcz14_5, hfz14_0, hfz14_1, hfz14_2, hfz14_3, hfz14_4, hfz14_5⟩ := cz6 BK313)|(go_at_call 92;(with_reducible refine (impl_within.calls a0_3 1 6 t317 _ A8.out).mono ?_);rintro e w' ⟨rfl, ⟨nd, rfl⟩⟩))
    go_ret;exact ⟨rE, cB⟩
   ·replace c7 := Bool.eq_false_iff.mpr c7;subst c7;replace H := iF H;obtain rfl := Option.some.inj H;go_enter Try.func40, Try.ntmps40
    go_wp2_with (first|((with_reducible refine gN 1 ?_);refine boxZ 1 #[.int .i64 a0_0, .int .i64 a0_1, .int .i64 a0_2, .int .i64 a0_3, .int .i64 a0_4, .int .i64 a0_5] 50 ?_;intro gb313 hg w15 hbox hb;have BK313 := Aside0.mk (hbox);have GW313 := gS hg;have GE313 := gS hg;replace HB := sB hb;clear hb hbox hg;obtain ⟨hcz16_0, hcz16_1, hcz16_2, hcz16_3, hcz16_4, hcz16_5, hfz16_0, hfz16_1, hfz16_2, hfz16_3, hfz16_4, hfz16_5⟩ := cz6 BK313)|((with_reducible refine gF 92 ?_);refine goZ (some 5) Try.func92 #[.int .i64 a0_0, .int .i64 0, .int .i64 2] ?_;(with_reducible refine (impl_within.calls a0_0 0 2 true _ A2.out).mono ?_);rintro e w' ⟨rfl, ⟨nd, rfl⟩⟩;refine ⟨_, rfl, ?_⟩)|(go_at_call 113;(with_reducible refine (impl_WideOk.calls a0_1 a0_2 true _ A4.out).mono ?_);rintro e w17 ⟨rfl, hb⟩;replace BK313 := kB BK313 hb;replace HB := sB hb;(try clear hb);obtain ⟨hcz18_0, hcz18_1, hcz18_2, hcz18_3, hcz18_4, hcz18_5, hfz18_0, hfz18_1, hfz18_2, hfz18_3, hfz18_4, hfz18_5⟩ := cz6 BK313)|(go_at_call 113;(with_reducible refine (impl_WideOk.calls a0_4 a0_5 false _ A6.out).mono ?_);rintro e w19 ⟨rfl, hb⟩;replace BK313 := kB BK313 hb;replace HB := sB hb;(try clear hb)))
    go_ret;exact ⟨rE, cB⟩
  ·replace c5 := Bool.eq_false_iff.mpr c5;subst c5;replace H := iF H;obtain rfl := Option.some.inj H;go_enter Try.func40, Try.ntmps40
   go_wp2_with (first|((with_reducible refine gN 1 ?_);refine boxZ 1 #[.int .i64 a0_0, .int .i64 a0_1, .int .i64 a0_2, .int .i64 a0_3, .int .i64 a0_4, .int .i64 a0_5] 50 ?_;intro gb313 hg w20 hbox hb;have BK313 := Aside0.mk (hbox);have GW313 := gS hg;have GE313 := gS hg;replace HB := sB hb;clear hb hbox hg;obtain ⟨hcz21_0, hcz21_1, hcz21_2, hcz21_3, hcz21_4, hcz21_5, hfz21_0, hfz21_1, hfz21_2, hfz21_3, hfz21_4, hfz21_5⟩ := cz6 BK313)|((with_reducible refine gF 92 ?_);refine goZ (some 5) Try.func92 #[.int .i64 a0_0, .int .i64 0, .int .i64 2] ?_;(with_reducible refine (impl_within.calls a0_0 0 2 true _ A2.out).mono ?_);rintro e w' ⟨rfl, ⟨nd, rfl⟩⟩;refine ⟨_, rfl, ?_⟩)|(go_at_call 113;(with_reducible refine (impl_WideOk.calls a0_1 a0_2 false _ A4.out).mono ?_);rintro e w22 ⟨rfl, hb⟩;replace BK313 := kB BK313 hb;replace HB := sB hb;(try clear hb)))
   go_ret;exact ⟨rE, cB⟩
 ·replace c3 := Bool.eq_false_iff.mpr c3;subst c3;replace H := iF H;obtain rfl := Option.some.inj H;go_enter Try.func40, Try.ntmps40
  go_wp2_with (first|((with_reducible refine gN 1 ?_);refine boxZ 1 #[.int .i64 a0_0, .int .i64 a0_1, .int .i64 a0_2, .int .i64 a0_3, .int .i64 a0_4, .int .i64 a0_5] 50 ?_;intro gb313 hg w23 hbox hb;have BK313 := Aside0.mk (hbox);have GW313 := gS hg;have GE313 := gS hg;replace HB := sB hb;clear hb hbox hg;obtain ⟨hcz24_0, hcz24_1, hcz24_2, hcz24_3, hcz24_4, hcz24_5, hfz24_0, hfz24_1, hfz24_2, hfz24_3, hfz24_4, hfz24_5⟩ := cz6 BK313)|((with_reducible refine gF 92 ?_);refine goZ (some 5) Try.func92 #[.int .i64 a0_0, .int .i64 0, .int .i64 2] ?_;(with_reducible refine (impl_within.calls a0_0 0 2 false _ A2.out).mono ?_);rintro e w' ⟨rfl, ⟨nd, rfl⟩⟩;refine ⟨_, rfl, ?_⟩))
  go_ret;exact ⟨rE, cB⟩
def impl_place.f (a0 : ByteArray) : Option (ByteArray × Int × Int × Int × Int × ByteArray × ByteArray) := some (a0, 0, 0, 0, 0, (⟨#[]⟩ : ByteArray), (⟨#[]⟩ : ByteArray))
set_option maxHeartbeats 8000000 in
set_option maxRecDepth 100000 in
theorem impl_place.calls (a0 : ByteArray) (r1 : ByteArray) (r2 : Int) (r3 : Int) (r4 : Int) (r5 : Int) (r6 : ByteArray) (r7 : ByteArray) (w : World) (h : impl_place.f a0 = some (r1, r2, r3, r4, r5, r6, r7)) :
 Calls Try.prog 115 #[.string a0] w fun e w' => e = .returned (.agg #[.string r1, .int .i64 r2, .int .i64 r3, .int .i64 r4, .int .i64 r5, .string r6, .string r7]) ∧ Below w.heap.size w w' := by
 have hu95 := Try.underlying95;have HB := Aside0.mk (Below.refl w.heap.size w);have H : (some (a0, 0, 0, 0, 0, (⟨#[]⟩ : ByteArray), (⟨#[]⟩ : ByteArray))) = some (r1, r2, r3, r4, r5, r6, r7) := h;clear h;simp only [Option.some.injEq, Prod.mk.injEq] at H;obtain ⟨rfl, rfl, rfl, rfl, rfl, rfl, rfl⟩ := H;go_enter Try.func115, Try.ntmps115
 go_wp2_with (first|((with_reducible refine gN 2 ?_);refine boxZ 2 #[.string (⟨#[]⟩ : ByteArray), .int .i64 0, .int .i64 0, .int .i64 0, .int .i64 0, .string (⟨#[]⟩ : ByteArray), .string (⟨#[]⟩ : ByteArray)] 95 ?_;intro gb318 hg w2 hbox hb;have BK318 := Aside0.mk (hbox);have GW318 := gS hg;have GE318 := gS hg;replace HB := sB hb;clear hb hbox hg;obtain ⟨hcz3_0, hcz3_1, hcz3_2, hcz3_3, hcz3_4, hcz3_5, hcz3_6, hfz3_0, hfz3_1, hfz3_2, hfz3_3, hfz3_4, hfz3_5, hfz3_6⟩ := cz7 BK318))
 refine bodyPost_ret (results_cell_row rfl _ _ gb318 95 #[.string a0, .int .i64 0, .int .i64 0, .int .i64 0, .int .i64 0, .string (⟨#[]⟩ : ByteArray), .string (⟨#[]⟩ : ByteArray)] (0, 0) _ rfl (kS BK318 _) Try.underlying95 rfl (by kernel_rfl)) rfl ?_
 exact ⟨rE, cB⟩
def impl_word.f (a0 : Int) (a1 : Int) : Option (ByteArray × Int × Int × Int × Int × ByteArray × ByteArray) := some ((⟨#[]⟩ : ByteArray), a0, a1, 0, 0, (⟨#[]⟩ : ByteArray), (⟨#[]⟩ : ByteArray))
set_option maxHeartbeats 8000000 in
set_option maxRecDepth 100000 in
theorem impl_word.calls (a0 : Int) (a1 : Int) (r1 : ByteArray) (r2 : Int) (r3 : Int) (r4 : Int) (r5 : Int) (r6 : ByteArray) (r7 : ByteArray) (w : World) (h : impl_word.f a0 a1 = some (r1, r2, r3, r4, r5, r6, r7)) :
 Calls Try.prog 116 #[.int .i64 a0, .int .i64 a1] w fun e w' => e = .returned (.agg #[.string r1, .int .i64 r2, .int .i64 r3, .int .i64 r4, .int .i64 r5, .string r6, .string r7]) ∧ Below w.heap.size w w' := by
 have hu95 := Try.underlying95;have hu93 := Try.underlying93;have HB := Aside0.mk (Below.refl w.heap.size w);have H : (some ((⟨#[]⟩ : ByteArray), a0, a1, 0, 0, (⟨#[]⟩ : ByteArray), (⟨#[]⟩ : ByteArray))) = some (r1, r2, r3, r4, r5, r6, r7) := h;clear h;simp only [Option.some.injEq, Prod.mk.injEq] at H;obtain ⟨rfl, rfl, rfl, rfl, rfl, rfl, rfl⟩ := H;go_enter Try.func116, Try.ntmps116
 go_wp2_with (first|((with_reducible refine gN 4 ?_);refine boxZ 4 #[.string (⟨#[]⟩ : ByteArray), .int .i64 0, .int .i64 0, .int .i64 0, .int .i64 0, .string (⟨#[]⟩ : ByteArray), .string (⟨#[]⟩ : ByteArray)] 95 ?_;intro gb319 hg w3 hbox hb;have BK319 := Aside0.mk (hbox);have GW319 := gS hg;have GE319 := gS hg;replace HB := sB hb;clear hb hbox hg;obtain ⟨hcz4_0, hcz4_1, hcz4_2, hcz4_3, hcz4_4, hcz4_5, hcz4_6, hfz4_0, hfz4_1, hfz4_2, hfz4_3, hfz4_4, hfz4_5, hfz4_6⟩ := cz7 BK319))
 refine bodyPost_ret (results_cell_row rfl _ _ gb319 95 #[.string (⟨#[]⟩ : ByteArray), .int .i64 a0, .int .i64 a1, .int .i64 0, .int .i64 0, .string (⟨#[]⟩ : ByteArray), .string (⟨#[]⟩ : ByteArray)] (0, 0) _ rfl (kS BK319 _) Try.underlying95 rfl (by kernel_rfl)) rfl ?_
 exact ⟨rE, cB⟩
def impl_ask.f (a0 : Int) (a1 : Int) (a2 : ByteArray) (a3 : ByteArray) : Option (ByteArray × Int × Int × Int × Int × ByteArray × ByteArray) := some ((⟨#[]⟩ : ByteArray), a0, a1, 0, 0, a2, a3)
set_option maxHeartbeats 8000000 in
set_option maxRecDepth 100000 in
theorem impl_ask.calls (a0 : Int) (a1 : Int) (a2 : ByteArray) (a3 : ByteArray) (r1 : ByteArray) (r2 : Int) (r3 : Int) (r4 : Int) (r5 : Int) (r6 : ByteArray) (r7 : ByteArray) (w : World) (h : impl_ask.f a0 a1 a2 a3 = some (r1, r2, r3, r4, r5, r6, r7)) :
 Calls Try.prog 117 #[.int .i64 a0, .int .i64 a1, .string a2, .string a3] w fun e w' => e = .returned (.agg #[.string r1, .int .i64 r2, .int .i64 r3, .int .i64 r4, .int .i64 r5, .string r6, .string r7]) ∧ Below w.heap.size w w' := by
 have hu95 := Try.underlying95;have hu93 := Try.underlying93;have HB := Aside0.mk (Below.refl w.heap.size w);have H : (some ((⟨#[]⟩ : ByteArray), a0, a1, 0, 0, a2, a3)) = some (r1, r2, r3, r4, r5, r6, r7) := h;clear h;simp only [Option.some.injEq, Prod.mk.injEq] at H;obtain ⟨rfl, rfl, rfl, rfl, rfl, rfl, rfl⟩ := H;go_enter Try.func117, Try.ntmps117
 go_wp2_with (first|((with_reducible refine gN 8 ?_);refine boxZ 8 #[.string (⟨#[]⟩ : ByteArray), .int .i64 0, .int .i64 0, .int .i64 0, .int .i64 0, .string (⟨#[]⟩ : ByteArray), .string (⟨#[]⟩ : ByteArray)] 95 ?_;intro gb320 hg w5 hbox hb;have BK320 := Aside0.mk (hbox);have GW320 := gS hg;have GE320 := gS hg;replace HB := sB hb;clear hb hbox hg;obtain ⟨hcz6_0, hcz6_1, hcz6_2, hcz6_3, hcz6_4, hcz6_5, hcz6_6, hfz6_0, hfz6_1, hfz6_2, hfz6_3, hfz6_4, hfz6_5, hfz6_6⟩ := cz7 BK320))
 refine bodyPost_ret (results_cell_row rfl _ _ gb320 95 #[.string (⟨#[]⟩ : ByteArray), .int .i64 a0, .int .i64 a1, .int .i64 0, .int .i64 0, .string a2, .string a3] (0, 0) _ rfl (kS BK320 _) Try.underlying95 rfl (by kernel_rfl)) rfl ?_
 exact ⟨rE, cB⟩
end Go.Proofs.Ytlgndgjbfjefpaa.PFnCondLines
