import Derived.Test.YtcmcpmkihpdnjaaPFnExactPolicyLinesy0
import Derived.Test.YtcmcpmkihpdnjaaPFnExactPolicyLinesy7
import Derived.Test.YtcmcpmkihpdnjaaPFnExactPolicyLinesy11
import Derived.Test.YtcmcpmkihpdnjaaPFnExactPolicyLinesy12
namespace Go.Proofs.Ytcmcpmkihpdnjaa.PFnExactPolicyLines
open Go.RowKit Go.Proofs.YtcmcpmkihpdnjaaW.PrintWords Go.Proofs.YtcmcpmkihpdnjaaW.PrintLast Go.Proofs.YtcmcpmkihpdnjaaW.PrintMore Go.Proofs.YtcmcpmkihpdnjaaW.Z
attribute [local go_sem] isS max2_int min2_int max_two min_two max_three min_three max_four min_four
set_option linter.unusedVariables false
set_option linter.unusedSimpArgs false
theorem qh13x0 {P : Prop} (h : P := by exact ⟨(blk_cell BK535.out 0).trans rfl, (blk_cell BK535.out 1).trans rfl, (blk_cell BK535.out 2).trans rfl, (blk_cell BK535.out 3).trans rfl⟩) : P := h
def spec_PolicyLines.f (k : Nat) (a0_0 : Int) (a0_1 : Int) (a0_2 : Int) (l0_3 : List (S91)) : Option ((List (S110))) := (spec_l11Word.f 1 1).bind fun bt536 => ((spec_l11Asks.f 3 a0_0 (⟨#[112]⟩ : ByteArray) (⟨#[113]⟩ : ByteArray)).bind fun bt543 => ((spec_l11Word.f 8 0).bind fun bt550 => ((spec_l11Word.f 1 0).bind fun bt557 => ((some (([(⟨bt536.1, (⟨bt536.2.1, bt536.2.2.1, bt536.2.2.2.1, bt536.2.2.2.2.1⟩ : S75), bt536.2.2.2.2.2.1, bt536.2.2.2.2.2.2⟩ : S110), (⟨bt543.1, (⟨bt543.2.1, bt543.2.2.1, bt543.2.2.2.1, bt543.2.2.2.2.1⟩ : S75), bt543.2.2.2.2.2.1, bt543.2.2.2.2.2.2⟩ : S110), (⟨(⟨#[113]⟩ : ByteArray), (⟨0, 0, 0, 0⟩ : S75), (⟨#[]⟩ : ByteArray), (⟨#[]⟩ : ByteArray)⟩ : S110), (⟨bt550.1, (⟨bt550.2.1, bt550.2.2.1, bt550.2.2.2.1, bt550.2.2.2.2.1⟩ : S75), bt550.2.2.2.2.2.1, bt550.2.2.2.2.2.2⟩ : S110), (⟨(⟨#[112]⟩ : ByteArray), (⟨0, 0, 0, 0⟩ : S75), (⟨#[]⟩ : ByteArray), (⟨#[]⟩ : ByteArray)⟩ : S110), (⟨bt557.1, (⟨bt557.2.1, bt557.2.2.1, bt557.2.2.2.1, bt557.2.2.2.2.1⟩ : S75), bt557.2.2.2.2.2.1, bt557.2.2.2.2.2.2⟩ : S110)] : List (S110)) : List (S110))).bind fun y564 => ((spec_NumsOf.f k a0_0 a0_1 a0_2 l0_3).bind fun t567 => ((spec_TreeLines.f k a0_0 a0_1 a0_2 l0_3 t567 (⟨#[116]⟩ : ByteArray)).bind fun t570 => (if y564.length + t570.length < 1759218604441 then (some (y564 ++ t570)) else (none))))))))
def spec_PolicyLines.T1 : Bool × List (List Nat × List Nat) := (true, [([], []), ([], []), ([1], [1]), ([2, 0], [2]), ([], []), ([3], []), ([], []), ([5], []), ([0, 3, 4, 5, 6, 7], [0, 3, 4, 5, 6, 7]), ([8, 7, 0, 1, 2, 3, 4, 5, 6, 7, 8], [8])])
def spec_PolicyLines.B1 : List Nat := [0, 0, 2, 7, 0, 15, 0, 47, 255, 511]
theorem spec_PolicyLines.tab1 : rtab .any (opsOf Try.f49 1) = spec_PolicyLines.T1 := by kernel_rfl
theorem spec_PolicyLines.bits1 : waitsOk spec_PolicyLines.T1.2 spec_PolicyLines.B1 = true := by kernel_rfl
theorem q13x0 {P : Prop} (h : P := by 
 rintro w' ⟨s0, s1, s2, s3⟩
 go_simp
 with_reducible rfl) : P := h
set_option maxHeartbeats 8000000 in
set_option maxRecDepth 100000 in
theorem spec_PolicyLines.calls (k : Nat) (a0_0 : Int) (a0_1 : Int) (a0_2 : Int) (A0_3 : Option Addr) (c0_3 : Nat) (l0_3 : List (S91)) (r : List (S110)) (w : World) (hr0_3 : Kd.C k91 w A0_3 l0_3.length l0_3) (hc0_3 : l0_3.length ≤ c0_3) (h : spec_PolicyLines.f k a0_0 a0_1 a0_2 l0_3 = some r) :
 Calls Try.prog 49 #[.agg #[.int .i64 a0_0, .int .i64 a0_1, .int .i64 a0_2, .slice A0_3 l0_3.length c0_3]] w fun e w' => ∃ v0_ : Value, e = .returned (v0_) ∧ Kd.R k110 110 w' w.heap.size (fun _ => True) v0_ r ∧ Below w.heap.size w w' := by
 have hu50 := Try.underlying50;have hu110 := Try.underlying110;have HR0_3 := Aside0.mk hr0_3;have HC0_3 := Aside0.mk hc0_3;clear hr0_3 hc0_3;have HB := Aside0.mk (Below.refl w.heap.size w)
 have H : ((spec_l11Word.f 1 1).bind fun bt536 => ((spec_l11Asks.f 3 a0_0 (⟨#[112]⟩ : ByteArray) (⟨#[113]⟩ : ByteArray)).bind fun bt543 => ((spec_l11Word.f 8 0).bind fun bt550 => ((spec_l11Word.f 1 0).bind fun bt557 => ((some (([(⟨bt536.1, (⟨bt536.2.1, bt536.2.2.1, bt536.2.2.2.1, bt536.2.2.2.2.1⟩ : S75), bt536.2.2.2.2.2.1, bt536.2.2.2.2.2.2⟩ : S110), (⟨bt543.1, (⟨bt543.2.1, bt543.2.2.1, bt543.2.2.2.1, bt543.2.2.2.2.1⟩ : S75), bt543.2.2.2.2.2.1, bt543.2.2.2.2.2.2⟩ : S110), (⟨(⟨#[113]⟩ : ByteArray), (⟨0, 0, 0, 0⟩ : S75), (⟨#[]⟩ : ByteArray), (⟨#[]⟩ : ByteArray)⟩ : S110), (⟨bt550.1, (⟨bt550.2.1, bt550.2.2.1, bt550.2.2.2.1, bt550.2.2.2.2.1⟩ : S75), bt550.2.2.2.2.2.1, bt550.2.2.2.2.2.2⟩ : S110), (⟨(⟨#[112]⟩ : ByteArray), (⟨0, 0, 0, 0⟩ : S75), (⟨#[]⟩ : ByteArray), (⟨#[]⟩ : ByteArray)⟩ : S110), (⟨bt557.1, (⟨bt557.2.1, bt557.2.2.1, bt557.2.2.2.1, bt557.2.2.2.2.1⟩ : S75), bt557.2.2.2.2.2.1, bt557.2.2.2.2.2.2⟩ : S110)] : List (S110)) : List (S110))).bind fun y564 => ((spec_NumsOf.f k a0_0 a0_1 a0_2 l0_3).bind fun t567 => ((spec_TreeLines.f k a0_0 a0_1 a0_2 l0_3 t567 (⟨#[116]⟩ : ByteArray)).bind fun t570 => (if y564.length + t570.length < 1759218604441 then (some (y564 ++ t570)) else (none))))))))) = some r := h
 clear h;replace H := bE H;obtain ⟨⟨t536, t537, t538, t539, t540, t541, t542⟩, A2, H⟩ := H;(try dsimp only at H);replace H := bE H;obtain ⟨⟨t543, t544, t545, t546, t547, t548, t549⟩, A3, H⟩ := H;(try dsimp only at H);replace H := bE H;obtain ⟨⟨t550, t551, t552, t553, t554, t555, t556⟩, A4, H⟩ := H;(try dsimp only at H);replace H := bE H;obtain ⟨⟨t557, t558, t559, t560, t561, t562, t563⟩, A5, H⟩ := H;(try dsimp only at H);replace H := nE H;obtain ⟨y564, Ny564, H⟩ := H;replace H := bE H;obtain ⟨t567, A6, H⟩ := H;replace H := bE H;obtain ⟨t570, A7, H⟩ := H;replace H := gC H;obtain ⟨c8, H⟩ := H;have LMc8 := Aside0.mk c8;clear c8;obtain ⟨y573, Ny573⟩ : ∃ y_ : List (S110), Aside0 (y_ = (y564 ++ t570)) := ⟨_, ⟨rfl⟩⟩;rw [← Ny573.out] at H;obtain rfl := Option.some.inj H;go_enter Try.func49, Try.ntmps49
 try go_wp2_with (first|((with_reducible refine gN 1 ?_);refine boxZ 1 #[.int .i64 a0_0, .int .i64 a0_1, .int .i64 a0_2, .slice A0_3 l0_3.length c0_3] 50 ?_;intro gb535 hg w9 hbox hb;have BK535 := Aside0.mk (hbox);have GW535 := gS hg;have GE535 := gS hg;replace HB := sB hb;clear hb hbox hg))
 replace BK535 := Aside0.mk (blk_drew BK535.out);replace HB := Aside0.mk (below_drew1 HB.out)
 refine start_ (n := 10) (S := fun w' => w'.cell? ⟨gb535, 0, none⟩ = some (.int .i64 a0_0) ∧ w'.cell? ⟨gb535, 1, none⟩ = some (.int .i64 a0_1) ∧ w'.cell? ⟨gb535, 2, none⟩ = some (.int .i64 a0_2) ∧ w'.cell? ⟨gb535, 3, none⟩ = some (.slice A0_3 l0_3.length c0_3)) (ds := []) #[false, false, false, false, false, false, false, false, false, false] (by kernel_rfl) rfl rfl ⟨(blk_cell BK535.out 0).trans rfl, (blk_cell BK535.out 1).trans rfl, (blk_cell BK535.out 2).trans rfl, (blk_cell BK535.out 3).trans rfl⟩ (fun hHeld => ?_); refine with_tabW spec_PolicyLines.tab1 spec_PolicyLines.bits1 (fun HT_ HW_ => ?_)
 generalize w9.drew = w10 at BK535 HB hHeld ⊢;refine pureZ 1 (some 5) (msk 10 2) HT_.out ?_;refine pureZ 4 (some 8) (msk 10 18) HT_.out ?_;refine pureZ 6 (some 10) (msk 10 82) HT_.out ?_;refine takeZ 2 (some 6) (msk 10 86) HT_.out HW_.out hHeld (hy := q13x0) (h := ?_)
 refine one_Z 0 (some 4) (msk 10 87) HT_.out fun K hK => ?_
 refine goes_ Try.func87 (by kernel_rfl) rfl #[.int .i64 1, .int .i64 1] (by rfl) rfl rfl (by (try simp only [List.map_toArray, List.map_cons, List.map_nil]); first | done | rfl | (simp only [List.length_drop, List.length_take]; rfl)) ?_
 with_reducible refine (spec_l11Word.calls 1 1 t536 t537 t538 t539 t540 t541 t542 _ A2.out).mono ?_;rintro e w11 ⟨rfl, hb⟩;refine ⟨_, rfl, ?_⟩;replace BK535 := kB BK535 hb;replace HB := sB hb;(try clear hb)
 refine hK.out _ _ qh13x0 (fun hHeld => ?_)
 clear hK K;refine normZ (some 4) ?_
 refine one_Z 3 (some 7) (msk 10 95) HT_.out fun K hK => ?_
 refine goes_ Try.func96 (by kernel_rfl) rfl #[.int .i64 3, .int .i64 a0_0, .string (⟨#[112]⟩ : ByteArray), .string (⟨#[113]⟩ : ByteArray)] (by rfl) rfl rfl (by (try simp only [List.map_toArray, List.map_cons, List.map_nil]); first | done | rfl | (simp only [List.length_drop, List.length_take]; rfl)) ?_
 with_reducible refine (spec_l11Asks.calls 3 a0_0 (⟨#[112]⟩ : ByteArray) (⟨#[113]⟩ : ByteArray) t543 t544 t545 t546 t547 t548 t549 _ A3.out).mono ?_;rintro e w12 ⟨rfl, hb⟩;refine ⟨_, rfl, ?_⟩;replace BK535 := kB BK535 hb;replace HB := sB hb;(try clear hb)
 refine hK.out _ _ qh13x0 (fun hHeld => ?_)
 clear hK K;refine normZ (some 7) ?_
 refine one_Z 5 (some 9) (msk 10 127) HT_.out fun K hK => ?_
 refine goes_ Try.func87 (by kernel_rfl) rfl #[.int .i64 8, .int .i64 0] (by rfl) rfl rfl (by (try simp only [List.map_toArray, List.map_cons, List.map_nil]); first | done | rfl | (simp only [List.length_drop, List.length_take]; rfl)) ?_
 with_reducible refine (spec_l11Word.calls 8 0 t550 t551 t552 t553 t554 t555 t556 _ A4.out).mono ?_;rintro e w13 ⟨rfl, hb⟩;refine ⟨_, rfl, ?_⟩;replace BK535 := kB BK535 hb;replace HB := sB hb;(try clear hb)
 refine hK.out _ _ qh13x0 (fun hHeld => ?_)
 clear hK K;refine normZ (some 9) ?_
 refine one_Z 7 (some 11) (msk 10 255) HT_.out fun K hK => ?_
 refine goes_ Try.func87 (by kernel_rfl) rfl #[.int .i64 1, .int .i64 0] (by rfl) rfl rfl (by (try simp only [List.map_toArray, List.map_cons, List.map_nil]); first | done | rfl | (simp only [List.length_drop, List.length_take]; rfl)) ?_
 with_reducible refine (spec_l11Word.calls 1 0 t557 t558 t559 t560 t561 t562 t563 _ A5.out).mono ?_;rintro e w14 ⟨rfl, hb⟩;refine ⟨_, rfl, ?_⟩;replace BK535 := kB BK535 hb;replace HB := sB hb;(try clear hb)
 refine hK.out _ _ qh13x0 (fun hHeld => ?_)
 clear hK K;refine normZ (some 11) ?_
 refine one_Z 8 (some 12) (msk 10 511) HT_.out fun K hK => ?_
 refine Kd.R_lit_step k110 _ 110 ?hg (N := 12) ?hd (xs := ([(⟨t536, (⟨t537, t538, t539, t540⟩ : S75), t541, t542⟩ : S110), (⟨t543, (⟨t544, t545, t546, t547⟩ : S75), t548, t549⟩ : S110), (⟨(⟨#[113]⟩ : ByteArray), (⟨0, 0, 0, 0⟩ : S75), (⟨#[]⟩ : ByteArray), (⟨#[]⟩ : ByteArray)⟩ : S110), (⟨t550, (⟨t551, t552, t553, t554⟩ : S75), t555, t556⟩ : S110), (⟨(⟨#[112]⟩ : ByteArray), (⟨0, 0, 0, 0⟩ : S75), (⟨#[]⟩ : ByteArray), (⟨#[]⟩ : ByteArray)⟩ : S110), (⟨t557, (⟨t558, t559, t560, t561⟩ : S75), t562, t563⟩ : S110)] : List (S110))) (inner := [.string t536, .int .i64 t537, .int .i64 t538, .int .i64 t539, .int .i64 t540, .string t541, .string t542, .string t543, .int .i64 t544, .int .i64 t545, .int .i64 t546, .int .i64 t547, .string t548, .string t549, .string (⟨#[113]⟩ : ByteArray), .int .i64 0, .int .i64 0, .int .i64 0, .int .i64 0, .string (⟨#[]⟩ : ByteArray), .string (⟨#[]⟩ : ByteArray), .string t550, .int .i64 t551, .int .i64 t552, .int .i64 t553, .int .i64 t554, .string t555, .string t556, .string (⟨#[112]⟩ : ByteArray), .int .i64 0, .int .i64 0, .int .i64 0, .int .i64 0, .string (⟨#[]⟩ : ByteArray), .string (⟨#[]⟩ : ByteArray), .string t557, .int .i64 t558, .int .i64 t559, .int .i64 t560, .int .i64 t561, .string t562, .string t563]) (ok := fun _ => True) (okp := fun _ => True) ?hr ?hp (fun _ hk => hk) trivial (Below.refl _ _) (Nat.le_refl _) (by simp) ?_; (case hd => rfl); (case hg => rfl); (case hr => first | (go_simp; done) | (go_simp; rfl)); (case hp => exact (Reps.c7 (show Kd.M k110 _ _ _ (⟨t536, (⟨t537, t538, t539, t540⟩ : S75), t541, t542⟩ : S110) [.string t536, .int .i64 t537, .int .i64 t538, .int .i64 t539, .int .i64 t540, .string t541, .string t542] from (k110_mkM _ _ _ (⟨t536, (⟨t537, t538, t539, t540⟩ : S75), t541, t542⟩ : S110) )) (Reps.c7 (show Kd.M k110 _ _ _ (⟨t543, (⟨t544, t545, t546, t547⟩ : S75), t548, t549⟩ : S110) [.string t543, .int .i64 t544, .int .i64 t545, .int .i64 t546, .int .i64 t547, .string t548, .string t549] from (k110_mkM _ _ _ (⟨t543, (⟨t544, t545, t546, t547⟩ : S75), t548, t549⟩ : S110) )) (Reps.c7 (show Kd.M k110 _ _ _ (⟨(⟨#[113]⟩ : ByteArray), (⟨0, 0, 0, 0⟩ : S75), (⟨#[]⟩ : ByteArray), (⟨#[]⟩ : ByteArray)⟩ : S110) [.string (⟨#[113]⟩ : ByteArray), .int .i64 0, .int .i64 0, .int .i64 0, .int .i64 0, .string (⟨#[]⟩ : ByteArray), .string (⟨#[]⟩ : ByteArray)] from (k110_mkM _ _ _ (⟨(⟨#[113]⟩ : ByteArray), (⟨0, 0, 0, 0⟩ : S75), (⟨#[]⟩ : ByteArray), (⟨#[]⟩ : ByteArray)⟩ : S110) )) (Reps.c7 (show Kd.M k110 _ _ _ (⟨t550, (⟨t551, t552, t553, t554⟩ : S75), t555, t556⟩ : S110) [.string t550, .int .i64 t551, .int .i64 t552, .int .i64 t553, .int .i64 t554, .string t555, .string t556] from (k110_mkM _ _ _ (⟨t550, (⟨t551, t552, t553, t554⟩ : S75), t555, t556⟩ : S110) )) (Reps.c7 (show Kd.M k110 _ _ _ (⟨(⟨#[112]⟩ : ByteArray), (⟨0, 0, 0, 0⟩ : S75), (⟨#[]⟩ : ByteArray), (⟨#[]⟩ : ByteArray)⟩ : S110) [.string (⟨#[112]⟩ : ByteArray), .int .i64 0, .int .i64 0, .int .i64 0, .int .i64 0, .string (⟨#[]⟩ : ByteArray), .string (⟨#[]⟩ : ByteArray)] from (k110_mkM _ _ _ (⟨(⟨#[112]⟩ : ByteArray), (⟨0, 0, 0, 0⟩ : S75), (⟨#[]⟩ : ByteArray), (⟨#[]⟩ : ByteArray)⟩ : S110) )) (Reps.c7 (show Kd.M k110 _ _ _ (⟨t557, (⟨t558, t559, t560, t561⟩ : S75), t562, t563⟩ : S110) [.string t557, .int .i64 t558, .int .i64 t559, .int .i64 t560, .int .i64 t561, .string t562, .string t563] from (k110_mkM _ _ _ (⟨t557, (⟨t558, t559, t560, t561⟩ : S75), t562, t563⟩ : S110) )) (Reps.none _ _))))))))
 intro v565 w15 ho16 hb hg_ hnew_;clear hg_ hnew_
 (first | rw [← Ny564.out] at ho16 | (simp only [Int.reduceToNat] at ho16; rw [← Ny564.out] at ho16))
 have HO566 := Aside0.mk (Kd.R_lower ho16 (below_size cB));replace BK535 := kB BK535 hb;replace HB := sB hb;clear hb ho16
 refine hK.out _ _ qh13x0 (fun hHeld => ?_)
 clear hK K;refine normZ (some 12) ?_
 refine pureZ 9 (some 3) (msk 10 1023) HT_.out ?_
 refine done_ (done_of HT_.out (by kernel_rfl)) ?_
 try go_wp2
 replace HO566 := Aside0.mk (Kd.R_drew HO566.out);replace BK535 := Aside0.mk (blk_drew BK535.out);replace HB := Aside0.mk (below_drew1 HB.out)
 refine start_ (n := 7) (S := fun w' => w'.cell? ⟨gb535, 0, none⟩ = some (.int .i64 a0_0) ∧ w'.cell? ⟨gb535, 1, none⟩ = some (.int .i64 a0_1) ∧ w'.cell? ⟨gb535, 2, none⟩ = some (.int .i64 a0_2) ∧ w'.cell? ⟨gb535, 3, none⟩ = some (.slice A0_3 l0_3.length c0_3)) (ds := []) #[false, false, false, false, false, false, false] (by kernel_rfl) rfl rfl ⟨(blk_cell BK535.out 0).trans rfl, (blk_cell BK535.out 1).trans rfl, (blk_cell BK535.out 2).trans rfl, (blk_cell BK535.out 3).trans rfl⟩ (fun hHeld => ?_)
 generalize w15.drew = w17 at HO566 BK535 HB hHeld ⊢
 refine pure_ (i := 0) (N := some 13) (v := ?_) (a' := ?_) #[true, false, false, false, false, false, false] rfl rfl (by kernel_rfl) (fun _ _ _ h => h) (Or.inl ⟨by rfl, ?_⟩) ?_ ?_
 rotate_left
 ·intro w';go_simp;with_reducible rfl
 rotate_left
 ·simp only [Act.put, List.setIfInBounds_toArray, List.set_cons_zero, List.set_cons_succ, i64_w, i32_w];rfl
 refine take_ (i := 1) (N := some 14) (v := ?_) (a' := ?_) #[true, true, false, false, false, false, false] rfl rfl (by kernel_rfl) (fun _ _ _ h => h) (Or.inl ⟨by rfl, ?_⟩) hHeld ?_ ?_
 rotate_left
 ·rintro w' ⟨s0, s1, s2, s3⟩;go_simp;with_reducible rfl
 rotate_left
 ·simp only [Act.put, List.setIfInBounds_toArray, List.set_cons_zero, List.set_cons_succ, i64_w, i32_w];rfl
 refine take_ (i := 2) (N := some 15) (v := ?_) (a' := ?_) #[true, true, true, false, false, false, false] rfl rfl (by kernel_rfl) (fun _ _ _ h => h) (Or.inl ⟨by rfl, ?_⟩) hHeld ?_ ?_
 rotate_left
 ·rintro w' ⟨s0, s1, s2, s3⟩;go_simp;with_reducible rfl
 rotate_left
 ·simp only [Act.put, List.setIfInBounds_toArray, List.set_cons_zero, List.set_cons_succ, i64_w, i32_w];rfl
 refine one_ (i := 3) (N := some 16) #[true, true, true, true, false, false, false] rfl rfl (by kernel_rfl) (by decide) (fun K hK => ?_)
 refine goes_ Try.func46 (by kernel_rfl) rfl #[.agg #[.int .i64 a0_0, .int .i64 a0_1, .int .i64 a0_2, .slice A0_3 l0_3.length c0_3]] (by rfl) rfl rfl (by (try simp only [List.map_toArray, List.map_cons, List.map_nil]); first | done | rfl | (simp only [List.length_drop, List.length_take]; rfl)) ?_
 with_reducible refine (spec_NumsOf.calls k a0_0 a0_1 a0_2 _ _ l0_3 t567 _ ?side1 ?side2 A6.out).mono ?_
 (case side1 => exact cC (Kd.C_below HR0_3.out HB.out))
 (case side2 => exact HC0_3.out)
 rintro e w18 ⟨v568, rfl, ho0, hb⟩;refine ⟨_, rfl, ?_⟩;replace HO566 := rB HO566 hb;have HO569 := Aside0.mk (Kd.R_lower ho0 (below_size cB));replace BK535 := kB BK535 hb;replace HB := sB hb;(try clear hb);(try clear ho0);obtain ⟨Ao19, co19, eo19⟩ := Kd.R_slice HO569.out
 (first | subst eo19 | (injection eo19 with f1_ f2_ f3_; have f4_ := f1_.symm; have f5_ := f3_.symm; clear f1_ f2_ f3_; subst f4_; subst f5_))
 refine hK.out _ _ qh13x0 (fun hHeld => ?_)
 clear hK K;refine normZ (some 16) ?_
 refine one_ (i := 4) (N := some 17) #[true, true, true, true, true, false, false] rfl rfl (by kernel_rfl) (by decide) (fun K hK => ?_)
 refine goes_ Try.func41 (by kernel_rfl) rfl #[.agg #[.int .i64 a0_0, .int .i64 a0_1, .int .i64 a0_2, .slice A0_3 l0_3.length c0_3], .slice Ao19 t567.length co19, .string (⟨#[116]⟩ : ByteArray)] (by rfl) rfl rfl (by (try simp only [List.map_toArray, List.map_cons, List.map_nil]); first | done | rfl | (simp only [List.length_drop, List.length_take]; rfl)) ?_
 with_reducible refine (spec_TreeLines.calls k a0_0 a0_1 a0_2 _ _ l0_3 _ _ t567 (⟨#[116]⟩ : ByteArray) t570 _ ?side1 ?side2 ?side3 ?side4 A7.out).mono ?_
 (case side1 => exact cC (Kd.C_below HR0_3.out HB.out))
 (case side2 => exact HC0_3.out)
 (case side3 => exact cC ((Kd.R_reads' HO569.out).2.2))
 (case side4 => exact (Kd.R_reads' HO569.out).2.1)
 rintro e w20 ⟨v571, rfl, ho0, hb⟩;refine ⟨_, rfl, ?_⟩;replace HO569 := rB HO569 hb;have HO572 := Aside0.mk (Kd.R_lower (Kd.R_new' ho0 (Kd.R_lt (mR HO566))) (below_size cB));replace HO566 := eB HO566 (Kd.R_base ho0) hb;replace BK535 := kB BK535 hb;replace HB := sB hb;(try clear hb);(try clear ho0);obtain ⟨Ao22, co22, eo22⟩ := Kd.R_slice HO572.out
 (first | subst eo22 | (injection eo22 with f1_ f2_ f3_; have f4_ := f1_.symm; have f5_ := f3_.symm; clear f1_ f2_ f3_; subst f4_; subst f5_))
 refine hK.out _ _ qh13x0 (fun hHeld => ?_)
 clear hK K;refine normZ (some 17) ?_
 refine one_ (i := 5) (N := some 18) #[true, true, true, true, true, true, false] rfl rfl (by kernel_rfl) (by decide) (fun K hK => ?_)
 refine Kd.R_append_rows_step k110 (w0 := w) w.heap.size (by rfl) (.tmp 13) (.tmp 17) 56 110 (.agg #[(.string ⟨#[]⟩), (.int .i64 0), (.int .i64 0), (.int .i64 0), (.int .i64 0), (.string ⟨#[]⟩), (.string ⟨#[]⟩)]) 80 rfl Try.underlying56 info110 rfl (by decide) (by omega) v565 y564 t570 _ _ _ (fun k_ => some k_ ≠ (.slice Ao22 t570.length co22 : Value).ownBlock) (fun _ => False) rfl rfl ?aO ?aR (fun _ _ h => h) (fun _ h => h.elim) ?aF ?aB ?aS ?aL ?_
 (case aR => exact cC ((Kd.R_reads' HO572.out).2.2))
 (case aB => exact cB)
 (case aF => exact (fun k_ hk => Kd.fresh' (Kd.R_lt (mR HO572)) k_ hk))
 (case aO => exact (by (with_reducible repeat (first | apply Kd.R_alloc | apply Kd.R_drewN | apply Kd.R_drew)); exact Kd.R_mono HO566.out (fun _ hk => hk.2)))
 (case aS => exact (below_size cB))
 (case aL => have := LMc8.out; omega)
 intro v574 w21 ho hb hg hat;rw [← Ny573.out] at ho
 replace BK535 := Aside0.mk (blk_grown (mK BK535) hg (Kd.R_ne HO566.out BK535.out (by decide)))
 replace HO569 := Aside0.mk (Kd.R_over' (mR HO569) (Kd.R_typed (mR HO566)) (by decide) hg)
 replace HO572 := Aside0.mk (Kd.R_after (ok := (fun _ => True)) (mR HO572) hg hat)
 replace HB := Aside0.mk (hb);have HO575 := Aside0.mk (ho);clear HO566 ho hb hg hat
 refine hK.out _ _ qh13x0 (fun hHeld => ?_)
 clear hK K;refine normZ (some 18) ?_
 refine pure_ (i := 6) (N := some 2) (v := ?_) (a' := ?_) #[true, true, true, true, true, true, true] rfl rfl (by kernel_rfl) (fun _ _ _ h => h) (Or.inl ⟨by rfl, ?_⟩) ?_ ?_
 rotate_left
 ·intro w';go_simp;with_reducible rfl
 rotate_left
 ·simp only [Act.put, List.setIfInBounds_toArray, List.set_cons_zero, List.set_cons_succ, i64_w, i32_w];rfl
 refine done_ (by kernel_rfl) ?_
 try go_wp2
 go_ret
 exact ⟨_, rE, by (with_reducible repeat (first | apply Kd.R_alloc | apply Kd.R_drewN | apply Kd.R_drew)); exact Kd.R_mono HO575.out (fun _ hk => trivial), cB⟩
def slices_Index_int_int.l0 : Nat → List Int → Int → Int → Int → Option (Int)
  | 0, _, _, _, _ => none
  | k + 1, x0, x1, x7, x8 => if x8 < x7 then (if 0 ≤ x8 then (if x8 < (x0.length : Int) then (if x1 = (rd x0 x8) then (some x8) else (slices_Index_int_int.l0 k x0 x1 x7 (wrap64 (x8 + 1)))) else (none)) else (none)) else (some (-1))
def slices_Index_int_int.f (k : Nat) (l0 : List Int) (a1 : Int) : Option (Int) := slices_Index_int_int.l0 k l0 a1 (l0.length : Int) 0
set_option maxHeartbeats 8000000 in
set_option maxRecDepth 100000 in
theorem slices_Index_int_int.calls (k : Nat) (A0 : Option Addr) (c0 : Nat) (l0 : List Int) (a1 : Int) (r : Int) (w : World) (hr0 : Kd.C (Kd.int .i64) w A0 l0.length l0) (hc0 : l0.length ≤ c0) (h : slices_Index_int_int.f k l0 a1 = some r) :
 Calls Try.prog 130 #[.slice A0 l0.length c0, .int .i64 a1] w fun e w' => e = .returned (.int .i64 r) ∧ Drawn0 w w' := by
 have HR0 := Aside0.mk hr0;have HC0 := Aside0.mk hc0;clear hr0 hc0;have H : (slices_Index_int_int.l0 k l0 a1 (l0.length : Int) 0) = some r := h;clear h;have H' := Aside0.mk H;clear H;go_enter Try.func130, Try.ntmps130;go_wp2
 go_loopg [8] k (fun kq v8 w' => ∃ (x8_1 : Int), v8 = .int .i64 x8_1 ∧ Aside0 (slices_Index_int_int.l0 kq l0 a1 (l0.length : Int) x8_1 = some r) ∧ Aside0 (kq ≤ k) ∧ Drawn0 w w')
 case atStart => exact ⟨(0), rS, H', ⟨Nat.le_refl _⟩, by repeat (first | exact Drawn0.refl _ | apply Drawn0.step)⟩
 case round =>
  clear H';obtain ⟨x8_1, rfl, HA, HK1, ⟨m1, rfl⟩⟩ := hrel
  cases gk with
  | zero => exact absurd HA.out (by simp [slices_Index_int_int.l0])
  | succ k1 =>
   have H := HA.out;clear HA;simp only [slices_Index_int_int.l0] at H;by_cases c3 : x8_1 < (l0.length : Int)
   ·rw [if_pos c3] at H;have c3b0 := decide_eq_true c3;clear c3;replace H := gD H;obtain ⟨c4b0, H⟩ := H;replace H := gD H;obtain ⟨c5b0, H⟩ := H;by_cases c6 : a1 = (rd l0 x8_1)
    ·rw [if_pos c6] at H;obtain ⟨c6b0, c6b1⟩ := eT c6;clear c6;obtain rfl := Option.some.inj H;have p576 : 0 ≤ (x8_1 : Int) := dA;have q576 : x8_1 < (l0.length : Int) := dA;obtain ⟨ad576, e576, hx576_0⟩ := Kd.at_int HR0.out x8_1 p576 q576;cases e576;replace p576 := eq_true p576;replace q576 := eq_true q576;go_wp2;go_ret
     exact ⟨by first | rfl | (simp; done) | (simp [*]; done), by repeat (first | exact Drawn0.refl _ | apply Drawn0.step)⟩
    ·rw [if_neg c6] at H;obtain ⟨c6b0, c6b1⟩ := eF c6;have H' := Aside0.mk H;clear H;have p576 : 0 ≤ (x8_1 : Int) := dA;have q576 : x8_1 < (l0.length : Int) := dA;obtain ⟨ad576, e576, hx576_0⟩ := Kd.at_int HR0.out x8_1 p576 q576;cases e576;replace p576 := eq_true p576;replace q576 := eq_true q576;go_wp2;go_roundg k1
     case measure => have := HK1.out; omega
     case rel => exact ⟨(wrap64 (x8_1 + 1)), rS, H', ⟨by have := HK1.out; omega⟩, by repeat (first | exact Drawn0.refl _ | apply Drawn0.step)⟩
   ·rw [if_neg c3] at H;have c3b0 := decide_eq_false c3;clear c3;obtain rfl := Option.some.inj H;go_wp2;go_ret
    exact ⟨by first | rfl | (simp; done) | (simp [*]; done), by repeat (first | exact Drawn0.refl _ | apply Drawn0.step)⟩
def slices_Contains_int_int.f (k : Nat) (l0 : List Int) (a1 : Int) : Option (Bool) := (slices_Index_int_int.f k l0 a1).bind fun t577 => (some (decide (t577 ≥ 0)))
set_option maxHeartbeats 8000000 in
set_option maxRecDepth 100000 in
theorem slices_Contains_int_int.calls (k : Nat) (A0 : Option Addr) (c0 : Nat) (l0 : List Int) (a1 : Int) (r : Bool) (w : World) (hr0 : Kd.C (Kd.int .i64) w A0 l0.length l0) (hc0 : l0.length ≤ c0) (h : slices_Contains_int_int.f k l0 a1 = some r) :
 Calls Try.prog 89 #[.slice A0 l0.length c0, .int .i64 a1] w fun e w' => e = .returned (.bool r) ∧ Drawn0 w w' := by
 have HR0 := Aside0.mk hr0;have HC0 := Aside0.mk hc0;clear hr0 hc0
 have H : ((slices_Index_int_int.f k l0 a1).bind fun t577 => (some (decide (t577 ≥ 0)))) = some r := h
 clear h;replace H := bE H;obtain ⟨t577, A3, H⟩ := H;obtain rfl := Option.some.inj H;go_enter Try.func89, Try.ntmps89
 go_wp2_with (first|((with_reducible refine gF 130 ?_);refine goZ (some 7) Try.func130 #[.slice A0 l0.length c0, .int .i64 a1] ?_;(with_reducible refine (slices_Index_int_int.calls k _ _ l0 a1 t577 _ ?side1 ?side2 A3.out).mono ?_);(case side1 => exact cC HR0.out);(case side2 => exact HC0.out);rintro e w' ⟨rfl, ⟨nd, rfl⟩⟩;refine ⟨_, rfl, ?_⟩))
 go_ret
 exact ⟨by first | rfl | (simp; done) | (simp [*]; done), by repeat (first | exact Drawn0.refl _ | apply Drawn0.step)⟩
def impl_Decimal.l0 : Nat → Int → ByteArray → Int → Option (ByteArray)
  | 0, _, _, _ => none
  | k + 1, x0, x3, x4 => if x4 = 0 then (if x0 < 0 then (if 1 + x3.size ≤ 9223372036854775807 then (some ((⟨#[45]⟩ : ByteArray) ++ x3)) else (none)) else (some x3)) else (if 0 ≤ (mx (Int.tmod x4 10) (wrap64 (-(Int.tmod x4 10)))) then (if (mx (Int.tmod x4 10) (wrap64 (-(Int.tmod x4 10)))) ≤ (wrap64 ((mx (Int.tmod x4 10) (wrap64 (-(Int.tmod x4 10)))) + 1)) then (if (wrap64 ((mx (Int.tmod x4 10) (wrap64 (-(Int.tmod x4 10)))) + 1)) ≤ 16 then (if ((⟨#[48, 49, 50, 51, 52, 53, 54, 55, 56, 57, 97, 98, 99, 100, 101, 102]⟩ : ByteArray).extract ((mx (Int.tmod x4 10) (wrap64 (-(Int.tmod x4 10)))) : Int).toNat ((wrap64 ((mx (Int.tmod x4 10) (wrap64 (-(Int.tmod x4 10)))) + 1)) : Int).toNat).size + x3.size ≤ 9223372036854775807 then (impl_Decimal.l0 k x0 (((⟨#[48, 49, 50, 51, 52, 53, 54, 55, 56, 57, 97, 98, 99, 100, 101, 102]⟩ : ByteArray).extract ((mx (Int.tmod x4 10) (wrap64 (-(Int.tmod x4 10)))) : Int).toNat ((wrap64 ((mx (Int.tmod x4 10) (wrap64 (-(Int.tmod x4 10)))) + 1)) : Int).toNat) ++ x3) (wrap64 (Int.tdiv x4 10))) else (none)) else (none)) else (none)) else (none))
def impl_Decimal.f (k : Nat) (a0 : Int) : Option (ByteArray) := if a0 = 0 then (some (⟨#[48]⟩ : ByteArray)) else (impl_Decimal.l0 k a0 (⟨#[]⟩ : ByteArray) a0)
set_option maxHeartbeats 8000000 in
set_option maxRecDepth 100000 in
theorem impl_Decimal.calls (k : Nat) (a0 : Int) (r : ByteArray) (w : World) (h : impl_Decimal.f k a0 = some r) :
 Calls Try.prog 81 #[.int .i64 a0] w fun e w' => e = .returned (.string r) ∧ Below w.heap.size w w' := by
 have HB := Aside0.mk (Below.refl w.heap.size w);have H : (if a0 = 0 then (some (⟨#[48]⟩ : ByteArray)) else (impl_Decimal.l0 k a0 (⟨#[]⟩ : ByteArray) a0)) = some r := h;clear h;by_cases c2 : a0 = 0
 ·rw [if_pos c2] at H;obtain ⟨c2b0, c2b1⟩ := eT c2;clear c2;obtain rfl := Option.some.inj H;go_enter Try.func81, Try.ntmps81;go_wp2;go_ret;exact ⟨rE, cB⟩
 ·rw [if_neg c2] at H;obtain ⟨c2b0, c2b1⟩ := eF c2;have H' := Aside0.mk H;clear H;go_enter Try.func81, Try.ntmps81;go_wp2
  go_loopg [3, 4] k (fun kq v3 v4 w' => ∃ (x3_1 : ByteArray) (x4_1 : Int), v3 = .string x3_1 ∧ v4 = .int .i64 x4_1 ∧ Aside0 (impl_Decimal.l0 kq a0 x3_1 x4_1 = some r) ∧ Aside0 (kq ≤ k) ∧ Aside0 (Below w.heap.size w w'))
  case atStart => exact ⟨((⟨#[]⟩ : ByteArray)), (a0), rS, rS, H', ⟨Nat.le_refl _⟩, ⟨cB⟩⟩
  case round =>
   clear H';(try clear c2);(try clear c2b0);(try clear c2b1);obtain ⟨x3_1, x4_1, rfl, rfl, HA, HK1, HB⟩ := hrel
   cases gk with
   | zero => exact absurd HA.out (by simp [impl_Decimal.l0])
   | succ k1 =>
    have H := HA.out;clear HA;simp only [impl_Decimal.l0] at H;by_cases c3 : x4_1 = 0
    ·rw [if_pos c3] at H;obtain ⟨c3b0, c3b1⟩ := eT c3;clear c3;by_cases c4 : a0 < 0
     ·rw [if_pos c4] at H;have c4b0 := decide_eq_true c4;clear c4;replace H := gC H;obtain ⟨c5, H⟩ := H;have c5b0 := eq_true c5;have c5b1 : decide (1 + x3_1.size ≤ 9223372036854775807) = true := decide_eq_true c5
      try have c5b2 : (9223372036854775807 < 1 + x3_1.size) = False := eq_false (Nat.not_lt.2 c5)
      obtain rfl := Option.some.inj H;go_wp2;go_ret;exact ⟨rE, cB⟩
     ·rw [if_neg c4] at H;have c4b0 := decide_eq_false c4;clear c4;obtain rfl := Option.some.inj H;go_wp2;go_ret;exact ⟨rE, cB⟩
    ·rw [if_neg c3] at H;obtain ⟨c3b0, c3b1⟩ := eF c3;obtain ⟨ji6, hji6⟩ : ∃ j_ : Int, (mx (Int.tmod x4_1 10) (wrap64 (-(Int.tmod x4_1 10)))) = j_ := ⟨_, rfl⟩
     (first|rw [hji6] at H|simp only [hji6] at H)
     have hji6_ : (if (Int.tmod x4_1 10) < (wrap64 (-(Int.tmod x4_1 10))) then (wrap64 (-(Int.tmod x4_1 10))) else (Int.tmod x4_1 10)) = ji6 := hji6;replace H := gC H;obtain ⟨c7, H⟩ := H;have c7b0 := eq_true c7;have c7b1 : decide (0 ≤ (ji6)) = true := decide_eq_true c7;clear c7;replace H := gC H;obtain ⟨c8, H⟩ := H;have c8b0 := eq_true c8;have c8b1 : decide ((ji6) ≤ (wrap64 ((ji6) + 1))) = true := decide_eq_true c8;replace H := gC H;obtain ⟨c9, H⟩ := H;have c9b0 := eq_true c9;have c9b1 : decide ((wrap64 ((ji6) + 1)) ≤ 16) = true := decide_eq_true c9;replace H := gC H;obtain ⟨c10, H⟩ := H;have c10b0 := eq_true c10;have c10b1 : decide (((⟨#[48, 49, 50, 51, 52, 53, 54, 55, 56, 57, 97, 98, 99, 100, 101, 102]⟩ : ByteArray).extract ((ji6) : Int).toNat ((wrap64 ((ji6) + 1)) : Int).toNat).size + x3_1.size ≤ 9223372036854775807) = true := decide_eq_true c10
     try have c10b2 : (9223372036854775807 < ((⟨#[48, 49, 50, 51, 52, 53, 54, 55, 56, 57, 97, 98, 99, 100, 101, 102]⟩ : ByteArray).extract ((ji6) : Int).toNat ((wrap64 ((ji6) + 1)) : Int).toNat).size + x3_1.size) = False := eq_false (Nat.not_lt.2 c10)
     have H' := Aside0.mk H;clear H;go_wp2;go_roundg k1
     case measure => have := HK1.out; omega
     case rel => exact ⟨(((⟨#[48, 49, 50, 51, 52, 53, 54, 55, 56, 57, 97, 98, 99, 100, 101, 102]⟩ : ByteArray).extract ((ji6) : Int).toNat ((wrap64 ((ji6) + 1)) : Int).toNat) ++ x3_1), (wrap64 (Int.tdiv x4_1 10)), (by first | rfl | (simp; done) | (simp only [← hji6] <;> (first | rfl | simp)) | (simp [*]; done)), rS, H', ⟨by have := HK1.out; omega⟩, ⟨cB⟩⟩
def impl_place.f (a0 : ByteArray) : Option (ByteArray × Int × Int × Int × Int × ByteArray × ByteArray) := some (a0, 0, 0, 0, 0, (⟨#[]⟩ : ByteArray), (⟨#[]⟩ : ByteArray))
set_option maxHeartbeats 8000000 in
set_option maxRecDepth 100000 in
theorem impl_place.calls (a0 : ByteArray) (r1 : ByteArray) (r2 : Int) (r3 : Int) (r4 : Int) (r5 : Int) (r6 : ByteArray) (r7 : ByteArray) (w : World) (h : impl_place.f a0 = some (r1, r2, r3, r4, r5, r6, r7)) :
 Calls Try.prog 91 #[.string a0] w fun e w' => e = .returned (.agg #[.string r1, .int .i64 r2, .int .i64 r3, .int .i64 r4, .int .i64 r5, .string r6, .string r7]) ∧ Below w.heap.size w w' := by
 have hu110 := Try.underlying110;have HB := Aside0.mk (Below.refl w.heap.size w);have H : (some (a0, 0, 0, 0, 0, (⟨#[]⟩ : ByteArray), (⟨#[]⟩ : ByteArray))) = some (r1, r2, r3, r4, r5, r6, r7) := h;clear h;simp only [Option.some.injEq, Prod.mk.injEq] at H;obtain ⟨rfl, rfl, rfl, rfl, rfl, rfl, rfl⟩ := H;go_enter Try.func91, Try.ntmps91
 go_wp2_with (first|((with_reducible refine gN 2 ?_);refine boxZ 2 #[.string (⟨#[]⟩ : ByteArray), .int .i64 0, .int .i64 0, .int .i64 0, .int .i64 0, .string (⟨#[]⟩ : ByteArray), .string (⟨#[]⟩ : ByteArray)] 110 ?_;intro gb578 hg w2 hbox hb;have BK578 := Aside0.mk (hbox);have GW578 := gS hg;have GE578 := gS hg;replace HB := sB hb;clear hb hbox hg;obtain ⟨hcz3_0, hcz3_1, hcz3_2, hcz3_3, hcz3_4, hcz3_5, hcz3_6, hfz3_0, hfz3_1, hfz3_2, hfz3_3, hfz3_4, hfz3_5, hfz3_6⟩ := cz7 BK578))
 refine bodyPost_ret (results_cell_row rfl _ _ gb578 110 #[.string a0, .int .i64 0, .int .i64 0, .int .i64 0, .int .i64 0, .string (⟨#[]⟩ : ByteArray), .string (⟨#[]⟩ : ByteArray)] (0, 0) _ rfl (kS BK578 _) Try.underlying110 rfl (by kernel_rfl)) rfl ?_
 exact ⟨rE, cB⟩
def impl_word.f (a0 : Int) (a1 : Int) : Option (ByteArray × Int × Int × Int × Int × ByteArray × ByteArray) := some ((⟨#[]⟩ : ByteArray), a0, a1, 0, 0, (⟨#[]⟩ : ByteArray), (⟨#[]⟩ : ByteArray))
set_option maxHeartbeats 8000000 in
set_option maxRecDepth 100000 in
theorem impl_word.calls (a0 : Int) (a1 : Int) (r1 : ByteArray) (r2 : Int) (r3 : Int) (r4 : Int) (r5 : Int) (r6 : ByteArray) (r7 : ByteArray) (w : World) (h : impl_word.f a0 a1 = some (r1, r2, r3, r4, r5, r6, r7)) :
 Calls Try.prog 92 #[.int .i64 a0, .int .i64 a1] w fun e w' => e = .returned (.agg #[.string r1, .int .i64 r2, .int .i64 r3, .int .i64 r4, .int .i64 r5, .string r6, .string r7]) ∧ Below w.heap.size w w' := by
 have hu110 := Try.underlying110;have hu75 := Try.underlying75;have HB := Aside0.mk (Below.refl w.heap.size w);have H : (some ((⟨#[]⟩ : ByteArray), a0, a1, 0, 0, (⟨#[]⟩ : ByteArray), (⟨#[]⟩ : ByteArray))) = some (r1, r2, r3, r4, r5, r6, r7) := h;clear h;simp only [Option.some.injEq, Prod.mk.injEq] at H;obtain ⟨rfl, rfl, rfl, rfl, rfl, rfl, rfl⟩ := H;go_enter Try.func92, Try.ntmps92
 go_wp2_with (first|((with_reducible refine gN 4 ?_);refine boxZ 4 #[.string (⟨#[]⟩ : ByteArray), .int .i64 0, .int .i64 0, .int .i64 0, .int .i64 0, .string (⟨#[]⟩ : ByteArray), .string (⟨#[]⟩ : ByteArray)] 110 ?_;intro gb579 hg w3 hbox hb;have BK579 := Aside0.mk (hbox);have GW579 := gS hg;have GE579 := gS hg;replace HB := sB hb;clear hb hbox hg;obtain ⟨hcz4_0, hcz4_1, hcz4_2, hcz4_3, hcz4_4, hcz4_5, hcz4_6, hfz4_0, hfz4_1, hfz4_2, hfz4_3, hfz4_4, hfz4_5, hfz4_6⟩ := cz7 BK579))
 refine bodyPost_ret (results_cell_row rfl _ _ gb579 110 #[.string (⟨#[]⟩ : ByteArray), .int .i64 a0, .int .i64 a1, .int .i64 0, .int .i64 0, .string (⟨#[]⟩ : ByteArray), .string (⟨#[]⟩ : ByteArray)] (0, 0) _ rfl (kS BK579 _) Try.underlying110 rfl (by kernel_rfl)) rfl ?_
 exact ⟨rE, cB⟩
def impl_within.f (a0 : Int) (a1 : Int) (a2 : Int) : Option (Bool) := if a0 ≥ a1 then (some (decide (a0 ≤ a2))) else (some false)
set_option maxHeartbeats 8000000 in
set_option maxRecDepth 100000 in
theorem impl_within.calls (a0 : Int) (a1 : Int) (a2 : Int) (r : Bool) (w : World) (h : impl_within.f a0 a1 a2 = some r) :
 Calls Try.prog 127 #[.int .i64 a0, .int .i64 a1, .int .i64 a2] w fun e w' => e = .returned (.bool r) ∧ Drawn0 w w' := by
 have H : (if a0 ≥ a1 then (some (decide (a0 ≤ a2))) else (some false)) = some r := h;clear h;by_cases c4 : a0 ≥ a1
 ·rw [if_pos c4] at H;have c4b0 : decide (a1 ≤ a0) = true := decide_eq_true c4;clear c4;obtain rfl := Option.some.inj H;go_enter Try.func127, Try.ntmps127;go_wp2;go_ret
  exact ⟨by first | rfl | (simp; done) | (simp [*]; done), by repeat (first | exact Drawn0.refl _ | apply Drawn0.step)⟩
 ·rw [if_neg c4] at H;have c4b0 : decide (a1 ≤ a0) = false := decide_eq_false c4;clear c4;obtain rfl := Option.some.inj H;go_enter Try.func127, Try.ntmps127;go_wp2;go_ret
  exact ⟨by first | rfl | (simp; done) | (simp [*]; done), by repeat (first | exact Drawn0.refl _ | apply Drawn0.step)⟩
def impl_ResultOf.f (a0 : Int) (a1 : Int) : Option (Int) := (impl_within.f a0 0 5).bind fun t580 => (if t580 = true then ((impl_within.f a1 0 65535).bind fun t581 => (if t581 = true then (some (wrap64 ((wrap64 (65536 * a0)) + a1))) else (some 0))) else (some 0))
set_option maxHeartbeats 8000000 in
set_option maxRecDepth 100000 in
theorem impl_ResultOf.calls (a0 : Int) (a1 : Int) (r : Int) (w : World) (h : impl_ResultOf.f a0 a1 = some r) :
 Calls Try.prog 93 #[.int .i64 a0, .int .i64 a1] w fun e w' => e = .returned (.int .i64 r) ∧ Drawn0 w w' := by
 have H : ((impl_within.f a0 0 5).bind fun t580 => (if t580 = true then ((impl_within.f a1 0 65535).bind fun t581 => (if t581 = true then (some (wrap64 ((wrap64 (65536 * a0)) + a1))) else (some 0))) else (some 0))) = some r := h
 clear h;replace H := bE H;obtain ⟨t580, A3, H⟩ := H;by_cases c4 : t580 = true
 ·subst c4;replace H := iT H;replace H := bE H;obtain ⟨t581, A5, H⟩ := H;by_cases c6 : t581 = true
  ·subst c6;replace H := iT H;obtain rfl := Option.some.inj H;go_enter Try.func93, Try.ntmps93
   go_wp2_with (first|((with_reducible refine gF 127 ?_);refine goZ (some 6) Try.func127 #[.int .i64 a0, .int .i64 0, .int .i64 5] ?_;(with_reducible refine (impl_within.calls a0 0 5 true _ A3.out).mono ?_);rintro e w' ⟨rfl, ⟨nd, rfl⟩⟩;refine ⟨_, rfl, ?_⟩)|(go_at_call 127;(with_reducible refine (impl_within.calls a1 0 65535 true _ A5.out).mono ?_);rintro e w' ⟨rfl, ⟨nd, rfl⟩⟩))
   go_ret
   exact ⟨by first | rfl | (simp; done) | (simp [*]; done), by repeat (first | exact Drawn0.refl _ | apply Drawn0.step)⟩
  ·replace c6 := Bool.eq_false_iff.mpr c6;subst c6;replace H := iF H;obtain rfl := Option.some.inj H;go_enter Try.func93, Try.ntmps93
   go_wp2_with (first|((with_reducible refine gF 127 ?_);refine goZ (some 6) Try.func127 #[.int .i64 a0, .int .i64 0, .int .i64 5] ?_;(with_reducible refine (impl_within.calls a0 0 5 true _ A3.out).mono ?_);rintro e w' ⟨rfl, ⟨nd, rfl⟩⟩;refine ⟨_, rfl, ?_⟩)|(go_at_call 127;(with_reducible refine (impl_within.calls a1 0 65535 false _ A5.out).mono ?_);rintro e w' ⟨rfl, ⟨nd, rfl⟩⟩))
   go_ret
   exact ⟨by first | rfl | (simp; done) | (simp [*]; done), by repeat (first | exact Drawn0.refl _ | apply Drawn0.step)⟩
 ·replace c4 := Bool.eq_false_iff.mpr c4;subst c4;replace H := iF H;obtain rfl := Option.some.inj H;go_enter Try.func93, Try.ntmps93
  go_wp2_with (first|((with_reducible refine gF 127 ?_);refine goZ (some 6) Try.func127 #[.int .i64 a0, .int .i64 0, .int .i64 5] ?_;(with_reducible refine (impl_within.calls a0 0 5 false _ A3.out).mono ?_);rintro e w' ⟨rfl, ⟨nd, rfl⟩⟩;refine ⟨_, rfl, ?_⟩))
  go_ret
  exact ⟨by first | rfl | (simp; done) | (simp [*]; done), by repeat (first | exact Drawn0.refl _ | apply Drawn0.step)⟩
def impl_ask.f (a0 : Int) (a1 : Int) (a2 : ByteArray) (a3 : ByteArray) : Option (ByteArray × Int × Int × Int × Int × ByteArray × ByteArray) := some ((⟨#[]⟩ : ByteArray), a0, a1, 0, 0, a2, a3)
set_option maxHeartbeats 8000000 in
set_option maxRecDepth 100000 in
theorem impl_ask.calls (a0 : Int) (a1 : Int) (a2 : ByteArray) (a3 : ByteArray) (r1 : ByteArray) (r2 : Int) (r3 : Int) (r4 : Int) (r5 : Int) (r6 : ByteArray) (r7 : ByteArray) (w : World) (h : impl_ask.f a0 a1 a2 a3 = some (r1, r2, r3, r4, r5, r6, r7)) :
 Calls Try.prog 97 #[.int .i64 a0, .int .i64 a1, .string a2, .string a3] w fun e w' => e = .returned (.agg #[.string r1, .int .i64 r2, .int .i64 r3, .int .i64 r4, .int .i64 r5, .string r6, .string r7]) ∧ Below w.heap.size w w' := by
 have hu110 := Try.underlying110;have hu75 := Try.underlying75;have HB := Aside0.mk (Below.refl w.heap.size w);have H : (some ((⟨#[]⟩ : ByteArray), a0, a1, 0, 0, a2, a3)) = some (r1, r2, r3, r4, r5, r6, r7) := h;clear h;simp only [Option.some.injEq, Prod.mk.injEq] at H;obtain ⟨rfl, rfl, rfl, rfl, rfl, rfl, rfl⟩ := H;go_enter Try.func97, Try.ntmps97
 go_wp2_with (first|((with_reducible refine gN 8 ?_);refine boxZ 8 #[.string (⟨#[]⟩ : ByteArray), .int .i64 0, .int .i64 0, .int .i64 0, .int .i64 0, .string (⟨#[]⟩ : ByteArray), .string (⟨#[]⟩ : ByteArray)] 110 ?_;intro gb582 hg w5 hbox hb;have BK582 := Aside0.mk (hbox);have GW582 := gS hg;have GE582 := gS hg;replace HB := sB hb;clear hb hbox hg;obtain ⟨hcz6_0, hcz6_1, hcz6_2, hcz6_3, hcz6_4, hcz6_5, hcz6_6, hfz6_0, hfz6_1, hfz6_2, hfz6_3, hfz6_4, hfz6_5, hfz6_6⟩ := cz7 BK582))
 refine bodyPost_ret (results_cell_row rfl _ _ gb582 110 #[.string (⟨#[]⟩ : ByteArray), .int .i64 a0, .int .i64 a1, .int .i64 0, .int .i64 0, .string a2, .string a3] (0, 0) _ rfl (kS BK582 _) Try.underlying110 rfl (by kernel_rfl)) rfl ?_
 exact ⟨rE, cB⟩
def impl_HalfOk.f (a0 : Int) : Option (Bool) := (impl_within.f a0 0 4294967295).bind fun t583 => (some t583)
set_option maxHeartbeats 8000000 in
set_option maxRecDepth 100000 in
theorem impl_HalfOk.calls (a0 : Int) (r : Bool) (w : World) (h : impl_HalfOk.f a0 = some r) :
 Calls Try.prog 125 #[.int .i64 a0] w fun e w' => e = .returned (.bool r) ∧ Drawn0 w w' := by
 have H : ((impl_within.f a0 0 4294967295).bind fun t583 => (some t583)) = some r := h
 clear h;replace H := bE H;obtain ⟨t583, A2, H⟩ := H;obtain rfl := Option.some.inj H;go_enter Try.func125, Try.ntmps125
 go_wp2_with (first|((with_reducible refine gF 127 ?_);refine goZ (some 4) Try.func127 #[.int .i64 a0, .int .i64 0, .int .i64 4294967295] ?_;(with_reducible refine (impl_within.calls a0 0 4294967295 t583 _ A2.out).mono ?_);rintro e w' ⟨rfl, ⟨nd, rfl⟩⟩;refine ⟨_, rfl, ?_⟩))
 go_ret
 exact ⟨by first | rfl | (simp; done) | (simp [*]; done), by repeat (first | exact Drawn0.refl _ | apply Drawn0.step)⟩
def impl_WideOk.f (a0_0 : Int) (a0_1 : Int) : Option (Bool) := (impl_HalfOk.f a0_0).bind fun t585 => (if t585 = true then ((impl_HalfOk.f a0_1).bind fun t586 => (some t586)) else (some false))
set_option maxHeartbeats 8000000 in
set_option maxRecDepth 100000 in
theorem impl_WideOk.calls (a0_0 : Int) (a0_1 : Int) (r : Bool) (w : World) (h : impl_WideOk.f a0_0 a0_1 = some r) :
 Calls Try.prog 184 #[.agg #[.int .i64 a0_0, .int .i64 a0_1]] w fun e w' => e = .returned (.bool r) ∧ Below w.heap.size w w' := by
 have hu93 := Try.underlying93;have HB := Aside0.mk (Below.refl w.heap.size w)
 have H : ((impl_HalfOk.f a0_0).bind fun t585 => (if t585 = true then ((impl_HalfOk.f a0_1).bind fun t586 => (some t586)) else (some false))) = some r := h
 clear h;replace H := bE H;obtain ⟨t585, A2, H⟩ := H;by_cases c3 : t585 = true
 ·subst c3;replace H := iT H;replace H := bE H;obtain ⟨t586, A4, H⟩ := H;obtain rfl := Option.some.inj H;go_enter Try.func184, Try.ntmps184
  go_wp2_with (first|((with_reducible refine gN 1 ?_);refine boxZ 1 #[.int .i64 a0_0, .int .i64 a0_1] 93 ?_;intro gb584 hg w5 hbox hb;have BK584 := Aside0.mk (hbox);have GW584 := gS hg;have GE584 := gS hg;replace HB := sB hb;clear hb hbox hg;obtain ⟨hcz6_0, hcz6_1, hfz6_0, hfz6_1⟩ := cz2 BK584)|((with_reducible refine gF 125 ?_);refine goZ (some 5) Try.func125 #[.int .i64 a0_0] ?_;(with_reducible refine (impl_HalfOk.calls a0_0 true _ A2.out).mono ?_);rintro e w' ⟨rfl, ⟨nd, rfl⟩⟩;refine ⟨_, rfl, ?_⟩)|(go_at_call 125;(with_reducible refine (impl_HalfOk.calls a0_1 t586 _ A4.out).mono ?_);rintro e w' ⟨rfl, ⟨nd, rfl⟩⟩))
  go_ret;exact ⟨rE, cB⟩
 ·replace c3 := Bool.eq_false_iff.mpr c3;subst c3;replace H := iF H;obtain rfl := Option.some.inj H;go_enter Try.func184, Try.ntmps184
  go_wp2_with (first|((with_reducible refine gN 1 ?_);refine boxZ 1 #[.int .i64 a0_0, .int .i64 a0_1] 93 ?_;intro gb584 hg w7 hbox hb;have BK584 := Aside0.mk (hbox);have GW584 := gS hg;have GE584 := gS hg;replace HB := sB hb;clear hb hbox hg;obtain ⟨hcz8_0, hcz8_1, hfz8_0, hfz8_1⟩ := cz2 BK584)|((with_reducible refine gF 125 ?_);refine goZ (some 5) Try.func125 #[.int .i64 a0_0] ?_;(with_reducible refine (impl_HalfOk.calls a0_0 false _ A2.out).mono ?_);rintro e w' ⟨rfl, ⟨nd, rfl⟩⟩;refine ⟨_, rfl, ?_⟩))
  go_ret;exact ⟨rE, cB⟩
end Go.Proofs.Ytcmcpmkihpdnjaa.PFnExactPolicyLines
