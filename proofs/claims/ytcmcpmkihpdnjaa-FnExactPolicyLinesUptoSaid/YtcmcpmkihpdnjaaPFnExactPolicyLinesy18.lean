import Derived.Test.YtcmcpmkihpdnjaaPFnExactPolicyLinesy0
import Derived.Test.YtcmcpmkihpdnjaaPFnExactPolicyLinesy13
import Derived.Test.YtcmcpmkihpdnjaaPFnExactPolicyLinesy17
namespace Go.Proofs.Ytcmcpmkihpdnjaa.PFnExactPolicyLines
open Go.RowKit Go.Proofs.YtcmcpmkihpdnjaaW.PrintWords Go.Proofs.YtcmcpmkihpdnjaaW.PrintLast Go.Proofs.YtcmcpmkihpdnjaaW.PrintMore Go.Proofs.YtcmcpmkihpdnjaaW.Z
attribute [local go_sem] isS max2_int min2_int max_two min_two max_three min_three max_four min_four
set_option linter.unusedVariables false
set_option linter.unusedSimpArgs false
theorem qh18x0 {P : Prop} (h : P := by exact ⟨(blk_cell BK916.out 0).trans rfl, (blk_cell BK916.out 1).trans rfl, (blk_cell BK916.out 2).trans rfl, (blk_cell BK916.out 3).trans rfl⟩) : P := h
def impl_PolicyLines.f (k : Nat) (a0_0 : Int) (a0_1 : Int) (a0_2 : Int) (l0_3 : List (S91)) : Option ((List (S110))) := (impl_word.f 1 1).bind fun bt917 => ((impl_ask.f 3 a0_0 (⟨#[112]⟩ : ByteArray) (⟨#[113]⟩ : ByteArray)).bind fun bt924 => ((impl_place.f (⟨#[113]⟩ : ByteArray)).bind fun bt931 => ((impl_word.f 8 0).bind fun bt938 => ((impl_place.f (⟨#[112]⟩ : ByteArray)).bind fun bt945 => ((impl_word.f 1 0).bind fun bt952 => ((some (([(⟨bt917.1, (⟨bt917.2.1, bt917.2.2.1, bt917.2.2.2.1, bt917.2.2.2.2.1⟩ : S75), bt917.2.2.2.2.2.1, bt917.2.2.2.2.2.2⟩ : S110), (⟨bt924.1, (⟨bt924.2.1, bt924.2.2.1, bt924.2.2.2.1, bt924.2.2.2.2.1⟩ : S75), bt924.2.2.2.2.2.1, bt924.2.2.2.2.2.2⟩ : S110), (⟨bt931.1, (⟨bt931.2.1, bt931.2.2.1, bt931.2.2.2.1, bt931.2.2.2.2.1⟩ : S75), bt931.2.2.2.2.2.1, bt931.2.2.2.2.2.2⟩ : S110), (⟨bt938.1, (⟨bt938.2.1, bt938.2.2.1, bt938.2.2.2.1, bt938.2.2.2.2.1⟩ : S75), bt938.2.2.2.2.2.1, bt938.2.2.2.2.2.2⟩ : S110), (⟨bt945.1, (⟨bt945.2.1, bt945.2.2.1, bt945.2.2.2.1, bt945.2.2.2.2.1⟩ : S75), bt945.2.2.2.2.2.1, bt945.2.2.2.2.2.2⟩ : S110), (⟨bt952.1, (⟨bt952.2.1, bt952.2.2.1, bt952.2.2.2.1, bt952.2.2.2.2.1⟩ : S75), bt952.2.2.2.2.2.1, bt952.2.2.2.2.2.2⟩ : S110)] : List (S110)) : List (S110))).bind fun y959 => ((impl_NumsOf.f k a0_0 a0_1 a0_2 l0_3).bind fun t962 => ((impl_TreeLines.f k a0_0 a0_1 a0_2 l0_3 t962 (⟨#[116]⟩ : ByteArray)).bind fun t965 => (if y959.length + t965.length < 1759218604441 then (some (y959 ++ t965)) else (none))))))))))
def impl_PolicyLines.T1 : Bool × List (List Nat × List Nat) := (true, [([], []), ([], []), ([1], [1]), ([2, 0], [2]), ([3], []), ([4], []), ([5], []), ([6], []), ([0, 3, 4, 5, 6, 7], [0, 3, 4, 5, 6, 7]), ([8, 7, 0, 1, 2, 3, 4, 5, 6, 7, 8], [8])])
def impl_PolicyLines.B1 : List Nat := [0, 0, 2, 7, 15, 31, 63, 127, 255, 511]
theorem impl_PolicyLines.tab1 : rtab .any (opsOf Try.f50 1) = impl_PolicyLines.T1 := by kernel_rfl
theorem impl_PolicyLines.bits1 : waitsOk impl_PolicyLines.T1.2 impl_PolicyLines.B1 = true := by kernel_rfl
theorem q18x0 {P : Prop} (h : P := by 
 rintro w' ⟨s0, s1, s2, s3⟩
 go_simp
 with_reducible rfl) : P := h
set_option maxHeartbeats 8000000 in
set_option maxRecDepth 100000 in
theorem impl_PolicyLines.calls (k : Nat) (a0_0 : Int) (a0_1 : Int) (a0_2 : Int) (A0_3 : Option Addr) (c0_3 : Nat) (l0_3 : List (S91)) (r : List (S110)) (w : World) (hr0_3 : Kd.C k91 w A0_3 l0_3.length l0_3) (hc0_3 : l0_3.length ≤ c0_3) (h : impl_PolicyLines.f k a0_0 a0_1 a0_2 l0_3 = some r) :
 Calls Try.prog 50 #[.agg #[.int .i64 a0_0, .int .i64 a0_1, .int .i64 a0_2, .slice A0_3 l0_3.length c0_3]] w fun e w' => ∃ v0_ : Value, e = .returned (v0_) ∧ Kd.R k110 110 w' w.heap.size (fun _ => True) v0_ r ∧ Below w.heap.size w w' := by
 have hu50 := Try.underlying50;have HR0_3 := Aside0.mk hr0_3;have HC0_3 := Aside0.mk hc0_3;clear hr0_3 hc0_3;have HB := Aside0.mk (Below.refl w.heap.size w)
 have H : ((impl_word.f 1 1).bind fun bt917 => ((impl_ask.f 3 a0_0 (⟨#[112]⟩ : ByteArray) (⟨#[113]⟩ : ByteArray)).bind fun bt924 => ((impl_place.f (⟨#[113]⟩ : ByteArray)).bind fun bt931 => ((impl_word.f 8 0).bind fun bt938 => ((impl_place.f (⟨#[112]⟩ : ByteArray)).bind fun bt945 => ((impl_word.f 1 0).bind fun bt952 => ((some (([(⟨bt917.1, (⟨bt917.2.1, bt917.2.2.1, bt917.2.2.2.1, bt917.2.2.2.2.1⟩ : S75), bt917.2.2.2.2.2.1, bt917.2.2.2.2.2.2⟩ : S110), (⟨bt924.1, (⟨bt924.2.1, bt924.2.2.1, bt924.2.2.2.1, bt924.2.2.2.2.1⟩ : S75), bt924.2.2.2.2.2.1, bt924.2.2.2.2.2.2⟩ : S110), (⟨bt931.1, (⟨bt931.2.1, bt931.2.2.1, bt931.2.2.2.1, bt931.2.2.2.2.1⟩ : S75), bt931.2.2.2.2.2.1, bt931.2.2.2.2.2.2⟩ : S110), (⟨bt938.1, (⟨bt938.2.1, bt938.2.2.1, bt938.2.2.2.1, bt938.2.2.2.2.1⟩ : S75), bt938.2.2.2.2.2.1, bt938.2.2.2.2.2.2⟩ : S110), (⟨bt945.1, (⟨bt945.2.1, bt945.2.2.1, bt945.2.2.2.1, bt945.2.2.2.2.1⟩ : S75), bt945.2.2.2.2.2.1, bt945.2.2.2.2.2.2⟩ : S110), (⟨bt952.1, (⟨bt952.2.1, bt952.2.2.1, bt952.2.2.2.1, bt952.2.2.2.2.1⟩ : S75), bt952.2.2.2.2.2.1, bt952.2.2.2.2.2.2⟩ : S110)] : List (S110)) : List (S110))).bind fun y959 => ((impl_NumsOf.f k a0_0 a0_1 a0_2 l0_3).bind fun t962 => ((impl_TreeLines.f k a0_0 a0_1 a0_2 l0_3 t962 (⟨#[116]⟩ : ByteArray)).bind fun t965 => (if y959.length + t965.length < 1759218604441 then (some (y959 ++ t965)) else (none))))))))))) = some r := h
 clear h;replace H := bE H;obtain ⟨⟨t917, t918, t919, t920, t921, t922, t923⟩, A2, H⟩ := H;(try dsimp only at H);replace H := bE H;obtain ⟨⟨t924, t925, t926, t927, t928, t929, t930⟩, A3, H⟩ := H;(try dsimp only at H);replace H := bE H;obtain ⟨⟨t931, t932, t933, t934, t935, t936, t937⟩, A4, H⟩ := H;(try dsimp only at H);replace H := bE H;obtain ⟨⟨t938, t939, t940, t941, t942, t943, t944⟩, A5, H⟩ := H;(try dsimp only at H);replace H := bE H;obtain ⟨⟨t945, t946, t947, t948, t949, t950, t951⟩, A6, H⟩ := H;(try dsimp only at H);replace H := bE H;obtain ⟨⟨t952, t953, t954, t955, t956, t957, t958⟩, A7, H⟩ := H;(try dsimp only at H);replace H := nE H;obtain ⟨y959, Ny959, H⟩ := H;replace H := bE H;obtain ⟨t962, A8, H⟩ := H;replace H := bE H;obtain ⟨t965, A9, H⟩ := H;replace H := gC H;obtain ⟨c10, H⟩ := H;have LMc10 := Aside0.mk c10;clear c10;obtain ⟨y968, Ny968⟩ : ∃ y_ : List (S110), Aside0 (y_ = (y959 ++ t965)) := ⟨_, ⟨rfl⟩⟩;rw [← Ny968.out] at H;obtain rfl := Option.some.inj H;go_enter Try.func50, Try.ntmps50
 try go_wp2_with (first|((with_reducible refine gN 1 ?_);refine boxZ 1 #[.int .i64 a0_0, .int .i64 a0_1, .int .i64 a0_2, .slice A0_3 l0_3.length c0_3] 50 ?_;intro gb916 hg w11 hbox hb;have BK916 := Aside0.mk (hbox);have GW916 := gS hg;have GE916 := gS hg;replace HB := sB hb;clear hb hbox hg))
 replace BK916 := Aside0.mk (blk_drew BK916.out);replace HB := Aside0.mk (below_drew1 HB.out)
 refine start_ (n := 10) (S := fun w' => w'.cell? ⟨gb916, 0, none⟩ = some (.int .i64 a0_0) ∧ w'.cell? ⟨gb916, 1, none⟩ = some (.int .i64 a0_1) ∧ w'.cell? ⟨gb916, 2, none⟩ = some (.int .i64 a0_2) ∧ w'.cell? ⟨gb916, 3, none⟩ = some (.slice A0_3 l0_3.length c0_3)) (ds := []) #[false, false, false, false, false, false, false, false, false, false] (by kernel_rfl) rfl rfl ⟨(blk_cell BK916.out 0).trans rfl, (blk_cell BK916.out 1).trans rfl, (blk_cell BK916.out 2).trans rfl, (blk_cell BK916.out 3).trans rfl⟩ (fun hHeld => ?_); refine with_tabW impl_PolicyLines.tab1 impl_PolicyLines.bits1 (fun HT_ HW_ => ?_)
 generalize w11.drew = w12 at BK916 HB hHeld ⊢;refine pureZ 1 (some 5) (msk 10 2) HT_.out ?_;refine takeZ 2 (some 6) (msk 10 6) HT_.out HW_.out hHeld (hy := q18x0) (h := ?_)
 refine one_Z 0 (some 4) (msk 10 7) HT_.out fun K hK => ?_
 refine goes_ Try.func92 (by kernel_rfl) rfl #[.int .i64 1, .int .i64 1] (by rfl) rfl rfl (by (try simp only [List.map_toArray, List.map_cons, List.map_nil]); first | done | rfl | (simp only [List.length_drop, List.length_take]; rfl)) ?_
 with_reducible refine (impl_word.calls 1 1 t917 t918 t919 t920 t921 t922 t923 _ A2.out).mono ?_;rintro e w13 ⟨rfl, hb⟩;refine ⟨_, rfl, ?_⟩;replace BK916 := kB BK916 hb;replace HB := sB hb;(try clear hb)
 refine hK.out _ _ qh18x0 (fun hHeld => ?_)
 clear hK K;refine normZ (some 4) ?_
 refine one_Z 3 (some 7) (msk 10 15) HT_.out fun K hK => ?_
 refine goes_ Try.func97 (by kernel_rfl) rfl #[.int .i64 3, .int .i64 a0_0, .string (⟨#[112]⟩ : ByteArray), .string (⟨#[113]⟩ : ByteArray)] (by rfl) rfl rfl (by (try simp only [List.map_toArray, List.map_cons, List.map_nil]); first | done | rfl | (simp only [List.length_drop, List.length_take]; rfl)) ?_
 with_reducible refine (impl_ask.calls 3 a0_0 (⟨#[112]⟩ : ByteArray) (⟨#[113]⟩ : ByteArray) t924 t925 t926 t927 t928 t929 t930 _ A3.out).mono ?_;rintro e w14 ⟨rfl, hb⟩;refine ⟨_, rfl, ?_⟩;replace BK916 := kB BK916 hb;replace HB := sB hb;(try clear hb)
 refine hK.out _ _ qh18x0 (fun hHeld => ?_)
 clear hK K;refine normZ (some 7) ?_
 refine one_Z 4 (some 8) (msk 10 31) HT_.out fun K hK => ?_
 refine goes_ Try.func91 (by kernel_rfl) rfl #[.string (⟨#[113]⟩ : ByteArray)] (by rfl) rfl rfl (by (try simp only [List.map_toArray, List.map_cons, List.map_nil]); first | done | rfl | (simp only [List.length_drop, List.length_take]; rfl)) ?_
 with_reducible refine (impl_place.calls (⟨#[113]⟩ : ByteArray) t931 t932 t933 t934 t935 t936 t937 _ A4.out).mono ?_;rintro e w15 ⟨rfl, hb⟩;refine ⟨_, rfl, ?_⟩;replace BK916 := kB BK916 hb;replace HB := sB hb;(try clear hb)
 refine hK.out _ _ qh18x0 (fun hHeld => ?_)
 clear hK K;refine normZ (some 8) ?_
 refine one_Z 5 (some 9) (msk 10 63) HT_.out fun K hK => ?_
 refine goes_ Try.func92 (by kernel_rfl) rfl #[.int .i64 8, .int .i64 0] (by rfl) rfl rfl (by (try simp only [List.map_toArray, List.map_cons, List.map_nil]); first | done | rfl | (simp only [List.length_drop, List.length_take]; rfl)) ?_
 with_reducible refine (impl_word.calls 8 0 t938 t939 t940 t941 t942 t943 t944 _ A5.out).mono ?_;rintro e w16 ⟨rfl, hb⟩;refine ⟨_, rfl, ?_⟩;replace BK916 := kB BK916 hb;replace HB := sB hb;(try clear hb)
 refine hK.out _ _ qh18x0 (fun hHeld => ?_)
 clear hK K;refine normZ (some 9) ?_
 refine one_Z 6 (some 10) (msk 10 127) HT_.out fun K hK => ?_
 refine goes_ Try.func91 (by kernel_rfl) rfl #[.string (⟨#[112]⟩ : ByteArray)] (by rfl) rfl rfl (by (try simp only [List.map_toArray, List.map_cons, List.map_nil]); first | done | rfl | (simp only [List.length_drop, List.length_take]; rfl)) ?_
 with_reducible refine (impl_place.calls (⟨#[112]⟩ : ByteArray) t945 t946 t947 t948 t949 t950 t951 _ A6.out).mono ?_;rintro e w17 ⟨rfl, hb⟩;refine ⟨_, rfl, ?_⟩;replace BK916 := kB BK916 hb;replace HB := sB hb;(try clear hb)
 refine hK.out _ _ qh18x0 (fun hHeld => ?_)
 clear hK K;refine normZ (some 10) ?_
 refine one_Z 7 (some 11) (msk 10 255) HT_.out fun K hK => ?_
 refine goes_ Try.func92 (by kernel_rfl) rfl #[.int .i64 1, .int .i64 0] (by rfl) rfl rfl (by (try simp only [List.map_toArray, List.map_cons, List.map_nil]); first | done | rfl | (simp only [List.length_drop, List.length_take]; rfl)) ?_
 with_reducible refine (impl_word.calls 1 0 t952 t953 t954 t955 t956 t957 t958 _ A7.out).mono ?_;rintro e w18 ⟨rfl, hb⟩;refine ⟨_, rfl, ?_⟩;replace BK916 := kB BK916 hb;replace HB := sB hb;(try clear hb)
 refine hK.out _ _ qh18x0 (fun hHeld => ?_)
 clear hK K;refine normZ (some 11) ?_
 refine one_Z 8 (some 12) (msk 10 511) HT_.out fun K hK => ?_
 refine Kd.R_lit_step k110 _ 110 ?hg (N := 12) ?hd (xs := ([(⟨t917, (⟨t918, t919, t920, t921⟩ : S75), t922, t923⟩ : S110), (⟨t924, (⟨t925, t926, t927, t928⟩ : S75), t929, t930⟩ : S110), (⟨t931, (⟨t932, t933, t934, t935⟩ : S75), t936, t937⟩ : S110), (⟨t938, (⟨t939, t940, t941, t942⟩ : S75), t943, t944⟩ : S110), (⟨t945, (⟨t946, t947, t948, t949⟩ : S75), t950, t951⟩ : S110), (⟨t952, (⟨t953, t954, t955, t956⟩ : S75), t957, t958⟩ : S110)] : List (S110))) (inner := [.string t917, .int .i64 t918, .int .i64 t919, .int .i64 t920, .int .i64 t921, .string t922, .string t923, .string t924, .int .i64 t925, .int .i64 t926, .int .i64 t927, .int .i64 t928, .string t929, .string t930, .string t931, .int .i64 t932, .int .i64 t933, .int .i64 t934, .int .i64 t935, .string t936, .string t937, .string t938, .int .i64 t939, .int .i64 t940, .int .i64 t941, .int .i64 t942, .string t943, .string t944, .string t945, .int .i64 t946, .int .i64 t947, .int .i64 t948, .int .i64 t949, .string t950, .string t951, .string t952, .int .i64 t953, .int .i64 t954, .int .i64 t955, .int .i64 t956, .string t957, .string t958]) (ok := fun _ => True) (okp := fun _ => True) ?hr ?hp (fun _ hk => hk) trivial (Below.refl _ _) (Nat.le_refl _) (by simp) ?_; (case hd => rfl); (case hg => rfl); (case hr => first | (go_simp; done) | (go_simp; rfl)); (case hp => exact (Reps.c7 (show Kd.M k110 _ _ _ (⟨t917, (⟨t918, t919, t920, t921⟩ : S75), t922, t923⟩ : S110) [.string t917, .int .i64 t918, .int .i64 t919, .int .i64 t920, .int .i64 t921, .string t922, .string t923] from (k110_mkM _ _ _ (⟨t917, (⟨t918, t919, t920, t921⟩ : S75), t922, t923⟩ : S110) )) (Reps.c7 (show Kd.M k110 _ _ _ (⟨t924, (⟨t925, t926, t927, t928⟩ : S75), t929, t930⟩ : S110) [.string t924, .int .i64 t925, .int .i64 t926, .int .i64 t927, .int .i64 t928, .string t929, .string t930] from (k110_mkM _ _ _ (⟨t924, (⟨t925, t926, t927, t928⟩ : S75), t929, t930⟩ : S110) )) (Reps.c7 (show Kd.M k110 _ _ _ (⟨t931, (⟨t932, t933, t934, t935⟩ : S75), t936, t937⟩ : S110) [.string t931, .int .i64 t932, .int .i64 t933, .int .i64 t934, .int .i64 t935, .string t936, .string t937] from (k110_mkM _ _ _ (⟨t931, (⟨t932, t933, t934, t935⟩ : S75), t936, t937⟩ : S110) )) (Reps.c7 (show Kd.M k110 _ _ _ (⟨t938, (⟨t939, t940, t941, t942⟩ : S75), t943, t944⟩ : S110) [.string t938, .int .i64 t939, .int .i64 t940, .int .i64 t941, .int .i64 t942, .string t943, .string t944] from (k110_mkM _ _ _ (⟨t938, (⟨t939, t940, t941, t942⟩ : S75), t943, t944⟩ : S110) )) (Reps.c7 (show Kd.M k110 _ _ _ (⟨t945, (⟨t946, t947, t948, t949⟩ : S75), t950, t951⟩ : S110) [.string t945, .int .i64 t946, .int .i64 t947, .int .i64 t948, .int .i64 t949, .string t950, .string t951] from (k110_mkM _ _ _ (⟨t945, (⟨t946, t947, t948, t949⟩ : S75), t950, t951⟩ : S110) )) (Reps.c7 (show Kd.M k110 _ _ _ (⟨t952, (⟨t953, t954, t955, t956⟩ : S75), t957, t958⟩ : S110) [.string t952, .int .i64 t953, .int .i64 t954, .int .i64 t955, .int .i64 t956, .string t957, .string t958] from (k110_mkM _ _ _ (⟨t952, (⟨t953, t954, t955, t956⟩ : S75), t957, t958⟩ : S110) )) (Reps.none _ _))))))))
 intro v960 w19 ho20 hb hg_ hnew_;clear hg_ hnew_
 (first | rw [← Ny959.out] at ho20 | (simp only [Int.reduceToNat] at ho20; rw [← Ny959.out] at ho20))
 have HO961 := Aside0.mk (Kd.R_lower ho20 (below_size cB));replace BK916 := kB BK916 hb;replace HB := sB hb;clear hb ho20
 refine hK.out _ _ qh18x0 (fun hHeld => ?_)
 clear hK K;refine normZ (some 12) ?_
 refine pureZ 9 (some 3) (msk 10 1023) HT_.out ?_
 refine done_ (done_of HT_.out (by kernel_rfl)) ?_
 try go_wp2
 replace HO961 := Aside0.mk (Kd.R_drew HO961.out);replace BK916 := Aside0.mk (blk_drew BK916.out);replace HB := Aside0.mk (below_drew1 HB.out)
 refine start_ (n := 7) (S := fun w' => w'.cell? ⟨gb916, 0, none⟩ = some (.int .i64 a0_0) ∧ w'.cell? ⟨gb916, 1, none⟩ = some (.int .i64 a0_1) ∧ w'.cell? ⟨gb916, 2, none⟩ = some (.int .i64 a0_2) ∧ w'.cell? ⟨gb916, 3, none⟩ = some (.slice A0_3 l0_3.length c0_3)) (ds := []) #[false, false, false, false, false, false, false] (by kernel_rfl) rfl rfl ⟨(blk_cell BK916.out 0).trans rfl, (blk_cell BK916.out 1).trans rfl, (blk_cell BK916.out 2).trans rfl, (blk_cell BK916.out 3).trans rfl⟩ (fun hHeld => ?_)
 generalize w19.drew = w21 at HO961 BK916 HB hHeld ⊢
 refine pure_ (i := 0) (N := some 13) (v := ?_) (a' := ?_) #[true, false, false, false, false, false, false] rfl rfl (by kernel_rfl) (fun _ _ _ h => h) (Or.inl ⟨by rfl, ?_⟩) ?_ ?_
 rotate_left
 ·intro w';go_simp;with_reducible rfl
 rotate_left
 ·simp only [Act.put, List.setIfInBounds_toArray, List.set_cons_zero, List.set_cons_succ, i64_w, i32_w];rfl
 refine take_ (i := 1) (N := some 14) (v := ?_) (a' := ?_) #[true, true, false, false, false, false, false] rfl rfl (by kernel_rfl) (fun _ _ _ h => h) (Or.inl ⟨by rfl, ?_⟩) hHeld ?_ ?_
 rotate_left
 ·rintro w' ⟨s0, s1, s2, s3⟩;go_simp;with_reducible rfl
 rotate_left
 ·simp only [Act.put, List.setIfInBounds_toArray, List.set_cons_zero, List.set_cons_succ, i64_w, i32_w];rfl
 refine take_ (i := 2) (N := some 15) (v := ?_) (a' := ?_) #[true, true, true, false, false, false, false] rfl rfl (by kernel_rfl) (fun _ _ _ h => h) (Or.inl ⟨by rfl, ?_⟩) hHeld ?_ ?_
 rotate_left
 ·rintro w' ⟨s0, s1, s2, s3⟩;go_simp;with_reducible rfl
 rotate_left
 ·simp only [Act.put, List.setIfInBounds_toArray, List.set_cons_zero, List.set_cons_succ, i64_w, i32_w];rfl
 refine one_ (i := 3) (N := some 16) #[true, true, true, true, false, false, false] rfl rfl (by kernel_rfl) (by decide) (fun K hK => ?_)
 refine goes_ Try.func47 (by kernel_rfl) rfl #[.agg #[.int .i64 a0_0, .int .i64 a0_1, .int .i64 a0_2, .slice A0_3 l0_3.length c0_3]] (by rfl) rfl rfl (by (try simp only [List.map_toArray, List.map_cons, List.map_nil]); first | done | rfl | (simp only [List.length_drop, List.length_take]; rfl)) ?_
 with_reducible refine (impl_NumsOf.calls k a0_0 a0_1 a0_2 _ _ l0_3 t962 _ ?side1 ?side2 A8.out).mono ?_
 (case side1 => exact cC (Kd.C_below HR0_3.out HB.out))
 (case side2 => exact HC0_3.out)
 rintro e w22 ⟨v963, rfl, ho0, hb⟩;refine ⟨_, rfl, ?_⟩;replace HO961 := rB HO961 hb;have HO964 := Aside0.mk (Kd.R_lower ho0 (below_size cB));replace BK916 := kB BK916 hb;replace HB := sB hb;(try clear hb);(try clear ho0);obtain ⟨Ao23, co23, eo23⟩ := Kd.R_slice HO964.out
 (first | subst eo23 | (injection eo23 with f1_ f2_ f3_; have f4_ := f1_.symm; have f5_ := f3_.symm; clear f1_ f2_ f3_; subst f4_; subst f5_))
 refine hK.out _ _ qh18x0 (fun hHeld => ?_)
 clear hK K;refine normZ (some 16) ?_
 refine one_ (i := 4) (N := some 17) #[true, true, true, true, true, false, false] rfl rfl (by kernel_rfl) (by decide) (fun K hK => ?_)
 refine goes_ Try.func43 (by kernel_rfl) rfl #[.agg #[.int .i64 a0_0, .int .i64 a0_1, .int .i64 a0_2, .slice A0_3 l0_3.length c0_3], .slice Ao23 t962.length co23, .string (⟨#[116]⟩ : ByteArray)] (by rfl) rfl rfl (by (try simp only [List.map_toArray, List.map_cons, List.map_nil]); first | done | rfl | (simp only [List.length_drop, List.length_take]; rfl)) ?_
 with_reducible refine (impl_TreeLines.calls k a0_0 a0_1 a0_2 _ _ l0_3 _ _ t962 (⟨#[116]⟩ : ByteArray) t965 _ ?side1 ?side2 ?side3 ?side4 A9.out).mono ?_
 (case side1 => exact cC (Kd.C_below HR0_3.out HB.out))
 (case side2 => exact HC0_3.out)
 (case side3 => exact cC ((Kd.R_reads' HO964.out).2.2))
 (case side4 => exact (Kd.R_reads' HO964.out).2.1)
 rintro e w24 ⟨v966, rfl, ho0, hb⟩;refine ⟨_, rfl, ?_⟩;replace HO964 := rB HO964 hb;have HO967 := Aside0.mk (Kd.R_lower (Kd.R_new' ho0 (Kd.R_lt (mR HO961))) (below_size cB));replace HO961 := eB HO961 (Kd.R_base ho0) hb;replace BK916 := kB BK916 hb;replace HB := sB hb;(try clear hb);(try clear ho0);obtain ⟨Ao26, co26, eo26⟩ := Kd.R_slice HO967.out
 (first | subst eo26 | (injection eo26 with f1_ f2_ f3_; have f4_ := f1_.symm; have f5_ := f3_.symm; clear f1_ f2_ f3_; subst f4_; subst f5_))
 refine hK.out _ _ qh18x0 (fun hHeld => ?_)
 clear hK K;refine normZ (some 17) ?_
 refine one_ (i := 5) (N := some 18) #[true, true, true, true, true, true, false] rfl rfl (by kernel_rfl) (by decide) (fun K hK => ?_)
 refine Kd.R_append_rows_step k110 (w0 := w) w.heap.size (by rfl) (.tmp 13) (.tmp 17) 56 110 (.agg #[(.string ⟨#[]⟩), (.int .i64 0), (.int .i64 0), (.int .i64 0), (.int .i64 0), (.string ⟨#[]⟩), (.string ⟨#[]⟩)]) 80 rfl Try.underlying56 info110 rfl (by decide) (by omega) v960 y959 t965 _ _ _ (fun k_ => some k_ ≠ (.slice Ao26 t965.length co26 : Value).ownBlock) (fun _ => False) rfl rfl ?aO ?aR (fun _ _ h => h) (fun _ h => h.elim) ?aF ?aB ?aS ?aL ?_
 (case aR => exact cC ((Kd.R_reads' HO967.out).2.2))
 (case aB => exact cB)
 (case aF => exact (fun k_ hk => Kd.fresh' (Kd.R_lt (mR HO967)) k_ hk))
 (case aO => exact (by (with_reducible repeat (first | apply Kd.R_alloc | apply Kd.R_drewN | apply Kd.R_drew)); exact Kd.R_mono HO961.out (fun _ hk => hk.2)))
 (case aS => exact (below_size cB))
 (case aL => have := LMc10.out; omega)
 intro v969 w25 ho hb hg hat;rw [← Ny968.out] at ho
 replace BK916 := Aside0.mk (blk_grown (mK BK916) hg (Kd.R_ne HO961.out BK916.out (by decide)))
 replace HO964 := Aside0.mk (Kd.R_over' (mR HO964) (Kd.R_typed (mR HO961)) (by decide) hg)
 replace HO967 := Aside0.mk (Kd.R_after (ok := (fun _ => True)) (mR HO967) hg hat)
 replace HB := Aside0.mk (hb);have HO970 := Aside0.mk (ho);clear HO961 ho hb hg hat
 refine hK.out _ _ qh18x0 (fun hHeld => ?_)
 clear hK K;refine normZ (some 18) ?_
 refine pure_ (i := 6) (N := some 2) (v := ?_) (a' := ?_) #[true, true, true, true, true, true, true] rfl rfl (by kernel_rfl) (fun _ _ _ h => h) (Or.inl ⟨by rfl, ?_⟩) ?_ ?_
 rotate_left
 ·intro w';go_simp;with_reducible rfl
 rotate_left
 ·simp only [Act.put, List.setIfInBounds_toArray, List.set_cons_zero, List.set_cons_succ, i64_w, i32_w];rfl
 refine done_ (by kernel_rfl) ?_
 try go_wp2
 go_ret
 exact ⟨_, rE, by (with_reducible repeat (first | apply Kd.R_alloc | apply Kd.R_drewN | apply Kd.R_drew)); exact Kd.R_mono HO970.out (fun _ hk => trivial), cB⟩
end Go.Proofs.Ytcmcpmkihpdnjaa.PFnExactPolicyLines
