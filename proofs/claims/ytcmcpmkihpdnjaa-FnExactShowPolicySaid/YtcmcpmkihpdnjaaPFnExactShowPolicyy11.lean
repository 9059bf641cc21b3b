import Derived.Test.YtcmcpmkihpdnjaaPFnExactShowPolicyy0
import Derived.Test.YtcmcpmkihpdnjaaPFnExactShowPolicyy1
import Derived.Test.YtcmcpmkihpdnjaaPFnExactShowPolicyy3
import Derived.Test.YtcmcpmkihpdnjaaPFnExactShowPolicyy7
import Derived.Test.YtcmcpmkihpdnjaaPFnExactShowPolicyy10
namespace Go.Proofs.Ytcmcpmkihpdnjaa.PFnExactShowPolicy
open Go.RowKit Go.Proofs.YtcmcpmkihpdnjaaW.PrintWords Go.Proofs.YtcmcpmkihpdnjaaW.PrintLast Go.Proofs.YtcmcpmkihpdnjaaW.PrintMore Go.Proofs.YtcmcpmkihpdnjaaW.Z
attribute [local go_sem] isS max2_int min2_int max_two min_two max_three min_three max_four min_four
set_option linter.unusedVariables false
set_option linter.unusedSimpArgs false
theorem qh11x0 {P : Prop} (h : P := by exact ⟨(blk_cell BK323.out 0).trans rfl, (blk_cell BK323.out 1).trans rfl, (blk_cell BK323.out 2).trans rfl, (blk_cell BK323.out 3).trans rfl, (blk_cell BK307.out 0).trans rfl, (blk_cell BK307.out 1).trans rfl, (blk_cell BK307.out 2).trans rfl, (blk_cell BK307.out 3).trans rfl⟩) : P := h
def laws_FnExactShowPolicy.j0 : Nat → Bool → Int → Int → Int → List (S136) → Int → Int → Int → List (S91) → Option (Bool)
  | 0, _, _, _, _, _, _, _, _, _ => none
  | k + 1, x34, x308000, x308001, x308002, x308003, x324000, x324001, x324002, x324003 => if x34 = true then (some false) else ((laws_toPolicy.f k x308000 x308001 x308002 x308003).bind fun bt326 => ((laws_eqPolicy.f k x324000 x324001 x324002 x324003 bt326.1 bt326.2.1 bt326.2.2.1 bt326.2.2.2).bind fun t332 => (if t332 = true then (some true) else (some false))))
def laws_FnExactShowPolicy.f (k : Nat) (a0_0 : Int) (a0_1 : Int) (a0_2 : Int) (l0_3 : List (S136)) : Option (Bool) := (laws_szPolicy.f k a0_0 a0_1 a0_2 l0_3 1048576).bind fun t308 => (if t308 < 0 then (some true) else ((laws_toPolicy.f k a0_0 a0_1 a0_2 l0_3).bind fun bt309 => ((spec_ShowPolicy.f k bt309.1 bt309.2.1 bt309.2.2.1 bt309.2.2.2).bind fun bt315 => ((laws_toPolicy.f k a0_0 a0_1 a0_2 l0_3).bind fun bt317 => ((impl_ShowPolicy.f k bt317.1 bt317.2.1 bt317.2.2.1 bt317.2.2.2).bind fun bt324 => (if bt324.1.toList = bt315.1.toList then (laws_FnExactShowPolicy.j0 k (bt324.2 != bt315.2) a0_0 a0_1 a0_2 l0_3 bt317.1 bt317.2.1 bt317.2.2.1 bt317.2.2.2) else (laws_FnExactShowPolicy.j0 k true a0_0 a0_1 a0_2 l0_3 bt317.1 bt317.2.1 bt317.2.2.1 bt317.2.2.2)))))))
set_option maxHeartbeats 8000000 in
set_option maxRecDepth 100000 in
theorem laws_FnExactShowPolicy.calls (k : Nat) (a0_0 : Int) (a0_1 : Int) (a0_2 : Int) (A0_3 : Option Addr) (c0_3 : Nat) (l0_3 : List (S136)) (r : Bool) (w : World) (hr0_3 : Kd.C k136 w A0_3 l0_3.length l0_3) (hc0_3 : l0_3.length ≤ c0_3) (h : laws_FnExactShowPolicy.f k a0_0 a0_1 a0_2 l0_3 = some r) :
 Calls Try.prog 6 #[.agg #[.int .i64 a0_0, .int .i64 a0_1, .int .i64 a0_2, .slice A0_3 l0_3.length c0_3]] w fun e w' => e = .returned (.bool r) ∧ Below w.heap.size w w' := by
 have hu45 := Try.underlying45;have hu50 := Try.underlying50;have HR0_3 := Aside0.mk hr0_3;have HC0_3 := Aside0.mk hc0_3;clear hr0_3 hc0_3;have HB := Aside0.mk (Below.refl w.heap.size w)
 have H : ((laws_szPolicy.f k a0_0 a0_1 a0_2 l0_3 1048576).bind fun t308 => (if t308 < 0 then (some true) else ((laws_toPolicy.f k a0_0 a0_1 a0_2 l0_3).bind fun bt309 => ((spec_ShowPolicy.f k bt309.1 bt309.2.1 bt309.2.2.1 bt309.2.2.2).bind fun bt315 => ((laws_toPolicy.f k a0_0 a0_1 a0_2 l0_3).bind fun bt317 => ((impl_ShowPolicy.f k bt317.1 bt317.2.1 bt317.2.2.1 bt317.2.2.2).bind fun bt324 => (if bt324.1.toList = bt315.1.toList then (laws_FnExactShowPolicy.j0 k (bt324.2 != bt315.2) a0_0 a0_1 a0_2 l0_3 bt317.1 bt317.2.1 bt317.2.2.1 bt317.2.2.2) else (laws_FnExactShowPolicy.j0 k true a0_0 a0_1 a0_2 l0_3 bt317.1 bt317.2.1 bt317.2.2.1 bt317.2.2.2)))))))) = some r := h
 clear h;replace H := bE H;obtain ⟨t308, A2, H⟩ := H;by_cases c3 : t308 < 0
 ·rw [if_pos c3] at H;have c3b0 := decide_eq_true c3;clear c3;obtain rfl := Option.some.inj H;go_enter Try.func6, Try.ntmps6
  go_wp2_with (first|((with_reducible refine gN 1 ?_);refine boxZ 1 #[.int .i64 a0_0, .int .i64 a0_1, .int .i64 a0_2, .slice A0_3 l0_3.length c0_3] 45 ?_;intro gb307 hg w4 hbox hb;have BK307 := Aside0.mk (hbox);have GW307 := gS hg;have GE307 := gS hg;replace HB := sB hb;clear hb hbox hg;obtain ⟨hcz5_0, hcz5_1, hcz5_2, hcz5_3, hfz5_0, hfz5_1, hfz5_2, hfz5_3⟩ := cz4 BK307)|((with_reducible refine gF 28 ?_);refine goZ (some 11) Try.func28 #[.agg #[.int .i64 a0_0, .int .i64 a0_1, .int .i64 a0_2, .slice A0_3 l0_3.length c0_3], .int .i64 1048576] ?_;(with_reducible refine (laws_szPolicy.calls k a0_0 a0_1 a0_2 _ _ l0_3 1048576 t308 _ ?side1 ?side2 A2.out).mono ?_);(case side1 => exact cC (Kd.C_below HR0_3.out HB.out));(case side2 => exact HC0_3.out);rintro e w6 ⟨rfl, hb⟩;refine ⟨_, rfl, ?_⟩;replace BK307 := kB BK307 hb;replace HB := sB hb;(try clear hb)))
  go_ret;exact ⟨rE, cB⟩
 ·rw [if_neg c3] at H;have c3b0 := decide_eq_false c3;clear c3;replace H := bE H;obtain ⟨⟨t309, t310, t311, t312⟩, A7, H⟩ := H;(try dsimp only at H);replace H := bE H;obtain ⟨⟨t315, t316⟩, A8, H⟩ := H;(try dsimp only at H);replace H := bE H;obtain ⟨⟨t317, t318, t319, t320⟩, A9, H⟩ := H;(try dsimp only at H);replace H := bE H;obtain ⟨⟨t324, t325⟩, A10, H⟩ := H;(try dsimp only at H);have HC11 := Aside0.mk H;clear H;go_enter Try.func6, Try.ntmps6
  go_upto_region 8 with (first|((with_reducible refine gN 1 ?_);refine boxZ 1 #[.int .i64 a0_0, .int .i64 a0_1, .int .i64 a0_2, .slice A0_3 l0_3.length c0_3] 45 ?_;intro gb307 hg w12 hbox hb;have BK307 := Aside0.mk (hbox);have GW307 := gS hg;have GE307 := gS hg;replace HB := sB hb;clear hb hbox hg;obtain ⟨hcz13_0, hcz13_1, hcz13_2, hcz13_3, hfz13_0, hfz13_1, hfz13_2, hfz13_3⟩ := cz4 BK307)|((with_reducible refine gF 28 ?_);refine goZ (some 11) Try.func28 #[.agg #[.int .i64 a0_0, .int .i64 a0_1, .int .i64 a0_2, .slice A0_3 l0_3.length c0_3], .int .i64 1048576] ?_;(with_reducible refine (laws_szPolicy.calls k a0_0 a0_1 a0_2 _ _ l0_3 1048576 t308 _ ?side1 ?side2 A2.out).mono ?_);(case side1 => exact cC (Kd.C_below HR0_3.out HB.out));(case side2 => exact HC0_3.out);rintro e w14 ⟨rfl, hb⟩;refine ⟨_, rfl, ?_⟩;replace BK307 := kB BK307 hb;replace HB := sB hb;(try clear hb);obtain ⟨hcz15_0, hcz15_1, hcz15_2, hcz15_3, hfz15_0, hfz15_1, hfz15_2, hfz15_3⟩ := cz4 BK307)|((with_reducible refine gF 30 ?_);refine goZ (some 16) Try.func30 #[.agg #[.int .i64 a0_0, .int .i64 a0_1, .int .i64 a0_2, .slice A0_3 l0_3.length c0_3]] ?_;(with_reducible refine (laws_toPolicy.calls k a0_0 a0_1 a0_2 _ _ l0_3 t309 t310 t311 t312 _ ?side1 ?side2 A7.out).mono ?_);(case side1 => exact cC (Kd.C_below HR0_3.out HB.out));(case side2 => exact HC0_3.out);rintro e w16 ⟨v313, rfl, ho0, hb⟩;refine ⟨_, rfl, ?_⟩;have HO314 := Aside0.mk (Kd.S_lower ho0 (below_size cB));replace BK307 := kB BK307 hb;replace HB := sB hb;(try clear hb);(try clear ho0);obtain ⟨Ao17, co17, eo17⟩ := Kd.S_slice HO314.out;subst eo17)|((with_reducible refine gF 33 ?_);refine goZ (some 17) Try.func33 #[.agg #[.int .i64 t309, .int .i64 t310, .int .i64 t311, .slice Ao17 t312.length co17]] ?_;(with_reducible refine (spec_ShowPolicy.calls k t309 t310 t311 _ _ t312 t315 t316 _ ?side1 ?side2 A8.out).mono ?_);(case side1 => exact cC ((Kd.S_reads' HO314.out).2.2));(case side2 => exact (Kd.S_reads' HO314.out).2.1);rintro e w18 ⟨rfl, hb⟩;refine ⟨_, rfl, ?_⟩;replace HO314 := Aside0.mk (Kd.S_below (by (with_reducible repeat (first | apply Kd.S_alloc | apply Kd.S_drewN | apply Kd.S_drew)); exact HO314.out) hb);replace BK307 := kB BK307 hb;replace HB := sB hb;(try clear hb);obtain ⟨hcz19_0, hcz19_1, hcz19_2, hcz19_3, hfz19_0, hfz19_1, hfz19_2, hfz19_3⟩ := cz4 BK307)|((with_reducible refine gF 30 ?_);refine goZ (some 21) Try.func30 #[.agg #[.int .i64 a0_0, .int .i64 a0_1, .int .i64 a0_2, .slice A0_3 l0_3.length c0_3]] ?_;(with_reducible refine (laws_toPolicy.calls k a0_0 a0_1 a0_2 _ _ l0_3 t317 t318 t319 t320 _ ?side1 ?side2 A9.out).mono ?_);(case side1 => exact cC (Kd.C_below HR0_3.out HB.out));(case side2 => exact HC0_3.out);rintro e w20 ⟨v321, rfl, ho0, hb⟩;refine ⟨_, rfl, ?_⟩;have HO322 := Aside0.mk (Kd.S_lower (Kd.S_new' ho0 (Kd.S_lt (by (with_reducible repeat (first | apply Kd.S_alloc | apply Kd.S_drewN | apply Kd.S_drew)); exact HO314.out))) (below_size cB));replace HO314 := Aside0.mk (Kd.S_elder' (by (with_reducible repeat (first | apply Kd.S_alloc | apply Kd.S_drewN | apply Kd.S_drew)); exact HO314.out) (Kd.S_base ho0) hb);replace BK307 := kB BK307 hb;replace HB := sB hb;(try clear hb);(try clear ho0))|((with_reducible refine gN 6 ?_);refine boxZ 6 #[.int .i64 0, .int .i64 0, .int .i64 0, .slice none 0 0] 50 ?_;intro gb323 hg w21 hbox hb;replace HO314 := Aside0.mk (Kd.S_below (by (with_reducible repeat (first | apply Kd.S_alloc | apply Kd.S_drewN | apply Kd.S_drew)); exact HO314.out) hb);replace HO322 := Aside0.mk (Kd.S_below (by (with_reducible repeat (first | apply Kd.S_alloc | apply Kd.S_drewN | apply Kd.S_drew)); exact HO322.out) hb);have BK323 := Aside0.mk (hbox);have GW323 := gS hg;have GE323 := gS hg;replace HB := sB hb;have NB307_323 := nL hg BK307;have NB323_307 := nG hg BK307;replace BK307 := kB BK307 hb;clear hb hbox hg;have hnb22 := NB323_307.out;have hnc22 := NB307_323.out;obtain ⟨hcz23_0, hcz23_1, hcz23_2, hcz23_3, hfz23_0, hfz23_1, hfz23_2, hfz23_3⟩ := cz4 BK323;obtain ⟨Ao24, co24, eo24⟩ := Kd.S_slice HO322.out;subst eo24)|((with_reducible refine gF 34 ?_);refine goZ (some 24) Try.func34 #[.agg #[.int .i64 t317, .int .i64 t318, .int .i64 t319, .slice Ao24 t320.length co24]] ?_;(with_reducible refine (impl_ShowPolicy.calls k t317 t318 t319 _ _ t320 t324 t325 _ ?side1 ?side2 A10.out).mono ?_);(case side1 => refine (Kd.S_reads' (e := 91) (base := w.heap.size) (ok := fun k_ => (True ∧ some k_ ≠ (.slice Ao17 t312.length co17 : Value).ownBlock)) (n := t320.length) (c := co24) ?_).2.2; exact (by (with_reducible repeat (first | apply Kd.S_alloc | apply Kd.S_drewN | apply Kd.S_drew)); exact (Kd.S_mono (Kd.S_far (p := ⟨gb323, 3, none⟩) (Kd.S_far (p := ⟨gb323, 2, none⟩) (Kd.S_far (p := ⟨gb323, 1, none⟩) (Kd.S_far (p := ⟨gb323, 0, none⟩) (Kd.S_types HO322.out BK323.out (by decide)) (fun _ hk => hk.2) (.int .i64 t317)) (fun _ hk => hk.2) (.int .i64 t318)) (fun _ hk => hk.2) (.int .i64 t319)) (fun _ hk => hk.2) (.slice Ao24 t320.length co24)) (fun _ h_ => h_.1))));(case side2 => exact (Kd.S_reads' HO322.out).2.1);rintro e w25 ⟨rfl, hb⟩;refine ⟨_, rfl, ?_⟩;replace HO314 := Aside0.mk (Kd.S_below (by (with_reducible repeat (first | apply Kd.S_alloc | apply Kd.S_drewN | apply Kd.S_drew)); exact (Kd.S_mono (Kd.S_far (p := ⟨gb323, 3, none⟩) (Kd.S_far (p := ⟨gb323, 2, none⟩) (Kd.S_far (p := ⟨gb323, 1, none⟩) (Kd.S_far (p := ⟨gb323, 0, none⟩) (Kd.S_types HO314.out BK323.out (by decide)) (fun _ hk => hk.2) (.int .i64 t317)) (fun _ hk => hk.2) (.int .i64 t318)) (fun _ hk => hk.2) (.int .i64 t319)) (fun _ hk => hk.2) (.slice Ao24 t320.length co24)) (fun _ h_ => h_.1))) hb);replace HO322 := Aside0.mk (Kd.S_below (by (with_reducible repeat (first | apply Kd.S_alloc | apply Kd.S_drewN | apply Kd.S_drew)); exact (Kd.S_mono (Kd.S_far (p := ⟨gb323, 3, none⟩) (Kd.S_far (p := ⟨gb323, 2, none⟩) (Kd.S_far (p := ⟨gb323, 1, none⟩) (Kd.S_far (p := ⟨gb323, 0, none⟩) (Kd.S_types HO322.out BK323.out (by decide)) (fun _ hk => hk.2) (.int .i64 t317)) (fun _ hk => hk.2) (.int .i64 t318)) (fun _ hk => hk.2) (.int .i64 t319)) (fun _ hk => hk.2) (.slice Ao24 t320.length co24)) (fun _ h_ => h_.1))) hb);replace BK307 := kB BK307 hb;replace BK323 := kP BK323 hb (.cells #[.int .i64 t317, .int .i64 t318, .int .i64 t319, .slice Ao24 t320.length co24] 50 (0, 0));replace HB := sB hb;(try clear hb)))
  (try simp only [Act.put, List.setIfInBounds_toArray, List.set_cons_zero, List.set_cons_succ])
  go_cut [34] (fun v34 wc => ∃ (kq : Nat) (x34_10 : Bool), v34 = .bool x34_10 ∧ Aside0 (laws_FnExactShowPolicy.j0 kq x34_10 a0_0 a0_1 a0_2 l0_3 t317 t318 t319 t320 = some r) ∧ Aside0 (kq ≤ k) ∧ Aside0 (Kd.S k91 91 wc w.heap.size (fun _ => True) (.slice Ao24 t320.length co24) t320) ∧ Aside0 (wc.heap[gb307]? = some (.cells #[.int .i64 a0_0, .int .i64 a0_1, .int .i64 a0_2, (.slice A0_3 l0_3.length c0_3)] 45 (0, 0))) ∧ Aside0 (wc.heap[gb323]? = some (.cells #[.int .i64 t317, .int .i64 t318, .int .i64 t319, (.slice Ao24 t320.length co24)] 50 (0, 0))) ∧ Aside0 (Below w.heap.size w wc))
  case first =>
   have H := HC11.out;clear HC11;by_cases c26 : t324.toList = t315.toList
   ·rw [if_pos c26] at H;obtain ⟨c26b0, c26b1⟩ := eT c26;clear c26
    (first | rw [c26b0] | (simp only [i64_w, i32_w]; rw [c26b0]) | skip)
    have H' := Aside0.mk H;clear H;go_wp2;go_meet
    case rel => exact ⟨_, ((t325 != t316)), rS, H', ⟨oL⟩, ⟨by (with_reducible repeat (first | apply Kd.S_alloc | apply Kd.S_drewN | apply Kd.S_drew)); exact Kd.S_mono HO322.out (fun _ hk => trivial)⟩, ⟨mK BK307⟩, ⟨mK BK323⟩, ⟨cB⟩⟩
   ·rw [if_neg c26] at H;obtain ⟨c26b0, c26b1⟩ := eF c26
    (first | rw [c26b0] | (simp only [i64_w, i32_w]; rw [c26b0]) | skip)
    have H' := Aside0.mk H;clear H;go_wp2;go_meet
    case rel => exact ⟨_, (true), rS, H', ⟨oL⟩, ⟨by (with_reducible repeat (first | apply Kd.S_alloc | apply Kd.S_drewN | apply Kd.S_drew)); exact Kd.S_mono HO322.out (fun _ hk => trivial)⟩, ⟨mK BK307⟩, ⟨mK BK323⟩, ⟨cB⟩⟩
  case rest =>
   clear HC11;(try clear c3);(try clear c3b0);(try clear c26);(try clear c26b0);(try clear c26b1);(try clear hcz13_0);(try clear hcz13_1);(try clear hcz13_2);(try clear hcz13_3);(try clear hcz15_0);(try clear hcz15_1);(try clear hcz15_2);(try clear hcz15_3);(try clear hcz19_0);(try clear hcz19_1);(try clear hcz19_2);(try clear hcz19_3);(try clear hcz23_0);(try clear hcz23_1);(try clear hcz23_2);(try clear hcz23_3);(try clear hcz5_0);(try clear hcz5_1);(try clear hcz5_2);(try clear hcz5_3);(try clear hfz13_0);(try clear hfz13_1);(try clear hfz13_2);(try clear hfz13_3);(try clear hfz15_0);(try clear hfz15_1);(try clear hfz15_2);(try clear hfz15_3);(try clear hfz19_0);(try clear hfz19_1);(try clear hfz19_2);(try clear hfz19_3);(try clear hfz23_0);(try clear hfz23_1);(try clear hfz23_2);(try clear hfz23_3);(try clear hfz5_0);(try clear hfz5_1);(try clear hfz5_2);(try clear hfz5_3);obtain ⟨kq, x34_10, rfl, HA, HJ10, HO_324003, BK307, BK323, HB⟩ := hcut
   cases kq with
   | zero => exact absurd HA.out (by simp [laws_FnExactShowPolicy.j0])
   | succ kj10 =>
    have H := HA.out;clear HA;simp only [laws_FnExactShowPolicy.j0] at H;by_cases c27 : x34_10 = true
    ·subst c27;replace H := iT H;obtain rfl := Option.some.inj H;go_wp2;go_ret;exact ⟨rE, cB⟩
    ·replace c27 := Bool.eq_false_iff.mpr c27;subst c27;replace H := iF H;replace H := bE H;obtain ⟨⟨t326, t327, t328, t329⟩, A28, H⟩ := H;(try dsimp only at H);replace H := bE H;obtain ⟨t332, A29, H⟩ := H;by_cases c30 : t332 = true
     ·subst c30;replace H := iT H;obtain rfl := Option.some.inj H
      try go_wp2
      replace HO_324003 := Aside0.mk (Kd.S_drew HO_324003.out);replace BK307 := Aside0.mk (blk_drew BK307.out);replace BK323 := Aside0.mk (blk_drew BK323.out);replace HB := Aside0.mk (below_drew1 HB.out)
      refine start_ (n := 5) (S := fun w' => w'.cell? ⟨gb323, 0, none⟩ = some (.int .i64 t317) ∧ w'.cell? ⟨gb323, 1, none⟩ = some (.int .i64 t318) ∧ w'.cell? ⟨gb323, 2, none⟩ = some (.int .i64 t319) ∧ w'.cell? ⟨gb323, 3, none⟩ = some (.slice Ao24 t320.length co24) ∧ w'.cell? ⟨gb307, 0, none⟩ = some (.int .i64 a0_0) ∧ w'.cell? ⟨gb307, 1, none⟩ = some (.int .i64 a0_1) ∧ w'.cell? ⟨gb307, 2, none⟩ = some (.int .i64 a0_2) ∧ w'.cell? ⟨gb307, 3, none⟩ = some (.slice A0_3 l0_3.length c0_3)) (ds := []) #[false, false, false, false, false] (by kernel_rfl) rfl rfl ⟨(blk_cell BK323.out 0).trans rfl, (blk_cell BK323.out 1).trans rfl, (blk_cell BK323.out 2).trans rfl, (blk_cell BK323.out 3).trans rfl, (blk_cell BK307.out 0).trans rfl, (blk_cell BK307.out 1).trans rfl, (blk_cell BK307.out 2).trans rfl, (blk_cell BK307.out 3).trans rfl⟩ (fun hHeld => ?_)
      generalize wc.drew = w31 at HO_324003 BK307 BK323 HB hHeld ⊢
      refine take_ (i := 0) (N := some 35) (v := ?_) (a' := ?_) #[true, false, false, false, false] rfl rfl (by kernel_rfl) (fun _ _ _ h => h) (Or.inl ⟨by rfl, ?_⟩) hHeld ?_ ?_
      rotate_left
      ·rintro w' ⟨s0, s1, s2, s3, s4, s5, s6, s7⟩;go_simp;with_reducible rfl
      rotate_left
      ·simp only [Act.put, List.setIfInBounds_toArray, List.set_cons_zero, List.set_cons_succ, i64_w, i32_w];rfl
      refine take_ (i := 1) (N := some 36) (v := ?_) (a' := ?_) #[true, true, false, false, false] rfl rfl (by kernel_rfl) (fun _ _ _ h => h) (Or.inl ⟨by rfl, ?_⟩) hHeld ?_ ?_
      rotate_left
      ·rintro w' ⟨s0, s1, s2, s3, s4, s5, s6, s7⟩;go_simp;with_reducible rfl
      rotate_left
      ·simp only [Act.put, List.setIfInBounds_toArray, List.set_cons_zero, List.set_cons_succ, i64_w, i32_w];rfl
      refine one_ (i := 2) (N := some 37) #[true, true, true, false, false] rfl rfl (by kernel_rfl) (by decide) (fun K hK => ?_)
      refine goes_ Try.func30 (by kernel_rfl) rfl #[.agg #[.int .i64 a0_0, .int .i64 a0_1, .int .i64 a0_2, .slice A0_3 l0_3.length c0_3]] (by rfl) rfl rfl (by (try simp only [List.map_toArray, List.map_cons, List.map_nil]); first | done | rfl | (simp only [List.length_drop, List.length_take]; rfl)) ?_
      with_reducible refine (laws_toPolicy.calls kj10 a0_0 a0_1 a0_2 _ _ l0_3 t326 t327 t328 t329 _ ?side1 ?side2 A28.out).mono ?_
      (case side1 => exact cC (Kd.C_below HR0_3.out HB.out))
      (case side2 => exact HC0_3.out)
      rintro e w32 ⟨v330, rfl, ho0, hb⟩;refine ⟨_, rfl, ?_⟩
      have HO331 := Aside0.mk (Kd.S_lower (Kd.S_new' ho0 (Kd.S_lt (by (with_reducible repeat (first | apply Kd.S_alloc | apply Kd.S_drewN | apply Kd.S_drew)); exact HO_324003.out))) (below_size cB))
      replace HO_324003 := Aside0.mk (Kd.S_elder' (by (with_reducible repeat (first | apply Kd.S_alloc | apply Kd.S_drewN | apply Kd.S_drew)); exact HO_324003.out) (Kd.S_base ho0) hb)
      replace BK307 := kB BK307 hb;replace BK323 := kB BK323 hb;replace HB := sB hb;(try clear hb);(try clear ho0);obtain ⟨Ao33, co33, eo33⟩ := Kd.S_slice HO331.out
      (first | subst eo33 | (injection eo33 with f1_ f2_ f3_; have f4_ := f1_.symm; have f5_ := f3_.symm; clear f1_ f2_ f3_; subst f4_; subst f5_))
      refine hK.out _ _ qh11x0 (fun hHeld => ?_)
      clear hK K;refine normZ (some 37) ?_
      refine one_ (i := 3) (N := some 38) #[true, true, true, true, false] rfl rfl (by kernel_rfl) (by decide) (fun K hK => ?_)
      refine goes_ Try.func32 (by kernel_rfl) rfl #[.agg #[.int .i64 t317, .int .i64 t318, .int .i64 t319, .slice Ao24 t320.length co24], .agg #[.int .i64 t326, .int .i64 t327, .int .i64 t328, .slice Ao33 t329.length co33]] (by rfl) rfl rfl (by (try simp only [List.map_toArray, List.map_cons, List.map_nil]); first | done | rfl | (simp only [List.length_drop, List.length_take]; rfl)) ?_
      with_reducible refine (laws_eqPolicy.calls kj10 t317 t318 t319 _ _ t320 t326 t327 t328 _ _ t329 true _ ?side1 ?side2 ?side3 ?side4 A29.out).mono ?_
      (case side1 => exact cC ((Kd.S_reads' HO_324003.out).2.2))
      (case side2 => exact (Kd.S_reads' HO_324003.out).2.1)
      (case side3 => exact cC ((Kd.S_reads' HO331.out).2.2))
      (case side4 => exact (Kd.S_reads' HO331.out).2.1)
      rintro e w34 ⟨rfl, hb⟩;refine ⟨_, rfl, ?_⟩
      replace HO_324003 := Aside0.mk (Kd.S_below (by (with_reducible repeat (first | apply Kd.S_alloc | apply Kd.S_drewN | apply Kd.S_drew)); exact HO_324003.out) hb)
      replace HO331 := Aside0.mk (Kd.S_below (by (with_reducible repeat (first | apply Kd.S_alloc | apply Kd.S_drewN | apply Kd.S_drew)); exact HO331.out) hb)
      replace BK307 := kB BK307 hb;replace BK323 := kB BK323 hb;replace HB := sB hb;(try clear hb)
      refine hK.out _ _ qh11x0 (fun hHeld => ?_)
      clear hK K;refine normZ (some 38) ?_
      refine pure_ (i := 4) (N := some 39) (v := ?_) (a' := ?_) #[true, true, true, true, true] rfl rfl (by kernel_rfl) (fun _ _ _ h => h) (Or.inl ⟨by rfl, ?_⟩) ?_ ?_
      rotate_left
      ·intro w';go_simp;with_reducible rfl
      rotate_left
      ·simp only [Act.put, List.setIfInBounds_toArray, List.set_cons_zero, List.set_cons_succ, i64_w, i32_w];rfl
      refine done_ (by kernel_rfl) ?_
      try go_wp2
      go_ret;exact ⟨rE, cB⟩
     ·replace c30 := Bool.eq_false_iff.mpr c30;subst c30;replace H := iF H;obtain rfl := Option.some.inj H
      try go_wp2
      replace HO_324003 := Aside0.mk (Kd.S_drew HO_324003.out);replace BK307 := Aside0.mk (blk_drew BK307.out);replace BK323 := Aside0.mk (blk_drew BK323.out);replace HB := Aside0.mk (below_drew1 HB.out)
      refine start_ (n := 5) (S := fun w' => w'.cell? ⟨gb323, 0, none⟩ = some (.int .i64 t317) ∧ w'.cell? ⟨gb323, 1, none⟩ = some (.int .i64 t318) ∧ w'.cell? ⟨gb323, 2, none⟩ = some (.int .i64 t319) ∧ w'.cell? ⟨gb323, 3, none⟩ = some (.slice Ao24 t320.length co24) ∧ w'.cell? ⟨gb307, 0, none⟩ = some (.int .i64 a0_0) ∧ w'.cell? ⟨gb307, 1, none⟩ = some (.int .i64 a0_1) ∧ w'.cell? ⟨gb307, 2, none⟩ = some (.int .i64 a0_2) ∧ w'.cell? ⟨gb307, 3, none⟩ = some (.slice A0_3 l0_3.length c0_3)) (ds := []) #[false, false, false, false, false] (by kernel_rfl) rfl rfl ⟨(blk_cell BK323.out 0).trans rfl, (blk_cell BK323.out 1).trans rfl, (blk_cell BK323.out 2).trans rfl, (blk_cell BK323.out 3).trans rfl, (blk_cell BK307.out 0).trans rfl, (blk_cell BK307.out 1).trans rfl, (blk_cell BK307.out 2).trans rfl, (blk_cell BK307.out 3).trans rfl⟩ (fun hHeld => ?_)
      generalize wc.drew = w35 at HO_324003 BK307 BK323 HB hHeld ⊢
      refine take_ (i := 0) (N := some 35) (v := ?_) (a' := ?_) #[true, false, false, false, false] rfl rfl (by kernel_rfl) (fun _ _ _ h => h) (Or.inl ⟨by rfl, ?_⟩) hHeld ?_ ?_
      rotate_left
      ·rintro w' ⟨s0, s1, s2, s3, s4, s5, s6, s7⟩;go_simp;with_reducible rfl
      rotate_left
      ·simp only [Act.put, List.setIfInBounds_toArray, List.set_cons_zero, List.set_cons_succ, i64_w, i32_w];rfl
      refine take_ (i := 1) (N := some 36) (v := ?_) (a' := ?_) #[true, true, false, false, false] rfl rfl (by kernel_rfl) (fun _ _ _ h => h) (Or.inl ⟨by rfl, ?_⟩) hHeld ?_ ?_
      rotate_left
      ·rintro w' ⟨s0, s1, s2, s3, s4, s5, s6, s7⟩;go_simp;with_reducible rfl
      rotate_left
      ·simp only [Act.put, List.setIfInBounds_toArray, List.set_cons_zero, List.set_cons_succ, i64_w, i32_w];rfl
      refine one_ (i := 2) (N := some 37) #[true, true, true, false, false] rfl rfl (by kernel_rfl) (by decide) (fun K hK => ?_)
      refine goes_ Try.func30 (by kernel_rfl) rfl #[.agg #[.int .i64 a0_0, .int .i64 a0_1, .int .i64 a0_2, .slice A0_3 l0_3.length c0_3]] (by rfl) rfl rfl (by (try simp only [List.map_toArray, List.map_cons, List.map_nil]); first | done | rfl | (simp only [List.length_drop, List.length_take]; rfl)) ?_
      with_reducible refine (laws_toPolicy.calls kj10 a0_0 a0_1 a0_2 _ _ l0_3 t326 t327 t328 t329 _ ?side1 ?side2 A28.out).mono ?_
      (case side1 => exact cC (Kd.C_below HR0_3.out HB.out))
      (case side2 => exact HC0_3.out)
      rintro e w36 ⟨v330, rfl, ho0, hb⟩;refine ⟨_, rfl, ?_⟩
      have HO331 := Aside0.mk (Kd.S_lower (Kd.S_new' ho0 (Kd.S_lt (by (with_reducible repeat (first | apply Kd.S_alloc | apply Kd.S_drewN | apply Kd.S_drew)); exact HO_324003.out))) (below_size cB))
      replace HO_324003 := Aside0.mk (Kd.S_elder' (by (with_reducible repeat (first | apply Kd.S_alloc | apply Kd.S_drewN | apply Kd.S_drew)); exact HO_324003.out) (Kd.S_base ho0) hb)
      replace BK307 := kB BK307 hb;replace BK323 := kB BK323 hb;replace HB := sB hb;(try clear hb);(try clear ho0);obtain ⟨Ao37, co37, eo37⟩ := Kd.S_slice HO331.out
      (first | subst eo37 | (injection eo37 with f1_ f2_ f3_; have f4_ := f1_.symm; have f5_ := f3_.symm; clear f1_ f2_ f3_; subst f4_; subst f5_))
      refine hK.out _ _ qh11x0 (fun hHeld => ?_)
      clear hK K;refine normZ (some 37) ?_
      refine one_ (i := 3) (N := some 38) #[true, true, true, true, false] rfl rfl (by kernel_rfl) (by decide) (fun K hK => ?_)
      refine goes_ Try.func32 (by kernel_rfl) rfl #[.agg #[.int .i64 t317, .int .i64 t318, .int .i64 t319, .slice Ao24 t320.length co24], .agg #[.int .i64 t326, .int .i64 t327, .int .i64 t328, .slice Ao37 t329.length co37]] (by rfl) rfl rfl (by (try simp only [List.map_toArray, List.map_cons, List.map_nil]); first | done | rfl | (simp only [List.length_drop, List.length_take]; rfl)) ?_
      with_reducible refine (laws_eqPolicy.calls kj10 t317 t318 t319 _ _ t320 t326 t327 t328 _ _ t329 false _ ?side1 ?side2 ?side3 ?side4 A29.out).mono ?_
      (case side1 => exact cC ((Kd.S_reads' HO_324003.out).2.2))
      (case side2 => exact (Kd.S_reads' HO_324003.out).2.1)
      (case side3 => exact cC ((Kd.S_reads' HO331.out).2.2))
      (case side4 => exact (Kd.S_reads' HO331.out).2.1)
      rintro e w38 ⟨rfl, hb⟩;refine ⟨_, rfl, ?_⟩
      replace HO_324003 := Aside0.mk (Kd.S_below (by (with_reducible repeat (first | apply Kd.S_alloc | apply Kd.S_drewN | apply Kd.S_drew)); exact HO_324003.out) hb)
      replace HO331 := Aside0.mk (Kd.S_below (by (with_reducible repeat (first | apply Kd.S_alloc | apply Kd.S_drewN | apply Kd.S_drew)); exact HO331.out) hb)
      replace BK307 := kB BK307 hb;replace BK323 := kB BK323 hb;replace HB := sB hb;(try clear hb)
      refine hK.out _ _ qh11x0 (fun hHeld => ?_)
      clear hK K;refine normZ (some 38) ?_
      refine pure_ (i := 4) (N := some 39) (v := ?_) (a' := ?_) #[true, true, true, true, true] rfl rfl (by kernel_rfl) (fun _ _ _ h => h) (Or.inl ⟨by rfl, ?_⟩) ?_ ?_
      rotate_left
      ·intro w';go_simp;with_reducible rfl
      rotate_left
      ·simp only [Act.put, List.setIfInBounds_toArray, List.set_cons_zero, List.set_cons_succ, i64_w, i32_w];rfl
      refine done_ (by kernel_rfl) ?_
      try go_wp2
      go_ret;exact ⟨rE, cB⟩
end Go.Proofs.Ytcmcpmkihpdnjaa.PFnExactShowPolicy
