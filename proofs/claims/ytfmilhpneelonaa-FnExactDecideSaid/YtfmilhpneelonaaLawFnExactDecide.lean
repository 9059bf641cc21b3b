/- The row of the law FnExactDecide: for every argument that reads as data the call returns true, out of the contract of its text and of the pure statement. -/
import Derived.Test.YtfmilhpneelonaaRows
import Derived.Test.YtfmilhpneelonaaPFnExactDecidey14
import Derived.Test.YtfmilhpneelonaaPureFnExactDecide
import Derived.Test.YtfmilhpneelonaaOp
import Derived.WalkKit
import Derived.ProofKit
import Derived.OpenShut
import Derived.ShutString
import Derived.ChangeOld
import Derived.Below
import Derived.SizedLaws
namespace Go.Proofs.Ytfmilhpneelonaa.fnExactDecide
open Go.ChangeShapes Go.WideShapes Go.ChangeAt Go.RowKit Go.Proofs.YtfmilhpneelonaaW.Op Go.Proofs.YtfmilhpneelonaaW.PrintWords Go.Proofs.Ytfmilhpneelonaa.PFnExactDecide
set_option linter.unusedVariables false
theorem own : ownKnob Try.prog.godebug = none := by kernel_rfl
theorem laidOut : laidOutB Try.prog = true := by kernel_rfl
theorem op199 : Opens Try.prog k199 199 (fun x : S199 => ((Lit.int .i64 x.f0).wf = true ∧ (Lit.int .i64 x.f1).wf = true)) := Opens.imp (Opens.struct (d := (Kd.pair (Kd.int .i64) (Kd.int .i64))) (fun x : S199 => (x.f0, x.f1)) (fun p => ⟨p.1, p.2⟩) (fun _ => rfl) Try.underlying199 (by kernel_rfl) (OpensF.cons (Opens.int Try.underlying3) (by kernel_rfl) (OpensF.last (Opens.int Try.underlying3) (by kernel_rfl)))) (fun x h => h)
theorem op201 : Opens Try.prog k201 201 (fun x : S201 => ((Lit.int .i64 x.f0).wf = true ∧ ((Lit.int .i64 x.f1.f0).wf = true ∧ (Lit.int .i64 x.f1.f1).wf = true) ∧ (Lit.int .i64 x.f2).wf = true ∧ ((Lit.int .i64 x.f3.f0).wf = true ∧ (Lit.int .i64 x.f3.f1).wf = true))) := Opens.imp (Opens.struct (d := (Kd.pair (Kd.int .i64) (Kd.pair k199 (Kd.pair (Kd.int .i64) k199)))) (fun x : S201 => (x.f0, x.f1, x.f2, x.f3)) (fun p => ⟨p.1, p.2.1, p.2.2.1, p.2.2.2⟩) (fun _ => rfl) Try.underlying201 (by kernel_rfl) (OpensF.cons (Opens.int Try.underlying3) (by kernel_rfl) (OpensF.cons op199 (by kernel_rfl) (OpensF.cons (Opens.int Try.underlying3) (by kernel_rfl) (OpensF.last op199 (by kernel_rfl)))))) (fun x h => h)
theorem op108 : Opens Try.prog k108 108 (fun x : S108 => (((∀ u4 ∈ x.f0, (Lit.int .i64 u4).wf = true) ∧ x.f0.length ≤ maxLen) ∧ ((∀ u4 ∈ x.f1, ((Lit.int .i64 u4.f0).wf = true ∧ ((Lit.int .i64 u4.f1.f0).wf = true ∧ (Lit.int .i64 u4.f1.f1).wf = true) ∧ (Lit.int .i64 u4.f2).wf = true ∧ ((Lit.int .i64 u4.f3.f0).wf = true ∧ (Lit.int .i64 u4.f3.f1).wf = true))) ∧ x.f1.length ≤ maxLen) ∧ (Lit.int .i64 x.f2).wf = true ∧ (Lit.int .i64 x.f3).wf = true)) := Opens.imp (Opens.struct (d := (Kd.pair (Kd.slice 3 (Kd.int .i64)) (Kd.pair (Kd.slice 201 k201) (Kd.pair (Kd.int .i64) (Kd.int .i64))))) (fun x : S108 => (x.f0, x.f1, x.f2, x.f3)) (fun p => ⟨p.1, p.2.1, p.2.2.1, p.2.2.2⟩) (fun _ => rfl) Try.underlying108 (by kernel_rfl) (OpensF.cons (Opens.slice Try.underlying37 (by kernel_rfl) (Opens.int Try.underlying3)) (by kernel_rfl) (OpensF.cons (Opens.slice Try.underlying106 (by kernel_rfl) op201) (by kernel_rfl) (OpensF.cons (Opens.int Try.underlying3) (by kernel_rfl) (OpensF.last (Opens.int Try.underlying3) (by kernel_rfl)))))) (fun x h => h)
set_option maxRecDepth 100000 in
theorem lifted (os : Os) (started : os.Started) (H : Type) (enc : TypeId × Value → H) :
 ReturnsInHanded {} Try.checked os 13 .any (Rows.fnExactDecideSpec.pre6 enc Try.prog Try.f13 Rows.fnExactDecideRow.domain false) (Rows.fnExactDecideSpec.post enc Try.prog Try.f13 false true false false) := by
 refine returnsInHanded_of_change_sized (C := Try.checked) own started (by kernel_rfl) Try.func13
  (ChangeSpec.witness6 (enc := enc) (C := Try.checked) false ⟨#[], #[.agg #[.int .i64 0, .int .i64 0, .int .i64 0, .slice none 0 0], .agg #[.int .i64 0, .int .i64 0, .slice none 0 0]], []⟩ 8 (by kernel_rfl) (by kernel_rfl) (by kernel_rfl) (by kernel_rfl)) ?_
 intro W base args ds gs before hval0 hW hcnd hsz0 _
 have hval : ∀ (j : Nat) t v, Try.f13.params[j]? = some t → args[j]? = some v → Value.okWide Try.prog W .any base t v := hval0
 have hW' := hW
 obtain ⟨p, q, hA0, hV, rfl, hfz, hnd⟩ := hW
 have hA : DataW.TrodAll enc Try.prog W 0 (fun _ => true) true Try.f13.params.toList args.toList ds p := hA0
 rw [Try.params13] at hA hval
 obtain ⟨v0, vs0, d0, ds0, p0, q0, hargs, rfl, rfl, h0, r0⟩ := trodAll_cons hA
 obtain ⟨v1, vs1, d1, ds1, p1, q1, rfl, rfl, rfl, h1, r1⟩ := trodAll_cons r0
 obtain ⟨rfl, rfl, rfl⟩ := trodAll_nil r1
 obtain rfl : args = #[v0, v1] := by cases args; simp_all
 obtain ⟨rfl, rfl⟩ := trodVars_none hV
 have k0 := h0
 have lt0 : ∀ x ∈ p0, x.block < W.heap.size := by obtain ⟨m, hm⟩ := k0; exact DataW.trod_lt m _ _ _ hm
 obtain ⟨cs0, ⟨a0_0, ⟨a0_1, ⟨a0_2, l0_3⟩⟩⟩, rfl, hK0, hF0⟩ := arg_struct Try.underlying118 (Opens.struct (d := (Kd.pair (Kd.int .i64) (Kd.pair (Kd.int .i64) (Kd.pair (Kd.int .i64) (Kd.slice 108 k108))))) id id (fun _ => rfl) Try.underlying118 (by kernel_rfl) (OpensF.cons (Opens.int Try.underlying3) (by kernel_rfl) (OpensF.cons (Opens.int Try.underlying3) (by kernel_rfl) (OpensF.cons (Opens.int Try.underlying3) (by kernel_rfl) (OpensF.last (Opens.slice Try.underlying116 (by kernel_rfl) op108) (by kernel_rfl)))))) (hval 0 118 v0 rfl rfl) h0
 obtain ⟨_, _, rfl, rfl, ⟨_, _, rfl, rfl, ⟨_, _, rfl, rfl, ⟨A0_3, c0_3, rfl, hc0_3, hr0_3⟩⟩⟩⟩ := hK0
 have k1 := h1
 have lt1 : ∀ x ∈ p1, x.block < W.heap.size := by obtain ⟨m, hm⟩ := k1; exact DataW.trod_lt m _ _ _ hm
 obtain ⟨cs1, ⟨a1_0, ⟨a1_1, l1_2⟩⟩, rfl, hK1, hF1⟩ := arg_struct Try.underlying121 (Opens.struct (d := (Kd.pair (Kd.int .i64) (Kd.pair (Kd.int .i64) (Kd.slice 199 k199)))) id id (fun _ => rfl) Try.underlying121 (by kernel_rfl) (OpensF.cons (Opens.int Try.underlying3) (by kernel_rfl) (OpensF.cons (Opens.int Try.underlying3) (by kernel_rfl) (OpensF.last (Opens.slice Try.underlying119 (by kernel_rfl) op199) (by kernel_rfl))))) (hval 1 121 v1 rfl rfl) h1
 obtain ⟨_, _, rfl, rfl, ⟨_, _, rfl, rfl, ⟨A1_2, c1_2, rfl, hc1_2, hr1_2⟩⟩⟩ := hK1
 clear hA0 hval0 hsz0
 obtain ⟨k, h⟩ := Pure.FnExactDecide a0_0 a0_1 a0_2 l0_3 a1_0 a1_1 l1_2 hF0 hF1
 show Calls Try.prog 13 #[.agg #[.int .i64 a0_0, .int .i64 a0_1, .int .i64 a0_2, .slice A0_3 l0_3.length c0_3], .agg #[.int .i64 a1_0, .int .i64 a1_1, .slice A1_2 l1_2.length c1_2]] W _
 refine (laws_FnExactDecide.calls k a0_0 a0_1 a0_2 _ _ l0_3 a1_0 a1_1 _ _ l1_2 true W hr0_3 hc0_3 hr1_2 hc1_2 h).mono fun e W' he => ?_
 obtain ⟨rfl, bel⟩ := he
 exact ⟨_, rfl, _, _, _, [], _, [], hW', trodAll_mk1 (shut_bool Try.underlying4 _), (trodAll_cons_mk (Below.trod laidOut (by kernel_rfl) (of_decide_eq_true (by kernel_rfl)) k0 bel lt0) (trodAll_cons_mk (Below.trod laidOut (by kernel_rfl) (of_decide_eq_true (by kernel_rfl)) k1 bel lt1) trodAll_mk0)), rfl, bel.frame _, fun h => by cases h⟩
theorem over : Rows.fnExactDecideRow.holds Try.pinned (OpenSpec.ofChange Rows.fnExactDecideSpec) :=
 OpenClaim.holds_of_wide 13 Try.f13 rfl rfl rfl rfl rfl rfl rfl ⟨rfl, rfl, rfl, rfl, rfl⟩ rfl rfl rfl rfl rfl (by kernel_rfl) Try.func13 (by kernel_rfl)
  (of_decide_eq_true (by kernel_rfl)) (by unfold Func.isWrapper; first | (rw [if_pos (by decide +kernel)]; kernel_rfl) | (rw [if_neg (by decide +kernel)]; exact ⟨rfl, rfl⟩))
  (fun os started H enc _ => lifted os started H enc)
theorem proved : Rows.FnExactDecideSaid := over
#print axioms proved
end Go.Proofs.Ytfmilhpneelonaa.fnExactDecide
namespace Go.Proofs.Ytfmilhpneelonaa
/-- The row, under a short name, for the claim. -/
theorem fnExactDecide_holds : Rows.FnExactDecideSaid := fnExactDecide.proved
end Go.Proofs.Ytfmilhpneelonaa
