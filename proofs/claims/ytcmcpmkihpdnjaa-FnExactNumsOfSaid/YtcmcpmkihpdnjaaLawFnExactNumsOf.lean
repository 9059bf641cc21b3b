/- The row of the law FnExactNumsOf: for every argument that reads as data the call returns true, out of the contract of its text and of the pure statement. -/
import Derived.Test.YtcmcpmkihpdnjaaRows
import Derived.Test.YtcmcpmkihpdnjaaPFnExactNumsOfy5
import Derived.Test.YtcmcpmkihpdnjaaPureFnExactNumsOf
import Derived.Test.YtcmcpmkihpdnjaaOp
import Derived.WalkKit
import Derived.ProofKit
import Derived.OpenShut
import Derived.ShutString
import Derived.ChangeOld
import Derived.Below
import Derived.SizedLaws
namespace Go.Proofs.Ytcmcpmkihpdnjaa.fnExactNumsOf
open Go.ChangeShapes Go.WideShapes Go.ChangeAt Go.RowKit Go.Proofs.YtcmcpmkihpdnjaaW.Op Go.Proofs.YtcmcpmkihpdnjaaW.PrintWords Go.Proofs.Ytcmcpmkihpdnjaa.PFnExactNumsOf
set_option linter.unusedVariables false
theorem own : ownKnob Try.prog.godebug = none := by kernel_rfl
theorem laidOut : laidOutB Try.prog = true := by kernel_rfl
theorem op176 : Opens Try.prog k176 176 (fun x : S176 => ((Lit.int .i64 x.f0).wf = true ∧ (Lit.int .i64 x.f1).wf = true)) := Opens.imp (Opens.struct (d := (Kd.pair (Kd.int .i64) (Kd.int .i64))) (fun x : S176 => (x.f0, x.f1)) (fun p => ⟨p.1, p.2⟩) (fun _ => rfl) Try.underlying176 (by kernel_rfl) (OpensF.cons (Opens.int Try.underlying3) (by kernel_rfl) (OpensF.last (Opens.int Try.underlying3) (by kernel_rfl)))) (fun x h => h)
theorem op178 : Opens Try.prog k178 178 (fun x : S178 => ((Lit.int .i64 x.f0).wf = true ∧ ((Lit.int .i64 x.f1.f0).wf = true ∧ (Lit.int .i64 x.f1.f1).wf = true) ∧ (Lit.int .i64 x.f2).wf = true ∧ ((Lit.int .i64 x.f3.f0).wf = true ∧ (Lit.int .i64 x.f3.f1).wf = true))) := Opens.imp (Opens.struct (d := (Kd.pair (Kd.int .i64) (Kd.pair k176 (Kd.pair (Kd.int .i64) k176)))) (fun x : S178 => (x.f0, x.f1, x.f2, x.f3)) (fun p => ⟨p.1, p.2.1, p.2.2.1, p.2.2.2⟩) (fun _ => rfl) Try.underlying178 (by kernel_rfl) (OpensF.cons (Opens.int Try.underlying3) (by kernel_rfl) (OpensF.cons op176 (by kernel_rfl) (OpensF.cons (Opens.int Try.underlying3) (by kernel_rfl) (OpensF.last op176 (by kernel_rfl)))))) (fun x h => h)
theorem op136 : Opens Try.prog k136 136 (fun x : S136 => (((∀ u4 ∈ x.f0, (Lit.int .i64 u4).wf = true) ∧ x.f0.length ≤ maxLen) ∧ ((∀ u4 ∈ x.f1, ((Lit.int .i64 u4.f0).wf = true ∧ ((Lit.int .i64 u4.f1.f0).wf = true ∧ (Lit.int .i64 u4.f1.f1).wf = true) ∧ (Lit.int .i64 u4.f2).wf = true ∧ ((Lit.int .i64 u4.f3.f0).wf = true ∧ (Lit.int .i64 u4.f3.f1).wf = true))) ∧ x.f1.length ≤ maxLen) ∧ (Lit.int .i64 x.f2).wf = true ∧ (Lit.int .i64 x.f3).wf = true)) := Opens.imp (Opens.struct (d := (Kd.pair (Kd.slice 3 (Kd.int .i64)) (Kd.pair (Kd.slice 178 k178) (Kd.pair (Kd.int .i64) (Kd.int .i64))))) (fun x : S136 => (x.f0, x.f1, x.f2, x.f3)) (fun p => ⟨p.1, p.2.1, p.2.2.1, p.2.2.2⟩) (fun _ => rfl) Try.underlying136 (by kernel_rfl) (OpensF.cons (Opens.slice Try.underlying62 (by kernel_rfl) (Opens.int Try.underlying3)) (by kernel_rfl) (OpensF.cons (Opens.slice Try.underlying134 (by kernel_rfl) op178) (by kernel_rfl) (OpensF.cons (Opens.int Try.underlying3) (by kernel_rfl) (OpensF.last (Opens.int Try.underlying3) (by kernel_rfl)))))) (fun x h => h)
set_option maxRecDepth 100000 in
theorem lifted (os : Os) (started : os.Started) (H : Type) (enc : TypeId × Value → H) :
 ReturnsInHanded {} Try.checked os 9 .any (Rows.fnExactNumsOfSpec.pre6 enc Try.prog Try.f9 Rows.fnExactNumsOfRow.domain false) (Rows.fnExactNumsOfSpec.post enc Try.prog Try.f9 false true false false) := by
 refine returnsInHanded_of_change_sized (C := Try.checked) own started (by kernel_rfl) Try.func9
  (ChangeSpec.witness6 (enc := enc) (C := Try.checked) false ⟨#[], #[.agg #[.int .i64 0, .int .i64 0, .int .i64 0, .slice none 0 0]], []⟩ 8 (by kernel_rfl) (by kernel_rfl) (by kernel_rfl) (by kernel_rfl)) ?_
 intro W base args ds gs before hval0 hW hcnd hsz0 _
 have hval : ∀ (j : Nat) t v, Try.f9.params[j]? = some t → args[j]? = some v → Value.okWide Try.prog W .any base t v := hval0
 have hW' := hW
 obtain ⟨p, q, hA0, hV, rfl, hfz, hnd⟩ := hW
 have hA : DataW.TrodAll enc Try.prog W 0 (fun _ => true) true Try.f9.params.toList args.toList ds p := hA0
 rw [Try.params9] at hA hval
 obtain ⟨v0, vs0, d0, ds0, p0, q0, hargs, rfl, rfl, h0, r0⟩ := trodAll_cons hA
 obtain ⟨rfl, rfl, rfl⟩ := trodAll_nil r0
 obtain rfl : args = #[v0] := by cases args; simp_all
 obtain ⟨rfl, rfl⟩ := trodVars_none hV
 have k0 := h0
 have lt0 : ∀ x ∈ p0, x.block < W.heap.size := by obtain ⟨m, hm⟩ := k0; exact DataW.trod_lt m _ _ _ hm
 obtain ⟨cs0, ⟨a0_0, ⟨a0_1, ⟨a0_2, l0_3⟩⟩⟩, rfl, hK0, hF0⟩ := arg_struct Try.underlying45 (Opens.struct (d := (Kd.pair (Kd.int .i64) (Kd.pair (Kd.int .i64) (Kd.pair (Kd.int .i64) (Kd.slice 136 k136))))) id id (fun _ => rfl) Try.underlying45 (by kernel_rfl) (OpensF.cons (Opens.int Try.underlying3) (by kernel_rfl) (OpensF.cons (Opens.int Try.underlying3) (by kernel_rfl) (OpensF.cons (Opens.int Try.underlying3) (by kernel_rfl) (OpensF.last (Opens.slice Try.underlying43 (by kernel_rfl) op136) (by kernel_rfl)))))) (hval 0 45 v0 rfl rfl) h0
 obtain ⟨_, _, rfl, rfl, ⟨_, _, rfl, rfl, ⟨_, _, rfl, rfl, ⟨A0_3, c0_3, rfl, hc0_3, hr0_3⟩⟩⟩⟩ := hK0
 clear hA0 hval0 hsz0
 obtain ⟨k, h⟩ := Pure.FnExactNumsOf a0_0 a0_1 a0_2 l0_3 hF0
 show Calls Try.prog 9 #[.agg #[.int .i64 a0_0, .int .i64 a0_1, .int .i64 a0_2, .slice A0_3 l0_3.length c0_3]] W _
 refine (laws_FnExactNumsOf.calls k a0_0 a0_1 a0_2 _ _ l0_3 true W hr0_3 hc0_3 h).mono fun e W' he => ?_
 obtain ⟨rfl, bel⟩ := he
 exact ⟨_, rfl, _, _, _, [], _, [], hW', trodAll_mk1 (shut_bool Try.underlying4 _), (trodAll_cons_mk (Below.trod laidOut (by kernel_rfl) (of_decide_eq_true (by kernel_rfl)) k0 bel lt0) trodAll_mk0), rfl, bel.frame _, fun h => by cases h⟩
theorem over : Rows.fnExactNumsOfRow.holds Try.pinned (OpenSpec.ofChange Rows.fnExactNumsOfSpec) :=
 OpenClaim.holds_of_wide 9 Try.f9 rfl rfl rfl rfl rfl rfl rfl ⟨rfl, rfl, rfl, rfl, rfl⟩ rfl rfl rfl rfl rfl (by kernel_rfl) Try.func9 (by kernel_rfl)
  (of_decide_eq_true (by kernel_rfl)) (by unfold Func.isWrapper; first | (rw [if_pos (by decide +kernel)]; kernel_rfl) | (rw [if_neg (by decide +kernel)]; exact ⟨rfl, rfl⟩))
  (fun os started H enc _ => lifted os started H enc)
theorem proved : Rows.FnExactNumsOfSaid := over
#print axioms proved
end Go.Proofs.Ytcmcpmkihpdnjaa.fnExactNumsOf
namespace Go.Proofs.Ytcmcpmkihpdnjaa
/-- The row, under a short name, for the claim. -/
theorem fnExactNumsOf_holds : Rows.FnExactNumsOfSaid := fnExactNumsOf.proved
end Go.Proofs.Ytcmcpmkihpdnjaa
