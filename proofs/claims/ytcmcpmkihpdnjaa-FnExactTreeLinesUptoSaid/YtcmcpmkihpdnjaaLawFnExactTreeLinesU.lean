/- The row of the law FnExactTreeLines in its second form: for every argument that reads as data of bulk at most 1048576 the call returns true, out of the contract of its text and of the pure statement. -/
import Derived.Test.YtcmcpmkihpdnjaaRows
import Derived.Test.YtcmcpmkihpdnjaaPFnExactTreeLinesy16
import Derived.Test.YtcmcpmkihpdnjaaMFnExactTreeLines
import Derived.Test.YtcmcpmkihpdnjaaVOpB
import Derived.WalkKit
import Derived.JoinedCond
import Derived.ProofKit
import Derived.OpenShut
import Derived.ShutString
import Derived.ChangeOld
import Derived.Below
import Derived.SizedLaws
namespace Go.Proofs.Ytcmcpmkihpdnjaa.fnExactTreeLines
open Go.ChangeShapes Go.WideShapes Go.ChangeAt Go.RowKit Go.Proofs.YtcmcpmkihpdnjaaW.Op Go.Proofs.YtcmcpmkihpdnjaaW.PrintWords Go.Proofs.Ytcmcpmkihpdnjaa.PFnExactTreeLines
set_option linter.unusedVariables false
theorem own : ownKnob Try.prog.godebug = none := by kernel_rfl
theorem laidOut : laidOutB Try.prog = true := by kernel_rfl
theorem sumc {α : Type} (c : Nat) : ∀ xs : List α, (xs.map (fun _ => c)).sum = c * xs.length
 | [] => by simp
 | x :: xs => by rw [List.map_cons, List.sum_cons, sumc c xs, List.length_cons, Nat.mul_add, Nat.mul_one, Nat.add_comm]
theorem sum2 {α : Type} (f g : α → Nat) : ∀ xs : List α, (xs.map (fun x => 6 * f x + g x)).sum = 6 * (xs.map f).sum + (xs.map g).sum
 | [] => by simp
 | x :: xs => by
  simp only [List.map_cons, List.sum_cons]
  have h := sum2 f g xs
  omega
theorem op176 : OpensB Try.prog k176 176 (fun x : S176 => ((Lit.int .i64 x.f0).wf = true ∧ (Lit.int .i64 x.f1).wf = true)) (fun _ => 2) := OpensB.imp (OpensB.struct (d := (Kd.pair (Kd.int .i64) (Kd.int .i64))) (fun x : S176 => (x.f0, x.f1)) (fun p => ⟨p.1, p.2⟩) (fun _ => rfl) Try.underlying176 (by kernel_rfl) (OpensFB.cons (Opens.toB (Opens.int Try.underlying3)) (by kernel_rfl) (OpensFB.last (Opens.toB (Opens.int Try.underlying3)) (by kernel_rfl)))) (fun x h => h) (fun _ => by decide)
theorem op178 : OpensB Try.prog k178 178 (fun x : S178 => ((Lit.int .i64 x.f0).wf = true ∧ ((Lit.int .i64 x.f1.f0).wf = true ∧ (Lit.int .i64 x.f1.f1).wf = true) ∧ (Lit.int .i64 x.f2).wf = true ∧ ((Lit.int .i64 x.f3.f0).wf = true ∧ (Lit.int .i64 x.f3.f1).wf = true))) (fun _ => 6) := OpensB.imp (OpensB.struct (d := (Kd.pair (Kd.int .i64) (Kd.pair k176 (Kd.pair (Kd.int .i64) k176)))) (fun x : S178 => (x.f0, x.f1, x.f2, x.f3)) (fun p => ⟨p.1, p.2.1, p.2.2.1, p.2.2.2⟩) (fun _ => rfl) Try.underlying178 (by kernel_rfl) (OpensFB.cons (Opens.toB (Opens.int Try.underlying3)) (by kernel_rfl) (OpensFB.cons op176 (by kernel_rfl) (OpensFB.cons (Opens.toB (Opens.int Try.underlying3)) (by kernel_rfl) (OpensFB.last op176 (by kernel_rfl)))))) (fun x h => h) (fun _ => by decide)
theorem op136 : OpensB Try.prog k136 136 (fun x : S136 => (((∀ u4 ∈ x.f0, (Lit.int .i64 u4).wf = true) ∧ x.f0.length ≤ maxLen) ∧ ((∀ u4 ∈ x.f1, ((Lit.int .i64 u4.f0).wf = true ∧ ((Lit.int .i64 u4.f1.f0).wf = true ∧ (Lit.int .i64 u4.f1.f1).wf = true) ∧ (Lit.int .i64 u4.f2).wf = true ∧ ((Lit.int .i64 u4.f3.f0).wf = true ∧ (Lit.int .i64 u4.f3.f1).wf = true))) ∧ x.f1.length ≤ maxLen) ∧ (Lit.int .i64 x.f2).wf = true ∧ (Lit.int .i64 x.f3).wf = true)) (fun x => 6 * x.f1.length + x.f0.length) := OpensB.imp (OpensB.struct (d := (Kd.pair (Kd.slice 3 (Kd.int .i64)) (Kd.pair (Kd.slice 178 k178) (Kd.pair (Kd.int .i64) (Kd.int .i64))))) (fun x : S136 => (x.f0, x.f1, x.f2, x.f3)) (fun p => ⟨p.1, p.2.1, p.2.2.1, p.2.2.2⟩) (fun _ => rfl) Try.underlying136 (by kernel_rfl) (OpensFB.cons (OpensB.slice Try.underlying62 (by kernel_rfl) (Opens.toB (Opens.int Try.underlying3))) (by kernel_rfl) (OpensFB.cons (OpensB.slice Try.underlying134 (by kernel_rfl) op178) (by kernel_rfl) (OpensFB.cons (Opens.toB (Opens.int Try.underlying3)) (by kernel_rfl) (OpensFB.last (Opens.toB (Opens.int Try.underlying3)) (by kernel_rfl)))))) (fun x h => h) (fun x => by show _ ≤ (x.f0.map (fun _ => 1)).sum + ((x.f1.map (fun _ => 6)).sum + (1 + 1)); rw [sumc, sumc]; omega)
set_option maxRecDepth 100000 in
theorem contract (H : Type) (enc : TypeId × Value → H) (W : World) (base : Nat) (args : Array Value) (ds gs : List (DataW H)) (before : List MemPlace)
 (hval0 : ∀ (j : Nat) t v, Try.f8.params[j]? = some t → args[j]? = some v → Value.okWide Try.prog W .any base t v)
 (hW : DataW.Whole enc Try.prog Try.f8.params.toList Rows.fnExactTreeLinesSpec.vars false W args.toList ds gs before) (hk : Rows.uptoSmall H (ds ++ gs) = true) :
 Calls Try.prog 8 args W fun e W' => ∃ v, e = .returned v ∧ Rows.fnExactTreeLinesSpec.post enc Try.prog Try.f8 false true false false W args v W' := by
 have hval : ∀ (j : Nat) t v, Try.f8.params[j]? = some t → args[j]? = some v → Value.okWide Try.prog W .any base t v := hval0
 have hW' := hW
 obtain ⟨p, q, hA0, hV, rfl, hfz, hnd⟩ := hW
 have hA : DataW.TrodAll enc Try.prog W 0 (fun _ => true) true Try.f8.params.toList args.toList ds p := hA0
 rw [Try.params8] at hA hval
 obtain ⟨v0, vs0, d0, ds0, p0, q0, hargs, rfl, rfl, h0, r0⟩ := trodAll_cons hA
 obtain ⟨v1, vs1, d1, ds1, p1, q1, rfl, rfl, rfl, h1, r1⟩ := trodAll_cons r0
 obtain ⟨v2, vs2, d2, ds2, p2, q2, rfl, rfl, rfl, h2, r2⟩ := trodAll_cons r1
 obtain ⟨rfl, rfl, rfl⟩ := trodAll_nil r2
 obtain rfl : args = #[v0, v1, v2] := by cases args; simp_all
 obtain ⟨rfl, rfl⟩ := trodVars_none hV
 have k0 := h0
 have lt0 : ∀ x ∈ p0, x.block < W.heap.size := by obtain ⟨m, hm⟩ := k0; exact DataW.trod_lt m _ _ _ hm
 obtain ⟨cs0, ⟨a0_0, ⟨a0_1, ⟨a0_2, l0_3⟩⟩⟩, rfl, hK0, hF0, hb0⟩ := arg_structB Try.underlying45 (OpensB.struct (d := (Kd.pair (Kd.int .i64) (Kd.pair (Kd.int .i64) (Kd.pair (Kd.int .i64) (Kd.slice 136 k136))))) id id (fun _ => rfl) Try.underlying45 (by kernel_rfl) (OpensFB.cons (Opens.toB (Opens.int Try.underlying3)) (by kernel_rfl) (OpensFB.cons (Opens.toB (Opens.int Try.underlying3)) (by kernel_rfl) (OpensFB.cons (Opens.toB (Opens.int Try.underlying3)) (by kernel_rfl) (OpensFB.last (OpensB.slice Try.underlying43 (by kernel_rfl) op136) (by kernel_rfl)))))) (hval 0 45 v0 rfl rfl) h0
 obtain ⟨_, _, rfl, rfl, ⟨_, _, rfl, rfl, ⟨_, _, rfl, rfl, ⟨A0_3, c0_3, rfl, hc0_3, hr0_3⟩⟩⟩⟩ := hK0
 have k1 := h1
 have lt1 : ∀ x ∈ p1, x.block < W.heap.size := by obtain ⟨m, hm⟩ := k1; exact DataW.trod_lt m _ _ _ hm
 obtain ⟨A1, c1, l1, rfl, hc1, hr1, hw1, hm1, hb1⟩ := arg_sliceB Try.underlying62 (by kernel_rfl) (Opens.toB (Opens.int Try.underlying3)) (hval 1 62 v1 rfl rfl) h1
 have k2 := h2
 have lt2 : ∀ x ∈ p2, x.block < W.heap.size := by obtain ⟨m, hm⟩ := k2; exact DataW.trod_lt m _ _ _ hm
 obtain ⟨a2, rfl, w2⟩ := arg_string Try.underlying9 h2 (hval 2 9 v2 rfl rfl)
 clear hA0 hval0
 have hk2 : Rows.uptoBulkAll ([d0, d1, d2] ++ []) ≤ 1048576 := of_decide_eq_true hk
 simp only [List.append_nil, Rows.uptoBulkAll] at hk2
 have hbk : 6 * (l0_3.map (fun y => y.f1.length)).sum + l1.length ≤ 1048576 := by
  have e0 : 1 + (1 + (1 + (l0_3.map (fun x => 6 * x.f1.length + x.f0.length)).sum)) ≤ Rows.uptoBulk d0 := hb0
  rw [sum2 (fun y : S136 => y.f1.length) (fun y : S136 => y.f0.length)] at e0
  rw [sumc] at hb1
  omega
 obtain ⟨k, h⟩ := Go.Proofs.Ytcmcpmkihpdnjaa.PFnExactTreeLines.main a0_0 a0_1 a0_2 l0_3 l1 a2 hF0.2.2.2 hbk
 show Calls Try.prog 8 #[.agg #[.int .i64 a0_0, .int .i64 a0_1, .int .i64 a0_2, .slice A0_3 l0_3.length c0_3], .slice A1 l1.length c1, .string a2] W _
 refine (laws_FnExactTreeLines.calls k a0_0 a0_1 a0_2 _ _ l0_3 _ _ l1 a2 true W hr0_3 hc0_3 hr1 hc1 h).mono fun e W' he => ?_
 obtain ⟨rfl, bel⟩ := he
 exact ⟨_, rfl, _, _, _, [], _, [], hW', trodAll_mk1 (shut_bool Try.underlying4 _), (trodAll_cons_mk (Below.trod laidOut (by kernel_rfl) (of_decide_eq_true (by kernel_rfl)) k0 bel lt0) (trodAll_cons_mk (Below.trod laidOut (by kernel_rfl) (of_decide_eq_true (by kernel_rfl)) k1 bel lt1) (trodAll_cons_mk (Below.trod laidOut (by kernel_rfl) (of_decide_eq_true (by kernel_rfl)) k2 bel lt2) trodAll_mk0))), rfl, bel.frame _, fun h => by cases h⟩
set_option maxRecDepth 100000 in
theorem lifted (os : Os) (started : os.Started) (H : Type) (enc : TypeId × Value → H) (F : Stop.Interp) :
 ReturnsInHanded {} Try.checked os 8 .any ((Rows.OpenSpec.upto Rows.fnExactTreeLinesSpec).pre6 enc Try.prog Try.f8 Rows.fnExactTreeLinesUptoRow.domain false) (((Rows.OpenSpec.upto Rows.fnExactTreeLinesSpec).at F).post enc Try.prog Try.f8 false true false false) := by
 refine returnsInHanded_of_cond (C := Try.checked) (s := Rows.OpenSpec.upto Rows.fnExactTreeLinesSpec) (k := Rows.uptoSmall) rfl own started (by kernel_rfl) Try.func8
  (OpenSpec.witness (enc := enc) (C := Try.checked) (s := Rows.OpenSpec.upto Rows.fnExactTreeLinesSpec) (k := Rows.uptoSmall) rfl false ⟨#[], #[.agg #[.int .i64 0, .int .i64 0, .int .i64 0, .slice none 0 0], .slice none 0 0, .string ByteArray.empty], []⟩ 8 (by kernel_rfl) (by kernel_rfl) (by kernel_rfl)
   (x := ([.agg [.lit (.int .i64 0), .lit (.int .i64 0), .lit (.int .i64 0), .nil], .nil, .lit (.string [])], [], [])) (by kernel_rfl) rfl (by kernel_rfl)) ?_
 intro W base args ds gs before hval hW _ hk _
 exact contract H enc W base args ds gs before hval hW hk
theorem proved : Rows.FnExactTreeLinesUptoSaid :=
 OpenClaim.holds_of_cond 8 Try.f8 rfl rfl rfl rfl rfl rfl rfl ⟨rfl, rfl, rfl, rfl, rfl⟩ rfl rfl rfl rfl rfl (by kernel_rfl) Try.func8 (by kernel_rfl)
  (of_decide_eq_true (by kernel_rfl)) (by unfold Func.isWrapper; first | (rw [if_pos (by decide +kernel)]; kernel_rfl) | (rw [if_neg (by decide +kernel)]; exact ⟨rfl, rfl⟩))
  (fun os started H enc _ F => lifted os started H enc F)
end Go.Proofs.Ytcmcpmkihpdnjaa.fnExactTreeLines
namespace Go.Proofs.Ytcmcpmkihpdnjaa
/-- The row, under a short name, for the claim. -/
theorem fnExactTreeLinesUpto_holds : Rows.FnExactTreeLinesUptoSaid := fnExactTreeLines.proved
end Go.Proofs.Ytcmcpmkihpdnjaa
