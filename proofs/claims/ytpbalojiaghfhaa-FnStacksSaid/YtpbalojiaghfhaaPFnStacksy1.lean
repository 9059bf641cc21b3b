import Derived.Test.YtpbalojiaghfhaaPFnStacksy0
namespace Go.Proofs.Ytpbalojiaghfhaa.PFnStacks
open Go.RowKit Go.Proofs.YtpbalojiaghfhaaW.PrintWords Go.Proofs.YtpbalojiaghfhaaW.PrintLast Go.Proofs.YtpbalojiaghfhaaW.PrintMore Go.Proofs.YtpbalojiaghfhaaW.Z
open Kd
attribute [local go_sem] isS max2_int min2_int max_two min_two max_three min_three max_four min_four
set_option linter.unusedVariables false
set_option linter.unusedSimpArgs false
theorem eqA34 (d:Nat) (w:World) (a b:Int) (c e:Int) (f g:Int) (h i:Int) :
    (Op.equalIn (d+2) 34 (.agg #[.int .i64 a,.int .i64 c,.int .i64 f,.int .i64 h]) (.agg #[.int .i64 b,.int .i64 e,.int .i64 g,.int .i64 i])).run Try.prog w= .ok (a == b && (c == e && (f == g && (h == i)))) w:=by
  refine eqA_of Try.underlying34 (by kernel_rfl) ?_
  refine eqf_cons (by rfl) (by go_simp;rfl) (by go_simp;rfl) (by go_simp) ?_
  refine eqf_cons (by rfl) (by go_simp;rfl) (by go_simp;rfl) (by go_simp) ?_
  refine eqf_cons (by rfl) (by go_simp;rfl) (by go_simp;rfl) (by go_simp) ?_
  exact eqf_last (by rfl) (by go_simp;rfl) (by go_simp;rfl) (by go_simp)
end Go.Proofs.Ytpbalojiaghfhaa.PFnStacks
