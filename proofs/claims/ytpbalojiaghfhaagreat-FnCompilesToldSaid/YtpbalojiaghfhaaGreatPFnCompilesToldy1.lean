import Derived.Test.YtpbalojiaghfhaaGreatPFnCompilesToldy0
namespace Go.Proofs.YtpbalojiaghfhaaGreat.PFnCompilesTold
open Go.RowKit Go.Proofs.YtpbalojiaghfhaaGreatW.PrintWords Go.Proofs.YtpbalojiaghfhaaGreatW.PrintLast Go.Proofs.YtpbalojiaghfhaaGreatW.PrintMore Go.Proofs.YtpbalojiaghfhaaGreatW.Z
open Kd
attribute [local go_sem] isS max2_int min2_int max_two min_two max_three min_three max_four min_four
set_option linter.unusedVariables false
set_option linter.unusedSimpArgs false
theorem eqA71 (d:Nat) (w:World) (a b:Int) (c e:Int) (f g:Int) (h i:Int) :
    (Op.equalIn (d+2) 71 (.agg #[.int .i64 a,.int .i64 c,.int .i64 f,.int .i64 h]) (.agg #[.int .i64 b,.int .i64 e,.int .i64 g,.int .i64 i])).run Tryz.prog w= .ok (a == b && (c == e && (f == g && (h == i)))) w:=by
  refine eqA_of Tryz.underlying71 (by kernel_rfl) ?_
  refine eqf_cons (by rfl) (by go_simp;rfl) (by go_simp;rfl) (by go_simp) ?_
  refine eqf_cons (by rfl) (by go_simp;rfl) (by go_simp;rfl) (by go_simp) ?_
  refine eqf_cons (by rfl) (by go_simp;rfl) (by go_simp;rfl) (by go_simp) ?_
  exact eqf_last (by rfl) (by go_simp;rfl) (by go_simp;rfl) (by go_simp)
end Go.Proofs.YtpbalojiaghfhaaGreat.PFnCompilesTold
