import Derived.Test.YtpbalojiaghfhaaGreatPFnCompilesToldy0
import Derived.Test.YtpbalojiaghfhaaGreatPFnCompilesToldy1
namespace Go.Proofs.YtpbalojiaghfhaaGreat.PFnCompilesTold
open Go.RowKit Go.Proofs.YtpbalojiaghfhaaGreatW.PrintWords Go.Proofs.YtpbalojiaghfhaaGreatW.PrintLast Go.Proofs.YtpbalojiaghfhaaGreatW.PrintMore Go.Proofs.YtpbalojiaghfhaaGreatW.Z
open Kd
attribute [local go_sem] isS max2_int min2_int max_two min_two max_three min_three max_four min_four
set_option linter.unusedVariables false
set_option linter.unusedSimpArgs false
theorem eqA86 (d:Nat) (w:World) (a b:ByteArray) (c e:Int) (f g:Int) (h i:Int) (j k:Int) (l m:ByteArray) (n o:ByteArray) :
    (Op.equalIn (d+3) 86 (.agg #[.string a,.int .i64 c,.int .i64 f,.int .i64 h,.int .i64 j,.string l,.string n]) (.agg #[.string b,.int .i64 e,.int .i64 g,.int .i64 i,.int .i64 k,.string m,.string o])).run Tryz.prog w= .ok (a.toList == b.toList && ((c == e && (f == g && (h == i && (j == k)))) && (l.toList == m.toList && (n.toList == o.toList)))) w:=by
  refine eqA_of Tryz.underlying86 (by kernel_rfl) ?_
  refine eqf_cons (by rfl) (by go_simp;rfl) (by go_simp;rfl) (by go_simp) ?_
  refine eqf_cons (by rfl) (by go_simp) (by go_simp) (eqA71 (d+0) w _ _ _ _ _ _ _ _) ?_
  refine eqf_cons (by rfl) (by go_simp;rfl) (by go_simp;rfl) (by go_simp) ?_
  exact eqf_last (by rfl) (by go_simp;rfl) (by go_simp;rfl) (by go_simp)
end Go.Proofs.YtpbalojiaghfhaaGreat.PFnCompilesTold
