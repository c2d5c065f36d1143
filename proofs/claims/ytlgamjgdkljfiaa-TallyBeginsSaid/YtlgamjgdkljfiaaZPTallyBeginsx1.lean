-- Written by shrink.py, a program of this session: what the law needs of the print and its words. Lean checks it.
import Derived.Test.YtlgamjgdkljfiaaZPTallyBeginsx0
namespace Go.Proofs.Ytlgamjgdkljfiaa.PTallyBegins
open Go.RowKit Go.Proofs.YtlgamjgdkljfiaaW.PrintWords Go.Proofs.YtlgamjgdkljfiaaW.PrintLast Go.Proofs.YtlgamjgdkljfiaaW.PrintMore
attribute [local go_sem] run_fadd run_fsub run_fmul run_fquo unary_fneg run_store_f64 run_store_c128 run_cadd
attribute [local go_sem] max2_int min2_int max_two min_two max_three min_three max_four min_four
set_option linter.unusedVariables false
set_option linter.unusedSimpArgs false
theorem eqA56 (d : Nat) (w : World) (x0 y0 : Int) (x1 y1 : Nat) (x2 y2 : Nat) (x3 y3 : Nat) (x4 y4 : Nat) (x5 y5 : Nat) (x6 y6 : Nat) :
  (Op.equalIn (d + 2) 56 (.agg #[.int .i64 x0,.float .f64 x1,.float .f64 x2,.float .f64 x3,.float .f64 x4,.float .f64 x5,.float .f64 x6]) (.agg #[.int .i64 y0,.float .f64 y1,.float .f64 y2,.float .f64 y3,.float .f64 y4,.float .f64 y5,.float .f64 y6])).run Try.prog w = .ok (x0 == y0 && (Op.floatEq .f64 x1 y1 && (Op.floatEq .f64 x2 y2 && (Op.floatEq .f64 x3 y3 && (Op.floatEq .f64 x4 y4 && (Op.floatEq .f64 x5 y5 && (Op.floatEq .f64 x6 y6))))))) w:=by
 refine eqA_of Try.underlying56 (by kernel_rfl) ?_;refine eqf_cons (by rfl) (by go_simp;rfl) (by go_simp;rfl) (by go_simp) ?_;refine eqf_cons (by rfl) (by go_simp) (by go_simp) (run_equalIn_f64 Try.underlying27) ?_;refine eqf_cons (by rfl) (by go_simp) (by go_simp) (run_equalIn_f64 Try.underlying27) ?_;refine eqf_cons (by rfl) (by go_simp) (by go_simp) (run_equalIn_f64 Try.underlying27) ?_;refine eqf_cons (by rfl) (by go_simp) (by go_simp) (run_equalIn_f64 Try.underlying27) ?_;refine eqf_cons (by rfl) (by go_simp) (by go_simp) (run_equalIn_f64 Try.underlying27) ?_;exact eqf_last (by rfl) (by go_simp) (by go_simp) (run_equalIn_f64 Try.underlying27)
end Go.Proofs.Ytlgamjgdkljfiaa.PTallyBegins
