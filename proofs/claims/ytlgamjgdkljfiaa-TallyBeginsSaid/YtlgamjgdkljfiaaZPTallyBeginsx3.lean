-- Written by shrink.py, a program of this session: what the law needs of the print and its words. Lean checks it.
import Derived.Test.YtlgamjgdkljfiaaZPTallyBeginsx0
import Derived.WalkLawsBesides
import Derived.Laws.Externs
namespace Go.Proofs.Ytlgamjgdkljfiaa.PTallyBegins
open Go.RowKit Go.Proofs.YtlgamjgdkljfiaaW.PrintWords Go.Proofs.YtlgamjgdkljfiaaW.PrintLast Go.Proofs.YtlgamjgdkljfiaaW.PrintMore
attribute [local go_sem] run_fadd run_fsub run_fmul run_fquo unary_fneg run_store_f64 run_store_c128 run_cadd
attribute [local go_sem] max2_int min2_int max_two min_two max_three min_three max_four min_four
set_option linter.unusedVariables false
set_option linter.unusedSimpArgs false
def absB (x : Nat) : Nat:=(Go.bits .andNot .u64 (x : Int) 9223372036854775808).toNat
def math_Abs.f (a0 : Nat) : Option Nat:=some (absB a0)
theorem f64bits_run (P : Program) (x : Nat) (w : World) : (Extern.MathFloatBits.float64bits #[.float .f64 x]).run P w = .ok (.int .u64 (x : Int)) w:=rfl
theorem f64from_run (P : Program) (n : Int) (w : World) : (Extern.MathFloatBits.float64frombits #[.int .u64 n]).run P w = .ok (.float .f64 n.toNat) w:=rfl
set_option maxHeartbeats 1000000 in
set_option maxRecDepth 100000 in
theorem math_Abs.calls (a0 : Nat) (r : Nat) (w : World) (h : math_Abs.f a0 = some r) :
  Calls Try.prog 66 #[.float .f64 a0] w fun e w'=>e = .returned (.float .f64 r) ∧ Drawn0 w w':=by
 unfold math_Abs.f at h
 injection h with h
 subst h;go_enter Try.func66,Try.ntmps66;go_wp2
 rw [run_callFunc_extern Try.func30 (by kernel_rfl) (by kernel_rfl) (by kernel_rfl) (e:=Extern.MathFloatBits.float64bits) (by kernel_rfl)];rw [f64bits_run];simp only [Result.andThen];rw [Oper.upon_value];go_wp2
 rw [run_callFunc_extern Try.func70 (by kernel_rfl) (by kernel_rfl) (by kernel_rfl) (e:=Extern.MathFloatBits.float64frombits) (by kernel_rfl),f64from_run];simp only [Result.andThen];rw [Oper.upon_value];go_wp2
 go_ret;exact ⟨rfl,Drawn0.refl _⟩
end Go.Proofs.Ytlgamjgdkljfiaa.PTallyBegins
