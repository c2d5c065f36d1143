-- Written by shrink.py, a program of this session: what the law needs of the print and its words. Lean checks it.
import Derived.Test.YtlgamjgdkljfiaaZPTallyBeginsx0
import Derived.WalkLawsBesides
import Derived.Laws.Externs
namespace Go.Proofs.Ytlgamjgdkljfiaa.PTallyBegins
open Go.RowKit Go.Proofs.YtlgamjgdkljfiaaW.PrintWords Go.Proofs.YtlgamjgdkljfiaaW.PrintLast Go.Proofs.YtlgamjgdkljfiaaW.PrintMore
attribute [local go_sem] run_fadd run_fsub run_fmul run_fquo unary_fneg run_store_f64 run_store_c128 run_cadd
attribute [local go_sem] max2_int min2_int max_two min_two max_three min_three max_four min_four
set_option linter.unusedVariables false
set_option linter.unusedSimpArgs false
def math_Sqrt.f (a0 : Nat) : Option Nat:=FloatKind.f64.format.sqrt a0
theorem sqrt_run (P : Program) (x r : Nat) (w : World) (h : FloatKind.f64.format.sqrt x = some r) : (Extern.MathSqrt.sqrt #[.float .f64 x]).run P w = .ok (.float .f64 r) w:=by
 show (match FloatKind.f64.format.sqrt x with|some r=>(pure (.float .f64 r) : Sem Value)|none=>_).run P w = _
 rw [h];rfl
set_option maxHeartbeats 1000000 in
set_option maxRecDepth 100000 in
theorem math_Sqrt.calls (a0 : Nat) (r : Nat) (w : World) (h : math_Sqrt.f a0 = some r) :
  Calls Try.prog 47 #[.float .f64 a0] w fun e w'=>e = .returned (.float .f64 r) ∧ Drawn0 w w':=by
 unfold math_Sqrt.f at h
 have H:=Aside0.mk h;clear h;go_enter Try.func47,Try.ntmps47;go_wp2
 rw [run_callFunc_extern Try.func60 (by kernel_rfl) (by kernel_rfl) (by kernel_rfl) (e:=Extern.MathSqrt.sqrt) (by kernel_rfl)];rw [sqrt_run _ _ _ _ H.out];simp only [Result.andThen];rw [Oper.upon_value];go_wp2
 go_ret;exact ⟨rfl,Drawn0.refl _⟩
end Go.Proofs.Ytlgamjgdkljfiaa.PTallyBegins
