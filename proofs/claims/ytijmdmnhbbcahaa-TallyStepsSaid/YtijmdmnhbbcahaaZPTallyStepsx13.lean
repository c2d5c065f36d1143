-- Written by shrink.py, a program of this session: what the law needs of the print and its words. Lean checks it.
import Derived.Test.YtijmdmnhbbcahaaZPTallyStepsx0
namespace Go.Proofs.Ytijmdmnhbbcahaa.PTallySteps
open Go.RowKit Go.Proofs.YtijmdmnhbbcahaaW.PrintWords Go.Proofs.YtijmdmnhbbcahaaW.PrintLast Go.Proofs.YtijmdmnhbbcahaaW.PrintMore
attribute [local go_sem] run_fadd run_fsub run_fmul run_fquo unary_fneg run_store_f64 run_store_c128 run_cadd
attribute [local go_sem] max2_int min2_int max_two min_two max_three min_three max_four min_four
set_option linter.unusedVariables false
set_option linter.unusedSimpArgs false
def quarryref13_Finite.f (a0 : Nat) : Option Bool:=some (fok .sub a0 a0 && (FloatKind.f64.format.order (fop .sub a0 a0) 0 == some .eq))
set_option maxHeartbeats 1000000 in
set_option maxRecDepth 100000 in
theorem quarryref13_Finite.calls (a0 : Nat) (r : Bool) (w : World) (h : quarryref13_Finite.f a0 = some r) :
  Calls Try.prog 29 #[.float .f64 a0] w fun e w'=>e = .returned (.bool r) ∧ Drawn0 w w':=by
 unfold quarryref13_Finite.f at h
 injection h with h
 subst h
 cases hf : fok .sub a0 a0 with
 | true =>
  go_enter Try.func29,Try.ntmps29;go_wp2
  go_ret;exact ⟨by rfl,Drawn0.refl _⟩
 | false =>
  have hn:=fun (t : TypeId) (w : World)=>run_fsub_nan (P:=Try.prog) (w:=w) (t:=t) hf
  have ho:=fun (w : World)=>order_nan_left w a0 a0 0
  go_enter Try.func29,Try.ntmps29;go_wp2
  go_ret;exact ⟨by rfl,⟨1,rfl⟩⟩
end Go.Proofs.Ytijmdmnhbbcahaa.PTallySteps
