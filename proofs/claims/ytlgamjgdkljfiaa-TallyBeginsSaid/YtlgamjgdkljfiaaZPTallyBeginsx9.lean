-- Written by shrink.py, a program of this session: what the law needs of the print and its words. Lean checks it.
import Derived.Test.YtlgamjgdkljfiaaZPTallyBeginsx0
import Derived.WalkMore
namespace Go.Proofs.Ytlgamjgdkljfiaa.PTallyBegins
open Go.RowKit Go.Proofs.YtlgamjgdkljfiaaW.PrintWords Go.Proofs.YtlgamjgdkljfiaaW.PrintLast Go.Proofs.YtlgamjgdkljfiaaW.PrintMore
attribute [local go_sem] run_fadd run_fsub run_fmul run_fquo unary_fneg run_store_f64 run_store_c128 run_cadd
attribute [local go_sem] max2_int min2_int max_two min_two max_three min_three max_four min_four
set_option linter.unusedVariables false
set_option linter.unusedSimpArgs false
def turnV (x : Nat) (m : Int) : Nat × Nat:=if m = 0 then (x,0) else if m = 1 then (0,Op.negFloat .f64 x) else if m = 2 then (Op.negFloat .f64 x,0) else (0,x)
set_option maxHeartbeats 1000000 in
set_option maxRecDepth 100000 in
theorem turned_calls (x : Nat) (p : Int) (w : World) (h0 : 0 ≤ p) (hp : p ≤ 1000000) :
  Calls Try.prog 48 #[.float .f64 x,.int .i64 p] w fun e w'=>e = .returned (.complex .f64 (turnV x (p % 4)).1 (turnV x (p % 4)).2) ∧ w' = w:=by
 by_cases q0 : p % 4 = 0
 ·have b0 : (p % 4 == 0) = true:=beq_iff_eq.mpr q0;have e : turnV x (p % 4) = (x,0):=if_pos q0;rw [e];clear q0 e;go_enter Try.func48,Try.ntmps48;go_wp2
  go_ret;exact ⟨rfl,rfl⟩
 have b0 : (p % 4 == 0) = false:=beq_eq_false_iff_ne.mpr q0
 by_cases q1 : p % 4 = 1
 ·have b1 : (p % 4 == 1) = true:=beq_iff_eq.mpr q1
  have e : turnV x (p % 4) = (0,Op.negFloat .f64 x):=by unfold turnV;rw [if_neg q0,if_pos q1]
  rw [e];clear q0 q1 e;go_enter Try.func48,Try.ntmps48;go_wp2
  go_ret;exact ⟨rfl,rfl⟩
 have b1 : (p % 4 == 1) = false:=beq_eq_false_iff_ne.mpr q1
 by_cases q2 : p % 4 = 2
 ·have b2 : (p % 4 == 2) = true:=beq_iff_eq.mpr q2
  have e : turnV x (p % 4) = (Op.negFloat .f64 x,0):=by unfold turnV;rw [if_neg q0,if_neg q1,if_pos q2]
  rw [e];clear q0 q1 q2 e;go_enter Try.func48,Try.ntmps48;go_wp2
  go_ret;exact ⟨rfl,rfl⟩
 have b2 : (p % 4 == 2) = false:=beq_eq_false_iff_ne.mpr q2
 have e : turnV x (p % 4) = (0,x):=by unfold turnV;rw [if_neg q0,if_neg q1,if_neg q2]
 rw [e];clear q0 q1 q2 e;go_enter Try.func48,Try.ntmps48;go_wp2
 go_ret;exact ⟨rfl,rfl⟩
theorem turned_at (x : Nat) (p m : Int) (w : World) (h0 : 0 ≤ p) (hp : p ≤ 1000000) (hm : p % 4 = m) :
  Calls Try.prog 48 #[.float .f64 x,.int .i64 p] w fun e w'=>e = .returned (.complex .f64 (turnV x m).1 (turnV x m).2) ∧ w' = w:=by
 subst hm;exact turned_calls x p w h0 hp
end Go.Proofs.Ytlgamjgdkljfiaa.PTallyBegins
