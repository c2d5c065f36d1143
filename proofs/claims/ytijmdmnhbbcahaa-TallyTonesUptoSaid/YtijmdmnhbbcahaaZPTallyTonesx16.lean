-- Written by shrink.py, a program of this session: what the law needs of the print and its words. Lean checks it.
import Derived.Test.YtijmdmnhbbcahaaZPTallyTonesx0
namespace Go.Proofs.Ytijmdmnhbbcahaa.PTallyTones
open Go.RowKit Go.Proofs.YtijmdmnhbbcahaaW.PrintWords Go.Proofs.YtijmdmnhbbcahaaW.PrintLast Go.Proofs.YtijmdmnhbbcahaaW.PrintMore
attribute [local go_sem] run_fadd run_fsub run_fmul run_fquo unary_fneg run_store_f64 run_store_c128 run_cadd
attribute [local go_sem] max2_int min2_int max_two min_two max_three min_three max_four min_four
set_option linter.unusedVariables false
set_option linter.unusedSimpArgs false
def quarryref13_Below.f (a0 : Nat) : Option (Bool):=if (FloatKind.f64.format.order a0 0 == some .lt) = true then (some true) else (if (FloatKind.f64.format.order a0 0 == some .eq) = true then (if fok .quo 4607182418800017408 a0 = true then (some (FloatKind.f64.format.order (fop .quo 4607182418800017408 a0) 0 == some .lt)) else (none)) else (some false))
set_option maxHeartbeats 8000000 in
set_option maxRecDepth 100000 in
theorem quarryref13_Below.calls (a0 : Nat) (r : Bool) (w : World) (h : quarryref13_Below.f a0 = some r) :
  Calls Try.prog 51 #[.float .f64 a0] w fun e w'=>e = .returned (.bool r) ∧ Drawn0 w w':=by
 have H : (if (FloatKind.f64.format.order a0 0 == some .lt) = true then (some true) else (if (FloatKind.f64.format.order a0 0 == some .eq) = true then (if fok .quo 4607182418800017408 a0 = true then (some (FloatKind.f64.format.order (fop .quo 4607182418800017408 a0) 0 == some .lt)) else (none)) else (some false))) = some r:=h
 clear h
 by_cases c2 : (FloatKind.f64.format.order a0 0 == some .lt) = true
 ·rw [if_pos c2] at H
  have c2b0 : (FloatKind.f64.format.order a0 0 == some .lt) = true:=c2
  (try (have c2b1 : decide (FloatKind.f64.format.order a0 0 = some .lt) = true:=by simpa using c2))
  (try (have c2b2 : (FloatKind.f64.format.order a0 0 == some .lt) = true:=by simpa using c2))
  clear c2
  obtain rfl:=Option.some.inj H
  go_enter Try.func51,Try.ntmps51
  go_wp2
  go_ret
  exact ⟨by first|rfl|(simp;done)|(simp [*];done),by repeat (first|exact Drawn0.refl _|apply Drawn0.step)⟩
 ·rw [if_neg c2] at H
  have c2b0 : (FloatKind.f64.format.order a0 0 == some .lt) = false:=by simpa using c2
  (try (have c2b1 : decide (FloatKind.f64.format.order a0 0 = some .lt) = false:=by simpa using c2))
  (try (have c2b2 : (FloatKind.f64.format.order a0 0 == some .lt) = false:=by simpa using c2))
  (try (have c2b3 : ¬ (FloatKind.f64.format.order a0 0 = some .lt):=by simpa using c2))
  clear c2
  by_cases c3 : (FloatKind.f64.format.order a0 0 == some .eq) = true
  ·rw [if_pos c3] at H
   have c3b0 : (FloatKind.f64.format.order a0 0 == some .eq) = true:=c3
   (try (have c3b1 : decide (FloatKind.f64.format.order a0 0 = some .eq) = true:=by simpa using c3))
   (try (have c3b2 : (FloatKind.f64.format.order a0 0 == some .eq) = true:=by simpa using c3))
   clear c3
   by_cases c4 : fok .quo 4607182418800017408 a0 = true
   ·rw [if_pos c4] at H
    have c4b0:=eq_true c4
    have c4b1 : decide (fok .quo 4607182418800017408 a0 = true) = true:=decide_eq_true c4
    clear c4
    obtain rfl:=Option.some.inj H
    go_enter Try.func51,Try.ntmps51
    go_wp2
    go_ret
    exact ⟨by first|rfl|(simp;done)|(simp [*];done),by repeat (first|exact Drawn0.refl _|apply Drawn0.step)⟩
   ·rw [if_neg c4] at H
    exact absurd H (by simp)
  ·rw [if_neg c3] at H
   have c3b0 : (FloatKind.f64.format.order a0 0 == some .eq) = false:=by simpa using c3
   (try (have c3b1 : decide (FloatKind.f64.format.order a0 0 = some .eq) = false:=by simpa using c3))
   (try (have c3b2 : (FloatKind.f64.format.order a0 0 == some .eq) = false:=by simpa using c3))
   (try (have c3b3 : ¬ (FloatKind.f64.format.order a0 0 = some .eq):=by simpa using c3))
   clear c3
   obtain rfl:=Option.some.inj H
   go_enter Try.func51,Try.ntmps51
   go_wp2
   go_ret
   exact ⟨by first|rfl|(simp;done)|(simp [*];done),by repeat (first|exact Drawn0.refl _|apply Drawn0.step)⟩
def quarryref13_Same.f (a0 : Nat) (a1 : Nat) : Option (Bool):=if (FloatKind.f64.format.order a0 a1 == some .eq) = true then ((quarryref13_Below.f a0).bind fun t130=>((quarryref13_Below.f a1).bind fun t131=>(if (t130 == t131) = true then (some true) else (if (FloatKind.f64.format.order a0 a0 != some .eq) = true then (some (FloatKind.f64.format.order a1 a1 != some .eq)) else (some false))))) else (if (FloatKind.f64.format.order a0 a0 != some .eq) = true then (some (FloatKind.f64.format.order a1 a1 != some .eq)) else (some false))
set_option maxHeartbeats 8000000 in
set_option maxRecDepth 100000 in
theorem quarryref13_Same.calls (a0 : Nat) (a1 : Nat) (r : Bool) (w : World) (h : quarryref13_Same.f a0 a1 = some r) :
  Calls Try.prog 22 #[.float .f64 a0,.float .f64 a1] w fun e w'=>e = .returned (.bool r) ∧ Drawn0 w w':=by
 have H : (if (FloatKind.f64.format.order a0 a1 == some .eq) = true then ((quarryref13_Below.f a0).bind fun t130=>((quarryref13_Below.f a1).bind fun t131=>(if (t130 == t131) = true then (some true) else (if (FloatKind.f64.format.order a0 a0 != some .eq) = true then (some (FloatKind.f64.format.order a1 a1 != some .eq)) else (some false))))) else (if (FloatKind.f64.format.order a0 a0 != some .eq) = true then (some (FloatKind.f64.format.order a1 a1 != some .eq)) else (some false))) = some r:=h
 clear h
 by_cases c3 : (FloatKind.f64.format.order a0 a1 == some .eq) = true
 ·rw [if_pos c3] at H
  have c3b0 : (FloatKind.f64.format.order a0 a1 == some .eq) = true:=c3
  (try (have c3b1 : decide (FloatKind.f64.format.order a0 a1 = some .eq) = true:=by simpa using c3))
  (try (have c3b2 : (FloatKind.f64.format.order a0 a1 == some .eq) = true:=by simpa using c3))
  clear c3
  replace H:=Option.bind_eq_some_iff.mp H
  obtain ⟨t130,A40,H⟩:=H
  replace H : ((quarryref13_Below.f a1).bind fun t131=>(if (t130 == t131) = true then (some true) else (if (FloatKind.f64.format.order a0 a0 != some .eq) = true then (some (FloatKind.f64.format.order a1 a1 != some .eq)) else (some false)))) = some r:=H
  have A4:=Aside0.mk A40
  clear A40
  replace H:=Option.bind_eq_some_iff.mp H
  obtain ⟨t131,A50,H⟩:=H
  replace H : (if (t130 == t131) = true then (some true) else (if (FloatKind.f64.format.order a0 a0 != some .eq) = true then (some (FloatKind.f64.format.order a1 a1 != some .eq)) else (some false))) = some r:=H
  have A5:=Aside0.mk A50
  clear A50
  by_cases c6 : (t130 == t131) = true
  ·rw [if_pos c6] at H
   have c6b0 : (t130 == t131) = true:=c6
   (try (have c6b1 : decide (t130 = t131) = true:=by simpa using c6))
   (try (have c6b2 : (t130 == t131) = true:=by simpa using c6))
   clear c6
   obtain rfl:=Option.some.inj H
   go_enter Try.func22,Try.ntmps22
   go_wp2_with (first|(go_at_call 51;(with_reducible refine (quarryref13_Below.calls a0 t130 _ A4.out).mono ?_);rintro e w' ⟨rfl,⟨nd,rfl⟩⟩)|(go_at_call 51;(with_reducible refine (quarryref13_Below.calls a1 t131 _ A5.out).mono ?_);rintro e w' ⟨rfl,⟨nd,rfl⟩⟩))
   go_ret
   exact ⟨by first|rfl|(simp;done)|(simp [*];done),by repeat (first|exact Drawn0.refl _|apply Drawn0.step)⟩
  ·rw [if_neg c6] at H
   have c6b0 : (t130 == t131) = false:=by simpa using c6
   (try (have c6b1 : decide (t130 = t131) = false:=by simpa using c6))
   (try (have c6b2 : (t130 == t131) = false:=by simpa using c6))
   (try (have c6b3 : ¬ (t130 = t131):=by simpa using c6))
   clear c6
   by_cases c7 : (FloatKind.f64.format.order a0 a0 != some .eq) = true
   ·rw [if_pos c7] at H
    have c7b0 : (FloatKind.f64.format.order a0 a0 != some .eq) = true:=c7
    (try (have c7b1 : decide (FloatKind.f64.format.order a0 a0 = some .eq) = false:=by simpa using c7))
    (try (have c7b2 : (FloatKind.f64.format.order a0 a0 == some .eq) = false:=by simpa using c7))
    (try (have c7b3 : ¬ (FloatKind.f64.format.order a0 a0 = some .eq):=by simpa using c7))
    clear c7
    obtain rfl:=Option.some.inj H
    go_enter Try.func22,Try.ntmps22
    go_wp2_with (first|(go_at_call 51;(with_reducible refine (quarryref13_Below.calls a0 t130 _ A4.out).mono ?_);rintro e w' ⟨rfl,⟨nd,rfl⟩⟩)|(go_at_call 51;(with_reducible refine (quarryref13_Below.calls a1 t131 _ A5.out).mono ?_);rintro e w' ⟨rfl,⟨nd,rfl⟩⟩))
    go_ret
    exact ⟨by first|rfl|(simp;done)|(simp [*];done),by repeat (first|exact Drawn0.refl _|apply Drawn0.step)⟩
   ·rw [if_neg c7] at H
    have c7b0 : (FloatKind.f64.format.order a0 a0 != some .eq) = false:=by simpa using c7
    (try (have c7b1 : decide (FloatKind.f64.format.order a0 a0 = some .eq) = true:=by simpa using c7))
    (try (have c7b2 : (FloatKind.f64.format.order a0 a0 == some .eq) = true:=by simpa using c7))
    clear c7
    obtain rfl:=Option.some.inj H
    go_enter Try.func22,Try.ntmps22
    go_wp2_with (first|(go_at_call 51;(with_reducible refine (quarryref13_Below.calls a0 t130 _ A4.out).mono ?_);rintro e w' ⟨rfl,⟨nd,rfl⟩⟩)|(go_at_call 51;(with_reducible refine (quarryref13_Below.calls a1 t131 _ A5.out).mono ?_);rintro e w' ⟨rfl,⟨nd,rfl⟩⟩))
    go_ret
    exact ⟨by first|rfl|(simp;done)|(simp [*];done),by repeat (first|exact Drawn0.refl _|apply Drawn0.step)⟩
 ·rw [if_neg c3] at H
  have c3b0 : (FloatKind.f64.format.order a0 a1 == some .eq) = false:=by simpa using c3
  (try (have c3b1 : decide (FloatKind.f64.format.order a0 a1 = some .eq) = false:=by simpa using c3))
  (try (have c3b2 : (FloatKind.f64.format.order a0 a1 == some .eq) = false:=by simpa using c3))
  (try (have c3b3 : ¬ (FloatKind.f64.format.order a0 a1 = some .eq):=by simpa using c3))
  clear c3
  by_cases c8 : (FloatKind.f64.format.order a0 a0 != some .eq) = true
  ·rw [if_pos c8] at H
   have c8b0 : (FloatKind.f64.format.order a0 a0 != some .eq) = true:=c8
   (try (have c8b1 : decide (FloatKind.f64.format.order a0 a0 = some .eq) = false:=by simpa using c8))
   (try (have c8b2 : (FloatKind.f64.format.order a0 a0 == some .eq) = false:=by simpa using c8))
   (try (have c8b3 : ¬ (FloatKind.f64.format.order a0 a0 = some .eq):=by simpa using c8))
   clear c8
   obtain rfl:=Option.some.inj H
   go_enter Try.func22,Try.ntmps22
   go_wp2
   go_ret
   exact ⟨by first|rfl|(simp;done)|(simp [*];done),by repeat (first|exact Drawn0.refl _|apply Drawn0.step)⟩
  ·rw [if_neg c8] at H
   have c8b0 : (FloatKind.f64.format.order a0 a0 != some .eq) = false:=by simpa using c8
   (try (have c8b1 : decide (FloatKind.f64.format.order a0 a0 = some .eq) = true:=by simpa using c8))
   (try (have c8b2 : (FloatKind.f64.format.order a0 a0 == some .eq) = true:=by simpa using c8))
   clear c8
   obtain rfl:=Option.some.inj H
   go_enter Try.func22,Try.ntmps22
   go_wp2
   go_ret
   exact ⟨by first|rfl|(simp;done)|(simp [*];done),by repeat (first|exact Drawn0.refl _|apply Drawn0.step)⟩
end Go.Proofs.Ytijmdmnhbbcahaa.PTallyTones
