-- Written by shrink.py, a program of this session: what the law needs of the print and its words. Lean checks it.
import Derived.Test.YtijmdmnhbbcahaaZPTallyJoinsx0
namespace Go.Proofs.Ytijmdmnhbbcahaa.PTallyJoins
open Go.RowKit Go.Proofs.YtijmdmnhbbcahaaW.PrintWords Go.Proofs.YtijmdmnhbbcahaaW.PrintLast Go.Proofs.YtijmdmnhbbcahaaW.PrintMore
attribute [local go_sem] run_fadd run_fsub run_fmul run_fquo unary_fneg run_store_f64 run_store_c128 run_cadd
attribute [local go_sem] max2_int min2_int max_two min_two max_three min_three max_four min_four
set_option linter.unusedVariables false
set_option linter.unusedSimpArgs false
def quarryref13_Below.f (a0 : Nat) : Option (Bool):=if (FloatKind.f64.format.order a0 0 == some .lt) = true then (some true) else (if (FloatKind.f64.format.order a0 0 == some .eq) = true then (if fok .quo 4607182418800017408 a0 = true then (some (FloatKind.f64.format.order (fop .quo 4607182418800017408 a0) 0 == some .lt)) else (none)) else (some false))
set_option maxHeartbeats 8000000 in
set_option maxRecDepth 100000 in
theorem quarryref13_Below.calls (a0 : Nat) (r : Bool) (w : World) (h : quarryref13_Below.f a0 = some r) :
  Calls Try.prog 51 #[.float .f64 a0] w fun e w'=>e = .returned (.bool r) ∧ Drawn0 w w':=by
 have H : (if (FloatKind.f64.format.order a0 0 == some .lt) = true then (some true) else (if (FloatKind.f64.format.order a0 0 == some .eq) = true then (if fok .quo 4607182418800017408 a0 = true then (some (FloatKind.f64.format.order (fop .quo 4607182418800017408 a0) 0 == some .lt)) else (none)) else (some false))) = some r:=h
 clear h
 by_cases c2 : (FloatKind.f64.format.order a0 0 == some .lt) = true
 ·rw [if_pos c2] at H
  have c2b0 : (FloatKind.f64.format.order a0 0 == some .lt) = true:=c2
  (try (have c2b1 : decide (FloatKind.f64.format.order a0 0 = some .lt) = true:=by simpa using c2))
  (try (have c2b2 : (FloatKind.f64.format.order a0 0 == some .lt) = true:=by simpa using c2))
  clear c2
  obtain rfl:=Option.some.inj H
  go_enter Try.func51,Try.ntmps51
  go_wp2
  go_ret
  exact ⟨by first|rfl|(simp;done)|(simp [*];done),by repeat (first|exact Drawn0.refl _|apply Drawn0.step)⟩
 ·rw [if_neg c2] at H
  have c2b0 : (FloatKind.f64.format.order a0 0 == some .lt) = false:=by simpa using c2
  (try (have c2b1 : decide (FloatKind.f64.format.order a0 0 = some .lt) = false:=by simpa using c2))
  (try (have c2b2 : (FloatKind.f64.format.order a0 0 == some .lt) = false:=by simpa using c2))
  (try (have c2b3 : ¬ (FloatKind.f64.format.order a0 0 = some .lt):=by simpa using c2))
  clear c2
  by_cases c3 : (FloatKind.f64.format.order a0 0 == some .eq) = true
  ·rw [if_pos c3] at H
   have c3b0 : (FloatKind.f64.format.order a0 0 == some .eq) = true:=c3
   (try (have c3b1 : decide (FloatKind.f64.format.order a0 0 = some .eq) = true:=by simpa using c3))
   (try (have c3b2 : (FloatKind.f64.format.order a0 0 == some .eq) = true:=by simpa using c3))
   clear c3
   by_cases c4 : fok .quo 4607182418800017408 a0 = true
   ·rw [if_pos c4] at H
    have c4b0:=eq_true c4
    have c4b1 : decide (fok .quo 4607182418800017408 a0 = true) = true:=decide_eq_true c4
    clear c4
    obtain rfl:=Option.some.inj H
    go_enter Try.func51,Try.ntmps51
    go_wp2
    go_ret
    exact ⟨by first|rfl|(simp;done)|(simp [*];done),by repeat (first|exact Drawn0.refl _|apply Drawn0.step)⟩
   ·rw [if_neg c4] at H
    exact absurd H (by simp)
  ·rw [if_neg c3] at H
   have c3b0 : (FloatKind.f64.format.order a0 0 == some .eq) = false:=by simpa using c3
   (try (have c3b1 : decide (FloatKind.f64.format.order a0 0 = some .eq) = false:=by simpa using c3))
   (try (have c3b2 : (FloatKind.f64.format.order a0 0 == some .eq) = false:=by simpa using c3))
   (try (have c3b3 : ¬ (FloatKind.f64.format.order a0 0 = some .eq):=by simpa using c3))
   clear c3
   obtain rfl:=Option.some.inj H
   go_enter Try.func51,Try.ntmps51
   go_wp2
   go_ret
   exact ⟨by first|rfl|(simp;done)|(simp [*];done),by repeat (first|exact Drawn0.refl _|apply Drawn0.step)⟩
def quarryref13_Same.f (a0 : Nat) (a1 : Nat) : Option (Bool):=if (FloatKind.f64.format.order a0 a1 == some .eq) = true then ((quarryref13_Below.f a0).bind fun t101=>((quarryref13_Below.f a1).bind fun t102=>(if (t101 == t102) = true then (some true) else (if (FloatKind.f64.format.order a0 a0 != some .eq) = true then (some (FloatKind.f64.format.order a1 a1 != some .eq)) else (some false))))) else (if (FloatKind.f64.format.order a0 a0 != some .eq) = true then (some (FloatKind.f64.format.order a1 a1 != some .eq)) else (some false))
set_option maxHeartbeats 8000000 in
set_option maxRecDepth 100000 in
theorem quarryref13_Same.calls (a0 : Nat) (a1 : Nat) (r : Bool) (w : World) (h : quarryref13_Same.f a0 a1 = some r) :
  Calls Try.prog 22 #[.float .f64 a0,.float .f64 a1] w fun e w'=>e = .returned (.bool r) ∧ Drawn0 w w':=by
 have H : (if (FloatKind.f64.format.order a0 a1 == some .eq) = true then ((quarryref13_Below.f a0).bind fun t101=>((quarryref13_Below.f a1).bind fun t102=>(if (t101 == t102) = true then (some true) else (if (FloatKind.f64.format.order a0 a0 != some .eq) = true then (some (FloatKind.f64.format.order a1 a1 != some .eq)) else (some false))))) else (if (FloatKind.f64.format.order a0 a0 != some .eq) = true then (some (FloatKind.f64.format.order a1 a1 != some .eq)) else (some false))) = some r:=h
 clear h
 by_cases c3 : (FloatKind.f64.format.order a0 a1 == some .eq) = true
 ·rw [if_pos c3] at H
  have c3b0 : (FloatKind.f64.format.order a0 a1 == some .eq) = true:=c3
  (try (have c3b1 : decide (FloatKind.f64.format.order a0 a1 = some .eq) = true:=by simpa using c3))
  (try (have c3b2 : (FloatKind.f64.format.order a0 a1 == some .eq) = true:=by simpa using c3))
  clear c3
  replace H:=Option.bind_eq_some_iff.mp H
  obtain ⟨t101,A40,H⟩:=H
  replace H : ((quarryref13_Below.f a1).bind fun t102=>(if (t101 == t102) = true then (some true) else (if (FloatKind.f64.format.order a0 a0 != some .eq) = true then (some (FloatKind.f64.format.order a1 a1 != some .eq)) else (some false)))) = some r:=H
  have A4:=Aside0.mk A40
  clear A40
  replace H:=Option.bind_eq_some_iff.mp H
  obtain ⟨t102,A50,H⟩:=H
  replace H : (if (t101 == t102) = true then (some true) else (if (FloatKind.f64.format.order a0 a0 != some .eq) = true then (some (FloatKind.f64.format.order a1 a1 != some .eq)) else (some false))) = some r:=H
  have A5:=Aside0.mk A50
  clear A50
  by_cases c6 : (t101 == t102) = true
  ·rw [if_pos c6] at H
   have c6b0 : (t101 == t102) = true:=c6
   (try (have c6b1 : decide (t101 = t102) = true:=by simpa using c6))
   (try (have c6b2 : (t101 == t102) = true:=by simpa using c6))
   clear c6
   obtain rfl:=Option.some.inj H
   go_enter Try.func22,Try.ntmps22
   go_wp2_with (first|(go_at_call 51;(with_reducible refine (quarryref13_Below.calls a0 t101 _ A4.out).mono ?_);rintro e w' ⟨rfl,⟨nd,rfl⟩⟩)|(go_at_call 51;(with_reducible refine (quarryref13_Below.calls a1 t102 _ A5.out).mono ?_);rintro e w' ⟨rfl,⟨nd,rfl⟩⟩))
   go_ret
   exact ⟨by first|rfl|(simp;done)|(simp [*];done),by repeat (first|exact Drawn0.refl _|apply Drawn0.step)⟩
  ·rw [if_neg c6] at H
   have c6b0 : (t101 == t102) = false:=by simpa using c6
   (try (have c6b1 : decide (t101 = t102) = false:=by simpa using c6))
   (try (have c6b2 : (t101 == t102) = false:=by simpa using c6))
   (try (have c6b3 : ¬ (t101 = t102):=by simpa using c6))
   clear c6
   by_cases c7 : (FloatKind.f64.format.order a0 a0 != some .eq) = true
   ·rw [if_pos c7] at H
    have c7b0 : (FloatKind.f64.format.order a0 a0 != some .eq) = true:=c7
    (try (have c7b1 : decide (FloatKind.f64.format.order a0 a0 = some .eq) = false:=by simpa using c7))
    (try (have c7b2 : (FloatKind.f64.format.order a0 a0 == some .eq) = false:=by simpa using c7))
    (try (have c7b3 : ¬ (FloatKind.f64.format.order a0 a0 = some .eq):=by simpa using c7))
    clear c7
    obtain rfl:=Option.some.inj H
    go_enter Try.func22,Try.ntmps22
    go_wp2_with (first|(go_at_call 51;(with_reducible refine (quarryref13_Below.calls a0 t101 _ A4.out).mono ?_);rintro e w' ⟨rfl,⟨nd,rfl⟩⟩)|(go_at_call 51;(with_reducible refine (quarryref13_Below.calls a1 t102 _ A5.out).mono ?_);rintro e w' ⟨rfl,⟨nd,rfl⟩⟩))
    go_ret
    exact ⟨by first|rfl|(simp;done)|(simp [*];done),by repeat (first|exact Drawn0.refl _|apply Drawn0.step)⟩
   ·rw [if_neg c7] at H
    have c7b0 : (FloatKind.f64.format.order a0 a0 != some .eq) = false:=by simpa using c7
    (try (have c7b1 : decide (FloatKind.f64.format.order a0 a0 = some .eq) = true:=by simpa using c7))
    (try (have c7b2 : (FloatKind.f64.format.order a0 a0 == some .eq) = true:=by simpa using c7))
    clear c7
    obtain rfl:=Option.some.inj H
    go_enter Try.func22,Try.ntmps22
    go_wp2_with (first|(go_at_call 51;(with_reducible refine (quarryref13_Below.calls a0 t101 _ A4.out).mono ?_);rintro e w' ⟨rfl,⟨nd,rfl⟩⟩)|(go_at_call 51;(with_reducible refine (quarryref13_Below.calls a1 t102 _ A5.out).mono ?_);rintro e w' ⟨rfl,⟨nd,rfl⟩⟩))
    go_ret
    exact ⟨by first|rfl|(simp;done)|(simp [*];done),by repeat (first|exact Drawn0.refl _|apply Drawn0.step)⟩
 ·rw [if_neg c3] at H
  have c3b0 : (FloatKind.f64.format.order a0 a1 == some .eq) = false:=by simpa using c3
  (try (have c3b1 : decide (FloatKind.f64.format.order a0 a1 = some .eq) = false:=by simpa using c3))
  (try (have c3b2 : (FloatKind.f64.format.order a0 a1 == some .eq) = false:=by simpa using c3))
  (try (have c3b3 : ¬ (FloatKind.f64.format.order a0 a1 = some .eq):=by simpa using c3))
  clear c3
  by_cases c8 : (FloatKind.f64.format.order a0 a0 != some .eq) = true
  ·rw [if_pos c8] at H
   have c8b0 : (FloatKind.f64.format.order a0 a0 != some .eq) = true:=c8
   (try (have c8b1 : decide (FloatKind.f64.format.order a0 a0 = some .eq) = false:=by simpa using c8))
   (try (have c8b2 : (FloatKind.f64.format.order a0 a0 == some .eq) = false:=by simpa using c8))
   (try (have c8b3 : ¬ (FloatKind.f64.format.order a0 a0 = some .eq):=by simpa using c8))
   clear c8
   obtain rfl:=Option.some.inj H
   go_enter Try.func22,Try.ntmps22
   go_wp2
   go_ret
   exact ⟨by first|rfl|(simp;done)|(simp [*];done),by repeat (first|exact Drawn0.refl _|apply Drawn0.step)⟩
  ·rw [if_neg c8] at H
   have c8b0 : (FloatKind.f64.format.order a0 a0 != some .eq) = false:=by simpa using c8
   (try (have c8b1 : decide (FloatKind.f64.format.order a0 a0 = some .eq) = true:=by simpa using c8))
   (try (have c8b2 : (FloatKind.f64.format.order a0 a0 == some .eq) = true:=by simpa using c8))
   clear c8
   obtain rfl:=Option.some.inj H
   go_enter Try.func22,Try.ntmps22
   go_wp2
   go_ret
   exact ⟨by first|rfl|(simp;done)|(simp [*];done),by repeat (first|exact Drawn0.refl _|apply Drawn0.step)⟩
def quarrylaw31_same.f (a0_0 : Int) (a0_1 : Nat) (a0_2 : Nat) (a0_3 : Nat) (a0_4 : Nat) (a0_5 : Nat) (a0_6 : Nat) (a1_0 : Int) (a1_1 : Nat) (a1_2 : Nat) (a1_3 : Nat) (a1_4 : Nat) (a1_5 : Nat) (a1_6 : Nat) : Option (Bool):=if a0_0 = a1_0 then ((quarryref13_Same.f a0_1 a1_1).bind fun t105=>(if t105 = true then ((quarryref13_Same.f a0_2 a1_2).bind fun t106=>(if t106 = true then ((quarryref13_Same.f a0_3 a1_3).bind fun t107=>(if t107 = true then ((quarryref13_Same.f a0_4 a1_4).bind fun t108=>(if t108 = true then ((quarryref13_Same.f a0_5 a1_5).bind fun t109=>(if t109 = true then ((quarryref13_Same.f a0_6 a1_6).bind fun t110=>(some t110)) else (some false))) else (some false))) else (some false))) else (some false))) else (some false))) else (some false)
set_option maxHeartbeats 8000000 in
set_option maxRecDepth 100000 in
theorem quarrylaw31_same.calls (a0_0 : Int) (a0_1 : Nat) (a0_2 : Nat) (a0_3 : Nat) (a0_4 : Nat) (a0_5 : Nat) (a0_6 : Nat) (a1_0 : Int) (a1_1 : Nat) (a1_2 : Nat) (a1_3 : Nat) (a1_4 : Nat) (a1_5 : Nat) (a1_6 : Nat) (r : Bool) (w : World) (h : quarrylaw31_same.f a0_0 a0_1 a0_2 a0_3 a0_4 a0_5 a0_6 a1_0 a1_1 a1_2 a1_3 a1_4 a1_5 a1_6 = some r) :
  Calls Try.prog 15 #[.agg #[.int .i64 a0_0,.float .f64 a0_1,.float .f64 a0_2,.float .f64 a0_3,.float .f64 a0_4,.float .f64 a0_5,.float .f64 a0_6],.agg #[.int .i64 a1_0,.float .f64 a1_1,.float .f64 a1_2,.float .f64 a1_3,.float .f64 a1_4,.float .f64 a1_5,.float .f64 a1_6]] w fun e w'=>e = .returned (.bool r) ∧ Below w.heap.size w w':=by
 have hu26:=Try.underlying26
 have HB:=Aside0.mk (Below.refl w.heap.size w)
 have H : (if a0_0 = a1_0 then ((quarryref13_Same.f a0_1 a1_1).bind fun t105=>(if t105 = true then ((quarryref13_Same.f a0_2 a1_2).bind fun t106=>(if t106 = true then ((quarryref13_Same.f a0_3 a1_3).bind fun t107=>(if t107 = true then ((quarryref13_Same.f a0_4 a1_4).bind fun t108=>(if t108 = true then ((quarryref13_Same.f a0_5 a1_5).bind fun t109=>(if t109 = true then ((quarryref13_Same.f a0_6 a1_6).bind fun t110=>(some t110)) else (some false))) else (some false))) else (some false))) else (some false))) else (some false))) else (some false)) = some r:=h
 clear h
 by_cases c3 : a0_0 = a1_0
 ·rw [if_pos c3] at H
  have c3b0 : (a0_0 == a1_0) = true:=beq_iff_eq.mpr c3
  have c3b1 : (a0_0 != a1_0) = false:=bne_eq_false_iff_eq.mpr c3
  clear c3
  replace H:=Option.bind_eq_some_iff.mp H
  obtain ⟨t105,A40,H⟩:=H
  replace H : (if t105 = true then ((quarryref13_Same.f a0_2 a1_2).bind fun t106=>(if t106 = true then ((quarryref13_Same.f a0_3 a1_3).bind fun t107=>(if t107 = true then ((quarryref13_Same.f a0_4 a1_4).bind fun t108=>(if t108 = true then ((quarryref13_Same.f a0_5 a1_5).bind fun t109=>(if t109 = true then ((quarryref13_Same.f a0_6 a1_6).bind fun t110=>(some t110)) else (some false))) else (some false))) else (some false))) else (some false))) else (some false)) = some r:=H
  have A4:=Aside0.mk A40
  clear A40
  by_cases c5 : t105 = true
  ·subst c5
   have H1 : ((quarryref13_Same.f a0_2 a1_2).bind fun t106=>(if t106 = true then ((quarryref13_Same.f a0_3 a1_3).bind fun t107=>(if t107 = true then ((quarryref13_Same.f a0_4 a1_4).bind fun t108=>(if t108 = true then ((quarryref13_Same.f a0_5 a1_5).bind fun t109=>(if t109 = true then ((quarryref13_Same.f a0_6 a1_6).bind fun t110=>(some t110)) else (some false))) else (some false))) else (some false))) else (some false))) = some r:=by rw [if_pos rfl] at H;exact H
   clear H
   have H:=H1
   clear H1
   replace H:=Option.bind_eq_some_iff.mp H
   obtain ⟨t106,A60,H⟩:=H
   replace H : (if t106 = true then ((quarryref13_Same.f a0_3 a1_3).bind fun t107=>(if t107 = true then ((quarryref13_Same.f a0_4 a1_4).bind fun t108=>(if t108 = true then ((quarryref13_Same.f a0_5 a1_5).bind fun t109=>(if t109 = true then ((quarryref13_Same.f a0_6 a1_6).bind fun t110=>(some t110)) else (some false))) else (some false))) else (some false))) else (some false)) = some r:=H
   have A6:=Aside0.mk A60
   clear A60
   by_cases c7 : t106 = true
   ·subst c7
    have H1 : ((quarryref13_Same.f a0_3 a1_3).bind fun t107=>(if t107 = true then ((quarryref13_Same.f a0_4 a1_4).bind fun t108=>(if t108 = true then ((quarryref13_Same.f a0_5 a1_5).bind fun t109=>(if t109 = true then ((quarryref13_Same.f a0_6 a1_6).bind fun t110=>(some t110)) else (some false))) else (some false))) else (some false))) = some r:=by rw [if_pos rfl] at H;exact H
    clear H
    have H:=H1
    clear H1
    replace H:=Option.bind_eq_some_iff.mp H
    obtain ⟨t107,A80,H⟩:=H
    replace H : (if t107 = true then ((quarryref13_Same.f a0_4 a1_4).bind fun t108=>(if t108 = true then ((quarryref13_Same.f a0_5 a1_5).bind fun t109=>(if t109 = true then ((quarryref13_Same.f a0_6 a1_6).bind fun t110=>(some t110)) else (some false))) else (some false))) else (some false)) = some r:=H
    have A8:=Aside0.mk A80
    clear A80
    by_cases c9 : t107 = true
    ·subst c9
     have H1 : ((quarryref13_Same.f a0_4 a1_4).bind fun t108=>(if t108 = true then ((quarryref13_Same.f a0_5 a1_5).bind fun t109=>(if t109 = true then ((quarryref13_Same.f a0_6 a1_6).bind fun t110=>(some t110)) else (some false))) else (some false))) = some r:=by rw [if_pos rfl] at H;exact H
     clear H
     have H:=H1
     clear H1
     replace H:=Option.bind_eq_some_iff.mp H
     obtain ⟨t108,A100,H⟩:=H
     replace H : (if t108 = true then ((quarryref13_Same.f a0_5 a1_5).bind fun t109=>(if t109 = true then ((quarryref13_Same.f a0_6 a1_6).bind fun t110=>(some t110)) else (some false))) else (some false)) = some r:=H
     have A10:=Aside0.mk A100
     clear A100
     by_cases c11 : t108 = true
     ·subst c11
      have H1 : ((quarryref13_Same.f a0_5 a1_5).bind fun t109=>(if t109 = true then ((quarryref13_Same.f a0_6 a1_6).bind fun t110=>(some t110)) else (some false))) = some r:=by rw [if_pos rfl] at H;exact H
      clear H
      have H:=H1
      clear H1
      replace H:=Option.bind_eq_some_iff.mp H
      obtain ⟨t109,A120,H⟩:=H
      replace H : (if t109 = true then ((quarryref13_Same.f a0_6 a1_6).bind fun t110=>(some t110)) else (some false)) = some r:=H
      have A12:=Aside0.mk A120
      clear A120
      by_cases c13 : t109 = true
      ·subst c13
       have H1 : ((quarryref13_Same.f a0_6 a1_6).bind fun t110=>(some t110)) = some r:=by rw [if_pos rfl] at H;exact H
       clear H
       have H:=H1
       clear H1
       replace H:=Option.bind_eq_some_iff.mp H
       obtain ⟨t110,A140,H⟩:=H
       replace H : (some t110) = some r:=H
       have A14:=Aside0.mk A140
       clear A140
       obtain rfl:=Option.some.inj H
       go_enter Try.func15,Try.ntmps15
       go_wp2_with (first|((with_reducible refine gate_dst (N:=2) rfl ?_);refine box_event ?hg (N:=2) ?hd (cs:=#[.int .i64 a0_0,.float .f64 a0_1,.float .f64 a0_2,.float .f64 a0_3,.float .f64 a0_4,.float .f64 a0_5,.float .f64 a0_6]) (t:=26) ?hr ?_;(case hd=>rfl);(case hg=>rfl);(case hr=>first|(go_simp;done)|(go_simp;rfl));intro gb103 hg w15 hbox hb;have n0_:=Aside0.mk (below_step (by repeat (first|(with_reducible first|exact HB.out|apply below_alloc|apply pw_below_drewN|apply below_drew1)|exact HB.out)) hb);have n1_:=Aside0.mk (hbox);have n2_:=Aside0.mk ((by rw [hg];exact (below_size (by repeat (first|(with_reducible first|exact HB.out|apply below_alloc|apply pw_below_drewN|apply below_drew1)|exact HB.out))) : w.heap.size ≤ gb103));have n3_:=Aside0.mk ((by rw [hg];exact (below_size (by repeat (first|(with_reducible first|exact HB.out|apply below_alloc|apply pw_below_drewN|apply below_drew1)|exact HB.out))) : w.heap.size ≤ gb103));clear HB;have HB:=n0_;have BK103:=n1_;have GW103:=n2_;have GE103:=n3_;clear n0_ n1_ n2_ n3_;clear hb hbox hg)|((with_reducible refine gate_dst (N:=3) rfl ?_);refine box_event ?hg (N:=3) ?hd (cs:=#[.int .i64 a1_0,.float .f64 a1_1,.float .f64 a1_2,.float .f64 a1_3,.float .f64 a1_4,.float .f64 a1_5,.float .f64 a1_6]) (t:=26) ?hr ?_;(case hd=>rfl);(case hg=>rfl);(case hr=>first|(go_simp;done)|(go_simp;rfl));intro gb104 hg w16 hbox hb;have n0_:=Aside0.mk (blk_below (g:=gb103) (o:=.cells #[.int .i64 a0_0,.float .f64 a0_1,.float .f64 a0_2,.float .f64 a0_3,.float .f64 a0_4,.float .f64 a0_5,.float .f64 a0_6] 26 (0,0)) (by (with_reducible repeat (first|refine blk_drewN ?_ _|refine blk_drew ?_|refine blk_alloc ?_ _));exact BK103.out) hb);have n1_:=Aside0.mk (below_step (by repeat (first|(with_reducible first|exact HB.out|apply below_alloc|apply pw_below_drewN|apply below_drew1|refine below_set ?_ GE103.out)|exact HB.out)) hb);have n2_:=Aside0.mk (hbox);have n3_:=Aside0.mk ((by rw [hg];exact (below_size (by repeat (first|(with_reducible first|exact HB.out|apply below_alloc|apply pw_below_drewN|apply below_drew1|refine below_set ?_ GE103.out)|exact HB.out))) : w.heap.size ≤ gb104));have n4_:=Aside0.mk ((by rw [hg];exact (below_size (by repeat (first|(with_reducible first|exact HB.out|apply below_alloc|apply pw_below_drewN|apply below_drew1|refine below_set ?_ GE103.out)|exact HB.out))) : w.heap.size ≤ gb104));have n5_:=Aside0.mk ((by rw [hg];exact Nat.ne_of_lt (blk_lt (g:=gb103) (o:=.cells #[.int .i64 a0_0,.float .f64 a0_1,.float .f64 a0_2,.float .f64 a0_3,.float .f64 a0_4,.float .f64 a0_5,.float .f64 a0_6] 26 (0,0)) (by (with_reducible repeat (first|refine blk_drewN ?_ _|refine blk_drew ?_|refine blk_alloc ?_ _));exact BK103.out)) : gb103 ≠ gb104));have n6_:=Aside0.mk ((by rw [hg];exact Nat.ne_of_gt (blk_lt (g:=gb103) (o:=.cells #[.int .i64 a0_0,.float .f64 a0_1,.float .f64 a0_2,.float .f64 a0_3,.float .f64 a0_4,.float .f64 a0_5,.float .f64 a0_6] 26 (0,0)) (by (with_reducible repeat (first|refine blk_drewN ?_ _|refine blk_drew ?_|refine blk_alloc ?_ _));exact BK103.out)) : gb104 ≠ gb103));clear BK103;clear HB;have BK103:=n0_;have HB:=n1_;have BK104:=n2_;have GW104:=n3_;have GE104:=n4_;have NB103_104:=n5_;have NB104_103:=n6_;clear n0_ n1_ n2_ n3_ n4_ n5_ n6_;clear hb hbox hg;have hnb17:=NB103_104.out;have hnc17:=NB104_103.out;have hcz18_0 : w16.cell? ⟨gb103,0,none⟩ = some (.int .i64 a0_0):=(blk_cell BK103.out 0).trans rfl;have hcz18_1 : w16.cell? ⟨gb103,1,none⟩ = some (.float .f64 a0_1):=(blk_cell BK103.out 1).trans rfl;have hcz18_2 : w16.cell? ⟨gb103,2,none⟩ = some (.float .f64 a0_2):=(blk_cell BK103.out 2).trans rfl;have hcz18_3 : w16.cell? ⟨gb103,3,none⟩ = some (.float .f64 a0_3):=(blk_cell BK103.out 3).trans rfl;have hcz18_4 : w16.cell? ⟨gb103,4,none⟩ = some (.float .f64 a0_4):=(blk_cell BK103.out 4).trans rfl;have hcz18_5 : w16.cell? ⟨gb103,5,none⟩ = some (.float .f64 a0_5):=(blk_cell BK103.out 5).trans rfl;have hcz18_6 : w16.cell? ⟨gb103,6,none⟩ = some (.float .f64 a0_6):=(blk_cell BK103.out 6).trans rfl;have hfz18_0:=blk_frozen BK103.out 0;have hfz18_1:=blk_frozen BK103.out 1;have hfz18_2:=blk_frozen BK103.out 2;have hfz18_3:=blk_frozen BK103.out 3;have hfz18_4:=blk_frozen BK103.out 4;have hfz18_5:=blk_frozen BK103.out 5;have hfz18_6:=blk_frozen BK103.out 6;have hcz19_0 : w16.cell? ⟨gb104,0,none⟩ = some (.int .i64 a1_0):=(blk_cell BK104.out 0).trans rfl;have hcz19_1 : w16.cell? ⟨gb104,1,none⟩ = some (.float .f64 a1_1):=(blk_cell BK104.out 1).trans rfl;have hcz19_2 : w16.cell? ⟨gb104,2,none⟩ = some (.float .f64 a1_2):=(blk_cell BK104.out 2).trans rfl;have hcz19_3 : w16.cell? ⟨gb104,3,none⟩ = some (.float .f64 a1_3):=(blk_cell BK104.out 3).trans rfl;have hcz19_4 : w16.cell? ⟨gb104,4,none⟩ = some (.float .f64 a1_4):=(blk_cell BK104.out 4).trans rfl;have hcz19_5 : w16.cell? ⟨gb104,5,none⟩ = some (.float .f64 a1_5):=(blk_cell BK104.out 5).trans rfl;have hcz19_6 : w16.cell? ⟨gb104,6,none⟩ = some (.float .f64 a1_6):=(blk_cell BK104.out 6).trans rfl;have hfz19_0:=blk_frozen BK104.out 0;have hfz19_1:=blk_frozen BK104.out 1;have hfz19_2:=blk_frozen BK104.out 2;have hfz19_3:=blk_frozen BK104.out 3;have hfz19_4:=blk_frozen BK104.out 4;have hfz19_5:=blk_frozen BK104.out 5;have hfz19_6:=blk_frozen BK104.out 6)|(go_at_call 22;(with_reducible refine (quarryref13_Same.calls a0_1 a1_1 true _ A4.out).mono ?_);rintro e w' ⟨rfl,⟨nd,rfl⟩⟩)|(go_at_call 22;(with_reducible refine (quarryref13_Same.calls a0_2 a1_2 true _ A6.out).mono ?_);rintro e w' ⟨rfl,⟨nd,rfl⟩⟩)|(go_at_call 22;(with_reducible refine (quarryref13_Same.calls a0_3 a1_3 true _ A8.out).mono ?_);rintro e w' ⟨rfl,⟨nd,rfl⟩⟩)|(go_at_call 22;(with_reducible refine (quarryref13_Same.calls a0_4 a1_4 true _ A10.out).mono ?_);rintro e w' ⟨rfl,⟨nd,rfl⟩⟩)|(go_at_call 22;(with_reducible refine (quarryref13_Same.calls a0_5 a1_5 true _ A12.out).mono ?_);rintro e w' ⟨rfl,⟨nd,rfl⟩⟩)|(go_at_call 22;(with_reducible refine (quarryref13_Same.calls a0_6 a1_6 t110 _ A14.out).mono ?_);rintro e w' ⟨rfl,⟨nd,rfl⟩⟩))
       go_ret
       exact ⟨by first|rfl|(rw [px_ne];rfl)|(simp [errW_none,errW_some] <;> rfl)|(simp [*,errW_none,errW_some] <;> rfl),by repeat (first|(with_reducible first|exact HB.out|apply below_alloc|apply pw_below_drewN|apply below_drew1|refine below_set ?_ GE103.out|refine below_set ?_ GE104.out)|exact HB.out)⟩
      ·replace c13:=Bool.eq_false_iff.mpr c13
       subst c13
       have H1 : (some false) = some r:=by rw [if_neg (show ¬ (false = true) by decide)] at H;exact H
       clear H
       have H:=H1
       clear H1
       obtain rfl:=Option.some.inj H
       go_enter Try.func15,Try.ntmps15
       go_wp2_with (first|((with_reducible refine gate_dst (N:=2) rfl ?_);refine box_event ?hg (N:=2) ?hd (cs:=#[.int .i64 a0_0,.float .f64 a0_1,.float .f64 a0_2,.float .f64 a0_3,.float .f64 a0_4,.float .f64 a0_5,.float .f64 a0_6]) (t:=26) ?hr ?_;(case hd=>rfl);(case hg=>rfl);(case hr=>first|(go_simp;done)|(go_simp;rfl));intro gb103 hg w20 hbox hb;have n0_:=Aside0.mk (below_step (by repeat (first|(with_reducible first|exact HB.out|apply below_alloc|apply pw_below_drewN|apply below_drew1)|exact HB.out)) hb);have n1_:=Aside0.mk (hbox);have n2_:=Aside0.mk ((by rw [hg];exact (below_size (by repeat (first|(with_reducible first|exact HB.out|apply below_alloc|apply pw_below_drewN|apply below_drew1)|exact HB.out))) : w.heap.size ≤ gb103));have n3_:=Aside0.mk ((by rw [hg];exact (below_size (by repeat (first|(with_reducible first|exact HB.out|apply below_alloc|apply pw_below_drewN|apply below_drew1)|exact HB.out))) : w.heap.size ≤ gb103));clear HB;have HB:=n0_;have BK103:=n1_;have GW103:=n2_;have GE103:=n3_;clear n0_ n1_ n2_ n3_;clear hb hbox hg)|((with_reducible refine gate_dst (N:=3) rfl ?_);refine box_event ?hg (N:=3) ?hd (cs:=#[.int .i64 a1_0,.float .f64 a1_1,.float .f64 a1_2,.float .f64 a1_3,.float .f64 a1_4,.float .f64 a1_5,.float .f64 a1_6]) (t:=26) ?hr ?_;(case hd=>rfl);(case hg=>rfl);(case hr=>first|(go_simp;done)|(go_simp;rfl));intro gb104 hg w21 hbox hb;have n0_:=Aside0.mk (blk_below (g:=gb103) (o:=.cells #[.int .i64 a0_0,.float .f64 a0_1,.float .f64 a0_2,.float .f64 a0_3,.float .f64 a0_4,.float .f64 a0_5,.float .f64 a0_6] 26 (0,0)) (by (with_reducible repeat (first|refine blk_drewN ?_ _|refine blk_drew ?_|refine blk_alloc ?_ _));exact BK103.out) hb);have n1_:=Aside0.mk (below_step (by repeat (first|(with_reducible first|exact HB.out|apply below_alloc|apply pw_below_drewN|apply below_drew1|refine below_set ?_ GE103.out)|exact HB.out)) hb);have n2_:=Aside0.mk (hbox);have n3_:=Aside0.mk ((by rw [hg];exact (below_size (by repeat (first|(with_reducible first|exact HB.out|apply below_alloc|apply pw_below_drewN|apply below_drew1|refine below_set ?_ GE103.out)|exact HB.out))) : w.heap.size ≤ gb104));have n4_:=Aside0.mk ((by rw [hg];exact (below_size (by repeat (first|(with_reducible first|exact HB.out|apply below_alloc|apply pw_below_drewN|apply below_drew1|refine below_set ?_ GE103.out)|exact HB.out))) : w.heap.size ≤ gb104));have n5_:=Aside0.mk ((by rw [hg];exact Nat.ne_of_lt (blk_lt (g:=gb103) (o:=.cells #[.int .i64 a0_0,.float .f64 a0_1,.float .f64 a0_2,.float .f64 a0_3,.float .f64 a0_4,.float .f64 a0_5,.float .f64 a0_6] 26 (0,0)) (by (with_reducible repeat (first|refine blk_drewN ?_ _|refine blk_drew ?_|refine blk_alloc ?_ _));exact BK103.out)) : gb103 ≠ gb104));have n6_:=Aside0.mk ((by rw [hg];exact Nat.ne_of_gt (blk_lt (g:=gb103) (o:=.cells #[.int .i64 a0_0,.float .f64 a0_1,.float .f64 a0_2,.float .f64 a0_3,.float .f64 a0_4,.float .f64 a0_5,.float .f64 a0_6] 26 (0,0)) (by (with_reducible repeat (first|refine blk_drewN ?_ _|refine blk_drew ?_|refine blk_alloc ?_ _));exact BK103.out)) : gb104 ≠ gb103));clear BK103;clear HB;have BK103:=n0_;have HB:=n1_;have BK104:=n2_;have GW104:=n3_;have GE104:=n4_;have NB103_104:=n5_;have NB104_103:=n6_;clear n0_ n1_ n2_ n3_ n4_ n5_ n6_;clear hb hbox hg;have hnb22:=NB103_104.out;have hnc22:=NB104_103.out;have hcz23_0 : w21.cell? ⟨gb103,0,none⟩ = some (.int .i64 a0_0):=(blk_cell BK103.out 0).trans rfl;have hcz23_1 : w21.cell? ⟨gb103,1,none⟩ = some (.float .f64 a0_1):=(blk_cell BK103.out 1).trans rfl;have hcz23_2 : w21.cell? ⟨gb103,2,none⟩ = some (.float .f64 a0_2):=(blk_cell BK103.out 2).trans rfl;have hcz23_3 : w21.cell? ⟨gb103,3,none⟩ = some (.float .f64 a0_3):=(blk_cell BK103.out 3).trans rfl;have hcz23_4 : w21.cell? ⟨gb103,4,none⟩ = some (.float .f64 a0_4):=(blk_cell BK103.out 4).trans rfl;have hcz23_5 : w21.cell? ⟨gb103,5,none⟩ = some (.float .f64 a0_5):=(blk_cell BK103.out 5).trans rfl;have hcz23_6 : w21.cell? ⟨gb103,6,none⟩ = some (.float .f64 a0_6):=(blk_cell BK103.out 6).trans rfl;have hfz23_0:=blk_frozen BK103.out 0;have hfz23_1:=blk_frozen BK103.out 1;have hfz23_2:=blk_frozen BK103.out 2;have hfz23_3:=blk_frozen BK103.out 3;have hfz23_4:=blk_frozen BK103.out 4;have hfz23_5:=blk_frozen BK103.out 5;have hfz23_6:=blk_frozen BK103.out 6;have hcz24_0 : w21.cell? ⟨gb104,0,none⟩ = some (.int .i64 a1_0):=(blk_cell BK104.out 0).trans rfl;have hcz24_1 : w21.cell? ⟨gb104,1,none⟩ = some (.float .f64 a1_1):=(blk_cell BK104.out 1).trans rfl;have hcz24_2 : w21.cell? ⟨gb104,2,none⟩ = some (.float .f64 a1_2):=(blk_cell BK104.out 2).trans rfl;have hcz24_3 : w21.cell? ⟨gb104,3,none⟩ = some (.float .f64 a1_3):=(blk_cell BK104.out 3).trans rfl;have hcz24_4 : w21.cell? ⟨gb104,4,none⟩ = some (.float .f64 a1_4):=(blk_cell BK104.out 4).trans rfl;have hcz24_5 : w21.cell? ⟨gb104,5,none⟩ = some (.float .f64 a1_5):=(blk_cell BK104.out 5).trans rfl;have hcz24_6 : w21.cell? ⟨gb104,6,none⟩ = some (.float .f64 a1_6):=(blk_cell BK104.out 6).trans rfl;have hfz24_0:=blk_frozen BK104.out 0;have hfz24_1:=blk_frozen BK104.out 1;have hfz24_2:=blk_frozen BK104.out 2;have hfz24_3:=blk_frozen BK104.out 3;have hfz24_4:=blk_frozen BK104.out 4;have hfz24_5:=blk_frozen BK104.out 5;have hfz24_6:=blk_frozen BK104.out 6)|(go_at_call 22;(with_reducible refine (quarryref13_Same.calls a0_1 a1_1 true _ A4.out).mono ?_);rintro e w' ⟨rfl,⟨nd,rfl⟩⟩)|(go_at_call 22;(with_reducible refine (quarryref13_Same.calls a0_2 a1_2 true _ A6.out).mono ?_);rintro e w' ⟨rfl,⟨nd,rfl⟩⟩)|(go_at_call 22;(with_reducible refine (quarryref13_Same.calls a0_3 a1_3 true _ A8.out).mono ?_);rintro e w' ⟨rfl,⟨nd,rfl⟩⟩)|(go_at_call 22;(with_reducible refine (quarryref13_Same.calls a0_4 a1_4 true _ A10.out).mono ?_);rintro e w' ⟨rfl,⟨nd,rfl⟩⟩)|(go_at_call 22;(with_reducible refine (quarryref13_Same.calls a0_5 a1_5 false _ A12.out).mono ?_);rintro e w' ⟨rfl,⟨nd,rfl⟩⟩))
       go_ret
       exact ⟨by first|rfl|(rw [px_ne];rfl)|(simp [errW_none,errW_some] <;> rfl)|(simp [*,errW_none,errW_some] <;> rfl),by repeat (first|(with_reducible first|exact HB.out|apply below_alloc|apply pw_below_drewN|apply below_drew1|refine below_set ?_ GE103.out|refine below_set ?_ GE104.out)|exact HB.out)⟩
     ·replace c11:=Bool.eq_false_iff.mpr c11
      subst c11
      have H1 : (some false) = some r:=by rw [if_neg (show ¬ (false = true) by decide)] at H;exact H
      clear H
      have H:=H1
      clear H1
      obtain rfl:=Option.some.inj H
      go_enter Try.func15,Try.ntmps15
      go_wp2_with (first|((with_reducible refine gate_dst (N:=2) rfl ?_);refine box_event ?hg (N:=2) ?hd (cs:=#[.int .i64 a0_0,.float .f64 a0_1,.float .f64 a0_2,.float .f64 a0_3,.float .f64 a0_4,.float .f64 a0_5,.float .f64 a0_6]) (t:=26) ?hr ?_;(case hd=>rfl);(case hg=>rfl);(case hr=>first|(go_simp;done)|(go_simp;rfl));intro gb103 hg w25 hbox hb;have n0_:=Aside0.mk (below_step (by repeat (first|(with_reducible first|exact HB.out|apply below_alloc|apply pw_below_drewN|apply below_drew1)|exact HB.out)) hb);have n1_:=Aside0.mk (hbox);have n2_:=Aside0.mk ((by rw [hg];exact (below_size (by repeat (first|(with_reducible first|exact HB.out|apply below_alloc|apply pw_below_drewN|apply below_drew1)|exact HB.out))) : w.heap.size ≤ gb103));have n3_:=Aside0.mk ((by rw [hg];exact (below_size (by repeat (first|(with_reducible first|exact HB.out|apply below_alloc|apply pw_below_drewN|apply below_drew1)|exact HB.out))) : w.heap.size ≤ gb103));clear HB;have HB:=n0_;have BK103:=n1_;have GW103:=n2_;have GE103:=n3_;clear n0_ n1_ n2_ n3_;clear hb hbox hg)|((with_reducible refine gate_dst (N:=3) rfl ?_);refine box_event ?hg (N:=3) ?hd (cs:=#[.int .i64 a1_0,.float .f64 a1_1,.float .f64 a1_2,.float .f64 a1_3,.float .f64 a1_4,.float .f64 a1_5,.float .f64 a1_6]) (t:=26) ?hr ?_;(case hd=>rfl);(case hg=>rfl);(case hr=>first|(go_simp;done)|(go_simp;rfl));intro gb104 hg w26 hbox hb;have n0_:=Aside0.mk (blk_below (g:=gb103) (o:=.cells #[.int .i64 a0_0,.float .f64 a0_1,.float .f64 a0_2,.float .f64 a0_3,.float .f64 a0_4,.float .f64 a0_5,.float .f64 a0_6] 26 (0,0)) (by (with_reducible repeat (first|refine blk_drewN ?_ _|refine blk_drew ?_|refine blk_alloc ?_ _));exact BK103.out) hb);have n1_:=Aside0.mk (below_step (by repeat (first|(with_reducible first|exact HB.out|apply below_alloc|apply pw_below_drewN|apply below_drew1|refine below_set ?_ GE103.out)|exact HB.out)) hb);have n2_:=Aside0.mk (hbox);have n3_:=Aside0.mk ((by rw [hg];exact (below_size (by repeat (first|(with_reducible first|exact HB.out|apply below_alloc|apply pw_below_drewN|apply below_drew1|refine below_set ?_ GE103.out)|exact HB.out))) : w.heap.size ≤ gb104));have n4_:=Aside0.mk ((by rw [hg];exact (below_size (by repeat (first|(with_reducible first|exact HB.out|apply below_alloc|apply pw_below_drewN|apply below_drew1|refine below_set ?_ GE103.out)|exact HB.out))) : w.heap.size ≤ gb104));have n5_:=Aside0.mk ((by rw [hg];exact Nat.ne_of_lt (blk_lt (g:=gb103) (o:=.cells #[.int .i64 a0_0,.float .f64 a0_1,.float .f64 a0_2,.float .f64 a0_3,.float .f64 a0_4,.float .f64 a0_5,.float .f64 a0_6] 26 (0,0)) (by (with_reducible repeat (first|refine blk_drewN ?_ _|refine blk_drew ?_|refine blk_alloc ?_ _));exact BK103.out)) : gb103 ≠ gb104));have n6_:=Aside0.mk ((by rw [hg];exact Nat.ne_of_gt (blk_lt (g:=gb103) (o:=.cells #[.int .i64 a0_0,.float .f64 a0_1,.float .f64 a0_2,.float .f64 a0_3,.float .f64 a0_4,.float .f64 a0_5,.float .f64 a0_6] 26 (0,0)) (by (with_reducible repeat (first|refine blk_drewN ?_ _|refine blk_drew ?_|refine blk_alloc ?_ _));exact BK103.out)) : gb104 ≠ gb103));clear BK103;clear HB;have BK103:=n0_;have HB:=n1_;have BK104:=n2_;have GW104:=n3_;have GE104:=n4_;have NB103_104:=n5_;have NB104_103:=n6_;clear n0_ n1_ n2_ n3_ n4_ n5_ n6_;clear hb hbox hg;have hnb27:=NB103_104.out;have hnc27:=NB104_103.out;have hcz28_0 : w26.cell? ⟨gb103,0,none⟩ = some (.int .i64 a0_0):=(blk_cell BK103.out 0).trans rfl;have hcz28_1 : w26.cell? ⟨gb103,1,none⟩ = some (.float .f64 a0_1):=(blk_cell BK103.out 1).trans rfl;have hcz28_2 : w26.cell? ⟨gb103,2,none⟩ = some (.float .f64 a0_2):=(blk_cell BK103.out 2).trans rfl;have hcz28_3 : w26.cell? ⟨gb103,3,none⟩ = some (.float .f64 a0_3):=(blk_cell BK103.out 3).trans rfl;have hcz28_4 : w26.cell? ⟨gb103,4,none⟩ = some (.float .f64 a0_4):=(blk_cell BK103.out 4).trans rfl;have hcz28_5 : w26.cell? ⟨gb103,5,none⟩ = some (.float .f64 a0_5):=(blk_cell BK103.out 5).trans rfl;have hcz28_6 : w26.cell? ⟨gb103,6,none⟩ = some (.float .f64 a0_6):=(blk_cell BK103.out 6).trans rfl;have hfz28_0:=blk_frozen BK103.out 0;have hfz28_1:=blk_frozen BK103.out 1;have hfz28_2:=blk_frozen BK103.out 2;have hfz28_3:=blk_frozen BK103.out 3;have hfz28_4:=blk_frozen BK103.out 4;have hfz28_5:=blk_frozen BK103.out 5;have hfz28_6:=blk_frozen BK103.out 6;have hcz29_0 : w26.cell? ⟨gb104,0,none⟩ = some (.int .i64 a1_0):=(blk_cell BK104.out 0).trans rfl;have hcz29_1 : w26.cell? ⟨gb104,1,none⟩ = some (.float .f64 a1_1):=(blk_cell BK104.out 1).trans rfl;have hcz29_2 : w26.cell? ⟨gb104,2,none⟩ = some (.float .f64 a1_2):=(blk_cell BK104.out 2).trans rfl;have hcz29_3 : w26.cell? ⟨gb104,3,none⟩ = some (.float .f64 a1_3):=(blk_cell BK104.out 3).trans rfl;have hcz29_4 : w26.cell? ⟨gb104,4,none⟩ = some (.float .f64 a1_4):=(blk_cell BK104.out 4).trans rfl;have hcz29_5 : w26.cell? ⟨gb104,5,none⟩ = some (.float .f64 a1_5):=(blk_cell BK104.out 5).trans rfl;have hcz29_6 : w26.cell? ⟨gb104,6,none⟩ = some (.float .f64 a1_6):=(blk_cell BK104.out 6).trans rfl;have hfz29_0:=blk_frozen BK104.out 0;have hfz29_1:=blk_frozen BK104.out 1;have hfz29_2:=blk_frozen BK104.out 2;have hfz29_3:=blk_frozen BK104.out 3;have hfz29_4:=blk_frozen BK104.out 4;have hfz29_5:=blk_frozen BK104.out 5;have hfz29_6:=blk_frozen BK104.out 6)|(go_at_call 22;(with_reducible refine (quarryref13_Same.calls a0_1 a1_1 true _ A4.out).mono ?_);rintro e w' ⟨rfl,⟨nd,rfl⟩⟩)|(go_at_call 22;(with_reducible refine (quarryref13_Same.calls a0_2 a1_2 true _ A6.out).mono ?_);rintro e w' ⟨rfl,⟨nd,rfl⟩⟩)|(go_at_call 22;(with_reducible refine (quarryref13_Same.calls a0_3 a1_3 true _ A8.out).mono ?_);rintro e w' ⟨rfl,⟨nd,rfl⟩⟩)|(go_at_call 22;(with_reducible refine (quarryref13_Same.calls a0_4 a1_4 false _ A10.out).mono ?_);rintro e w' ⟨rfl,⟨nd,rfl⟩⟩))
      go_ret
      exact ⟨by first|rfl|(rw [px_ne];rfl)|(simp [errW_none,errW_some] <;> rfl)|(simp [*,errW_none,errW_some] <;> rfl),by repeat (first|(with_reducible first|exact HB.out|apply below_alloc|apply pw_below_drewN|apply below_drew1|refine below_set ?_ GE103.out|refine below_set ?_ GE104.out)|exact HB.out)⟩
    ·replace c9:=Bool.eq_false_iff.mpr c9
     subst c9
     have H1 : (some false) = some r:=by rw [if_neg (show ¬ (false = true) by decide)] at H;exact H
     clear H
     have H:=H1
     clear H1
     obtain rfl:=Option.some.inj H
     go_enter Try.func15,Try.ntmps15
     go_wp2_with (first|((with_reducible refine gate_dst (N:=2) rfl ?_);refine box_event ?hg (N:=2) ?hd (cs:=#[.int .i64 a0_0,.float .f64 a0_1,.float .f64 a0_2,.float .f64 a0_3,.float .f64 a0_4,.float .f64 a0_5,.float .f64 a0_6]) (t:=26) ?hr ?_;(case hd=>rfl);(case hg=>rfl);(case hr=>first|(go_simp;done)|(go_simp;rfl));intro gb103 hg w30 hbox hb;have n0_:=Aside0.mk (below_step (by repeat (first|(with_reducible first|exact HB.out|apply below_alloc|apply pw_below_drewN|apply below_drew1)|exact HB.out)) hb);have n1_:=Aside0.mk (hbox);have n2_:=Aside0.mk ((by rw [hg];exact (below_size (by repeat (first|(with_reducible first|exact HB.out|apply below_alloc|apply pw_below_drewN|apply below_drew1)|exact HB.out))) : w.heap.size ≤ gb103));have n3_:=Aside0.mk ((by rw [hg];exact (below_size (by repeat (first|(with_reducible first|exact HB.out|apply below_alloc|apply pw_below_drewN|apply below_drew1)|exact HB.out))) : w.heap.size ≤ gb103));clear HB;have HB:=n0_;have BK103:=n1_;have GW103:=n2_;have GE103:=n3_;clear n0_ n1_ n2_ n3_;clear hb hbox hg)|((with_reducible refine gate_dst (N:=3) rfl ?_);refine box_event ?hg (N:=3) ?hd (cs:=#[.int .i64 a1_0,.float .f64 a1_1,.float .f64 a1_2,.float .f64 a1_3,.float .f64 a1_4,.float .f64 a1_5,.float .f64 a1_6]) (t:=26) ?hr ?_;(case hd=>rfl);(case hg=>rfl);(case hr=>first|(go_simp;done)|(go_simp;rfl));intro gb104 hg w31 hbox hb;have n0_:=Aside0.mk (blk_below (g:=gb103) (o:=.cells #[.int .i64 a0_0,.float .f64 a0_1,.float .f64 a0_2,.float .f64 a0_3,.float .f64 a0_4,.float .f64 a0_5,.float .f64 a0_6] 26 (0,0)) (by (with_reducible repeat (first|refine blk_drewN ?_ _|refine blk_drew ?_|refine blk_alloc ?_ _));exact BK103.out) hb);have n1_:=Aside0.mk (below_step (by repeat (first|(with_reducible first|exact HB.out|apply below_alloc|apply pw_below_drewN|apply below_drew1|refine below_set ?_ GE103.out)|exact HB.out)) hb);have n2_:=Aside0.mk (hbox);have n3_:=Aside0.mk ((by rw [hg];exact (below_size (by repeat (first|(with_reducible first|exact HB.out|apply below_alloc|apply pw_below_drewN|apply below_drew1|refine below_set ?_ GE103.out)|exact HB.out))) : w.heap.size ≤ gb104));have n4_:=Aside0.mk ((by rw [hg];exact (below_size (by repeat (first|(with_reducible first|exact HB.out|apply below_alloc|apply pw_below_drewN|apply below_drew1|refine below_set ?_ GE103.out)|exact HB.out))) : w.heap.size ≤ gb104));have n5_:=Aside0.mk ((by rw [hg];exact Nat.ne_of_lt (blk_lt (g:=gb103) (o:=.cells #[.int .i64 a0_0,.float .f64 a0_1,.float .f64 a0_2,.float .f64 a0_3,.float .f64 a0_4,.float .f64 a0_5,.float .f64 a0_6] 26 (0,0)) (by (with_reducible repeat (first|refine blk_drewN ?_ _|refine blk_drew ?_|refine blk_alloc ?_ _));exact BK103.out)) : gb103 ≠ gb104));have n6_:=Aside0.mk ((by rw [hg];exact Nat.ne_of_gt (blk_lt (g:=gb103) (o:=.cells #[.int .i64 a0_0,.float .f64 a0_1,.float .f64 a0_2,.float .f64 a0_3,.float .f64 a0_4,.float .f64 a0_5,.float .f64 a0_6] 26 (0,0)) (by (with_reducible repeat (first|refine blk_drewN ?_ _|refine blk_drew ?_|refine blk_alloc ?_ _));exact BK103.out)) : gb104 ≠ gb103));clear BK103;clear HB;have BK103:=n0_;have HB:=n1_;have BK104:=n2_;have GW104:=n3_;have GE104:=n4_;have NB103_104:=n5_;have NB104_103:=n6_;clear n0_ n1_ n2_ n3_ n4_ n5_ n6_;clear hb hbox hg;have hnb32:=NB103_104.out;have hnc32:=NB104_103.out;have hcz33_0 : w31.cell? ⟨gb103,0,none⟩ = some (.int .i64 a0_0):=(blk_cell BK103.out 0).trans rfl;have hcz33_1 : w31.cell? ⟨gb103,1,none⟩ = some (.float .f64 a0_1):=(blk_cell BK103.out 1).trans rfl;have hcz33_2 : w31.cell? ⟨gb103,2,none⟩ = some (.float .f64 a0_2):=(blk_cell BK103.out 2).trans rfl;have hcz33_3 : w31.cell? ⟨gb103,3,none⟩ = some (.float .f64 a0_3):=(blk_cell BK103.out 3).trans rfl;have hcz33_4 : w31.cell? ⟨gb103,4,none⟩ = some (.float .f64 a0_4):=(blk_cell BK103.out 4).trans rfl;have hcz33_5 : w31.cell? ⟨gb103,5,none⟩ = some (.float .f64 a0_5):=(blk_cell BK103.out 5).trans rfl;have hcz33_6 : w31.cell? ⟨gb103,6,none⟩ = some (.float .f64 a0_6):=(blk_cell BK103.out 6).trans rfl;have hfz33_0:=blk_frozen BK103.out 0;have hfz33_1:=blk_frozen BK103.out 1;have hfz33_2:=blk_frozen BK103.out 2;have hfz33_3:=blk_frozen BK103.out 3;have hfz33_4:=blk_frozen BK103.out 4;have hfz33_5:=blk_frozen BK103.out 5;have hfz33_6:=blk_frozen BK103.out 6;have hcz34_0 : w31.cell? ⟨gb104,0,none⟩ = some (.int .i64 a1_0):=(blk_cell BK104.out 0).trans rfl;have hcz34_1 : w31.cell? ⟨gb104,1,none⟩ = some (.float .f64 a1_1):=(blk_cell BK104.out 1).trans rfl;have hcz34_2 : w31.cell? ⟨gb104,2,none⟩ = some (.float .f64 a1_2):=(blk_cell BK104.out 2).trans rfl;have hcz34_3 : w31.cell? ⟨gb104,3,none⟩ = some (.float .f64 a1_3):=(blk_cell BK104.out 3).trans rfl;have hcz34_4 : w31.cell? ⟨gb104,4,none⟩ = some (.float .f64 a1_4):=(blk_cell BK104.out 4).trans rfl;have hcz34_5 : w31.cell? ⟨gb104,5,none⟩ = some (.float .f64 a1_5):=(blk_cell BK104.out 5).trans rfl;have hcz34_6 : w31.cell? ⟨gb104,6,none⟩ = some (.float .f64 a1_6):=(blk_cell BK104.out 6).trans rfl;have hfz34_0:=blk_frozen BK104.out 0;have hfz34_1:=blk_frozen BK104.out 1;have hfz34_2:=blk_frozen BK104.out 2;have hfz34_3:=blk_frozen BK104.out 3;have hfz34_4:=blk_frozen BK104.out 4;have hfz34_5:=blk_frozen BK104.out 5;have hfz34_6:=blk_frozen BK104.out 6)|(go_at_call 22;(with_reducible refine (quarryref13_Same.calls a0_1 a1_1 true _ A4.out).mono ?_);rintro e w' ⟨rfl,⟨nd,rfl⟩⟩)|(go_at_call 22;(with_reducible refine (quarryref13_Same.calls a0_2 a1_2 true _ A6.out).mono ?_);rintro e w' ⟨rfl,⟨nd,rfl⟩⟩)|(go_at_call 22;(with_reducible refine (quarryref13_Same.calls a0_3 a1_3 false _ A8.out).mono ?_);rintro e w' ⟨rfl,⟨nd,rfl⟩⟩))
     go_ret
     exact ⟨by first|rfl|(rw [px_ne];rfl)|(simp [errW_none,errW_some] <;> rfl)|(simp [*,errW_none,errW_some] <;> rfl),by repeat (first|(with_reducible first|exact HB.out|apply below_alloc|apply pw_below_drewN|apply below_drew1|refine below_set ?_ GE103.out|refine below_set ?_ GE104.out)|exact HB.out)⟩
   ·replace c7:=Bool.eq_false_iff.mpr c7
    subst c7
    have H1 : (some false) = some r:=by rw [if_neg (show ¬ (false = true) by decide)] at H;exact H
    clear H
    have H:=H1
    clear H1
    obtain rfl:=Option.some.inj H
    go_enter Try.func15,Try.ntmps15
    go_wp2_with (first|((with_reducible refine gate_dst (N:=2) rfl ?_);refine box_event ?hg (N:=2) ?hd (cs:=#[.int .i64 a0_0,.float .f64 a0_1,.float .f64 a0_2,.float .f64 a0_3,.float .f64 a0_4,.float .f64 a0_5,.float .f64 a0_6]) (t:=26) ?hr ?_;(case hd=>rfl);(case hg=>rfl);(case hr=>first|(go_simp;done)|(go_simp;rfl));intro gb103 hg w35 hbox hb;have n0_:=Aside0.mk (below_step (by repeat (first|(with_reducible first|exact HB.out|apply below_alloc|apply pw_below_drewN|apply below_drew1)|exact HB.out)) hb);have n1_:=Aside0.mk (hbox);have n2_:=Aside0.mk ((by rw [hg];exact (below_size (by repeat (first|(with_reducible first|exact HB.out|apply below_alloc|apply pw_below_drewN|apply below_drew1)|exact HB.out))) : w.heap.size ≤ gb103));have n3_:=Aside0.mk ((by rw [hg];exact (below_size (by repeat (first|(with_reducible first|exact HB.out|apply below_alloc|apply pw_below_drewN|apply below_drew1)|exact HB.out))) : w.heap.size ≤ gb103));clear HB;have HB:=n0_;have BK103:=n1_;have GW103:=n2_;have GE103:=n3_;clear n0_ n1_ n2_ n3_;clear hb hbox hg)|((with_reducible refine gate_dst (N:=3) rfl ?_);refine box_event ?hg (N:=3) ?hd (cs:=#[.int .i64 a1_0,.float .f64 a1_1,.float .f64 a1_2,.float .f64 a1_3,.float .f64 a1_4,.float .f64 a1_5,.float .f64 a1_6]) (t:=26) ?hr ?_;(case hd=>rfl);(case hg=>rfl);(case hr=>first|(go_simp;done)|(go_simp;rfl));intro gb104 hg w36 hbox hb;have n0_:=Aside0.mk (blk_below (g:=gb103) (o:=.cells #[.int .i64 a0_0,.float .f64 a0_1,.float .f64 a0_2,.float .f64 a0_3,.float .f64 a0_4,.float .f64 a0_5,.float .f64 a0_6] 26 (0,0)) (by (with_reducible repeat (first|refine blk_drewN ?_ _|refine blk_drew ?_|refine blk_alloc ?_ _));exact BK103.out) hb);have n1_:=Aside0.mk (below_step (by repeat (first|(with_reducible first|exact HB.out|apply below_alloc|apply pw_below_drewN|apply below_drew1|refine below_set ?_ GE103.out)|exact HB.out)) hb);have n2_:=Aside0.mk (hbox);have n3_:=Aside0.mk ((by rw [hg];exact (below_size (by repeat (first|(with_reducible first|exact HB.out|apply below_alloc|apply pw_below_drewN|apply below_drew1|refine below_set ?_ GE103.out)|exact HB.out))) : w.heap.size ≤ gb104));have n4_:=Aside0.mk ((by rw [hg];exact (below_size (by repeat (first|(with_reducible first|exact HB.out|apply below_alloc|apply pw_below_drewN|apply below_drew1|refine below_set ?_ GE103.out)|exact HB.out))) : w.heap.size ≤ gb104));have n5_:=Aside0.mk ((by rw [hg];exact Nat.ne_of_lt (blk_lt (g:=gb103) (o:=.cells #[.int .i64 a0_0,.float .f64 a0_1,.float .f64 a0_2,.float .f64 a0_3,.float .f64 a0_4,.float .f64 a0_5,.float .f64 a0_6] 26 (0,0)) (by (with_reducible repeat (first|refine blk_drewN ?_ _|refine blk_drew ?_|refine blk_alloc ?_ _));exact BK103.out)) : gb103 ≠ gb104));have n6_:=Aside0.mk ((by rw [hg];exact Nat.ne_of_gt (blk_lt (g:=gb103) (o:=.cells #[.int .i64 a0_0,.float .f64 a0_1,.float .f64 a0_2,.float .f64 a0_3,.float .f64 a0_4,.float .f64 a0_5,.float .f64 a0_6] 26 (0,0)) (by (with_reducible repeat (first|refine blk_drewN ?_ _|refine blk_drew ?_|refine blk_alloc ?_ _));exact BK103.out)) : gb104 ≠ gb103));clear BK103;clear HB;have BK103:=n0_;have HB:=n1_;have BK104:=n2_;have GW104:=n3_;have GE104:=n4_;have NB103_104:=n5_;have NB104_103:=n6_;clear n0_ n1_ n2_ n3_ n4_ n5_ n6_;clear hb hbox hg;have hnb37:=NB103_104.out;have hnc37:=NB104_103.out;have hcz38_0 : w36.cell? ⟨gb103,0,none⟩ = some (.int .i64 a0_0):=(blk_cell BK103.out 0).trans rfl;have hcz38_1 : w36.cell? ⟨gb103,1,none⟩ = some (.float .f64 a0_1):=(blk_cell BK103.out 1).trans rfl;have hcz38_2 : w36.cell? ⟨gb103,2,none⟩ = some (.float .f64 a0_2):=(blk_cell BK103.out 2).trans rfl;have hcz38_3 : w36.cell? ⟨gb103,3,none⟩ = some (.float .f64 a0_3):=(blk_cell BK103.out 3).trans rfl;have hcz38_4 : w36.cell? ⟨gb103,4,none⟩ = some (.float .f64 a0_4):=(blk_cell BK103.out 4).trans rfl;have hcz38_5 : w36.cell? ⟨gb103,5,none⟩ = some (.float .f64 a0_5):=(blk_cell BK103.out 5).trans rfl;have hcz38_6 : w36.cell? ⟨gb103,6,none⟩ = some (.float .f64 a0_6):=(blk_cell BK103.out 6).trans rfl;have hfz38_0:=blk_frozen BK103.out 0;have hfz38_1:=blk_frozen BK103.out 1;have hfz38_2:=blk_frozen BK103.out 2;have hfz38_3:=blk_frozen BK103.out 3;have hfz38_4:=blk_frozen BK103.out 4;have hfz38_5:=blk_frozen BK103.out 5;have hfz38_6:=blk_frozen BK103.out 6;have hcz39_0 : w36.cell? ⟨gb104,0,none⟩ = some (.int .i64 a1_0):=(blk_cell BK104.out 0).trans rfl;have hcz39_1 : w36.cell? ⟨gb104,1,none⟩ = some (.float .f64 a1_1):=(blk_cell BK104.out 1).trans rfl;have hcz39_2 : w36.cell? ⟨gb104,2,none⟩ = some (.float .f64 a1_2):=(blk_cell BK104.out 2).trans rfl;have hcz39_3 : w36.cell? ⟨gb104,3,none⟩ = some (.float .f64 a1_3):=(blk_cell BK104.out 3).trans rfl;have hcz39_4 : w36.cell? ⟨gb104,4,none⟩ = some (.float .f64 a1_4):=(blk_cell BK104.out 4).trans rfl;have hcz39_5 : w36.cell? ⟨gb104,5,none⟩ = some (.float .f64 a1_5):=(blk_cell BK104.out 5).trans rfl;have hcz39_6 : w36.cell? ⟨gb104,6,none⟩ = some (.float .f64 a1_6):=(blk_cell BK104.out 6).trans rfl;have hfz39_0:=blk_frozen BK104.out 0;have hfz39_1:=blk_frozen BK104.out 1;have hfz39_2:=blk_frozen BK104.out 2;have hfz39_3:=blk_frozen BK104.out 3;have hfz39_4:=blk_frozen BK104.out 4;have hfz39_5:=blk_frozen BK104.out 5;have hfz39_6:=blk_frozen BK104.out 6)|(go_at_call 22;(with_reducible refine (quarryref13_Same.calls a0_1 a1_1 true _ A4.out).mono ?_);rintro e w' ⟨rfl,⟨nd,rfl⟩⟩)|(go_at_call 22;(with_reducible refine (quarryref13_Same.calls a0_2 a1_2 false _ A6.out).mono ?_);rintro e w' ⟨rfl,⟨nd,rfl⟩⟩))
    go_ret
    exact ⟨by first|rfl|(rw [px_ne];rfl)|(simp [errW_none,errW_some] <;> rfl)|(simp [*,errW_none,errW_some] <;> rfl),by repeat (first|(with_reducible first|exact HB.out|apply below_alloc|apply pw_below_drewN|apply below_drew1|refine below_set ?_ GE103.out|refine below_set ?_ GE104.out)|exact HB.out)⟩
  ·replace c5:=Bool.eq_false_iff.mpr c5
   subst c5
   have H1 : (some false) = some r:=by rw [if_neg (show ¬ (false = true) by decide)] at H;exact H
   clear H
   have H:=H1
   clear H1
   obtain rfl:=Option.some.inj H
   go_enter Try.func15,Try.ntmps15
   go_wp2_with (first|((with_reducible refine gate_dst (N:=2) rfl ?_);refine box_event ?hg (N:=2) ?hd (cs:=#[.int .i64 a0_0,.float .f64 a0_1,.float .f64 a0_2,.float .f64 a0_3,.float .f64 a0_4,.float .f64 a0_5,.float .f64 a0_6]) (t:=26) ?hr ?_;(case hd=>rfl);(case hg=>rfl);(case hr=>first|(go_simp;done)|(go_simp;rfl));intro gb103 hg w40 hbox hb;have n0_:=Aside0.mk (below_step (by repeat (first|(with_reducible first|exact HB.out|apply below_alloc|apply pw_below_drewN|apply below_drew1)|exact HB.out)) hb);have n1_:=Aside0.mk (hbox);have n2_:=Aside0.mk ((by rw [hg];exact (below_size (by repeat (first|(with_reducible first|exact HB.out|apply below_alloc|apply pw_below_drewN|apply below_drew1)|exact HB.out))) : w.heap.size ≤ gb103));have n3_:=Aside0.mk ((by rw [hg];exact (below_size (by repeat (first|(with_reducible first|exact HB.out|apply below_alloc|apply pw_below_drewN|apply below_drew1)|exact HB.out))) : w.heap.size ≤ gb103));clear HB;have HB:=n0_;have BK103:=n1_;have GW103:=n2_;have GE103:=n3_;clear n0_ n1_ n2_ n3_;clear hb hbox hg)|((with_reducible refine gate_dst (N:=3) rfl ?_);refine box_event ?hg (N:=3) ?hd (cs:=#[.int .i64 a1_0,.float .f64 a1_1,.float .f64 a1_2,.float .f64 a1_3,.float .f64 a1_4,.float .f64 a1_5,.float .f64 a1_6]) (t:=26) ?hr ?_;(case hd=>rfl);(case hg=>rfl);(case hr=>first|(go_simp;done)|(go_simp;rfl));intro gb104 hg w41 hbox hb;have n0_:=Aside0.mk (blk_below (g:=gb103) (o:=.cells #[.int .i64 a0_0,.float .f64 a0_1,.float .f64 a0_2,.float .f64 a0_3,.float .f64 a0_4,.float .f64 a0_5,.float .f64 a0_6] 26 (0,0)) (by (with_reducible repeat (first|refine blk_drewN ?_ _|refine blk_drew ?_|refine blk_alloc ?_ _));exact BK103.out) hb);have n1_:=Aside0.mk (below_step (by repeat (first|(with_reducible first|exact HB.out|apply below_alloc|apply pw_below_drewN|apply below_drew1|refine below_set ?_ GE103.out)|exact HB.out)) hb);have n2_:=Aside0.mk (hbox);have n3_:=Aside0.mk ((by rw [hg];exact (below_size (by repeat (first|(with_reducible first|exact HB.out|apply below_alloc|apply pw_below_drewN|apply below_drew1|refine below_set ?_ GE103.out)|exact HB.out))) : w.heap.size ≤ gb104));have n4_:=Aside0.mk ((by rw [hg];exact (below_size (by repeat (first|(with_reducible first|exact HB.out|apply below_alloc|apply pw_below_drewN|apply below_drew1|refine below_set ?_ GE103.out)|exact HB.out))) : w.heap.size ≤ gb104));have n5_:=Aside0.mk ((by rw [hg];exact Nat.ne_of_lt (blk_lt (g:=gb103) (o:=.cells #[.int .i64 a0_0,.float .f64 a0_1,.float .f64 a0_2,.float .f64 a0_3,.float .f64 a0_4,.float .f64 a0_5,.float .f64 a0_6] 26 (0,0)) (by (with_reducible repeat (first|refine blk_drewN ?_ _|refine blk_drew ?_|refine blk_alloc ?_ _));exact BK103.out)) : gb103 ≠ gb104));have n6_:=Aside0.mk ((by rw [hg];exact Nat.ne_of_gt (blk_lt (g:=gb103) (o:=.cells #[.int .i64 a0_0,.float .f64 a0_1,.float .f64 a0_2,.float .f64 a0_3,.float .f64 a0_4,.float .f64 a0_5,.float .f64 a0_6] 26 (0,0)) (by (with_reducible repeat (first|refine blk_drewN ?_ _|refine blk_drew ?_|refine blk_alloc ?_ _));exact BK103.out)) : gb104 ≠ gb103));clear BK103;clear HB;have BK103:=n0_;have HB:=n1_;have BK104:=n2_;have GW104:=n3_;have GE104:=n4_;have NB103_104:=n5_;have NB104_103:=n6_;clear n0_ n1_ n2_ n3_ n4_ n5_ n6_;clear hb hbox hg;have hnb42:=NB103_104.out;have hnc42:=NB104_103.out;have hcz43_0 : w41.cell? ⟨gb103,0,none⟩ = some (.int .i64 a0_0):=(blk_cell BK103.out 0).trans rfl;have hcz43_1 : w41.cell? ⟨gb103,1,none⟩ = some (.float .f64 a0_1):=(blk_cell BK103.out 1).trans rfl;have hcz43_2 : w41.cell? ⟨gb103,2,none⟩ = some (.float .f64 a0_2):=(blk_cell BK103.out 2).trans rfl;have hcz43_3 : w41.cell? ⟨gb103,3,none⟩ = some (.float .f64 a0_3):=(blk_cell BK103.out 3).trans rfl;have hcz43_4 : w41.cell? ⟨gb103,4,none⟩ = some (.float .f64 a0_4):=(blk_cell BK103.out 4).trans rfl;have hcz43_5 : w41.cell? ⟨gb103,5,none⟩ = some (.float .f64 a0_5):=(blk_cell BK103.out 5).trans rfl;have hcz43_6 : w41.cell? ⟨gb103,6,none⟩ = some (.float .f64 a0_6):=(blk_cell BK103.out 6).trans rfl;have hfz43_0:=blk_frozen BK103.out 0;have hfz43_1:=blk_frozen BK103.out 1;have hfz43_2:=blk_frozen BK103.out 2;have hfz43_3:=blk_frozen BK103.out 3;have hfz43_4:=blk_frozen BK103.out 4;have hfz43_5:=blk_frozen BK103.out 5;have hfz43_6:=blk_frozen BK103.out 6;have hcz44_0 : w41.cell? ⟨gb104,0,none⟩ = some (.int .i64 a1_0):=(blk_cell BK104.out 0).trans rfl;have hcz44_1 : w41.cell? ⟨gb104,1,none⟩ = some (.float .f64 a1_1):=(blk_cell BK104.out 1).trans rfl;have hcz44_2 : w41.cell? ⟨gb104,2,none⟩ = some (.float .f64 a1_2):=(blk_cell BK104.out 2).trans rfl;have hcz44_3 : w41.cell? ⟨gb104,3,none⟩ = some (.float .f64 a1_3):=(blk_cell BK104.out 3).trans rfl;have hcz44_4 : w41.cell? ⟨gb104,4,none⟩ = some (.float .f64 a1_4):=(blk_cell BK104.out 4).trans rfl;have hcz44_5 : w41.cell? ⟨gb104,5,none⟩ = some (.float .f64 a1_5):=(blk_cell BK104.out 5).trans rfl;have hcz44_6 : w41.cell? ⟨gb104,6,none⟩ = some (.float .f64 a1_6):=(blk_cell BK104.out 6).trans rfl;have hfz44_0:=blk_frozen BK104.out 0;have hfz44_1:=blk_frozen BK104.out 1;have hfz44_2:=blk_frozen BK104.out 2;have hfz44_3:=blk_frozen BK104.out 3;have hfz44_4:=blk_frozen BK104.out 4;have hfz44_5:=blk_frozen BK104.out 5;have hfz44_6:=blk_frozen BK104.out 6)|(go_at_call 22;(with_reducible refine (quarryref13_Same.calls a0_1 a1_1 false _ A4.out).mono ?_);rintro e w' ⟨rfl,⟨nd,rfl⟩⟩))
   go_ret
   exact ⟨by first|rfl|(rw [px_ne];rfl)|(simp [errW_none,errW_some] <;> rfl)|(simp [*,errW_none,errW_some] <;> rfl),by repeat (first|(with_reducible first|exact HB.out|apply below_alloc|apply pw_below_drewN|apply below_drew1|refine below_set ?_ GE103.out|refine below_set ?_ GE104.out)|exact HB.out)⟩
 ·rw [if_neg c3] at H
  have c3b0 : (a0_0 == a1_0) = false:=beq_eq_false_iff_ne.mpr c3
  have c3b1 : (a0_0 != a1_0) = true:=bne_iff_ne.mpr c3
  obtain rfl:=Option.some.inj H
  go_enter Try.func15,Try.ntmps15
  go_wp2_with (first|((with_reducible refine gate_dst (N:=2) rfl ?_);refine box_event ?hg (N:=2) ?hd (cs:=#[.int .i64 a0_0,.float .f64 a0_1,.float .f64 a0_2,.float .f64 a0_3,.float .f64 a0_4,.float .f64 a0_5,.float .f64 a0_6]) (t:=26) ?hr ?_;(case hd=>rfl);(case hg=>rfl);(case hr=>first|(go_simp;done)|(go_simp;rfl));intro gb103 hg w45 hbox hb;have n0_:=Aside0.mk (below_step (by repeat (first|(with_reducible first|exact HB.out|apply below_alloc|apply pw_below_drewN|apply below_drew1)|exact HB.out)) hb);have n1_:=Aside0.mk (hbox);have n2_:=Aside0.mk ((by rw [hg];exact (below_size (by repeat (first|(with_reducible first|exact HB.out|apply below_alloc|apply pw_below_drewN|apply below_drew1)|exact HB.out))) : w.heap.size ≤ gb103));have n3_:=Aside0.mk ((by rw [hg];exact (below_size (by repeat (first|(with_reducible first|exact HB.out|apply below_alloc|apply pw_below_drewN|apply below_drew1)|exact HB.out))) : w.heap.size ≤ gb103));clear HB;have HB:=n0_;have BK103:=n1_;have GW103:=n2_;have GE103:=n3_;clear n0_ n1_ n2_ n3_;clear hb hbox hg)|((with_reducible refine gate_dst (N:=3) rfl ?_);refine box_event ?hg (N:=3) ?hd (cs:=#[.int .i64 a1_0,.float .f64 a1_1,.float .f64 a1_2,.float .f64 a1_3,.float .f64 a1_4,.float .f64 a1_5,.float .f64 a1_6]) (t:=26) ?hr ?_;(case hd=>rfl);(case hg=>rfl);(case hr=>first|(go_simp;done)|(go_simp;rfl));intro gb104 hg w46 hbox hb;have n0_:=Aside0.mk (blk_below (g:=gb103) (o:=.cells #[.int .i64 a0_0,.float .f64 a0_1,.float .f64 a0_2,.float .f64 a0_3,.float .f64 a0_4,.float .f64 a0_5,.float .f64 a0_6] 26 (0,0)) (by (with_reducible repeat (first|refine blk_drewN ?_ _|refine blk_drew ?_|refine blk_alloc ?_ _));exact BK103.out) hb);have n1_:=Aside0.mk (below_step (by repeat (first|(with_reducible first|exact HB.out|apply below_alloc|apply pw_below_drewN|apply below_drew1|refine below_set ?_ GE103.out)|exact HB.out)) hb);have n2_:=Aside0.mk (hbox);have n3_:=Aside0.mk ((by rw [hg];exact (below_size (by repeat (first|(with_reducible first|exact HB.out|apply below_alloc|apply pw_below_drewN|apply below_drew1|refine below_set ?_ GE103.out)|exact HB.out))) : w.heap.size ≤ gb104));have n4_:=Aside0.mk ((by rw [hg];exact (below_size (by repeat (first|(with_reducible first|exact HB.out|apply below_alloc|apply pw_below_drewN|apply below_drew1|refine below_set ?_ GE103.out)|exact HB.out))) : w.heap.size ≤ gb104));have n5_:=Aside0.mk ((by rw [hg];exact Nat.ne_of_lt (blk_lt (g:=gb103) (o:=.cells #[.int .i64 a0_0,.float .f64 a0_1,.float .f64 a0_2,.float .f64 a0_3,.float .f64 a0_4,.float .f64 a0_5,.float .f64 a0_6] 26 (0,0)) (by (with_reducible repeat (first|refine blk_drewN ?_ _|refine blk_drew ?_|refine blk_alloc ?_ _));exact BK103.out)) : gb103 ≠ gb104));have n6_:=Aside0.mk ((by rw [hg];exact Nat.ne_of_gt (blk_lt (g:=gb103) (o:=.cells #[.int .i64 a0_0,.float .f64 a0_1,.float .f64 a0_2,.float .f64 a0_3,.float .f64 a0_4,.float .f64 a0_5,.float .f64 a0_6] 26 (0,0)) (by (with_reducible repeat (first|refine blk_drewN ?_ _|refine blk_drew ?_|refine blk_alloc ?_ _));exact BK103.out)) : gb104 ≠ gb103));clear BK103;clear HB;have BK103:=n0_;have HB:=n1_;have BK104:=n2_;have GW104:=n3_;have GE104:=n4_;have NB103_104:=n5_;have NB104_103:=n6_;clear n0_ n1_ n2_ n3_ n4_ n5_ n6_;clear hb hbox hg;have hnb47:=NB103_104.out;have hnc47:=NB104_103.out;have hcz48_0 : w46.cell? ⟨gb103,0,none⟩ = some (.int .i64 a0_0):=(blk_cell BK103.out 0).trans rfl;have hcz48_1 : w46.cell? ⟨gb103,1,none⟩ = some (.float .f64 a0_1):=(blk_cell BK103.out 1).trans rfl;have hcz48_2 : w46.cell? ⟨gb103,2,none⟩ = some (.float .f64 a0_2):=(blk_cell BK103.out 2).trans rfl;have hcz48_3 : w46.cell? ⟨gb103,3,none⟩ = some (.float .f64 a0_3):=(blk_cell BK103.out 3).trans rfl;have hcz48_4 : w46.cell? ⟨gb103,4,none⟩ = some (.float .f64 a0_4):=(blk_cell BK103.out 4).trans rfl;have hcz48_5 : w46.cell? ⟨gb103,5,none⟩ = some (.float .f64 a0_5):=(blk_cell BK103.out 5).trans rfl;have hcz48_6 : w46.cell? ⟨gb103,6,none⟩ = some (.float .f64 a0_6):=(blk_cell BK103.out 6).trans rfl;have hfz48_0:=blk_frozen BK103.out 0;have hfz48_1:=blk_frozen BK103.out 1;have hfz48_2:=blk_frozen BK103.out 2;have hfz48_3:=blk_frozen BK103.out 3;have hfz48_4:=blk_frozen BK103.out 4;have hfz48_5:=blk_frozen BK103.out 5;have hfz48_6:=blk_frozen BK103.out 6;have hcz49_0 : w46.cell? ⟨gb104,0,none⟩ = some (.int .i64 a1_0):=(blk_cell BK104.out 0).trans rfl;have hcz49_1 : w46.cell? ⟨gb104,1,none⟩ = some (.float .f64 a1_1):=(blk_cell BK104.out 1).trans rfl;have hcz49_2 : w46.cell? ⟨gb104,2,none⟩ = some (.float .f64 a1_2):=(blk_cell BK104.out 2).trans rfl;have hcz49_3 : w46.cell? ⟨gb104,3,none⟩ = some (.float .f64 a1_3):=(blk_cell BK104.out 3).trans rfl;have hcz49_4 : w46.cell? ⟨gb104,4,none⟩ = some (.float .f64 a1_4):=(blk_cell BK104.out 4).trans rfl;have hcz49_5 : w46.cell? ⟨gb104,5,none⟩ = some (.float .f64 a1_5):=(blk_cell BK104.out 5).trans rfl;have hcz49_6 : w46.cell? ⟨gb104,6,none⟩ = some (.float .f64 a1_6):=(blk_cell BK104.out 6).trans rfl;have hfz49_0:=blk_frozen BK104.out 0;have hfz49_1:=blk_frozen BK104.out 1;have hfz49_2:=blk_frozen BK104.out 2;have hfz49_3:=blk_frozen BK104.out 3;have hfz49_4:=blk_frozen BK104.out 4;have hfz49_5:=blk_frozen BK104.out 5;have hfz49_6:=blk_frozen BK104.out 6))
  go_ret
  exact ⟨by first|rfl|(rw [px_ne];rfl)|(simp [errW_none,errW_some] <;> rfl)|(simp [*,errW_none,errW_some] <;> rfl),by repeat (first|(with_reducible first|exact HB.out|apply below_alloc|apply pw_below_drewN|apply below_drew1|refine below_set ?_ GE103.out|refine below_set ?_ GE104.out)|exact HB.out)⟩
def math_IsNaN.f (a0 : Nat) : Option (Bool):=some (FloatKind.f64.format.order a0 a0 != some .eq)
set_option maxHeartbeats 8000000 in
set_option maxRecDepth 100000 in
theorem math_IsNaN.calls (a0 : Nat) (r : Bool) (w : World) (h : math_IsNaN.f a0 = some r) :
  Calls Try.prog 68 #[.float .f64 a0] w fun e w'=>e = .returned (.bool r) ∧ Drawn0 w w':=by
 have H : (some (FloatKind.f64.format.order a0 a0 != some .eq)) = some r:=h
 clear h
 obtain rfl:=Option.some.inj H
 go_enter Try.func68,Try.ntmps68
 go_wp2
 go_ret
 exact ⟨by first|rfl|(simp;done)|(simp [*];done),by repeat (first|exact Drawn0.refl _|apply Drawn0.step)⟩
end Go.Proofs.Ytijmdmnhbbcahaa.PTallyJoins
