-- Written by shrink.py, a program of this session: what the law needs of the print and its words. Lean checks it.
import Derived.Test.YtijmdmnhbbcahaaZPTallyPutsx0
namespace Go.Proofs.Ytijmdmnhbbcahaa.PTallyPuts
open Go.RowKit Go.Proofs.YtijmdmnhbbcahaaW.PrintWords Go.Proofs.YtijmdmnhbbcahaaW.PrintLast Go.Proofs.YtijmdmnhbbcahaaW.PrintMore
attribute [local go_sem] run_fadd run_fsub run_fmul run_fquo unary_fneg run_store_f64 run_store_c128 run_cadd
attribute [local go_sem] max2_int min2_int max_two min_two max_three min_three max_four min_four
set_option linter.unusedVariables false
set_option linter.unusedSimpArgs false
def quarryref13_Below.f (a0 : Nat) : Option (Bool):=if (FloatKind.f64.format.order a0 0 == some .lt) = true then (some true) else (if (FloatKind.f64.format.order a0 0 == some .eq) = true then (if fok .quo 4607182418800017408 a0 = true then (some (FloatKind.f64.format.order (fop .quo 4607182418800017408 a0) 0 == some .lt)) else (none)) else (some false))
set_option maxHeartbeats 8000000 in
set_option maxRecDepth 100000 in
theorem quarryref13_Below.calls (a0 : Nat) (r : Bool) (w : World) (h : quarryref13_Below.f a0 = some r) :
  Calls Try.prog 51 #[.float .f64 a0] w fun e w'=>e = .returned (.bool r) ∧ Drawn0 w w':=by
 have H : (if (FloatKind.f64.format.order a0 0 == some .lt) = true then (some true) else (if (FloatKind.f64.format.order a0 0 == some .eq) = true then (if fok .quo 4607182418800017408 a0 = true then (some (FloatKind.f64.format.order (fop .quo 4607182418800017408 a0) 0 == some .lt)) else (none)) else (some false))) = some r:=h
 clear h
 by_cases c2 : (FloatKind.f64.format.order a0 0 == some .lt) = true
 ·rw [if_pos c2] at H
  have c2b0 : (FloatKind.f64.format.order a0 0 == some .lt) = true:=c2
  (try (have c2b1 : decide (FloatKind.f64.format.order a0 0 = some .lt) = true:=by simpa using c2))
  (try (have c2b2 : (FloatKind.f64.format.order a0 0 == some .lt) = true:=by simpa using c2))
  clear c2
  obtain rfl:=Option.some.inj H
  go_enter Try.func51,Try.ntmps51
  go_wp2
  go_ret
  exact ⟨by first|rfl|(simp;done)|(simp [*];done),by repeat (first|exact Drawn0.refl _|apply Drawn0.step)⟩
 ·rw [if_neg c2] at H
  have c2b0 : (FloatKind.f64.format.order a0 0 == some .lt) = false:=by simpa using c2
  (try (have c2b1 : decide (FloatKind.f64.format.order a0 0 = some .lt) = false:=by simpa using c2))
  (try (have c2b2 : (FloatKind.f64.format.order a0 0 == some .lt) = false:=by simpa using c2))
  (try (have c2b3 : ¬ (FloatKind.f64.format.order a0 0 = some .lt):=by simpa using c2))
  clear c2
  by_cases c3 : (FloatKind.f64.format.order a0 0 == some .eq) = true
  ·rw [if_pos c3] at H
   have c3b0 : (FloatKind.f64.format.order a0 0 == some .eq) = true:=c3
   (try (have c3b1 : decide (FloatKind.f64.format.order a0 0 = some .eq) = true:=by simpa using c3))
   (try (have c3b2 : (FloatKind.f64.format.order a0 0 == some .eq) = true:=by simpa using c3))
   clear c3
   by_cases c4 : fok .quo 4607182418800017408 a0 = true
   ·rw [if_pos c4] at H
    have c4b0:=eq_true c4
    have c4b1 : decide (fok .quo 4607182418800017408 a0 = true) = true:=decide_eq_true c4
    clear c4
    obtain rfl:=Option.some.inj H
    go_enter Try.func51,Try.ntmps51
    go_wp2
    go_ret
    exact ⟨by first|rfl|(simp;done)|(simp [*];done),by repeat (first|exact Drawn0.refl _|apply Drawn0.step)⟩
   ·rw [if_neg c4] at H
    exact absurd H (by simp)
  ·rw [if_neg c3] at H
   have c3b0 : (FloatKind.f64.format.order a0 0 == some .eq) = false:=by simpa using c3
   (try (have c3b1 : decide (FloatKind.f64.format.order a0 0 = some .eq) = false:=by simpa using c3))
   (try (have c3b2 : (FloatKind.f64.format.order a0 0 == some .eq) = false:=by simpa using c3))
   (try (have c3b3 : ¬ (FloatKind.f64.format.order a0 0 = some .eq):=by simpa using c3))
   clear c3
   obtain rfl:=Option.some.inj H
   go_enter Try.func51,Try.ntmps51
   go_wp2
   go_ret
   exact ⟨by first|rfl|(simp;done)|(simp [*];done),by repeat (first|exact Drawn0.refl _|apply Drawn0.step)⟩
def quarryref13_Same.f (a0 : Nat) (a1 : Nat) : Option (Bool):=if (FloatKind.f64.format.order a0 a1 == some .eq) = true then ((quarryref13_Below.f a0).bind fun t101=>((quarryref13_Below.f a1).bind fun t102=>(if (t101 == t102) = true then (some true) else (if (FloatKind.f64.format.order a0 a0 != some .eq) = true then (some (FloatKind.f64.format.order a1 a1 != some .eq)) else (some false))))) else (if (FloatKind.f64.format.order a0 a0 != some .eq) = true then (some (FloatKind.f64.format.order a1 a1 != some .eq)) else (some false))
set_option maxHeartbeats 8000000 in
set_option maxRecDepth 100000 in
theorem quarryref13_Same.calls (a0 : Nat) (a1 : Nat) (r : Bool) (w : World) (h : quarryref13_Same.f a0 a1 = some r) :
  Calls Try.prog 22 #[.float .f64 a0,.float .f64 a1] w fun e w'=>e = .returned (.bool r) ∧ Drawn0 w w':=by
 have H : (if (FloatKind.f64.format.order a0 a1 == some .eq) = true then ((quarryref13_Below.f a0).bind fun t101=>((quarryref13_Below.f a1).bind fun t102=>(if (t101 == t102) = true then (some true) else (if (FloatKind.f64.format.order a0 a0 != some .eq) = true then (some (FloatKind.f64.format.order a1 a1 != some .eq)) else (some false))))) else (if (FloatKind.f64.format.order a0 a0 != some .eq) = true then (some (FloatKind.f64.format.order a1 a1 != some .eq)) else (some false))) = some r:=h
 clear h
 by_cases c3 : (FloatKind.f64.format.order a0 a1 == some .eq) = true
 ·rw [if_pos c3] at H
  have c3b0 : (FloatKind.f64.format.order a0 a1 == some .eq) = true:=c3
  (try (have c3b1 : decide (FloatKind.f64.format.order a0 a1 = some .eq) = true:=by simpa using c3))
  (try (have c3b2 : (FloatKind.f64.format.order a0 a1 == some .eq) = true:=by simpa using c3))
  clear c3
  replace H:=Option.bind_eq_some_iff.mp H
  obtain ⟨t101,A40,H⟩:=H
  replace H : ((quarryref13_Below.f a1).bind fun t102=>(if (t101 == t102) = true then (some true) else (if (FloatKind.f64.format.order a0 a0 != some .eq) = true then (some (FloatKind.f64.format.order a1 a1 != some .eq)) else (some false)))) = some r:=H
  have A4:=Aside0.mk A40
  clear A40
  replace H:=Option.bind_eq_some_iff.mp H
  obtain ⟨t102,A50,H⟩:=H
  replace H : (if (t101 == t102) = true then (some true) else (if (FloatKind.f64.format.order a0 a0 != some .eq) = true then (some (FloatKind.f64.format.order a1 a1 != some .eq)) else (some false))) = some r:=H
  have A5:=Aside0.mk A50
  clear A50
  by_cases c6 : (t101 == t102) = true
  ·rw [if_pos c6] at H
   have c6b0 : (t101 == t102) = true:=c6
   (try (have c6b1 : decide (t101 = t102) = true:=by simpa using c6))
   (try (have c6b2 : (t101 == t102) = true:=by simpa using c6))
   clear c6
   obtain rfl:=Option.some.inj H
   go_enter Try.func22,Try.ntmps22
   go_wp2_with (first|(go_at_call 51;(with_reducible refine (quarryref13_Below.calls a0 t101 _ A4.out).mono ?_);rintro e w' ⟨rfl,⟨nd,rfl⟩⟩)|(go_at_call 51;(with_reducible refine (quarryref13_Below.calls a1 t102 _ A5.out).mono ?_);rintro e w' ⟨rfl,⟨nd,rfl⟩⟩))
   go_ret
   exact ⟨by first|rfl|(simp;done)|(simp [*];done),by repeat (first|exact Drawn0.refl _|apply Drawn0.step)⟩
  ·rw [if_neg c6] at H
   have c6b0 : (t101 == t102) = false:=by simpa using c6
   (try (have c6b1 : decide (t101 = t102) = false:=by simpa using c6))
   (try (have c6b2 : (t101 == t102) = false:=by simpa using c6))
   (try (have c6b3 : ¬ (t101 = t102):=by simpa using c6))
   clear c6
   by_cases c7 : (FloatKind.f64.format.order a0 a0 != some .eq) = true
   ·rw [if_pos c7] at H
    have c7b0 : (FloatKind.f64.format.order a0 a0 != some .eq) = true:=c7
    (try (have c7b1 : decide (FloatKind.f64.format.order a0 a0 = some .eq) = false:=by simpa using c7))
    (try (have c7b2 : (FloatKind.f64.format.order a0 a0 == some .eq) = false:=by simpa using c7))
    (try (have c7b3 : ¬ (FloatKind.f64.format.order a0 a0 = some .eq):=by simpa using c7))
    clear c7
    obtain rfl:=Option.some.inj H
    go_enter Try.func22,Try.ntmps22
    go_wp2_with (first|(go_at_call 51;(with_reducible refine (quarryref13_Below.calls a0 t101 _ A4.out).mono ?_);rintro e w' ⟨rfl,⟨nd,rfl⟩⟩)|(go_at_call 51;(with_reducible refine (quarryref13_Below.calls a1 t102 _ A5.out).mono ?_);rintro e w' ⟨rfl,⟨nd,rfl⟩⟩))
    go_ret
    exact ⟨by first|rfl|(simp;done)|(simp [*];done),by repeat (first|exact Drawn0.refl _|apply Drawn0.step)⟩
   ·rw [if_neg c7] at H
    have c7b0 : (FloatKind.f64.format.order a0 a0 != some .eq) = false:=by simpa using c7
    (try (have c7b1 : decide (FloatKind.f64.format.order a0 a0 = some .eq) = true:=by simpa using c7))
    (try (have c7b2 : (FloatKind.f64.format.order a0 a0 == some .eq) = true:=by simpa using c7))
    clear c7
    obtain rfl:=Option.some.inj H
    go_enter Try.func22,Try.ntmps22
    go_wp2_with (first|(go_at_call 51;(with_reducible refine (quarryref13_Below.calls a0 t101 _ A4.out).mono ?_);rintro e w' ⟨rfl,⟨nd,rfl⟩⟩)|(go_at_call 51;(with_reducible refine (quarryref13_Below.calls a1 t102 _ A5.out).mono ?_);rintro e w' ⟨rfl,⟨nd,rfl⟩⟩))
    go_ret
    exact ⟨by first|rfl|(simp;done)|(simp [*];done),by repeat (first|exact Drawn0.refl _|apply Drawn0.step)⟩
 ·rw [if_neg c3] at H
  have c3b0 : (FloatKind.f64.format.order a0 a1 == some .eq) = false:=by simpa using c3
  (try (have c3b1 : decide (FloatKind.f64.format.order a0 a1 = some .eq) = false:=by simpa using c3))
  (try (have c3b2 : (FloatKind.f64.format.order a0 a1 == some .eq) = false:=by simpa using c3))
  (try (have c3b3 : ¬ (FloatKind.f64.format.order a0 a1 = some .eq):=by simpa using c3))
  clear c3
  by_cases c8 : (FloatKind.f64.format.order a0 a0 != some .eq) = true
  ·rw [if_pos c8] at H
   have c8b0 : (FloatKind.f64.format.order a0 a0 != some .eq) = true:=c8
   (try (have c8b1 : decide (FloatKind.f64.format.order a0 a0 = some .eq) = false:=by simpa using c8))
   (try (have c8b2 : (FloatKind.f64.format.order a0 a0 == some .eq) = false:=by simpa using c8))
   (try (have c8b3 : ¬ (FloatKind.f64.format.order a0 a0 = some .eq):=by simpa using c8))
   clear c8
   obtain rfl:=Option.some.inj H
   go_enter Try.func22,Try.ntmps22
   go_wp2
   go_ret
   exact ⟨by first|rfl|(simp;done)|(simp [*];done),by repeat (first|exact Drawn0.refl _|apply Drawn0.step)⟩
  ·rw [if_neg c8] at H
   have c8b0 : (FloatKind.f64.format.order a0 a0 != some .eq) = false:=by simpa using c8
   (try (have c8b1 : decide (FloatKind.f64.format.order a0 a0 = some .eq) = true:=by simpa using c8))
   (try (have c8b2 : (FloatKind.f64.format.order a0 a0 == some .eq) = true:=by simpa using c8))
   clear c8
   obtain rfl:=Option.some.inj H
   go_enter Try.func22,Try.ntmps22
   go_wp2
   go_ret
   exact ⟨by first|rfl|(simp;done)|(simp [*];done),by repeat (first|exact Drawn0.refl _|apply Drawn0.step)⟩
def quarrylaw31_same.f (a0_0 : Int) (a0_1 : Nat) (a0_2 : Nat) (a0_3 : Nat) (a0_4 : Nat) (a0_5 : Nat) (a0_6 : Nat) (a1_0 : Int) (a1_1 : Nat) (a1_2 : Nat) (a1_3 : Nat) (a1_4 : Nat) (a1_5 : Nat) (a1_6 : Nat) : Option (Bool):=if a0_0 = a1_0 then ((quarryref13_Same.f a0_1 a1_1).bind fun t105=>(if t105 = true then ((quarryref13_Same.f a0_2 a1_2).bind fun t106=>(if t106 = true then ((quarryref13_Same.f a0_3 a1_3).bind fun t107=>(if t107 = true then ((quarryref13_Same.f a0_4 a1_4).bind fun t108=>(if t108 = true then ((quarryref13_Same.f a0_5 a1_5).bind fun t109=>(if t109 = true then ((quarryref13_Same.f a0_6 a1_6).bind fun t110=>(some t110)) else (some false))) else (some false))) else (some false))) else (some false))) else (some false))) else (some false)
set_option maxHeartbeats 8000000 in
set_option maxRecDepth 100000 in
theorem quarrylaw31_same.calls (a0_0 : Int) (a0_1 : Nat) (a0_2 : Nat) (a0_3 : Nat) (a0_4 : Nat) (a0_5 : Nat) (a0_6 : Nat) (a1_0 : Int) (a1_1 : Nat) (a1_2 : Nat) (a1_3 : Nat) (a1_4 : Nat) (a1_5 : Nat) (a1_6 : Nat) (r : Bool) (w : World) (h : quarrylaw31_same.f a0_0 a0_1 a0_2 a0_3 a0_4 a0_5 a0_6 a1_0 a1_1 a1_2 a1_3 a1_4 a1_5 a1_6 = some r) :
  Calls Try.prog 15 #[.agg #[.int .i64 a0_0,.float .f64 a0_1,.float .f64 a0_2,.float .f64 a0_3,.float .f64 a0_4,.float .f64 a0_5,.float .f64 a0_6],.agg #[.int .i64 a1_0,.float .f64 a1_1,.float .f64 a1_2,.float .f64 a1_3,.float .f64 a1_4,.float .f64 a1_5,.float .f64 a1_6]] w fun e w'=>e = .returned (.bool r) ∧ Below w.heap.size w w':=by
 have hu26:=Try.underlying26
 have HB:=Aside0.mk (Below.refl w.heap.size w)
 have H : (if a0_0 = a1_0 then ((quarryref13_Same.f a0_1 a1_1).bind fun t105=>(if t105 = true then ((quarryref13_Same.f a0_2 a1_2).bind fun t106=>(if t106 = true then ((quarryref13_Same.f a0_3 a1_3).bind fun t107=>(if t107 = true then ((quarryref13_Same.f a0_4 a1_4).bind fun t108=>(if t108 = true then ((quarryref13_Same.f a0_5 a1_5).bind fun t109=>(if t109 = true then ((quarryref13_Same.f a0_6 a1_6).bind fun t110=>(some t110)) else (some false))) else (some false))) else (some false))) else (some false))) else (some false))) else (some false)) = some r:=h
 clear h
 by_cases c3 : a0_0 = a1_0
 ·rw [if_pos c3] at H
  have c3b0 : (a0_0 == a1_0) = true:=beq_iff_eq.mpr c3
  have c3b1 : (a0_0 != a1_0) = false:=bne_eq_false_iff_eq.mpr c3
  clear c3
  replace H:=Option.bind_eq_some_iff.mp H
  obtain ⟨t105,A40,H⟩:=H
  replace H : (if t105 = true then ((quarryref13_Same.f a0_2 a1_2).bind fun t106=>(if t106 = true then ((quarryref13_Same.f a0_3 a1_3).bind fun t107=>(if t107 = true then ((quarryref13_Same.f a0_4 a1_4).bind fun t108=>(if t108 = true then ((quarryref13_Same.f a0_5 a1_5).bind fun t109=>(if t109 = true then ((quarryref13_Same.f a0_6 a1_6).bind fun t110=>(some t110)) else (some false))) else (some false))) else (some false))) else (some false))) else (some false)) = some r:=H
  have A4:=Aside0.mk A40
  clear A40
  by_cases c5 : t105 = true
  ·subst c5
   have H1 : ((quarryref13_Same.f a0_2 a1_2).bind fun t106=>(if t106 = true then ((quarryref13_Same.f a0_3 a1_3).bind fun t107=>(if t107 = true then ((quarryref13_Same.f a0_4 a1_4).bind fun t108=>(if t108 = true then ((quarryref13_Same.f a0_5 a1_5).bind fun t109=>(if t109 = true then ((quarryref13_Same.f a0_6 a1_6).bind fun t110=>(some t110)) else (some false))) else (some false))) else (some false))) else (some false))) = some r:=by rw [if_pos rfl] at H;exact H
   clear H
   have H:=H1
   clear H1
   replace H:=Option.bind_eq_some_iff.mp H
   obtain ⟨t106,A60,H⟩:=H
   replace H : (if t106 = true then ((quarryref13_Same.f a0_3 a1_3).bind fun t107=>(if t107 = true then ((quarryref13_Same.f a0_4 a1_4).bind fun t108=>(if t108 = true then ((quarryref13_Same.f a0_5 a1_5).bind fun t109=>(if t109 = true then ((quarryref13_Same.f a0_6 a1_6).bind fun t110=>(some t110)) else (some false))) else (some false))) else (some false))) else (some false)) = some r:=H
   have A6:=Aside0.mk A60
   clear A60
   by_cases c7 : t106 = true
   ·subst c7
    have H1 : ((quarryref13_Same.f a0_3 a1_3).bind fun t107=>(if t107 = true then ((quarryref13_Same.f a0_4 a1_4).bind fun t108=>(if t108 = true then ((quarryref13_Same.f a0_5 a1_5).bind fun t109=>(if t109 = true then ((quarryref13_Same.f a0_6 a1_6).bind fun t110=>(some t110)) else (some false))) else (some false))) else (some false))) = some r:=by rw [if_pos rfl] at H;exact H
    clear H
    have H:=H1
    clear H1
    replace H:=Option.bind_eq_some_iff.mp H
    obtain ⟨t107,A80,H⟩:=H
    replace H : (if t107 = true then ((quarryref13_Same.f a0_4 a1_4).bind fun t108=>(if t108 = true then ((quarryref13_Same.f a0_5 a1_5).bind fun t109=>(if t109 = true then ((quarryref13_Same.f a0_6 a1_6).bind fun t110=>(some t110)) else (some false))) else (some false))) else (some false)) = some r:=H
    have A8:=Aside0.mk A80
    clear A80
    by_cases c9 : t107 = true
    ·subst c9
     have H1 : ((quarryref13_Same.f a0_4 a1_4).bind fun t108=>(if t108 = true then ((quarryref13_Same.f a0_5 a1_5).bind fun t109=>(if t109 = true then ((quarryref13_Same.f a0_6 a1_6).bind fun t110=>(some t110)) else (some false))) else (some false))) = some r:=by rw [if_pos rfl] at H;exact H
     clear H
     have H:=H1
     clear H1
     replace H:=Option.bind_eq_some_iff.mp H
     obtain ⟨t108,A100,H⟩:=H
     replace H : (if t108 = true then ((quarryref13_Same.f a0_5 a1_5).bind fun t109=>(if t109 = true then ((quarryref13_Same.f a0_6 a1_6).bind fun t110=>(some t110)) else (some false))) else (some false)) = some r:=H
     have A10:=Aside0.mk A100
     clear A100
     by_cases c11 : t108 = true
     ·subst c11
      have H1 : ((quarryref13_Same.f a0_5 a1_5).bind fun t109=>(if t109 = true then ((quarryref13_Same.f a0_6 a1_6).bind fun t110=>(some t110)) else (some false))) = some r:=by rw [if_pos rfl] at H;exact H
      clear H
      have H:=H1
      clear H1
      replace H:=Option.bind_eq_some_iff.mp H
      obtain ⟨t109,A120,H⟩:=H
      replace H : (if t109 = true then ((quarryref13_Same.f a0_6 a1_6).bind fun t110=>(some t110)) else (some false)) = some r:=H
      have A12:=Aside0.mk A120
      clear A120
      by_cases c13 : t109 = true
      ·subst c13
       have H1 : ((quarryref13_Same.f a0_6 a1_6).bind fun t110=>(some t110)) = some r:=by rw [if_pos rfl] at H;exact H
       clear H
       have H:=H1
       clear H1
       replace H:=Option.bind_eq_some_iff.mp H
       obtain ⟨t110,A140,H⟩:=H
       replace H : (some t110) = some r:=H
       have A14:=Aside0.mk A140
       clear A140
       obtain rfl:=Option.some.inj H
       go_enter Try.func15,Try.ntmps15
       go_wp2_with (first|((with_reducible refine gate_dst (N:=2) rfl ?_);refine box_event ?hg (N:=2) ?hd (cs:=#[.int .i64 a0_0,.float .f64 a0_1,.float .f64 a0_2,.float .f64 a0_3,.float .f64 a0_4,.float .f64 a0_5,.float .f64 a0_6]) (t:=26) ?hr ?_;(case hd=>rfl);(case hg=>rfl);(case hr=>first|(go_simp;done)|(go_simp;rfl));intro gb103 hg w15 hbox hb;have n_:=J_ (below_step (hb_ HB) hb) (J_ (hbox) (J_ (bs_ hg HB) (Aside0.mk (bs_ hg HB))));clear HB;obtain ⟨HB,BK103,GW103,GE103⟩:=n_;clear hb hbox hg)|((with_reducible refine gate_dst (N:=3) rfl ?_);refine box_event ?hg (N:=3) ?hd (cs:=#[.int .i64 a1_0,.float .f64 a1_1,.float .f64 a1_2,.float .f64 a1_3,.float .f64 a1_4,.float .f64 a1_5,.float .f64 a1_6]) (t:=26) ?hr ?_;(case hd=>rfl);(case hg=>rfl);(case hr=>first|(go_simp;done)|(go_simp;rfl));intro gb104 hg w16 hbox hb;have n_:=J_ (bkb_ BK103 hb) (J_ (below_step (hb_ HB) hb) (J_ (hbox) (J_ (bs_ hg HB) (J_ (bs_ hg HB) (J_ ((by rw [hg];exact Nat.ne_of_lt (bkl_ BK103) : gb103 ≠ gb104)) (Aside0.mk ((by rw [hg];exact Nat.ne_of_gt (bkl_ BK103) : gb104 ≠ gb103))))))));clear BK103 HB;obtain ⟨BK103,HB,BK104,GW104,GE104,NB103_104,NB104_103⟩:=n_;clear hb hbox hg;have hnb17:=NB103_104.out;have hnc17:=NB104_103.out;obtain ⟨hcz18_0,hcz18_1,hcz18_2,hcz18_3,hcz18_4,hcz18_5,hcz18_6,hfz18_0,hfz18_1,hfz18_2,hfz18_3,hfz18_4,hfz18_5,hfz18_6⟩:=cf7_ BK103;obtain ⟨hcz19_0,hcz19_1,hcz19_2,hcz19_3,hcz19_4,hcz19_5,hcz19_6,hfz19_0,hfz19_1,hfz19_2,hfz19_3,hfz19_4,hfz19_5,hfz19_6⟩:=cf7_ BK104)|(go_at_call 22;(with_reducible refine (quarryref13_Same.calls a0_1 a1_1 true _ A4.out).mono ?_);rintro e w' ⟨rfl,⟨nd,rfl⟩⟩)|(go_at_call 22;(with_reducible refine (quarryref13_Same.calls a0_2 a1_2 true _ A6.out).mono ?_);rintro e w' ⟨rfl,⟨nd,rfl⟩⟩)|(go_at_call 22;(with_reducible refine (quarryref13_Same.calls a0_3 a1_3 true _ A8.out).mono ?_);rintro e w' ⟨rfl,⟨nd,rfl⟩⟩)|(go_at_call 22;(with_reducible refine (quarryref13_Same.calls a0_4 a1_4 true _ A10.out).mono ?_);rintro e w' ⟨rfl,⟨nd,rfl⟩⟩)|(go_at_call 22;(with_reducible refine (quarryref13_Same.calls a0_5 a1_5 true _ A12.out).mono ?_);rintro e w' ⟨rfl,⟨nd,rfl⟩⟩)|(go_at_call 22;(with_reducible refine (quarryref13_Same.calls a0_6 a1_6 t110 _ A14.out).mono ?_);rintro e w' ⟨rfl,⟨nd,rfl⟩⟩))
       go_ret
       exact ⟨er_,(hb_ HB)⟩
      ·replace c13:=Bool.eq_false_iff.mpr c13
       subst c13
       have H1 : (some false) = some r:=by rw [if_neg (show ¬ (false = true) by decide)] at H;exact H
       clear H
       have H:=H1
       clear H1
       obtain rfl:=Option.some.inj H
       go_enter Try.func15,Try.ntmps15
       go_wp2_with (first|((with_reducible refine gate_dst (N:=2) rfl ?_);refine box_event ?hg (N:=2) ?hd (cs:=#[.int .i64 a0_0,.float .f64 a0_1,.float .f64 a0_2,.float .f64 a0_3,.float .f64 a0_4,.float .f64 a0_5,.float .f64 a0_6]) (t:=26) ?hr ?_;(case hd=>rfl);(case hg=>rfl);(case hr=>first|(go_simp;done)|(go_simp;rfl));intro gb103 hg w20 hbox hb;have n_:=J_ (below_step (hb_ HB) hb) (J_ (hbox) (J_ (bs_ hg HB) (Aside0.mk (bs_ hg HB))));clear HB;obtain ⟨HB,BK103,GW103,GE103⟩:=n_;clear hb hbox hg)|((with_reducible refine gate_dst (N:=3) rfl ?_);refine box_event ?hg (N:=3) ?hd (cs:=#[.int .i64 a1_0,.float .f64 a1_1,.float .f64 a1_2,.float .f64 a1_3,.float .f64 a1_4,.float .f64 a1_5,.float .f64 a1_6]) (t:=26) ?hr ?_;(case hd=>rfl);(case hg=>rfl);(case hr=>first|(go_simp;done)|(go_simp;rfl));intro gb104 hg w21 hbox hb;have n_:=J_ (bkb_ BK103 hb) (J_ (below_step (hb_ HB) hb) (J_ (hbox) (J_ (bs_ hg HB) (J_ (bs_ hg HB) (J_ ((by rw [hg];exact Nat.ne_of_lt (bkl_ BK103) : gb103 ≠ gb104)) (Aside0.mk ((by rw [hg];exact Nat.ne_of_gt (bkl_ BK103) : gb104 ≠ gb103))))))));clear BK103 HB;obtain ⟨BK103,HB,BK104,GW104,GE104,NB103_104,NB104_103⟩:=n_;clear hb hbox hg;have hnb22:=NB103_104.out;have hnc22:=NB104_103.out;obtain ⟨hcz23_0,hcz23_1,hcz23_2,hcz23_3,hcz23_4,hcz23_5,hcz23_6,hfz23_0,hfz23_1,hfz23_2,hfz23_3,hfz23_4,hfz23_5,hfz23_6⟩:=cf7_ BK103;obtain ⟨hcz24_0,hcz24_1,hcz24_2,hcz24_3,hcz24_4,hcz24_5,hcz24_6,hfz24_0,hfz24_1,hfz24_2,hfz24_3,hfz24_4,hfz24_5,hfz24_6⟩:=cf7_ BK104)|(go_at_call 22;(with_reducible refine (quarryref13_Same.calls a0_1 a1_1 true _ A4.out).mono ?_);rintro e w' ⟨rfl,⟨nd,rfl⟩⟩)|(go_at_call 22;(with_reducible refine (quarryref13_Same.calls a0_2 a1_2 true _ A6.out).mono ?_);rintro e w' ⟨rfl,⟨nd,rfl⟩⟩)|(go_at_call 22;(with_reducible refine (quarryref13_Same.calls a0_3 a1_3 true _ A8.out).mono ?_);rintro e w' ⟨rfl,⟨nd,rfl⟩⟩)|(go_at_call 22;(with_reducible refine (quarryref13_Same.calls a0_4 a1_4 true _ A10.out).mono ?_);rintro e w' ⟨rfl,⟨nd,rfl⟩⟩)|(go_at_call 22;(with_reducible refine (quarryref13_Same.calls a0_5 a1_5 false _ A12.out).mono ?_);rintro e w' ⟨rfl,⟨nd,rfl⟩⟩))
       go_ret
       exact ⟨er_,(hb_ HB)⟩
     ·replace c11:=Bool.eq_false_iff.mpr c11
      subst c11
      have H1 : (some false) = some r:=by rw [if_neg (show ¬ (false = true) by decide)] at H;exact H
      clear H
      have H:=H1
      clear H1
      obtain rfl:=Option.some.inj H
      go_enter Try.func15,Try.ntmps15
      go_wp2_with (first|((with_reducible refine gate_dst (N:=2) rfl ?_);refine box_event ?hg (N:=2) ?hd (cs:=#[.int .i64 a0_0,.float .f64 a0_1,.float .f64 a0_2,.float .f64 a0_3,.float .f64 a0_4,.float .f64 a0_5,.float .f64 a0_6]) (t:=26) ?hr ?_;(case hd=>rfl);(case hg=>rfl);(case hr=>first|(go_simp;done)|(go_simp;rfl));intro gb103 hg w25 hbox hb;have n_:=J_ (below_step (hb_ HB) hb) (J_ (hbox) (J_ (bs_ hg HB) (Aside0.mk (bs_ hg HB))));clear HB;obtain ⟨HB,BK103,GW103,GE103⟩:=n_;clear hb hbox hg)|((with_reducible refine gate_dst (N:=3) rfl ?_);refine box_event ?hg (N:=3) ?hd (cs:=#[.int .i64 a1_0,.float .f64 a1_1,.float .f64 a1_2,.float .f64 a1_3,.float .f64 a1_4,.float .f64 a1_5,.float .f64 a1_6]) (t:=26) ?hr ?_;(case hd=>rfl);(case hg=>rfl);(case hr=>first|(go_simp;done)|(go_simp;rfl));intro gb104 hg w26 hbox hb;have n_:=J_ (bkb_ BK103 hb) (J_ (below_step (hb_ HB) hb) (J_ (hbox) (J_ (bs_ hg HB) (J_ (bs_ hg HB) (J_ ((by rw [hg];exact Nat.ne_of_lt (bkl_ BK103) : gb103 ≠ gb104)) (Aside0.mk ((by rw [hg];exact Nat.ne_of_gt (bkl_ BK103) : gb104 ≠ gb103))))))));clear BK103 HB;obtain ⟨BK103,HB,BK104,GW104,GE104,NB103_104,NB104_103⟩:=n_;clear hb hbox hg;have hnb27:=NB103_104.out;have hnc27:=NB104_103.out;obtain ⟨hcz28_0,hcz28_1,hcz28_2,hcz28_3,hcz28_4,hcz28_5,hcz28_6,hfz28_0,hfz28_1,hfz28_2,hfz28_3,hfz28_4,hfz28_5,hfz28_6⟩:=cf7_ BK103;obtain ⟨hcz29_0,hcz29_1,hcz29_2,hcz29_3,hcz29_4,hcz29_5,hcz29_6,hfz29_0,hfz29_1,hfz29_2,hfz29_3,hfz29_4,hfz29_5,hfz29_6⟩:=cf7_ BK104)|(go_at_call 22;(with_reducible refine (quarryref13_Same.calls a0_1 a1_1 true _ A4.out).mono ?_);rintro e w' ⟨rfl,⟨nd,rfl⟩⟩)|(go_at_call 22;(with_reducible refine (quarryref13_Same.calls a0_2 a1_2 true _ A6.out).mono ?_);rintro e w' ⟨rfl,⟨nd,rfl⟩⟩)|(go_at_call 22;(with_reducible refine (quarryref13_Same.calls a0_3 a1_3 true _ A8.out).mono ?_);rintro e w' ⟨rfl,⟨nd,rfl⟩⟩)|(go_at_call 22;(with_reducible refine (quarryref13_Same.calls a0_4 a1_4 false _ A10.out).mono ?_);rintro e w' ⟨rfl,⟨nd,rfl⟩⟩))
      go_ret
      exact ⟨er_,(hb_ HB)⟩
    ·replace c9:=Bool.eq_false_iff.mpr c9
     subst c9
     have H1 : (some false) = some r:=by rw [if_neg (show ¬ (false = true) by decide)] at H;exact H
     clear H
     have H:=H1
     clear H1
     obtain rfl:=Option.some.inj H
     go_enter Try.func15,Try.ntmps15
     go_wp2_with (first|((with_reducible refine gate_dst (N:=2) rfl ?_);refine box_event ?hg (N:=2) ?hd (cs:=#[.int .i64 a0_0,.float .f64 a0_1,.float .f64 a0_2,.float .f64 a0_3,.float .f64 a0_4,.float .f64 a0_5,.float .f64 a0_6]) (t:=26) ?hr ?_;(case hd=>rfl);(case hg=>rfl);(case hr=>first|(go_simp;done)|(go_simp;rfl));intro gb103 hg w30 hbox hb;have n_:=J_ (below_step (hb_ HB) hb) (J_ (hbox) (J_ (bs_ hg HB) (Aside0.mk (bs_ hg HB))));clear HB;obtain ⟨HB,BK103,GW103,GE103⟩:=n_;clear hb hbox hg)|((with_reducible refine gate_dst (N:=3) rfl ?_);refine box_event ?hg (N:=3) ?hd (cs:=#[.int .i64 a1_0,.float .f64 a1_1,.float .f64 a1_2,.float .f64 a1_3,.float .f64 a1_4,.float .f64 a1_5,.float .f64 a1_6]) (t:=26) ?hr ?_;(case hd=>rfl);(case hg=>rfl);(case hr=>first|(go_simp;done)|(go_simp;rfl));intro gb104 hg w31 hbox hb;have n_:=J_ (bkb_ BK103 hb) (J_ (below_step (hb_ HB) hb) (J_ (hbox) (J_ (bs_ hg HB) (J_ (bs_ hg HB) (J_ ((by rw [hg];exact Nat.ne_of_lt (bkl_ BK103) : gb103 ≠ gb104)) (Aside0.mk ((by rw [hg];exact Nat.ne_of_gt (bkl_ BK103) : gb104 ≠ gb103))))))));clear BK103 HB;obtain ⟨BK103,HB,BK104,GW104,GE104,NB103_104,NB104_103⟩:=n_;clear hb hbox hg;have hnb32:=NB103_104.out;have hnc32:=NB104_103.out;obtain ⟨hcz33_0,hcz33_1,hcz33_2,hcz33_3,hcz33_4,hcz33_5,hcz33_6,hfz33_0,hfz33_1,hfz33_2,hfz33_3,hfz33_4,hfz33_5,hfz33_6⟩:=cf7_ BK103;obtain ⟨hcz34_0,hcz34_1,hcz34_2,hcz34_3,hcz34_4,hcz34_5,hcz34_6,hfz34_0,hfz34_1,hfz34_2,hfz34_3,hfz34_4,hfz34_5,hfz34_6⟩:=cf7_ BK104)|(go_at_call 22;(with_reducible refine (quarryref13_Same.calls a0_1 a1_1 true _ A4.out).mono ?_);rintro e w' ⟨rfl,⟨nd,rfl⟩⟩)|(go_at_call 22;(with_reducible refine (quarryref13_Same.calls a0_2 a1_2 true _ A6.out).mono ?_);rintro e w' ⟨rfl,⟨nd,rfl⟩⟩)|(go_at_call 22;(with_reducible refine (quarryref13_Same.calls a0_3 a1_3 false _ A8.out).mono ?_);rintro e w' ⟨rfl,⟨nd,rfl⟩⟩))
     go_ret
     exact ⟨er_,(hb_ HB)⟩
   ·replace c7:=Bool.eq_false_iff.mpr c7
    subst c7
    have H1 : (some false) = some r:=by rw [if_neg (show ¬ (false = true) by decide)] at H;exact H
    clear H
    have H:=H1
    clear H1
    obtain rfl:=Option.some.inj H
    go_enter Try.func15,Try.ntmps15
    go_wp2_with (first|((with_reducible refine gate_dst (N:=2) rfl ?_);refine box_event ?hg (N:=2) ?hd (cs:=#[.int .i64 a0_0,.float .f64 a0_1,.float .f64 a0_2,.float .f64 a0_3,.float .f64 a0_4,.float .f64 a0_5,.float .f64 a0_6]) (t:=26) ?hr ?_;(case hd=>rfl);(case hg=>rfl);(case hr=>first|(go_simp;done)|(go_simp;rfl));intro gb103 hg w35 hbox hb;have n_:=J_ (below_step (hb_ HB) hb) (J_ (hbox) (J_ (bs_ hg HB) (Aside0.mk (bs_ hg HB))));clear HB;obtain ⟨HB,BK103,GW103,GE103⟩:=n_;clear hb hbox hg)|((with_reducible refine gate_dst (N:=3) rfl ?_);refine box_event ?hg (N:=3) ?hd (cs:=#[.int .i64 a1_0,.float .f64 a1_1,.float .f64 a1_2,.float .f64 a1_3,.float .f64 a1_4,.float .f64 a1_5,.float .f64 a1_6]) (t:=26) ?hr ?_;(case hd=>rfl);(case hg=>rfl);(case hr=>first|(go_simp;done)|(go_simp;rfl));intro gb104 hg w36 hbox hb;have n_:=J_ (bkb_ BK103 hb) (J_ (below_step (hb_ HB) hb) (J_ (hbox) (J_ (bs_ hg HB) (J_ (bs_ hg HB) (J_ ((by rw [hg];exact Nat.ne_of_lt (bkl_ BK103) : gb103 ≠ gb104)) (Aside0.mk ((by rw [hg];exact Nat.ne_of_gt (bkl_ BK103) : gb104 ≠ gb103))))))));clear BK103 HB;obtain ⟨BK103,HB,BK104,GW104,GE104,NB103_104,NB104_103⟩:=n_;clear hb hbox hg;have hnb37:=NB103_104.out;have hnc37:=NB104_103.out;obtain ⟨hcz38_0,hcz38_1,hcz38_2,hcz38_3,hcz38_4,hcz38_5,hcz38_6,hfz38_0,hfz38_1,hfz38_2,hfz38_3,hfz38_4,hfz38_5,hfz38_6⟩:=cf7_ BK103;obtain ⟨hcz39_0,hcz39_1,hcz39_2,hcz39_3,hcz39_4,hcz39_5,hcz39_6,hfz39_0,hfz39_1,hfz39_2,hfz39_3,hfz39_4,hfz39_5,hfz39_6⟩:=cf7_ BK104)|(go_at_call 22;(with_reducible refine (quarryref13_Same.calls a0_1 a1_1 true _ A4.out).mono ?_);rintro e w' ⟨rfl,⟨nd,rfl⟩⟩)|(go_at_call 22;(with_reducible refine (quarryref13_Same.calls a0_2 a1_2 false _ A6.out).mono ?_);rintro e w' ⟨rfl,⟨nd,rfl⟩⟩))
    go_ret
    exact ⟨er_,(hb_ HB)⟩
  ·replace c5:=Bool.eq_false_iff.mpr c5
   subst c5
   have H1 : (some false) = some r:=by rw [if_neg (show ¬ (false = true) by decide)] at H;exact H
   clear H
   have H:=H1
   clear H1
   obtain rfl:=Option.some.inj H
   go_enter Try.func15,Try.ntmps15
   go_wp2_with (first|((with_reducible refine gate_dst (N:=2) rfl ?_);refine box_event ?hg (N:=2) ?hd (cs:=#[.int .i64 a0_0,.float .f64 a0_1,.float .f64 a0_2,.float .f64 a0_3,.float .f64 a0_4,.float .f64 a0_5,.float .f64 a0_6]) (t:=26) ?hr ?_;(case hd=>rfl);(case hg=>rfl);(case hr=>first|(go_simp;done)|(go_simp;rfl));intro gb103 hg w40 hbox hb;have n_:=J_ (below_step (hb_ HB) hb) (J_ (hbox) (J_ (bs_ hg HB) (Aside0.mk (bs_ hg HB))));clear HB;obtain ⟨HB,BK103,GW103,GE103⟩:=n_;clear hb hbox hg)|((with_reducible refine gate_dst (N:=3) rfl ?_);refine box_event ?hg (N:=3) ?hd (cs:=#[.int .i64 a1_0,.float .f64 a1_1,.float .f64 a1_2,.float .f64 a1_3,.float .f64 a1_4,.float .f64 a1_5,.float .f64 a1_6]) (t:=26) ?hr ?_;(case hd=>rfl);(case hg=>rfl);(case hr=>first|(go_simp;done)|(go_simp;rfl));intro gb104 hg w41 hbox hb;have n_:=J_ (bkb_ BK103 hb) (J_ (below_step (hb_ HB) hb) (J_ (hbox) (J_ (bs_ hg HB) (J_ (bs_ hg HB) (J_ ((by rw [hg];exact Nat.ne_of_lt (bkl_ BK103) : gb103 ≠ gb104)) (Aside0.mk ((by rw [hg];exact Nat.ne_of_gt (bkl_ BK103) : gb104 ≠ gb103))))))));clear BK103 HB;obtain ⟨BK103,HB,BK104,GW104,GE104,NB103_104,NB104_103⟩:=n_;clear hb hbox hg;have hnb42:=NB103_104.out;have hnc42:=NB104_103.out;obtain ⟨hcz43_0,hcz43_1,hcz43_2,hcz43_3,hcz43_4,hcz43_5,hcz43_6,hfz43_0,hfz43_1,hfz43_2,hfz43_3,hfz43_4,hfz43_5,hfz43_6⟩:=cf7_ BK103;obtain ⟨hcz44_0,hcz44_1,hcz44_2,hcz44_3,hcz44_4,hcz44_5,hcz44_6,hfz44_0,hfz44_1,hfz44_2,hfz44_3,hfz44_4,hfz44_5,hfz44_6⟩:=cf7_ BK104)|(go_at_call 22;(with_reducible refine (quarryref13_Same.calls a0_1 a1_1 false _ A4.out).mono ?_);rintro e w' ⟨rfl,⟨nd,rfl⟩⟩))
   go_ret
   exact ⟨er_,(hb_ HB)⟩
 ·rw [if_neg c3] at H
  have c3b0 : (a0_0 == a1_0) = false:=beq_eq_false_iff_ne.mpr c3
  have c3b1 : (a0_0 != a1_0) = true:=bne_iff_ne.mpr c3
  obtain rfl:=Option.some.inj H
  go_enter Try.func15,Try.ntmps15
  go_wp2_with (first|((with_reducible refine gate_dst (N:=2) rfl ?_);refine box_event ?hg (N:=2) ?hd (cs:=#[.int .i64 a0_0,.float .f64 a0_1,.float .f64 a0_2,.float .f64 a0_3,.float .f64 a0_4,.float .f64 a0_5,.float .f64 a0_6]) (t:=26) ?hr ?_;(case hd=>rfl);(case hg=>rfl);(case hr=>first|(go_simp;done)|(go_simp;rfl));intro gb103 hg w45 hbox hb;have n_:=J_ (below_step (hb_ HB) hb) (J_ (hbox) (J_ (bs_ hg HB) (Aside0.mk (bs_ hg HB))));clear HB;obtain ⟨HB,BK103,GW103,GE103⟩:=n_;clear hb hbox hg)|((with_reducible refine gate_dst (N:=3) rfl ?_);refine box_event ?hg (N:=3) ?hd (cs:=#[.int .i64 a1_0,.float .f64 a1_1,.float .f64 a1_2,.float .f64 a1_3,.float .f64 a1_4,.float .f64 a1_5,.float .f64 a1_6]) (t:=26) ?hr ?_;(case hd=>rfl);(case hg=>rfl);(case hr=>first|(go_simp;done)|(go_simp;rfl));intro gb104 hg w46 hbox hb;have n_:=J_ (bkb_ BK103 hb) (J_ (below_step (hb_ HB) hb) (J_ (hbox) (J_ (bs_ hg HB) (J_ (bs_ hg HB) (J_ ((by rw [hg];exact Nat.ne_of_lt (bkl_ BK103) : gb103 ≠ gb104)) (Aside0.mk ((by rw [hg];exact Nat.ne_of_gt (bkl_ BK103) : gb104 ≠ gb103))))))));clear BK103 HB;obtain ⟨BK103,HB,BK104,GW104,GE104,NB103_104,NB104_103⟩:=n_;clear hb hbox hg;have hnb47:=NB103_104.out;have hnc47:=NB104_103.out;obtain ⟨hcz48_0,hcz48_1,hcz48_2,hcz48_3,hcz48_4,hcz48_5,hcz48_6,hfz48_0,hfz48_1,hfz48_2,hfz48_3,hfz48_4,hfz48_5,hfz48_6⟩:=cf7_ BK103;obtain ⟨hcz49_0,hcz49_1,hcz49_2,hcz49_3,hcz49_4,hcz49_5,hcz49_6,hfz49_0,hfz49_1,hfz49_2,hfz49_3,hfz49_4,hfz49_5,hfz49_6⟩:=cf7_ BK104))
  go_ret
  exact ⟨er_,(hb_ HB)⟩
def math_IsNaN.f (a0 : Nat) : Option (Bool):=some (FloatKind.f64.format.order a0 a0 != some .eq)
set_option maxHeartbeats 8000000 in
set_option maxRecDepth 100000 in
theorem math_IsNaN.calls (a0 : Nat) (r : Bool) (w : World) (h : math_IsNaN.f a0 = some r) :
  Calls Try.prog 68 #[.float .f64 a0] w fun e w'=>e = .returned (.bool r) ∧ Drawn0 w w':=by
 have H : (some (FloatKind.f64.format.order a0 a0 != some .eq)) = some r:=h
 clear h
 obtain rfl:=Option.some.inj H
 go_enter Try.func68,Try.ntmps68
 go_wp2
 go_ret
 exact ⟨by first|rfl|(simp;done)|(simp [*];done),by repeat (first|exact Drawn0.refl _|apply Drawn0.step)⟩
end Go.Proofs.Ytijmdmnhbbcahaa.PTallyPuts
