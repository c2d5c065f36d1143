-- Written by shrink.py, a program of this session: what the law needs of the print and its words. Lean checks it.
import Derived.Test.YtijmdmnhbbcahaaZPTallyStepsx0
import Derived.Test.YtijmdmnhbbcahaaZPTallyStepsx1
import Derived.Test.YtijmdmnhbbcahaaZPTallyStepsx2
import Derived.Test.YtijmdmnhbbcahaaZPTallyStepsx3
namespace Go.Proofs.Ytijmdmnhbbcahaa.PTallySteps
open Go.RowKit Go.Proofs.YtijmdmnhbbcahaaW.PrintWords Go.Proofs.YtijmdmnhbbcahaaW.PrintLast Go.Proofs.YtijmdmnhbbcahaaW.PrintMore
attribute [local go_sem] run_fadd run_fsub run_fmul run_fquo unary_fneg run_store_f64 run_store_c128 run_cadd
attribute [local go_sem] max2_int min2_int max_two min_two max_three min_three max_four min_four
set_option linter.unusedVariables false
set_option linter.unusedSimpArgs false
attribute [local go_sem high] eqA26
def math_IsInf.f (a0 : Nat) (a1 : Int) : Option (Bool):=if a1 = 0 then ((math_Abs.f a0).bind fun t101=>(some (FloatKind.f64.format.order t101 9218868437227405311 == some .gt))) else (if a1 < 0 then (some (FloatKind.f64.format.order (Op.negFloat .f64 a0) 9218868437227405311 == some .gt)) else (some (FloatKind.f64.format.order a0 9218868437227405311 == some .gt)))
set_option maxHeartbeats 8000000 in
set_option maxRecDepth 100000 in
theorem math_IsInf.calls (a0 : Nat) (a1 : Int) (r : Bool) (w : World) (h : math_IsInf.f a0 a1 = some r) :
  Calls Try.prog 69 #[.float .f64 a0,.int .i64 a1] w fun e w'=>e = .returned (.bool r) ∧ Drawn0 w w':=by
 have H : (if a1 = 0 then ((math_Abs.f a0).bind fun t101=>(some (FloatKind.f64.format.order t101 9218868437227405311 == some .gt))) else (if a1 < 0 then (some (FloatKind.f64.format.order (Op.negFloat .f64 a0) 9218868437227405311 == some .gt)) else (some (FloatKind.f64.format.order a0 9218868437227405311 == some .gt)))) = some r:=h;clear h
 by_cases c3 : a1 = 0
 ·rw [if_pos c3] at H
  have c3b0 : (a1 == 0) = true:=beq_iff_eq.mpr c3;have c3b1 : (a1 != 0) = false:=bne_eq_false_iff_eq.mpr c3;clear c3;replace H:=Option.bind_eq_some_iff.mp H;obtain ⟨t101,A40,H⟩:=H;replace H : (some (FloatKind.f64.format.order t101 9218868437227405311 == some .gt)) = some r:=H;have A4:=Aside0.mk A40;clear A40;obtain rfl:=Option.some.inj H;go_enter Try.func69,Try.ntmps69
  go_wp2_with (first|((with_reducible refine gate_callee (f:=70) rfl ?_);refine goesL_ (some 8) rfl rfl Try.func70 (by kernel_rfl) rfl #[.float .f64 a0] rfl am_ ?_;(with_reducible refine (math_Abs.calls a0 t101 _ A4.out).mono ?_);rintro e w' ⟨rfl,⟨nd,rfl⟩⟩;refine ⟨_,rfl,?_⟩))
  go_ret;exact ⟨by first|rfl|(simp;done)|(simp [*];done),by repeat (first|exact Drawn0.refl _|apply Drawn0.step)⟩
 rw [if_neg c3] at H
 have c3b0 : (a1 == 0) = false:=beq_eq_false_iff_ne.mpr c3;have c3b1 : (a1 != 0) = true:=bne_iff_ne.mpr c3
 by_cases c5 : a1 < 0
 ·rw [if_pos c5] at H
  have c5b0 : decide (a1 < 0) = true:=decide_eq_true c5;clear c5;obtain rfl:=Option.some.inj H;go_enter Try.func69,Try.ntmps69;go_wp2
  go_ret;exact ⟨by first|rfl|(simp;done)|(simp [*];done),by repeat (first|exact Drawn0.refl _|apply Drawn0.step)⟩
 rw [if_neg c5] at H
 have c5b0 : decide (a1 < 0) = false:=decide_eq_false c5;clear c5;obtain rfl:=Option.some.inj H;go_enter Try.func69,Try.ntmps69;go_wp2
 go_ret;exact ⟨by first|rfl|(simp;done)|(simp [*];done),by repeat (first|exact Drawn0.refl _|apply Drawn0.step)⟩
def tally_finite.l0 : Nat → List Nat → Int → Int → Option (Bool)
 | 0,_,_,_=>none
 | k + 1,x5,x6,x7=>if x7 < x6 then (if 0 ≤ x7 then (if x7 < (x5.length : Int) then ((math_IsNaN.f (rdOf (0 : Nat) x5 x7)).bind fun t103=>(if t103 = true then (some false) else ((math_IsInf.f (rdOf (0 : Nat) x5 x7) 0).bind fun t104=>(if t104 = true then (some false) else (tally_finite.l0 k x5 x6 (wrap64 (x7 + 1))))))) else (none)) else (none)) else (some true)
def tally_finite.f (k : Nat) (l0 : List Nat) : Option (Bool):=tally_finite.l0 k l0 (l0.length : Int) 0
set_option maxHeartbeats 8000000 in
set_option maxRecDepth 100000 in
theorem tally_finite.calls (k : Nat) (A0 : Option Addr) (c0 : Nat) (l0 : List Nat) (r : Bool) (w : World) (hr0 : Kd.C Kd.f64 w A0 l0.length l0) (hc0 : l0.length ≤ c0) (h : tally_finite.f k l0 = some r) :
  Calls Try.prog 40 #[.slice A0 l0.length c0] w fun e w'=>e = .returned (.bool r) ∧ Drawn0 w w':=by
 have HR0:=Aside0.mk hr0;have HC0:=Aside0.mk hc0;clear hr0 hc0;have H : (tally_finite.l0 k l0 (l0.length : Int) 0) = some r:=h;clear h;have H':=Aside0.mk H;clear H;go_enter Try.func40,Try.ntmps40;go_wp2
 go_loopg [7] k (fun kq v7 w'=>∃ (x7_1 : Int),v7 = .int .i64 x7_1 ∧ Aside0 (tally_finite.l0 kq l0 (l0.length : Int) x7_1 = some r) ∧ Aside0 (kq ≤ k) ∧ Drawn0 w w')
 case atStart=>exact ⟨(0),rr_,H',⟨Nat.le_refl _⟩,by repeat (first|exact Drawn0.refl _|apply Drawn0.step)⟩
 case round =>
  clear H';obtain ⟨x7_1,rfl,HA,HK1,⟨m1,rfl⟩⟩:=hrel
  cases gk with
  | zero=>exact absurd HA.out (by simp [tally_finite.l0])
  | succ k1 =>
   have H:=HA.out;clear HA
   simp only [tally_finite.l0] at H
   by_cases c2 : x7_1 < (l0.length : Int)
   ·rw [if_pos c2] at H
    have c2b0 : decide (x7_1 < (l0.length : Int)) = true:=decide_eq_true c2;clear c2
    by_cases c3 : 0 ≤ x7_1
    ·rw [if_pos c3] at H
     have c3b0 : decide (0 ≤ x7_1) = true:=decide_eq_true c3;clear c3
     by_cases c4 : x7_1 < (l0.length : Int)
     ·rw [if_pos c4] at H
      have c4b0 : decide (x7_1 < (l0.length : Int)) = true:=decide_eq_true c4;clear c4;replace H:=Option.bind_eq_some_iff.mp H;obtain ⟨t103,A50,H⟩:=H;replace H : (if t103 = true then (some false) else ((math_IsInf.f (rdOf (0 : Nat) l0 x7_1) 0).bind fun t104=>(if t104 = true then (some false) else (tally_finite.l0 k1 l0 (l0.length : Int) (wrap64 (x7_1 + 1)))))) = some r:=H;have A5:=Aside0.mk A50;clear A50
      by_cases c6 : t103 = true
      ·subst c6
       have H1 : (some false) = some r:=by rw [if_pos rfl] at H;exact H
       clear H;have H:=H1;clear H1;obtain rfl:=Option.some.inj H;have p102 : 0 ≤ (x7_1 : Int):=of_decide_eq_true aa_;have q102 : x7_1 < (l0.length : Int):=of_decide_eq_true aa_;obtain ⟨ad102,e102,hx102_0⟩:=Kd.at_f64 HR0.out x7_1 p102 q102;cases e102;replace p102:=eq_true p102;replace q102:=eq_true q102
       go_wp2_with (first|((with_reducible refine gate_callee (f:=68) rfl ?_);refine goesL_ (some 12) rfl rfl Try.func68 (by kernel_rfl) rfl #[.float .f64 (rdOf (0 : Nat) l0 x7_1)] rfl am_ ?_;(with_reducible refine (math_IsNaN.calls (rdOf (0 : Nat) l0 x7_1) true _ A5.out).mono ?_);rintro e w' ⟨rfl,⟨nd,rfl⟩⟩;refine ⟨_,rfl,?_⟩))
       go_ret;exact ⟨by first|rfl|(simp;done)|(simp [*];done),by repeat (first|exact Drawn0.refl _|apply Drawn0.step)⟩
      replace c6:=Bool.eq_false_iff.mpr c6;subst c6
      have H1 : ((math_IsInf.f (rdOf (0 : Nat) l0 x7_1) 0).bind fun t104=>(if t104 = true then (some false) else (tally_finite.l0 k1 l0 (l0.length : Int) (wrap64 (x7_1 + 1))))) = some r:=by rw [if_neg (show ¬ (false = true) by decide)] at H;exact H
      clear H;have H:=H1;clear H1;replace H:=Option.bind_eq_some_iff.mp H;obtain ⟨t104,A70,H⟩:=H;replace H : (if t104 = true then (some false) else (tally_finite.l0 k1 l0 (l0.length : Int) (wrap64 (x7_1 + 1)))) = some r:=H;have A7:=Aside0.mk A70;clear A70
      by_cases c8 : t104 = true
      ·subst c8
       have H1 : (some false) = some r:=by rw [if_pos rfl] at H;exact H
       clear H;have H:=H1;clear H1;obtain rfl:=Option.some.inj H;have p102 : 0 ≤ (x7_1 : Int):=of_decide_eq_true aa_;have q102 : x7_1 < (l0.length : Int):=of_decide_eq_true aa_;obtain ⟨ad102,e102,hx102_0⟩:=Kd.at_f64 HR0.out x7_1 p102 q102;cases e102;replace p102:=eq_true p102;replace q102:=eq_true q102
       go_wp2_with (first|((with_reducible refine gate_callee (f:=68) rfl ?_);refine goesL_ (some 12) rfl rfl Try.func68 (by kernel_rfl) rfl #[.float .f64 (rdOf (0 : Nat) l0 x7_1)] rfl am_ ?_;(with_reducible refine (math_IsNaN.calls (rdOf (0 : Nat) l0 x7_1) false _ A5.out).mono ?_);rintro e w' ⟨rfl,⟨nd,rfl⟩⟩;refine ⟨_,rfl,?_⟩)|(go_at_call 69;(with_reducible refine (math_IsInf.calls (rdOf (0 : Nat) l0 x7_1) 0 true _ A7.out).mono ?_);rintro e w' ⟨rfl,⟨nd,rfl⟩⟩))
       go_ret;exact ⟨by first|rfl|(simp;done)|(simp [*];done),by repeat (first|exact Drawn0.refl _|apply Drawn0.step)⟩
      replace c8:=Bool.eq_false_iff.mpr c8;subst c8
      have H1 : (tally_finite.l0 k1 l0 (l0.length : Int) (wrap64 (x7_1 + 1))) = some r:=by rw [if_neg (show ¬ (false = true) by decide)] at H;exact H
      clear H;have H:=H1;clear H1;have H':=Aside0.mk H;clear H;have p102 : 0 ≤ (x7_1 : Int):=of_decide_eq_true aa_;have q102 : x7_1 < (l0.length : Int):=of_decide_eq_true aa_;obtain ⟨ad102,e102,hx102_0⟩:=Kd.at_f64 HR0.out x7_1 p102 q102;cases e102;replace p102:=eq_true p102;replace q102:=eq_true q102
      go_wp2_with (first|((with_reducible refine gate_callee (f:=68) rfl ?_);refine goesL_ (some 12) rfl rfl Try.func68 (by kernel_rfl) rfl #[.float .f64 (rdOf (0 : Nat) l0 x7_1)] rfl am_ ?_;(with_reducible refine (math_IsNaN.calls (rdOf (0 : Nat) l0 x7_1) false _ A5.out).mono ?_);rintro e w' ⟨rfl,⟨nd,rfl⟩⟩;refine ⟨_,rfl,?_⟩)|(go_at_call 69;(with_reducible refine (math_IsInf.calls (rdOf (0 : Nat) l0 x7_1) 0 false _ A7.out).mono ?_);rintro e w' ⟨rfl,⟨nd,rfl⟩⟩))
      go_roundg k1
      case measure=>have:=HK1.out;omega
      case rel=>exact ⟨(wrap64 (x7_1 + 1)),rr_,(by first|exact H'|(subst_vars;exact H')),⟨by have:=HK1.out;omega⟩,by repeat (first|exact Drawn0.refl _|apply Drawn0.step)⟩
     rw [if_neg c4] at H
     exact absurd H (by simp)
    rw [if_neg c3] at H
    exact absurd H (by simp)
   rw [if_neg c2] at H
   have c2b0 : decide (x7_1 < (l0.length : Int)) = false:=decide_eq_false c2;clear c2;obtain rfl:=Option.some.inj H;go_wp2
   go_ret;exact ⟨by first|rfl|(simp;done)|(simp [*];done),by repeat (first|exact Drawn0.refl _|apply Drawn0.step)⟩
def tally_sound.f (k : Nat) (a0_0 : Int) (a0_1 : Nat) (a0_2 : Nat) (a0_3 : Nat) (a0_4 : Nat) (a0_5 : Nat) (a0_6 : Nat) : Option (Bool):=if a0_0 ≤ 4611686018427387904 then ((tally_finite.f k (([a0_1,a0_2,a0_3,a0_4,a0_5,a0_6] : List Nat))).bind fun t109=>(some t109)) else (some false)
set_option maxHeartbeats 8000000 in
set_option maxRecDepth 100000 in
theorem tally_sound.calls (k : Nat) (a0_0 : Int) (a0_1 : Nat) (a0_2 : Nat) (a0_3 : Nat) (a0_4 : Nat) (a0_5 : Nat) (a0_6 : Nat) (r : Bool) (w : World) (h : tally_sound.f k a0_0 a0_1 a0_2 a0_3 a0_4 a0_5 a0_6 = some r) :
  Calls Try.prog 45 #[.agg #[.int .i64 a0_0,.float .f64 a0_1,.float .f64 a0_2,.float .f64 a0_3,.float .f64 a0_4,.float .f64 a0_5,.float .f64 a0_6]] w fun e w'=>e = .returned (.bool r) ∧ Below w.heap.size w w':=by
 have hu26:=Try.underlying26;have HB:=Aside0.mk (Below.refl w.heap.size w);have H : (if a0_0 ≤ 4611686018427387904 then ((tally_finite.f k (([a0_1,a0_2,a0_3,a0_4,a0_5,a0_6] : List Nat))).bind fun t109=>(some t109)) else (some false)) = some r:=h;clear h;have HC2:=Aside0.mk H;clear H;go_enter Try.func45,Try.ntmps45
 go_upto_region 1 with (first|((with_reducible refine gate_dst (N:=1) rfl ?_);(try (refine gate_guard (by rfl) ?_;dsimp only));refine box_event ?hg (N:=1) ?hd (cs:=#[.int .i64 a0_0,.float .f64 a0_1,.float .f64 a0_2,.float .f64 a0_3,.float .f64 a0_4,.float .f64 a0_5,.float .f64 a0_6]) (t:=26) ?hr ?_;(case hd=>rfl);(case hg=>rfl);(case hr=>first|(go_simp;done)|(go_simp;rfl));intro gb105 hg w3 hbox hb;have n_:=J_ (below_step (hb_ HB) hb) (J_ (hbox) (J_ (bs_ hg HB) (Aside0.mk (bs_ hg HB))));clear HB;obtain ⟨HB,BK105,GW105,GE105⟩:=n_;clear hb hbox hg))
 (try simp only [Act.put,List.setIfInBounds_toArray,List.set_cons_zero,List.set_cons_succ])
 have H:=HC2.out;clear HC2
 by_cases c4 : a0_0 ≤ 4611686018427387904
 ·rw [if_pos c4] at H
  have c4b0 : decide (a0_0 ≤ 4611686018427387904) = true:=decide_eq_true c4;clear c4
  obtain ⟨y106,hy106⟩ : ∃ y_ : List Nat,y_ = (([a0_1,a0_2,a0_3,a0_4,a0_5,a0_6] : List Nat)):=⟨_,rfl⟩
  replace H : ((tally_finite.f k y106).bind fun t109=>(some t109)) = some r:=by first|(rw [hy106];with_reducible exact H)|(have H2_:=(Option.bind_some _ _).symm.trans H;rw [hy106];with_reducible exact H2_)|(have H2_:=(Option.bind_some _ _).symm.trans H;with_reducible exact H2_)|with_reducible exact H|(rw [hy106];exact H)|exact H
  have Ny106:=Aside0.mk hy106;clear hy106;replace H:=Option.bind_eq_some_iff.mp H;obtain ⟨t109,A50,H⟩:=H;replace H : (some t109) = some r:=H;have A5:=Aside0.mk A50;clear A50;obtain rfl:=Option.some.inj H;obtain ⟨hcz6_0,hcz6_1,hcz6_2,hcz6_3,hcz6_4,hcz6_5,hcz6_6,hfz6_0,hfz6_1,hfz6_2,hfz6_3,hfz6_4,hfz6_5,hfz6_6⟩:=cf7_ BK105
  go_wp2_with (first|((with_reducible refine gate_dst (N:=19) rfl ?_);(try (refine gate_guard (by rfl) ?_;dsimp only));refine Kd.R_lit Kd.f64 _ 24 ?hg (N:=19) ?hd (xs:=([a0_1,a0_2,a0_3,a0_4,a0_5,a0_6] : List Nat)) (inner:=[.float .f64 a0_1,.float .f64 a0_2,.float .f64 a0_3,.float .f64 a0_4,.float .f64 a0_5,.float .f64 a0_6]) (ok:=fun _=>True) (okp:=fun _=>True) ?hr ?hp (fun _ hk=>hk) trivial (Below.refl _ _) (Nat.le_refl _) (by simp) ?_;(case hd=>rfl);(case hg=>rfl);(case hr=>first|(go_simp;done)|(go_simp;rfl));(case hp=>exact (Reps.one (show Kd.M Kd.f64 _ _ _ a0_1 [.float .f64 a0_1] from rfl) (Reps.one (show Kd.M Kd.f64 _ _ _ a0_2 [.float .f64 a0_2] from rfl) (Reps.one (show Kd.M Kd.f64 _ _ _ a0_3 [.float .f64 a0_3] from rfl) (Reps.one (show Kd.M Kd.f64 _ _ _ a0_4 [.float .f64 a0_4] from rfl) (Reps.one (show Kd.M Kd.f64 _ _ _ a0_5 [.float .f64 a0_5] from rfl) (Reps.one (show Kd.M Kd.f64 _ _ _ a0_6 [.float .f64 a0_6] from rfl) (Reps.none _ _))))))));intro v107 w7 ho8 hb hg_ hnew_;clear hg_ hnew_;(first|rw [← Ny106.out] at ho8|(simp only [Int.reduceToNat] at ho8;rw [← Ny106.out] at ho8));have n_:=J_ (Kd.R_lower ho8 (below_size (hb_ HB))) (J_ (bkb_ BK105 hb) (Aside0.mk (below_step (hb_ HB) hb)));clear BK105 HB;obtain ⟨HO108,BK105,HB⟩:=n_;clear hb ho8;obtain ⟨Ao9,co9,eo9⟩:=Kd.R_slice HO108.out;subst eo9)|(go_at_call 40;(with_reducible refine (tally_finite.calls k _ _ y106 t109 _ ?side1 ?side2 A5.out).mono ?_);(case side1=>repeat (first|exact (Kd.R_reads' HO108.out).2.2|(with_reducible refine Kd.C_alloc ?_ _)|(with_reducible refine Kd.C_drewN ?_ _)|(with_reducible refine Kd.C_drew ?_)));(case side2=>exact (Kd.R_reads' HO108.out).2.1);rintro e w' ⟨rfl,⟨nd,rfl⟩⟩))
  go_ret;exact ⟨er_,(hb_ HB)⟩
 rw [if_neg c4] at H
 have c4b0 : decide (a0_0 ≤ 4611686018427387904) = false:=decide_eq_false c4;clear c4;obtain rfl:=Option.some.inj H;obtain ⟨hcz10_0,hcz10_1,hcz10_2,hcz10_3,hcz10_4,hcz10_5,hcz10_6,hfz10_0,hfz10_1,hfz10_2,hfz10_3,hfz10_4,hfz10_5,hfz10_6⟩:=cf7_ BK105;go_wp2
 go_ret;exact ⟨er_,(hb_ HB)⟩
def tally_formed.f (k : Nat) (a0_0 : Int) (a0_1 : Nat) (a0_2 : Nat) (a0_3 : Nat) (a0_4 : Nat) (a0_5 : Nat) (a0_6 : Nat) : Option (Bool):=if (a0_0 == 0 && (Op.floatEq .f64 a0_1 0 && (Op.floatEq .f64 a0_2 0 && (Op.floatEq .f64 a0_3 0 && (Op.floatEq .f64 a0_4 0 && (Op.floatEq .f64 a0_5 0 && (Op.floatEq .f64 a0_6 0))))))) = true then (some true) else (if a0_0 ≥ 1 then ((tally_sound.f k a0_0 a0_1 a0_2 a0_3 a0_4 a0_5 a0_6).bind fun t111=>(if t111 = true then (if (FloatKind.f64.format.order a0_1 a0_2 == some .lt || FloatKind.f64.format.order a0_1 a0_2 == some .eq) = true then (some (FloatKind.f64.format.order a0_6 0 == some .gt || FloatKind.f64.format.order a0_6 0 == some .eq)) else (some false)) else (some false))) else (some false))
set_option maxHeartbeats 8000000 in
set_option maxRecDepth 100000 in
theorem tally_formed.calls (k : Nat) (a0_0 : Int) (a0_1 : Nat) (a0_2 : Nat) (a0_3 : Nat) (a0_4 : Nat) (a0_5 : Nat) (a0_6 : Nat) (r : Bool) (w : World) (h : tally_formed.f k a0_0 a0_1 a0_2 a0_3 a0_4 a0_5 a0_6 = some r) :
  Calls Try.prog 43 #[.agg #[.int .i64 a0_0,.float .f64 a0_1,.float .f64 a0_2,.float .f64 a0_3,.float .f64 a0_4,.float .f64 a0_5,.float .f64 a0_6]] w fun e w'=>e = .returned (.bool r) ∧ Below w.heap.size w w':=by
 have hu26:=Try.underlying26;have HB:=Aside0.mk (Below.refl w.heap.size w);have H : (if (a0_0 == 0 && (Op.floatEq .f64 a0_1 0 && (Op.floatEq .f64 a0_2 0 && (Op.floatEq .f64 a0_3 0 && (Op.floatEq .f64 a0_4 0 && (Op.floatEq .f64 a0_5 0 && (Op.floatEq .f64 a0_6 0))))))) = true then (some true) else (if a0_0 ≥ 1 then ((tally_sound.f k a0_0 a0_1 a0_2 a0_3 a0_4 a0_5 a0_6).bind fun t111=>(if t111 = true then (if (FloatKind.f64.format.order a0_1 a0_2 == some .lt || FloatKind.f64.format.order a0_1 a0_2 == some .eq) = true then (some (FloatKind.f64.format.order a0_6 0 == some .gt || FloatKind.f64.format.order a0_6 0 == some .eq)) else (some false)) else (some false))) else (some false))) = some r:=h;clear h;have HC2:=Aside0.mk H;clear H;go_enter Try.func43,Try.ntmps43
 go_upto_region 1 with (first|((with_reducible refine gate_dst (N:=1) rfl ?_);refine box_event ?hg (N:=1) ?hd (cs:=#[.int .i64 a0_0,.float .f64 a0_1,.float .f64 a0_2,.float .f64 a0_3,.float .f64 a0_4,.float .f64 a0_5,.float .f64 a0_6]) (t:=26) ?hr ?_;(case hd=>rfl);(case hg=>rfl);(case hr=>first|(go_simp;done)|(go_simp;rfl));intro gb110 hg w3 hbox hb;have n_:=J_ (below_step (hb_ HB) hb) (J_ (hbox) (J_ (bs_ hg HB) (Aside0.mk (bs_ hg HB))));clear HB;obtain ⟨HB,BK110,GW110,GE110⟩:=n_;clear hb hbox hg))
 (try simp only [Act.put,List.setIfInBounds_toArray,List.set_cons_zero,List.set_cons_succ])
 have H:=HC2.out;clear HC2
 by_cases c4 : (a0_0 == 0 && (Op.floatEq .f64 a0_1 0 && (Op.floatEq .f64 a0_2 0 && (Op.floatEq .f64 a0_3 0 && (Op.floatEq .f64 a0_4 0 && (Op.floatEq .f64 a0_5 0 && (Op.floatEq .f64 a0_6 0))))))) = true
 ·rw [if_pos c4] at H
  have c4b0 : (a0_0 == 0 && (Op.floatEq .f64 a0_1 0 && (Op.floatEq .f64 a0_2 0 && (Op.floatEq .f64 a0_3 0 && (Op.floatEq .f64 a0_4 0 && (Op.floatEq .f64 a0_5 0 && (Op.floatEq .f64 a0_6 0))))))) = true:=c4
  (try (have c4b1 : decide (a0_0 = 0 && (Op.floatEq .f64 a0_1 0 && (Op.floatEq .f64 a0_2 0 && (Op.floatEq .f64 a0_3 0 && (Op.floatEq .f64 a0_4 0 && (Op.floatEq .f64 a0_5 0 && (Op.floatEq .f64 a0_6 0))))))) = true:=by simpa using c4))
  (try (have c4b2 : (a0_0 == 0 && (Op.floatEq .f64 a0_1 0 && (Op.floatEq .f64 a0_2 0 && (Op.floatEq .f64 a0_3 0 && (Op.floatEq .f64 a0_4 0 && (Op.floatEq .f64 a0_5 0 && (Op.floatEq .f64 a0_6 0))))))) = true:=by simpa using c4))
  clear c4;obtain rfl:=Option.some.inj H;obtain ⟨hcz5_0,hcz5_1,hcz5_2,hcz5_3,hcz5_4,hcz5_5,hcz5_6,hfz5_0,hfz5_1,hfz5_2,hfz5_3,hfz5_4,hfz5_5,hfz5_6⟩:=cf7_ BK110;go_wp2
  go_ret;exact ⟨er_,(hb_ HB)⟩
 rw [if_neg c4] at H
 have c4b0 : (a0_0 == 0 && (Op.floatEq .f64 a0_1 0 && (Op.floatEq .f64 a0_2 0 && (Op.floatEq .f64 a0_3 0 && (Op.floatEq .f64 a0_4 0 && (Op.floatEq .f64 a0_5 0 && (Op.floatEq .f64 a0_6 0))))))) = false:=by simpa using c4
 (try (have c4b1 : decide (a0_0 = 0 && (Op.floatEq .f64 a0_1 0 && (Op.floatEq .f64 a0_2 0 && (Op.floatEq .f64 a0_3 0 && (Op.floatEq .f64 a0_4 0 && (Op.floatEq .f64 a0_5 0 && (Op.floatEq .f64 a0_6 0))))))) = false:=by simpa using c4))
 (try (have c4b2 : (a0_0 == 0 && (Op.floatEq .f64 a0_1 0 && (Op.floatEq .f64 a0_2 0 && (Op.floatEq .f64 a0_3 0 && (Op.floatEq .f64 a0_4 0 && (Op.floatEq .f64 a0_5 0 && (Op.floatEq .f64 a0_6 0))))))) = false:=by simpa using c4))
 (try (have c4b3 : ¬ (a0_0 = 0 && (Op.floatEq .f64 a0_1 0 && (Op.floatEq .f64 a0_2 0 && (Op.floatEq .f64 a0_3 0 && (Op.floatEq .f64 a0_4 0 && (Op.floatEq .f64 a0_5 0 && (Op.floatEq .f64 a0_6 0))))))):=by simpa using c4))
 clear c4
 by_cases c6 : a0_0 ≥ 1
 ·rw [if_pos c6] at H
  have c6b0 : decide (1 ≤ a0_0) = true:=decide_eq_true c6;clear c6;replace H:=Option.bind_eq_some_iff.mp H;obtain ⟨t111,A70,H⟩:=H;replace H : (if t111 = true then (if (FloatKind.f64.format.order a0_1 a0_2 == some .lt || FloatKind.f64.format.order a0_1 a0_2 == some .eq) = true then (some (FloatKind.f64.format.order a0_6 0 == some .gt || FloatKind.f64.format.order a0_6 0 == some .eq)) else (some false)) else (some false)) = some r:=H;have A7:=Aside0.mk A70;clear A70
  by_cases c8 : t111 = true
  ·subst c8
   have H1 : (if (FloatKind.f64.format.order a0_1 a0_2 == some .lt || FloatKind.f64.format.order a0_1 a0_2 == some .eq) = true then (some (FloatKind.f64.format.order a0_6 0 == some .gt || FloatKind.f64.format.order a0_6 0 == some .eq)) else (some false)) = some r:=by rw [if_pos rfl] at H;exact H
   clear H;have H:=H1;clear H1
   by_cases c9 : (FloatKind.f64.format.order a0_1 a0_2 == some .lt || FloatKind.f64.format.order a0_1 a0_2 == some .eq) = true
   ·rw [if_pos c9] at H
    have c9b0 : (FloatKind.f64.format.order a0_1 a0_2 == some .lt || FloatKind.f64.format.order a0_1 a0_2 == some .eq) = true:=c9
    (try (have c9b1 : decide (FloatKind.f64.format.order a0_1 a0_2 = some .lt || FloatKind.f64.format.order a0_1 a0_2 == some .eq) = true:=by simpa using c9))
    (try (have c9b2 : (FloatKind.f64.format.order a0_1 a0_2 == some .lt || FloatKind.f64.format.order a0_1 a0_2 == some .eq) = true:=by simpa using c9))
    clear c9;obtain rfl:=Option.some.inj H;obtain ⟨hcz10_0,hcz10_1,hcz10_2,hcz10_3,hcz10_4,hcz10_5,hcz10_6,hfz10_0,hfz10_1,hfz10_2,hfz10_3,hfz10_4,hfz10_5,hfz10_6⟩:=cf7_ BK110
    go_wp2_with (first|(go_at_call 45;(with_reducible refine (tally_sound.calls k a0_0 a0_1 a0_2 a0_3 a0_4 a0_5 a0_6 true _ A7.out).mono ?_);rintro e w11 ⟨rfl,hb⟩;have n_:=J_ (bkb_ BK110 hb) (Aside0.mk (below_step (hb_ HB) hb));clear BK110 HB;obtain ⟨BK110,HB⟩:=n_;(try clear hb);(try clear hb2);(try clear hk);(try clear hi);obtain ⟨hcz12_0,hcz12_1,hcz12_2,hcz12_3,hcz12_4,hcz12_5,hcz12_6,hfz12_0,hfz12_1,hfz12_2,hfz12_3,hfz12_4,hfz12_5,hfz12_6⟩:=cf7_ BK110))
    go_ret;exact ⟨er_,(hb_ HB)⟩
   rw [if_neg c9] at H
   have c9b0 : (FloatKind.f64.format.order a0_1 a0_2 == some .lt || FloatKind.f64.format.order a0_1 a0_2 == some .eq) = false:=by simpa using c9
   (try (have c9b1 : decide (FloatKind.f64.format.order a0_1 a0_2 = some .lt || FloatKind.f64.format.order a0_1 a0_2 == some .eq) = false:=by simpa using c9))
   (try (have c9b2 : (FloatKind.f64.format.order a0_1 a0_2 == some .lt || FloatKind.f64.format.order a0_1 a0_2 == some .eq) = false:=by simpa using c9))
   (try (have c9b3 : ¬ (FloatKind.f64.format.order a0_1 a0_2 = some .lt || FloatKind.f64.format.order a0_1 a0_2 == some .eq):=by simpa using c9))
   clear c9;obtain rfl:=Option.some.inj H;obtain ⟨hcz13_0,hcz13_1,hcz13_2,hcz13_3,hcz13_4,hcz13_5,hcz13_6,hfz13_0,hfz13_1,hfz13_2,hfz13_3,hfz13_4,hfz13_5,hfz13_6⟩:=cf7_ BK110
   go_wp2_with (first|(go_at_call 45;(with_reducible refine (tally_sound.calls k a0_0 a0_1 a0_2 a0_3 a0_4 a0_5 a0_6 true _ A7.out).mono ?_);rintro e w14 ⟨rfl,hb⟩;have n_:=J_ (bkb_ BK110 hb) (Aside0.mk (below_step (hb_ HB) hb));clear BK110 HB;obtain ⟨BK110,HB⟩:=n_;(try clear hb);(try clear hb2);(try clear hk);(try clear hi);obtain ⟨hcz15_0,hcz15_1,hcz15_2,hcz15_3,hcz15_4,hcz15_5,hcz15_6,hfz15_0,hfz15_1,hfz15_2,hfz15_3,hfz15_4,hfz15_5,hfz15_6⟩:=cf7_ BK110))
   go_ret;exact ⟨er_,(hb_ HB)⟩
  replace c8:=Bool.eq_false_iff.mpr c8;subst c8
  have H1 : (some false) = some r:=by rw [if_neg (show ¬ (false = true) by decide)] at H;exact H
  clear H;have H:=H1;clear H1;obtain rfl:=Option.some.inj H;obtain ⟨hcz16_0,hcz16_1,hcz16_2,hcz16_3,hcz16_4,hcz16_5,hcz16_6,hfz16_0,hfz16_1,hfz16_2,hfz16_3,hfz16_4,hfz16_5,hfz16_6⟩:=cf7_ BK110
  go_wp2_with (first|(go_at_call 45;(with_reducible refine (tally_sound.calls k a0_0 a0_1 a0_2 a0_3 a0_4 a0_5 a0_6 false _ A7.out).mono ?_);rintro e w17 ⟨rfl,hb⟩;have n_:=J_ (bkb_ BK110 hb) (Aside0.mk (below_step (hb_ HB) hb));clear BK110 HB;obtain ⟨BK110,HB⟩:=n_;(try clear hb);(try clear hb2);(try clear hk);(try clear hi)))
  go_ret;exact ⟨er_,(hb_ HB)⟩
 rw [if_neg c6] at H
 have c6b0 : decide (1 ≤ a0_0) = false:=decide_eq_false c6;clear c6;obtain rfl:=Option.some.inj H;obtain ⟨hcz18_0,hcz18_1,hcz18_2,hcz18_3,hcz18_4,hcz18_5,hcz18_6,hfz18_0,hfz18_1,hfz18_2,hfz18_3,hfz18_4,hfz18_5,hfz18_6⟩:=cf7_ BK110;go_wp2
 go_ret;exact ⟨er_,(hb_ HB)⟩
def tally_lost.f (a0 : Nat) (a1 : Nat) (a2 : Nat) : Option (Nat):=(math_Abs.f a0).bind fun t112=>((math_Abs.f a1).bind fun t113=>(if (FloatKind.f64.format.order t112 t113 == some .gt || FloatKind.f64.format.order t112 t113 == some .eq) = true then (if fok .sub a0 a2 = true then (if fok .add (fop .sub a0 a2) a1 = true then (some (fop .add (fop .sub a0 a2) a1)) else (none)) else (none)) else (if fok .sub a1 a2 = true then (if fok .add (fop .sub a1 a2) a0 = true then (some (fop .add (fop .sub a1 a2) a0)) else (none)) else (none))))
set_option maxHeartbeats 8000000 in
set_option maxRecDepth 100000 in
theorem tally_lost.calls (a0 : Nat) (a1 : Nat) (a2 : Nat) (r : Nat) (w : World) (h : tally_lost.f a0 a1 a2 = some r) :
  Calls Try.prog 44 #[.float .f64 a0,.float .f64 a1,.float .f64 a2] w fun e w'=>e = .returned (.float .f64 r) ∧ Drawn0 w w':=by
 have H : ((math_Abs.f a0).bind fun t112=>((math_Abs.f a1).bind fun t113=>(if (FloatKind.f64.format.order t112 t113 == some .gt || FloatKind.f64.format.order t112 t113 == some .eq) = true then (if fok .sub a0 a2 = true then (if fok .add (fop .sub a0 a2) a1 = true then (some (fop .add (fop .sub a0 a2) a1)) else (none)) else (none)) else (if fok .sub a1 a2 = true then (if fok .add (fop .sub a1 a2) a0 = true then (some (fop .add (fop .sub a1 a2) a0)) else (none)) else (none))))) = some r:=h;clear h;replace H:=Option.bind_eq_some_iff.mp H;obtain ⟨t112,A40,H⟩:=H;replace H : ((math_Abs.f a1).bind fun t113=>(if (FloatKind.f64.format.order t112 t113 == some .gt || FloatKind.f64.format.order t112 t113 == some .eq) = true then (if fok .sub a0 a2 = true then (if fok .add (fop .sub a0 a2) a1 = true then (some (fop .add (fop .sub a0 a2) a1)) else (none)) else (none)) else (if fok .sub a1 a2 = true then (if fok .add (fop .sub a1 a2) a0 = true then (some (fop .add (fop .sub a1 a2) a0)) else (none)) else (none)))) = some r:=H;have A4:=Aside0.mk A40;clear A40;replace H:=Option.bind_eq_some_iff.mp H;obtain ⟨t113,A50,H⟩:=H;replace H : (if (FloatKind.f64.format.order t112 t113 == some .gt || FloatKind.f64.format.order t112 t113 == some .eq) = true then (if fok .sub a0 a2 = true then (if fok .add (fop .sub a0 a2) a1 = true then (some (fop .add (fop .sub a0 a2) a1)) else (none)) else (none)) else (if fok .sub a1 a2 = true then (if fok .add (fop .sub a1 a2) a0 = true then (some (fop .add (fop .sub a1 a2) a0)) else (none)) else (none))) = some r:=H
 have A5:=Aside0.mk A50;clear A50
 by_cases c6 : (FloatKind.f64.format.order t112 t113 == some .gt || FloatKind.f64.format.order t112 t113 == some .eq) = true
 ·rw [if_pos c6] at H
  have c6b0 : (FloatKind.f64.format.order t112 t113 == some .gt || FloatKind.f64.format.order t112 t113 == some .eq) = true:=c6
  (try (have c6b1 : decide (FloatKind.f64.format.order t112 t113 = some .gt || FloatKind.f64.format.order t112 t113 == some .eq) = true:=by simpa using c6))
  (try (have c6b2 : (FloatKind.f64.format.order t112 t113 == some .gt || FloatKind.f64.format.order t112 t113 == some .eq) = true:=by simpa using c6))
  clear c6
  by_cases c7 : fok .sub a0 a2 = true
  ·rw [if_pos c7] at H
   have c7b0:=eq_true c7;have c7b1 : decide (fok .sub a0 a2 = true) = true:=decide_eq_true c7;clear c7
   by_cases c8 : fok .add (fop .sub a0 a2) a1 = true
   ·rw [if_pos c8] at H
    have c8b0:=eq_true c8;have c8b1 : decide (fok .add (fop .sub a0 a2) a1 = true) = true:=decide_eq_true c8;clear c8;obtain rfl:=Option.some.inj H;go_enter Try.func44,Try.ntmps44
    go_wp2_with (first|((with_reducible refine gate_callee (f:=70) rfl ?_);refine goesL_ (some 8) rfl rfl Try.func70 (by kernel_rfl) rfl #[.float .f64 a0] rfl am_ ?_;(with_reducible refine (math_Abs.calls a0 t112 _ A4.out).mono ?_);rintro e w' ⟨rfl,⟨nd,rfl⟩⟩;refine ⟨_,rfl,?_⟩)|((with_reducible refine gate_callee (f:=70) rfl ?_);refine goesL_ (some 10) rfl rfl Try.func70 (by kernel_rfl) rfl #[.float .f64 a1] rfl am_ ?_;(with_reducible refine (math_Abs.calls a1 t113 _ A5.out).mono ?_);rintro e w' ⟨rfl,⟨nd,rfl⟩⟩;refine ⟨_,rfl,?_⟩))
    go_ret;exact ⟨by first|rfl|(simp;done)|(simp [*];done),by repeat (first|exact Drawn0.refl _|apply Drawn0.step)⟩
   rw [if_neg c8] at H
   exact absurd H (by simp)
  rw [if_neg c7] at H
  exact absurd H (by simp)
 rw [if_neg c6] at H
 have c6b0 : (FloatKind.f64.format.order t112 t113 == some .gt || FloatKind.f64.format.order t112 t113 == some .eq) = false:=by simpa using c6
 (try (have c6b1 : decide (FloatKind.f64.format.order t112 t113 = some .gt || FloatKind.f64.format.order t112 t113 == some .eq) = false:=by simpa using c6))
 (try (have c6b2 : (FloatKind.f64.format.order t112 t113 == some .gt || FloatKind.f64.format.order t112 t113 == some .eq) = false:=by simpa using c6))
 (try (have c6b3 : ¬ (FloatKind.f64.format.order t112 t113 = some .gt || FloatKind.f64.format.order t112 t113 == some .eq):=by simpa using c6))
 clear c6
 by_cases c9 : fok .sub a1 a2 = true
 ·rw [if_pos c9] at H
  have c9b0:=eq_true c9;have c9b1 : decide (fok .sub a1 a2 = true) = true:=decide_eq_true c9;clear c9
  by_cases c10 : fok .add (fop .sub a1 a2) a0 = true
  ·rw [if_pos c10] at H
   have c10b0:=eq_true c10;have c10b1 : decide (fok .add (fop .sub a1 a2) a0 = true) = true:=decide_eq_true c10;clear c10;obtain rfl:=Option.some.inj H;go_enter Try.func44,Try.ntmps44
   go_wp2_with (first|((with_reducible refine gate_callee (f:=70) rfl ?_);refine goesL_ (some 8) rfl rfl Try.func70 (by kernel_rfl) rfl #[.float .f64 a0] rfl am_ ?_;(with_reducible refine (math_Abs.calls a0 t112 _ A4.out).mono ?_);rintro e w' ⟨rfl,⟨nd,rfl⟩⟩;refine ⟨_,rfl,?_⟩)|((with_reducible refine gate_callee (f:=70) rfl ?_);refine goesL_ (some 10) rfl rfl Try.func70 (by kernel_rfl) rfl #[.float .f64 a1] rfl am_ ?_;(with_reducible refine (math_Abs.calls a1 t113 _ A5.out).mono ?_);rintro e w' ⟨rfl,⟨nd,rfl⟩⟩;refine ⟨_,rfl,?_⟩))
   go_ret;exact ⟨by first|rfl|(simp;done)|(simp [*];done),by repeat (first|exact Drawn0.refl _|apply Drawn0.step)⟩
  rw [if_neg c10] at H
  exact absurd H (by simp)
 rw [if_neg c9] at H
 exact absurd H (by simp)
end Go.Proofs.Ytijmdmnhbbcahaa.PTallySteps
