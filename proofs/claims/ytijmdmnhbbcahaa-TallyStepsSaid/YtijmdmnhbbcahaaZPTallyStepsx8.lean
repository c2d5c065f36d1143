-- Written by shrink.py, a program of this session: what the law needs of the print and its words. Lean checks it.
import Derived.Test.YtijmdmnhbbcahaaZPTallyStepsx0
import Derived.Test.YtijmdmnhbbcahaaZPTallyStepsx4
import Derived.Test.YtijmdmnhbbcahaaZPTallyStepsx7
namespace Go.Proofs.Ytijmdmnhbbcahaa.PTallySteps
open Go.RowKit Go.Proofs.YtijmdmnhbbcahaaW.PrintWords Go.Proofs.YtijmdmnhbbcahaaW.PrintLast Go.Proofs.YtijmdmnhbbcahaaW.PrintMore
attribute [local go_sem] run_fadd run_fsub run_fmul run_fquo unary_fneg run_store_f64 run_store_c128 run_cadd
attribute [local go_sem] max2_int min2_int max_two min_two max_three min_three max_four min_four
set_option linter.unusedVariables false
set_option linter.unusedSimpArgs false
def tally_Spread.f (k : Nat) (a0_0 : Int) (a0_1 : Nat) (a0_2 : Nat) (a0_3 : Nat) (a0_4 : Nat) (a0_5 : Nat) (a0_6 : Nat) : Option (Nat × Int):=(tally_formed.f k a0_0 a0_1 a0_2 a0_3 a0_4 a0_5 a0_6).bind fun t138=>(if t138 = true then (if a0_0 = 0 then (some (0,0)) else (if (FloatKind.f64.format.order a0_6 0 == some .eq) = true then (some (0,0)) else (if fok .quo a0_6 (floatOfInt .f64 a0_0) = true then ((math_Sqrt.f (fop .quo a0_6 (floatOfInt .f64 a0_0))).bind fun t139=>(some (t139,0))) else (none)))) else (some (0,1)))
set_option maxHeartbeats 8000000 in
set_option maxRecDepth 100000 in
theorem tally_Spread.calls (k : Nat) (a0_0 : Int) (a0_1 : Nat) (a0_2 : Nat) (a0_3 : Nat) (a0_4 : Nat) (a0_5 : Nat) (a0_6 : Nat) (r1 : Nat) (r2 : Int) (w : World) (h : tally_Spread.f k a0_0 a0_1 a0_2 a0_3 a0_4 a0_5 a0_6 = some (r1,r2)) :
  Calls Try.prog 20 #[.agg #[.int .i64 a0_0,.float .f64 a0_1,.float .f64 a0_2,.float .f64 a0_3,.float .f64 a0_4,.float .f64 a0_5,.float .f64 a0_6]] w fun e w'=>e = .returned (.tuple #[.float .f64 r1,.int .i64 r2]) ∧ Below w.heap.size w w':=by
 have hu26:=Try.underlying26;have HB:=Aside0.mk (Below.refl w.heap.size w);have H : ((tally_formed.f k a0_0 a0_1 a0_2 a0_3 a0_4 a0_5 a0_6).bind fun t138=>(if t138 = true then (if a0_0 = 0 then (some (0,0)) else (if (FloatKind.f64.format.order a0_6 0 == some .eq) = true then (some (0,0)) else (if fok .quo a0_6 (floatOfInt .f64 a0_0) = true then ((math_Sqrt.f (fop .quo a0_6 (floatOfInt .f64 a0_0))).bind fun t139=>(some (t139,0))) else (none)))) else (some (0,1)))) = some (r1,r2):=h;clear h;have HC2:=Aside0.mk H;clear H;go_enter Try.func20,Try.ntmps20
 go_upto_region 1 with (first|((with_reducible refine gate_dst (N:=1) rfl ?_);refine box_event ?hg (N:=1) ?hd (cs:=#[.int .i64 a0_0,.float .f64 a0_1,.float .f64 a0_2,.float .f64 a0_3,.float .f64 a0_4,.float .f64 a0_5,.float .f64 a0_6]) (t:=26) ?hr ?_;(case hd=>rfl);(case hg=>rfl);(case hr=>first|(go_simp;done)|(go_simp;rfl));intro gb137 hg w3 hbox hb;have n_:=J_ (below_step (hb_ HB) hb) (J_ (hbox) (J_ (bs_ hg HB) (Aside0.mk (bs_ hg HB))));clear HB;obtain ⟨HB,BK137,GW137,GE137⟩:=n_;clear hb hbox hg))
 (try simp only [Act.put,List.setIfInBounds_toArray,List.set_cons_zero,List.set_cons_succ])
 have H:=HC2.out;clear HC2;replace H:=Option.bind_eq_some_iff.mp H;obtain ⟨t138,A40,H⟩:=H;replace H : (if t138 = true then (if a0_0 = 0 then (some (0,0)) else (if (FloatKind.f64.format.order a0_6 0 == some .eq) = true then (some (0,0)) else (if fok .quo a0_6 (floatOfInt .f64 a0_0) = true then ((math_Sqrt.f (fop .quo a0_6 (floatOfInt .f64 a0_0))).bind fun t139=>(some (t139,0))) else (none)))) else (some (0,1))) = some (r1,r2):=H;have A4:=Aside0.mk A40;clear A40;have HC5:=Aside0.mk H;clear H;obtain ⟨hcz6_0,hcz6_1,hcz6_2,hcz6_3,hcz6_4,hcz6_5,hcz6_6,hfz6_0,hfz6_1,hfz6_2,hfz6_3,hfz6_4,hfz6_5,hfz6_6⟩:=cf7_ BK137
 go_upto_if 6 with (first|((with_reducible refine gate_callee (f:=43) rfl ?_);refine goesL_ (some 5) rfl rfl Try.func43 (by kernel_rfl) rfl #[.agg #[.int .i64 a0_0,.float .f64 a0_1,.float .f64 a0_2,.float .f64 a0_3,.float .f64 a0_4,.float .f64 a0_5,.float .f64 a0_6]] rfl am_ ?_;(with_reducible refine (tally_formed.calls k a0_0 a0_1 a0_2 a0_3 a0_4 a0_5 a0_6 t138 _ A4.out).mono ?_);rintro e w7 ⟨rfl,hb⟩;refine ⟨_,rfl,?_⟩;have n_:=J_ (bkb_ BK137 hb) (Aside0.mk (below_step (hb_ HB) hb));clear BK137 HB;obtain ⟨BK137,HB⟩:=n_;(try clear hb);(try clear hb2);(try clear hk);(try clear hi)))
 (try simp only [Act.put,List.setIfInBounds_toArray,List.set_cons_zero,List.set_cons_succ])
 have H:=HC5.out;clear HC5
 by_cases c8 : t138 = true
 ·subst c8
  have H1 : (if a0_0 = 0 then (some (0,0)) else (if (FloatKind.f64.format.order a0_6 0 == some .eq) = true then (some (0,0)) else (if fok .quo a0_6 (floatOfInt .f64 a0_0) = true then ((math_Sqrt.f (fop .quo a0_6 (floatOfInt .f64 a0_0))).bind fun t139=>(some (t139,0))) else (none)))) = some (r1,r2):=by rw [if_pos rfl] at H;exact H
  clear H;have H:=H1;clear H1
  by_cases c9 : a0_0 = 0
  ·rw [if_pos c9] at H
   have c9b0 : (a0_0 == 0) = true:=beq_iff_eq.mpr c9;have c9b1 : (a0_0 != 0) = false:=bne_eq_false_iff_eq.mpr c9;clear c9
   (first|rw [c9b0]|(simp only [i64_w,i32_w];rw [c9b0])|skip)
   simp only [Option.some.injEq,Prod.mk.injEq] at H
   obtain ⟨rfl,rfl⟩:=H;obtain ⟨hcz10_0,hcz10_1,hcz10_2,hcz10_3,hcz10_4,hcz10_5,hcz10_6,hfz10_0,hfz10_1,hfz10_2,hfz10_3,hfz10_4,hfz10_5,hfz10_6⟩:=cf7_ BK137;go_wp2
   go_ret2
   exact ⟨er_,(hb_ HB)⟩
  rw [if_neg c9] at H
  have c9b0 : (a0_0 == 0) = false:=beq_eq_false_iff_ne.mpr c9;have c9b1 : (a0_0 != 0) = true:=bne_iff_ne.mpr c9
  (first|rw [c9b0]|(simp only [i64_w,i32_w];rw [c9b0])|skip)
  by_cases c11 : (FloatKind.f64.format.order a0_6 0 == some .eq) = true
  ·rw [if_pos c11] at H
   have c11b0 : (FloatKind.f64.format.order a0_6 0 == some .eq) = true:=c11
   (try (have c11b1 : decide (FloatKind.f64.format.order a0_6 0 = some .eq) = true:=by simpa using c11))
   (try (have c11b2 : (FloatKind.f64.format.order a0_6 0 == some .eq) = true:=by simpa using c11))
   clear c11
   simp only [Option.some.injEq,Prod.mk.injEq] at H
   obtain ⟨rfl,rfl⟩:=H;obtain ⟨hcz12_0,hcz12_1,hcz12_2,hcz12_3,hcz12_4,hcz12_5,hcz12_6,hfz12_0,hfz12_1,hfz12_2,hfz12_3,hfz12_4,hfz12_5,hfz12_6⟩:=cf7_ BK137;go_wp2
   go_ret2
   exact ⟨er_,(hb_ HB)⟩
  rw [if_neg c11] at H
  have c11b0 : (FloatKind.f64.format.order a0_6 0 == some .eq) = false:=by simpa using c11
  (try (have c11b1 : decide (FloatKind.f64.format.order a0_6 0 = some .eq) = false:=by simpa using c11))
  (try (have c11b2 : (FloatKind.f64.format.order a0_6 0 == some .eq) = false:=by simpa using c11))
  (try (have c11b3 : ¬ (FloatKind.f64.format.order a0_6 0 = some .eq):=by simpa using c11))
  clear c11
  by_cases c13 : fok .quo a0_6 (floatOfInt .f64 a0_0) = true
  ·rw [if_pos c13] at H
   have c13b0:=eq_true c13;have c13b1 : decide (fok .quo a0_6 (floatOfInt .f64 a0_0) = true) = true:=decide_eq_true c13;clear c13;replace H:=Option.bind_eq_some_iff.mp H;obtain ⟨t139,A140,H⟩:=H;replace H : (some (t139,0)) = some (r1,r2):=H;have A14:=Aside0.mk A140;clear A140
   simp only [Option.some.injEq,Prod.mk.injEq] at H
   obtain ⟨rfl,rfl⟩:=H;obtain ⟨hcz15_0,hcz15_1,hcz15_2,hcz15_3,hcz15_4,hcz15_5,hcz15_6,hfz15_0,hfz15_1,hfz15_2,hfz15_3,hfz15_4,hfz15_5,hfz15_6⟩:=cf7_ BK137
   go_wp2_with (first|((with_reducible refine gate_callee (f:=49) rfl ?_);refine goesL_ (some 21) rfl rfl Try.func49 (by kernel_rfl) rfl #[.float .f64 (fop .quo a0_6 (floatOfInt .f64 a0_0))] rfl am_ ?_;(with_reducible refine (math_Sqrt.calls (fop .quo a0_6 (floatOfInt .f64 a0_0)) t139 _ A14.out).mono ?_);rintro e w' ⟨rfl,⟨nd,rfl⟩⟩;refine ⟨_,rfl,?_⟩))
   go_ret2
   exact ⟨er_,(hb_ HB)⟩
  rw [if_neg c13] at H
  exact absurd H (by simp)
 replace c8:=Bool.eq_false_iff.mpr c8;subst c8
 have H1 : (some (0,1)) = some (r1,r2):=by rw [if_neg (show ¬ (false = true) by decide)] at H;exact H
 clear H;have H:=H1;clear H1
 simp only [Option.some.injEq,Prod.mk.injEq] at H
 obtain ⟨rfl,rfl⟩:=H;go_wp2
 go_ret2
 exact ⟨er_,(hb_ HB)⟩
end Go.Proofs.Ytijmdmnhbbcahaa.PTallySteps
