-- Written by shrink.py, a program of this session: what the law needs of the print and its words. Lean checks it.
import Derived.Test.YtijmdmnhbbcahaaZPTallySpreadsx0
import Derived.Test.YtijmdmnhbbcahaaZPTallySpreadsx4
import Derived.Test.YtijmdmnhbbcahaaZPTallySpreadsx7
namespace Go.Proofs.Ytijmdmnhbbcahaa.PTallySpreads
open Go.RowKit Go.Proofs.YtijmdmnhbbcahaaW.PrintWords Go.Proofs.YtijmdmnhbbcahaaW.PrintLast Go.Proofs.YtijmdmnhbbcahaaW.PrintMore
attribute [local go_sem] run_fadd run_fsub run_fmul run_fquo unary_fneg run_store_f64 run_store_c128 run_cadd
attribute [local go_sem] max2_int min2_int max_two min_two max_three min_three max_four min_four
set_option linter.unusedVariables false
set_option linter.unusedSimpArgs false
def tally_Spread.f (k : Nat) (a0_0 : Int) (a0_1 : Nat) (a0_2 : Nat) (a0_3 : Nat) (a0_4 : Nat) (a0_5 : Nat) (a0_6 : Nat) : Option (Nat × Int):=(tally_formed.f k a0_0 a0_1 a0_2 a0_3 a0_4 a0_5 a0_6).bind fun t128=>(if t128 = true then (if a0_0 = 0 then (some (0,0)) else (if (FloatKind.f64.format.order a0_6 0 == some .eq) = true then (some (0,0)) else (if fok .quo a0_6 (floatOfInt .f64 a0_0) = true then ((math_Sqrt.f (fop .quo a0_6 (floatOfInt .f64 a0_0))).bind fun t129=>(some (t129,0))) else (none)))) else (some (0,1)))
set_option maxHeartbeats 8000000 in
set_option maxRecDepth 100000 in
theorem tally_Spread.calls (k : Nat) (a0_0 : Int) (a0_1 : Nat) (a0_2 : Nat) (a0_3 : Nat) (a0_4 : Nat) (a0_5 : Nat) (a0_6 : Nat) (r1 : Nat) (r2 : Int) (w : World) (h : tally_Spread.f k a0_0 a0_1 a0_2 a0_3 a0_4 a0_5 a0_6 = some (r1,r2)) :
  Calls Try.prog 20 #[.agg #[.int .i64 a0_0,.float .f64 a0_1,.float .f64 a0_2,.float .f64 a0_3,.float .f64 a0_4,.float .f64 a0_5,.float .f64 a0_6]] w fun e w'=>e = .returned (.tuple #[.float .f64 r1,.int .i64 r2]) ∧ Below w.heap.size w w':=by
 have hu26:=Try.underlying26
 have HB:=Aside0.mk (Below.refl w.heap.size w)
 have H : ((tally_formed.f k a0_0 a0_1 a0_2 a0_3 a0_4 a0_5 a0_6).bind fun t128=>(if t128 = true then (if a0_0 = 0 then (some (0,0)) else (if (FloatKind.f64.format.order a0_6 0 == some .eq) = true then (some (0,0)) else (if fok .quo a0_6 (floatOfInt .f64 a0_0) = true then ((math_Sqrt.f (fop .quo a0_6 (floatOfInt .f64 a0_0))).bind fun t129=>(some (t129,0))) else (none)))) else (some (0,1)))) = some (r1,r2):=h
 clear h
 replace H:=Option.bind_eq_some_iff.mp H
 obtain ⟨t128,A20,H⟩:=H
 replace H : (if t128 = true then (if a0_0 = 0 then (some (0,0)) else (if (FloatKind.f64.format.order a0_6 0 == some .eq) = true then (some (0,0)) else (if fok .quo a0_6 (floatOfInt .f64 a0_0) = true then ((math_Sqrt.f (fop .quo a0_6 (floatOfInt .f64 a0_0))).bind fun t129=>(some (t129,0))) else (none)))) else (some (0,1))) = some (r1,r2):=H
 have A2:=Aside0.mk A20
 clear A20
 by_cases c3 : t128 = true
 ·subst c3
  have H1 : (if a0_0 = 0 then (some (0,0)) else (if (FloatKind.f64.format.order a0_6 0 == some .eq) = true then (some (0,0)) else (if fok .quo a0_6 (floatOfInt .f64 a0_0) = true then ((math_Sqrt.f (fop .quo a0_6 (floatOfInt .f64 a0_0))).bind fun t129=>(some (t129,0))) else (none)))) = some (r1,r2):=by rw [if_pos rfl] at H;exact H
  clear H
  have H:=H1
  clear H1
  by_cases c4 : a0_0 = 0
  ·rw [if_pos c4] at H
   have c4b0 : (a0_0 == 0) = true:=beq_iff_eq.mpr c4
   have c4b1 : (a0_0 != 0) = false:=bne_eq_false_iff_eq.mpr c4
   clear c4
   simp only [Option.some.injEq,Prod.mk.injEq] at H
   obtain ⟨rfl,rfl⟩:=H
   go_enter Try.func20,Try.ntmps20
   go_wp2_with (first|((with_reducible refine gate_dst (N:=1) rfl ?_);refine box_event ?hg (N:=1) ?hd (cs:=#[.int .i64 a0_0,.float .f64 a0_1,.float .f64 a0_2,.float .f64 a0_3,.float .f64 a0_4,.float .f64 a0_5,.float .f64 a0_6]) (t:=26) ?hr ?_;(case hd=>rfl);(case hg=>rfl);(case hr=>first|(go_simp;done)|(go_simp;rfl));intro gb127 hg w5 hbox hb;have n_:=J_ (below_step (hb_ HB) hb) (J_ (hbox) (J_ (bs_ hg HB) (Aside0.mk (bs_ hg HB))));clear HB;obtain ⟨HB,BK127,GW127,GE127⟩:=n_;clear hb hbox hg;obtain ⟨hcz6_0,hcz6_1,hcz6_2,hcz6_3,hcz6_4,hcz6_5,hcz6_6,hfz6_0,hfz6_1,hfz6_2,hfz6_3,hfz6_4,hfz6_5,hfz6_6⟩:=cf7_ BK127)|((with_reducible refine gate_callee (f:=43) rfl ?_);refine goesL_ (some 5) rfl rfl Try.func43 (by kernel_rfl) rfl #[.agg #[.int .i64 a0_0,.float .f64 a0_1,.float .f64 a0_2,.float .f64 a0_3,.float .f64 a0_4,.float .f64 a0_5,.float .f64 a0_6]] rfl am_ ?_;(with_reducible refine (tally_formed.calls k a0_0 a0_1 a0_2 a0_3 a0_4 a0_5 a0_6 true _ A2.out).mono ?_);rintro e w7 ⟨rfl,hb⟩;refine ⟨_,rfl,?_⟩;have n_:=J_ (bkb_ BK127 hb) (Aside0.mk (below_step (hb_ HB) hb));clear BK127 HB;obtain ⟨BK127,HB⟩:=n_;(try clear hb);(try clear hb2);(try clear hk);(try clear hi);obtain ⟨hcz8_0,hcz8_1,hcz8_2,hcz8_3,hcz8_4,hcz8_5,hcz8_6,hfz8_0,hfz8_1,hfz8_2,hfz8_3,hfz8_4,hfz8_5,hfz8_6⟩:=cf7_ BK127))
   go_ret2
   exact ⟨er_,(hb_ HB)⟩
  ·rw [if_neg c4] at H
   have c4b0 : (a0_0 == 0) = false:=beq_eq_false_iff_ne.mpr c4
   have c4b1 : (a0_0 != 0) = true:=bne_iff_ne.mpr c4
   by_cases c9 : (FloatKind.f64.format.order a0_6 0 == some .eq) = true
   ·rw [if_pos c9] at H
    have c9b0 : (FloatKind.f64.format.order a0_6 0 == some .eq) = true:=c9
    (try (have c9b1 : decide (FloatKind.f64.format.order a0_6 0 = some .eq) = true:=by simpa using c9))
    (try (have c9b2 : (FloatKind.f64.format.order a0_6 0 == some .eq) = true:=by simpa using c9))
    clear c9
    simp only [Option.some.injEq,Prod.mk.injEq] at H
    obtain ⟨rfl,rfl⟩:=H
    go_enter Try.func20,Try.ntmps20
    go_wp2_with (first|((with_reducible refine gate_dst (N:=1) rfl ?_);refine box_event ?hg (N:=1) ?hd (cs:=#[.int .i64 a0_0,.float .f64 a0_1,.float .f64 a0_2,.float .f64 a0_3,.float .f64 a0_4,.float .f64 a0_5,.float .f64 a0_6]) (t:=26) ?hr ?_;(case hd=>rfl);(case hg=>rfl);(case hr=>first|(go_simp;done)|(go_simp;rfl));intro gb127 hg w10 hbox hb;have n_:=J_ (below_step (hb_ HB) hb) (J_ (hbox) (J_ (bs_ hg HB) (Aside0.mk (bs_ hg HB))));clear HB;obtain ⟨HB,BK127,GW127,GE127⟩:=n_;clear hb hbox hg;obtain ⟨hcz11_0,hcz11_1,hcz11_2,hcz11_3,hcz11_4,hcz11_5,hcz11_6,hfz11_0,hfz11_1,hfz11_2,hfz11_3,hfz11_4,hfz11_5,hfz11_6⟩:=cf7_ BK127)|((with_reducible refine gate_callee (f:=43) rfl ?_);refine goesL_ (some 5) rfl rfl Try.func43 (by kernel_rfl) rfl #[.agg #[.int .i64 a0_0,.float .f64 a0_1,.float .f64 a0_2,.float .f64 a0_3,.float .f64 a0_4,.float .f64 a0_5,.float .f64 a0_6]] rfl am_ ?_;(with_reducible refine (tally_formed.calls k a0_0 a0_1 a0_2 a0_3 a0_4 a0_5 a0_6 true _ A2.out).mono ?_);rintro e w12 ⟨rfl,hb⟩;refine ⟨_,rfl,?_⟩;have n_:=J_ (bkb_ BK127 hb) (Aside0.mk (below_step (hb_ HB) hb));clear BK127 HB;obtain ⟨BK127,HB⟩:=n_;(try clear hb);(try clear hb2);(try clear hk);(try clear hi);obtain ⟨hcz13_0,hcz13_1,hcz13_2,hcz13_3,hcz13_4,hcz13_5,hcz13_6,hfz13_0,hfz13_1,hfz13_2,hfz13_3,hfz13_4,hfz13_5,hfz13_6⟩:=cf7_ BK127))
    go_ret2
    exact ⟨er_,(hb_ HB)⟩
   ·rw [if_neg c9] at H
    have c9b0 : (FloatKind.f64.format.order a0_6 0 == some .eq) = false:=by simpa using c9
    (try (have c9b1 : decide (FloatKind.f64.format.order a0_6 0 = some .eq) = false:=by simpa using c9))
    (try (have c9b2 : (FloatKind.f64.format.order a0_6 0 == some .eq) = false:=by simpa using c9))
    (try (have c9b3 : ¬ (FloatKind.f64.format.order a0_6 0 = some .eq):=by simpa using c9))
    clear c9
    by_cases c14 : fok .quo a0_6 (floatOfInt .f64 a0_0) = true
    ·rw [if_pos c14] at H
     have c14b0:=eq_true c14
     have c14b1 : decide (fok .quo a0_6 (floatOfInt .f64 a0_0) = true) = true:=decide_eq_true c14
     clear c14
     replace H:=Option.bind_eq_some_iff.mp H
     obtain ⟨t129,A150,H⟩:=H
     replace H : (some (t129,0)) = some (r1,r2):=H
     have A15:=Aside0.mk A150
     clear A150
     simp only [Option.some.injEq,Prod.mk.injEq] at H
     obtain ⟨rfl,rfl⟩:=H
     go_enter Try.func20,Try.ntmps20
     go_wp2_with (first|((with_reducible refine gate_dst (N:=1) rfl ?_);refine box_event ?hg (N:=1) ?hd (cs:=#[.int .i64 a0_0,.float .f64 a0_1,.float .f64 a0_2,.float .f64 a0_3,.float .f64 a0_4,.float .f64 a0_5,.float .f64 a0_6]) (t:=26) ?hr ?_;(case hd=>rfl);(case hg=>rfl);(case hr=>first|(go_simp;done)|(go_simp;rfl));intro gb127 hg w16 hbox hb;have n_:=J_ (below_step (hb_ HB) hb) (J_ (hbox) (J_ (bs_ hg HB) (Aside0.mk (bs_ hg HB))));clear HB;obtain ⟨HB,BK127,GW127,GE127⟩:=n_;clear hb hbox hg;obtain ⟨hcz17_0,hcz17_1,hcz17_2,hcz17_3,hcz17_4,hcz17_5,hcz17_6,hfz17_0,hfz17_1,hfz17_2,hfz17_3,hfz17_4,hfz17_5,hfz17_6⟩:=cf7_ BK127)|((with_reducible refine gate_callee (f:=43) rfl ?_);refine goesL_ (some 5) rfl rfl Try.func43 (by kernel_rfl) rfl #[.agg #[.int .i64 a0_0,.float .f64 a0_1,.float .f64 a0_2,.float .f64 a0_3,.float .f64 a0_4,.float .f64 a0_5,.float .f64 a0_6]] rfl am_ ?_;(with_reducible refine (tally_formed.calls k a0_0 a0_1 a0_2 a0_3 a0_4 a0_5 a0_6 true _ A2.out).mono ?_);rintro e w18 ⟨rfl,hb⟩;refine ⟨_,rfl,?_⟩;have n_:=J_ (bkb_ BK127 hb) (Aside0.mk (below_step (hb_ HB) hb));clear BK127 HB;obtain ⟨BK127,HB⟩:=n_;(try clear hb);(try clear hb2);(try clear hk);(try clear hi);obtain ⟨hcz19_0,hcz19_1,hcz19_2,hcz19_3,hcz19_4,hcz19_5,hcz19_6,hfz19_0,hfz19_1,hfz19_2,hfz19_3,hfz19_4,hfz19_5,hfz19_6⟩:=cf7_ BK127)|((with_reducible refine gate_callee (f:=49) rfl ?_);refine goesL_ (some 21) rfl rfl Try.func49 (by kernel_rfl) rfl #[.float .f64 (fop .quo a0_6 (floatOfInt .f64 a0_0))] rfl am_ ?_;(with_reducible refine (math_Sqrt.calls (fop .quo a0_6 (floatOfInt .f64 a0_0)) t129 _ A15.out).mono ?_);rintro e w' ⟨rfl,⟨nd,rfl⟩⟩;refine ⟨_,rfl,?_⟩))
     go_ret2
     exact ⟨er_,(hb_ HB)⟩
    ·rw [if_neg c14] at H
     exact absurd H (by simp)
 ·replace c3:=Bool.eq_false_iff.mpr c3
  subst c3
  have H1 : (some (0,1)) = some (r1,r2):=by rw [if_neg (show ¬ (false = true) by decide)] at H;exact H
  clear H
  have H:=H1
  clear H1
  simp only [Option.some.injEq,Prod.mk.injEq] at H
  obtain ⟨rfl,rfl⟩:=H
  go_enter Try.func20,Try.ntmps20
  go_wp2_with (first|((with_reducible refine gate_dst (N:=1) rfl ?_);refine box_event ?hg (N:=1) ?hd (cs:=#[.int .i64 a0_0,.float .f64 a0_1,.float .f64 a0_2,.float .f64 a0_3,.float .f64 a0_4,.float .f64 a0_5,.float .f64 a0_6]) (t:=26) ?hr ?_;(case hd=>rfl);(case hg=>rfl);(case hr=>first|(go_simp;done)|(go_simp;rfl));intro gb127 hg w20 hbox hb;have n_:=J_ (below_step (hb_ HB) hb) (J_ (hbox) (J_ (bs_ hg HB) (Aside0.mk (bs_ hg HB))));clear HB;obtain ⟨HB,BK127,GW127,GE127⟩:=n_;clear hb hbox hg;obtain ⟨hcz21_0,hcz21_1,hcz21_2,hcz21_3,hcz21_4,hcz21_5,hcz21_6,hfz21_0,hfz21_1,hfz21_2,hfz21_3,hfz21_4,hfz21_5,hfz21_6⟩:=cf7_ BK127)|((with_reducible refine gate_callee (f:=43) rfl ?_);refine goesL_ (some 5) rfl rfl Try.func43 (by kernel_rfl) rfl #[.agg #[.int .i64 a0_0,.float .f64 a0_1,.float .f64 a0_2,.float .f64 a0_3,.float .f64 a0_4,.float .f64 a0_5,.float .f64 a0_6]] rfl am_ ?_;(with_reducible refine (tally_formed.calls k a0_0 a0_1 a0_2 a0_3 a0_4 a0_5 a0_6 false _ A2.out).mono ?_);rintro e w22 ⟨rfl,hb⟩;refine ⟨_,rfl,?_⟩;have n_:=J_ (bkb_ BK127 hb) (Aside0.mk (below_step (hb_ HB) hb));clear BK127 HB;obtain ⟨BK127,HB⟩:=n_;(try clear hb);(try clear hb2);(try clear hk);(try clear hi)))
  go_ret2
  exact ⟨er_,(hb_ HB)⟩
end Go.Proofs.Ytijmdmnhbbcahaa.PTallySpreads
