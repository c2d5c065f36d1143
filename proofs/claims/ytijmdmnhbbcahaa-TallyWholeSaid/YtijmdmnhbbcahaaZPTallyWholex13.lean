-- Written by shrink.py, a program of this session: what the law needs of the print and its words. Lean checks it.
import Derived.Test.YtijmdmnhbbcahaaZPTallyWholex0
namespace Go.Proofs.Ytijmdmnhbbcahaa.PTallyWhole
open Go.RowKit Go.Proofs.YtijmdmnhbbcahaaW.PrintWords Go.Proofs.YtijmdmnhbbcahaaW.PrintLast Go.Proofs.YtijmdmnhbbcahaaW.PrintMore
attribute [local go_sem] run_fadd run_fsub run_fmul run_fquo unary_fneg run_store_f64 run_store_c128 run_cadd
attribute [local go_sem] max2_int min2_int max_two min_two max_three min_three max_four min_four
set_option linter.unusedVariables false
set_option linter.unusedSimpArgs false
def quarrykit_Pick.f (a0 : Int) (a1 : Int) : Option (Int):=if a1 = 0 then (none) else (if (Int.tmod a0 a1) < 0 then (some (wrap64 ((Int.tmod a0 a1) + a1))) else (some (Int.tmod a0 a1)))
set_option maxHeartbeats 8000000 in
set_option maxRecDepth 100000 in
theorem quarrykit_Pick.calls (a0 : Int) (a1 : Int) (r : Int) (w : World) (h : quarrykit_Pick.f a0 a1 = some r) :
  Calls Try.prog 27 #[.int .i64 a0,.int .i64 a1] w fun e w'=>e = .returned (.int .i64 r) ∧ Drawn0 w w':=by
 have H : (if a1 = 0 then (none) else (if (Int.tmod a0 a1) < 0 then (some (wrap64 ((Int.tmod a0 a1) + a1))) else (some (Int.tmod a0 a1)))) = some r:=h;clear h
 by_cases c3 : a1 = 0
 ·rw [if_pos c3] at H
  exact absurd H (by simp)
 rw [if_neg c3] at H
 have c3b0 : (a1 == 0) = false:=beq_eq_false_iff_ne.mpr c3;have c3b1 : (a1 != 0) = true:=bne_iff_ne.mpr c3
 by_cases c4 : (Int.tmod a0 a1) < 0
 ·rw [if_pos c4] at H
  have c4b0 : decide ((Int.tmod a0 a1) < 0) = true:=decide_eq_true c4;clear c4;obtain rfl:=Option.some.inj H;go_enter Try.func27,Try.ntmps27;go_wp2
  go_ret;exact ⟨by first|rfl|(simp;done)|(simp [*];done),by repeat (first|exact Drawn0.refl _|apply Drawn0.step)⟩
 rw [if_neg c4] at H
 have c4b0 : decide ((Int.tmod a0 a1) < 0) = false:=decide_eq_false c4;clear c4;obtain rfl:=Option.some.inj H;go_enter Try.func27,Try.ntmps27;go_wp2
 go_ret;exact ⟨by first|rfl|(simp;done)|(simp [*];done),by repeat (first|exact Drawn0.refl _|apply Drawn0.step)⟩
def quarrylaw31_whole.f (a0_0 : Int) (a0_1 : Nat) (a0_2 : Nat) (a0_3 : Nat) (a0_4 : Nat) (a0_5 : Nat) (a0_6 : Nat) (a1 : Int) (a2 : Int) (a3 : Int) (a4 : Int) : Option (Bool):=if a0_0 = a1 then (if (FloatKind.f64.format.order a0_3 (floatOfInt .f64 a2) != some .eq) = true then (some false) else (if (FloatKind.f64.format.order a0_4 0 != some .eq) = true then (some false) else (if (FloatKind.f64.format.order a0_1 (floatOfInt .f64 a3) != some .eq) = true then (some false) else (if (FloatKind.f64.format.order a0_2 (floatOfInt .f64 a4) != some .eq) = true then (some false) else (if (FloatKind.f64.format.order a0_6 0 == some .lt) = true then (some false) else (if fok .sub (floatOfInt .f64 a3) 4607182418800017408 = true then (if (FloatKind.f64.format.order a0_5 (fop .sub (floatOfInt .f64 a3) 4607182418800017408) == some .gt) = true then (if fok .add (floatOfInt .f64 a4) 4607182418800017408 = true then (if (FloatKind.f64.format.order a0_5 (fop .add (floatOfInt .f64 a4) 4607182418800017408) == some .lt) = true then (if a3 = a4 then (if (FloatKind.f64.format.order a0_6 0 == some .eq) = true then (some (FloatKind.f64.format.order a0_5 (floatOfInt .f64 a3) == some .eq)) else (some false)) else (some true)) else (some false)) else (none)) else (some false)) else (none))))))) else (some false)
set_option maxHeartbeats 8000000 in
set_option maxRecDepth 100000 in
theorem quarrylaw31_whole.calls (a0_0 : Int) (a0_1 : Nat) (a0_2 : Nat) (a0_3 : Nat) (a0_4 : Nat) (a0_5 : Nat) (a0_6 : Nat) (a1 : Int) (a2 : Int) (a3 : Int) (a4 : Int) (r : Bool) (w : World) (h : quarrylaw31_whole.f a0_0 a0_1 a0_2 a0_3 a0_4 a0_5 a0_6 a1 a2 a3 a4 = some r) :
  Calls Try.prog 28 #[.agg #[.int .i64 a0_0,.float .f64 a0_1,.float .f64 a0_2,.float .f64 a0_3,.float .f64 a0_4,.float .f64 a0_5,.float .f64 a0_6],.int .i64 a1,.int .i64 a2,.int .i64 a3,.int .i64 a4] w fun e w'=>e = .returned (.bool r) ∧ Below w.heap.size w w':=by
 have hu26:=Try.underlying26;have HB:=Aside0.mk (Below.refl w.heap.size w);have H : (if a0_0 = a1 then (if (FloatKind.f64.format.order a0_3 (floatOfInt .f64 a2) != some .eq) = true then (some false) else (if (FloatKind.f64.format.order a0_4 0 != some .eq) = true then (some false) else (if (FloatKind.f64.format.order a0_1 (floatOfInt .f64 a3) != some .eq) = true then (some false) else (if (FloatKind.f64.format.order a0_2 (floatOfInt .f64 a4) != some .eq) = true then (some false) else (if (FloatKind.f64.format.order a0_6 0 == some .lt) = true then (some false) else (if fok .sub (floatOfInt .f64 a3) 4607182418800017408 = true then (if (FloatKind.f64.format.order a0_5 (fop .sub (floatOfInt .f64 a3) 4607182418800017408) == some .gt) = true then (if fok .add (floatOfInt .f64 a4) 4607182418800017408 = true then (if (FloatKind.f64.format.order a0_5 (fop .add (floatOfInt .f64 a4) 4607182418800017408) == some .lt) = true then (if a3 = a4 then (if (FloatKind.f64.format.order a0_6 0 == some .eq) = true then (some (FloatKind.f64.format.order a0_5 (floatOfInt .f64 a3) == some .eq)) else (some false)) else (some true)) else (some false)) else (none)) else (some false)) else (none))))))) else (some false)) = some r:=h;clear h;have HC6:=Aside0.mk H;clear H;go_enter Try.func28,Try.ntmps28
 go_upto_region 1 with (first|((with_reducible refine gate_dst (N:=5) rfl ?_);refine box_event ?hg (N:=5) ?hd (cs:=#[.int .i64 a0_0,.float .f64 a0_1,.float .f64 a0_2,.float .f64 a0_3,.float .f64 a0_4,.float .f64 a0_5,.float .f64 a0_6]) (t:=26) ?hr ?_;(case hd=>rfl);(case hg=>rfl);(case hr=>first|(go_simp;done)|(go_simp;rfl));intro gb130 hg w7 hbox hb;have n0_:=Aside0.mk (below_step (by repeat (first|(with_reducible first|exact HB.out|apply below_alloc|apply pw_below_drewN|apply below_drew1)|exact HB.out)) hb);have n1_:=Aside0.mk (hbox);have n2_:=Aside0.mk ((by rw [hg];exact (below_size (by repeat (first|(with_reducible first|exact HB.out|apply below_alloc|apply pw_below_drewN|apply below_drew1)|exact HB.out))) : w.heap.size ≤ gb130));have n3_:=Aside0.mk ((by rw [hg];exact (below_size (by repeat (first|(with_reducible first|exact HB.out|apply below_alloc|apply pw_below_drewN|apply below_drew1)|exact HB.out))) : w.heap.size ≤ gb130));clear HB;have HB:=n0_;have BK130:=n1_;have GW130:=n2_;have GE130:=n3_;clear n0_ n1_ n2_ n3_;clear hb hbox hg))
 (try simp only [Act.put,List.setIfInBounds_toArray,List.set_cons_zero,List.set_cons_succ])
 have H:=HC6.out;clear HC6
 by_cases c8 : a0_0 = a1
 ·rw [if_pos c8] at H
  have c8b0 : (a0_0 == a1) = true:=beq_iff_eq.mpr c8;have c8b1 : (a0_0 != a1) = false:=bne_eq_false_iff_eq.mpr c8;clear c8
  by_cases c9 : (FloatKind.f64.format.order a0_3 (floatOfInt .f64 a2) != some .eq) = true
  ·rw [if_pos c9] at H
   have c9b0 : (FloatKind.f64.format.order a0_3 (floatOfInt .f64 a2) != some .eq) = true:=c9
   (try (have c9b1 : decide (FloatKind.f64.format.order a0_3 (floatOfInt .f64 a2) = some .eq) = false:=by simpa using c9))
   (try (have c9b2 : (FloatKind.f64.format.order a0_3 (floatOfInt .f64 a2) == some .eq) = false:=by simpa using c9))
   (try (have c9b3 : ¬ (FloatKind.f64.format.order a0_3 (floatOfInt .f64 a2) = some .eq):=by simpa using c9))
   clear c9;obtain rfl:=Option.some.inj H;have hcz10_0 : w7.cell? ⟨gb130,0,none⟩ = some (.int .i64 a0_0):=(blk_cell BK130.out 0).trans rfl;have hcz10_1 : w7.cell? ⟨gb130,1,none⟩ = some (.float .f64 a0_1):=(blk_cell BK130.out 1).trans rfl;have hcz10_2 : w7.cell? ⟨gb130,2,none⟩ = some (.float .f64 a0_2):=(blk_cell BK130.out 2).trans rfl;have hcz10_3 : w7.cell? ⟨gb130,3,none⟩ = some (.float .f64 a0_3):=(blk_cell BK130.out 3).trans rfl;have hcz10_4 : w7.cell? ⟨gb130,4,none⟩ = some (.float .f64 a0_4):=(blk_cell BK130.out 4).trans rfl;have hcz10_5 : w7.cell? ⟨gb130,5,none⟩ = some (.float .f64 a0_5):=(blk_cell BK130.out 5).trans rfl;have hcz10_6 : w7.cell? ⟨gb130,6,none⟩ = some (.float .f64 a0_6):=(blk_cell BK130.out 6).trans rfl;have hfz10_0:=blk_frozen BK130.out 0;have hfz10_1:=blk_frozen BK130.out 1;have hfz10_2:=blk_frozen BK130.out 2;have hfz10_3:=blk_frozen BK130.out 3;have hfz10_4:=blk_frozen BK130.out 4;have hfz10_5:=blk_frozen BK130.out 5;have hfz10_6:=blk_frozen BK130.out 6;go_wp2
   go_ret;exact ⟨by first|rfl|(rw [px_ne];rfl)|(simp [errW_none,errW_some] <;> rfl)|(simp [*,errW_none,errW_some] <;> rfl),by repeat (first|(with_reducible first|exact HB.out|apply below_alloc|apply pw_below_drewN|apply below_drew1|refine below_set ?_ GE130.out)|exact HB.out)⟩
  rw [if_neg c9] at H
  have c9b0 : (FloatKind.f64.format.order a0_3 (floatOfInt .f64 a2) != some .eq) = false:=by simpa using c9
  (try (have c9b1 : decide (FloatKind.f64.format.order a0_3 (floatOfInt .f64 a2) = some .eq) = true:=by simpa using c9))
  (try (have c9b2 : (FloatKind.f64.format.order a0_3 (floatOfInt .f64 a2) == some .eq) = true:=by simpa using c9))
  clear c9
  by_cases c11 : (FloatKind.f64.format.order a0_4 0 != some .eq) = true
  ·rw [if_pos c11] at H
   have c11b0 : (FloatKind.f64.format.order a0_4 0 != some .eq) = true:=c11
   (try (have c11b1 : decide (FloatKind.f64.format.order a0_4 0 = some .eq) = false:=by simpa using c11))
   (try (have c11b2 : (FloatKind.f64.format.order a0_4 0 == some .eq) = false:=by simpa using c11))
   (try (have c11b3 : ¬ (FloatKind.f64.format.order a0_4 0 = some .eq):=by simpa using c11))
   clear c11;obtain rfl:=Option.some.inj H;have hcz12_0 : w7.cell? ⟨gb130,0,none⟩ = some (.int .i64 a0_0):=(blk_cell BK130.out 0).trans rfl;have hcz12_1 : w7.cell? ⟨gb130,1,none⟩ = some (.float .f64 a0_1):=(blk_cell BK130.out 1).trans rfl;have hcz12_2 : w7.cell? ⟨gb130,2,none⟩ = some (.float .f64 a0_2):=(blk_cell BK130.out 2).trans rfl;have hcz12_3 : w7.cell? ⟨gb130,3,none⟩ = some (.float .f64 a0_3):=(blk_cell BK130.out 3).trans rfl;have hcz12_4 : w7.cell? ⟨gb130,4,none⟩ = some (.float .f64 a0_4):=(blk_cell BK130.out 4).trans rfl;have hcz12_5 : w7.cell? ⟨gb130,5,none⟩ = some (.float .f64 a0_5):=(blk_cell BK130.out 5).trans rfl;have hcz12_6 : w7.cell? ⟨gb130,6,none⟩ = some (.float .f64 a0_6):=(blk_cell BK130.out 6).trans rfl;have hfz12_0:=blk_frozen BK130.out 0;have hfz12_1:=blk_frozen BK130.out 1;have hfz12_2:=blk_frozen BK130.out 2;have hfz12_3:=blk_frozen BK130.out 3;have hfz12_4:=blk_frozen BK130.out 4;have hfz12_5:=blk_frozen BK130.out 5;have hfz12_6:=blk_frozen BK130.out 6;go_wp2
   go_ret;exact ⟨by first|rfl|(rw [px_ne];rfl)|(simp [errW_none,errW_some] <;> rfl)|(simp [*,errW_none,errW_some] <;> rfl),by repeat (first|(with_reducible first|exact HB.out|apply below_alloc|apply pw_below_drewN|apply below_drew1|refine below_set ?_ GE130.out)|exact HB.out)⟩
  rw [if_neg c11] at H
  have c11b0 : (FloatKind.f64.format.order a0_4 0 != some .eq) = false:=by simpa using c11
  (try (have c11b1 : decide (FloatKind.f64.format.order a0_4 0 = some .eq) = true:=by simpa using c11))
  (try (have c11b2 : (FloatKind.f64.format.order a0_4 0 == some .eq) = true:=by simpa using c11))
  clear c11
  by_cases c13 : (FloatKind.f64.format.order a0_1 (floatOfInt .f64 a3) != some .eq) = true
  ·rw [if_pos c13] at H
   have c13b0 : (FloatKind.f64.format.order a0_1 (floatOfInt .f64 a3) != some .eq) = true:=c13
   (try (have c13b1 : decide (FloatKind.f64.format.order a0_1 (floatOfInt .f64 a3) = some .eq) = false:=by simpa using c13))
   (try (have c13b2 : (FloatKind.f64.format.order a0_1 (floatOfInt .f64 a3) == some .eq) = false:=by simpa using c13))
   (try (have c13b3 : ¬ (FloatKind.f64.format.order a0_1 (floatOfInt .f64 a3) = some .eq):=by simpa using c13))
   clear c13;obtain rfl:=Option.some.inj H;have hcz14_0 : w7.cell? ⟨gb130,0,none⟩ = some (.int .i64 a0_0):=(blk_cell BK130.out 0).trans rfl;have hcz14_1 : w7.cell? ⟨gb130,1,none⟩ = some (.float .f64 a0_1):=(blk_cell BK130.out 1).trans rfl;have hcz14_2 : w7.cell? ⟨gb130,2,none⟩ = some (.float .f64 a0_2):=(blk_cell BK130.out 2).trans rfl;have hcz14_3 : w7.cell? ⟨gb130,3,none⟩ = some (.float .f64 a0_3):=(blk_cell BK130.out 3).trans rfl;have hcz14_4 : w7.cell? ⟨gb130,4,none⟩ = some (.float .f64 a0_4):=(blk_cell BK130.out 4).trans rfl;have hcz14_5 : w7.cell? ⟨gb130,5,none⟩ = some (.float .f64 a0_5):=(blk_cell BK130.out 5).trans rfl;have hcz14_6 : w7.cell? ⟨gb130,6,none⟩ = some (.float .f64 a0_6):=(blk_cell BK130.out 6).trans rfl;have hfz14_0:=blk_frozen BK130.out 0;have hfz14_1:=blk_frozen BK130.out 1;have hfz14_2:=blk_frozen BK130.out 2;have hfz14_3:=blk_frozen BK130.out 3;have hfz14_4:=blk_frozen BK130.out 4;have hfz14_5:=blk_frozen BK130.out 5;have hfz14_6:=blk_frozen BK130.out 6;go_wp2
   go_ret;exact ⟨by first|rfl|(rw [px_ne];rfl)|(simp [errW_none,errW_some] <;> rfl)|(simp [*,errW_none,errW_some] <;> rfl),by repeat (first|(with_reducible first|exact HB.out|apply below_alloc|apply pw_below_drewN|apply below_drew1|refine below_set ?_ GE130.out)|exact HB.out)⟩
  rw [if_neg c13] at H
  have c13b0 : (FloatKind.f64.format.order a0_1 (floatOfInt .f64 a3) != some .eq) = false:=by simpa using c13
  (try (have c13b1 : decide (FloatKind.f64.format.order a0_1 (floatOfInt .f64 a3) = some .eq) = true:=by simpa using c13))
  (try (have c13b2 : (FloatKind.f64.format.order a0_1 (floatOfInt .f64 a3) == some .eq) = true:=by simpa using c13))
  clear c13
  by_cases c15 : (FloatKind.f64.format.order a0_2 (floatOfInt .f64 a4) != some .eq) = true
  ·rw [if_pos c15] at H
   have c15b0 : (FloatKind.f64.format.order a0_2 (floatOfInt .f64 a4) != some .eq) = true:=c15
   (try (have c15b1 : decide (FloatKind.f64.format.order a0_2 (floatOfInt .f64 a4) = some .eq) = false:=by simpa using c15))
   (try (have c15b2 : (FloatKind.f64.format.order a0_2 (floatOfInt .f64 a4) == some .eq) = false:=by simpa using c15))
   (try (have c15b3 : ¬ (FloatKind.f64.format.order a0_2 (floatOfInt .f64 a4) = some .eq):=by simpa using c15))
   clear c15;obtain rfl:=Option.some.inj H;have hcz16_0 : w7.cell? ⟨gb130,0,none⟩ = some (.int .i64 a0_0):=(blk_cell BK130.out 0).trans rfl;have hcz16_1 : w7.cell? ⟨gb130,1,none⟩ = some (.float .f64 a0_1):=(blk_cell BK130.out 1).trans rfl;have hcz16_2 : w7.cell? ⟨gb130,2,none⟩ = some (.float .f64 a0_2):=(blk_cell BK130.out 2).trans rfl;have hcz16_3 : w7.cell? ⟨gb130,3,none⟩ = some (.float .f64 a0_3):=(blk_cell BK130.out 3).trans rfl;have hcz16_4 : w7.cell? ⟨gb130,4,none⟩ = some (.float .f64 a0_4):=(blk_cell BK130.out 4).trans rfl;have hcz16_5 : w7.cell? ⟨gb130,5,none⟩ = some (.float .f64 a0_5):=(blk_cell BK130.out 5).trans rfl;have hcz16_6 : w7.cell? ⟨gb130,6,none⟩ = some (.float .f64 a0_6):=(blk_cell BK130.out 6).trans rfl;have hfz16_0:=blk_frozen BK130.out 0;have hfz16_1:=blk_frozen BK130.out 1;have hfz16_2:=blk_frozen BK130.out 2;have hfz16_3:=blk_frozen BK130.out 3;have hfz16_4:=blk_frozen BK130.out 4;have hfz16_5:=blk_frozen BK130.out 5;have hfz16_6:=blk_frozen BK130.out 6;go_wp2
   go_ret;exact ⟨by first|rfl|(rw [px_ne];rfl)|(simp [errW_none,errW_some] <;> rfl)|(simp [*,errW_none,errW_some] <;> rfl),by repeat (first|(with_reducible first|exact HB.out|apply below_alloc|apply pw_below_drewN|apply below_drew1|refine below_set ?_ GE130.out)|exact HB.out)⟩
  rw [if_neg c15] at H
  have c15b0 : (FloatKind.f64.format.order a0_2 (floatOfInt .f64 a4) != some .eq) = false:=by simpa using c15
  (try (have c15b1 : decide (FloatKind.f64.format.order a0_2 (floatOfInt .f64 a4) = some .eq) = true:=by simpa using c15))
  (try (have c15b2 : (FloatKind.f64.format.order a0_2 (floatOfInt .f64 a4) == some .eq) = true:=by simpa using c15))
  clear c15
  by_cases c17 : (FloatKind.f64.format.order a0_6 0 == some .lt) = true
  ·rw [if_pos c17] at H
   have c17b0 : (FloatKind.f64.format.order a0_6 0 == some .lt) = true:=c17
   (try (have c17b1 : decide (FloatKind.f64.format.order a0_6 0 = some .lt) = true:=by simpa using c17))
   (try (have c17b2 : (FloatKind.f64.format.order a0_6 0 == some .lt) = true:=by simpa using c17))
   clear c17;obtain rfl:=Option.some.inj H;have hcz18_0 : w7.cell? ⟨gb130,0,none⟩ = some (.int .i64 a0_0):=(blk_cell BK130.out 0).trans rfl;have hcz18_1 : w7.cell? ⟨gb130,1,none⟩ = some (.float .f64 a0_1):=(blk_cell BK130.out 1).trans rfl;have hcz18_2 : w7.cell? ⟨gb130,2,none⟩ = some (.float .f64 a0_2):=(blk_cell BK130.out 2).trans rfl;have hcz18_3 : w7.cell? ⟨gb130,3,none⟩ = some (.float .f64 a0_3):=(blk_cell BK130.out 3).trans rfl;have hcz18_4 : w7.cell? ⟨gb130,4,none⟩ = some (.float .f64 a0_4):=(blk_cell BK130.out 4).trans rfl;have hcz18_5 : w7.cell? ⟨gb130,5,none⟩ = some (.float .f64 a0_5):=(blk_cell BK130.out 5).trans rfl;have hcz18_6 : w7.cell? ⟨gb130,6,none⟩ = some (.float .f64 a0_6):=(blk_cell BK130.out 6).trans rfl;have hfz18_0:=blk_frozen BK130.out 0;have hfz18_1:=blk_frozen BK130.out 1;have hfz18_2:=blk_frozen BK130.out 2;have hfz18_3:=blk_frozen BK130.out 3;have hfz18_4:=blk_frozen BK130.out 4;have hfz18_5:=blk_frozen BK130.out 5;have hfz18_6:=blk_frozen BK130.out 6;go_wp2
   go_ret;exact ⟨by first|rfl|(rw [px_ne];rfl)|(simp [errW_none,errW_some] <;> rfl)|(simp [*,errW_none,errW_some] <;> rfl),by repeat (first|(with_reducible first|exact HB.out|apply below_alloc|apply pw_below_drewN|apply below_drew1|refine below_set ?_ GE130.out)|exact HB.out)⟩
  rw [if_neg c17] at H
  have c17b0 : (FloatKind.f64.format.order a0_6 0 == some .lt) = false:=by simpa using c17
  (try (have c17b1 : decide (FloatKind.f64.format.order a0_6 0 = some .lt) = false:=by simpa using c17))
  (try (have c17b2 : (FloatKind.f64.format.order a0_6 0 == some .lt) = false:=by simpa using c17))
  (try (have c17b3 : ¬ (FloatKind.f64.format.order a0_6 0 = some .lt):=by simpa using c17))
  clear c17
  by_cases c19 : fok .sub (floatOfInt .f64 a3) 4607182418800017408 = true
  ·rw [if_pos c19] at H
   have c19b0:=eq_true c19;have c19b1 : decide (fok .sub (floatOfInt .f64 a3) 4607182418800017408 = true) = true:=decide_eq_true c19;clear c19
   by_cases c20 : (FloatKind.f64.format.order a0_5 (fop .sub (floatOfInt .f64 a3) 4607182418800017408) == some .gt) = true
   ·rw [if_pos c20] at H
    have c20b0 : (FloatKind.f64.format.order a0_5 (fop .sub (floatOfInt .f64 a3) 4607182418800017408) == some .gt) = true:=c20
    (try (have c20b1 : decide (FloatKind.f64.format.order a0_5 (fop .sub (floatOfInt .f64 a3) 4607182418800017408) = some .gt) = true:=by simpa using c20))
    (try (have c20b2 : (FloatKind.f64.format.order a0_5 (fop .sub (floatOfInt .f64 a3) 4607182418800017408) == some .gt) = true:=by simpa using c20))
    clear c20
    by_cases c21 : fok .add (floatOfInt .f64 a4) 4607182418800017408 = true
    ·rw [if_pos c21] at H
     have c21b0:=eq_true c21;have c21b1 : decide (fok .add (floatOfInt .f64 a4) 4607182418800017408 = true) = true:=decide_eq_true c21;clear c21
     by_cases c22 : (FloatKind.f64.format.order a0_5 (fop .add (floatOfInt .f64 a4) 4607182418800017408) == some .lt) = true
     ·rw [if_pos c22] at H
      have c22b0 : (FloatKind.f64.format.order a0_5 (fop .add (floatOfInt .f64 a4) 4607182418800017408) == some .lt) = true:=c22
      (try (have c22b1 : decide (FloatKind.f64.format.order a0_5 (fop .add (floatOfInt .f64 a4) 4607182418800017408) = some .lt) = true:=by simpa using c22))
      (try (have c22b2 : (FloatKind.f64.format.order a0_5 (fop .add (floatOfInt .f64 a4) 4607182418800017408) == some .lt) = true:=by simpa using c22))
      clear c22
      by_cases c23 : a3 = a4
      ·rw [if_pos c23] at H
       have c23b0 : (a3 == a4) = true:=beq_iff_eq.mpr c23;have c23b1 : (a3 != a4) = false:=bne_eq_false_iff_eq.mpr c23;clear c23
       by_cases c24 : (FloatKind.f64.format.order a0_6 0 == some .eq) = true
       ·rw [if_pos c24] at H
        have c24b0 : (FloatKind.f64.format.order a0_6 0 == some .eq) = true:=c24
        (try (have c24b1 : decide (FloatKind.f64.format.order a0_6 0 = some .eq) = true:=by simpa using c24))
        (try (have c24b2 : (FloatKind.f64.format.order a0_6 0 == some .eq) = true:=by simpa using c24))
        clear c24;obtain rfl:=Option.some.inj H;have hcz25_0 : w7.cell? ⟨gb130,0,none⟩ = some (.int .i64 a0_0):=(blk_cell BK130.out 0).trans rfl;have hcz25_1 : w7.cell? ⟨gb130,1,none⟩ = some (.float .f64 a0_1):=(blk_cell BK130.out 1).trans rfl;have hcz25_2 : w7.cell? ⟨gb130,2,none⟩ = some (.float .f64 a0_2):=(blk_cell BK130.out 2).trans rfl;have hcz25_3 : w7.cell? ⟨gb130,3,none⟩ = some (.float .f64 a0_3):=(blk_cell BK130.out 3).trans rfl;have hcz25_4 : w7.cell? ⟨gb130,4,none⟩ = some (.float .f64 a0_4):=(blk_cell BK130.out 4).trans rfl;have hcz25_5 : w7.cell? ⟨gb130,5,none⟩ = some (.float .f64 a0_5):=(blk_cell BK130.out 5).trans rfl;have hcz25_6 : w7.cell? ⟨gb130,6,none⟩ = some (.float .f64 a0_6):=(blk_cell BK130.out 6).trans rfl;have hfz25_0:=blk_frozen BK130.out 0;have hfz25_1:=blk_frozen BK130.out 1;have hfz25_2:=blk_frozen BK130.out 2;have hfz25_3:=blk_frozen BK130.out 3;have hfz25_4:=blk_frozen BK130.out 4;have hfz25_5:=blk_frozen BK130.out 5;have hfz25_6:=blk_frozen BK130.out 6;go_wp2
        go_ret;exact ⟨by first|rfl|(rw [px_ne];rfl)|(simp [errW_none,errW_some] <;> rfl)|(simp [*,errW_none,errW_some] <;> rfl),by repeat (first|(with_reducible first|exact HB.out|apply below_alloc|apply pw_below_drewN|apply below_drew1|refine below_set ?_ GE130.out)|exact HB.out)⟩
       rw [if_neg c24] at H
       have c24b0 : (FloatKind.f64.format.order a0_6 0 == some .eq) = false:=by simpa using c24
       (try (have c24b1 : decide (FloatKind.f64.format.order a0_6 0 = some .eq) = false:=by simpa using c24))
       (try (have c24b2 : (FloatKind.f64.format.order a0_6 0 == some .eq) = false:=by simpa using c24))
       (try (have c24b3 : ¬ (FloatKind.f64.format.order a0_6 0 = some .eq):=by simpa using c24))
       clear c24;obtain rfl:=Option.some.inj H;have hcz26_0 : w7.cell? ⟨gb130,0,none⟩ = some (.int .i64 a0_0):=(blk_cell BK130.out 0).trans rfl;have hcz26_1 : w7.cell? ⟨gb130,1,none⟩ = some (.float .f64 a0_1):=(blk_cell BK130.out 1).trans rfl;have hcz26_2 : w7.cell? ⟨gb130,2,none⟩ = some (.float .f64 a0_2):=(blk_cell BK130.out 2).trans rfl;have hcz26_3 : w7.cell? ⟨gb130,3,none⟩ = some (.float .f64 a0_3):=(blk_cell BK130.out 3).trans rfl;have hcz26_4 : w7.cell? ⟨gb130,4,none⟩ = some (.float .f64 a0_4):=(blk_cell BK130.out 4).trans rfl;have hcz26_5 : w7.cell? ⟨gb130,5,none⟩ = some (.float .f64 a0_5):=(blk_cell BK130.out 5).trans rfl;have hcz26_6 : w7.cell? ⟨gb130,6,none⟩ = some (.float .f64 a0_6):=(blk_cell BK130.out 6).trans rfl;have hfz26_0:=blk_frozen BK130.out 0;have hfz26_1:=blk_frozen BK130.out 1;have hfz26_2:=blk_frozen BK130.out 2;have hfz26_3:=blk_frozen BK130.out 3;have hfz26_4:=blk_frozen BK130.out 4;have hfz26_5:=blk_frozen BK130.out 5;have hfz26_6:=blk_frozen BK130.out 6;go_wp2
       go_ret;exact ⟨by first|rfl|(rw [px_ne];rfl)|(simp [errW_none,errW_some] <;> rfl)|(simp [*,errW_none,errW_some] <;> rfl),by repeat (first|(with_reducible first|exact HB.out|apply below_alloc|apply pw_below_drewN|apply below_drew1|refine below_set ?_ GE130.out)|exact HB.out)⟩
      rw [if_neg c23] at H
      have c23b0 : (a3 == a4) = false:=beq_eq_false_iff_ne.mpr c23;have c23b1 : (a3 != a4) = true:=bne_iff_ne.mpr c23;obtain rfl:=Option.some.inj H;have hcz27_0 : w7.cell? ⟨gb130,0,none⟩ = some (.int .i64 a0_0):=(blk_cell BK130.out 0).trans rfl;have hcz27_1 : w7.cell? ⟨gb130,1,none⟩ = some (.float .f64 a0_1):=(blk_cell BK130.out 1).trans rfl;have hcz27_2 : w7.cell? ⟨gb130,2,none⟩ = some (.float .f64 a0_2):=(blk_cell BK130.out 2).trans rfl;have hcz27_3 : w7.cell? ⟨gb130,3,none⟩ = some (.float .f64 a0_3):=(blk_cell BK130.out 3).trans rfl;have hcz27_4 : w7.cell? ⟨gb130,4,none⟩ = some (.float .f64 a0_4):=(blk_cell BK130.out 4).trans rfl;have hcz27_5 : w7.cell? ⟨gb130,5,none⟩ = some (.float .f64 a0_5):=(blk_cell BK130.out 5).trans rfl;have hcz27_6 : w7.cell? ⟨gb130,6,none⟩ = some (.float .f64 a0_6):=(blk_cell BK130.out 6).trans rfl;have hfz27_0:=blk_frozen BK130.out 0;have hfz27_1:=blk_frozen BK130.out 1;have hfz27_2:=blk_frozen BK130.out 2;have hfz27_3:=blk_frozen BK130.out 3;have hfz27_4:=blk_frozen BK130.out 4;have hfz27_5:=blk_frozen BK130.out 5;have hfz27_6:=blk_frozen BK130.out 6;go_wp2
      go_ret;exact ⟨by first|rfl|(rw [px_ne];rfl)|(simp [errW_none,errW_some] <;> rfl)|(simp [*,errW_none,errW_some] <;> rfl),by repeat (first|(with_reducible first|exact HB.out|apply below_alloc|apply pw_below_drewN|apply below_drew1|refine below_set ?_ GE130.out)|exact HB.out)⟩
     rw [if_neg c22] at H
     have c22b0 : (FloatKind.f64.format.order a0_5 (fop .add (floatOfInt .f64 a4) 4607182418800017408) == some .lt) = false:=by simpa using c22
     (try (have c22b1 : decide (FloatKind.f64.format.order a0_5 (fop .add (floatOfInt .f64 a4) 4607182418800017408) = some .lt) = false:=by simpa using c22))
     (try (have c22b2 : (FloatKind.f64.format.order a0_5 (fop .add (floatOfInt .f64 a4) 4607182418800017408) == some .lt) = false:=by simpa using c22))
     (try (have c22b3 : ¬ (FloatKind.f64.format.order a0_5 (fop .add (floatOfInt .f64 a4) 4607182418800017408) = some .lt):=by simpa using c22))
     clear c22;obtain rfl:=Option.some.inj H;have hcz28_0 : w7.cell? ⟨gb130,0,none⟩ = some (.int .i64 a0_0):=(blk_cell BK130.out 0).trans rfl;have hcz28_1 : w7.cell? ⟨gb130,1,none⟩ = some (.float .f64 a0_1):=(blk_cell BK130.out 1).trans rfl;have hcz28_2 : w7.cell? ⟨gb130,2,none⟩ = some (.float .f64 a0_2):=(blk_cell BK130.out 2).trans rfl;have hcz28_3 : w7.cell? ⟨gb130,3,none⟩ = some (.float .f64 a0_3):=(blk_cell BK130.out 3).trans rfl;have hcz28_4 : w7.cell? ⟨gb130,4,none⟩ = some (.float .f64 a0_4):=(blk_cell BK130.out 4).trans rfl;have hcz28_5 : w7.cell? ⟨gb130,5,none⟩ = some (.float .f64 a0_5):=(blk_cell BK130.out 5).trans rfl;have hcz28_6 : w7.cell? ⟨gb130,6,none⟩ = some (.float .f64 a0_6):=(blk_cell BK130.out 6).trans rfl;have hfz28_0:=blk_frozen BK130.out 0;have hfz28_1:=blk_frozen BK130.out 1;have hfz28_2:=blk_frozen BK130.out 2;have hfz28_3:=blk_frozen BK130.out 3;have hfz28_4:=blk_frozen BK130.out 4;have hfz28_5:=blk_frozen BK130.out 5;have hfz28_6:=blk_frozen BK130.out 6;go_wp2
     go_ret;exact ⟨by first|rfl|(rw [px_ne];rfl)|(simp [errW_none,errW_some] <;> rfl)|(simp [*,errW_none,errW_some] <;> rfl),by repeat (first|(with_reducible first|exact HB.out|apply below_alloc|apply pw_below_drewN|apply below_drew1|refine below_set ?_ GE130.out)|exact HB.out)⟩
    rw [if_neg c21] at H
    exact absurd H (by simp)
   rw [if_neg c20] at H
   have c20b0 : (FloatKind.f64.format.order a0_5 (fop .sub (floatOfInt .f64 a3) 4607182418800017408) == some .gt) = false:=by simpa using c20
   (try (have c20b1 : decide (FloatKind.f64.format.order a0_5 (fop .sub (floatOfInt .f64 a3) 4607182418800017408) = some .gt) = false:=by simpa using c20))
   (try (have c20b2 : (FloatKind.f64.format.order a0_5 (fop .sub (floatOfInt .f64 a3) 4607182418800017408) == some .gt) = false:=by simpa using c20))
   (try (have c20b3 : ¬ (FloatKind.f64.format.order a0_5 (fop .sub (floatOfInt .f64 a3) 4607182418800017408) = some .gt):=by simpa using c20))
   clear c20;obtain rfl:=Option.some.inj H;have hcz29_0 : w7.cell? ⟨gb130,0,none⟩ = some (.int .i64 a0_0):=(blk_cell BK130.out 0).trans rfl;have hcz29_1 : w7.cell? ⟨gb130,1,none⟩ = some (.float .f64 a0_1):=(blk_cell BK130.out 1).trans rfl;have hcz29_2 : w7.cell? ⟨gb130,2,none⟩ = some (.float .f64 a0_2):=(blk_cell BK130.out 2).trans rfl;have hcz29_3 : w7.cell? ⟨gb130,3,none⟩ = some (.float .f64 a0_3):=(blk_cell BK130.out 3).trans rfl;have hcz29_4 : w7.cell? ⟨gb130,4,none⟩ = some (.float .f64 a0_4):=(blk_cell BK130.out 4).trans rfl;have hcz29_5 : w7.cell? ⟨gb130,5,none⟩ = some (.float .f64 a0_5):=(blk_cell BK130.out 5).trans rfl;have hcz29_6 : w7.cell? ⟨gb130,6,none⟩ = some (.float .f64 a0_6):=(blk_cell BK130.out 6).trans rfl;have hfz29_0:=blk_frozen BK130.out 0;have hfz29_1:=blk_frozen BK130.out 1;have hfz29_2:=blk_frozen BK130.out 2;have hfz29_3:=blk_frozen BK130.out 3;have hfz29_4:=blk_frozen BK130.out 4;have hfz29_5:=blk_frozen BK130.out 5;have hfz29_6:=blk_frozen BK130.out 6;go_wp2
   go_ret;exact ⟨by first|rfl|(rw [px_ne];rfl)|(simp [errW_none,errW_some] <;> rfl)|(simp [*,errW_none,errW_some] <;> rfl),by repeat (first|(with_reducible first|exact HB.out|apply below_alloc|apply pw_below_drewN|apply below_drew1|refine below_set ?_ GE130.out)|exact HB.out)⟩
  rw [if_neg c19] at H
  exact absurd H (by simp)
 rw [if_neg c8] at H
 have c8b0 : (a0_0 == a1) = false:=beq_eq_false_iff_ne.mpr c8;have c8b1 : (a0_0 != a1) = true:=bne_iff_ne.mpr c8;obtain rfl:=Option.some.inj H;have hcz30_0 : w7.cell? ⟨gb130,0,none⟩ = some (.int .i64 a0_0):=(blk_cell BK130.out 0).trans rfl;have hcz30_1 : w7.cell? ⟨gb130,1,none⟩ = some (.float .f64 a0_1):=(blk_cell BK130.out 1).trans rfl;have hcz30_2 : w7.cell? ⟨gb130,2,none⟩ = some (.float .f64 a0_2):=(blk_cell BK130.out 2).trans rfl;have hcz30_3 : w7.cell? ⟨gb130,3,none⟩ = some (.float .f64 a0_3):=(blk_cell BK130.out 3).trans rfl;have hcz30_4 : w7.cell? ⟨gb130,4,none⟩ = some (.float .f64 a0_4):=(blk_cell BK130.out 4).trans rfl;have hcz30_5 : w7.cell? ⟨gb130,5,none⟩ = some (.float .f64 a0_5):=(blk_cell BK130.out 5).trans rfl;have hcz30_6 : w7.cell? ⟨gb130,6,none⟩ = some (.float .f64 a0_6):=(blk_cell BK130.out 6).trans rfl;have hfz30_0:=blk_frozen BK130.out 0;have hfz30_1:=blk_frozen BK130.out 1;have hfz30_2:=blk_frozen BK130.out 2;have hfz30_3:=blk_frozen BK130.out 3;have hfz30_4:=blk_frozen BK130.out 4;have hfz30_5:=blk_frozen BK130.out 5;have hfz30_6:=blk_frozen BK130.out 6;go_wp2
 go_ret;exact ⟨by first|rfl|(rw [px_ne];rfl)|(simp [errW_none,errW_some] <;> rfl)|(simp [*,errW_none,errW_some] <;> rfl),by repeat (first|(with_reducible first|exact HB.out|apply below_alloc|apply pw_below_drewN|apply below_drew1|refine below_set ?_ GE130.out)|exact HB.out)⟩
end Go.Proofs.Ytijmdmnhbbcahaa.PTallyWhole
