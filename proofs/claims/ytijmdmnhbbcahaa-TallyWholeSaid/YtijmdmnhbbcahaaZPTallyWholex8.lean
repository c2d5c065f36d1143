-- Written by shrink.py, a program of this session: what the law needs of the print and its words. Lean checks it.
import Derived.Test.YtijmdmnhbbcahaaZPTallyWholex0
import Derived.Test.YtijmdmnhbbcahaaZPTallyWholex4
import Derived.Test.YtijmdmnhbbcahaaZPTallyWholex7
namespace Go.Proofs.Ytijmdmnhbbcahaa.PTallyWhole
open Go.RowKit Go.Proofs.YtijmdmnhbbcahaaW.PrintWords Go.Proofs.YtijmdmnhbbcahaaW.PrintLast Go.Proofs.YtijmdmnhbbcahaaW.PrintMore
attribute [local go_sem] run_fadd run_fsub run_fmul run_fquo unary_fneg run_store_f64 run_store_c128 run_cadd
attribute [local go_sem] max2_int min2_int max_two min_two max_three min_three max_four min_four
set_option linter.unusedVariables false
set_option linter.unusedSimpArgs false
def tally_Spread.f (k : Nat) (a0_0 : Int) (a0_1 : Nat) (a0_2 : Nat) (a0_3 : Nat) (a0_4 : Nat) (a0_5 : Nat) (a0_6 : Nat) : Option (Nat × Int):=(tally_formed.f k a0_0 a0_1 a0_2 a0_3 a0_4 a0_5 a0_6).bind fun t128=>(if t128 = true then (if a0_0 = 0 then (some (0,0)) else (if (FloatKind.f64.format.order a0_6 0 == some .eq) = true then (some (0,0)) else (if fok .quo a0_6 (floatOfInt .f64 a0_0) = true then ((math_Sqrt.f (fop .quo a0_6 (floatOfInt .f64 a0_0))).bind fun t129=>(some (t129,0))) else (none)))) else (some (0,1)))
set_option maxHeartbeats 8000000 in
set_option maxRecDepth 100000 in
theorem tally_Spread.calls (k : Nat) (a0_0 : Int) (a0_1 : Nat) (a0_2 : Nat) (a0_3 : Nat) (a0_4 : Nat) (a0_5 : Nat) (a0_6 : Nat) (r1 : Nat) (r2 : Int) (w : World) (h : tally_Spread.f k a0_0 a0_1 a0_2 a0_3 a0_4 a0_5 a0_6 = some (r1,r2)) :
  Calls Try.prog 20 #[.agg #[.int .i64 a0_0,.float .f64 a0_1,.float .f64 a0_2,.float .f64 a0_3,.float .f64 a0_4,.float .f64 a0_5,.float .f64 a0_6]] w fun e w'=>e = .returned (.tuple #[.float .f64 r1,.int .i64 r2]) ∧ Below w.heap.size w w':=by
 have hu26:=Try.underlying26;have HB:=Aside0.mk (Below.refl w.heap.size w);have H : ((tally_formed.f k a0_0 a0_1 a0_2 a0_3 a0_4 a0_5 a0_6).bind fun t128=>(if t128 = true then (if a0_0 = 0 then (some (0,0)) else (if (FloatKind.f64.format.order a0_6 0 == some .eq) = true then (some (0,0)) else (if fok .quo a0_6 (floatOfInt .f64 a0_0) = true then ((math_Sqrt.f (fop .quo a0_6 (floatOfInt .f64 a0_0))).bind fun t129=>(some (t129,0))) else (none)))) else (some (0,1)))) = some (r1,r2):=h;clear h;have HC2:=Aside0.mk H;clear H;go_enter Try.func20,Try.ntmps20
 go_upto_region 1 with (first|((with_reducible refine gate_dst (N:=1) rfl ?_);refine box_event ?hg (N:=1) ?hd (cs:=#[.int .i64 a0_0,.float .f64 a0_1,.float .f64 a0_2,.float .f64 a0_3,.float .f64 a0_4,.float .f64 a0_5,.float .f64 a0_6]) (t:=26) ?hr ?_;(case hd=>rfl);(case hg=>rfl);(case hr=>first|(go_simp;done)|(go_simp;rfl));intro gb127 hg w3 hbox hb;have n0_:=Aside0.mk (below_step (by repeat (first|(with_reducible first|exact HB.out|apply below_alloc|apply pw_below_drewN|apply below_drew1)|exact HB.out)) hb);have n1_:=Aside0.mk (hbox);have n2_:=Aside0.mk ((by rw [hg];exact (below_size (by repeat (first|(with_reducible first|exact HB.out|apply below_alloc|apply pw_below_drewN|apply below_drew1)|exact HB.out))) : w.heap.size ≤ gb127));have n3_:=Aside0.mk ((by rw [hg];exact (below_size (by repeat (first|(with_reducible first|exact HB.out|apply below_alloc|apply pw_below_drewN|apply below_drew1)|exact HB.out))) : w.heap.size ≤ gb127));clear HB;have HB:=n0_;have BK127:=n1_;have GW127:=n2_;have GE127:=n3_;clear n0_ n1_ n2_ n3_;clear hb hbox hg))
 (try simp only [Act.put,List.setIfInBounds_toArray,List.set_cons_zero,List.set_cons_succ])
 have H:=HC2.out;clear HC2;replace H:=Option.bind_eq_some_iff.mp H;obtain ⟨t128,A40,H⟩:=H;replace H : (if t128 = true then (if a0_0 = 0 then (some (0,0)) else (if (FloatKind.f64.format.order a0_6 0 == some .eq) = true then (some (0,0)) else (if fok .quo a0_6 (floatOfInt .f64 a0_0) = true then ((math_Sqrt.f (fop .quo a0_6 (floatOfInt .f64 a0_0))).bind fun t129=>(some (t129,0))) else (none)))) else (some (0,1))) = some (r1,r2):=H;have A4:=Aside0.mk A40;clear A40;have HC5:=Aside0.mk H;clear H;have hcz6_0 : w3.cell? ⟨gb127,0,none⟩ = some (.int .i64 a0_0):=(blk_cell BK127.out 0).trans rfl;have hcz6_1 : w3.cell? ⟨gb127,1,none⟩ = some (.float .f64 a0_1):=(blk_cell BK127.out 1).trans rfl;have hcz6_2 : w3.cell? ⟨gb127,2,none⟩ = some (.float .f64 a0_2):=(blk_cell BK127.out 2).trans rfl;have hcz6_3 : w3.cell? ⟨gb127,3,none⟩ = some (.float .f64 a0_3):=(blk_cell BK127.out 3).trans rfl;have hcz6_4 : w3.cell? ⟨gb127,4,none⟩ = some (.float .f64 a0_4):=(blk_cell BK127.out 4).trans rfl;have hcz6_5 : w3.cell? ⟨gb127,5,none⟩ = some (.float .f64 a0_5):=(blk_cell BK127.out 5).trans rfl;have hcz6_6 : w3.cell? ⟨gb127,6,none⟩ = some (.float .f64 a0_6):=(blk_cell BK127.out 6).trans rfl;have hfz6_0:=blk_frozen BK127.out 0;have hfz6_1:=blk_frozen BK127.out 1;have hfz6_2:=blk_frozen BK127.out 2;have hfz6_3:=blk_frozen BK127.out 3;have hfz6_4:=blk_frozen BK127.out 4;have hfz6_5:=blk_frozen BK127.out 5;have hfz6_6:=blk_frozen BK127.out 6
 go_upto_if 6 with (first|((with_reducible refine gate_callee (f:=43) rfl ?_);refine goesL_ (some 5) rfl rfl Try.func43 (by kernel_rfl) rfl #[.agg #[.int .i64 a0_0,.float .f64 a0_1,.float .f64 a0_2,.float .f64 a0_3,.float .f64 a0_4,.float .f64 a0_5,.float .f64 a0_6]] rfl (by (try simp only [List.map_toArray,List.map_cons,List.map_nil]);first|done|rfl|(simp only [List.length_drop,List.length_take];rfl)) ?_;(with_reducible refine (tally_formed.calls k a0_0 a0_1 a0_2 a0_3 a0_4 a0_5 a0_6 t128 _ A4.out).mono ?_);rintro e w7 ⟨rfl,hb⟩;refine ⟨_,rfl,?_⟩;have n0_:=Aside0.mk (blk_below (g:=gb127) (o:=.cells #[.int .i64 a0_0,.float .f64 a0_1,.float .f64 a0_2,.float .f64 a0_3,.float .f64 a0_4,.float .f64 a0_5,.float .f64 a0_6] 26 (0,0)) (by (with_reducible repeat (first|refine blk_drewN ?_ _|refine blk_drew ?_|refine blk_alloc ?_ _));exact BK127.out) hb);have n1_:=Aside0.mk (below_step (by repeat (first|(with_reducible first|exact HB.out|apply below_alloc|apply pw_below_drewN|apply below_drew1|refine below_set ?_ GE127.out)|exact HB.out)) hb);clear BK127;clear HB;have BK127:=n0_;have HB:=n1_;clear n0_ n1_;(try clear hb);(try clear hb2);(try clear hk);(try clear hi)))
 (try simp only [Act.put,List.setIfInBounds_toArray,List.set_cons_zero,List.set_cons_succ])
 have H:=HC5.out;clear HC5
 by_cases c8 : t128 = true
 ·subst c8
  have H1 : (if a0_0 = 0 then (some (0,0)) else (if (FloatKind.f64.format.order a0_6 0 == some .eq) = true then (some (0,0)) else (if fok .quo a0_6 (floatOfInt .f64 a0_0) = true then ((math_Sqrt.f (fop .quo a0_6 (floatOfInt .f64 a0_0))).bind fun t129=>(some (t129,0))) else (none)))) = some (r1,r2):=by rw [if_pos rfl] at H;exact H
  clear H;have H:=H1;clear H1
  by_cases c9 : a0_0 = 0
  ·rw [if_pos c9] at H
   have c9b0 : (a0_0 == 0) = true:=beq_iff_eq.mpr c9;have c9b1 : (a0_0 != 0) = false:=bne_eq_false_iff_eq.mpr c9;clear c9
   (first|rw [c9b0]|(simp only [i64_w,i32_w];rw [c9b0])|skip)
   simp only [Option.some.injEq,Prod.mk.injEq] at H
   obtain ⟨rfl,rfl⟩:=H;have hcz10_0 : w7.cell? ⟨gb127,0,none⟩ = some (.int .i64 a0_0):=(blk_cell BK127.out 0).trans rfl;have hcz10_1 : w7.cell? ⟨gb127,1,none⟩ = some (.float .f64 a0_1):=(blk_cell BK127.out 1).trans rfl;have hcz10_2 : w7.cell? ⟨gb127,2,none⟩ = some (.float .f64 a0_2):=(blk_cell BK127.out 2).trans rfl;have hcz10_3 : w7.cell? ⟨gb127,3,none⟩ = some (.float .f64 a0_3):=(blk_cell BK127.out 3).trans rfl;have hcz10_4 : w7.cell? ⟨gb127,4,none⟩ = some (.float .f64 a0_4):=(blk_cell BK127.out 4).trans rfl;have hcz10_5 : w7.cell? ⟨gb127,5,none⟩ = some (.float .f64 a0_5):=(blk_cell BK127.out 5).trans rfl;have hcz10_6 : w7.cell? ⟨gb127,6,none⟩ = some (.float .f64 a0_6):=(blk_cell BK127.out 6).trans rfl;have hfz10_0:=blk_frozen BK127.out 0;have hfz10_1:=blk_frozen BK127.out 1;have hfz10_2:=blk_frozen BK127.out 2;have hfz10_3:=blk_frozen BK127.out 3;have hfz10_4:=blk_frozen BK127.out 4;have hfz10_5:=blk_frozen BK127.out 5;have hfz10_6:=blk_frozen BK127.out 6;go_wp2
   go_ret2
   exact ⟨by first|rfl|(rw [px_ne];rfl)|(simp [errW_none,errW_some] <;> rfl)|(simp [*,errW_none,errW_some] <;> rfl),by repeat (first|(with_reducible first|exact HB.out|apply below_alloc|apply pw_below_drewN|apply below_drew1|refine below_set ?_ GE127.out)|exact HB.out)⟩
  rw [if_neg c9] at H
  have c9b0 : (a0_0 == 0) = false:=beq_eq_false_iff_ne.mpr c9;have c9b1 : (a0_0 != 0) = true:=bne_iff_ne.mpr c9
  (first|rw [c9b0]|(simp only [i64_w,i32_w];rw [c9b0])|skip)
  by_cases c11 : (FloatKind.f64.format.order a0_6 0 == some .eq) = true
  ·rw [if_pos c11] at H
   have c11b0 : (FloatKind.f64.format.order a0_6 0 == some .eq) = true:=c11
   (try (have c11b1 : decide (FloatKind.f64.format.order a0_6 0 = some .eq) = true:=by simpa using c11))
   (try (have c11b2 : (FloatKind.f64.format.order a0_6 0 == some .eq) = true:=by simpa using c11))
   clear c11
   simp only [Option.some.injEq,Prod.mk.injEq] at H
   obtain ⟨rfl,rfl⟩:=H;have hcz12_0 : w7.cell? ⟨gb127,0,none⟩ = some (.int .i64 a0_0):=(blk_cell BK127.out 0).trans rfl;have hcz12_1 : w7.cell? ⟨gb127,1,none⟩ = some (.float .f64 a0_1):=(blk_cell BK127.out 1).trans rfl;have hcz12_2 : w7.cell? ⟨gb127,2,none⟩ = some (.float .f64 a0_2):=(blk_cell BK127.out 2).trans rfl;have hcz12_3 : w7.cell? ⟨gb127,3,none⟩ = some (.float .f64 a0_3):=(blk_cell BK127.out 3).trans rfl;have hcz12_4 : w7.cell? ⟨gb127,4,none⟩ = some (.float .f64 a0_4):=(blk_cell BK127.out 4).trans rfl;have hcz12_5 : w7.cell? ⟨gb127,5,none⟩ = some (.float .f64 a0_5):=(blk_cell BK127.out 5).trans rfl;have hcz12_6 : w7.cell? ⟨gb127,6,none⟩ = some (.float .f64 a0_6):=(blk_cell BK127.out 6).trans rfl;have hfz12_0:=blk_frozen BK127.out 0;have hfz12_1:=blk_frozen BK127.out 1;have hfz12_2:=blk_frozen BK127.out 2;have hfz12_3:=blk_frozen BK127.out 3;have hfz12_4:=blk_frozen BK127.out 4;have hfz12_5:=blk_frozen BK127.out 5;have hfz12_6:=blk_frozen BK127.out 6;go_wp2
   go_ret2
   exact ⟨by first|rfl|(rw [px_ne];rfl)|(simp [errW_none,errW_some] <;> rfl)|(simp [*,errW_none,errW_some] <;> rfl),by repeat (first|(with_reducible first|exact HB.out|apply below_alloc|apply pw_below_drewN|apply below_drew1|refine below_set ?_ GE127.out)|exact HB.out)⟩
  rw [if_neg c11] at H
  have c11b0 : (FloatKind.f64.format.order a0_6 0 == some .eq) = false:=by simpa using c11
  (try (have c11b1 : decide (FloatKind.f64.format.order a0_6 0 = some .eq) = false:=by simpa using c11))
  (try (have c11b2 : (FloatKind.f64.format.order a0_6 0 == some .eq) = false:=by simpa using c11))
  (try (have c11b3 : ¬ (FloatKind.f64.format.order a0_6 0 = some .eq):=by simpa using c11))
  clear c11
  by_cases c13 : fok .quo a0_6 (floatOfInt .f64 a0_0) = true
  ·rw [if_pos c13] at H
   have c13b0:=eq_true c13;have c13b1 : decide (fok .quo a0_6 (floatOfInt .f64 a0_0) = true) = true:=decide_eq_true c13;clear c13;replace H:=Option.bind_eq_some_iff.mp H;obtain ⟨t129,A140,H⟩:=H;replace H : (some (t129,0)) = some (r1,r2):=H;have A14:=Aside0.mk A140;clear A140
   simp only [Option.some.injEq,Prod.mk.injEq] at H
   obtain ⟨rfl,rfl⟩:=H;have hcz15_0 : w7.cell? ⟨gb127,0,none⟩ = some (.int .i64 a0_0):=(blk_cell BK127.out 0).trans rfl;have hcz15_1 : w7.cell? ⟨gb127,1,none⟩ = some (.float .f64 a0_1):=(blk_cell BK127.out 1).trans rfl;have hcz15_2 : w7.cell? ⟨gb127,2,none⟩ = some (.float .f64 a0_2):=(blk_cell BK127.out 2).trans rfl;have hcz15_3 : w7.cell? ⟨gb127,3,none⟩ = some (.float .f64 a0_3):=(blk_cell BK127.out 3).trans rfl;have hcz15_4 : w7.cell? ⟨gb127,4,none⟩ = some (.float .f64 a0_4):=(blk_cell BK127.out 4).trans rfl;have hcz15_5 : w7.cell? ⟨gb127,5,none⟩ = some (.float .f64 a0_5):=(blk_cell BK127.out 5).trans rfl;have hcz15_6 : w7.cell? ⟨gb127,6,none⟩ = some (.float .f64 a0_6):=(blk_cell BK127.out 6).trans rfl;have hfz15_0:=blk_frozen BK127.out 0;have hfz15_1:=blk_frozen BK127.out 1;have hfz15_2:=blk_frozen BK127.out 2;have hfz15_3:=blk_frozen BK127.out 3;have hfz15_4:=blk_frozen BK127.out 4;have hfz15_5:=blk_frozen BK127.out 5;have hfz15_6:=blk_frozen BK127.out 6
   go_wp2_with (first|((with_reducible refine gate_callee (f:=49) rfl ?_);refine goesL_ (some 21) rfl rfl Try.func49 (by kernel_rfl) rfl #[.float .f64 (fop .quo a0_6 (floatOfInt .f64 a0_0))] rfl (by (try simp only [List.map_toArray,List.map_cons,List.map_nil]);first|done|rfl|(simp only [List.length_drop,List.length_take];rfl)) ?_;(with_reducible refine (math_Sqrt.calls (fop .quo a0_6 (floatOfInt .f64 a0_0)) t129 _ A14.out).mono ?_);rintro e w' ⟨rfl,⟨nd,rfl⟩⟩;refine ⟨_,rfl,?_⟩))
   go_ret2
   exact ⟨by first|rfl|(rw [px_ne];rfl)|(simp [errW_none,errW_some] <;> rfl)|(simp [*,errW_none,errW_some] <;> rfl),by repeat (first|(with_reducible first|exact HB.out|apply below_alloc|apply pw_below_drewN|apply below_drew1|refine below_set ?_ GE127.out)|exact HB.out)⟩
  rw [if_neg c13] at H
  exact absurd H (by simp)
 replace c8:=Bool.eq_false_iff.mpr c8;subst c8
 have H1 : (some (0,1)) = some (r1,r2):=by rw [if_neg (show ¬ (false = true) by decide)] at H;exact H
 clear H;have H:=H1;clear H1
 simp only [Option.some.injEq,Prod.mk.injEq] at H
 obtain ⟨rfl,rfl⟩:=H;go_wp2
 go_ret2
 exact ⟨by first|rfl|(rw [px_ne];rfl)|(simp [errW_none,errW_some] <;> rfl)|(simp [*,errW_none,errW_some] <;> rfl),by repeat (first|(with_reducible first|exact HB.out|apply below_alloc|apply pw_below_drewN|apply below_drew1|refine below_set ?_ GE127.out)|exact HB.out)⟩
end Go.Proofs.Ytijmdmnhbbcahaa.PTallyWhole
