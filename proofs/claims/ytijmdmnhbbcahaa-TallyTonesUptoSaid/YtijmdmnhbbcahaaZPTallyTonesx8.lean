-- Written by shrink.py, a program of this session: what the law needs of the print and its words. Lean checks it.
import Derived.Test.YtijmdmnhbbcahaaZPTallyTonesx0
import Derived.Test.YtijmdmnhbbcahaaZPTallyTonesx1
import Derived.Test.YtijmdmnhbbcahaaZPTallyTonesx6
import Derived.Test.YtijmdmnhbbcahaaZPTallyTonesx7
namespace Go.Proofs.Ytijmdmnhbbcahaa.PTallyTones
open Go.RowKit Go.Proofs.YtijmdmnhbbcahaaW.PrintWords Go.Proofs.YtijmdmnhbbcahaaW.PrintLast Go.Proofs.YtijmdmnhbbcahaaW.PrintMore
attribute [local go_sem] run_fadd run_fsub run_fmul run_fquo unary_fneg run_store_f64 run_store_c128 run_cadd
attribute [local go_sem] max2_int min2_int max_two min_two max_three min_three max_four min_four
set_option linter.unusedVariables false
set_option linter.unusedSimpArgs false
attribute [local go_sem high] eqA26
def math_IsInf.f (a0 : Nat) (a1 : Int) : Option (Bool):=if a1 = 0 then ((math_Abs.f a0).bind fun t101=>(some (FloatKind.f64.format.order t101 9218868437227405311 == some .gt))) else (if a1 < 0 then (some (FloatKind.f64.format.order (Op.negFloat .f64 a0) 9218868437227405311 == some .gt)) else (some (FloatKind.f64.format.order a0 9218868437227405311 == some .gt)))
set_option maxHeartbeats 8000000 in
set_option maxRecDepth 100000 in
theorem math_IsInf.calls (a0 : Nat) (a1 : Int) (r : Bool) (w : World) (h : math_IsInf.f a0 a1 = some r) :
  Calls Try.prog 69 #[.float .f64 a0,.int .i64 a1] w fun e w'=>e = .returned (.bool r) ∧ Drawn0 w w':=by
 have H : (if a1 = 0 then ((math_Abs.f a0).bind fun t101=>(some (FloatKind.f64.format.order t101 9218868437227405311 == some .gt))) else (if a1 < 0 then (some (FloatKind.f64.format.order (Op.negFloat .f64 a0) 9218868437227405311 == some .gt)) else (some (FloatKind.f64.format.order a0 9218868437227405311 == some .gt)))) = some r:=h
 clear h
 by_cases c3 : a1 = 0
 ·rw [if_pos c3] at H
  have c3b0 : (a1 == 0) = true:=beq_iff_eq.mpr c3
  have c3b1 : (a1 != 0) = false:=bne_eq_false_iff_eq.mpr c3
  clear c3
  replace H:=Option.bind_eq_some_iff.mp H
  obtain ⟨t101,A40,H⟩:=H
  replace H : (some (FloatKind.f64.format.order t101 9218868437227405311 == some .gt)) = some r:=H
  have A4:=Aside0.mk A40
  clear A40
  obtain rfl:=Option.some.inj H
  go_enter Try.func69,Try.ntmps69
  go_wp2_with (first|((with_reducible refine gate_callee (f:=70) rfl ?_);refine goesL_ (some 8) rfl rfl Try.func70 (by kernel_rfl) rfl #[.float .f64 a0] rfl (by (try simp only [List.map_toArray,List.map_cons,List.map_nil]);first|done|rfl|(simp only [List.length_drop,List.length_take];rfl)) ?_;(with_reducible refine (math_Abs.calls a0 t101 _ A4.out).mono ?_);rintro e w' ⟨rfl,⟨nd,rfl⟩⟩;refine ⟨_,rfl,?_⟩))
  go_ret
  exact ⟨by first|rfl|(simp;done)|(simp [*];done),by repeat (first|exact Drawn0.refl _|apply Drawn0.step)⟩
 ·rw [if_neg c3] at H
  have c3b0 : (a1 == 0) = false:=beq_eq_false_iff_ne.mpr c3
  have c3b1 : (a1 != 0) = true:=bne_iff_ne.mpr c3
  by_cases c5 : a1 < 0
  ·rw [if_pos c5] at H
   have c5b0 : decide (a1 < 0) = true:=decide_eq_true c5
   clear c5
   obtain rfl:=Option.some.inj H
   go_enter Try.func69,Try.ntmps69
   go_wp2
   go_ret
   exact ⟨by first|rfl|(simp;done)|(simp [*];done),by repeat (first|exact Drawn0.refl _|apply Drawn0.step)⟩
  ·rw [if_neg c5] at H
   have c5b0 : decide (a1 < 0) = false:=decide_eq_false c5
   clear c5
   obtain rfl:=Option.some.inj H
   go_enter Try.func69,Try.ntmps69
   go_wp2
   go_ret
   exact ⟨by first|rfl|(simp;done)|(simp [*];done),by repeat (first|exact Drawn0.refl _|apply Drawn0.step)⟩
def tally_finite.l0 : Nat → List Nat → Int → Int → Option (Bool)
 | 0,_,_,_=>none
 | k + 1,x5,x6,x7=>if x7 < x6 then (if 0 ≤ x7 then (if x7 < (x5.length : Int) then ((math_IsNaN.f (rdOf (0 : Nat) x5 x7)).bind fun t103=>(if t103 = true then (some false) else ((math_IsInf.f (rdOf (0 : Nat) x5 x7) 0).bind fun t104=>(if t104 = true then (some false) else (tally_finite.l0 k x5 x6 (wrap64 (x7 + 1))))))) else (none)) else (none)) else (some true)
def tally_finite.f (k : Nat) (l0 : List Nat) : Option (Bool):=tally_finite.l0 k l0 (l0.length : Int) 0
set_option maxHeartbeats 8000000 in
set_option maxRecDepth 100000 in
theorem tally_finite.calls (k : Nat) (A0 : Option Addr) (c0 : Nat) (l0 : List Nat) (r : Bool) (w : World) (hr0 : Kd.C Kd.f64 w A0 l0.length l0) (hc0 : l0.length ≤ c0) (h : tally_finite.f k l0 = some r) :
  Calls Try.prog 40 #[.slice A0 l0.length c0] w fun e w'=>e = .returned (.bool r) ∧ Drawn0 w w':=by
 have HR0:=Aside0.mk hr0
 have HC0:=Aside0.mk hc0
 clear hr0 hc0
 have H : (tally_finite.l0 k l0 (l0.length : Int) 0) = some r:=h
 clear h
 have H':=Aside0.mk H
 clear H
 go_enter Try.func40,Try.ntmps40
 go_wp2
 go_loopg [7] k (fun kq v7 w'=>∃ (x7_1 : Int),v7 = .int .i64 x7_1 ∧ Aside0 (tally_finite.l0 kq l0 (l0.length : Int) x7_1 = some r) ∧ Aside0 (kq ≤ k) ∧ Drawn0 w w')
 case atStart=>exact ⟨(0),(by first|rfl|(simp;done)|(simp [*];done)),H',⟨Nat.le_refl _⟩,by repeat (first|exact Drawn0.refl _|apply Drawn0.step)⟩
 case round =>
  clear H'
  try clear HK1
  obtain ⟨x7_1,rfl,HA,HK1,⟨m1,rfl⟩⟩:=hrel
  cases gk with
  | zero=>exact absurd HA.out (by simp [tally_finite.l0])
  | succ k1 =>
   have H:=HA.out
   clear HA
   simp only [tally_finite.l0] at H
   by_cases c2 : x7_1 < (l0.length : Int)
   ·rw [if_pos c2] at H
    have c2b0 : decide (x7_1 < (l0.length : Int)) = true:=decide_eq_true c2
    clear c2
    by_cases c3 : 0 ≤ x7_1
    ·rw [if_pos c3] at H
     have c3b0 : decide (0 ≤ x7_1) = true:=decide_eq_true c3
     clear c3
     by_cases c4 : x7_1 < (l0.length : Int)
     ·rw [if_pos c4] at H
      have c4b0 : decide (x7_1 < (l0.length : Int)) = true:=decide_eq_true c4
      clear c4
      replace H:=Option.bind_eq_some_iff.mp H
      obtain ⟨t103,A50,H⟩:=H
      replace H : (if t103 = true then (some false) else ((math_IsInf.f (rdOf (0 : Nat) l0 x7_1) 0).bind fun t104=>(if t104 = true then (some false) else (tally_finite.l0 k1 l0 (l0.length : Int) (wrap64 (x7_1 + 1)))))) = some r:=H
      have A5:=Aside0.mk A50
      clear A50
      by_cases c6 : t103 = true
      ·subst c6
       have H1 : (some false) = some r:=by rw [if_pos rfl] at H;exact H
       clear H
       have H:=H1
       clear H1
       obtain rfl:=Option.some.inj H
       have p102 : 0 ≤ (x7_1 : Int):=of_decide_eq_true (by first|(with_reducible assumption)|assumption)
       have q102 : x7_1 < (l0.length : Int):=of_decide_eq_true (by first|(with_reducible assumption)|assumption)
       obtain ⟨ad102,e102,hx102_0⟩:=Kd.at_f64 HR0.out x7_1 p102 q102
       cases e102
       replace p102:=eq_true p102
       replace q102:=eq_true q102
       go_wp2_with (first|((with_reducible refine gate_callee (f:=68) rfl ?_);refine goesL_ (some 12) rfl rfl Try.func68 (by kernel_rfl) rfl #[.float .f64 (rdOf (0 : Nat) l0 x7_1)] rfl (by (try simp only [List.map_toArray,List.map_cons,List.map_nil]);first|done|rfl|(simp only [List.length_drop,List.length_take];rfl)) ?_;(with_reducible refine (math_IsNaN.calls (rdOf (0 : Nat) l0 x7_1) true _ A5.out).mono ?_);rintro e w' ⟨rfl,⟨nd,rfl⟩⟩;refine ⟨_,rfl,?_⟩))
       go_ret
       exact ⟨by first|rfl|(simp;done)|(simp [*];done),by repeat (first|exact Drawn0.refl _|apply Drawn0.step)⟩
      ·replace c6:=Bool.eq_false_iff.mpr c6
       subst c6
       have H1 : ((math_IsInf.f (rdOf (0 : Nat) l0 x7_1) 0).bind fun t104=>(if t104 = true then (some false) else (tally_finite.l0 k1 l0 (l0.length : Int) (wrap64 (x7_1 + 1))))) = some r:=by rw [if_neg (show ¬ (false = true) by decide)] at H;exact H
       clear H
       have H:=H1
       clear H1
       replace H:=Option.bind_eq_some_iff.mp H
       obtain ⟨t104,A70,H⟩:=H
       replace H : (if t104 = true then (some false) else (tally_finite.l0 k1 l0 (l0.length : Int) (wrap64 (x7_1 + 1)))) = some r:=H
       have A7:=Aside0.mk A70
       clear A70
       by_cases c8 : t104 = true
       ·subst c8
        have H1 : (some false) = some r:=by rw [if_pos rfl] at H;exact H
        clear H
        have H:=H1
        clear H1
        obtain rfl:=Option.some.inj H
        have p102 : 0 ≤ (x7_1 : Int):=of_decide_eq_true (by first|(with_reducible assumption)|assumption)
        have q102 : x7_1 < (l0.length : Int):=of_decide_eq_true (by first|(with_reducible assumption)|assumption)
        obtain ⟨ad102,e102,hx102_0⟩:=Kd.at_f64 HR0.out x7_1 p102 q102
        cases e102
        replace p102:=eq_true p102
        replace q102:=eq_true q102
        go_wp2_with (first|((with_reducible refine gate_callee (f:=68) rfl ?_);refine goesL_ (some 12) rfl rfl Try.func68 (by kernel_rfl) rfl #[.float .f64 (rdOf (0 : Nat) l0 x7_1)] rfl (by (try simp only [List.map_toArray,List.map_cons,List.map_nil]);first|done|rfl|(simp only [List.length_drop,List.length_take];rfl)) ?_;(with_reducible refine (math_IsNaN.calls (rdOf (0 : Nat) l0 x7_1) false _ A5.out).mono ?_);rintro e w' ⟨rfl,⟨nd,rfl⟩⟩;refine ⟨_,rfl,?_⟩)|(go_at_call 69;(with_reducible refine (math_IsInf.calls (rdOf (0 : Nat) l0 x7_1) 0 true _ A7.out).mono ?_);rintro e w' ⟨rfl,⟨nd,rfl⟩⟩))
        go_ret
        exact ⟨by first|rfl|(simp;done)|(simp [*];done),by repeat (first|exact Drawn0.refl _|apply Drawn0.step)⟩
       ·replace c8:=Bool.eq_false_iff.mpr c8
        subst c8
        have H1 : (tally_finite.l0 k1 l0 (l0.length : Int) (wrap64 (x7_1 + 1))) = some r:=by rw [if_neg (show ¬ (false = true) by decide)] at H;exact H
        clear H
        have H:=H1
        clear H1
        have H':=Aside0.mk H
        clear H
        have p102 : 0 ≤ (x7_1 : Int):=of_decide_eq_true (by first|(with_reducible assumption)|assumption)
        have q102 : x7_1 < (l0.length : Int):=of_decide_eq_true (by first|(with_reducible assumption)|assumption)
        obtain ⟨ad102,e102,hx102_0⟩:=Kd.at_f64 HR0.out x7_1 p102 q102
        cases e102
        replace p102:=eq_true p102
        replace q102:=eq_true q102
        go_wp2_with (first|((with_reducible refine gate_callee (f:=68) rfl ?_);refine goesL_ (some 12) rfl rfl Try.func68 (by kernel_rfl) rfl #[.float .f64 (rdOf (0 : Nat) l0 x7_1)] rfl (by (try simp only [List.map_toArray,List.map_cons,List.map_nil]);first|done|rfl|(simp only [List.length_drop,List.length_take];rfl)) ?_;(with_reducible refine (math_IsNaN.calls (rdOf (0 : Nat) l0 x7_1) false _ A5.out).mono ?_);rintro e w' ⟨rfl,⟨nd,rfl⟩⟩;refine ⟨_,rfl,?_⟩)|(go_at_call 69;(with_reducible refine (math_IsInf.calls (rdOf (0 : Nat) l0 x7_1) 0 false _ A7.out).mono ?_);rintro e w' ⟨rfl,⟨nd,rfl⟩⟩))
        go_roundg k1
        case measure=>have:=HK1.out;omega
        case rel=>exact ⟨(wrap64 (x7_1 + 1)),(by first|rfl|(simp;done)|(simp [*];done)),(by first|exact H'|(subst_vars;exact H')),⟨by have:=HK1.out;omega⟩,by repeat (first|exact Drawn0.refl _|apply Drawn0.step)⟩
     ·rw [if_neg c4] at H
      exact absurd H (by simp)
    ·rw [if_neg c3] at H
     exact absurd H (by simp)
   ·rw [if_neg c2] at H
    have c2b0 : decide (x7_1 < (l0.length : Int)) = false:=decide_eq_false c2
    clear c2
    obtain rfl:=Option.some.inj H
    go_wp2
    go_ret
    exact ⟨by first|rfl|(simp;done)|(simp [*];done),by repeat (first|exact Drawn0.refl _|apply Drawn0.step)⟩
def tally_sound.f (k : Nat) (a0_0 : Int) (a0_1 : Nat) (a0_2 : Nat) (a0_3 : Nat) (a0_4 : Nat) (a0_5 : Nat) (a0_6 : Nat) : Option (Bool):=if a0_0 ≤ 4611686018427387904 then ((tally_finite.f k (([a0_1,a0_2,a0_3,a0_4,a0_5,a0_6] : List Nat))).bind fun t109=>(some t109)) else (some false)
set_option maxHeartbeats 8000000 in
set_option maxRecDepth 100000 in
theorem tally_sound.calls (k : Nat) (a0_0 : Int) (a0_1 : Nat) (a0_2 : Nat) (a0_3 : Nat) (a0_4 : Nat) (a0_5 : Nat) (a0_6 : Nat) (r : Bool) (w : World) (h : tally_sound.f k a0_0 a0_1 a0_2 a0_3 a0_4 a0_5 a0_6 = some r) :
  Calls Try.prog 45 #[.agg #[.int .i64 a0_0,.float .f64 a0_1,.float .f64 a0_2,.float .f64 a0_3,.float .f64 a0_4,.float .f64 a0_5,.float .f64 a0_6]] w fun e w'=>e = .returned (.bool r) ∧ Below w.heap.size w w':=by
 have hu26:=Try.underlying26
 have HB:=Aside0.mk (Below.refl w.heap.size w)
 have H : (if a0_0 ≤ 4611686018427387904 then ((tally_finite.f k (([a0_1,a0_2,a0_3,a0_4,a0_5,a0_6] : List Nat))).bind fun t109=>(some t109)) else (some false)) = some r:=h
 clear h
 by_cases c2 : a0_0 ≤ 4611686018427387904
 ·rw [if_pos c2] at H
  have c2b0 : decide (a0_0 ≤ 4611686018427387904) = true:=decide_eq_true c2
  clear c2
  obtain ⟨y106,hy106⟩ : ∃ y_ : List Nat,y_ = (([a0_1,a0_2,a0_3,a0_4,a0_5,a0_6] : List Nat)):=⟨_,rfl⟩
  replace H : ((tally_finite.f k y106).bind fun t109=>(some t109)) = some r:=by first|(rw [hy106];with_reducible exact H)|(have H2_:=(Option.bind_some _ _).symm.trans H;rw [hy106];with_reducible exact H2_)|(have H2_:=(Option.bind_some _ _).symm.trans H;with_reducible exact H2_)|with_reducible exact H|(rw [hy106];exact H)|exact H
  have Ny106:=Aside0.mk hy106
  clear hy106
  replace H:=Option.bind_eq_some_iff.mp H
  obtain ⟨t109,A30,H⟩:=H
  replace H : (some t109) = some r:=H
  have A3:=Aside0.mk A30
  clear A30
  obtain rfl:=Option.some.inj H
  go_enter Try.func45,Try.ntmps45
  go_wp2_with (first|((with_reducible refine gate_dst (N:=1) rfl ?_);(try (refine gate_guard (by rfl) ?_;dsimp only));refine box_event ?hg (N:=1) ?hd (cs:=#[.int .i64 a0_0,.float .f64 a0_1,.float .f64 a0_2,.float .f64 a0_3,.float .f64 a0_4,.float .f64 a0_5,.float .f64 a0_6]) (t:=26) ?hr ?_;(case hd=>rfl);(case hg=>rfl);(case hr=>first|(go_simp;done)|(go_simp;rfl));intro gb105 hg w4 hbox hb;have n0_:=Aside0.mk (below_step (by repeat (first|(with_reducible first|exact HB.out|apply below_alloc|apply pw_below_drewN|apply below_drew1)|exact HB.out)) hb);have n1_:=Aside0.mk (hbox);have n2_:=Aside0.mk ((by rw [hg];exact (below_size (by repeat (first|(with_reducible first|exact HB.out|apply below_alloc|apply pw_below_drewN|apply below_drew1)|exact HB.out))) : w.heap.size ≤ gb105));have n3_:=Aside0.mk ((by rw [hg];exact (below_size (by repeat (first|(with_reducible first|exact HB.out|apply below_alloc|apply pw_below_drewN|apply below_drew1)|exact HB.out))) : w.heap.size ≤ gb105));clear HB;have HB:=n0_;have BK105:=n1_;have GW105:=n2_;have GE105:=n3_;clear n0_ n1_ n2_ n3_;clear hb hbox hg;have hcz5_0 : w4.cell? ⟨gb105,0,none⟩ = some (.int .i64 a0_0):=(blk_cell BK105.out 0).trans rfl;have hcz5_1 : w4.cell? ⟨gb105,1,none⟩ = some (.float .f64 a0_1):=(blk_cell BK105.out 1).trans rfl;have hcz5_2 : w4.cell? ⟨gb105,2,none⟩ = some (.float .f64 a0_2):=(blk_cell BK105.out 2).trans rfl;have hcz5_3 : w4.cell? ⟨gb105,3,none⟩ = some (.float .f64 a0_3):=(blk_cell BK105.out 3).trans rfl;have hcz5_4 : w4.cell? ⟨gb105,4,none⟩ = some (.float .f64 a0_4):=(blk_cell BK105.out 4).trans rfl;have hcz5_5 : w4.cell? ⟨gb105,5,none⟩ = some (.float .f64 a0_5):=(blk_cell BK105.out 5).trans rfl;have hcz5_6 : w4.cell? ⟨gb105,6,none⟩ = some (.float .f64 a0_6):=(blk_cell BK105.out 6).trans rfl;have hfz5_0:=blk_frozen BK105.out 0;have hfz5_1:=blk_frozen BK105.out 1;have hfz5_2:=blk_frozen BK105.out 2;have hfz5_3:=blk_frozen BK105.out 3;have hfz5_4:=blk_frozen BK105.out 4;have hfz5_5:=blk_frozen BK105.out 5;have hfz5_6:=blk_frozen BK105.out 6)|((with_reducible refine gate_dst (N:=19) rfl ?_);(try (refine gate_guard (by rfl) ?_;dsimp only));refine Kd.R_lit Kd.f64 _ 24 ?hg (N:=19) ?hd (xs:=([a0_1,a0_2,a0_3,a0_4,a0_5,a0_6] : List Nat)) (inner:=[.float .f64 a0_1,.float .f64 a0_2,.float .f64 a0_3,.float .f64 a0_4,.float .f64 a0_5,.float .f64 a0_6]) (ok:=fun _=>True) (okp:=fun _=>True) ?hr ?hp (fun _ hk=>hk) trivial (Below.refl _ _) (Nat.le_refl _) (by simp) ?_;(case hd=>rfl);(case hg=>rfl);(case hr=>first|(go_simp;done)|(go_simp;rfl));(case hp=>exact (Reps.one (show Kd.M Kd.f64 _ _ _ a0_1 [.float .f64 a0_1] from rfl) (Reps.one (show Kd.M Kd.f64 _ _ _ a0_2 [.float .f64 a0_2] from rfl) (Reps.one (show Kd.M Kd.f64 _ _ _ a0_3 [.float .f64 a0_3] from rfl) (Reps.one (show Kd.M Kd.f64 _ _ _ a0_4 [.float .f64 a0_4] from rfl) (Reps.one (show Kd.M Kd.f64 _ _ _ a0_5 [.float .f64 a0_5] from rfl) (Reps.one (show Kd.M Kd.f64 _ _ _ a0_6 [.float .f64 a0_6] from rfl) (Reps.none _ _))))))));intro v107 w6 ho7 hb hg_ hnew_;clear hg_ hnew_;(first|rw [← Ny106.out] at ho7|(simp only [Int.reduceToNat] at ho7;rw [← Ny106.out] at ho7));have n0_:=Aside0.mk (Kd.R_lower ho7 (below_size (by repeat (first|(with_reducible first|exact HB.out|apply below_alloc|apply pw_below_drewN|apply below_drew1|refine below_set ?_ GE105.out)|exact HB.out))));have n1_:=Aside0.mk (blk_below (g:=gb105) (o:=.cells #[.int .i64 a0_0,.float .f64 a0_1,.float .f64 a0_2,.float .f64 a0_3,.float .f64 a0_4,.float .f64 a0_5,.float .f64 a0_6] 26 (0,0)) (by (with_reducible repeat (first|refine blk_drewN ?_ _|refine blk_drew ?_|refine blk_alloc ?_ _));exact BK105.out) hb);have n2_:=Aside0.mk (below_step (by repeat (first|(with_reducible first|exact HB.out|apply below_alloc|apply pw_below_drewN|apply below_drew1|refine below_set ?_ GE105.out)|exact HB.out)) hb);clear BK105;clear HB;have HO108:=n0_;have BK105:=n1_;have HB:=n2_;clear n0_ n1_ n2_;clear hb ho7;obtain ⟨Ao8,co8,eo8⟩:=Kd.R_slice HO108.out;subst eo8)|(go_at_call 40;(with_reducible refine (tally_finite.calls k _ _ y106 t109 _ ?side1 ?side2 A3.out).mono ?_);(case side1=>repeat (first|exact (Kd.R_reads' HO108.out).2.2|(with_reducible refine Kd.C_alloc ?_ _)|(with_reducible refine Kd.C_drewN ?_ _)|(with_reducible refine Kd.C_drew ?_)));(case side2=>exact (Kd.R_reads' HO108.out).2.1);rintro e w' ⟨rfl,⟨nd,rfl⟩⟩))
  go_ret
  exact ⟨by first|rfl|(rw [px_ne];rfl)|(simp [errW_none,errW_some] <;> rfl)|(simp [*,errW_none,errW_some] <;> rfl),by repeat (first|(with_reducible first|exact HB.out|apply below_alloc|apply pw_below_drewN|apply below_drew1|refine below_set ?_ GE105.out)|exact HB.out)⟩
 ·rw [if_neg c2] at H
  have c2b0 : decide (a0_0 ≤ 4611686018427387904) = false:=decide_eq_false c2
  clear c2
  obtain rfl:=Option.some.inj H
  go_enter Try.func45,Try.ntmps45
  go_wp2_with (first|((with_reducible refine gate_dst (N:=1) rfl ?_);(try (refine gate_guard (by rfl) ?_;dsimp only));refine box_event ?hg (N:=1) ?hd (cs:=#[.int .i64 a0_0,.float .f64 a0_1,.float .f64 a0_2,.float .f64 a0_3,.float .f64 a0_4,.float .f64 a0_5,.float .f64 a0_6]) (t:=26) ?hr ?_;(case hd=>rfl);(case hg=>rfl);(case hr=>first|(go_simp;done)|(go_simp;rfl));intro gb105 hg w9 hbox hb;have n0_:=Aside0.mk (below_step (by repeat (first|(with_reducible first|exact HB.out|apply below_alloc|apply pw_below_drewN|apply below_drew1)|exact HB.out)) hb);have n1_:=Aside0.mk (hbox);have n2_:=Aside0.mk ((by rw [hg];exact (below_size (by repeat (first|(with_reducible first|exact HB.out|apply below_alloc|apply pw_below_drewN|apply below_drew1)|exact HB.out))) : w.heap.size ≤ gb105));have n3_:=Aside0.mk ((by rw [hg];exact (below_size (by repeat (first|(with_reducible first|exact HB.out|apply below_alloc|apply pw_below_drewN|apply below_drew1)|exact HB.out))) : w.heap.size ≤ gb105));clear HB;have HB:=n0_;have BK105:=n1_;have GW105:=n2_;have GE105:=n3_;clear n0_ n1_ n2_ n3_;clear hb hbox hg;have hcz10_0 : w9.cell? ⟨gb105,0,none⟩ = some (.int .i64 a0_0):=(blk_cell BK105.out 0).trans rfl;have hcz10_1 : w9.cell? ⟨gb105,1,none⟩ = some (.float .f64 a0_1):=(blk_cell BK105.out 1).trans rfl;have hcz10_2 : w9.cell? ⟨gb105,2,none⟩ = some (.float .f64 a0_2):=(blk_cell BK105.out 2).trans rfl;have hcz10_3 : w9.cell? ⟨gb105,3,none⟩ = some (.float .f64 a0_3):=(blk_cell BK105.out 3).trans rfl;have hcz10_4 : w9.cell? ⟨gb105,4,none⟩ = some (.float .f64 a0_4):=(blk_cell BK105.out 4).trans rfl;have hcz10_5 : w9.cell? ⟨gb105,5,none⟩ = some (.float .f64 a0_5):=(blk_cell BK105.out 5).trans rfl;have hcz10_6 : w9.cell? ⟨gb105,6,none⟩ = some (.float .f64 a0_6):=(blk_cell BK105.out 6).trans rfl;have hfz10_0:=blk_frozen BK105.out 0;have hfz10_1:=blk_frozen BK105.out 1;have hfz10_2:=blk_frozen BK105.out 2;have hfz10_3:=blk_frozen BK105.out 3;have hfz10_4:=blk_frozen BK105.out 4;have hfz10_5:=blk_frozen BK105.out 5;have hfz10_6:=blk_frozen BK105.out 6))
  go_ret
  exact ⟨by first|rfl|(rw [px_ne];rfl)|(simp [errW_none,errW_some] <;> rfl)|(simp [*,errW_none,errW_some] <;> rfl),by repeat (first|(with_reducible first|exact HB.out|apply below_alloc|apply pw_below_drewN|apply below_drew1|refine below_set ?_ GE105.out)|exact HB.out)⟩
def tally_formed.f (k : Nat) (a0_0 : Int) (a0_1 : Nat) (a0_2 : Nat) (a0_3 : Nat) (a0_4 : Nat) (a0_5 : Nat) (a0_6 : Nat) : Option (Bool):=if (a0_0 == 0 && (Op.floatEq .f64 a0_1 0 && (Op.floatEq .f64 a0_2 0 && (Op.floatEq .f64 a0_3 0 && (Op.floatEq .f64 a0_4 0 && (Op.floatEq .f64 a0_5 0 && (Op.floatEq .f64 a0_6 0))))))) = true then (some true) else (if a0_0 ≥ 1 then ((tally_sound.f k a0_0 a0_1 a0_2 a0_3 a0_4 a0_5 a0_6).bind fun t111=>(if t111 = true then (if (FloatKind.f64.format.order a0_1 a0_2 == some .lt || FloatKind.f64.format.order a0_1 a0_2 == some .eq) = true then (some (FloatKind.f64.format.order a0_6 0 == some .gt || FloatKind.f64.format.order a0_6 0 == some .eq)) else (some false)) else (some false))) else (some false))
set_option maxHeartbeats 8000000 in
set_option maxRecDepth 100000 in
theorem tally_formed.calls (k : Nat) (a0_0 : Int) (a0_1 : Nat) (a0_2 : Nat) (a0_3 : Nat) (a0_4 : Nat) (a0_5 : Nat) (a0_6 : Nat) (r : Bool) (w : World) (h : tally_formed.f k a0_0 a0_1 a0_2 a0_3 a0_4 a0_5 a0_6 = some r) :
  Calls Try.prog 43 #[.agg #[.int .i64 a0_0,.float .f64 a0_1,.float .f64 a0_2,.float .f64 a0_3,.float .f64 a0_4,.float .f64 a0_5,.float .f64 a0_6]] w fun e w'=>e = .returned (.bool r) ∧ Below w.heap.size w w':=by
 have hu26:=Try.underlying26
 have HB:=Aside0.mk (Below.refl w.heap.size w)
 have H : (if (a0_0 == 0 && (Op.floatEq .f64 a0_1 0 && (Op.floatEq .f64 a0_2 0 && (Op.floatEq .f64 a0_3 0 && (Op.floatEq .f64 a0_4 0 && (Op.floatEq .f64 a0_5 0 && (Op.floatEq .f64 a0_6 0))))))) = true then (some true) else (if a0_0 ≥ 1 then ((tally_sound.f k a0_0 a0_1 a0_2 a0_3 a0_4 a0_5 a0_6).bind fun t111=>(if t111 = true then (if (FloatKind.f64.format.order a0_1 a0_2 == some .lt || FloatKind.f64.format.order a0_1 a0_2 == some .eq) = true then (some (FloatKind.f64.format.order a0_6 0 == some .gt || FloatKind.f64.format.order a0_6 0 == some .eq)) else (some false)) else (some false))) else (some false))) = some r:=h
 clear h
 by_cases c2 : (a0_0 == 0 && (Op.floatEq .f64 a0_1 0 && (Op.floatEq .f64 a0_2 0 && (Op.floatEq .f64 a0_3 0 && (Op.floatEq .f64 a0_4 0 && (Op.floatEq .f64 a0_5 0 && (Op.floatEq .f64 a0_6 0))))))) = true
 ·rw [if_pos c2] at H
  have c2b0 : (a0_0 == 0 && (Op.floatEq .f64 a0_1 0 && (Op.floatEq .f64 a0_2 0 && (Op.floatEq .f64 a0_3 0 && (Op.floatEq .f64 a0_4 0 && (Op.floatEq .f64 a0_5 0 && (Op.floatEq .f64 a0_6 0))))))) = true:=c2
  (try (have c2b1 : decide (a0_0 = 0 && (Op.floatEq .f64 a0_1 0 && (Op.floatEq .f64 a0_2 0 && (Op.floatEq .f64 a0_3 0 && (Op.floatEq .f64 a0_4 0 && (Op.floatEq .f64 a0_5 0 && (Op.floatEq .f64 a0_6 0))))))) = true:=by simpa using c2))
  (try (have c2b2 : (a0_0 == 0 && (Op.floatEq .f64 a0_1 0 && (Op.floatEq .f64 a0_2 0 && (Op.floatEq .f64 a0_3 0 && (Op.floatEq .f64 a0_4 0 && (Op.floatEq .f64 a0_5 0 && (Op.floatEq .f64 a0_6 0))))))) = true:=by simpa using c2))
  clear c2
  obtain rfl:=Option.some.inj H
  go_enter Try.func43,Try.ntmps43
  go_wp2_with (first|((with_reducible refine gate_dst (N:=1) rfl ?_);refine box_event ?hg (N:=1) ?hd (cs:=#[.int .i64 a0_0,.float .f64 a0_1,.float .f64 a0_2,.float .f64 a0_3,.float .f64 a0_4,.float .f64 a0_5,.float .f64 a0_6]) (t:=26) ?hr ?_;(case hd=>rfl);(case hg=>rfl);(case hr=>first|(go_simp;done)|(go_simp;rfl));intro gb110 hg w3 hbox hb;have n0_:=Aside0.mk (below_step (by repeat (first|(with_reducible first|exact HB.out|apply below_alloc|apply pw_below_drewN|apply below_drew1)|exact HB.out)) hb);have n1_:=Aside0.mk (hbox);have n2_:=Aside0.mk ((by rw [hg];exact (below_size (by repeat (first|(with_reducible first|exact HB.out|apply below_alloc|apply pw_below_drewN|apply below_drew1)|exact HB.out))) : w.heap.size ≤ gb110));have n3_:=Aside0.mk ((by rw [hg];exact (below_size (by repeat (first|(with_reducible first|exact HB.out|apply below_alloc|apply pw_below_drewN|apply below_drew1)|exact HB.out))) : w.heap.size ≤ gb110));clear HB;have HB:=n0_;have BK110:=n1_;have GW110:=n2_;have GE110:=n3_;clear n0_ n1_ n2_ n3_;clear hb hbox hg;have hcz4_0 : w3.cell? ⟨gb110,0,none⟩ = some (.int .i64 a0_0):=(blk_cell BK110.out 0).trans rfl;have hcz4_1 : w3.cell? ⟨gb110,1,none⟩ = some (.float .f64 a0_1):=(blk_cell BK110.out 1).trans rfl;have hcz4_2 : w3.cell? ⟨gb110,2,none⟩ = some (.float .f64 a0_2):=(blk_cell BK110.out 2).trans rfl;have hcz4_3 : w3.cell? ⟨gb110,3,none⟩ = some (.float .f64 a0_3):=(blk_cell BK110.out 3).trans rfl;have hcz4_4 : w3.cell? ⟨gb110,4,none⟩ = some (.float .f64 a0_4):=(blk_cell BK110.out 4).trans rfl;have hcz4_5 : w3.cell? ⟨gb110,5,none⟩ = some (.float .f64 a0_5):=(blk_cell BK110.out 5).trans rfl;have hcz4_6 : w3.cell? ⟨gb110,6,none⟩ = some (.float .f64 a0_6):=(blk_cell BK110.out 6).trans rfl;have hfz4_0:=blk_frozen BK110.out 0;have hfz4_1:=blk_frozen BK110.out 1;have hfz4_2:=blk_frozen BK110.out 2;have hfz4_3:=blk_frozen BK110.out 3;have hfz4_4:=blk_frozen BK110.out 4;have hfz4_5:=blk_frozen BK110.out 5;have hfz4_6:=blk_frozen BK110.out 6))
  go_ret
  exact ⟨by first|rfl|(rw [px_ne];rfl)|(simp [errW_none,errW_some] <;> rfl)|(simp [*,errW_none,errW_some] <;> rfl),by repeat (first|(with_reducible first|exact HB.out|apply below_alloc|apply pw_below_drewN|apply below_drew1|refine below_set ?_ GE110.out)|exact HB.out)⟩
 ·rw [if_neg c2] at H
  have c2b0 : (a0_0 == 0 && (Op.floatEq .f64 a0_1 0 && (Op.floatEq .f64 a0_2 0 && (Op.floatEq .f64 a0_3 0 && (Op.floatEq .f64 a0_4 0 && (Op.floatEq .f64 a0_5 0 && (Op.floatEq .f64 a0_6 0))))))) = false:=by simpa using c2
  (try (have c2b1 : decide (a0_0 = 0 && (Op.floatEq .f64 a0_1 0 && (Op.floatEq .f64 a0_2 0 && (Op.floatEq .f64 a0_3 0 && (Op.floatEq .f64 a0_4 0 && (Op.floatEq .f64 a0_5 0 && (Op.floatEq .f64 a0_6 0))))))) = false:=by simpa using c2))
  (try (have c2b2 : (a0_0 == 0 && (Op.floatEq .f64 a0_1 0 && (Op.floatEq .f64 a0_2 0 && (Op.floatEq .f64 a0_3 0 && (Op.floatEq .f64 a0_4 0 && (Op.floatEq .f64 a0_5 0 && (Op.floatEq .f64 a0_6 0))))))) = false:=by simpa using c2))
  (try (have c2b3 : ¬ (a0_0 = 0 && (Op.floatEq .f64 a0_1 0 && (Op.floatEq .f64 a0_2 0 && (Op.floatEq .f64 a0_3 0 && (Op.floatEq .f64 a0_4 0 && (Op.floatEq .f64 a0_5 0 && (Op.floatEq .f64 a0_6 0))))))):=by simpa using c2))
  clear c2
  by_cases c5 : a0_0 ≥ 1
  ·rw [if_pos c5] at H
   have c5b0 : decide (1 ≤ a0_0) = true:=decide_eq_true c5
   clear c5
   replace H:=Option.bind_eq_some_iff.mp H
   obtain ⟨t111,A60,H⟩:=H
   replace H : (if t111 = true then (if (FloatKind.f64.format.order a0_1 a0_2 == some .lt || FloatKind.f64.format.order a0_1 a0_2 == some .eq) = true then (some (FloatKind.f64.format.order a0_6 0 == some .gt || FloatKind.f64.format.order a0_6 0 == some .eq)) else (some false)) else (some false)) = some r:=H
   have A6:=Aside0.mk A60
   clear A60
   by_cases c7 : t111 = true
   ·subst c7
    have H1 : (if (FloatKind.f64.format.order a0_1 a0_2 == some .lt || FloatKind.f64.format.order a0_1 a0_2 == some .eq) = true then (some (FloatKind.f64.format.order a0_6 0 == some .gt || FloatKind.f64.format.order a0_6 0 == some .eq)) else (some false)) = some r:=by rw [if_pos rfl] at H;exact H
    clear H
    have H:=H1
    clear H1
    by_cases c8 : (FloatKind.f64.format.order a0_1 a0_2 == some .lt || FloatKind.f64.format.order a0_1 a0_2 == some .eq) = true
    ·rw [if_pos c8] at H
     have c8b0 : (FloatKind.f64.format.order a0_1 a0_2 == some .lt || FloatKind.f64.format.order a0_1 a0_2 == some .eq) = true:=c8
     (try (have c8b1 : decide (FloatKind.f64.format.order a0_1 a0_2 = some .lt || FloatKind.f64.format.order a0_1 a0_2 == some .eq) = true:=by simpa using c8))
     (try (have c8b2 : (FloatKind.f64.format.order a0_1 a0_2 == some .lt || FloatKind.f64.format.order a0_1 a0_2 == some .eq) = true:=by simpa using c8))
     clear c8
     obtain rfl:=Option.some.inj H
     go_enter Try.func43,Try.ntmps43
     go_wp2_with (first|((with_reducible refine gate_dst (N:=1) rfl ?_);refine box_event ?hg (N:=1) ?hd (cs:=#[.int .i64 a0_0,.float .f64 a0_1,.float .f64 a0_2,.float .f64 a0_3,.float .f64 a0_4,.float .f64 a0_5,.float .f64 a0_6]) (t:=26) ?hr ?_;(case hd=>rfl);(case hg=>rfl);(case hr=>first|(go_simp;done)|(go_simp;rfl));intro gb110 hg w9 hbox hb;have n0_:=Aside0.mk (below_step (by repeat (first|(with_reducible first|exact HB.out|apply below_alloc|apply pw_below_drewN|apply below_drew1)|exact HB.out)) hb);have n1_:=Aside0.mk (hbox);have n2_:=Aside0.mk ((by rw [hg];exact (below_size (by repeat (first|(with_reducible first|exact HB.out|apply below_alloc|apply pw_below_drewN|apply below_drew1)|exact HB.out))) : w.heap.size ≤ gb110));have n3_:=Aside0.mk ((by rw [hg];exact (below_size (by repeat (first|(with_reducible first|exact HB.out|apply below_alloc|apply pw_below_drewN|apply below_drew1)|exact HB.out))) : w.heap.size ≤ gb110));clear HB;have HB:=n0_;have BK110:=n1_;have GW110:=n2_;have GE110:=n3_;clear n0_ n1_ n2_ n3_;clear hb hbox hg;have hcz10_0 : w9.cell? ⟨gb110,0,none⟩ = some (.int .i64 a0_0):=(blk_cell BK110.out 0).trans rfl;have hcz10_1 : w9.cell? ⟨gb110,1,none⟩ = some (.float .f64 a0_1):=(blk_cell BK110.out 1).trans rfl;have hcz10_2 : w9.cell? ⟨gb110,2,none⟩ = some (.float .f64 a0_2):=(blk_cell BK110.out 2).trans rfl;have hcz10_3 : w9.cell? ⟨gb110,3,none⟩ = some (.float .f64 a0_3):=(blk_cell BK110.out 3).trans rfl;have hcz10_4 : w9.cell? ⟨gb110,4,none⟩ = some (.float .f64 a0_4):=(blk_cell BK110.out 4).trans rfl;have hcz10_5 : w9.cell? ⟨gb110,5,none⟩ = some (.float .f64 a0_5):=(blk_cell BK110.out 5).trans rfl;have hcz10_6 : w9.cell? ⟨gb110,6,none⟩ = some (.float .f64 a0_6):=(blk_cell BK110.out 6).trans rfl;have hfz10_0:=blk_frozen BK110.out 0;have hfz10_1:=blk_frozen BK110.out 1;have hfz10_2:=blk_frozen BK110.out 2;have hfz10_3:=blk_frozen BK110.out 3;have hfz10_4:=blk_frozen BK110.out 4;have hfz10_5:=blk_frozen BK110.out 5;have hfz10_6:=blk_frozen BK110.out 6)|(go_at_call 45;(with_reducible refine (tally_sound.calls k a0_0 a0_1 a0_2 a0_3 a0_4 a0_5 a0_6 true _ A6.out).mono ?_);rintro e w11 ⟨rfl,hb⟩;have n0_:=Aside0.mk (blk_below (g:=gb110) (o:=.cells #[.int .i64 a0_0,.float .f64 a0_1,.float .f64 a0_2,.float .f64 a0_3,.float .f64 a0_4,.float .f64 a0_5,.float .f64 a0_6] 26 (0,0)) (by (with_reducible repeat (first|refine blk_drewN ?_ _|refine blk_drew ?_|refine blk_alloc ?_ _));exact BK110.out) hb);have n1_:=Aside0.mk (below_step (by repeat (first|(with_reducible first|exact HB.out|apply below_alloc|apply pw_below_drewN|apply below_drew1|refine below_set ?_ GE110.out)|exact HB.out)) hb);clear BK110;clear HB;have BK110:=n0_;have HB:=n1_;clear n0_ n1_;(try clear hb);(try clear hb2);(try clear hk);(try clear hi);have hcz12_0 : w11.cell? ⟨gb110,0,none⟩ = some (.int .i64 a0_0):=(blk_cell BK110.out 0).trans rfl;have hcz12_1 : w11.cell? ⟨gb110,1,none⟩ = some (.float .f64 a0_1):=(blk_cell BK110.out 1).trans rfl;have hcz12_2 : w11.cell? ⟨gb110,2,none⟩ = some (.float .f64 a0_2):=(blk_cell BK110.out 2).trans rfl;have hcz12_3 : w11.cell? ⟨gb110,3,none⟩ = some (.float .f64 a0_3):=(blk_cell BK110.out 3).trans rfl;have hcz12_4 : w11.cell? ⟨gb110,4,none⟩ = some (.float .f64 a0_4):=(blk_cell BK110.out 4).trans rfl;have hcz12_5 : w11.cell? ⟨gb110,5,none⟩ = some (.float .f64 a0_5):=(blk_cell BK110.out 5).trans rfl;have hcz12_6 : w11.cell? ⟨gb110,6,none⟩ = some (.float .f64 a0_6):=(blk_cell BK110.out 6).trans rfl;have hfz12_0:=blk_frozen BK110.out 0;have hfz12_1:=blk_frozen BK110.out 1;have hfz12_2:=blk_frozen BK110.out 2;have hfz12_3:=blk_frozen BK110.out 3;have hfz12_4:=blk_frozen BK110.out 4;have hfz12_5:=blk_frozen BK110.out 5;have hfz12_6:=blk_frozen BK110.out 6))
     go_ret
     exact ⟨by first|rfl|(rw [px_ne];rfl)|(simp [errW_none,errW_some] <;> rfl)|(simp [*,errW_none,errW_some] <;> rfl),by repeat (first|(with_reducible first|exact HB.out|apply below_alloc|apply pw_below_drewN|apply below_drew1|refine below_set ?_ GE110.out)|exact HB.out)⟩
    ·rw [if_neg c8] at H
     have c8b0 : (FloatKind.f64.format.order a0_1 a0_2 == some .lt || FloatKind.f64.format.order a0_1 a0_2 == some .eq) = false:=by simpa using c8
     (try (have c8b1 : decide (FloatKind.f64.format.order a0_1 a0_2 = some .lt || FloatKind.f64.format.order a0_1 a0_2 == some .eq) = false:=by simpa using c8))
     (try (have c8b2 : (FloatKind.f64.format.order a0_1 a0_2 == some .lt || FloatKind.f64.format.order a0_1 a0_2 == some .eq) = false:=by simpa using c8))
     (try (have c8b3 : ¬ (FloatKind.f64.format.order a0_1 a0_2 = some .lt || FloatKind.f64.format.order a0_1 a0_2 == some .eq):=by simpa using c8))
     clear c8
     obtain rfl:=Option.some.inj H
     go_enter Try.func43,Try.ntmps43
     go_wp2_with (first|((with_reducible refine gate_dst (N:=1) rfl ?_);refine box_event ?hg (N:=1) ?hd (cs:=#[.int .i64 a0_0,.float .f64 a0_1,.float .f64 a0_2,.float .f64 a0_3,.float .f64 a0_4,.float .f64 a0_5,.float .f64 a0_6]) (t:=26) ?hr ?_;(case hd=>rfl);(case hg=>rfl);(case hr=>first|(go_simp;done)|(go_simp;rfl));intro gb110 hg w13 hbox hb;have n0_:=Aside0.mk (below_step (by repeat (first|(with_reducible first|exact HB.out|apply below_alloc|apply pw_below_drewN|apply below_drew1)|exact HB.out)) hb);have n1_:=Aside0.mk (hbox);have n2_:=Aside0.mk ((by rw [hg];exact (below_size (by repeat (first|(with_reducible first|exact HB.out|apply below_alloc|apply pw_below_drewN|apply below_drew1)|exact HB.out))) : w.heap.size ≤ gb110));have n3_:=Aside0.mk ((by rw [hg];exact (below_size (by repeat (first|(with_reducible first|exact HB.out|apply below_alloc|apply pw_below_drewN|apply below_drew1)|exact HB.out))) : w.heap.size ≤ gb110));clear HB;have HB:=n0_;have BK110:=n1_;have GW110:=n2_;have GE110:=n3_;clear n0_ n1_ n2_ n3_;clear hb hbox hg;have hcz14_0 : w13.cell? ⟨gb110,0,none⟩ = some (.int .i64 a0_0):=(blk_cell BK110.out 0).trans rfl;have hcz14_1 : w13.cell? ⟨gb110,1,none⟩ = some (.float .f64 a0_1):=(blk_cell BK110.out 1).trans rfl;have hcz14_2 : w13.cell? ⟨gb110,2,none⟩ = some (.float .f64 a0_2):=(blk_cell BK110.out 2).trans rfl;have hcz14_3 : w13.cell? ⟨gb110,3,none⟩ = some (.float .f64 a0_3):=(blk_cell BK110.out 3).trans rfl;have hcz14_4 : w13.cell? ⟨gb110,4,none⟩ = some (.float .f64 a0_4):=(blk_cell BK110.out 4).trans rfl;have hcz14_5 : w13.cell? ⟨gb110,5,none⟩ = some (.float .f64 a0_5):=(blk_cell BK110.out 5).trans rfl;have hcz14_6 : w13.cell? ⟨gb110,6,none⟩ = some (.float .f64 a0_6):=(blk_cell BK110.out 6).trans rfl;have hfz14_0:=blk_frozen BK110.out 0;have hfz14_1:=blk_frozen BK110.out 1;have hfz14_2:=blk_frozen BK110.out 2;have hfz14_3:=blk_frozen BK110.out 3;have hfz14_4:=blk_frozen BK110.out 4;have hfz14_5:=blk_frozen BK110.out 5;have hfz14_6:=blk_frozen BK110.out 6)|(go_at_call 45;(with_reducible refine (tally_sound.calls k a0_0 a0_1 a0_2 a0_3 a0_4 a0_5 a0_6 true _ A6.out).mono ?_);rintro e w15 ⟨rfl,hb⟩;have n0_:=Aside0.mk (blk_below (g:=gb110) (o:=.cells #[.int .i64 a0_0,.float .f64 a0_1,.float .f64 a0_2,.float .f64 a0_3,.float .f64 a0_4,.float .f64 a0_5,.float .f64 a0_6] 26 (0,0)) (by (with_reducible repeat (first|refine blk_drewN ?_ _|refine blk_drew ?_|refine blk_alloc ?_ _));exact BK110.out) hb);have n1_:=Aside0.mk (below_step (by repeat (first|(with_reducible first|exact HB.out|apply below_alloc|apply pw_below_drewN|apply below_drew1|refine below_set ?_ GE110.out)|exact HB.out)) hb);clear BK110;clear HB;have BK110:=n0_;have HB:=n1_;clear n0_ n1_;(try clear hb);(try clear hb2);(try clear hk);(try clear hi);have hcz16_0 : w15.cell? ⟨gb110,0,none⟩ = some (.int .i64 a0_0):=(blk_cell BK110.out 0).trans rfl;have hcz16_1 : w15.cell? ⟨gb110,1,none⟩ = some (.float .f64 a0_1):=(blk_cell BK110.out 1).trans rfl;have hcz16_2 : w15.cell? ⟨gb110,2,none⟩ = some (.float .f64 a0_2):=(blk_cell BK110.out 2).trans rfl;have hcz16_3 : w15.cell? ⟨gb110,3,none⟩ = some (.float .f64 a0_3):=(blk_cell BK110.out 3).trans rfl;have hcz16_4 : w15.cell? ⟨gb110,4,none⟩ = some (.float .f64 a0_4):=(blk_cell BK110.out 4).trans rfl;have hcz16_5 : w15.cell? ⟨gb110,5,none⟩ = some (.float .f64 a0_5):=(blk_cell BK110.out 5).trans rfl;have hcz16_6 : w15.cell? ⟨gb110,6,none⟩ = some (.float .f64 a0_6):=(blk_cell BK110.out 6).trans rfl;have hfz16_0:=blk_frozen BK110.out 0;have hfz16_1:=blk_frozen BK110.out 1;have hfz16_2:=blk_frozen BK110.out 2;have hfz16_3:=blk_frozen BK110.out 3;have hfz16_4:=blk_frozen BK110.out 4;have hfz16_5:=blk_frozen BK110.out 5;have hfz16_6:=blk_frozen BK110.out 6))
     go_ret
     exact ⟨by first|rfl|(rw [px_ne];rfl)|(simp [errW_none,errW_some] <;> rfl)|(simp [*,errW_none,errW_some] <;> rfl),by repeat (first|(with_reducible first|exact HB.out|apply below_alloc|apply pw_below_drewN|apply below_drew1|refine below_set ?_ GE110.out)|exact HB.out)⟩
   ·replace c7:=Bool.eq_false_iff.mpr c7
    subst c7
    have H1 : (some false) = some r:=by rw [if_neg (show ¬ (false = true) by decide)] at H;exact H
    clear H
    have H:=H1
    clear H1
    obtain rfl:=Option.some.inj H
    go_enter Try.func43,Try.ntmps43
    go_wp2_with (first|((with_reducible refine gate_dst (N:=1) rfl ?_);refine box_event ?hg (N:=1) ?hd (cs:=#[.int .i64 a0_0,.float .f64 a0_1,.float .f64 a0_2,.float .f64 a0_3,.float .f64 a0_4,.float .f64 a0_5,.float .f64 a0_6]) (t:=26) ?hr ?_;(case hd=>rfl);(case hg=>rfl);(case hr=>first|(go_simp;done)|(go_simp;rfl));intro gb110 hg w17 hbox hb;have n0_:=Aside0.mk (below_step (by repeat (first|(with_reducible first|exact HB.out|apply below_alloc|apply pw_below_drewN|apply below_drew1)|exact HB.out)) hb);have n1_:=Aside0.mk (hbox);have n2_:=Aside0.mk ((by rw [hg];exact (below_size (by repeat (first|(with_reducible first|exact HB.out|apply below_alloc|apply pw_below_drewN|apply below_drew1)|exact HB.out))) : w.heap.size ≤ gb110));have n3_:=Aside0.mk ((by rw [hg];exact (below_size (by repeat (first|(with_reducible first|exact HB.out|apply below_alloc|apply pw_below_drewN|apply below_drew1)|exact HB.out))) : w.heap.size ≤ gb110));clear HB;have HB:=n0_;have BK110:=n1_;have GW110:=n2_;have GE110:=n3_;clear n0_ n1_ n2_ n3_;clear hb hbox hg;have hcz18_0 : w17.cell? ⟨gb110,0,none⟩ = some (.int .i64 a0_0):=(blk_cell BK110.out 0).trans rfl;have hcz18_1 : w17.cell? ⟨gb110,1,none⟩ = some (.float .f64 a0_1):=(blk_cell BK110.out 1).trans rfl;have hcz18_2 : w17.cell? ⟨gb110,2,none⟩ = some (.float .f64 a0_2):=(blk_cell BK110.out 2).trans rfl;have hcz18_3 : w17.cell? ⟨gb110,3,none⟩ = some (.float .f64 a0_3):=(blk_cell BK110.out 3).trans rfl;have hcz18_4 : w17.cell? ⟨gb110,4,none⟩ = some (.float .f64 a0_4):=(blk_cell BK110.out 4).trans rfl;have hcz18_5 : w17.cell? ⟨gb110,5,none⟩ = some (.float .f64 a0_5):=(blk_cell BK110.out 5).trans rfl;have hcz18_6 : w17.cell? ⟨gb110,6,none⟩ = some (.float .f64 a0_6):=(blk_cell BK110.out 6).trans rfl;have hfz18_0:=blk_frozen BK110.out 0;have hfz18_1:=blk_frozen BK110.out 1;have hfz18_2:=blk_frozen BK110.out 2;have hfz18_3:=blk_frozen BK110.out 3;have hfz18_4:=blk_frozen BK110.out 4;have hfz18_5:=blk_frozen BK110.out 5;have hfz18_6:=blk_frozen BK110.out 6)|(go_at_call 45;(with_reducible refine (tally_sound.calls k a0_0 a0_1 a0_2 a0_3 a0_4 a0_5 a0_6 false _ A6.out).mono ?_);rintro e w19 ⟨rfl,hb⟩;have n0_:=Aside0.mk (blk_below (g:=gb110) (o:=.cells #[.int .i64 a0_0,.float .f64 a0_1,.float .f64 a0_2,.float .f64 a0_3,.float .f64 a0_4,.float .f64 a0_5,.float .f64 a0_6] 26 (0,0)) (by (with_reducible repeat (first|refine blk_drewN ?_ _|refine blk_drew ?_|refine blk_alloc ?_ _));exact BK110.out) hb);have n1_:=Aside0.mk (below_step (by repeat (first|(with_reducible first|exact HB.out|apply below_alloc|apply pw_below_drewN|apply below_drew1|refine below_set ?_ GE110.out)|exact HB.out)) hb);clear BK110;clear HB;have BK110:=n0_;have HB:=n1_;clear n0_ n1_;(try clear hb);(try clear hb2);(try clear hk);(try clear hi)))
    go_ret
    exact ⟨by first|rfl|(rw [px_ne];rfl)|(simp [errW_none,errW_some] <;> rfl)|(simp [*,errW_none,errW_some] <;> rfl),by repeat (first|(with_reducible first|exact HB.out|apply below_alloc|apply pw_below_drewN|apply below_drew1|refine below_set ?_ GE110.out)|exact HB.out)⟩
  ·rw [if_neg c5] at H
   have c5b0 : decide (1 ≤ a0_0) = false:=decide_eq_false c5
   clear c5
   obtain rfl:=Option.some.inj H
   go_enter Try.func43,Try.ntmps43
   go_wp2_with (first|((with_reducible refine gate_dst (N:=1) rfl ?_);refine box_event ?hg (N:=1) ?hd (cs:=#[.int .i64 a0_0,.float .f64 a0_1,.float .f64 a0_2,.float .f64 a0_3,.float .f64 a0_4,.float .f64 a0_5,.float .f64 a0_6]) (t:=26) ?hr ?_;(case hd=>rfl);(case hg=>rfl);(case hr=>first|(go_simp;done)|(go_simp;rfl));intro gb110 hg w20 hbox hb;have n0_:=Aside0.mk (below_step (by repeat (first|(with_reducible first|exact HB.out|apply below_alloc|apply pw_below_drewN|apply below_drew1)|exact HB.out)) hb);have n1_:=Aside0.mk (hbox);have n2_:=Aside0.mk ((by rw [hg];exact (below_size (by repeat (first|(with_reducible first|exact HB.out|apply below_alloc|apply pw_below_drewN|apply below_drew1)|exact HB.out))) : w.heap.size ≤ gb110));have n3_:=Aside0.mk ((by rw [hg];exact (below_size (by repeat (first|(with_reducible first|exact HB.out|apply below_alloc|apply pw_below_drewN|apply below_drew1)|exact HB.out))) : w.heap.size ≤ gb110));clear HB;have HB:=n0_;have BK110:=n1_;have GW110:=n2_;have GE110:=n3_;clear n0_ n1_ n2_ n3_;clear hb hbox hg;have hcz21_0 : w20.cell? ⟨gb110,0,none⟩ = some (.int .i64 a0_0):=(blk_cell BK110.out 0).trans rfl;have hcz21_1 : w20.cell? ⟨gb110,1,none⟩ = some (.float .f64 a0_1):=(blk_cell BK110.out 1).trans rfl;have hcz21_2 : w20.cell? ⟨gb110,2,none⟩ = some (.float .f64 a0_2):=(blk_cell BK110.out 2).trans rfl;have hcz21_3 : w20.cell? ⟨gb110,3,none⟩ = some (.float .f64 a0_3):=(blk_cell BK110.out 3).trans rfl;have hcz21_4 : w20.cell? ⟨gb110,4,none⟩ = some (.float .f64 a0_4):=(blk_cell BK110.out 4).trans rfl;have hcz21_5 : w20.cell? ⟨gb110,5,none⟩ = some (.float .f64 a0_5):=(blk_cell BK110.out 5).trans rfl;have hcz21_6 : w20.cell? ⟨gb110,6,none⟩ = some (.float .f64 a0_6):=(blk_cell BK110.out 6).trans rfl;have hfz21_0:=blk_frozen BK110.out 0;have hfz21_1:=blk_frozen BK110.out 1;have hfz21_2:=blk_frozen BK110.out 2;have hfz21_3:=blk_frozen BK110.out 3;have hfz21_4:=blk_frozen BK110.out 4;have hfz21_5:=blk_frozen BK110.out 5;have hfz21_6:=blk_frozen BK110.out 6))
   go_ret
   exact ⟨by first|rfl|(rw [px_ne];rfl)|(simp [errW_none,errW_some] <;> rfl)|(simp [*,errW_none,errW_some] <;> rfl),by repeat (first|(with_reducible first|exact HB.out|apply below_alloc|apply pw_below_drewN|apply below_drew1|refine below_set ?_ GE110.out)|exact HB.out)⟩
def tally_lost.f (a0 : Nat) (a1 : Nat) (a2 : Nat) : Option (Nat):=(math_Abs.f a0).bind fun t112=>((math_Abs.f a1).bind fun t113=>(if (FloatKind.f64.format.order t112 t113 == some .gt || FloatKind.f64.format.order t112 t113 == some .eq) = true then (if fok .sub a0 a2 = true then (if fok .add (fop .sub a0 a2) a1 = true then (some (fop .add (fop .sub a0 a2) a1)) else (none)) else (none)) else (if fok .sub a1 a2 = true then (if fok .add (fop .sub a1 a2) a0 = true then (some (fop .add (fop .sub a1 a2) a0)) else (none)) else (none))))
set_option maxHeartbeats 8000000 in
set_option maxRecDepth 100000 in
theorem tally_lost.calls (a0 : Nat) (a1 : Nat) (a2 : Nat) (r : Nat) (w : World) (h : tally_lost.f a0 a1 a2 = some r) :
  Calls Try.prog 44 #[.float .f64 a0,.float .f64 a1,.float .f64 a2] w fun e w'=>e = .returned (.float .f64 r) ∧ Drawn0 w w':=by
 have H : ((math_Abs.f a0).bind fun t112=>((math_Abs.f a1).bind fun t113=>(if (FloatKind.f64.format.order t112 t113 == some .gt || FloatKind.f64.format.order t112 t113 == some .eq) = true then (if fok .sub a0 a2 = true then (if fok .add (fop .sub a0 a2) a1 = true then (some (fop .add (fop .sub a0 a2) a1)) else (none)) else (none)) else (if fok .sub a1 a2 = true then (if fok .add (fop .sub a1 a2) a0 = true then (some (fop .add (fop .sub a1 a2) a0)) else (none)) else (none))))) = some r:=h
 clear h
 replace H:=Option.bind_eq_some_iff.mp H
 obtain ⟨t112,A40,H⟩:=H
 replace H : ((math_Abs.f a1).bind fun t113=>(if (FloatKind.f64.format.order t112 t113 == some .gt || FloatKind.f64.format.order t112 t113 == some .eq) = true then (if fok .sub a0 a2 = true then (if fok .add (fop .sub a0 a2) a1 = true then (some (fop .add (fop .sub a0 a2) a1)) else (none)) else (none)) else (if fok .sub a1 a2 = true then (if fok .add (fop .sub a1 a2) a0 = true then (some (fop .add (fop .sub a1 a2) a0)) else (none)) else (none)))) = some r:=H
 have A4:=Aside0.mk A40
 clear A40
 replace H:=Option.bind_eq_some_iff.mp H
 obtain ⟨t113,A50,H⟩:=H
 replace H : (if (FloatKind.f64.format.order t112 t113 == some .gt || FloatKind.f64.format.order t112 t113 == some .eq) = true then (if fok .sub a0 a2 = true then (if fok .add (fop .sub a0 a2) a1 = true then (some (fop .add (fop .sub a0 a2) a1)) else (none)) else (none)) else (if fok .sub a1 a2 = true then (if fok .add (fop .sub a1 a2) a0 = true then (some (fop .add (fop .sub a1 a2) a0)) else (none)) else (none))) = some r:=H
 have A5:=Aside0.mk A50
 clear A50
 by_cases c6 : (FloatKind.f64.format.order t112 t113 == some .gt || FloatKind.f64.format.order t112 t113 == some .eq) = true
 ·rw [if_pos c6] at H
  have c6b0 : (FloatKind.f64.format.order t112 t113 == some .gt || FloatKind.f64.format.order t112 t113 == some .eq) = true:=c6
  (try (have c6b1 : decide (FloatKind.f64.format.order t112 t113 = some .gt || FloatKind.f64.format.order t112 t113 == some .eq) = true:=by simpa using c6))
  (try (have c6b2 : (FloatKind.f64.format.order t112 t113 == some .gt || FloatKind.f64.format.order t112 t113 == some .eq) = true:=by simpa using c6))
  clear c6
  by_cases c7 : fok .sub a0 a2 = true
  ·rw [if_pos c7] at H
   have c7b0:=eq_true c7
   have c7b1 : decide (fok .sub a0 a2 = true) = true:=decide_eq_true c7
   clear c7
   by_cases c8 : fok .add (fop .sub a0 a2) a1 = true
   ·rw [if_pos c8] at H
    have c8b0:=eq_true c8
    have c8b1 : decide (fok .add (fop .sub a0 a2) a1 = true) = true:=decide_eq_true c8
    clear c8
    obtain rfl:=Option.some.inj H
    go_enter Try.func44,Try.ntmps44
    go_wp2_with (first|((with_reducible refine gate_callee (f:=70) rfl ?_);refine goesL_ (some 8) rfl rfl Try.func70 (by kernel_rfl) rfl #[.float .f64 a0] rfl (by (try simp only [List.map_toArray,List.map_cons,List.map_nil]);first|done|rfl|(simp only [List.length_drop,List.length_take];rfl)) ?_;(with_reducible refine (math_Abs.calls a0 t112 _ A4.out).mono ?_);rintro e w' ⟨rfl,⟨nd,rfl⟩⟩;refine ⟨_,rfl,?_⟩)|((with_reducible refine gate_callee (f:=70) rfl ?_);refine goesL_ (some 10) rfl rfl Try.func70 (by kernel_rfl) rfl #[.float .f64 a1] rfl (by (try simp only [List.map_toArray,List.map_cons,List.map_nil]);first|done|rfl|(simp only [List.length_drop,List.length_take];rfl)) ?_;(with_reducible refine (math_Abs.calls a1 t113 _ A5.out).mono ?_);rintro e w' ⟨rfl,⟨nd,rfl⟩⟩;refine ⟨_,rfl,?_⟩))
    go_ret
    exact ⟨by first|rfl|(simp;done)|(simp [*];done),by repeat (first|exact Drawn0.refl _|apply Drawn0.step)⟩
   ·rw [if_neg c8] at H
    exact absurd H (by simp)
  ·rw [if_neg c7] at H
   exact absurd H (by simp)
 ·rw [if_neg c6] at H
  have c6b0 : (FloatKind.f64.format.order t112 t113 == some .gt || FloatKind.f64.format.order t112 t113 == some .eq) = false:=by simpa using c6
  (try (have c6b1 : decide (FloatKind.f64.format.order t112 t113 = some .gt || FloatKind.f64.format.order t112 t113 == some .eq) = false:=by simpa using c6))
  (try (have c6b2 : (FloatKind.f64.format.order t112 t113 == some .gt || FloatKind.f64.format.order t112 t113 == some .eq) = false:=by simpa using c6))
  (try (have c6b3 : ¬ (FloatKind.f64.format.order t112 t113 = some .gt || FloatKind.f64.format.order t112 t113 == some .eq):=by simpa using c6))
  clear c6
  by_cases c9 : fok .sub a1 a2 = true
  ·rw [if_pos c9] at H
   have c9b0:=eq_true c9
   have c9b1 : decide (fok .sub a1 a2 = true) = true:=decide_eq_true c9
   clear c9
   by_cases c10 : fok .add (fop .sub a1 a2) a0 = true
   ·rw [if_pos c10] at H
    have c10b0:=eq_true c10
    have c10b1 : decide (fok .add (fop .sub a1 a2) a0 = true) = true:=decide_eq_true c10
    clear c10
    obtain rfl:=Option.some.inj H
    go_enter Try.func44,Try.ntmps44
    go_wp2_with (first|((with_reducible refine gate_callee (f:=70) rfl ?_);refine goesL_ (some 8) rfl rfl Try.func70 (by kernel_rfl) rfl #[.float .f64 a0] rfl (by (try simp only [List.map_toArray,List.map_cons,List.map_nil]);first|done|rfl|(simp only [List.length_drop,List.length_take];rfl)) ?_;(with_reducible refine (math_Abs.calls a0 t112 _ A4.out).mono ?_);rintro e w' ⟨rfl,⟨nd,rfl⟩⟩;refine ⟨_,rfl,?_⟩)|((with_reducible refine gate_callee (f:=70) rfl ?_);refine goesL_ (some 10) rfl rfl Try.func70 (by kernel_rfl) rfl #[.float .f64 a1] rfl (by (try simp only [List.map_toArray,List.map_cons,List.map_nil]);first|done|rfl|(simp only [List.length_drop,List.length_take];rfl)) ?_;(with_reducible refine (math_Abs.calls a1 t113 _ A5.out).mono ?_);rintro e w' ⟨rfl,⟨nd,rfl⟩⟩;refine ⟨_,rfl,?_⟩))
    go_ret
    exact ⟨by first|rfl|(simp;done)|(simp [*];done),by repeat (first|exact Drawn0.refl _|apply Drawn0.step)⟩
   ·rw [if_neg c10] at H
    exact absurd H (by simp)
  ·rw [if_neg c9] at H
   exact absurd H (by simp)
end Go.Proofs.Ytijmdmnhbbcahaa.PTallyTones
