-- Written by shrink.py, a program of this session: what the law needs of the print and its words. Lean checks it.
import Derived.Test.YtijmdmnhbbcahaaZPTallyOfx0
import Derived.Test.YtijmdmnhbbcahaaZPTallyOfx1
import Derived.Test.YtijmdmnhbbcahaaZPTallyOfx9
namespace Go.Proofs.Ytijmdmnhbbcahaa.PTallyOf
open Go.RowKit Go.Proofs.YtijmdmnhbbcahaaW.PrintWords Go.Proofs.YtijmdmnhbbcahaaW.PrintLast Go.Proofs.YtijmdmnhbbcahaaW.PrintMore
attribute [local go_sem] run_fadd run_fsub run_fmul run_fquo unary_fneg run_store_f64 run_store_c128 run_cadd
attribute [local go_sem] max2_int min2_int max_two min_two max_three min_three max_four min_four
set_option linter.unusedVariables false
set_option linter.unusedSimpArgs false
attribute [local go_sem high] eqA26
def quarryref31_All.l0 : Nat → List Nat → Int → Option (Bool)
 | 0,_,_=>none
 | k + 1,x0,x3=>if x3 < (x0.length : Int) then (if 0 ≤ x3 then ((quarryref13_Finite.f (rdOf (0 : Nat) x0 x3)).bind fun t128=>(if t128 = true then (quarryref31_All.l0 k x0 (wrap64 (x3 + 1))) else (some false))) else (none)) else (some true)
def quarryref31_All.f (k : Nat) (l0 : List Nat) : Option (Bool):=quarryref31_All.l0 k l0 0
set_option maxHeartbeats 8000000 in
set_option maxRecDepth 100000 in
theorem quarryref31_All.calls (k : Nat) (A0 : Option Addr) (c0 : Nat) (l0 : List Nat) (r : Bool) (w : World) (hr0 : Kd.C Kd.f64 w A0 l0.length l0) (hc0 : l0.length ≤ c0) (h : quarryref31_All.f k l0 = some r) :
  Calls Try.prog 41 #[.slice A0 l0.length c0] w fun e w'=>e = .returned (.bool r) ∧ Drawn0 w w':=by
 have HR0:=Aside0.mk hr0
 have HC0:=Aside0.mk hc0
 clear hr0 hc0
 have H : (quarryref31_All.l0 k l0 0) = some r:=h
 clear h
 have H':=Aside0.mk H
 clear H
 go_enter Try.func41,Try.ntmps41
 go_wp2
 go_loopg [3] k (fun kq v3 w'=>∃ (x3_1 : Int),v3 = .int .i64 x3_1 ∧ Aside0 (quarryref31_All.l0 kq l0 x3_1 = some r) ∧ Aside0 (kq ≤ k) ∧ Drawn0 w w')
 case atStart=>exact ⟨(0),(by first|rfl|(simp;done)|(simp [*];done)),H',⟨Nat.le_refl _⟩,by repeat (first|exact Drawn0.refl _|apply Drawn0.step)⟩
 case round =>
  clear H'
  try clear HK1
  obtain ⟨x3_1,rfl,HA,HK1,⟨m1,rfl⟩⟩:=hrel
  cases gk with
  | zero=>exact absurd HA.out (by simp [quarryref31_All.l0])
  | succ k1 =>
   have H:=HA.out
   clear HA
   simp only [quarryref31_All.l0] at H
   by_cases c2 : x3_1 < (l0.length : Int)
   ·rw [if_pos c2] at H
    have c2b0 : decide (x3_1 < (l0.length : Int)) = true:=decide_eq_true c2
    clear c2
    by_cases c3 : 0 ≤ x3_1
    ·rw [if_pos c3] at H
     have c3b0 : decide (0 ≤ x3_1) = true:=decide_eq_true c3
     clear c3
     replace H:=Option.bind_eq_some_iff.mp H
     obtain ⟨t128,A40,H⟩:=H
     replace H : (if t128 = true then (quarryref31_All.l0 k1 l0 (wrap64 (x3_1 + 1))) else (some false)) = some r:=H
     have A4:=Aside0.mk A40
     clear A40
     by_cases c5 : t128 = true
     ·subst c5
      have H1 : (quarryref31_All.l0 k1 l0 (wrap64 (x3_1 + 1))) = some r:=by rw [if_pos rfl] at H;exact H
      clear H
      have H:=H1
      clear H1
      have H':=Aside0.mk H
      clear H
      have p127 : 0 ≤ (x3_1 : Int):=of_decide_eq_true (by first|(with_reducible assumption)|assumption)
      have q127 : x3_1 < (l0.length : Int):=of_decide_eq_true (by first|(with_reducible assumption)|assumption)
      obtain ⟨ad127,e127,hx127_0⟩:=Kd.at_f64 HR0.out x3_1 p127 q127
      cases e127
      replace p127:=eq_true p127
      replace q127:=eq_true q127
      go_wp2_with (first|((with_reducible refine gate_callee (f:=29) rfl ?_);refine goesL_ (some 14) rfl rfl Try.func29 (by kernel_rfl) rfl #[.float .f64 (rdOf (0 : Nat) l0 x3_1)] rfl (by (try simp only [List.map_toArray,List.map_cons,List.map_nil]);first|done|rfl|(simp only [List.length_drop,List.length_take];rfl)) ?_;(with_reducible refine (quarryref13_Finite.calls (rdOf (0 : Nat) l0 x3_1) true _ A4.out).mono ?_);rintro e w' ⟨rfl,⟨nd,rfl⟩⟩;refine ⟨_,rfl,?_⟩))
      go_roundg k1
      case measure=>have:=HK1.out;omega
      case rel=>exact ⟨(wrap64 (x3_1 + 1)),(by first|rfl|(simp;done)|(simp [*];done)),(by first|exact H'|(subst_vars;exact H')),⟨by have:=HK1.out;omega⟩,by repeat (first|exact Drawn0.refl _|apply Drawn0.step)⟩
     ·replace c5:=Bool.eq_false_iff.mpr c5
      subst c5
      have H1 : (some false) = some r:=by rw [if_neg (show ¬ (false = true) by decide)] at H;exact H
      clear H
      have H:=H1
      clear H1
      obtain rfl:=Option.some.inj H
      have p127 : 0 ≤ (x3_1 : Int):=of_decide_eq_true (by first|(with_reducible assumption)|assumption)
      have q127 : x3_1 < (l0.length : Int):=of_decide_eq_true (by first|(with_reducible assumption)|assumption)
      obtain ⟨ad127,e127,hx127_0⟩:=Kd.at_f64 HR0.out x3_1 p127 q127
      cases e127
      replace p127:=eq_true p127
      replace q127:=eq_true q127
      go_wp2_with (first|((with_reducible refine gate_callee (f:=29) rfl ?_);refine goesL_ (some 14) rfl rfl Try.func29 (by kernel_rfl) rfl #[.float .f64 (rdOf (0 : Nat) l0 x3_1)] rfl (by (try simp only [List.map_toArray,List.map_cons,List.map_nil]);first|done|rfl|(simp only [List.length_drop,List.length_take];rfl)) ?_;(with_reducible refine (quarryref13_Finite.calls (rdOf (0 : Nat) l0 x3_1) false _ A4.out).mono ?_);rintro e w' ⟨rfl,⟨nd,rfl⟩⟩;refine ⟨_,rfl,?_⟩))
      go_ret
      exact ⟨by first|rfl|(simp;done)|(simp [*];done),by repeat (first|exact Drawn0.refl _|apply Drawn0.step)⟩
    ·rw [if_neg c3] at H
     exact absurd H (by simp)
   ·rw [if_neg c2] at H
    have c2b0 : decide (x3_1 < (l0.length : Int)) = false:=decide_eq_false c2
    clear c2
    obtain rfl:=Option.some.inj H
    go_wp2
    go_ret
    exact ⟨by first|rfl|(simp;done)|(simp [*];done),by repeat (first|exact Drawn0.refl _|apply Drawn0.step)⟩
def quarryref31_floats.f (a0_0 : Int) (a0_1 : Nat) (a0_2 : Nat) (a0_3 : Nat) (a0_4 : Nat) (a0_5 : Nat) (a0_6 : Nat) : Option (List Nat):=some (([a0_1,a0_2,a0_3,a0_4,a0_5,a0_6] : List Nat))
set_option maxHeartbeats 8000000 in
set_option maxRecDepth 100000 in
theorem quarryref31_floats.calls (a0_0 : Int) (a0_1 : Nat) (a0_2 : Nat) (a0_3 : Nat) (a0_4 : Nat) (a0_5 : Nat) (a0_6 : Nat) (r : List Nat) (w : World) (h : quarryref31_floats.f a0_0 a0_1 a0_2 a0_3 a0_4 a0_5 a0_6 = some r) :
  Calls Try.prog 71 #[.agg #[.int .i64 a0_0,.float .f64 a0_1,.float .f64 a0_2,.float .f64 a0_3,.float .f64 a0_4,.float .f64 a0_5,.float .f64 a0_6]] w fun e w'=>∃ v0_ : Value,e = .returned (v0_) ∧ Kd.R Kd.f64 24 w' w.heap.size (fun _=>True) v0_ r ∧ Below w.heap.size w w':=by
 have hu26:=Try.underlying26
 have HB:=Aside0.mk (Below.refl w.heap.size w)
 have H : (some (([a0_1,a0_2,a0_3,a0_4,a0_5,a0_6] : List Nat))) = some r:=h
 clear h
 obtain ⟨y130,hy130⟩ : ∃ y_ : List Nat,y_ = (([a0_1,a0_2,a0_3,a0_4,a0_5,a0_6] : List Nat)):=⟨_,rfl⟩
 replace H : (some y130) = some r:=by first|(rw [hy130];with_reducible exact H)|(have H2_:=(Option.bind_some _ _).symm.trans H;rw [hy130];with_reducible exact H2_)|(have H2_:=(Option.bind_some _ _).symm.trans H;with_reducible exact H2_)|with_reducible exact H|(rw [hy130];exact H)|exact H
 have Ny130:=Aside0.mk hy130
 clear hy130
 obtain rfl:=Option.some.inj H
 go_enter Try.func71,Try.ntmps71
 go_wp2_with (first|((with_reducible refine gate_dst (N:=1) rfl ?_);refine box_event ?hg (N:=1) ?hd (cs:=#[.int .i64 a0_0,.float .f64 a0_1,.float .f64 a0_2,.float .f64 a0_3,.float .f64 a0_4,.float .f64 a0_5,.float .f64 a0_6]) (t:=26) ?hr ?_;(case hd=>rfl);(case hg=>rfl);(case hr=>first|(go_simp;done)|(go_simp;rfl));intro gb129 hg w2 hbox hb;have n0_:=Aside0.mk (below_step (by repeat (first|(with_reducible first|exact HB.out|apply below_alloc|apply pw_below_drewN|apply below_drew1)|exact HB.out)) hb);have n1_:=Aside0.mk (hbox);have n2_:=Aside0.mk ((by rw [hg];exact (below_size (by repeat (first|(with_reducible first|exact HB.out|apply below_alloc|apply pw_below_drewN|apply below_drew1)|exact HB.out))) : w.heap.size ≤ gb129));have n3_:=Aside0.mk ((by rw [hg];exact (below_size (by repeat (first|(with_reducible first|exact HB.out|apply below_alloc|apply pw_below_drewN|apply below_drew1)|exact HB.out))) : w.heap.size ≤ gb129));clear HB;have HB:=n0_;have BK129:=n1_;have GW129:=n2_;have GE129:=n3_;clear n0_ n1_ n2_ n3_;clear hb hbox hg;have hcz3_0 : w2.cell? ⟨gb129,0,none⟩ = some (.int .i64 a0_0):=(blk_cell BK129.out 0).trans rfl;have hcz3_1 : w2.cell? ⟨gb129,1,none⟩ = some (.float .f64 a0_1):=(blk_cell BK129.out 1).trans rfl;have hcz3_2 : w2.cell? ⟨gb129,2,none⟩ = some (.float .f64 a0_2):=(blk_cell BK129.out 2).trans rfl;have hcz3_3 : w2.cell? ⟨gb129,3,none⟩ = some (.float .f64 a0_3):=(blk_cell BK129.out 3).trans rfl;have hcz3_4 : w2.cell? ⟨gb129,4,none⟩ = some (.float .f64 a0_4):=(blk_cell BK129.out 4).trans rfl;have hcz3_5 : w2.cell? ⟨gb129,5,none⟩ = some (.float .f64 a0_5):=(blk_cell BK129.out 5).trans rfl;have hcz3_6 : w2.cell? ⟨gb129,6,none⟩ = some (.float .f64 a0_6):=(blk_cell BK129.out 6).trans rfl;have hfz3_0:=blk_frozen BK129.out 0;have hfz3_1:=blk_frozen BK129.out 1;have hfz3_2:=blk_frozen BK129.out 2;have hfz3_3:=blk_frozen BK129.out 3;have hfz3_4:=blk_frozen BK129.out 4;have hfz3_5:=blk_frozen BK129.out 5;have hfz3_6:=blk_frozen BK129.out 6)|((with_reducible refine gate_dst (N:=15) rfl ?_);refine Kd.R_lit Kd.f64 _ 24 ?hg (N:=15) ?hd (xs:=([a0_1,a0_2,a0_3,a0_4,a0_5,a0_6] : List Nat)) (inner:=[.float .f64 a0_1,.float .f64 a0_2,.float .f64 a0_3,.float .f64 a0_4,.float .f64 a0_5,.float .f64 a0_6]) (ok:=fun _=>True) (okp:=fun _=>True) ?hr ?hp (fun _ hk=>hk) trivial (Below.refl _ _) (Nat.le_refl _) (by simp) ?_;(case hd=>rfl);(case hg=>rfl);(case hr=>first|(go_simp;done)|(go_simp;rfl));(case hp=>exact (Reps.one (show Kd.M Kd.f64 _ _ _ a0_1 [.float .f64 a0_1] from rfl) (Reps.one (show Kd.M Kd.f64 _ _ _ a0_2 [.float .f64 a0_2] from rfl) (Reps.one (show Kd.M Kd.f64 _ _ _ a0_3 [.float .f64 a0_3] from rfl) (Reps.one (show Kd.M Kd.f64 _ _ _ a0_4 [.float .f64 a0_4] from rfl) (Reps.one (show Kd.M Kd.f64 _ _ _ a0_5 [.float .f64 a0_5] from rfl) (Reps.one (show Kd.M Kd.f64 _ _ _ a0_6 [.float .f64 a0_6] from rfl) (Reps.none _ _))))))));intro v131 w4 ho5 hb hg_ hnew_;clear hg_ hnew_;(first|rw [← Ny130.out] at ho5|(simp only [Int.reduceToNat] at ho5;rw [← Ny130.out] at ho5));have n0_:=Aside0.mk (Kd.R_lower ho5 (below_size (by repeat (first|(with_reducible first|exact HB.out|apply below_alloc|apply pw_below_drewN|apply below_drew1|refine below_set ?_ GE129.out)|exact HB.out))));have n1_:=Aside0.mk (blk_below (g:=gb129) (o:=.cells #[.int .i64 a0_0,.float .f64 a0_1,.float .f64 a0_2,.float .f64 a0_3,.float .f64 a0_4,.float .f64 a0_5,.float .f64 a0_6] 26 (0,0)) (by (with_reducible repeat (first|refine blk_drewN ?_ _|refine blk_drew ?_|refine blk_alloc ?_ _));exact BK129.out) hb);have n2_:=Aside0.mk (below_step (by repeat (first|(with_reducible first|exact HB.out|apply below_alloc|apply pw_below_drewN|apply below_drew1|refine below_set ?_ GE129.out)|exact HB.out)) hb);clear BK129;clear HB;have HO132:=n0_;have BK129:=n1_;have HB:=n2_;clear n0_ n1_ n2_;clear hb ho5))
 go_ret
 exact ⟨_,by first|rfl|(rw [px_ne];rfl)|(simp [errW_none,errW_some] <;> rfl)|(simp [*,errW_none,errW_some] <;> rfl),by (with_reducible repeat (first|apply Kd.R_alloc|apply Kd.R_drewN|apply Kd.R_drew));exact HO132.out,by repeat (first|(with_reducible first|exact HB.out|apply below_alloc|apply pw_below_drewN|apply below_drew1|refine below_set ?_ GE129.out)|exact HB.out)⟩
def quarryref31_Formed.j0 : Nat → Bool → Int → Nat → Nat → Nat → Nat → Nat → Nat → Option (Bool)
 | 0,_,_,_,_,_,_,_,_=>none
 | k + 1,x10,x134000,x134001,x134002,x134003,x134004,x134005,x134006=>if x10 = true then (some (x134000 == 0 && (Op.floatEq .f64 x134001 0 && (Op.floatEq .f64 x134002 0 && (Op.floatEq .f64 x134003 0 && (Op.floatEq .f64 x134004 0 && (Op.floatEq .f64 x134005 0 && (Op.floatEq .f64 x134006 0)))))))) else ((quarryref31_floats.f x134000 x134001 x134002 x134003 x134004 x134005 x134006).bind fun t134=>((quarryref31_All.f k t134).bind fun t137=>(if t137 = true then (if (FloatKind.f64.format.order x134001 x134002 == some .lt || FloatKind.f64.format.order x134001 x134002 == some .eq) = true then (some (FloatKind.f64.format.order x134006 0 == some .gt || FloatKind.f64.format.order x134006 0 == some .eq)) else (some false)) else (some false))))
def quarryref31_Formed.f (k : Nat) (a0_0 : Int) (a0_1 : Nat) (a0_2 : Nat) (a0_3 : Nat) (a0_4 : Nat) (a0_5 : Nat) (a0_6 : Nat) : Option (Bool):=if a0_0 < 1 then (quarryref31_Formed.j0 k true a0_0 a0_1 a0_2 a0_3 a0_4 a0_5 a0_6) else (quarryref31_Formed.j0 k (decide (a0_0 > 4611686018427387904)) a0_0 a0_1 a0_2 a0_3 a0_4 a0_5 a0_6)
set_option maxHeartbeats 8000000 in
set_option maxRecDepth 100000 in
theorem quarryref31_Formed.calls (k : Nat) (a0_0 : Int) (a0_1 : Nat) (a0_2 : Nat) (a0_3 : Nat) (a0_4 : Nat) (a0_5 : Nat) (a0_6 : Nat) (r : Bool) (w : World) (h : quarryref31_Formed.f k a0_0 a0_1 a0_2 a0_3 a0_4 a0_5 a0_6 = some r) :
  Calls Try.prog 46 #[.agg #[.int .i64 a0_0,.float .f64 a0_1,.float .f64 a0_2,.float .f64 a0_3,.float .f64 a0_4,.float .f64 a0_5,.float .f64 a0_6]] w fun e w'=>e = .returned (.bool r) ∧ Below w.heap.size w w':=by
 have hu26:=Try.underlying26
 have HB:=Aside0.mk (Below.refl w.heap.size w)
 have H : (if a0_0 < 1 then (quarryref31_Formed.j0 k true a0_0 a0_1 a0_2 a0_3 a0_4 a0_5 a0_6) else (quarryref31_Formed.j0 k (decide (a0_0 > 4611686018427387904)) a0_0 a0_1 a0_2 a0_3 a0_4 a0_5 a0_6)) = some r:=h
 clear h
 have HC2:=Aside0.mk H
 clear H
 go_enter Try.func46,Try.ntmps46
 go_upto_region 1 with (first|((with_reducible refine gate_dst (N:=1) rfl ?_);refine box_event ?hg (N:=1) ?hd (cs:=#[.int .i64 a0_0,.float .f64 a0_1,.float .f64 a0_2,.float .f64 a0_3,.float .f64 a0_4,.float .f64 a0_5,.float .f64 a0_6]) (t:=26) ?hr ?_;(case hd=>rfl);(case hg=>rfl);(case hr=>first|(go_simp;done)|(go_simp;rfl));intro gb133 hg w3 hbox hb;have n0_:=Aside0.mk (below_step (by repeat (first|(with_reducible first|exact HB.out|apply below_alloc|apply pw_below_drewN|apply below_drew1)|exact HB.out)) hb);have n1_:=Aside0.mk (hbox);have n2_:=Aside0.mk ((by rw [hg];exact (below_size (by repeat (first|(with_reducible first|exact HB.out|apply below_alloc|apply pw_below_drewN|apply below_drew1)|exact HB.out))) : w.heap.size ≤ gb133));have n3_:=Aside0.mk ((by rw [hg];exact (below_size (by repeat (first|(with_reducible first|exact HB.out|apply below_alloc|apply pw_below_drewN|apply below_drew1)|exact HB.out))) : w.heap.size ≤ gb133));clear HB;have HB:=n0_;have BK133:=n1_;have GW133:=n2_;have GE133:=n3_;clear n0_ n1_ n2_ n3_;clear hb hbox hg))
 (try simp only [Act.put,List.setIfInBounds_toArray,List.set_cons_zero,List.set_cons_succ])
 go_cut [10] (fun v10 wc=>∃ (kq : Nat) (x10_1 : Bool),v10 = .bool x10_1 ∧ Aside0 (quarryref31_Formed.j0 kq x10_1 a0_0 a0_1 a0_2 a0_3 a0_4 a0_5 a0_6 = some r) ∧ Aside0 (kq ≤ k) ∧ Aside0 (wc.heap[gb133]? = some (.cells #[.int .i64 a0_0,.float .f64 a0_1,.float .f64 a0_2,.float .f64 a0_3,.float .f64 a0_4,.float .f64 a0_5,.float .f64 a0_6] 26 (0,0))) ∧ Aside0 (Below w.heap.size w wc))
 case first =>
  have H:=HC2.out
  clear HC2
  by_cases c4 : a0_0 < 1
  ·rw [if_pos c4] at H
   have c4b0 : decide (a0_0 < 1) = true:=decide_eq_true c4
   clear c4
   (first|rw [c4b0]|(simp only [i64_w,i32_w];rw [c4b0])|skip)
   have H':=Aside0.mk H
   clear H
   have hcz5_0 : w3.cell? ⟨gb133,0,none⟩ = some (.int .i64 a0_0):=(blk_cell BK133.out 0).trans rfl
   have hcz5_1 : w3.cell? ⟨gb133,1,none⟩ = some (.float .f64 a0_1):=(blk_cell BK133.out 1).trans rfl
   have hcz5_2 : w3.cell? ⟨gb133,2,none⟩ = some (.float .f64 a0_2):=(blk_cell BK133.out 2).trans rfl
   have hcz5_3 : w3.cell? ⟨gb133,3,none⟩ = some (.float .f64 a0_3):=(blk_cell BK133.out 3).trans rfl
   have hcz5_4 : w3.cell? ⟨gb133,4,none⟩ = some (.float .f64 a0_4):=(blk_cell BK133.out 4).trans rfl
   have hcz5_5 : w3.cell? ⟨gb133,5,none⟩ = some (.float .f64 a0_5):=(blk_cell BK133.out 5).trans rfl
   have hcz5_6 : w3.cell? ⟨gb133,6,none⟩ = some (.float .f64 a0_6):=(blk_cell BK133.out 6).trans rfl
   have hfz5_0:=blk_frozen BK133.out 0
   have hfz5_1:=blk_frozen BK133.out 1
   have hfz5_2:=blk_frozen BK133.out 2
   have hfz5_3:=blk_frozen BK133.out 3
   have hfz5_4:=blk_frozen BK133.out 4
   have hfz5_5:=blk_frozen BK133.out 5
   have hfz5_6:=blk_frozen BK133.out 6
   go_wp2
   go_meet
   case rel=>exact ⟨_,(true),(by first|rfl|(simp;done)|(simp [*];done)),(by first|exact H'|(subst_vars;exact H')),⟨by first|omega|exact Nat.le_refl _⟩,⟨by (with_reducible repeat (first|refine blk_drewN ?_ _|refine blk_drew ?_|refine blk_alloc ?_ _));exact BK133.out⟩,⟨by repeat (first|(with_reducible first|exact HB.out|apply below_alloc|apply pw_below_drewN|apply below_drew1|refine below_set ?_ GE133.out)|exact HB.out)⟩⟩
  ·rw [if_neg c4] at H
   have c4b0 : decide (a0_0 < 1) = false:=decide_eq_false c4
   clear c4
   (first|rw [c4b0]|(simp only [i64_w,i32_w];rw [c4b0])|skip)
   have H':=Aside0.mk H
   clear H
   have hcz6_0 : w3.cell? ⟨gb133,0,none⟩ = some (.int .i64 a0_0):=(blk_cell BK133.out 0).trans rfl
   have hcz6_1 : w3.cell? ⟨gb133,1,none⟩ = some (.float .f64 a0_1):=(blk_cell BK133.out 1).trans rfl
   have hcz6_2 : w3.cell? ⟨gb133,2,none⟩ = some (.float .f64 a0_2):=(blk_cell BK133.out 2).trans rfl
   have hcz6_3 : w3.cell? ⟨gb133,3,none⟩ = some (.float .f64 a0_3):=(blk_cell BK133.out 3).trans rfl
   have hcz6_4 : w3.cell? ⟨gb133,4,none⟩ = some (.float .f64 a0_4):=(blk_cell BK133.out 4).trans rfl
   have hcz6_5 : w3.cell? ⟨gb133,5,none⟩ = some (.float .f64 a0_5):=(blk_cell BK133.out 5).trans rfl
   have hcz6_6 : w3.cell? ⟨gb133,6,none⟩ = some (.float .f64 a0_6):=(blk_cell BK133.out 6).trans rfl
   have hfz6_0:=blk_frozen BK133.out 0
   have hfz6_1:=blk_frozen BK133.out 1
   have hfz6_2:=blk_frozen BK133.out 2
   have hfz6_3:=blk_frozen BK133.out 3
   have hfz6_4:=blk_frozen BK133.out 4
   have hfz6_5:=blk_frozen BK133.out 5
   have hfz6_6:=blk_frozen BK133.out 6
   go_wp2
   go_meet
   case rel=>exact ⟨_,(decide (a0_0 > 4611686018427387904)),(by first|rfl|(simp;done)|(simp [*];done)),(by first|exact H'|(subst_vars;exact H')),⟨by first|omega|exact Nat.le_refl _⟩,⟨by (with_reducible repeat (first|refine blk_drewN ?_ _|refine blk_drew ?_|refine blk_alloc ?_ _));exact BK133.out⟩,⟨by repeat (first|(with_reducible first|exact HB.out|apply below_alloc|apply pw_below_drewN|apply below_drew1|refine below_set ?_ GE133.out)|exact HB.out)⟩⟩
 case rest =>
  clear HC2
  try clear p2
  try clear c4
  try clear c4b0
  try clear hcz5_0
  try clear hcz5_1
  try clear hcz5_2
  try clear hcz5_3
  try clear hcz5_4
  try clear hcz5_5
  try clear hcz5_6
  try clear hcz6_0
  try clear hcz6_1
  try clear hcz6_2
  try clear hcz6_3
  try clear hcz6_4
  try clear hcz6_5
  try clear hcz6_6
  try clear hfz5_0
  try clear hfz5_1
  try clear hfz5_2
  try clear hfz5_3
  try clear hfz5_4
  try clear hfz5_5
  try clear hfz5_6
  try clear hfz6_0
  try clear hfz6_1
  try clear hfz6_2
  try clear hfz6_3
  try clear hfz6_4
  try clear hfz6_5
  try clear hfz6_6
  obtain ⟨kq,x10_1,rfl,HA,HJ1,BK133,HB⟩:=hcut
  cases kq with
  | zero=>exact absurd HA.out (by simp [quarryref31_Formed.j0])
  | succ kj1 =>
   have H:=HA.out
   clear HA
   simp only [quarryref31_Formed.j0] at H
   by_cases c7 : x10_1 = true
   ·subst c7
    have H1 : (some (a0_0 == 0 && (Op.floatEq .f64 a0_1 0 && (Op.floatEq .f64 a0_2 0 && (Op.floatEq .f64 a0_3 0 && (Op.floatEq .f64 a0_4 0 && (Op.floatEq .f64 a0_5 0 && (Op.floatEq .f64 a0_6 0)))))))) = some r:=by rw [if_pos rfl] at H;exact H
    clear H
    have H:=H1
    clear H1
    obtain rfl:=Option.some.inj H
    have hcz8_0 : wc.cell? ⟨gb133,0,none⟩ = some (.int .i64 a0_0):=(blk_cell BK133.out 0).trans rfl
    have hcz8_1 : wc.cell? ⟨gb133,1,none⟩ = some (.float .f64 a0_1):=(blk_cell BK133.out 1).trans rfl
    have hcz8_2 : wc.cell? ⟨gb133,2,none⟩ = some (.float .f64 a0_2):=(blk_cell BK133.out 2).trans rfl
    have hcz8_3 : wc.cell? ⟨gb133,3,none⟩ = some (.float .f64 a0_3):=(blk_cell BK133.out 3).trans rfl
    have hcz8_4 : wc.cell? ⟨gb133,4,none⟩ = some (.float .f64 a0_4):=(blk_cell BK133.out 4).trans rfl
    have hcz8_5 : wc.cell? ⟨gb133,5,none⟩ = some (.float .f64 a0_5):=(blk_cell BK133.out 5).trans rfl
    have hcz8_6 : wc.cell? ⟨gb133,6,none⟩ = some (.float .f64 a0_6):=(blk_cell BK133.out 6).trans rfl
    have hfz8_0:=blk_frozen BK133.out 0
    have hfz8_1:=blk_frozen BK133.out 1
    have hfz8_2:=blk_frozen BK133.out 2
    have hfz8_3:=blk_frozen BK133.out 3
    have hfz8_4:=blk_frozen BK133.out 4
    have hfz8_5:=blk_frozen BK133.out 5
    have hfz8_6:=blk_frozen BK133.out 6
    go_wp2
    go_ret
    exact ⟨by first|rfl|(rw [px_ne];rfl)|(simp [errW_none,errW_some] <;> rfl)|(simp [*,errW_none,errW_some] <;> rfl),by repeat (first|(with_reducible first|exact HB.out|apply below_alloc|apply pw_below_drewN|apply below_drew1|refine below_set ?_ GE133.out)|exact HB.out)⟩
   ·replace c7:=Bool.eq_false_iff.mpr c7
    subst c7
    have H1 : ((quarryref31_floats.f a0_0 a0_1 a0_2 a0_3 a0_4 a0_5 a0_6).bind fun t134=>((quarryref31_All.f kj1 t134).bind fun t137=>(if t137 = true then (if (FloatKind.f64.format.order a0_1 a0_2 == some .lt || FloatKind.f64.format.order a0_1 a0_2 == some .eq) = true then (some (FloatKind.f64.format.order a0_6 0 == some .gt || FloatKind.f64.format.order a0_6 0 == some .eq)) else (some false)) else (some false)))) = some r:=by rw [if_neg (show ¬ (false = true) by decide)] at H;exact H
    clear H
    have H:=H1
    clear H1
    replace H:=Option.bind_eq_some_iff.mp H
    obtain ⟨t134,A90,H⟩:=H
    replace H : ((quarryref31_All.f kj1 t134).bind fun t137=>(if t137 = true then (if (FloatKind.f64.format.order a0_1 a0_2 == some .lt || FloatKind.f64.format.order a0_1 a0_2 == some .eq) = true then (some (FloatKind.f64.format.order a0_6 0 == some .gt || FloatKind.f64.format.order a0_6 0 == some .eq)) else (some false)) else (some false))) = some r:=H
    have A9:=Aside0.mk A90
    clear A90
    replace H:=Option.bind_eq_some_iff.mp H
    obtain ⟨t137,A100,H⟩:=H
    replace H : (if t137 = true then (if (FloatKind.f64.format.order a0_1 a0_2 == some .lt || FloatKind.f64.format.order a0_1 a0_2 == some .eq) = true then (some (FloatKind.f64.format.order a0_6 0 == some .gt || FloatKind.f64.format.order a0_6 0 == some .eq)) else (some false)) else (some false)) = some r:=H
    have A10:=Aside0.mk A100
    clear A100
    by_cases c11 : t137 = true
    ·subst c11
     have H1 : (if (FloatKind.f64.format.order a0_1 a0_2 == some .lt || FloatKind.f64.format.order a0_1 a0_2 == some .eq) = true then (some (FloatKind.f64.format.order a0_6 0 == some .gt || FloatKind.f64.format.order a0_6 0 == some .eq)) else (some false)) = some r:=by rw [if_pos rfl] at H;exact H
     clear H
     have H:=H1
     clear H1
     by_cases c12 : (FloatKind.f64.format.order a0_1 a0_2 == some .lt || FloatKind.f64.format.order a0_1 a0_2 == some .eq) = true
     ·rw [if_pos c12] at H
      have c12b0 : (FloatKind.f64.format.order a0_1 a0_2 == some .lt || FloatKind.f64.format.order a0_1 a0_2 == some .eq) = true:=c12
      (try (have c12b1 : decide (FloatKind.f64.format.order a0_1 a0_2 = some .lt || FloatKind.f64.format.order a0_1 a0_2 == some .eq) = true:=by simpa using c12))
      (try (have c12b2 : (FloatKind.f64.format.order a0_1 a0_2 == some .lt || FloatKind.f64.format.order a0_1 a0_2 == some .eq) = true:=by simpa using c12))
      clear c12
      obtain rfl:=Option.some.inj H
      have hcz13_0 : wc.cell? ⟨gb133,0,none⟩ = some (.int .i64 a0_0):=(blk_cell BK133.out 0).trans rfl
      have hcz13_1 : wc.cell? ⟨gb133,1,none⟩ = some (.float .f64 a0_1):=(blk_cell BK133.out 1).trans rfl
      have hcz13_2 : wc.cell? ⟨gb133,2,none⟩ = some (.float .f64 a0_2):=(blk_cell BK133.out 2).trans rfl
      have hcz13_3 : wc.cell? ⟨gb133,3,none⟩ = some (.float .f64 a0_3):=(blk_cell BK133.out 3).trans rfl
      have hcz13_4 : wc.cell? ⟨gb133,4,none⟩ = some (.float .f64 a0_4):=(blk_cell BK133.out 4).trans rfl
      have hcz13_5 : wc.cell? ⟨gb133,5,none⟩ = some (.float .f64 a0_5):=(blk_cell BK133.out 5).trans rfl
      have hcz13_6 : wc.cell? ⟨gb133,6,none⟩ = some (.float .f64 a0_6):=(blk_cell BK133.out 6).trans rfl
      have hfz13_0:=blk_frozen BK133.out 0
      have hfz13_1:=blk_frozen BK133.out 1
      have hfz13_2:=blk_frozen BK133.out 2
      have hfz13_3:=blk_frozen BK133.out 3
      have hfz13_4:=blk_frozen BK133.out 4
      have hfz13_5:=blk_frozen BK133.out 5
      have hfz13_6:=blk_frozen BK133.out 6
      go_wp2_with (first|((with_reducible refine gate_callee (f:=71) rfl ?_);refine goesL_ (some 15) rfl rfl Try.func71 (by kernel_rfl) rfl #[.agg #[.int .i64 a0_0,.float .f64 a0_1,.float .f64 a0_2,.float .f64 a0_3,.float .f64 a0_4,.float .f64 a0_5,.float .f64 a0_6]] rfl (by (try simp only [List.map_toArray,List.map_cons,List.map_nil]);first|done|rfl|(simp only [List.length_drop,List.length_take];rfl)) ?_;(with_reducible refine (quarryref31_floats.calls a0_0 a0_1 a0_2 a0_3 a0_4 a0_5 a0_6 t134 _ A9.out).mono ?_);rintro e w14 ⟨v135,rfl,ho0,hb⟩;refine ⟨_,rfl,?_⟩;have n0_:=Aside0.mk (Kd.R_lower ho0 (below_size (by repeat (first|(with_reducible first|exact HB.out|apply below_alloc|apply pw_below_drewN|apply below_drew1|refine below_set ?_ GE133.out)|exact HB.out))));have n1_:=Aside0.mk (blk_below (g:=gb133) (o:=.cells #[.int .i64 a0_0,.float .f64 a0_1,.float .f64 a0_2,.float .f64 a0_3,.float .f64 a0_4,.float .f64 a0_5,.float .f64 a0_6] 26 (0,0)) (by (with_reducible repeat (first|refine blk_drewN ?_ _|refine blk_drew ?_|refine blk_alloc ?_ _));exact BK133.out) hb);have n2_:=Aside0.mk (below_step (by repeat (first|(with_reducible first|exact HB.out|apply below_alloc|apply pw_below_drewN|apply below_drew1|refine below_set ?_ GE133.out)|exact HB.out)) hb);clear BK133;clear HB;have HO136:=n0_;have BK133:=n1_;have HB:=n2_;clear n0_ n1_ n2_;(try clear hb);(try clear hb2);(try clear hk);(try clear hi);(try clear ho0);obtain ⟨Ao15,co15,eo15⟩:=Kd.R_slice HO136.out;subst eo15)|((with_reducible refine gate_callee (f:=41) rfl ?_);refine goesL_ (some 16) rfl rfl Try.func41 (by kernel_rfl) rfl #[.slice Ao15 t134.length co15] rfl (by (try simp only [List.map_toArray,List.map_cons,List.map_nil]);first|done|rfl|(simp only [List.length_drop,List.length_take];rfl)) ?_;(with_reducible refine (quarryref31_All.calls kj1 _ _ t134 true _ ?side1 ?side2 A10.out).mono ?_);(case side1=>repeat (first|exact (Kd.R_reads' HO136.out).2.2|(with_reducible refine Kd.C_alloc ?_ _)|(with_reducible refine Kd.C_drewN ?_ _)|(with_reducible refine Kd.C_drew ?_)));(case side2=>exact (Kd.R_reads' HO136.out).2.1);rintro e w' ⟨rfl,⟨nd,rfl⟩⟩;refine ⟨_,rfl,?_⟩;have hcz16_0 : w14.cell? ⟨gb133,0,none⟩ = some (.int .i64 a0_0):=(blk_cell BK133.out 0).trans rfl;have hcz16_1 : w14.cell? ⟨gb133,1,none⟩ = some (.float .f64 a0_1):=(blk_cell BK133.out 1).trans rfl;have hcz16_2 : w14.cell? ⟨gb133,2,none⟩ = some (.float .f64 a0_2):=(blk_cell BK133.out 2).trans rfl;have hcz16_3 : w14.cell? ⟨gb133,3,none⟩ = some (.float .f64 a0_3):=(blk_cell BK133.out 3).trans rfl;have hcz16_4 : w14.cell? ⟨gb133,4,none⟩ = some (.float .f64 a0_4):=(blk_cell BK133.out 4).trans rfl;have hcz16_5 : w14.cell? ⟨gb133,5,none⟩ = some (.float .f64 a0_5):=(blk_cell BK133.out 5).trans rfl;have hcz16_6 : w14.cell? ⟨gb133,6,none⟩ = some (.float .f64 a0_6):=(blk_cell BK133.out 6).trans rfl;have hfz16_0:=blk_frozen BK133.out 0;have hfz16_1:=blk_frozen BK133.out 1;have hfz16_2:=blk_frozen BK133.out 2;have hfz16_3:=blk_frozen BK133.out 3;have hfz16_4:=blk_frozen BK133.out 4;have hfz16_5:=blk_frozen BK133.out 5;have hfz16_6:=blk_frozen BK133.out 6))
      go_ret
      exact ⟨by first|rfl|(rw [px_ne];rfl)|(simp [errW_none,errW_some] <;> rfl)|(simp [*,errW_none,errW_some] <;> rfl),by repeat (first|(with_reducible first|exact HB.out|apply below_alloc|apply pw_below_drewN|apply below_drew1|refine below_set ?_ GE133.out)|exact HB.out)⟩
     ·rw [if_neg c12] at H
      have c12b0 : (FloatKind.f64.format.order a0_1 a0_2 == some .lt || FloatKind.f64.format.order a0_1 a0_2 == some .eq) = false:=by simpa using c12
      (try (have c12b1 : decide (FloatKind.f64.format.order a0_1 a0_2 = some .lt || FloatKind.f64.format.order a0_1 a0_2 == some .eq) = false:=by simpa using c12))
      (try (have c12b2 : (FloatKind.f64.format.order a0_1 a0_2 == some .lt || FloatKind.f64.format.order a0_1 a0_2 == some .eq) = false:=by simpa using c12))
      (try (have c12b3 : ¬ (FloatKind.f64.format.order a0_1 a0_2 = some .lt || FloatKind.f64.format.order a0_1 a0_2 == some .eq):=by simpa using c12))
      clear c12
      obtain rfl:=Option.some.inj H
      have hcz17_0 : wc.cell? ⟨gb133,0,none⟩ = some (.int .i64 a0_0):=(blk_cell BK133.out 0).trans rfl
      have hcz17_1 : wc.cell? ⟨gb133,1,none⟩ = some (.float .f64 a0_1):=(blk_cell BK133.out 1).trans rfl
      have hcz17_2 : wc.cell? ⟨gb133,2,none⟩ = some (.float .f64 a0_2):=(blk_cell BK133.out 2).trans rfl
      have hcz17_3 : wc.cell? ⟨gb133,3,none⟩ = some (.float .f64 a0_3):=(blk_cell BK133.out 3).trans rfl
      have hcz17_4 : wc.cell? ⟨gb133,4,none⟩ = some (.float .f64 a0_4):=(blk_cell BK133.out 4).trans rfl
      have hcz17_5 : wc.cell? ⟨gb133,5,none⟩ = some (.float .f64 a0_5):=(blk_cell BK133.out 5).trans rfl
      have hcz17_6 : wc.cell? ⟨gb133,6,none⟩ = some (.float .f64 a0_6):=(blk_cell BK133.out 6).trans rfl
      have hfz17_0:=blk_frozen BK133.out 0
      have hfz17_1:=blk_frozen BK133.out 1
      have hfz17_2:=blk_frozen BK133.out 2
      have hfz17_3:=blk_frozen BK133.out 3
      have hfz17_4:=blk_frozen BK133.out 4
      have hfz17_5:=blk_frozen BK133.out 5
      have hfz17_6:=blk_frozen BK133.out 6
      go_wp2_with (first|((with_reducible refine gate_callee (f:=71) rfl ?_);refine goesL_ (some 15) rfl rfl Try.func71 (by kernel_rfl) rfl #[.agg #[.int .i64 a0_0,.float .f64 a0_1,.float .f64 a0_2,.float .f64 a0_3,.float .f64 a0_4,.float .f64 a0_5,.float .f64 a0_6]] rfl (by (try simp only [List.map_toArray,List.map_cons,List.map_nil]);first|done|rfl|(simp only [List.length_drop,List.length_take];rfl)) ?_;(with_reducible refine (quarryref31_floats.calls a0_0 a0_1 a0_2 a0_3 a0_4 a0_5 a0_6 t134 _ A9.out).mono ?_);rintro e w18 ⟨v135,rfl,ho0,hb⟩;refine ⟨_,rfl,?_⟩;have n0_:=Aside0.mk (Kd.R_lower ho0 (below_size (by repeat (first|(with_reducible first|exact HB.out|apply below_alloc|apply pw_below_drewN|apply below_drew1|refine below_set ?_ GE133.out)|exact HB.out))));have n1_:=Aside0.mk (blk_below (g:=gb133) (o:=.cells #[.int .i64 a0_0,.float .f64 a0_1,.float .f64 a0_2,.float .f64 a0_3,.float .f64 a0_4,.float .f64 a0_5,.float .f64 a0_6] 26 (0,0)) (by (with_reducible repeat (first|refine blk_drewN ?_ _|refine blk_drew ?_|refine blk_alloc ?_ _));exact BK133.out) hb);have n2_:=Aside0.mk (below_step (by repeat (first|(with_reducible first|exact HB.out|apply below_alloc|apply pw_below_drewN|apply below_drew1|refine below_set ?_ GE133.out)|exact HB.out)) hb);clear BK133;clear HB;have HO136:=n0_;have BK133:=n1_;have HB:=n2_;clear n0_ n1_ n2_;(try clear hb);(try clear hb2);(try clear hk);(try clear hi);(try clear ho0);obtain ⟨Ao19,co19,eo19⟩:=Kd.R_slice HO136.out;subst eo19)|((with_reducible refine gate_callee (f:=41) rfl ?_);refine goesL_ (some 16) rfl rfl Try.func41 (by kernel_rfl) rfl #[.slice Ao19 t134.length co19] rfl (by (try simp only [List.map_toArray,List.map_cons,List.map_nil]);first|done|rfl|(simp only [List.length_drop,List.length_take];rfl)) ?_;(with_reducible refine (quarryref31_All.calls kj1 _ _ t134 true _ ?side1 ?side2 A10.out).mono ?_);(case side1=>repeat (first|exact (Kd.R_reads' HO136.out).2.2|(with_reducible refine Kd.C_alloc ?_ _)|(with_reducible refine Kd.C_drewN ?_ _)|(with_reducible refine Kd.C_drew ?_)));(case side2=>exact (Kd.R_reads' HO136.out).2.1);rintro e w' ⟨rfl,⟨nd,rfl⟩⟩;refine ⟨_,rfl,?_⟩;have hcz20_0 : w18.cell? ⟨gb133,0,none⟩ = some (.int .i64 a0_0):=(blk_cell BK133.out 0).trans rfl;have hcz20_1 : w18.cell? ⟨gb133,1,none⟩ = some (.float .f64 a0_1):=(blk_cell BK133.out 1).trans rfl;have hcz20_2 : w18.cell? ⟨gb133,2,none⟩ = some (.float .f64 a0_2):=(blk_cell BK133.out 2).trans rfl;have hcz20_3 : w18.cell? ⟨gb133,3,none⟩ = some (.float .f64 a0_3):=(blk_cell BK133.out 3).trans rfl;have hcz20_4 : w18.cell? ⟨gb133,4,none⟩ = some (.float .f64 a0_4):=(blk_cell BK133.out 4).trans rfl;have hcz20_5 : w18.cell? ⟨gb133,5,none⟩ = some (.float .f64 a0_5):=(blk_cell BK133.out 5).trans rfl;have hcz20_6 : w18.cell? ⟨gb133,6,none⟩ = some (.float .f64 a0_6):=(blk_cell BK133.out 6).trans rfl;have hfz20_0:=blk_frozen BK133.out 0;have hfz20_1:=blk_frozen BK133.out 1;have hfz20_2:=blk_frozen BK133.out 2;have hfz20_3:=blk_frozen BK133.out 3;have hfz20_4:=blk_frozen BK133.out 4;have hfz20_5:=blk_frozen BK133.out 5;have hfz20_6:=blk_frozen BK133.out 6))
      go_ret
      exact ⟨by first|rfl|(rw [px_ne];rfl)|(simp [errW_none,errW_some] <;> rfl)|(simp [*,errW_none,errW_some] <;> rfl),by repeat (first|(with_reducible first|exact HB.out|apply below_alloc|apply pw_below_drewN|apply below_drew1|refine below_set ?_ GE133.out)|exact HB.out)⟩
    ·replace c11:=Bool.eq_false_iff.mpr c11
     subst c11
     have H1 : (some false) = some r:=by rw [if_neg (show ¬ (false = true) by decide)] at H;exact H
     clear H
     have H:=H1
     clear H1
     obtain rfl:=Option.some.inj H
     have hcz21_0 : wc.cell? ⟨gb133,0,none⟩ = some (.int .i64 a0_0):=(blk_cell BK133.out 0).trans rfl
     have hcz21_1 : wc.cell? ⟨gb133,1,none⟩ = some (.float .f64 a0_1):=(blk_cell BK133.out 1).trans rfl
     have hcz21_2 : wc.cell? ⟨gb133,2,none⟩ = some (.float .f64 a0_2):=(blk_cell BK133.out 2).trans rfl
     have hcz21_3 : wc.cell? ⟨gb133,3,none⟩ = some (.float .f64 a0_3):=(blk_cell BK133.out 3).trans rfl
     have hcz21_4 : wc.cell? ⟨gb133,4,none⟩ = some (.float .f64 a0_4):=(blk_cell BK133.out 4).trans rfl
     have hcz21_5 : wc.cell? ⟨gb133,5,none⟩ = some (.float .f64 a0_5):=(blk_cell BK133.out 5).trans rfl
     have hcz21_6 : wc.cell? ⟨gb133,6,none⟩ = some (.float .f64 a0_6):=(blk_cell BK133.out 6).trans rfl
     have hfz21_0:=blk_frozen BK133.out 0
     have hfz21_1:=blk_frozen BK133.out 1
     have hfz21_2:=blk_frozen BK133.out 2
     have hfz21_3:=blk_frozen BK133.out 3
     have hfz21_4:=blk_frozen BK133.out 4
     have hfz21_5:=blk_frozen BK133.out 5
     have hfz21_6:=blk_frozen BK133.out 6
     go_wp2_with (first|((with_reducible refine gate_callee (f:=71) rfl ?_);refine goesL_ (some 15) rfl rfl Try.func71 (by kernel_rfl) rfl #[.agg #[.int .i64 a0_0,.float .f64 a0_1,.float .f64 a0_2,.float .f64 a0_3,.float .f64 a0_4,.float .f64 a0_5,.float .f64 a0_6]] rfl (by (try simp only [List.map_toArray,List.map_cons,List.map_nil]);first|done|rfl|(simp only [List.length_drop,List.length_take];rfl)) ?_;(with_reducible refine (quarryref31_floats.calls a0_0 a0_1 a0_2 a0_3 a0_4 a0_5 a0_6 t134 _ A9.out).mono ?_);rintro e w22 ⟨v135,rfl,ho0,hb⟩;refine ⟨_,rfl,?_⟩;have n0_:=Aside0.mk (Kd.R_lower ho0 (below_size (by repeat (first|(with_reducible first|exact HB.out|apply below_alloc|apply pw_below_drewN|apply below_drew1|refine below_set ?_ GE133.out)|exact HB.out))));have n1_:=Aside0.mk (blk_below (g:=gb133) (o:=.cells #[.int .i64 a0_0,.float .f64 a0_1,.float .f64 a0_2,.float .f64 a0_3,.float .f64 a0_4,.float .f64 a0_5,.float .f64 a0_6] 26 (0,0)) (by (with_reducible repeat (first|refine blk_drewN ?_ _|refine blk_drew ?_|refine blk_alloc ?_ _));exact BK133.out) hb);have n2_:=Aside0.mk (below_step (by repeat (first|(with_reducible first|exact HB.out|apply below_alloc|apply pw_below_drewN|apply below_drew1|refine below_set ?_ GE133.out)|exact HB.out)) hb);clear BK133;clear HB;have HO136:=n0_;have BK133:=n1_;have HB:=n2_;clear n0_ n1_ n2_;(try clear hb);(try clear hb2);(try clear hk);(try clear hi);(try clear ho0);obtain ⟨Ao23,co23,eo23⟩:=Kd.R_slice HO136.out;subst eo23)|((with_reducible refine gate_callee (f:=41) rfl ?_);refine goesL_ (some 16) rfl rfl Try.func41 (by kernel_rfl) rfl #[.slice Ao23 t134.length co23] rfl (by (try simp only [List.map_toArray,List.map_cons,List.map_nil]);first|done|rfl|(simp only [List.length_drop,List.length_take];rfl)) ?_;(with_reducible refine (quarryref31_All.calls kj1 _ _ t134 false _ ?side1 ?side2 A10.out).mono ?_);(case side1=>repeat (first|exact (Kd.R_reads' HO136.out).2.2|(with_reducible refine Kd.C_alloc ?_ _)|(with_reducible refine Kd.C_drewN ?_ _)|(with_reducible refine Kd.C_drew ?_)));(case side2=>exact (Kd.R_reads' HO136.out).2.1);rintro e w' ⟨rfl,⟨nd,rfl⟩⟩;refine ⟨_,rfl,?_⟩))
     go_ret
     exact ⟨by first|rfl|(rw [px_ne];rfl)|(simp [errW_none,errW_some] <;> rfl)|(simp [*,errW_none,errW_some] <;> rfl),by repeat (first|(with_reducible first|exact HB.out|apply below_alloc|apply pw_below_drewN|apply below_drew1|refine below_set ?_ GE133.out)|exact HB.out)⟩
def quarryref31_size.f (a0 : Nat) : Option (Nat):=if (FloatKind.f64.format.order a0 0 == some .lt) = true then (some (Op.negFloat .f64 a0)) else (some a0)
set_option maxHeartbeats 8000000 in
set_option maxRecDepth 100000 in
theorem quarryref31_size.calls (a0 : Nat) (r : Nat) (w : World) (h : quarryref31_size.f a0 = some r) :
  Calls Try.prog 72 #[.float .f64 a0] w fun e w'=>e = .returned (.float .f64 r) ∧ Drawn0 w w':=by
 have H : (if (FloatKind.f64.format.order a0 0 == some .lt) = true then (some (Op.negFloat .f64 a0)) else (some a0)) = some r:=h
 clear h
 by_cases c2 : (FloatKind.f64.format.order a0 0 == some .lt) = true
 ·rw [if_pos c2] at H
  have c2b0 : (FloatKind.f64.format.order a0 0 == some .lt) = true:=c2
  (try (have c2b1 : decide (FloatKind.f64.format.order a0 0 = some .lt) = true:=by simpa using c2))
  (try (have c2b2 : (FloatKind.f64.format.order a0 0 == some .lt) = true:=by simpa using c2))
  clear c2
  obtain rfl:=Option.some.inj H
  go_enter Try.func72,Try.ntmps72
  go_wp2
  go_ret
  exact ⟨by first|rfl|(simp;done)|(simp [*];done),by repeat (first|exact Drawn0.refl _|apply Drawn0.step)⟩
 ·rw [if_neg c2] at H
  have c2b0 : (FloatKind.f64.format.order a0 0 == some .lt) = false:=by simpa using c2
  (try (have c2b1 : decide (FloatKind.f64.format.order a0 0 = some .lt) = false:=by simpa using c2))
  (try (have c2b2 : (FloatKind.f64.format.order a0 0 == some .lt) = false:=by simpa using c2))
  (try (have c2b3 : ¬ (FloatKind.f64.format.order a0 0 = some .lt):=by simpa using c2))
  clear c2
  obtain rfl:=Option.some.inj H
  go_enter Try.func72,Try.ntmps72
  go_wp2
  go_ret
  exact ⟨by first|rfl|(simp;done)|(simp [*];done),by repeat (first|exact Drawn0.refl _|apply Drawn0.step)⟩
def quarryref31_lost.f (a0 : Nat) (a1 : Nat) (a2 : Nat) : Option (Nat):=(quarryref31_size.f a0).bind fun t138=>((quarryref31_size.f a1).bind fun t139=>(if (FloatKind.f64.format.order t138 t139 == some .lt) = true then (if fok .sub a1 a2 = true then (if fok .add (fop .sub a1 a2) a0 = true then (some (fop .add (fop .sub a1 a2) a0)) else (none)) else (none)) else (if fok .sub a0 a2 = true then (if fok .add (fop .sub a0 a2) a1 = true then (some (fop .add (fop .sub a0 a2) a1)) else (none)) else (none))))
set_option maxHeartbeats 8000000 in
set_option maxRecDepth 100000 in
theorem quarryref31_lost.calls (a0 : Nat) (a1 : Nat) (a2 : Nat) (r : Nat) (w : World) (h : quarryref31_lost.f a0 a1 a2 = some r) :
  Calls Try.prog 47 #[.float .f64 a0,.float .f64 a1,.float .f64 a2] w fun e w'=>e = .returned (.float .f64 r) ∧ Drawn0 w w':=by
 have H : ((quarryref31_size.f a0).bind fun t138=>((quarryref31_size.f a1).bind fun t139=>(if (FloatKind.f64.format.order t138 t139 == some .lt) = true then (if fok .sub a1 a2 = true then (if fok .add (fop .sub a1 a2) a0 = true then (some (fop .add (fop .sub a1 a2) a0)) else (none)) else (none)) else (if fok .sub a0 a2 = true then (if fok .add (fop .sub a0 a2) a1 = true then (some (fop .add (fop .sub a0 a2) a1)) else (none)) else (none))))) = some r:=h
 clear h
 replace H:=Option.bind_eq_some_iff.mp H
 obtain ⟨t138,A40,H⟩:=H
 replace H : ((quarryref31_size.f a1).bind fun t139=>(if (FloatKind.f64.format.order t138 t139 == some .lt) = true then (if fok .sub a1 a2 = true then (if fok .add (fop .sub a1 a2) a0 = true then (some (fop .add (fop .sub a1 a2) a0)) else (none)) else (none)) else (if fok .sub a0 a2 = true then (if fok .add (fop .sub a0 a2) a1 = true then (some (fop .add (fop .sub a0 a2) a1)) else (none)) else (none)))) = some r:=H
 have A4:=Aside0.mk A40
 clear A40
 replace H:=Option.bind_eq_some_iff.mp H
 obtain ⟨t139,A50,H⟩:=H
 replace H : (if (FloatKind.f64.format.order t138 t139 == some .lt) = true then (if fok .sub a1 a2 = true then (if fok .add (fop .sub a1 a2) a0 = true then (some (fop .add (fop .sub a1 a2) a0)) else (none)) else (none)) else (if fok .sub a0 a2 = true then (if fok .add (fop .sub a0 a2) a1 = true then (some (fop .add (fop .sub a0 a2) a1)) else (none)) else (none))) = some r:=H
 have A5:=Aside0.mk A50
 clear A50
 by_cases c6 : (FloatKind.f64.format.order t138 t139 == some .lt) = true
 ·rw [if_pos c6] at H
  have c6b0 : (FloatKind.f64.format.order t138 t139 == some .lt) = true:=c6
  (try (have c6b1 : decide (FloatKind.f64.format.order t138 t139 = some .lt) = true:=by simpa using c6))
  (try (have c6b2 : (FloatKind.f64.format.order t138 t139 == some .lt) = true:=by simpa using c6))
  clear c6
  by_cases c7 : fok .sub a1 a2 = true
  ·rw [if_pos c7] at H
   have c7b0:=eq_true c7
   have c7b1 : decide (fok .sub a1 a2 = true) = true:=decide_eq_true c7
   clear c7
   by_cases c8 : fok .add (fop .sub a1 a2) a0 = true
   ·rw [if_pos c8] at H
    have c8b0:=eq_true c8
    have c8b1 : decide (fok .add (fop .sub a1 a2) a0 = true) = true:=decide_eq_true c8
    clear c8
    obtain rfl:=Option.some.inj H
    go_enter Try.func47,Try.ntmps47
    go_wp2_with (first|((with_reducible refine gate_callee (f:=72) rfl ?_);refine goesL_ (some 10) rfl rfl Try.func72 (by kernel_rfl) rfl #[.float .f64 a0] rfl (by (try simp only [List.map_toArray,List.map_cons,List.map_nil]);first|done|rfl|(simp only [List.length_drop,List.length_take];rfl)) ?_;(with_reducible refine (quarryref31_size.calls a0 t138 _ A4.out).mono ?_);rintro e w' ⟨rfl,⟨nd,rfl⟩⟩;refine ⟨_,rfl,?_⟩)|((with_reducible refine gate_callee (f:=72) rfl ?_);refine goesL_ (some 12) rfl rfl Try.func72 (by kernel_rfl) rfl #[.float .f64 a1] rfl (by (try simp only [List.map_toArray,List.map_cons,List.map_nil]);first|done|rfl|(simp only [List.length_drop,List.length_take];rfl)) ?_;(with_reducible refine (quarryref31_size.calls a1 t139 _ A5.out).mono ?_);rintro e w' ⟨rfl,⟨nd,rfl⟩⟩;refine ⟨_,rfl,?_⟩))
    go_ret
    exact ⟨by first|rfl|(simp;done)|(simp [*];done),by repeat (first|exact Drawn0.refl _|apply Drawn0.step)⟩
   ·rw [if_neg c8] at H
    exact absurd H (by simp)
  ·rw [if_neg c7] at H
   exact absurd H (by simp)
 ·rw [if_neg c6] at H
  have c6b0 : (FloatKind.f64.format.order t138 t139 == some .lt) = false:=by simpa using c6
  (try (have c6b1 : decide (FloatKind.f64.format.order t138 t139 = some .lt) = false:=by simpa using c6))
  (try (have c6b2 : (FloatKind.f64.format.order t138 t139 == some .lt) = false:=by simpa using c6))
  (try (have c6b3 : ¬ (FloatKind.f64.format.order t138 t139 = some .lt):=by simpa using c6))
  clear c6
  by_cases c9 : fok .sub a0 a2 = true
  ·rw [if_pos c9] at H
   have c9b0:=eq_true c9
   have c9b1 : decide (fok .sub a0 a2 = true) = true:=decide_eq_true c9
   clear c9
   by_cases c10 : fok .add (fop .sub a0 a2) a1 = true
   ·rw [if_pos c10] at H
    have c10b0:=eq_true c10
    have c10b1 : decide (fok .add (fop .sub a0 a2) a1 = true) = true:=decide_eq_true c10
    clear c10
    obtain rfl:=Option.some.inj H
    go_enter Try.func47,Try.ntmps47
    go_wp2_with (first|((with_reducible refine gate_callee (f:=72) rfl ?_);refine goesL_ (some 10) rfl rfl Try.func72 (by kernel_rfl) rfl #[.float .f64 a0] rfl (by (try simp only [List.map_toArray,List.map_cons,List.map_nil]);first|done|rfl|(simp only [List.length_drop,List.length_take];rfl)) ?_;(with_reducible refine (quarryref31_size.calls a0 t138 _ A4.out).mono ?_);rintro e w' ⟨rfl,⟨nd,rfl⟩⟩;refine ⟨_,rfl,?_⟩)|((with_reducible refine gate_callee (f:=72) rfl ?_);refine goesL_ (some 12) rfl rfl Try.func72 (by kernel_rfl) rfl #[.float .f64 a1] rfl (by (try simp only [List.map_toArray,List.map_cons,List.map_nil]);first|done|rfl|(simp only [List.length_drop,List.length_take];rfl)) ?_;(with_reducible refine (quarryref31_size.calls a1 t139 _ A5.out).mono ?_);rintro e w' ⟨rfl,⟨nd,rfl⟩⟩;refine ⟨_,rfl,?_⟩))
    go_ret
    exact ⟨by first|rfl|(simp;done)|(simp [*];done),by repeat (first|exact Drawn0.refl _|apply Drawn0.step)⟩
   ·rw [if_neg c10] at H
    exact absurd H (by simp)
  ·rw [if_neg c9] at H
   exact absurd H (by simp)
def quarryref31_told.f (k : Nat) (a0_0 : Int) (a0_1 : Nat) (a0_2 : Nat) (a0_3 : Nat) (a0_4 : Nat) (a0_5 : Nat) (a0_6 : Nat) : Option (Int × Nat × Nat × Nat × Nat × Nat × Nat × Int):=if a0_0 > 4611686018427387904 then (some (0,0,0,0,0,0,0,121)) else ((quarryref31_floats.f a0_0 a0_1 a0_2 a0_3 a0_4 a0_5 a0_6).bind fun t142=>((quarryref31_All.f k t142).bind fun t145=>(if t145 = true then (some (a0_0,a0_1,a0_2,a0_3,a0_4,a0_5,a0_6,0)) else (some (0,0,0,0,0,0,0,121)))))
set_option maxHeartbeats 8000000 in
set_option maxRecDepth 100000 in
theorem quarryref31_told.calls (k : Nat) (a0_0 : Int) (a0_1 : Nat) (a0_2 : Nat) (a0_3 : Nat) (a0_4 : Nat) (a0_5 : Nat) (a0_6 : Nat) (r1 : Int) (r2 : Nat) (r3 : Nat) (r4 : Nat) (r5 : Nat) (r6 : Nat) (r7 : Nat) (r8 : Int) (w : World) (h : quarryref31_told.f k a0_0 a0_1 a0_2 a0_3 a0_4 a0_5 a0_6 = some (r1,r2,r3,r4,r5,r6,r7,r8)) :
  Calls Try.prog 48 #[.agg #[.int .i64 a0_0,.float .f64 a0_1,.float .f64 a0_2,.float .f64 a0_3,.float .f64 a0_4,.float .f64 a0_5,.float .f64 a0_6]] w fun e w'=>e = .returned (.tuple #[.agg #[.int .i64 r1,.float .f64 r2,.float .f64 r3,.float .f64 r4,.float .f64 r5,.float .f64 r6,.float .f64 r7],.int .i64 r8]) ∧ Below w.heap.size w w':=by
 have hu26:=Try.underlying26
 have HB:=Aside0.mk (Below.refl w.heap.size w)
 have H : (if a0_0 > 4611686018427387904 then (some (0,0,0,0,0,0,0,121)) else ((quarryref31_floats.f a0_0 a0_1 a0_2 a0_3 a0_4 a0_5 a0_6).bind fun t142=>((quarryref31_All.f k t142).bind fun t145=>(if t145 = true then (some (a0_0,a0_1,a0_2,a0_3,a0_4,a0_5,a0_6,0)) else (some (0,0,0,0,0,0,0,121)))))) = some (r1,r2,r3,r4,r5,r6,r7,r8):=h
 clear h
 by_cases c2 : a0_0 > 4611686018427387904
 ·rw [if_pos c2] at H
  have c2b0 : decide (4611686018427387904 < a0_0) = true:=decide_eq_true c2
  clear c2
  simp only [Option.some.injEq,Prod.mk.injEq] at H
  obtain ⟨rfl,rfl,rfl,rfl,rfl,rfl,rfl,rfl⟩:=H
  go_enter Try.func48,Try.ntmps48
  go_wp2_with (first|((with_reducible refine gate_dst (N:=1) rfl ?_);refine box_event ?hg (N:=1) ?hd (cs:=#[.int .i64 a0_0,.float .f64 a0_1,.float .f64 a0_2,.float .f64 a0_3,.float .f64 a0_4,.float .f64 a0_5,.float .f64 a0_6]) (t:=26) ?hr ?_;(case hd=>rfl);(case hg=>rfl);(case hr=>first|(go_simp;done)|(go_simp;rfl));intro gb140 hg w3 hbox hb;have n0_:=Aside0.mk (below_step (by repeat (first|(with_reducible first|exact HB.out|apply below_alloc|apply pw_below_drewN|apply below_drew1)|exact HB.out)) hb);have n1_:=Aside0.mk (hbox);have n2_:=Aside0.mk ((by rw [hg];exact (below_size (by repeat (first|(with_reducible first|exact HB.out|apply below_alloc|apply pw_below_drewN|apply below_drew1)|exact HB.out))) : w.heap.size ≤ gb140));have n3_:=Aside0.mk ((by rw [hg];exact (below_size (by repeat (first|(with_reducible first|exact HB.out|apply below_alloc|apply pw_below_drewN|apply below_drew1)|exact HB.out))) : w.heap.size ≤ gb140));clear HB;have HB:=n0_;have BK140:=n1_;have GW140:=n2_;have GE140:=n3_;clear n0_ n1_ n2_ n3_;clear hb hbox hg)|((with_reducible refine gate_dst (N:=2) rfl ?_);refine box_event ?hg (N:=2) ?hd (cs:=#[.int .i64 0,.float .f64 0,.float .f64 0,.float .f64 0,.float .f64 0,.float .f64 0,.float .f64 0]) (t:=26) ?hr ?_;(case hd=>rfl);(case hg=>rfl);(case hr=>first|(go_simp;done)|(go_simp;rfl));intro gb141 hg w4 hbox hb;have n0_:=Aside0.mk (blk_below (g:=gb140) (o:=.cells #[.int .i64 a0_0,.float .f64 a0_1,.float .f64 a0_2,.float .f64 a0_3,.float .f64 a0_4,.float .f64 a0_5,.float .f64 a0_6] 26 (0,0)) (by (with_reducible repeat (first|refine blk_drewN ?_ _|refine blk_drew ?_|refine blk_alloc ?_ _));exact BK140.out) hb);have n1_:=Aside0.mk (below_step (by repeat (first|(with_reducible first|exact HB.out|apply below_alloc|apply pw_below_drewN|apply below_drew1|refine below_set ?_ GE140.out)|exact HB.out)) hb);have n2_:=Aside0.mk (hbox);have n3_:=Aside0.mk ((by rw [hg];exact (below_size (by repeat (first|(with_reducible first|exact HB.out|apply below_alloc|apply pw_below_drewN|apply below_drew1|refine below_set ?_ GE140.out)|exact HB.out))) : w.heap.size ≤ gb141));have n4_:=Aside0.mk ((by rw [hg];exact (below_size (by repeat (first|(with_reducible first|exact HB.out|apply below_alloc|apply pw_below_drewN|apply below_drew1|refine below_set ?_ GE140.out)|exact HB.out))) : w.heap.size ≤ gb141));have n5_:=Aside0.mk ((by rw [hg];exact Nat.ne_of_lt (blk_lt (g:=gb140) (o:=.cells #[.int .i64 a0_0,.float .f64 a0_1,.float .f64 a0_2,.float .f64 a0_3,.float .f64 a0_4,.float .f64 a0_5,.float .f64 a0_6] 26 (0,0)) (by (with_reducible repeat (first|refine blk_drewN ?_ _|refine blk_drew ?_|refine blk_alloc ?_ _));exact BK140.out)) : gb140 ≠ gb141));have n6_:=Aside0.mk ((by rw [hg];exact Nat.ne_of_gt (blk_lt (g:=gb140) (o:=.cells #[.int .i64 a0_0,.float .f64 a0_1,.float .f64 a0_2,.float .f64 a0_3,.float .f64 a0_4,.float .f64 a0_5,.float .f64 a0_6] 26 (0,0)) (by (with_reducible repeat (first|refine blk_drewN ?_ _|refine blk_drew ?_|refine blk_alloc ?_ _));exact BK140.out)) : gb141 ≠ gb140));clear BK140;clear HB;have BK140:=n0_;have HB:=n1_;have BK141:=n2_;have GW141:=n3_;have GE141:=n4_;have NB140_141:=n5_;have NB141_140:=n6_;clear n0_ n1_ n2_ n3_ n4_ n5_ n6_;clear hb hbox hg;have hnb5:=NB140_141.out;have hnc5:=NB141_140.out;have hcz6_0 : w4.cell? ⟨gb140,0,none⟩ = some (.int .i64 a0_0):=(blk_cell BK140.out 0).trans rfl;have hcz6_1 : w4.cell? ⟨gb140,1,none⟩ = some (.float .f64 a0_1):=(blk_cell BK140.out 1).trans rfl;have hcz6_2 : w4.cell? ⟨gb140,2,none⟩ = some (.float .f64 a0_2):=(blk_cell BK140.out 2).trans rfl;have hcz6_3 : w4.cell? ⟨gb140,3,none⟩ = some (.float .f64 a0_3):=(blk_cell BK140.out 3).trans rfl;have hcz6_4 : w4.cell? ⟨gb140,4,none⟩ = some (.float .f64 a0_4):=(blk_cell BK140.out 4).trans rfl;have hcz6_5 : w4.cell? ⟨gb140,5,none⟩ = some (.float .f64 a0_5):=(blk_cell BK140.out 5).trans rfl;have hcz6_6 : w4.cell? ⟨gb140,6,none⟩ = some (.float .f64 a0_6):=(blk_cell BK140.out 6).trans rfl;have hfz6_0:=blk_frozen BK140.out 0;have hfz6_1:=blk_frozen BK140.out 1;have hfz6_2:=blk_frozen BK140.out 2;have hfz6_3:=blk_frozen BK140.out 3;have hfz6_4:=blk_frozen BK140.out 4;have hfz6_5:=blk_frozen BK140.out 5;have hfz6_6:=blk_frozen BK140.out 6;have hcz7_0 : w4.cell? ⟨gb141,0,none⟩ = some (.int .i64 0):=(blk_cell BK141.out 0).trans rfl;have hcz7_1 : w4.cell? ⟨gb141,1,none⟩ = some (.float .f64 0):=(blk_cell BK141.out 1).trans rfl;have hcz7_2 : w4.cell? ⟨gb141,2,none⟩ = some (.float .f64 0):=(blk_cell BK141.out 2).trans rfl;have hcz7_3 : w4.cell? ⟨gb141,3,none⟩ = some (.float .f64 0):=(blk_cell BK141.out 3).trans rfl;have hcz7_4 : w4.cell? ⟨gb141,4,none⟩ = some (.float .f64 0):=(blk_cell BK141.out 4).trans rfl;have hcz7_5 : w4.cell? ⟨gb141,5,none⟩ = some (.float .f64 0):=(blk_cell BK141.out 5).trans rfl;have hcz7_6 : w4.cell? ⟨gb141,6,none⟩ = some (.float .f64 0):=(blk_cell BK141.out 6).trans rfl;have hfz7_0:=blk_frozen BK141.out 0;have hfz7_1:=blk_frozen BK141.out 1;have hfz7_2:=blk_frozen BK141.out 2;have hfz7_3:=blk_frozen BK141.out 3;have hfz7_4:=blk_frozen BK141.out 4;have hfz7_5:=blk_frozen BK141.out 5;have hfz7_6:=blk_frozen BK141.out 6))
  refine bodyPost_ret (results_ct rfl _ _ gb141 26 #[.int .i64 0,.float .f64 0,.float .f64 0,.float .f64 0,.float .f64 0,.float .f64 0,.float .f64 0] (0,0) _ rfl (by (with_reducible repeat (first|refine blk_drewN ?_ _|refine blk_drew ?_|refine blk_alloc ?_ _));refine blk_put (cs:=#[.int .i64 0,.float .f64 0,.float .f64 0,.float .f64 0,.float .f64 0,.float .f64 0,.float .f64 0]) ?_ 6 _ (by first|rfl|(simp only [px_pos,px_ne];rfl)|simp [px_pos,px_ne]);(with_reducible repeat (first|refine blk_drewN ?_ _|refine blk_drew ?_|refine blk_alloc ?_ _));refine blk_put (cs:=#[.int .i64 0,.float .f64 0,.float .f64 0,.float .f64 0,.float .f64 0,.float .f64 0,.float .f64 0]) ?_ 5 _ (by first|rfl|(simp only [px_pos,px_ne];rfl)|simp [px_pos,px_ne]);(with_reducible repeat (first|refine blk_drewN ?_ _|refine blk_drew ?_|refine blk_alloc ?_ _));refine blk_put (cs:=#[.int .i64 0,.float .f64 0,.float .f64 0,.float .f64 0,.float .f64 0,.float .f64 0,.float .f64 0]) ?_ 4 _ (by first|rfl|(simp only [px_pos,px_ne];rfl)|simp [px_pos,px_ne]);(with_reducible repeat (first|refine blk_drewN ?_ _|refine blk_drew ?_|refine blk_alloc ?_ _));refine blk_put (cs:=#[.int .i64 0,.float .f64 0,.float .f64 0,.float .f64 0,.float .f64 0,.float .f64 0,.float .f64 0]) ?_ 3 _ (by first|rfl|(simp only [px_pos,px_ne];rfl)|simp [px_pos,px_ne]);(with_reducible repeat (first|refine blk_drewN ?_ _|refine blk_drew ?_|refine blk_alloc ?_ _));refine blk_put (cs:=#[.int .i64 0,.float .f64 0,.float .f64 0,.float .f64 0,.float .f64 0,.float .f64 0,.float .f64 0]) ?_ 2 _ (by first|rfl|(simp only [px_pos,px_ne];rfl)|simp [px_pos,px_ne]);(with_reducible repeat (first|refine blk_drewN ?_ _|refine blk_drew ?_|refine blk_alloc ?_ _));refine blk_put (cs:=#[.int .i64 0,.float .f64 0,.float .f64 0,.float .f64 0,.float .f64 0,.float .f64 0,.float .f64 0]) ?_ 1 _ (by first|rfl|(simp only [px_pos,px_ne];rfl)|simp [px_pos,px_ne]);(with_reducible repeat (first|refine blk_drewN ?_ _|refine blk_drew ?_|refine blk_alloc ?_ _));refine blk_put (cs:=#[.int .i64 0,.float .f64 0,.float .f64 0,.float .f64 0,.float .f64 0,.float .f64 0,.float .f64 0]) ?_ 0 _ (by first|rfl|(simp only [px_pos,px_ne];rfl)|simp [px_pos,px_ne]);(with_reducible repeat (first|refine blk_drewN ?_ _|refine blk_drew ?_|refine blk_alloc ?_ _));exact BK141.out) Try.underlying26 rfl (by kernel_rfl)) rfl ?_
  exact ⟨by first|rfl|(rw [px_ne];rfl)|(simp [errW_none,errW_some] <;> rfl)|(simp [*,errW_none,errW_some] <;> rfl),by repeat (first|(with_reducible first|exact HB.out|apply below_alloc|apply pw_below_drewN|apply below_drew1|refine below_set ?_ GE140.out|refine below_set ?_ GE141.out)|exact HB.out)⟩
 ·rw [if_neg c2] at H
  have c2b0 : decide (4611686018427387904 < a0_0) = false:=decide_eq_false c2
  clear c2
  replace H:=Option.bind_eq_some_iff.mp H
  obtain ⟨t142,A80,H⟩:=H
  replace H : ((quarryref31_All.f k t142).bind fun t145=>(if t145 = true then (some (a0_0,a0_1,a0_2,a0_3,a0_4,a0_5,a0_6,0)) else (some (0,0,0,0,0,0,0,121)))) = some (r1,r2,r3,r4,r5,r6,r7,r8):=H
  have A8:=Aside0.mk A80
  clear A80
  replace H:=Option.bind_eq_some_iff.mp H
  obtain ⟨t145,A90,H⟩:=H
  replace H : (if t145 = true then (some (a0_0,a0_1,a0_2,a0_3,a0_4,a0_5,a0_6,0)) else (some (0,0,0,0,0,0,0,121))) = some (r1,r2,r3,r4,r5,r6,r7,r8):=H
  have A9:=Aside0.mk A90
  clear A90
  by_cases c10 : t145 = true
  ·subst c10
   have H1 : (some (a0_0,a0_1,a0_2,a0_3,a0_4,a0_5,a0_6,0)) = some (r1,r2,r3,r4,r5,r6,r7,r8):=by rw [if_pos rfl] at H;exact H
   clear H
   have H:=H1
   clear H1
   simp only [Option.some.injEq,Prod.mk.injEq] at H
   obtain ⟨rfl,rfl,rfl,rfl,rfl,rfl,rfl,rfl⟩:=H
   go_enter Try.func48,Try.ntmps48
   go_wp2_with (first|((with_reducible refine gate_dst (N:=1) rfl ?_);refine box_event ?hg (N:=1) ?hd (cs:=#[.int .i64 a0_0,.float .f64 a0_1,.float .f64 a0_2,.float .f64 a0_3,.float .f64 a0_4,.float .f64 a0_5,.float .f64 a0_6]) (t:=26) ?hr ?_;(case hd=>rfl);(case hg=>rfl);(case hr=>first|(go_simp;done)|(go_simp;rfl));intro gb140 hg w11 hbox hb;have n0_:=Aside0.mk (below_step (by repeat (first|(with_reducible first|exact HB.out|apply below_alloc|apply pw_below_drewN|apply below_drew1)|exact HB.out)) hb);have n1_:=Aside0.mk (hbox);have n2_:=Aside0.mk ((by rw [hg];exact (below_size (by repeat (first|(with_reducible first|exact HB.out|apply below_alloc|apply pw_below_drewN|apply below_drew1)|exact HB.out))) : w.heap.size ≤ gb140));have n3_:=Aside0.mk ((by rw [hg];exact (below_size (by repeat (first|(with_reducible first|exact HB.out|apply below_alloc|apply pw_below_drewN|apply below_drew1)|exact HB.out))) : w.heap.size ≤ gb140));clear HB;have HB:=n0_;have BK140:=n1_;have GW140:=n2_;have GE140:=n3_;clear n0_ n1_ n2_ n3_;clear hb hbox hg)|((with_reducible refine gate_dst (N:=2) rfl ?_);refine box_event ?hg (N:=2) ?hd (cs:=#[.int .i64 0,.float .f64 0,.float .f64 0,.float .f64 0,.float .f64 0,.float .f64 0,.float .f64 0]) (t:=26) ?hr ?_;(case hd=>rfl);(case hg=>rfl);(case hr=>first|(go_simp;done)|(go_simp;rfl));intro gb141 hg w12 hbox hb;have n0_:=Aside0.mk (blk_below (g:=gb140) (o:=.cells #[.int .i64 a0_0,.float .f64 a0_1,.float .f64 a0_2,.float .f64 a0_3,.float .f64 a0_4,.float .f64 a0_5,.float .f64 a0_6] 26 (0,0)) (by (with_reducible repeat (first|refine blk_drewN ?_ _|refine blk_drew ?_|refine blk_alloc ?_ _));exact BK140.out) hb);have n1_:=Aside0.mk (below_step (by repeat (first|(with_reducible first|exact HB.out|apply below_alloc|apply pw_below_drewN|apply below_drew1|refine below_set ?_ GE140.out)|exact HB.out)) hb);have n2_:=Aside0.mk (hbox);have n3_:=Aside0.mk ((by rw [hg];exact (below_size (by repeat (first|(with_reducible first|exact HB.out|apply below_alloc|apply pw_below_drewN|apply below_drew1|refine below_set ?_ GE140.out)|exact HB.out))) : w.heap.size ≤ gb141));have n4_:=Aside0.mk ((by rw [hg];exact (below_size (by repeat (first|(with_reducible first|exact HB.out|apply below_alloc|apply pw_below_drewN|apply below_drew1|refine below_set ?_ GE140.out)|exact HB.out))) : w.heap.size ≤ gb141));have n5_:=Aside0.mk ((by rw [hg];exact Nat.ne_of_lt (blk_lt (g:=gb140) (o:=.cells #[.int .i64 a0_0,.float .f64 a0_1,.float .f64 a0_2,.float .f64 a0_3,.float .f64 a0_4,.float .f64 a0_5,.float .f64 a0_6] 26 (0,0)) (by (with_reducible repeat (first|refine blk_drewN ?_ _|refine blk_drew ?_|refine blk_alloc ?_ _));exact BK140.out)) : gb140 ≠ gb141));have n6_:=Aside0.mk ((by rw [hg];exact Nat.ne_of_gt (blk_lt (g:=gb140) (o:=.cells #[.int .i64 a0_0,.float .f64 a0_1,.float .f64 a0_2,.float .f64 a0_3,.float .f64 a0_4,.float .f64 a0_5,.float .f64 a0_6] 26 (0,0)) (by (with_reducible repeat (first|refine blk_drewN ?_ _|refine blk_drew ?_|refine blk_alloc ?_ _));exact BK140.out)) : gb141 ≠ gb140));clear BK140;clear HB;have BK140:=n0_;have HB:=n1_;have BK141:=n2_;have GW141:=n3_;have GE141:=n4_;have NB140_141:=n5_;have NB141_140:=n6_;clear n0_ n1_ n2_ n3_ n4_ n5_ n6_;clear hb hbox hg;have hnb13:=NB140_141.out;have hnc13:=NB141_140.out;have hcz14_0 : w12.cell? ⟨gb140,0,none⟩ = some (.int .i64 a0_0):=(blk_cell BK140.out 0).trans rfl;have hcz14_1 : w12.cell? ⟨gb140,1,none⟩ = some (.float .f64 a0_1):=(blk_cell BK140.out 1).trans rfl;have hcz14_2 : w12.cell? ⟨gb140,2,none⟩ = some (.float .f64 a0_2):=(blk_cell BK140.out 2).trans rfl;have hcz14_3 : w12.cell? ⟨gb140,3,none⟩ = some (.float .f64 a0_3):=(blk_cell BK140.out 3).trans rfl;have hcz14_4 : w12.cell? ⟨gb140,4,none⟩ = some (.float .f64 a0_4):=(blk_cell BK140.out 4).trans rfl;have hcz14_5 : w12.cell? ⟨gb140,5,none⟩ = some (.float .f64 a0_5):=(blk_cell BK140.out 5).trans rfl;have hcz14_6 : w12.cell? ⟨gb140,6,none⟩ = some (.float .f64 a0_6):=(blk_cell BK140.out 6).trans rfl;have hfz14_0:=blk_frozen BK140.out 0;have hfz14_1:=blk_frozen BK140.out 1;have hfz14_2:=blk_frozen BK140.out 2;have hfz14_3:=blk_frozen BK140.out 3;have hfz14_4:=blk_frozen BK140.out 4;have hfz14_5:=blk_frozen BK140.out 5;have hfz14_6:=blk_frozen BK140.out 6)|(go_at_call 71;(with_reducible refine (quarryref31_floats.calls a0_0 a0_1 a0_2 a0_3 a0_4 a0_5 a0_6 t142 _ A8.out).mono ?_);rintro e w15 ⟨v143,rfl,ho0,hb⟩;have n0_:=Aside0.mk (Kd.R_lower ho0 (below_size (by repeat (first|(with_reducible first|exact HB.out|apply below_alloc|apply pw_below_drewN|apply below_drew1|refine below_set ?_ GE140.out|refine below_set ?_ GE141.out)|exact HB.out))));have n1_:=Aside0.mk (blk_below (g:=gb140) (o:=.cells #[.int .i64 a0_0,.float .f64 a0_1,.float .f64 a0_2,.float .f64 a0_3,.float .f64 a0_4,.float .f64 a0_5,.float .f64 a0_6] 26 (0,0)) (by (with_reducible repeat (first|refine blk_drewN ?_ _|refine blk_drew ?_|refine blk_alloc ?_ _));exact BK140.out) hb);have n2_:=Aside0.mk (blk_below (g:=gb141) (o:=.cells #[.int .i64 0,.float .f64 0,.float .f64 0,.float .f64 0,.float .f64 0,.float .f64 0,.float .f64 0] 26 (0,0)) (by (with_reducible repeat (first|refine blk_drewN ?_ _|refine blk_drew ?_|refine blk_alloc ?_ _));exact BK141.out) hb);have n3_:=Aside0.mk (below_step (by repeat (first|(with_reducible first|exact HB.out|apply below_alloc|apply pw_below_drewN|apply below_drew1|refine below_set ?_ GE140.out|refine below_set ?_ GE141.out)|exact HB.out)) hb);clear BK140;clear BK141;clear HB;have HO144:=n0_;have BK140:=n1_;have BK141:=n2_;have HB:=n3_;clear n0_ n1_ n2_ n3_;(try clear hb);(try clear hb2);(try clear hk);(try clear hi);(try clear ho0);obtain ⟨Ao16,co16,eo16⟩:=Kd.R_slice HO144.out;subst eo16)|(go_at_call 41;(with_reducible refine (quarryref31_All.calls k _ _ t142 true _ ?side1 ?side2 A9.out).mono ?_);(case side1=>repeat (first|exact (Kd.R_reads' HO144.out).2.2|(with_reducible refine Kd.C_alloc ?_ _)|(with_reducible refine Kd.C_drewN ?_ _)|(with_reducible refine Kd.C_drew ?_)));(case side2=>exact (Kd.R_reads' HO144.out).2.1);rintro e w' ⟨rfl,⟨nd,rfl⟩⟩;have hcz17_0 : w15.cell? ⟨gb140,0,none⟩ = some (.int .i64 a0_0):=(blk_cell BK140.out 0).trans rfl;have hcz17_1 : w15.cell? ⟨gb140,1,none⟩ = some (.float .f64 a0_1):=(blk_cell BK140.out 1).trans rfl;have hcz17_2 : w15.cell? ⟨gb140,2,none⟩ = some (.float .f64 a0_2):=(blk_cell BK140.out 2).trans rfl;have hcz17_3 : w15.cell? ⟨gb140,3,none⟩ = some (.float .f64 a0_3):=(blk_cell BK140.out 3).trans rfl;have hcz17_4 : w15.cell? ⟨gb140,4,none⟩ = some (.float .f64 a0_4):=(blk_cell BK140.out 4).trans rfl;have hcz17_5 : w15.cell? ⟨gb140,5,none⟩ = some (.float .f64 a0_5):=(blk_cell BK140.out 5).trans rfl;have hcz17_6 : w15.cell? ⟨gb140,6,none⟩ = some (.float .f64 a0_6):=(blk_cell BK140.out 6).trans rfl;have hfz17_0:=blk_frozen BK140.out 0;have hfz17_1:=blk_frozen BK140.out 1;have hfz17_2:=blk_frozen BK140.out 2;have hfz17_3:=blk_frozen BK140.out 3;have hfz17_4:=blk_frozen BK140.out 4;have hfz17_5:=blk_frozen BK140.out 5;have hfz17_6:=blk_frozen BK140.out 6;have hcz18_0 : w15.cell? ⟨gb141,0,none⟩ = some (.int .i64 0):=(blk_cell BK141.out 0).trans rfl;have hcz18_1 : w15.cell? ⟨gb141,1,none⟩ = some (.float .f64 0):=(blk_cell BK141.out 1).trans rfl;have hcz18_2 : w15.cell? ⟨gb141,2,none⟩ = some (.float .f64 0):=(blk_cell BK141.out 2).trans rfl;have hcz18_3 : w15.cell? ⟨gb141,3,none⟩ = some (.float .f64 0):=(blk_cell BK141.out 3).trans rfl;have hcz18_4 : w15.cell? ⟨gb141,4,none⟩ = some (.float .f64 0):=(blk_cell BK141.out 4).trans rfl;have hcz18_5 : w15.cell? ⟨gb141,5,none⟩ = some (.float .f64 0):=(blk_cell BK141.out 5).trans rfl;have hcz18_6 : w15.cell? ⟨gb141,6,none⟩ = some (.float .f64 0):=(blk_cell BK141.out 6).trans rfl;have hfz18_0:=blk_frozen BK141.out 0;have hfz18_1:=blk_frozen BK141.out 1;have hfz18_2:=blk_frozen BK141.out 2;have hfz18_3:=blk_frozen BK141.out 3;have hfz18_4:=blk_frozen BK141.out 4;have hfz18_5:=blk_frozen BK141.out 5;have hfz18_6:=blk_frozen BK141.out 6))
   refine bodyPost_ret (results_ct rfl _ _ gb141 26 #[.int .i64 a0_0,.float .f64 a0_1,.float .f64 a0_2,.float .f64 a0_3,.float .f64 a0_4,.float .f64 a0_5,.float .f64 a0_6] (0,0) _ rfl (by (with_reducible repeat (first|refine blk_drewN ?_ _|refine blk_drew ?_|refine blk_alloc ?_ _));refine blk_put (cs:=#[.int .i64 a0_0,.float .f64 a0_1,.float .f64 a0_2,.float .f64 a0_3,.float .f64 a0_4,.float .f64 a0_5,.float .f64 0]) ?_ 6 _ (by first|rfl|(simp only [px_pos,px_ne];rfl)|simp [px_pos,px_ne]);(with_reducible repeat (first|refine blk_drewN ?_ _|refine blk_drew ?_|refine blk_alloc ?_ _));refine blk_put (cs:=#[.int .i64 a0_0,.float .f64 a0_1,.float .f64 a0_2,.float .f64 a0_3,.float .f64 a0_4,.float .f64 0,.float .f64 0]) ?_ 5 _ (by first|rfl|(simp only [px_pos,px_ne];rfl)|simp [px_pos,px_ne]);(with_reducible repeat (first|refine blk_drewN ?_ _|refine blk_drew ?_|refine blk_alloc ?_ _));refine blk_put (cs:=#[.int .i64 a0_0,.float .f64 a0_1,.float .f64 a0_2,.float .f64 a0_3,.float .f64 0,.float .f64 0,.float .f64 0]) ?_ 4 _ (by first|rfl|(simp only [px_pos,px_ne];rfl)|simp [px_pos,px_ne]);(with_reducible repeat (first|refine blk_drewN ?_ _|refine blk_drew ?_|refine blk_alloc ?_ _));refine blk_put (cs:=#[.int .i64 a0_0,.float .f64 a0_1,.float .f64 a0_2,.float .f64 0,.float .f64 0,.float .f64 0,.float .f64 0]) ?_ 3 _ (by first|rfl|(simp only [px_pos,px_ne];rfl)|simp [px_pos,px_ne]);(with_reducible repeat (first|refine blk_drewN ?_ _|refine blk_drew ?_|refine blk_alloc ?_ _));refine blk_put (cs:=#[.int .i64 a0_0,.float .f64 a0_1,.float .f64 0,.float .f64 0,.float .f64 0,.float .f64 0,.float .f64 0]) ?_ 2 _ (by first|rfl|(simp only [px_pos,px_ne];rfl)|simp [px_pos,px_ne]);(with_reducible repeat (first|refine blk_drewN ?_ _|refine blk_drew ?_|refine blk_alloc ?_ _));refine blk_put (cs:=#[.int .i64 a0_0,.float .f64 0,.float .f64 0,.float .f64 0,.float .f64 0,.float .f64 0,.float .f64 0]) ?_ 1 _ (by first|rfl|(simp only [px_pos,px_ne];rfl)|simp [px_pos,px_ne]);(with_reducible repeat (first|refine blk_drewN ?_ _|refine blk_drew ?_|refine blk_alloc ?_ _));refine blk_put (cs:=#[.int .i64 0,.float .f64 0,.float .f64 0,.float .f64 0,.float .f64 0,.float .f64 0,.float .f64 0]) ?_ 0 _ (by first|rfl|(simp only [px_pos,px_ne];rfl)|simp [px_pos,px_ne]);(with_reducible repeat (first|refine blk_drewN ?_ _|refine blk_drew ?_|refine blk_alloc ?_ _));exact BK141.out) Try.underlying26 rfl (by kernel_rfl)) rfl ?_
   exact ⟨by first|rfl|(rw [px_ne];rfl)|(simp [errW_none,errW_some] <;> rfl)|(simp [*,errW_none,errW_some] <;> rfl),by repeat (first|(with_reducible first|exact HB.out|apply below_alloc|apply pw_below_drewN|apply below_drew1|refine below_set ?_ GE140.out|refine below_set ?_ GE141.out)|exact HB.out)⟩
  ·replace c10:=Bool.eq_false_iff.mpr c10
   subst c10
   have H1 : (some (0,0,0,0,0,0,0,121)) = some (r1,r2,r3,r4,r5,r6,r7,r8):=by rw [if_neg (show ¬ (false = true) by decide)] at H;exact H
   clear H
   have H:=H1
   clear H1
   simp only [Option.some.injEq,Prod.mk.injEq] at H
   obtain ⟨rfl,rfl,rfl,rfl,rfl,rfl,rfl,rfl⟩:=H
   go_enter Try.func48,Try.ntmps48
   go_wp2_with (first|((with_reducible refine gate_dst (N:=1) rfl ?_);refine box_event ?hg (N:=1) ?hd (cs:=#[.int .i64 a0_0,.float .f64 a0_1,.float .f64 a0_2,.float .f64 a0_3,.float .f64 a0_4,.float .f64 a0_5,.float .f64 a0_6]) (t:=26) ?hr ?_;(case hd=>rfl);(case hg=>rfl);(case hr=>first|(go_simp;done)|(go_simp;rfl));intro gb140 hg w19 hbox hb;have n0_:=Aside0.mk (below_step (by repeat (first|(with_reducible first|exact HB.out|apply below_alloc|apply pw_below_drewN|apply below_drew1)|exact HB.out)) hb);have n1_:=Aside0.mk (hbox);have n2_:=Aside0.mk ((by rw [hg];exact (below_size (by repeat (first|(with_reducible first|exact HB.out|apply below_alloc|apply pw_below_drewN|apply below_drew1)|exact HB.out))) : w.heap.size ≤ gb140));have n3_:=Aside0.mk ((by rw [hg];exact (below_size (by repeat (first|(with_reducible first|exact HB.out|apply below_alloc|apply pw_below_drewN|apply below_drew1)|exact HB.out))) : w.heap.size ≤ gb140));clear HB;have HB:=n0_;have BK140:=n1_;have GW140:=n2_;have GE140:=n3_;clear n0_ n1_ n2_ n3_;clear hb hbox hg)|((with_reducible refine gate_dst (N:=2) rfl ?_);refine box_event ?hg (N:=2) ?hd (cs:=#[.int .i64 0,.float .f64 0,.float .f64 0,.float .f64 0,.float .f64 0,.float .f64 0,.float .f64 0]) (t:=26) ?hr ?_;(case hd=>rfl);(case hg=>rfl);(case hr=>first|(go_simp;done)|(go_simp;rfl));intro gb141 hg w20 hbox hb;have n0_:=Aside0.mk (blk_below (g:=gb140) (o:=.cells #[.int .i64 a0_0,.float .f64 a0_1,.float .f64 a0_2,.float .f64 a0_3,.float .f64 a0_4,.float .f64 a0_5,.float .f64 a0_6] 26 (0,0)) (by (with_reducible repeat (first|refine blk_drewN ?_ _|refine blk_drew ?_|refine blk_alloc ?_ _));exact BK140.out) hb);have n1_:=Aside0.mk (below_step (by repeat (first|(with_reducible first|exact HB.out|apply below_alloc|apply pw_below_drewN|apply below_drew1|refine below_set ?_ GE140.out)|exact HB.out)) hb);have n2_:=Aside0.mk (hbox);have n3_:=Aside0.mk ((by rw [hg];exact (below_size (by repeat (first|(with_reducible first|exact HB.out|apply below_alloc|apply pw_below_drewN|apply below_drew1|refine below_set ?_ GE140.out)|exact HB.out))) : w.heap.size ≤ gb141));have n4_:=Aside0.mk ((by rw [hg];exact (below_size (by repeat (first|(with_reducible first|exact HB.out|apply below_alloc|apply pw_below_drewN|apply below_drew1|refine below_set ?_ GE140.out)|exact HB.out))) : w.heap.size ≤ gb141));have n5_:=Aside0.mk ((by rw [hg];exact Nat.ne_of_lt (blk_lt (g:=gb140) (o:=.cells #[.int .i64 a0_0,.float .f64 a0_1,.float .f64 a0_2,.float .f64 a0_3,.float .f64 a0_4,.float .f64 a0_5,.float .f64 a0_6] 26 (0,0)) (by (with_reducible repeat (first|refine blk_drewN ?_ _|refine blk_drew ?_|refine blk_alloc ?_ _));exact BK140.out)) : gb140 ≠ gb141));have n6_:=Aside0.mk ((by rw [hg];exact Nat.ne_of_gt (blk_lt (g:=gb140) (o:=.cells #[.int .i64 a0_0,.float .f64 a0_1,.float .f64 a0_2,.float .f64 a0_3,.float .f64 a0_4,.float .f64 a0_5,.float .f64 a0_6] 26 (0,0)) (by (with_reducible repeat (first|refine blk_drewN ?_ _|refine blk_drew ?_|refine blk_alloc ?_ _));exact BK140.out)) : gb141 ≠ gb140));clear BK140;clear HB;have BK140:=n0_;have HB:=n1_;have BK141:=n2_;have GW141:=n3_;have GE141:=n4_;have NB140_141:=n5_;have NB141_140:=n6_;clear n0_ n1_ n2_ n3_ n4_ n5_ n6_;clear hb hbox hg;have hnb21:=NB140_141.out;have hnc21:=NB141_140.out;have hcz22_0 : w20.cell? ⟨gb140,0,none⟩ = some (.int .i64 a0_0):=(blk_cell BK140.out 0).trans rfl;have hcz22_1 : w20.cell? ⟨gb140,1,none⟩ = some (.float .f64 a0_1):=(blk_cell BK140.out 1).trans rfl;have hcz22_2 : w20.cell? ⟨gb140,2,none⟩ = some (.float .f64 a0_2):=(blk_cell BK140.out 2).trans rfl;have hcz22_3 : w20.cell? ⟨gb140,3,none⟩ = some (.float .f64 a0_3):=(blk_cell BK140.out 3).trans rfl;have hcz22_4 : w20.cell? ⟨gb140,4,none⟩ = some (.float .f64 a0_4):=(blk_cell BK140.out 4).trans rfl;have hcz22_5 : w20.cell? ⟨gb140,5,none⟩ = some (.float .f64 a0_5):=(blk_cell BK140.out 5).trans rfl;have hcz22_6 : w20.cell? ⟨gb140,6,none⟩ = some (.float .f64 a0_6):=(blk_cell BK140.out 6).trans rfl;have hfz22_0:=blk_frozen BK140.out 0;have hfz22_1:=blk_frozen BK140.out 1;have hfz22_2:=blk_frozen BK140.out 2;have hfz22_3:=blk_frozen BK140.out 3;have hfz22_4:=blk_frozen BK140.out 4;have hfz22_5:=blk_frozen BK140.out 5;have hfz22_6:=blk_frozen BK140.out 6)|(go_at_call 71;(with_reducible refine (quarryref31_floats.calls a0_0 a0_1 a0_2 a0_3 a0_4 a0_5 a0_6 t142 _ A8.out).mono ?_);rintro e w23 ⟨v143,rfl,ho0,hb⟩;have n0_:=Aside0.mk (Kd.R_lower ho0 (below_size (by repeat (first|(with_reducible first|exact HB.out|apply below_alloc|apply pw_below_drewN|apply below_drew1|refine below_set ?_ GE140.out|refine below_set ?_ GE141.out)|exact HB.out))));have n1_:=Aside0.mk (blk_below (g:=gb140) (o:=.cells #[.int .i64 a0_0,.float .f64 a0_1,.float .f64 a0_2,.float .f64 a0_3,.float .f64 a0_4,.float .f64 a0_5,.float .f64 a0_6] 26 (0,0)) (by (with_reducible repeat (first|refine blk_drewN ?_ _|refine blk_drew ?_|refine blk_alloc ?_ _));exact BK140.out) hb);have n2_:=Aside0.mk (blk_below (g:=gb141) (o:=.cells #[.int .i64 0,.float .f64 0,.float .f64 0,.float .f64 0,.float .f64 0,.float .f64 0,.float .f64 0] 26 (0,0)) (by (with_reducible repeat (first|refine blk_drewN ?_ _|refine blk_drew ?_|refine blk_alloc ?_ _));exact BK141.out) hb);have n3_:=Aside0.mk (below_step (by repeat (first|(with_reducible first|exact HB.out|apply below_alloc|apply pw_below_drewN|apply below_drew1|refine below_set ?_ GE140.out|refine below_set ?_ GE141.out)|exact HB.out)) hb);clear BK140;clear BK141;clear HB;have HO144:=n0_;have BK140:=n1_;have BK141:=n2_;have HB:=n3_;clear n0_ n1_ n2_ n3_;(try clear hb);(try clear hb2);(try clear hk);(try clear hi);(try clear ho0);obtain ⟨Ao24,co24,eo24⟩:=Kd.R_slice HO144.out;subst eo24)|(go_at_call 41;(with_reducible refine (quarryref31_All.calls k _ _ t142 false _ ?side1 ?side2 A9.out).mono ?_);(case side1=>repeat (first|exact (Kd.R_reads' HO144.out).2.2|(with_reducible refine Kd.C_alloc ?_ _)|(with_reducible refine Kd.C_drewN ?_ _)|(with_reducible refine Kd.C_drew ?_)));(case side2=>exact (Kd.R_reads' HO144.out).2.1);rintro e w' ⟨rfl,⟨nd,rfl⟩⟩;have hcz25_0 : w23.cell? ⟨gb141,0,none⟩ = some (.int .i64 0):=(blk_cell BK141.out 0).trans rfl;have hcz25_1 : w23.cell? ⟨gb141,1,none⟩ = some (.float .f64 0):=(blk_cell BK141.out 1).trans rfl;have hcz25_2 : w23.cell? ⟨gb141,2,none⟩ = some (.float .f64 0):=(blk_cell BK141.out 2).trans rfl;have hcz25_3 : w23.cell? ⟨gb141,3,none⟩ = some (.float .f64 0):=(blk_cell BK141.out 3).trans rfl;have hcz25_4 : w23.cell? ⟨gb141,4,none⟩ = some (.float .f64 0):=(blk_cell BK141.out 4).trans rfl;have hcz25_5 : w23.cell? ⟨gb141,5,none⟩ = some (.float .f64 0):=(blk_cell BK141.out 5).trans rfl;have hcz25_6 : w23.cell? ⟨gb141,6,none⟩ = some (.float .f64 0):=(blk_cell BK141.out 6).trans rfl;have hfz25_0:=blk_frozen BK141.out 0;have hfz25_1:=blk_frozen BK141.out 1;have hfz25_2:=blk_frozen BK141.out 2;have hfz25_3:=blk_frozen BK141.out 3;have hfz25_4:=blk_frozen BK141.out 4;have hfz25_5:=blk_frozen BK141.out 5;have hfz25_6:=blk_frozen BK141.out 6))
   refine bodyPost_ret (results_ct rfl _ _ gb141 26 #[.int .i64 0,.float .f64 0,.float .f64 0,.float .f64 0,.float .f64 0,.float .f64 0,.float .f64 0] (0,0) _ rfl (by (with_reducible repeat (first|refine blk_drewN ?_ _|refine blk_drew ?_|refine blk_alloc ?_ _));refine blk_put (cs:=#[.int .i64 0,.float .f64 0,.float .f64 0,.float .f64 0,.float .f64 0,.float .f64 0,.float .f64 0]) ?_ 6 _ (by first|rfl|(simp only [px_pos,px_ne];rfl)|simp [px_pos,px_ne]);(with_reducible repeat (first|refine blk_drewN ?_ _|refine blk_drew ?_|refine blk_alloc ?_ _));refine blk_put (cs:=#[.int .i64 0,.float .f64 0,.float .f64 0,.float .f64 0,.float .f64 0,.float .f64 0,.float .f64 0]) ?_ 5 _ (by first|rfl|(simp only [px_pos,px_ne];rfl)|simp [px_pos,px_ne]);(with_reducible repeat (first|refine blk_drewN ?_ _|refine blk_drew ?_|refine blk_alloc ?_ _));refine blk_put (cs:=#[.int .i64 0,.float .f64 0,.float .f64 0,.float .f64 0,.float .f64 0,.float .f64 0,.float .f64 0]) ?_ 4 _ (by first|rfl|(simp only [px_pos,px_ne];rfl)|simp [px_pos,px_ne]);(with_reducible repeat (first|refine blk_drewN ?_ _|refine blk_drew ?_|refine blk_alloc ?_ _));refine blk_put (cs:=#[.int .i64 0,.float .f64 0,.float .f64 0,.float .f64 0,.float .f64 0,.float .f64 0,.float .f64 0]) ?_ 3 _ (by first|rfl|(simp only [px_pos,px_ne];rfl)|simp [px_pos,px_ne]);(with_reducible repeat (first|refine blk_drewN ?_ _|refine blk_drew ?_|refine blk_alloc ?_ _));refine blk_put (cs:=#[.int .i64 0,.float .f64 0,.float .f64 0,.float .f64 0,.float .f64 0,.float .f64 0,.float .f64 0]) ?_ 2 _ (by first|rfl|(simp only [px_pos,px_ne];rfl)|simp [px_pos,px_ne]);(with_reducible repeat (first|refine blk_drewN ?_ _|refine blk_drew ?_|refine blk_alloc ?_ _));refine blk_put (cs:=#[.int .i64 0,.float .f64 0,.float .f64 0,.float .f64 0,.float .f64 0,.float .f64 0,.float .f64 0]) ?_ 1 _ (by first|rfl|(simp only [px_pos,px_ne];rfl)|simp [px_pos,px_ne]);(with_reducible repeat (first|refine blk_drewN ?_ _|refine blk_drew ?_|refine blk_alloc ?_ _));refine blk_put (cs:=#[.int .i64 0,.float .f64 0,.float .f64 0,.float .f64 0,.float .f64 0,.float .f64 0,.float .f64 0]) ?_ 0 _ (by first|rfl|(simp only [px_pos,px_ne];rfl)|simp [px_pos,px_ne]);(with_reducible repeat (first|refine blk_drewN ?_ _|refine blk_drew ?_|refine blk_alloc ?_ _));exact BK141.out) Try.underlying26 rfl (by kernel_rfl)) rfl ?_
   exact ⟨by first|rfl|(rw [px_ne];rfl)|(simp [errW_none,errW_some] <;> rfl)|(simp [*,errW_none,errW_some] <;> rfl),by repeat (first|(with_reducible first|exact HB.out|apply below_alloc|apply pw_below_drewN|apply below_drew1|refine below_set ?_ GE140.out|refine below_set ?_ GE141.out)|exact HB.out)⟩
end Go.Proofs.Ytijmdmnhbbcahaa.PTallyOf
