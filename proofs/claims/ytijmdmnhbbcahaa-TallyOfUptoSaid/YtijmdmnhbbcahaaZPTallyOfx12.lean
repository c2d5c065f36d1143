-- Written by shrink.py, a program of this session: what the law needs of the print and its words. Lean checks it.
import Derived.Test.YtijmdmnhbbcahaaZPTallyOfx0
import Derived.Test.YtijmdmnhbbcahaaZPTallyOfx10
import Derived.Test.YtijmdmnhbbcahaaZPTallyOfx11
namespace Go.Proofs.Ytijmdmnhbbcahaa.PTallyOf
open Go.RowKit Go.Proofs.YtijmdmnhbbcahaaW.PrintWords Go.Proofs.YtijmdmnhbbcahaaW.PrintLast Go.Proofs.YtijmdmnhbbcahaaW.PrintMore
attribute [local go_sem] run_fadd run_fsub run_fmul run_fquo unary_fneg run_store_f64 run_store_c128 run_cadd
attribute [local go_sem] max2_int min2_int max_two min_two max_three min_three max_four min_four
set_option linter.unusedVariables false
set_option linter.unusedSimpArgs false
def quarryref31_Of.l0 : Nat → List Nat → Int → Int → Nat → Nat → Nat → Nat → Nat → Nat → Option (Int × Nat × Nat × Nat × Nat × Nat × Nat × Int)
 | 0,_,_,_,_,_,_,_,_,_=>none
 | k + 1,x0,x5,x149000,x149001,x149002,x149003,x149004,x149005,x149006=>if x5 < (x0.length : Int) then (if 0 ≤ x5 then ((quarryref31_Put.f k x149000 x149001 x149002 x149003 x149004 x149005 x149006 (rdOf (0 : Nat) x0 x5)).bind fun bt150=>(if bt150.2.2.2.2.2.2.2 = 0 then (quarryref31_Of.l0 k x0 (wrap64 (x5 + 1)) bt150.1 bt150.2.1 bt150.2.2.1 bt150.2.2.2.1 bt150.2.2.2.2.1 bt150.2.2.2.2.2.1 bt150.2.2.2.2.2.2.1) else (some (0,0,0,0,0,0,0,121)))) else (none)) else (some (x149000,x149001,x149002,x149003,x149004,x149005,x149006,0))
def quarryref31_Of.f (k : Nat) (l0 : List Nat) : Option (Int × Nat × Nat × Nat × Nat × Nat × Nat × Int):=(quarryref31_All.f k l0).bind fun t147=>(if t147 = true then (quarryref31_Of.l0 k l0 0 0 0 0 0 0 0 0) else (some (0,0,0,0,0,0,0,130)))
def quarryref31_Of.T7 : Bool × List (List Nat × List Nat):=(true,[([],[]),([],[]),([],[]),([1,2],[1,2]),([3],[3]),([0,4],[0,4]),([5],[5]),([6],[6]),([6],[6]),([],[]),([9,7,5,0,1,2,3,4,5,6,7,9],[7,9]),([8,10,0,1,2,3,4,5,6,7,8,9,10],[8])])
def quarryref31_Of.B7 : List Nat:=[0,0,0,6,14,31,63,127,127,0,767,2047]
theorem quarryref31_Of.tab7 : rtab .any (opsOf Try.f14 7) = quarryref31_Of.T7:=by kernel_rfl
theorem quarryref31_Of.bits7 : waitsOk quarryref31_Of.T7.2 quarryref31_Of.B7 = true:=by kernel_rfl
set_option maxHeartbeats 8000000 in
set_option maxRecDepth 100000 in
theorem quarryref31_Of.calls (k : Nat) (A0 : Option Addr) (c0 : Nat) (l0 : List Nat) (r1 : Int) (r2 : Nat) (r3 : Nat) (r4 : Nat) (r5 : Nat) (r6 : Nat) (r7 : Nat) (r8 : Int) (w : World) (hr0 : Kd.C Kd.f64 w A0 l0.length l0) (hc0 : l0.length ≤ c0) (h : quarryref31_Of.f k l0 = some (r1,r2,r3,r4,r5,r6,r7,r8)) :
  Calls Try.prog 14 #[.slice A0 l0.length c0] w fun e w'=>e = .returned (.tuple #[.agg #[.int .i64 r1,.float .f64 r2,.float .f64 r3,.float .f64 r4,.float .f64 r5,.float .f64 r6,.float .f64 r7],.int .i64 r8]) ∧ Below w.heap.size w w':=by
 have hu26:=Try.underlying26
 have HR0:=Aside0.mk hr0
 have HC0:=Aside0.mk hc0
 clear hr0 hc0
 have HB:=Aside0.mk (Below.refl w.heap.size w)
 have H : ((quarryref31_All.f k l0).bind fun t147=>(if t147 = true then (quarryref31_Of.l0 k l0 0 0 0 0 0 0 0 0) else (some (0,0,0,0,0,0,0,130)))) = some (r1,r2,r3,r4,r5,r6,r7,r8):=h
 clear h
 replace H:=Option.bind_eq_some_iff.mp H
 obtain ⟨t147,A20,H⟩:=H
 replace H : (if t147 = true then (quarryref31_Of.l0 k l0 0 0 0 0 0 0 0 0) else (some (0,0,0,0,0,0,0,130))) = some (r1,r2,r3,r4,r5,r6,r7,r8):=H
 have A2:=Aside0.mk A20
 clear A20
 by_cases c3 : t147 = true
 ·subst c3
  have H1 : (quarryref31_Of.l0 k l0 0 0 0 0 0 0 0 0) = some (r1,r2,r3,r4,r5,r6,r7,r8):=by rw [if_pos rfl] at H;exact H
  clear H
  have H:=H1
  clear H1
  have H':=Aside0.mk H
  clear H
  go_enter Try.func14,Try.ntmps14
  go_wp2_with (first|((with_reducible refine gate_dst (N:=2) rfl ?_);refine box_event ?hg (N:=2) ?hd (cs:=#[.int .i64 0,.float .f64 0,.float .f64 0,.float .f64 0,.float .f64 0,.float .f64 0,.float .f64 0]) (t:=26) ?hr ?_;(case hd=>rfl);(case hg=>rfl);(case hr=>first|(go_simp;done)|(go_simp;rfl));intro gb146 hg w4 hbox hb;have n0_:=Aside0.mk (below_step (by repeat (first|(with_reducible first|exact HB.out|apply below_alloc|apply pw_below_drewN|apply below_drew1)|exact HB.out)) hb);have n1_:=Aside0.mk (hbox);have n2_:=Aside0.mk ((by rw [hg];exact (below_size (by repeat (first|(with_reducible first|exact HB.out|apply below_alloc|apply pw_below_drewN|apply below_drew1)|exact HB.out))) : w.heap.size ≤ gb146));have n3_:=Aside0.mk ((by rw [hg];exact (below_size (by repeat (first|(with_reducible first|exact HB.out|apply below_alloc|apply pw_below_drewN|apply below_drew1)|exact HB.out))) : w.heap.size ≤ gb146));clear HB;have HB:=n0_;have BK146:=n1_;have GW146:=n2_;have GE146:=n3_;clear n0_ n1_ n2_ n3_;clear hb hbox hg)|((with_reducible refine gate_callee (f:=41) rfl ?_);refine goesL_ (some 9) rfl rfl Try.func41 (by kernel_rfl) rfl #[.slice A0 l0.length c0] rfl (by (try simp only [List.map_toArray,List.map_cons,List.map_nil]);first|done|rfl|(simp only [List.length_drop,List.length_take];rfl)) ?_;(with_reducible refine (quarryref31_All.calls k _ _ l0 true _ ?side1 ?side2 A2.out).mono ?_);(case side1=>repeat (first|exact (Kd.C_below HR0.out HB.out)|(with_reducible refine Kd.C_alloc ?_ _)|(with_reducible refine Kd.C_drewN ?_ _)|(with_reducible refine Kd.C_drew ?_)));(case side2=>exact HC0.out);rintro e w' ⟨rfl,⟨nd,rfl⟩⟩;refine ⟨_,rfl,?_⟩;(try (rw [drewN_self w4];generalize hq_ : World.drewN w4 _ = w4;have n0_ : Aside0 (w4.heap[gb146]? = some (.cells #[.int .i64 0,.float .f64 0,.float .f64 0,.float .f64 0,.float .f64 0,.float .f64 0,.float .f64 0] 26 (0,0))):=⟨by rw [← hq_];exact (by (with_reducible repeat (first|refine blk_drewN ?_ _|refine blk_drew ?_|refine blk_alloc ?_ _));exact BK146.out)⟩;have n1_ : Aside0 (Below w.heap.size w w4):=⟨by rw [← hq_];exact (by repeat (first|(with_reducible first|exact HB.out|apply below_alloc|apply pw_below_drewN|apply below_drew1|refine below_set ?_ GE146.out)|exact HB.out))⟩;clear BK146 HB hq_;have BK146:=n0_;have HB:=n1_;clear n0_ n1_)))|((with_reducible refine gate_dst (N:=4) rfl ?_);refine box_event ?hg (N:=4) ?hd (cs:=#[.int .i64 0,.float .f64 0,.float .f64 0,.float .f64 0,.float .f64 0,.float .f64 0,.float .f64 0]) (t:=26) ?hr ?_;(case hd=>rfl);(case hg=>rfl);(case hr=>first|(go_simp;done)|(go_simp;rfl));intro gb148 hg w5 hbox hb;have n0_:=Aside0.mk (blk_below (g:=gb146) (o:=.cells #[.int .i64 0,.float .f64 0,.float .f64 0,.float .f64 0,.float .f64 0,.float .f64 0,.float .f64 0] 26 (0,0)) (by (with_reducible repeat (first|refine blk_drewN ?_ _|refine blk_drew ?_|refine blk_alloc ?_ _));exact BK146.out) hb);have n1_:=Aside0.mk (below_step (by repeat (first|(with_reducible first|exact HB.out|apply below_alloc|apply pw_below_drewN|apply below_drew1|refine below_set ?_ GE146.out)|exact HB.out)) hb);have n2_:=Aside0.mk (hbox);have n3_:=Aside0.mk ((by rw [hg];exact (below_size (by repeat (first|(with_reducible first|exact HB.out|apply below_alloc|apply pw_below_drewN|apply below_drew1|refine below_set ?_ GE146.out)|exact HB.out))) : w.heap.size ≤ gb148));have n4_:=Aside0.mk ((by rw [hg];exact (below_size (by repeat (first|(with_reducible first|exact HB.out|apply below_alloc|apply pw_below_drewN|apply below_drew1|refine below_set ?_ GE146.out)|exact HB.out))) : w.heap.size ≤ gb148));have n5_:=Aside0.mk ((by rw [hg];exact Nat.ne_of_lt (blk_lt (g:=gb146) (o:=.cells #[.int .i64 0,.float .f64 0,.float .f64 0,.float .f64 0,.float .f64 0,.float .f64 0,.float .f64 0] 26 (0,0)) (by (with_reducible repeat (first|refine blk_drewN ?_ _|refine blk_drew ?_|refine blk_alloc ?_ _));exact BK146.out)) : gb146 ≠ gb148));have n6_:=Aside0.mk ((by rw [hg];exact Nat.ne_of_gt (blk_lt (g:=gb146) (o:=.cells #[.int .i64 0,.float .f64 0,.float .f64 0,.float .f64 0,.float .f64 0,.float .f64 0,.float .f64 0] 26 (0,0)) (by (with_reducible repeat (first|refine blk_drewN ?_ _|refine blk_drew ?_|refine blk_alloc ?_ _));exact BK146.out)) : gb148 ≠ gb146));clear BK146;clear HB;have BK146:=n0_;have HB:=n1_;have BK148:=n2_;have GW148:=n3_;have GE148:=n4_;have NB146_148:=n5_;have NB148_146:=n6_;clear n0_ n1_ n2_ n3_ n4_ n5_ n6_;clear hb hbox hg;have hnb6:=NB148_146.out;have hnc6:=NB146_148.out;have hcz7_0 : w5.cell? ⟨gb148,0,none⟩ = some (.int .i64 0):=(blk_cell BK148.out 0).trans rfl;have hcz7_1 : w5.cell? ⟨gb148,1,none⟩ = some (.float .f64 0):=(blk_cell BK148.out 1).trans rfl;have hcz7_2 : w5.cell? ⟨gb148,2,none⟩ = some (.float .f64 0):=(blk_cell BK148.out 2).trans rfl;have hcz7_3 : w5.cell? ⟨gb148,3,none⟩ = some (.float .f64 0):=(blk_cell BK148.out 3).trans rfl;have hcz7_4 : w5.cell? ⟨gb148,4,none⟩ = some (.float .f64 0):=(blk_cell BK148.out 4).trans rfl;have hcz7_5 : w5.cell? ⟨gb148,5,none⟩ = some (.float .f64 0):=(blk_cell BK148.out 5).trans rfl;have hcz7_6 : w5.cell? ⟨gb148,6,none⟩ = some (.float .f64 0):=(blk_cell BK148.out 6).trans rfl;have hfz7_0:=blk_frozen BK148.out 0;have hfz7_1:=blk_frozen BK148.out 1;have hfz7_2:=blk_frozen BK148.out 2;have hfz7_3:=blk_frozen BK148.out 3;have hfz7_4:=blk_frozen BK148.out 4;have hfz7_5:=blk_frozen BK148.out 5;have hfz7_6:=blk_frozen BK148.out 6))
  go_loopg [5] k (fun kq v5 w'=>∃ (x5_1 : Int) (x147000_1 : Int) (x147001_1 : Nat) (x147002_1 : Nat) (x147003_1 : Nat) (x147004_1 : Nat) (x147005_1 : Nat) (x147006_1 : Nat) (x149000_1 : Int) (x149001_1 : Nat) (x149002_1 : Nat) (x149003_1 : Nat) (x149004_1 : Nat) (x149005_1 : Nat) (x149006_1 : Nat),v5 = .int .i64 x5_1 ∧ Aside0 (quarryref31_Of.l0 kq l0 x5_1 x149000_1 x149001_1 x149002_1 x149003_1 x149004_1 x149005_1 x149006_1 = some (r1,r2,r3,r4,r5,r6,r7,r8)) ∧ Aside0 (kq ≤ k) ∧ Aside0 (w'.heap[gb146]? = some (.cells #[.int .i64 x147000_1,.float .f64 x147001_1,.float .f64 x147002_1,.float .f64 x147003_1,.float .f64 x147004_1,.float .f64 x147005_1,.float .f64 x147006_1] 26 (0,0))) ∧ Aside0 (w'.heap[gb148]? = some (.cells #[.int .i64 x149000_1,.float .f64 x149001_1,.float .f64 x149002_1,.float .f64 x149003_1,.float .f64 x149004_1,.float .f64 x149005_1,.float .f64 x149006_1] 26 (0,0))) ∧ Aside0 (Below w.heap.size w w'))
  case atStart=>exact ⟨(0),(0),(0),(0),(0),(0),(0),(0),(0),(0),(0),(0),(0),(0),(0),(by first|rfl|(simp;done)|(simp [*];done)),H',⟨Nat.le_refl _⟩,⟨by (with_reducible repeat (first|refine blk_drewN ?_ _|refine blk_drew ?_|refine blk_alloc ?_ _));refine blk_far ?_ NB146_148.out _;(with_reducible repeat (first|refine blk_drewN ?_ _|refine blk_drew ?_|refine blk_alloc ?_ _));refine blk_far ?_ NB146_148.out _;(with_reducible repeat (first|refine blk_drewN ?_ _|refine blk_drew ?_|refine blk_alloc ?_ _));refine blk_far ?_ NB146_148.out _;(with_reducible repeat (first|refine blk_drewN ?_ _|refine blk_drew ?_|refine blk_alloc ?_ _));refine blk_far ?_ NB146_148.out _;(with_reducible repeat (first|refine blk_drewN ?_ _|refine blk_drew ?_|refine blk_alloc ?_ _));refine blk_far ?_ NB146_148.out _;(with_reducible repeat (first|refine blk_drewN ?_ _|refine blk_drew ?_|refine blk_alloc ?_ _));refine blk_far ?_ NB146_148.out _;(with_reducible repeat (first|refine blk_drewN ?_ _|refine blk_drew ?_|refine blk_alloc ?_ _));refine blk_far ?_ NB146_148.out _;(with_reducible repeat (first|refine blk_drewN ?_ _|refine blk_drew ?_|refine blk_alloc ?_ _));exact BK146.out⟩,⟨by (with_reducible repeat (first|refine blk_drewN ?_ _|refine blk_drew ?_|refine blk_alloc ?_ _));refine blk_put (cs:=#[.int .i64 0,.float .f64 0,.float .f64 0,.float .f64 0,.float .f64 0,.float .f64 0,.float .f64 0]) ?_ 6 _ (by first|rfl|(simp only [px_pos,px_ne];rfl)|simp [px_pos,px_ne]);(with_reducible repeat (first|refine blk_drewN ?_ _|refine blk_drew ?_|refine blk_alloc ?_ _));refine blk_put (cs:=#[.int .i64 0,.float .f64 0,.float .f64 0,.float .f64 0,.float .f64 0,.float .f64 0,.float .f64 0]) ?_ 5 _ (by first|rfl|(simp only [px_pos,px_ne];rfl)|simp [px_pos,px_ne]);(with_reducible repeat (first|refine blk_drewN ?_ _|refine blk_drew ?_|refine blk_alloc ?_ _));refine blk_put (cs:=#[.int .i64 0,.float .f64 0,.float .f64 0,.float .f64 0,.float .f64 0,.float .f64 0,.float .f64 0]) ?_ 4 _ (by first|rfl|(simp only [px_pos,px_ne];rfl)|simp [px_pos,px_ne]);(with_reducible repeat (first|refine blk_drewN ?_ _|refine blk_drew ?_|refine blk_alloc ?_ _));refine blk_put (cs:=#[.int .i64 0,.float .f64 0,.float .f64 0,.float .f64 0,.float .f64 0,.float .f64 0,.float .f64 0]) ?_ 3 _ (by first|rfl|(simp only [px_pos,px_ne];rfl)|simp [px_pos,px_ne]);(with_reducible repeat (first|refine blk_drewN ?_ _|refine blk_drew ?_|refine blk_alloc ?_ _));refine blk_put (cs:=#[.int .i64 0,.float .f64 0,.float .f64 0,.float .f64 0,.float .f64 0,.float .f64 0,.float .f64 0]) ?_ 2 _ (by first|rfl|(simp only [px_pos,px_ne];rfl)|simp [px_pos,px_ne]);(with_reducible repeat (first|refine blk_drewN ?_ _|refine blk_drew ?_|refine blk_alloc ?_ _));refine blk_put (cs:=#[.int .i64 0,.float .f64 0,.float .f64 0,.float .f64 0,.float .f64 0,.float .f64 0,.float .f64 0]) ?_ 1 _ (by first|rfl|(simp only [px_pos,px_ne];rfl)|simp [px_pos,px_ne]);(with_reducible repeat (first|refine blk_drewN ?_ _|refine blk_drew ?_|refine blk_alloc ?_ _));refine blk_put (cs:=#[.int .i64 0,.float .f64 0,.float .f64 0,.float .f64 0,.float .f64 0,.float .f64 0,.float .f64 0]) ?_ 0 _ (by first|rfl|(simp only [px_pos,px_ne];rfl)|simp [px_pos,px_ne]);(with_reducible repeat (first|refine blk_drewN ?_ _|refine blk_drew ?_|refine blk_alloc ?_ _));exact BK148.out⟩,⟨by repeat (first|(with_reducible first|exact HB.out|apply below_alloc|apply pw_below_drewN|apply below_drew1|refine below_set ?_ GE146.out|refine below_set ?_ GE148.out)|exact HB.out)⟩⟩
  case round =>
   clear H'
   try clear c1
   try clear p2
   try clear c3
   try clear c4
   try clear c6
   try clear hcz7_0
   try clear hcz7_1
   try clear hcz7_2
   try clear hcz7_3
   try clear hcz7_4
   try clear hcz7_5
   try clear hcz7_6
   try clear hfz7_0
   try clear hfz7_1
   try clear hfz7_2
   try clear hfz7_3
   try clear hfz7_4
   try clear hfz7_5
   try clear hfz7_6
   try clear HK1
   try clear BK146
   try clear BK148
   try clear HB
   obtain ⟨x5_1,x147000_1,x147001_1,x147002_1,x147003_1,x147004_1,x147005_1,x147006_1,x149000_1,x149001_1,x149002_1,x149003_1,x149004_1,x149005_1,x149006_1,rfl,HA,HK1,BK146,BK148,HB⟩:=hrel
   cases gk with
   | zero=>exact absurd HA.out (by simp [quarryref31_Of.l0])
   | succ k1 =>
    have H:=HA.out
    clear HA
    simp only [quarryref31_Of.l0] at H
    by_cases c8 : x5_1 < (l0.length : Int)
    ·rw [if_pos c8] at H
     have c8b0 : decide (x5_1 < (l0.length : Int)) = true:=decide_eq_true c8
     clear c8
     by_cases c9 : 0 ≤ x5_1
     ·rw [if_pos c9] at H
      have c9b0 : decide (0 ≤ x5_1) = true:=decide_eq_true c9
      clear c9
      replace H:=Option.bind_eq_some_iff.mp H
      obtain ⟨⟨t150,t151,t152,t153,t154,t155,t156,t157⟩,A100,H⟩:=H
      replace H : (if t157 = 0 then (quarryref31_Of.l0 k1 l0 (wrap64 (x5_1 + 1)) t150 t151 t152 t153 t154 t155 t156) else (some (0,0,0,0,0,0,0,121))) = some (r1,r2,r3,r4,r5,r6,r7,r8):=H
      have A10:=Aside0.mk A100
      clear A100
      by_cases c11 : t157 = 0
      ·rw [if_pos c11] at H
       have c11b0 : (t157 == 0) = true:=beq_iff_eq.mpr c11
       have c11b1 : (t157 != 0) = false:=bne_eq_false_iff_eq.mpr c11
       clear c11
       have H':=Aside0.mk H
       clear H
       try go_wp2
       have n0_:=Aside0.mk (blk_drew BK146.out)
       have n1_:=Aside0.mk (blk_drew BK148.out)
       have n2_:=Aside0.mk (below_drew1 HB.out)
       clear BK146
       clear BK148
       clear HB
       have BK146:=n0_
       have BK148:=n1_
       have HB:=n2_
       clear n0_ n1_ n2_
       have p149 : 0 ≤ (x5_1 : Int):=of_decide_eq_true (by first|(with_reducible assumption)|assumption)
       have q149 : x5_1 < (l0.length : Int):=of_decide_eq_true (by first|(with_reducible assumption)|assumption)
       obtain ⟨ad149,e149,hx149_0⟩:=Kd.at_f64 HR0.out x5_1 p149 q149
       have hw149_0:=hx149_0
       cases e149
       replace hx149_0:=(HB.out.cell (World.block_lt_of_cell? w _ hx149_0)).trans hx149_0
       replace p149:=eq_true p149
       replace q149:=eq_true q149
       refine start_ (n:=12) (S:=fun w'=>w'.cell? ⟨gb148,0,none⟩ = some (.int .i64 x149000_1) ∧ w'.cell? ⟨gb148,1,none⟩ = some (.float .f64 x149001_1) ∧ w'.cell? ⟨gb148,2,none⟩ = some (.float .f64 x149002_1) ∧ w'.cell? ⟨gb148,3,none⟩ = some (.float .f64 x149003_1) ∧ w'.cell? ⟨gb148,4,none⟩ = some (.float .f64 x149004_1) ∧ w'.cell? ⟨gb148,5,none⟩ = some (.float .f64 x149005_1) ∧ w'.cell? ⟨gb148,6,none⟩ = some (.float .f64 x149006_1) ∧ w'.cell? (ad149.add (x5_1).toNat) = some (.float .f64 (rdOf (0 : Nat) l0 x5_1))) (ds:=[]) #[false,false,false,false,false,false,false,false,false,false,false,false] (by kernel_rfl) rfl rfl ⟨(blk_cell BK148.out 0).trans rfl,(blk_cell BK148.out 1).trans rfl,(blk_cell BK148.out 2).trans rfl,(blk_cell BK148.out 3).trans rfl,(blk_cell BK148.out 4).trans rfl,(blk_cell BK148.out 5).trans rfl,(blk_cell BK148.out 6).trans rfl,((HB.out.cell (World.block_lt_of_cell? w _ hw149_0)).trans hw149_0)⟩ (fun hHeld=>?_);refine with_tabW quarryref31_Of.tab7 quarryref31_Of.bits7 (fun HT_ HW_=>?_)
       generalize wr.drew = w12 at BK146 BK148 HB hx149_0 hHeld ⊢
       refine pure_ (i:=1) (N:=some 21) (v:=?_) (a':=?_) #[false,true,false,false,false,false,false,false,false,false,false,false] rfl rfl (any_of HT_.out (by kernel_rfl)) (fun _ _ _ h=>h) (Or.inl ⟨by rfl,?_⟩) ?_ ?_
       rotate_left
       ·intro w'
        go_simp
        with_reducible rfl
       rotate_left
       ·simp only [Act.put,List.setIfInBounds_toArray,List.set_cons_zero,List.set_cons_succ,i64_w,i32_w]
        rfl
       refine pure_ (i:=2) (N:=some 22) (v:=?_) (a':=?_) #[false,true,true,false,false,false,false,false,false,false,false,false] rfl rfl (any_of HT_.out (by kernel_rfl)) (fun _ _ _ h=>h) (Or.inl ⟨by rfl,?_⟩) ?_ ?_
       rotate_left
       ·intro w'
        go_simp
        with_reducible rfl
       rotate_left
       ·simp only [Act.put,List.setIfInBounds_toArray,List.set_cons_zero,List.set_cons_succ,i64_w,i32_w]
        rfl
       refine pure_ (i:=3) (N:=some 23) (v:=?_) (a':=?_) #[false,true,true,true,false,false,false,false,false,false,false,false] rfl rfl (any_of HT_.out (by kernel_rfl)) (fun _ _ _ h=>h) (Or.inl ⟨by rfl,?_⟩) ?_ ?_
       rotate_left
       ·intro w'
        go_simp
        with_reducible rfl
       rotate_left
       ·simp only [Act.put,List.setIfInBounds_toArray,List.set_cons_zero,List.set_cons_succ,i64_w,i32_w]
        rfl
       refine take_ (i:=0) (N:=some 20) (v:=?_) (a':=?_) #[true,true,true,true,false,false,false,false,false,false,false,false] rfl rfl (take_ofW HT_.out HW_.out (by kernel_rfl)) (fun _ _ _ h=>h) (Or.inl ⟨by rfl,?_⟩) hHeld ?_ ?_
       rotate_left
       ·rintro w' ⟨s0,s1,s2,s3,s4,s5,s6,s7⟩
        go_simp
        with_reducible rfl
       rotate_left
       ·simp only [Act.put,List.setIfInBounds_toArray,List.set_cons_zero,List.set_cons_succ,i64_w,i32_w]
        rfl
       refine take_ (i:=4) (N:=some 24) (v:=?_) (a':=?_) #[true,true,true,true,true,false,false,false,false,false,false,false] rfl rfl (take_ofW HT_.out HW_.out (by kernel_rfl)) (fun _ _ _ h=>h) (Or.inl ⟨by rfl,?_⟩) hHeld ?_ ?_
       rotate_left
       ·rintro w' ⟨s0,s1,s2,s3,s4,s5,s6,s7⟩
        go_simp
        with_reducible rfl
       rotate_left
       ·simp only [Act.put,List.setIfInBounds_toArray,List.set_cons_zero,List.set_cons_succ,i64_w,i32_w]
        rfl
       refine join_ (σ:=Nat) 2 #[true,true,true,true,true,true,true,true,true,true,false,false] (fun s_=>[(25,.tuple #[.agg #[.int .i64 t150,.float .f64 t151,.float .f64 t152,.float .f64 t153,.float .f64 t154,.float .f64 t155,.float .f64 t156],.int .i64 t157]),(6,.pointer (some ⟨s_,0,none⟩)),(19,.tuple #[.agg #[.int .i64 t150,.float .f64 t151,.float .f64 t152,.float .f64 t153,.float .f64 t154,.float .f64 t155,.float .f64 t156],.int .i64 t157]),(26,.agg #[.int .i64 t150,.float .f64 t151,.float .f64 t152,.float .f64 t153,.float .f64 t154,.float .f64 t155,.float .f64 t156]),(27,.int .i64 t157)]) (fun s_ w'=>(w'.cell? ⟨gb148,0,none⟩ = some (.int .i64 x149000_1) ∧ w'.cell? ⟨gb148,1,none⟩ = some (.float .f64 x149001_1) ∧ w'.cell? ⟨gb148,2,none⟩ = some (.float .f64 x149002_1) ∧ w'.cell? ⟨gb148,3,none⟩ = some (.float .f64 x149003_1) ∧ w'.cell? ⟨gb148,4,none⟩ = some (.float .f64 x149004_1) ∧ w'.cell? ⟨gb148,5,none⟩ = some (.float .f64 x149005_1) ∧ w'.cell? ⟨gb148,6,none⟩ = some (.float .f64 x149006_1) ∧ w'.cell? (ad149.add (x5_1).toNat) = some (.float .f64 (rdOf (0 : Nat) l0 x5_1))) ∧ (w'.heap[gb146]? = some (.cells #[.int .i64 x147000_1,.float .f64 x147001_1,.float .f64 x147002_1,.float .f64 x147003_1,.float .f64 x147004_1,.float .f64 x147005_1,.float .f64 x147006_1] 26 (0,0))) ∧ (w'.heap[gb148]? = some (.cells #[.int .i64 x149000_1,.float .f64 x149001_1,.float .f64 x149002_1,.float .f64 x149003_1,.float .f64 x149004_1,.float .f64 x149005_1,.float .f64 x149006_1] 26 (0,0))) ∧ (w'.heap[s_]? = some (.cells #[.int .i64 0,.float .f64 0,.float .f64 0,.float .f64 0,.float .f64 0,.float .f64 0,.float .f64 0] 26 (0,0))) ∧ (w.heap.size ≤ s_) ∧ (w.heap.size ≤ s_) ∧ (gb146 ≠ s_) ∧ (s_ ≠ gb146) ∧ (gb148 ≠ s_) ∧ (s_ ≠ gb148) ∧ (Below w.heap.size w w')) ?_ ?_
       rotate_left
       ·intro hCont
        refine two_ (i:=5) (j:=9) (Ni:=some 25) (Nj:=some 6) #[true,true,true,true,true,true,false,false,false,false,false,false] #[true,true,true,true,true,false,false,false,false,true,false,false] rfl rfl rfl rfl (two_of HT_.out (by kernel_rfl)) (by decide) (by decide) (fun K hK=>?_) (fun K hK=>?_)
        ·skip
         refine goes_ Try.func19 (by kernel_rfl) rfl #[.agg #[.int .i64 x149000_1,.float .f64 x149001_1,.float .f64 x149002_1,.float .f64 x149003_1,.float .f64 x149004_1,.float .f64 x149005_1,.float .f64 x149006_1],.float .f64 (rdOf (0 : Nat) l0 x5_1)] (by rfl) rfl rfl (by (try simp only [List.map_toArray,List.map_cons,List.map_nil]);first|done|rfl|(simp only [List.length_drop,List.length_take];rfl)) ?_
         with_reducible refine (quarryref31_Put.calls k1 x149000_1 x149001_1 x149002_1 x149003_1 x149004_1 x149005_1 x149006_1 (rdOf (0 : Nat) l0 x5_1) t150 t151 t152 t153 t154 t155 t156 t157 _ A10.out).mono ?_
         rintro e w13 ⟨rfl,hb⟩
         refine ⟨_,rfl,?_⟩
         have n0_:=Aside0.mk (blk_below (g:=gb146) (o:=.cells #[.int .i64 x147000_1,.float .f64 x147001_1,.float .f64 x147002_1,.float .f64 x147003_1,.float .f64 x147004_1,.float .f64 x147005_1,.float .f64 x147006_1] 26 (0,0)) (by (with_reducible repeat (first|refine blk_drewN ?_ _|refine blk_drew ?_|refine blk_alloc ?_ _));exact BK146.out) hb)
         have n1_:=Aside0.mk (blk_below (g:=gb148) (o:=.cells #[.int .i64 x149000_1,.float .f64 x149001_1,.float .f64 x149002_1,.float .f64 x149003_1,.float .f64 x149004_1,.float .f64 x149005_1,.float .f64 x149006_1] 26 (0,0)) (by (with_reducible repeat (first|refine blk_drewN ?_ _|refine blk_drew ?_|refine blk_alloc ?_ _));exact BK148.out) hb)
         have n2_:=Aside0.mk (below_step (by repeat (first|(with_reducible first|exact HB.out|apply below_alloc|apply pw_below_drewN|apply below_drew1|refine below_set ?_ GE146.out|refine below_set ?_ GE148.out)|exact HB.out)) hb)
         clear BK146
         clear BK148
         clear HB
         have BK146:=n0_
         have BK148:=n1_
         have HB:=n2_
         clear n0_ n1_ n2_
         (try clear hb)
         (try clear hb2)
         (try clear hk)
         (try clear hi)
         refine hK.out _ _ ⟨(blk_cell BK148.out 0).trans rfl,(blk_cell BK148.out 1).trans rfl,(blk_cell BK148.out 2).trans rfl,(blk_cell BK148.out 3).trans rfl,(blk_cell BK148.out 4).trans rfl,(blk_cell BK148.out 5).trans rfl,(blk_cell BK148.out 6).trans rfl,((HB.out.cell (World.block_lt_of_cell? w _ hw149_0)).trans hw149_0)⟩ (fun hHeld=>?_)
         clear hK K
         refine norm_ (a':=?_) ?_ ?_
         rotate_left
         ·show Act.put _ (some 25) _ = _
          simp only [Act.put,List.setIfInBounds_toArray,List.set_cons_zero,List.set_cons_succ,i64_w,i32_w]
          rfl
         refine pure_ (i:=6) (N:=some 19) (v:=?_) (a':=?_) #[true,true,true,true,true,true,true,false,false,false,false,false] rfl rfl (any_of HT_.out (by kernel_rfl)) (fun _ _ _ h=>h) (Or.inl ⟨by rfl,?_⟩) ?_ ?_
         rotate_left
         ·intro w'
          go_simp
          with_reducible rfl
         rotate_left
         ·simp only [Act.put,List.setIfInBounds_toArray,List.set_cons_zero,List.set_cons_succ,i64_w,i32_w]
          rfl
         refine pure_ (i:=7) (N:=some 26) (v:=?_) (a':=?_) #[true,true,true,true,true,true,true,true,false,false,false,false] rfl rfl (any_of HT_.out (by kernel_rfl)) (fun _ _ _ h=>h) (Or.inl ⟨by rfl,?_⟩) ?_ ?_
         rotate_left
         ·intro w'
          go_simp
          with_reducible rfl
         rotate_left
         ·simp only [Act.put,List.setIfInBounds_toArray,List.set_cons_zero,List.set_cons_succ,i64_w,i32_w]
          rfl
         refine pure_ (i:=8) (N:=some 27) (v:=?_) (a':=?_) #[true,true,true,true,true,true,true,true,true,false,false,false] rfl rfl (any_of HT_.out (by kernel_rfl)) (fun _ _ _ h=>h) (Or.inl ⟨by rfl,?_⟩) ?_ ?_
         rotate_left
         ·intro w'
          go_simp
          with_reducible rfl
         rotate_left
         ·simp only [Act.put,List.setIfInBounds_toArray,List.set_cons_zero,List.set_cons_succ,i64_w,i32_w]
          rfl
         refine one_ (i:=9) (N:=some 6) #[true,true,true,true,true,true,true,true,true,true,false,false] rfl rfl (one_of HT_.out (by kernel_rfl)) (by decide) (fun K hK=>?_)
         refine box_step ?hg (N:=6) ?hd (cs:=#[.int .i64 0,.float .f64 0,.float .f64 0,.float .f64 0,.float .f64 0,.float .f64 0,.float .f64 0]) (t:=26) ?hr ?_;(case hd=>rfl);(case hg=>rfl);(case hr=>first|(go_simp;done)|(go_simp;rfl))
         intro gb158 hg w14 hbox hb
         have n0_:=Aside0.mk (blk_below (g:=gb146) (o:=.cells #[.int .i64 x147000_1,.float .f64 x147001_1,.float .f64 x147002_1,.float .f64 x147003_1,.float .f64 x147004_1,.float .f64 x147005_1,.float .f64 x147006_1] 26 (0,0)) (by (with_reducible repeat (first|refine blk_drewN ?_ _|refine blk_drew ?_|refine blk_alloc ?_ _));exact BK146.out) hb)
         have n1_:=Aside0.mk (blk_below (g:=gb148) (o:=.cells #[.int .i64 x149000_1,.float .f64 x149001_1,.float .f64 x149002_1,.float .f64 x149003_1,.float .f64 x149004_1,.float .f64 x149005_1,.float .f64 x149006_1] 26 (0,0)) (by (with_reducible repeat (first|refine blk_drewN ?_ _|refine blk_drew ?_|refine blk_alloc ?_ _));exact BK148.out) hb)
         have n2_:=Aside0.mk (below_step (by repeat (first|(with_reducible first|exact HB.out|apply below_alloc|apply pw_below_drewN|apply below_drew1|refine below_set ?_ GE146.out|refine below_set ?_ GE148.out)|exact HB.out)) hb)
         have n3_:=Aside0.mk (hbox)
         have n4_:=Aside0.mk ((by rw [hg];exact (below_size (by repeat (first|(with_reducible first|exact HB.out|apply below_alloc|apply pw_below_drewN|apply below_drew1|refine below_set ?_ GE146.out|refine below_set ?_ GE148.out)|exact HB.out))) : w.heap.size ≤ gb158))
         have n5_:=Aside0.mk ((by rw [hg];exact (below_size (by repeat (first|(with_reducible first|exact HB.out|apply below_alloc|apply pw_below_drewN|apply below_drew1|refine below_set ?_ GE146.out|refine below_set ?_ GE148.out)|exact HB.out))) : w.heap.size ≤ gb158))
         have n6_:=Aside0.mk ((by rw [hg];exact Nat.ne_of_lt (blk_lt (g:=gb146) (o:=.cells #[.int .i64 x147000_1,.float .f64 x147001_1,.float .f64 x147002_1,.float .f64 x147003_1,.float .f64 x147004_1,.float .f64 x147005_1,.float .f64 x147006_1] 26 (0,0)) (by (with_reducible repeat (first|refine blk_drewN ?_ _|refine blk_drew ?_|refine blk_alloc ?_ _));exact BK146.out)) : gb146 ≠ gb158))
         have n7_:=Aside0.mk ((by rw [hg];exact Nat.ne_of_gt (blk_lt (g:=gb146) (o:=.cells #[.int .i64 x147000_1,.float .f64 x147001_1,.float .f64 x147002_1,.float .f64 x147003_1,.float .f64 x147004_1,.float .f64 x147005_1,.float .f64 x147006_1] 26 (0,0)) (by (with_reducible repeat (first|refine blk_drewN ?_ _|refine blk_drew ?_|refine blk_alloc ?_ _));exact BK146.out)) : gb158 ≠ gb146))
         have n8_:=Aside0.mk ((by rw [hg];exact Nat.ne_of_lt (blk_lt (g:=gb148) (o:=.cells #[.int .i64 x149000_1,.float .f64 x149001_1,.float .f64 x149002_1,.float .f64 x149003_1,.float .f64 x149004_1,.float .f64 x149005_1,.float .f64 x149006_1] 26 (0,0)) (by (with_reducible repeat (first|refine blk_drewN ?_ _|refine blk_drew ?_|refine blk_alloc ?_ _));exact BK148.out)) : gb148 ≠ gb158))
         have n9_:=Aside0.mk ((by rw [hg];exact Nat.ne_of_gt (blk_lt (g:=gb148) (o:=.cells #[.int .i64 x149000_1,.float .f64 x149001_1,.float .f64 x149002_1,.float .f64 x149003_1,.float .f64 x149004_1,.float .f64 x149005_1,.float .f64 x149006_1] 26 (0,0)) (by (with_reducible repeat (first|refine blk_drewN ?_ _|refine blk_drew ?_|refine blk_alloc ?_ _));exact BK148.out)) : gb158 ≠ gb148))
         clear BK146
         clear BK148
         clear HB
         have BK146:=n0_
         have BK148:=n1_
         have HB:=n2_
         have BK158:=n3_
         have GW158:=n4_
         have GE158:=n5_
         have NB146_158:=n6_
         have NB158_146:=n7_
         have NB148_158:=n8_
         have NB158_148:=n9_
         clear n0_ n1_ n2_ n3_ n4_ n5_ n6_ n7_ n8_ n9_
         clear hb hbox hg
         refine hK.out _ _ ⟨(blk_cell BK148.out 0).trans rfl,(blk_cell BK148.out 1).trans rfl,(blk_cell BK148.out 2).trans rfl,(blk_cell BK148.out 3).trans rfl,(blk_cell BK148.out 4).trans rfl,(blk_cell BK148.out 5).trans rfl,(blk_cell BK148.out 6).trans rfl,((HB.out.cell (World.block_lt_of_cell? w _ hw149_0)).trans hw149_0)⟩ (fun hHeld=>?_)
         clear hK K
         refine norm_ (a':=?_) ?_ ?_
         rotate_left
         ·show Act.put _ (some 6) _ = _
          simp only [Act.put,List.setIfInBounds_toArray,List.set_cons_zero,List.set_cons_succ,i64_w,i32_w]
          rfl
         exact norm_ (by simp only [putAll,Act.put,List.setIfInBounds_toArray,List.set_cons_zero,List.set_cons_succ]) (hCont (gb158) _ ⟨hHeld,(by (with_reducible repeat (first|refine blk_drewN ?_ _|refine blk_drew ?_|refine blk_alloc ?_ _));exact BK146.out),(by (with_reducible repeat (first|refine blk_drewN ?_ _|refine blk_drew ?_|refine blk_alloc ?_ _));exact BK148.out),(by (with_reducible repeat (first|refine blk_drewN ?_ _|refine blk_drew ?_|refine blk_alloc ?_ _));exact BK158.out),GW158.out,GE158.out,NB146_158.out,NB158_146.out,NB148_158.out,NB158_148.out,(by repeat (first|(with_reducible first|exact HB.out|apply below_alloc|apply pw_below_drewN|apply below_drew1|refine below_set ?_ GE146.out|refine below_set ?_ GE148.out|refine below_set ?_ GE158.out)|exact HB.out))⟩)
        ·skip
         refine box_step ?hg (N:=6) ?hd (cs:=#[.int .i64 0,.float .f64 0,.float .f64 0,.float .f64 0,.float .f64 0,.float .f64 0,.float .f64 0]) (t:=26) ?hr ?_;(case hd=>rfl);(case hg=>rfl);(case hr=>first|(go_simp;done)|(go_simp;rfl))
         intro gb158 hg w13 hbox hb
         have n0_:=Aside0.mk (blk_below (g:=gb146) (o:=.cells #[.int .i64 x147000_1,.float .f64 x147001_1,.float .f64 x147002_1,.float .f64 x147003_1,.float .f64 x147004_1,.float .f64 x147005_1,.float .f64 x147006_1] 26 (0,0)) (by (with_reducible repeat (first|refine blk_drewN ?_ _|refine blk_drew ?_|refine blk_alloc ?_ _));exact BK146.out) hb)
         have n1_:=Aside0.mk (blk_below (g:=gb148) (o:=.cells #[.int .i64 x149000_1,.float .f64 x149001_1,.float .f64 x149002_1,.float .f64 x149003_1,.float .f64 x149004_1,.float .f64 x149005_1,.float .f64 x149006_1] 26 (0,0)) (by (with_reducible repeat (first|refine blk_drewN ?_ _|refine blk_drew ?_|refine blk_alloc ?_ _));exact BK148.out) hb)
         have n2_:=Aside0.mk (below_step (by repeat (first|(with_reducible first|exact HB.out|apply below_alloc|apply pw_below_drewN|apply below_drew1|refine below_set ?_ GE146.out|refine below_set ?_ GE148.out)|exact HB.out)) hb)
         have n3_:=Aside0.mk (hbox)
         have n4_:=Aside0.mk ((by rw [hg];exact (below_size (by repeat (first|(with_reducible first|exact HB.out|apply below_alloc|apply pw_below_drewN|apply below_drew1|refine below_set ?_ GE146.out|refine below_set ?_ GE148.out)|exact HB.out))) : w.heap.size ≤ gb158))
         have n5_:=Aside0.mk ((by rw [hg];exact (below_size (by repeat (first|(with_reducible first|exact HB.out|apply below_alloc|apply pw_below_drewN|apply below_drew1|refine below_set ?_ GE146.out|refine below_set ?_ GE148.out)|exact HB.out))) : w.heap.size ≤ gb158))
         have n6_:=Aside0.mk ((by rw [hg];exact Nat.ne_of_lt (blk_lt (g:=gb146) (o:=.cells #[.int .i64 x147000_1,.float .f64 x147001_1,.float .f64 x147002_1,.float .f64 x147003_1,.float .f64 x147004_1,.float .f64 x147005_1,.float .f64 x147006_1] 26 (0,0)) (by (with_reducible repeat (first|refine blk_drewN ?_ _|refine blk_drew ?_|refine blk_alloc ?_ _));exact BK146.out)) : gb146 ≠ gb158))
         have n7_:=Aside0.mk ((by rw [hg];exact Nat.ne_of_gt (blk_lt (g:=gb146) (o:=.cells #[.int .i64 x147000_1,.float .f64 x147001_1,.float .f64 x147002_1,.float .f64 x147003_1,.float .f64 x147004_1,.float .f64 x147005_1,.float .f64 x147006_1] 26 (0,0)) (by (with_reducible repeat (first|refine blk_drewN ?_ _|refine blk_drew ?_|refine blk_alloc ?_ _));exact BK146.out)) : gb158 ≠ gb146))
         have n8_:=Aside0.mk ((by rw [hg];exact Nat.ne_of_lt (blk_lt (g:=gb148) (o:=.cells #[.int .i64 x149000_1,.float .f64 x149001_1,.float .f64 x149002_1,.float .f64 x149003_1,.float .f64 x149004_1,.float .f64 x149005_1,.float .f64 x149006_1] 26 (0,0)) (by (with_reducible repeat (first|refine blk_drewN ?_ _|refine blk_drew ?_|refine blk_alloc ?_ _));exact BK148.out)) : gb148 ≠ gb158))
         have n9_:=Aside0.mk ((by rw [hg];exact Nat.ne_of_gt (blk_lt (g:=gb148) (o:=.cells #[.int .i64 x149000_1,.float .f64 x149001_1,.float .f64 x149002_1,.float .f64 x149003_1,.float .f64 x149004_1,.float .f64 x149005_1,.float .f64 x149006_1] 26 (0,0)) (by (with_reducible repeat (first|refine blk_drewN ?_ _|refine blk_drew ?_|refine blk_alloc ?_ _));exact BK148.out)) : gb158 ≠ gb148))
         clear BK146
         clear BK148
         clear HB
         have BK146:=n0_
         have BK148:=n1_
         have HB:=n2_
         have BK158:=n3_
         have GW158:=n4_
         have GE158:=n5_
         have NB146_158:=n6_
         have NB158_146:=n7_
         have NB148_158:=n8_
         have NB158_148:=n9_
         clear n0_ n1_ n2_ n3_ n4_ n5_ n6_ n7_ n8_ n9_
         clear hb hbox hg
         refine hK.out _ _ ⟨(blk_cell BK148.out 0).trans rfl,(blk_cell BK148.out 1).trans rfl,(blk_cell BK148.out 2).trans rfl,(blk_cell BK148.out 3).trans rfl,(blk_cell BK148.out 4).trans rfl,(blk_cell BK148.out 5).trans rfl,(blk_cell BK148.out 6).trans rfl,((HB.out.cell (World.block_lt_of_cell? w _ hw149_0)).trans hw149_0)⟩ (fun hHeld=>?_)
         clear hK K
         refine norm_ (a':=?_) ?_ ?_
         rotate_left
         ·show Act.put _ (some 6) _ = _
          simp only [Act.put,List.setIfInBounds_toArray,List.set_cons_zero,List.set_cons_succ,i64_w,i32_w]
          rfl
         refine one_ (i:=5) (N:=some 25) #[true,true,true,true,true,true,false,false,false,true,false,false] rfl rfl (one_of HT_.out (by kernel_rfl)) (by decide) (fun K hK=>?_)
         refine goes_ Try.func19 (by kernel_rfl) rfl #[.agg #[.int .i64 x149000_1,.float .f64 x149001_1,.float .f64 x149002_1,.float .f64 x149003_1,.float .f64 x149004_1,.float .f64 x149005_1,.float .f64 x149006_1],.float .f64 (rdOf (0 : Nat) l0 x5_1)] (by rfl) rfl rfl (by (try simp only [List.map_toArray,List.map_cons,List.map_nil]);first|done|rfl|(simp only [List.length_drop,List.length_take];rfl)) ?_
         with_reducible refine (quarryref31_Put.calls k1 x149000_1 x149001_1 x149002_1 x149003_1 x149004_1 x149005_1 x149006_1 (rdOf (0 : Nat) l0 x5_1) t150 t151 t152 t153 t154 t155 t156 t157 _ A10.out).mono ?_
         rintro e w14 ⟨rfl,hb⟩
         refine ⟨_,rfl,?_⟩
         have n0_:=Aside0.mk (blk_below (g:=gb146) (o:=.cells #[.int .i64 x147000_1,.float .f64 x147001_1,.float .f64 x147002_1,.float .f64 x147003_1,.float .f64 x147004_1,.float .f64 x147005_1,.float .f64 x147006_1] 26 (0,0)) (by (with_reducible repeat (first|refine blk_drewN ?_ _|refine blk_drew ?_|refine blk_alloc ?_ _));exact BK146.out) hb)
         have n1_:=Aside0.mk (blk_below (g:=gb148) (o:=.cells #[.int .i64 x149000_1,.float .f64 x149001_1,.float .f64 x149002_1,.float .f64 x149003_1,.float .f64 x149004_1,.float .f64 x149005_1,.float .f64 x149006_1] 26 (0,0)) (by (with_reducible repeat (first|refine blk_drewN ?_ _|refine blk_drew ?_|refine blk_alloc ?_ _));exact BK148.out) hb)
         have n2_:=Aside0.mk (blk_below (g:=gb158) (o:=.cells #[.int .i64 0,.float .f64 0,.float .f64 0,.float .f64 0,.float .f64 0,.float .f64 0,.float .f64 0] 26 (0,0)) (by (with_reducible repeat (first|refine blk_drewN ?_ _|refine blk_drew ?_|refine blk_alloc ?_ _));exact BK158.out) hb)
         have n3_:=Aside0.mk (below_step (by repeat (first|(with_reducible first|exact HB.out|apply below_alloc|apply pw_below_drewN|apply below_drew1|refine below_set ?_ GE146.out|refine below_set ?_ GE148.out|refine below_set ?_ GE158.out)|exact HB.out)) hb)
         clear BK146
         clear BK148
         clear BK158
         clear HB
         have BK146:=n0_
         have BK148:=n1_
         have BK158:=n2_
         have HB:=n3_
         clear n0_ n1_ n2_ n3_
         (try clear hb)
         (try clear hb2)
         (try clear hk)
         (try clear hi)
         refine hK.out _ _ ⟨(blk_cell BK148.out 0).trans rfl,(blk_cell BK148.out 1).trans rfl,(blk_cell BK148.out 2).trans rfl,(blk_cell BK148.out 3).trans rfl,(blk_cell BK148.out 4).trans rfl,(blk_cell BK148.out 5).trans rfl,(blk_cell BK148.out 6).trans rfl,((HB.out.cell (World.block_lt_of_cell? w _ hw149_0)).trans hw149_0)⟩ (fun hHeld=>?_)
         clear hK K
         refine norm_ (a':=?_) ?_ ?_
         rotate_left
         ·show Act.put _ (some 25) _ = _
          simp only [Act.put,List.setIfInBounds_toArray,List.set_cons_zero,List.set_cons_succ,i64_w,i32_w]
          rfl
         refine pure_ (i:=6) (N:=some 19) (v:=?_) (a':=?_) #[true,true,true,true,true,true,true,false,false,true,false,false] rfl rfl (any_of HT_.out (by kernel_rfl)) (fun _ _ _ h=>h) (Or.inl ⟨by rfl,?_⟩) ?_ ?_
         rotate_left
         ·intro w'
          go_simp
          with_reducible rfl
         rotate_left
         ·simp only [Act.put,List.setIfInBounds_toArray,List.set_cons_zero,List.set_cons_succ,i64_w,i32_w]
          rfl
         refine pure_ (i:=7) (N:=some 26) (v:=?_) (a':=?_) #[true,true,true,true,true,true,true,true,false,true,false,false] rfl rfl (any_of HT_.out (by kernel_rfl)) (fun _ _ _ h=>h) (Or.inl ⟨by rfl,?_⟩) ?_ ?_
         rotate_left
         ·intro w'
          go_simp
          with_reducible rfl
         rotate_left
         ·simp only [Act.put,List.setIfInBounds_toArray,List.set_cons_zero,List.set_cons_succ,i64_w,i32_w]
          rfl
         refine pure_ (i:=8) (N:=some 27) (v:=?_) (a':=?_) #[true,true,true,true,true,true,true,true,true,true,false,false] rfl rfl (any_of HT_.out (by kernel_rfl)) (fun _ _ _ h=>h) (Or.inl ⟨by rfl,?_⟩) ?_ ?_
         rotate_left
         ·intro w'
          go_simp
          with_reducible rfl
         rotate_left
         ·simp only [Act.put,List.setIfInBounds_toArray,List.set_cons_zero,List.set_cons_succ,i64_w,i32_w]
          rfl
         exact norm_ (by simp only [putAll,Act.put,List.setIfInBounds_toArray,List.set_cons_zero,List.set_cons_succ]) (hCont (gb158) _ ⟨hHeld,(by (with_reducible repeat (first|refine blk_drewN ?_ _|refine blk_drew ?_|refine blk_alloc ?_ _));exact BK146.out),(by (with_reducible repeat (first|refine blk_drewN ?_ _|refine blk_drew ?_|refine blk_alloc ?_ _));exact BK148.out),(by (with_reducible repeat (first|refine blk_drewN ?_ _|refine blk_drew ?_|refine blk_alloc ?_ _));exact BK158.out),GW158.out,GE158.out,NB146_158.out,NB158_146.out,NB148_158.out,NB158_148.out,(by repeat (first|(with_reducible first|exact HB.out|apply below_alloc|apply pw_below_drewN|apply below_drew1|refine below_set ?_ GE146.out|refine below_set ?_ GE148.out|refine below_set ?_ GE158.out)|exact HB.out))⟩)
       rintro gb158 w15 ⟨hS_,h0_,h1_,h2_,h3_,h4_,h5_,h6_,h7_,h8_,h9_⟩
       have n0_ : Aside0 (w15.heap[gb146]? = some (.cells #[.int .i64 x147000_1,.float .f64 x147001_1,.float .f64 x147002_1,.float .f64 x147003_1,.float .f64 x147004_1,.float .f64 x147005_1,.float .f64 x147006_1] 26 (0,0))):=⟨h0_⟩
       have n1_ : Aside0 (w15.heap[gb148]? = some (.cells #[.int .i64 x149000_1,.float .f64 x149001_1,.float .f64 x149002_1,.float .f64 x149003_1,.float .f64 x149004_1,.float .f64 x149005_1,.float .f64 x149006_1] 26 (0,0))):=⟨h1_⟩
       have n2_ : Aside0 (w15.heap[gb158]? = some (.cells #[.int .i64 0,.float .f64 0,.float .f64 0,.float .f64 0,.float .f64 0,.float .f64 0,.float .f64 0] 26 (0,0))):=⟨h2_⟩
       have n3_ : Aside0 (w.heap.size ≤ gb158):=⟨h3_⟩
       have n4_ : Aside0 (w.heap.size ≤ gb158):=⟨h4_⟩
       have n5_ : Aside0 (gb146 ≠ gb158):=⟨h5_⟩
       have n6_ : Aside0 (gb158 ≠ gb146):=⟨h6_⟩
       have n7_ : Aside0 (gb148 ≠ gb158):=⟨h7_⟩
       have n8_ : Aside0 (gb158 ≠ gb148):=⟨h8_⟩
       have n9_ : Aside0 (Below w.heap.size w w15):=⟨h9_⟩
       clear BK146
       clear BK148
       clear HB
       clear h0_ h1_ h2_ h3_ h4_ h5_ h6_ h7_ h8_ h9_
       have BK146:=n0_
       have BK148:=n1_
       have BK158:=n2_
       have GW158:=n3_
       have GE158:=n4_
       have NB146_158:=n5_
       have NB158_146:=n6_
       have NB148_158:=n7_
       have NB158_148:=n8_
       have HB:=n9_
       clear n0_ n1_ n2_ n3_ n4_ n5_ n6_ n7_ n8_ n9_
       have hHeld : w15.cell? ⟨gb148,0,none⟩ = some (.int .i64 x149000_1) ∧ w15.cell? ⟨gb148,1,none⟩ = some (.float .f64 x149001_1) ∧ w15.cell? ⟨gb148,2,none⟩ = some (.float .f64 x149002_1) ∧ w15.cell? ⟨gb148,3,none⟩ = some (.float .f64 x149003_1) ∧ w15.cell? ⟨gb148,4,none⟩ = some (.float .f64 x149004_1) ∧ w15.cell? ⟨gb148,5,none⟩ = some (.float .f64 x149005_1) ∧ w15.cell? ⟨gb148,6,none⟩ = some (.float .f64 x149006_1) ∧ w15.cell? (ad149.add (x5_1).toNat) = some (.float .f64 (rdOf (0 : Nat) l0 x5_1)):=hS_
       refine norm_ (a':=?_) ?_ ?_
       rotate_left
       ·simp only [putAll,Act.put,List.setIfInBounds_toArray,List.set_cons_zero,List.set_cons_succ]
        rfl
       refine one_ (i:=10) (N:=none) #[true,true,true,true,true,true,true,true,true,true,true,false] rfl rfl (one_of HT_.out (by kernel_rfl)) (by decide) (fun K hK=>?_)
       have hs16 : w15.cell? ⟨gb158,0,none⟩ = some (.int .i64 0):=(blk_cell BK158.out 0).trans rfl
       have hfs16:=blk_frozen BK158.out 0
       have hns16_0:=NB146_158.out
       have hns16_1:=NB148_158.out
       have hms16_0:=NB158_146.out
       have hms16_1:=NB158_148.out
       have hs17 : w15.cell? ⟨gb158,1,none⟩ = some (.float .f64 0):=(blk_cell BK158.out 1).trans rfl
       have hfs17:=blk_frozen BK158.out 1
       have hns17_0:=NB146_158.out
       have hns17_1:=NB148_158.out
       have hms17_0:=NB158_146.out
       have hms17_1:=NB158_148.out
       have hs18 : w15.cell? ⟨gb158,2,none⟩ = some (.float .f64 0):=(blk_cell BK158.out 2).trans rfl
       have hfs18:=blk_frozen BK158.out 2
       have hns18_0:=NB146_158.out
       have hns18_1:=NB148_158.out
       have hms18_0:=NB158_146.out
       have hms18_1:=NB158_148.out
       have hs19 : w15.cell? ⟨gb158,3,none⟩ = some (.float .f64 0):=(blk_cell BK158.out 3).trans rfl
       have hfs19:=blk_frozen BK158.out 3
       have hns19_0:=NB146_158.out
       have hns19_1:=NB148_158.out
       have hms19_0:=NB158_146.out
       have hms19_1:=NB158_148.out
       have hs20 : w15.cell? ⟨gb158,4,none⟩ = some (.float .f64 0):=(blk_cell BK158.out 4).trans rfl
       have hfs20:=blk_frozen BK158.out 4
       have hns20_0:=NB146_158.out
       have hns20_1:=NB148_158.out
       have hms20_0:=NB158_146.out
       have hms20_1:=NB158_148.out
       have hs21 : w15.cell? ⟨gb158,5,none⟩ = some (.float .f64 0):=(blk_cell BK158.out 5).trans rfl
       have hfs21:=blk_frozen BK158.out 5
       have hns21_0:=NB146_158.out
       have hns21_1:=NB148_158.out
       have hms21_0:=NB158_146.out
       have hms21_1:=NB158_148.out
       have hs22 : w15.cell? ⟨gb158,6,none⟩ = some (.float .f64 0):=(blk_cell BK158.out 6).trans rfl
       have hfs22:=blk_frozen BK158.out 6
       have hns22_0:=NB146_158.out
       have hns22_1:=NB148_158.out
       have hms22_0:=NB158_146.out
       have hms22_1:=NB158_148.out
       refine skip_ (w1:=?_) (by rfl) rfl ?_ ?_
       rotate_left
       ·go_simp
        rfl
       refine hK.out _ _ ⟨((cell_far (p:=⟨gb158,_,none⟩) NB148_158.out _).trans (((cell_far (p:=⟨gb158,_,none⟩) NB148_158.out _).trans (((cell_far (p:=⟨gb158,_,none⟩) NB148_158.out _).trans (((cell_far (p:=⟨gb158,_,none⟩) NB148_158.out _).trans (((cell_far (p:=⟨gb158,_,none⟩) NB148_158.out _).trans (((cell_far (p:=⟨gb158,_,none⟩) NB148_158.out _).trans (((cell_far (p:=⟨gb158,_,none⟩) NB148_158.out _).trans (hHeld.1)))))))))))))),((cell_far (p:=⟨gb158,_,none⟩) NB148_158.out _).trans (((cell_far (p:=⟨gb158,_,none⟩) NB148_158.out _).trans (((cell_far (p:=⟨gb158,_,none⟩) NB148_158.out _).trans (((cell_far (p:=⟨gb158,_,none⟩) NB148_158.out _).trans (((cell_far (p:=⟨gb158,_,none⟩) NB148_158.out _).trans (((cell_far (p:=⟨gb158,_,none⟩) NB148_158.out _).trans (((cell_far (p:=⟨gb158,_,none⟩) NB148_158.out _).trans (hHeld.2.1)))))))))))))),((cell_far (p:=⟨gb158,_,none⟩) NB148_158.out _).trans (((cell_far (p:=⟨gb158,_,none⟩) NB148_158.out _).trans (((cell_far (p:=⟨gb158,_,none⟩) NB148_158.out _).trans (((cell_far (p:=⟨gb158,_,none⟩) NB148_158.out _).trans (((cell_far (p:=⟨gb158,_,none⟩) NB148_158.out _).trans (((cell_far (p:=⟨gb158,_,none⟩) NB148_158.out _).trans (((cell_far (p:=⟨gb158,_,none⟩) NB148_158.out _).trans (hHeld.2.2.1)))))))))))))),((cell_far (p:=⟨gb158,_,none⟩) NB148_158.out _).trans (((cell_far (p:=⟨gb158,_,none⟩) NB148_158.out _).trans (((cell_far (p:=⟨gb158,_,none⟩) NB148_158.out _).trans (((cell_far (p:=⟨gb158,_,none⟩) NB148_158.out _).trans (((cell_far (p:=⟨gb158,_,none⟩) NB148_158.out _).trans (((cell_far (p:=⟨gb158,_,none⟩) NB148_158.out _).trans (((cell_far (p:=⟨gb158,_,none⟩) NB148_158.out _).trans (hHeld.2.2.2.1)))))))))))))),((cell_far (p:=⟨gb158,_,none⟩) NB148_158.out _).trans (((cell_far (p:=⟨gb158,_,none⟩) NB148_158.out _).trans (((cell_far (p:=⟨gb158,_,none⟩) NB148_158.out _).trans (((cell_far (p:=⟨gb158,_,none⟩) NB148_158.out _).trans (((cell_far (p:=⟨gb158,_,none⟩) NB148_158.out _).trans (((cell_far (p:=⟨gb158,_,none⟩) NB148_158.out _).trans (((cell_far (p:=⟨gb158,_,none⟩) NB148_158.out _).trans (hHeld.2.2.2.2.1)))))))))))))),((cell_far (p:=⟨gb158,_,none⟩) NB148_158.out _).trans (((cell_far (p:=⟨gb158,_,none⟩) NB148_158.out _).trans (((cell_far (p:=⟨gb158,_,none⟩) NB148_158.out _).trans (((cell_far (p:=⟨gb158,_,none⟩) NB148_158.out _).trans (((cell_far (p:=⟨gb158,_,none⟩) NB148_158.out _).trans (((cell_far (p:=⟨gb158,_,none⟩) NB148_158.out _).trans (((cell_far (p:=⟨gb158,_,none⟩) NB148_158.out _).trans (hHeld.2.2.2.2.2.1)))))))))))))),((cell_far (p:=⟨gb158,_,none⟩) NB148_158.out _).trans (((cell_far (p:=⟨gb158,_,none⟩) NB148_158.out _).trans (((cell_far (p:=⟨gb158,_,none⟩) NB148_158.out _).trans (((cell_far (p:=⟨gb158,_,none⟩) NB148_158.out _).trans (((cell_far (p:=⟨gb158,_,none⟩) NB148_158.out _).trans (((cell_far (p:=⟨gb158,_,none⟩) NB148_158.out _).trans (((cell_far (p:=⟨gb158,_,none⟩) NB148_158.out _).trans (hHeld.2.2.2.2.2.2.1)))))))))))))),((cell_far (p:=⟨gb158,_,none⟩) (by first|exact Nat.ne_of_lt (Nat.lt_of_lt_of_le (by have:=World.block_lt_of_cell? _ _ hw149_0;first|rwa [add_block] at this|exact this) GW158.out)|(rw [add_block];exact Nat.ne_of_lt (Nat.lt_of_lt_of_le (by have:=World.block_lt_of_cell? _ _ hw149_0;first|rwa [add_block] at this|exact this) GW158.out))|(show (Addr.add _ _).block ≠ _;rw [add_block];exact Nat.ne_of_lt (Nat.lt_of_lt_of_le (by have:=World.block_lt_of_cell? _ _ hw149_0;first|rwa [add_block] at this|exact this) GW158.out))|(dsimp only;exact Nat.ne_of_lt (Nat.lt_of_lt_of_le (by have:=World.block_lt_of_cell? _ _ hw149_0;first|rwa [add_block] at this|exact this) GW158.out))) _).trans (((cell_far (p:=⟨gb158,_,none⟩) (by first|exact Nat.ne_of_lt (Nat.lt_of_lt_of_le (by have:=World.block_lt_of_cell? _ _ hw149_0;first|rwa [add_block] at this|exact this) GW158.out)|(rw [add_block];exact Nat.ne_of_lt (Nat.lt_of_lt_of_le (by have:=World.block_lt_of_cell? _ _ hw149_0;first|rwa [add_block] at this|exact this) GW158.out))|(show (Addr.add _ _).block ≠ _;rw [add_block];exact Nat.ne_of_lt (Nat.lt_of_lt_of_le (by have:=World.block_lt_of_cell? _ _ hw149_0;first|rwa [add_block] at this|exact this) GW158.out))|(dsimp only;exact Nat.ne_of_lt (Nat.lt_of_lt_of_le (by have:=World.block_lt_of_cell? _ _ hw149_0;first|rwa [add_block] at this|exact this) GW158.out))) _).trans (((cell_far (p:=⟨gb158,_,none⟩) (by first|exact Nat.ne_of_lt (Nat.lt_of_lt_of_le (by have:=World.block_lt_of_cell? _ _ hw149_0;first|rwa [add_block] at this|exact this) GW158.out)|(rw [add_block];exact Nat.ne_of_lt (Nat.lt_of_lt_of_le (by have:=World.block_lt_of_cell? _ _ hw149_0;first|rwa [add_block] at this|exact this) GW158.out))|(show (Addr.add _ _).block ≠ _;rw [add_block];exact Nat.ne_of_lt (Nat.lt_of_lt_of_le (by have:=World.block_lt_of_cell? _ _ hw149_0;first|rwa [add_block] at this|exact this) GW158.out))|(dsimp only;exact Nat.ne_of_lt (Nat.lt_of_lt_of_le (by have:=World.block_lt_of_cell? _ _ hw149_0;first|rwa [add_block] at this|exact this) GW158.out))) _).trans (((cell_far (p:=⟨gb158,_,none⟩) (by first|exact Nat.ne_of_lt (Nat.lt_of_lt_of_le (by have:=World.block_lt_of_cell? _ _ hw149_0;first|rwa [add_block] at this|exact this) GW158.out)|(rw [add_block];exact Nat.ne_of_lt (Nat.lt_of_lt_of_le (by have:=World.block_lt_of_cell? _ _ hw149_0;first|rwa [add_block] at this|exact this) GW158.out))|(show (Addr.add _ _).block ≠ _;rw [add_block];exact Nat.ne_of_lt (Nat.lt_of_lt_of_le (by have:=World.block_lt_of_cell? _ _ hw149_0;first|rwa [add_block] at this|exact this) GW158.out))|(dsimp only;exact Nat.ne_of_lt (Nat.lt_of_lt_of_le (by have:=World.block_lt_of_cell? _ _ hw149_0;first|rwa [add_block] at this|exact this) GW158.out))) _).trans (((cell_far (p:=⟨gb158,_,none⟩) (by first|exact Nat.ne_of_lt (Nat.lt_of_lt_of_le (by have:=World.block_lt_of_cell? _ _ hw149_0;first|rwa [add_block] at this|exact this) GW158.out)|(rw [add_block];exact Nat.ne_of_lt (Nat.lt_of_lt_of_le (by have:=World.block_lt_of_cell? _ _ hw149_0;first|rwa [add_block] at this|exact this) GW158.out))|(show (Addr.add _ _).block ≠ _;rw [add_block];exact Nat.ne_of_lt (Nat.lt_of_lt_of_le (by have:=World.block_lt_of_cell? _ _ hw149_0;first|rwa [add_block] at this|exact this) GW158.out))|(dsimp only;exact Nat.ne_of_lt (Nat.lt_of_lt_of_le (by have:=World.block_lt_of_cell? _ _ hw149_0;first|rwa [add_block] at this|exact this) GW158.out))) _).trans (((cell_far (p:=⟨gb158,_,none⟩) (by first|exact Nat.ne_of_lt (Nat.lt_of_lt_of_le (by have:=World.block_lt_of_cell? _ _ hw149_0;first|rwa [add_block] at this|exact this) GW158.out)|(rw [add_block];exact Nat.ne_of_lt (Nat.lt_of_lt_of_le (by have:=World.block_lt_of_cell? _ _ hw149_0;first|rwa [add_block] at this|exact this) GW158.out))|(show (Addr.add _ _).block ≠ _;rw [add_block];exact Nat.ne_of_lt (Nat.lt_of_lt_of_le (by have:=World.block_lt_of_cell? _ _ hw149_0;first|rwa [add_block] at this|exact this) GW158.out))|(dsimp only;exact Nat.ne_of_lt (Nat.lt_of_lt_of_le (by have:=World.block_lt_of_cell? _ _ hw149_0;first|rwa [add_block] at this|exact this) GW158.out))) _).trans (((cell_far (p:=⟨gb158,_,none⟩) (by first|exact Nat.ne_of_lt (Nat.lt_of_lt_of_le (by have:=World.block_lt_of_cell? _ _ hw149_0;first|rwa [add_block] at this|exact this) GW158.out)|(rw [add_block];exact Nat.ne_of_lt (Nat.lt_of_lt_of_le (by have:=World.block_lt_of_cell? _ _ hw149_0;first|rwa [add_block] at this|exact this) GW158.out))|(show (Addr.add _ _).block ≠ _;rw [add_block];exact Nat.ne_of_lt (Nat.lt_of_lt_of_le (by have:=World.block_lt_of_cell? _ _ hw149_0;first|rwa [add_block] at this|exact this) GW158.out))|(dsimp only;exact Nat.ne_of_lt (Nat.lt_of_lt_of_le (by have:=World.block_lt_of_cell? _ _ hw149_0;first|rwa [add_block] at this|exact this) GW158.out))) _).trans (hHeld.2.2.2.2.2.2.2))))))))))))))⟩ (fun hHeld=>?_)
       clear hK K
       refine pure_ (i:=11) (N:=some 7) (v:=?_) (a':=?_) #[true,true,true,true,true,true,true,true,true,true,true,true] rfl rfl (any_of HT_.out (by kernel_rfl)) (fun _ _ _ h=>h) (Or.inl ⟨by rfl,?_⟩) ?_ ?_
       rotate_left
       ·intro w'
        go_simp
        with_reducible rfl
       rotate_left
       ·simp only [Act.put,List.setIfInBounds_toArray,List.set_cons_zero,List.set_cons_succ,i64_w,i32_w]
        rfl
       refine done_ (done_of HT_.out (by kernel_rfl)) ?_
       have hnb23:=NB158_146.out
       have hnc23:=NB146_158.out
       have hnb24:=NB158_148.out
       have hnc24:=NB148_158.out
       have hcz25_0 : w15.cell? ⟨gb158,0,none⟩ = some (.int .i64 0):=(blk_cell BK158.out 0).trans rfl
       have hcz25_1 : w15.cell? ⟨gb158,1,none⟩ = some (.float .f64 0):=(blk_cell BK158.out 1).trans rfl
       have hcz25_2 : w15.cell? ⟨gb158,2,none⟩ = some (.float .f64 0):=(blk_cell BK158.out 2).trans rfl
       have hcz25_3 : w15.cell? ⟨gb158,3,none⟩ = some (.float .f64 0):=(blk_cell BK158.out 3).trans rfl
       have hcz25_4 : w15.cell? ⟨gb158,4,none⟩ = some (.float .f64 0):=(blk_cell BK158.out 4).trans rfl
       have hcz25_5 : w15.cell? ⟨gb158,5,none⟩ = some (.float .f64 0):=(blk_cell BK158.out 5).trans rfl
       have hcz25_6 : w15.cell? ⟨gb158,6,none⟩ = some (.float .f64 0):=(blk_cell BK158.out 6).trans rfl
       have hfz25_0:=blk_frozen BK158.out 0
       have hfz25_1:=blk_frozen BK158.out 1
       have hfz25_2:=blk_frozen BK158.out 2
       have hfz25_3:=blk_frozen BK158.out 3
       have hfz25_4:=blk_frozen BK158.out 4
       have hfz25_5:=blk_frozen BK158.out 5
       have hfz25_6:=blk_frozen BK158.out 6
       have hnb26:=NB148_146.out
       have hnc26:=NB146_148.out
       have hcz27_0 : w15.cell? ⟨gb148,0,none⟩ = some (.int .i64 x149000_1):=(blk_cell BK148.out 0).trans rfl
       have hcz27_1 : w15.cell? ⟨gb148,1,none⟩ = some (.float .f64 x149001_1):=(blk_cell BK148.out 1).trans rfl
       have hcz27_2 : w15.cell? ⟨gb148,2,none⟩ = some (.float .f64 x149002_1):=(blk_cell BK148.out 2).trans rfl
       have hcz27_3 : w15.cell? ⟨gb148,3,none⟩ = some (.float .f64 x149003_1):=(blk_cell BK148.out 3).trans rfl
       have hcz27_4 : w15.cell? ⟨gb148,4,none⟩ = some (.float .f64 x149004_1):=(blk_cell BK148.out 4).trans rfl
       have hcz27_5 : w15.cell? ⟨gb148,5,none⟩ = some (.float .f64 x149005_1):=(blk_cell BK148.out 5).trans rfl
       have hcz27_6 : w15.cell? ⟨gb148,6,none⟩ = some (.float .f64 x149006_1):=(blk_cell BK148.out 6).trans rfl
       have hfz27_0:=blk_frozen BK148.out 0
       have hfz27_1:=blk_frozen BK148.out 1
       have hfz27_2:=blk_frozen BK148.out 2
       have hfz27_3:=blk_frozen BK148.out 3
       have hfz27_4:=blk_frozen BK148.out 4
       have hfz27_5:=blk_frozen BK148.out 5
       have hfz27_6:=blk_frozen BK148.out 6
       try go_wp2
       go_roundg k1
       case measure=>have:=HK1.out;omega
       case rel=>exact ⟨(wrap64 (x5_1 + 1)),(x147000_1),(x147001_1),(x147002_1),(x147003_1),(x147004_1),(x147005_1),(x147006_1),(t150),(t151),(t152),(t153),(t154),(t155),(t156),(by first|rfl|(simp;done)|(simp [*];done)),(by first|exact H'|(subst_vars;exact H')),⟨by have:=HK1.out;omega⟩,⟨by (with_reducible repeat (first|refine blk_drewN ?_ _|refine blk_drew ?_|refine blk_alloc ?_ _));refine blk_far ?_ NB146_148.out _;(with_reducible repeat (first|refine blk_drewN ?_ _|refine blk_drew ?_|refine blk_alloc ?_ _));refine blk_far ?_ NB146_148.out _;(with_reducible repeat (first|refine blk_drewN ?_ _|refine blk_drew ?_|refine blk_alloc ?_ _));refine blk_far ?_ NB146_148.out _;(with_reducible repeat (first|refine blk_drewN ?_ _|refine blk_drew ?_|refine blk_alloc ?_ _));refine blk_far ?_ NB146_148.out _;(with_reducible repeat (first|refine blk_drewN ?_ _|refine blk_drew ?_|refine blk_alloc ?_ _));refine blk_far ?_ NB146_148.out _;(with_reducible repeat (first|refine blk_drewN ?_ _|refine blk_drew ?_|refine blk_alloc ?_ _));refine blk_far ?_ NB146_148.out _;(with_reducible repeat (first|refine blk_drewN ?_ _|refine blk_drew ?_|refine blk_alloc ?_ _));refine blk_far ?_ NB146_148.out _;(with_reducible repeat (first|refine blk_drewN ?_ _|refine blk_drew ?_|refine blk_alloc ?_ _));refine blk_far ?_ NB146_158.out _;(with_reducible repeat (first|refine blk_drewN ?_ _|refine blk_drew ?_|refine blk_alloc ?_ _));refine blk_far ?_ NB146_158.out _;(with_reducible repeat (first|refine blk_drewN ?_ _|refine blk_drew ?_|refine blk_alloc ?_ _));refine blk_far ?_ NB146_158.out _;(with_reducible repeat (first|refine blk_drewN ?_ _|refine blk_drew ?_|refine blk_alloc ?_ _));refine blk_far ?_ NB146_158.out _;(with_reducible repeat (first|refine blk_drewN ?_ _|refine blk_drew ?_|refine blk_alloc ?_ _));refine blk_far ?_ NB146_158.out _;(with_reducible repeat (first|refine blk_drewN ?_ _|refine blk_drew ?_|refine blk_alloc ?_ _));refine blk_far ?_ NB146_158.out _;(with_reducible repeat (first|refine blk_drewN ?_ _|refine blk_drew ?_|refine blk_alloc ?_ _));refine blk_far ?_ NB146_158.out _;(with_reducible repeat (first|refine blk_drewN ?_ _|refine blk_drew ?_|refine blk_alloc ?_ _));exact BK146.out⟩,⟨by (with_reducible repeat (first|refine blk_drewN ?_ _|refine blk_drew ?_|refine blk_alloc ?_ _));refine blk_put (cs:=#[.int .i64 t150,.float .f64 t151,.float .f64 t152,.float .f64 t153,.float .f64 t154,.float .f64 t155,.float .f64 x149006_1]) ?_ 6 _ (by first|rfl|(simp only [px_pos,px_ne];rfl)|simp [px_pos,px_ne]);(with_reducible repeat (first|refine blk_drewN ?_ _|refine blk_drew ?_|refine blk_alloc ?_ _));refine blk_put (cs:=#[.int .i64 t150,.float .f64 t151,.float .f64 t152,.float .f64 t153,.float .f64 t154,.float .f64 x149005_1,.float .f64 x149006_1]) ?_ 5 _ (by first|rfl|(simp only [px_pos,px_ne];rfl)|simp [px_pos,px_ne]);(with_reducible repeat (first|refine blk_drewN ?_ _|refine blk_drew ?_|refine blk_alloc ?_ _));refine blk_put (cs:=#[.int .i64 t150,.float .f64 t151,.float .f64 t152,.float .f64 t153,.float .f64 x149004_1,.float .f64 x149005_1,.float .f64 x149006_1]) ?_ 4 _ (by first|rfl|(simp only [px_pos,px_ne];rfl)|simp [px_pos,px_ne]);(with_reducible repeat (first|refine blk_drewN ?_ _|refine blk_drew ?_|refine blk_alloc ?_ _));refine blk_put (cs:=#[.int .i64 t150,.float .f64 t151,.float .f64 t152,.float .f64 x149003_1,.float .f64 x149004_1,.float .f64 x149005_1,.float .f64 x149006_1]) ?_ 3 _ (by first|rfl|(simp only [px_pos,px_ne];rfl)|simp [px_pos,px_ne]);(with_reducible repeat (first|refine blk_drewN ?_ _|refine blk_drew ?_|refine blk_alloc ?_ _));refine blk_put (cs:=#[.int .i64 t150,.float .f64 t151,.float .f64 x149002_1,.float .f64 x149003_1,.float .f64 x149004_1,.float .f64 x149005_1,.float .f64 x149006_1]) ?_ 2 _ (by first|rfl|(simp only [px_pos,px_ne];rfl)|simp [px_pos,px_ne]);(with_reducible repeat (first|refine blk_drewN ?_ _|refine blk_drew ?_|refine blk_alloc ?_ _));refine blk_put (cs:=#[.int .i64 t150,.float .f64 x149001_1,.float .f64 x149002_1,.float .f64 x149003_1,.float .f64 x149004_1,.float .f64 x149005_1,.float .f64 x149006_1]) ?_ 1 _ (by first|rfl|(simp only [px_pos,px_ne];rfl)|simp [px_pos,px_ne]);(with_reducible repeat (first|refine blk_drewN ?_ _|refine blk_drew ?_|refine blk_alloc ?_ _));refine blk_put (cs:=#[.int .i64 x149000_1,.float .f64 x149001_1,.float .f64 x149002_1,.float .f64 x149003_1,.float .f64 x149004_1,.float .f64 x149005_1,.float .f64 x149006_1]) ?_ 0 _ (by first|rfl|(simp only [px_pos,px_ne];rfl)|simp [px_pos,px_ne]);(with_reducible repeat (first|refine blk_drewN ?_ _|refine blk_drew ?_|refine blk_alloc ?_ _));refine blk_far ?_ NB148_158.out _;(with_reducible repeat (first|refine blk_drewN ?_ _|refine blk_drew ?_|refine blk_alloc ?_ _));refine blk_far ?_ NB148_158.out _;(with_reducible repeat (first|refine blk_drewN ?_ _|refine blk_drew ?_|refine blk_alloc ?_ _));refine blk_far ?_ NB148_158.out _;(with_reducible repeat (first|refine blk_drewN ?_ _|refine blk_drew ?_|refine blk_alloc ?_ _));refine blk_far ?_ NB148_158.out _;(with_reducible repeat (first|refine blk_drewN ?_ _|refine blk_drew ?_|refine blk_alloc ?_ _));refine blk_far ?_ NB148_158.out _;(with_reducible repeat (first|refine blk_drewN ?_ _|refine blk_drew ?_|refine blk_alloc ?_ _));refine blk_far ?_ NB148_158.out _;(with_reducible repeat (first|refine blk_drewN ?_ _|refine blk_drew ?_|refine blk_alloc ?_ _));refine blk_far ?_ NB148_158.out _;(with_reducible repeat (first|refine blk_drewN ?_ _|refine blk_drew ?_|refine blk_alloc ?_ _));exact BK148.out⟩,⟨by repeat (first|(with_reducible first|exact HB.out|apply below_alloc|apply pw_below_drewN|apply below_drew1|refine below_set ?_ GE146.out|refine below_set ?_ GE148.out|refine below_set ?_ GE158.out)|exact HB.out)⟩⟩
      ·rw [if_neg c11] at H
       have c11b0 : (t157 == 0) = false:=beq_eq_false_iff_ne.mpr c11
       have c11b1 : (t157 != 0) = true:=bne_iff_ne.mpr c11
       simp only [Option.some.injEq,Prod.mk.injEq] at H
       obtain ⟨rfl,rfl,rfl,rfl,rfl,rfl,rfl,rfl⟩:=H
       try go_wp2
       have n0_:=Aside0.mk (blk_drew BK146.out)
       have n1_:=Aside0.mk (blk_drew BK148.out)
       have n2_:=Aside0.mk (below_drew1 HB.out)
       clear BK146
       clear BK148
       clear HB
       have BK146:=n0_
       have BK148:=n1_
       have HB:=n2_
       clear n0_ n1_ n2_
       have p149 : 0 ≤ (x5_1 : Int):=of_decide_eq_true (by first|(with_reducible assumption)|assumption)
       have q149 : x5_1 < (l0.length : Int):=of_decide_eq_true (by first|(with_reducible assumption)|assumption)
       obtain ⟨ad149,e149,hx149_0⟩:=Kd.at_f64 HR0.out x5_1 p149 q149
       have hw149_0:=hx149_0
       cases e149
       replace hx149_0:=(HB.out.cell (World.block_lt_of_cell? w _ hx149_0)).trans hx149_0
       replace p149:=eq_true p149
       replace q149:=eq_true q149
       refine start_ (n:=12) (S:=fun w'=>w'.cell? ⟨gb148,0,none⟩ = some (.int .i64 x149000_1) ∧ w'.cell? ⟨gb148,1,none⟩ = some (.float .f64 x149001_1) ∧ w'.cell? ⟨gb148,2,none⟩ = some (.float .f64 x149002_1) ∧ w'.cell? ⟨gb148,3,none⟩ = some (.float .f64 x149003_1) ∧ w'.cell? ⟨gb148,4,none⟩ = some (.float .f64 x149004_1) ∧ w'.cell? ⟨gb148,5,none⟩ = some (.float .f64 x149005_1) ∧ w'.cell? ⟨gb148,6,none⟩ = some (.float .f64 x149006_1) ∧ w'.cell? (ad149.add (x5_1).toNat) = some (.float .f64 (rdOf (0 : Nat) l0 x5_1))) (ds:=[]) #[false,false,false,false,false,false,false,false,false,false,false,false] (by kernel_rfl) rfl rfl ⟨(blk_cell BK148.out 0).trans rfl,(blk_cell BK148.out 1).trans rfl,(blk_cell BK148.out 2).trans rfl,(blk_cell BK148.out 3).trans rfl,(blk_cell BK148.out 4).trans rfl,(blk_cell BK148.out 5).trans rfl,(blk_cell BK148.out 6).trans rfl,((HB.out.cell (World.block_lt_of_cell? w _ hw149_0)).trans hw149_0)⟩ (fun hHeld=>?_);refine with_tabW quarryref31_Of.tab7 quarryref31_Of.bits7 (fun HT_ HW_=>?_)
       generalize wr.drew = w28 at BK146 BK148 HB hx149_0 hHeld ⊢
       refine pure_ (i:=1) (N:=some 21) (v:=?_) (a':=?_) #[false,true,false,false,false,false,false,false,false,false,false,false] rfl rfl (any_of HT_.out (by kernel_rfl)) (fun _ _ _ h=>h) (Or.inl ⟨by rfl,?_⟩) ?_ ?_
       rotate_left
       ·intro w'
        go_simp
        with_reducible rfl
       rotate_left
       ·simp only [Act.put,List.setIfInBounds_toArray,List.set_cons_zero,List.set_cons_succ,i64_w,i32_w]
        rfl
       refine pure_ (i:=2) (N:=some 22) (v:=?_) (a':=?_) #[false,true,true,false,false,false,false,false,false,false,false,false] rfl rfl (any_of HT_.out (by kernel_rfl)) (fun _ _ _ h=>h) (Or.inl ⟨by rfl,?_⟩) ?_ ?_
       rotate_left
       ·intro w'
        go_simp
        with_reducible rfl
       rotate_left
       ·simp only [Act.put,List.setIfInBounds_toArray,List.set_cons_zero,List.set_cons_succ,i64_w,i32_w]
        rfl
       refine pure_ (i:=3) (N:=some 23) (v:=?_) (a':=?_) #[false,true,true,true,false,false,false,false,false,false,false,false] rfl rfl (any_of HT_.out (by kernel_rfl)) (fun _ _ _ h=>h) (Or.inl ⟨by rfl,?_⟩) ?_ ?_
       rotate_left
       ·intro w'
        go_simp
        with_reducible rfl
       rotate_left
       ·simp only [Act.put,List.setIfInBounds_toArray,List.set_cons_zero,List.set_cons_succ,i64_w,i32_w]
        rfl
       refine take_ (i:=0) (N:=some 20) (v:=?_) (a':=?_) #[true,true,true,true,false,false,false,false,false,false,false,false] rfl rfl (take_ofW HT_.out HW_.out (by kernel_rfl)) (fun _ _ _ h=>h) (Or.inl ⟨by rfl,?_⟩) hHeld ?_ ?_
       rotate_left
       ·rintro w' ⟨s0,s1,s2,s3,s4,s5,s6,s7⟩
        go_simp
        with_reducible rfl
       rotate_left
       ·simp only [Act.put,List.setIfInBounds_toArray,List.set_cons_zero,List.set_cons_succ,i64_w,i32_w]
        rfl
       refine take_ (i:=4) (N:=some 24) (v:=?_) (a':=?_) #[true,true,true,true,true,false,false,false,false,false,false,false] rfl rfl (take_ofW HT_.out HW_.out (by kernel_rfl)) (fun _ _ _ h=>h) (Or.inl ⟨by rfl,?_⟩) hHeld ?_ ?_
       rotate_left
       ·rintro w' ⟨s0,s1,s2,s3,s4,s5,s6,s7⟩
        go_simp
        with_reducible rfl
       rotate_left
       ·simp only [Act.put,List.setIfInBounds_toArray,List.set_cons_zero,List.set_cons_succ,i64_w,i32_w]
        rfl
       refine join_ (σ:=Nat) 2 #[true,true,true,true,true,true,true,true,true,true,false,false] (fun s_=>[(25,.tuple #[.agg #[.int .i64 t150,.float .f64 t151,.float .f64 t152,.float .f64 t153,.float .f64 t154,.float .f64 t155,.float .f64 t156],.int .i64 t157]),(6,.pointer (some ⟨s_,0,none⟩)),(19,.tuple #[.agg #[.int .i64 t150,.float .f64 t151,.float .f64 t152,.float .f64 t153,.float .f64 t154,.float .f64 t155,.float .f64 t156],.int .i64 t157]),(26,.agg #[.int .i64 t150,.float .f64 t151,.float .f64 t152,.float .f64 t153,.float .f64 t154,.float .f64 t155,.float .f64 t156]),(27,.int .i64 t157)]) (fun s_ w'=>(w'.cell? ⟨gb148,0,none⟩ = some (.int .i64 x149000_1) ∧ w'.cell? ⟨gb148,1,none⟩ = some (.float .f64 x149001_1) ∧ w'.cell? ⟨gb148,2,none⟩ = some (.float .f64 x149002_1) ∧ w'.cell? ⟨gb148,3,none⟩ = some (.float .f64 x149003_1) ∧ w'.cell? ⟨gb148,4,none⟩ = some (.float .f64 x149004_1) ∧ w'.cell? ⟨gb148,5,none⟩ = some (.float .f64 x149005_1) ∧ w'.cell? ⟨gb148,6,none⟩ = some (.float .f64 x149006_1) ∧ w'.cell? (ad149.add (x5_1).toNat) = some (.float .f64 (rdOf (0 : Nat) l0 x5_1))) ∧ (w'.heap[gb146]? = some (.cells #[.int .i64 x147000_1,.float .f64 x147001_1,.float .f64 x147002_1,.float .f64 x147003_1,.float .f64 x147004_1,.float .f64 x147005_1,.float .f64 x147006_1] 26 (0,0))) ∧ (w'.heap[gb148]? = some (.cells #[.int .i64 x149000_1,.float .f64 x149001_1,.float .f64 x149002_1,.float .f64 x149003_1,.float .f64 x149004_1,.float .f64 x149005_1,.float .f64 x149006_1] 26 (0,0))) ∧ (w'.heap[s_]? = some (.cells #[.int .i64 0,.float .f64 0,.float .f64 0,.float .f64 0,.float .f64 0,.float .f64 0,.float .f64 0] 26 (0,0))) ∧ (w.heap.size ≤ s_) ∧ (w.heap.size ≤ s_) ∧ (gb146 ≠ s_) ∧ (s_ ≠ gb146) ∧ (gb148 ≠ s_) ∧ (s_ ≠ gb148) ∧ (Below w.heap.size w w')) ?_ ?_
       rotate_left
       ·intro hCont
        refine two_ (i:=5) (j:=9) (Ni:=some 25) (Nj:=some 6) #[true,true,true,true,true,true,false,false,false,false,false,false] #[true,true,true,true,true,false,false,false,false,true,false,false] rfl rfl rfl rfl (two_of HT_.out (by kernel_rfl)) (by decide) (by decide) (fun K hK=>?_) (fun K hK=>?_)
        ·skip
         refine goes_ Try.func19 (by kernel_rfl) rfl #[.agg #[.int .i64 x149000_1,.float .f64 x149001_1,.float .f64 x149002_1,.float .f64 x149003_1,.float .f64 x149004_1,.float .f64 x149005_1,.float .f64 x149006_1],.float .f64 (rdOf (0 : Nat) l0 x5_1)] (by rfl) rfl rfl (by (try simp only [List.map_toArray,List.map_cons,List.map_nil]);first|done|rfl|(simp only [List.length_drop,List.length_take];rfl)) ?_
         with_reducible refine (quarryref31_Put.calls k1 x149000_1 x149001_1 x149002_1 x149003_1 x149004_1 x149005_1 x149006_1 (rdOf (0 : Nat) l0 x5_1) t150 t151 t152 t153 t154 t155 t156 t157 _ A10.out).mono ?_
         rintro e w29 ⟨rfl,hb⟩
         refine ⟨_,rfl,?_⟩
         have n0_:=Aside0.mk (blk_below (g:=gb146) (o:=.cells #[.int .i64 x147000_1,.float .f64 x147001_1,.float .f64 x147002_1,.float .f64 x147003_1,.float .f64 x147004_1,.float .f64 x147005_1,.float .f64 x147006_1] 26 (0,0)) (by (with_reducible repeat (first|refine blk_drewN ?_ _|refine blk_drew ?_|refine blk_alloc ?_ _));exact BK146.out) hb)
         have n1_:=Aside0.mk (blk_below (g:=gb148) (o:=.cells #[.int .i64 x149000_1,.float .f64 x149001_1,.float .f64 x149002_1,.float .f64 x149003_1,.float .f64 x149004_1,.float .f64 x149005_1,.float .f64 x149006_1] 26 (0,0)) (by (with_reducible repeat (first|refine blk_drewN ?_ _|refine blk_drew ?_|refine blk_alloc ?_ _));exact BK148.out) hb)
         have n2_:=Aside0.mk (below_step (by repeat (first|(with_reducible first|exact HB.out|apply below_alloc|apply pw_below_drewN|apply below_drew1|refine below_set ?_ GE146.out|refine below_set ?_ GE148.out)|exact HB.out)) hb)
         clear BK146
         clear BK148
         clear HB
         have BK146:=n0_
         have BK148:=n1_
         have HB:=n2_
         clear n0_ n1_ n2_
         (try clear hb)
         (try clear hb2)
         (try clear hk)
         (try clear hi)
         refine hK.out _ _ ⟨(blk_cell BK148.out 0).trans rfl,(blk_cell BK148.out 1).trans rfl,(blk_cell BK148.out 2).trans rfl,(blk_cell BK148.out 3).trans rfl,(blk_cell BK148.out 4).trans rfl,(blk_cell BK148.out 5).trans rfl,(blk_cell BK148.out 6).trans rfl,((HB.out.cell (World.block_lt_of_cell? w _ hw149_0)).trans hw149_0)⟩ (fun hHeld=>?_)
         clear hK K
         refine norm_ (a':=?_) ?_ ?_
         rotate_left
         ·show Act.put _ (some 25) _ = _
          simp only [Act.put,List.setIfInBounds_toArray,List.set_cons_zero,List.set_cons_succ,i64_w,i32_w]
          rfl
         refine pure_ (i:=6) (N:=some 19) (v:=?_) (a':=?_) #[true,true,true,true,true,true,true,false,false,false,false,false] rfl rfl (any_of HT_.out (by kernel_rfl)) (fun _ _ _ h=>h) (Or.inl ⟨by rfl,?_⟩) ?_ ?_
         rotate_left
         ·intro w'
          go_simp
          with_reducible rfl
         rotate_left
         ·simp only [Act.put,List.setIfInBounds_toArray,List.set_cons_zero,List.set_cons_succ,i64_w,i32_w]
          rfl
         refine pure_ (i:=7) (N:=some 26) (v:=?_) (a':=?_) #[true,true,true,true,true,true,true,true,false,false,false,false] rfl rfl (any_of HT_.out (by kernel_rfl)) (fun _ _ _ h=>h) (Or.inl ⟨by rfl,?_⟩) ?_ ?_
         rotate_left
         ·intro w'
          go_simp
          with_reducible rfl
         rotate_left
         ·simp only [Act.put,List.setIfInBounds_toArray,List.set_cons_zero,List.set_cons_succ,i64_w,i32_w]
          rfl
         refine pure_ (i:=8) (N:=some 27) (v:=?_) (a':=?_) #[true,true,true,true,true,true,true,true,true,false,false,false] rfl rfl (any_of HT_.out (by kernel_rfl)) (fun _ _ _ h=>h) (Or.inl ⟨by rfl,?_⟩) ?_ ?_
         rotate_left
         ·intro w'
          go_simp
          with_reducible rfl
         rotate_left
         ·simp only [Act.put,List.setIfInBounds_toArray,List.set_cons_zero,List.set_cons_succ,i64_w,i32_w]
          rfl
         refine one_ (i:=9) (N:=some 6) #[true,true,true,true,true,true,true,true,true,true,false,false] rfl rfl (one_of HT_.out (by kernel_rfl)) (by decide) (fun K hK=>?_)
         refine box_step ?hg (N:=6) ?hd (cs:=#[.int .i64 0,.float .f64 0,.float .f64 0,.float .f64 0,.float .f64 0,.float .f64 0,.float .f64 0]) (t:=26) ?hr ?_;(case hd=>rfl);(case hg=>rfl);(case hr=>first|(go_simp;done)|(go_simp;rfl))
         intro gb158 hg w30 hbox hb
         have n0_:=Aside0.mk (blk_below (g:=gb146) (o:=.cells #[.int .i64 x147000_1,.float .f64 x147001_1,.float .f64 x147002_1,.float .f64 x147003_1,.float .f64 x147004_1,.float .f64 x147005_1,.float .f64 x147006_1] 26 (0,0)) (by (with_reducible repeat (first|refine blk_drewN ?_ _|refine blk_drew ?_|refine blk_alloc ?_ _));exact BK146.out) hb)
         have n1_:=Aside0.mk (blk_below (g:=gb148) (o:=.cells #[.int .i64 x149000_1,.float .f64 x149001_1,.float .f64 x149002_1,.float .f64 x149003_1,.float .f64 x149004_1,.float .f64 x149005_1,.float .f64 x149006_1] 26 (0,0)) (by (with_reducible repeat (first|refine blk_drewN ?_ _|refine blk_drew ?_|refine blk_alloc ?_ _));exact BK148.out) hb)
         have n2_:=Aside0.mk (below_step (by repeat (first|(with_reducible first|exact HB.out|apply below_alloc|apply pw_below_drewN|apply below_drew1|refine below_set ?_ GE146.out|refine below_set ?_ GE148.out)|exact HB.out)) hb)
         have n3_:=Aside0.mk (hbox)
         have n4_:=Aside0.mk ((by rw [hg];exact (below_size (by repeat (first|(with_reducible first|exact HB.out|apply below_alloc|apply pw_below_drewN|apply below_drew1|refine below_set ?_ GE146.out|refine below_set ?_ GE148.out)|exact HB.out))) : w.heap.size ≤ gb158))
         have n5_:=Aside0.mk ((by rw [hg];exact (below_size (by repeat (first|(with_reducible first|exact HB.out|apply below_alloc|apply pw_below_drewN|apply below_drew1|refine below_set ?_ GE146.out|refine below_set ?_ GE148.out)|exact HB.out))) : w.heap.size ≤ gb158))
         have n6_:=Aside0.mk ((by rw [hg];exact Nat.ne_of_lt (blk_lt (g:=gb146) (o:=.cells #[.int .i64 x147000_1,.float .f64 x147001_1,.float .f64 x147002_1,.float .f64 x147003_1,.float .f64 x147004_1,.float .f64 x147005_1,.float .f64 x147006_1] 26 (0,0)) (by (with_reducible repeat (first|refine blk_drewN ?_ _|refine blk_drew ?_|refine blk_alloc ?_ _));exact BK146.out)) : gb146 ≠ gb158))
         have n7_:=Aside0.mk ((by rw [hg];exact Nat.ne_of_gt (blk_lt (g:=gb146) (o:=.cells #[.int .i64 x147000_1,.float .f64 x147001_1,.float .f64 x147002_1,.float .f64 x147003_1,.float .f64 x147004_1,.float .f64 x147005_1,.float .f64 x147006_1] 26 (0,0)) (by (with_reducible repeat (first|refine blk_drewN ?_ _|refine blk_drew ?_|refine blk_alloc ?_ _));exact BK146.out)) : gb158 ≠ gb146))
         have n8_:=Aside0.mk ((by rw [hg];exact Nat.ne_of_lt (blk_lt (g:=gb148) (o:=.cells #[.int .i64 x149000_1,.float .f64 x149001_1,.float .f64 x149002_1,.float .f64 x149003_1,.float .f64 x149004_1,.float .f64 x149005_1,.float .f64 x149006_1] 26 (0,0)) (by (with_reducible repeat (first|refine blk_drewN ?_ _|refine blk_drew ?_|refine blk_alloc ?_ _));exact BK148.out)) : gb148 ≠ gb158))
         have n9_:=Aside0.mk ((by rw [hg];exact Nat.ne_of_gt (blk_lt (g:=gb148) (o:=.cells #[.int .i64 x149000_1,.float .f64 x149001_1,.float .f64 x149002_1,.float .f64 x149003_1,.float .f64 x149004_1,.float .f64 x149005_1,.float .f64 x149006_1] 26 (0,0)) (by (with_reducible repeat (first|refine blk_drewN ?_ _|refine blk_drew ?_|refine blk_alloc ?_ _));exact BK148.out)) : gb158 ≠ gb148))
         clear BK146
         clear BK148
         clear HB
         have BK146:=n0_
         have BK148:=n1_
         have HB:=n2_
         have BK158:=n3_
         have GW158:=n4_
         have GE158:=n5_
         have NB146_158:=n6_
         have NB158_146:=n7_
         have NB148_158:=n8_
         have NB158_148:=n9_
         clear n0_ n1_ n2_ n3_ n4_ n5_ n6_ n7_ n8_ n9_
         clear hb hbox hg
         refine hK.out _ _ ⟨(blk_cell BK148.out 0).trans rfl,(blk_cell BK148.out 1).trans rfl,(blk_cell BK148.out 2).trans rfl,(blk_cell BK148.out 3).trans rfl,(blk_cell BK148.out 4).trans rfl,(blk_cell BK148.out 5).trans rfl,(blk_cell BK148.out 6).trans rfl,((HB.out.cell (World.block_lt_of_cell? w _ hw149_0)).trans hw149_0)⟩ (fun hHeld=>?_)
         clear hK K
         refine norm_ (a':=?_) ?_ ?_
         rotate_left
         ·show Act.put _ (some 6) _ = _
          simp only [Act.put,List.setIfInBounds_toArray,List.set_cons_zero,List.set_cons_succ,i64_w,i32_w]
          rfl
         exact norm_ (by simp only [putAll,Act.put,List.setIfInBounds_toArray,List.set_cons_zero,List.set_cons_succ]) (hCont (gb158) _ ⟨hHeld,(by (with_reducible repeat (first|refine blk_drewN ?_ _|refine blk_drew ?_|refine blk_alloc ?_ _));exact BK146.out),(by (with_reducible repeat (first|refine blk_drewN ?_ _|refine blk_drew ?_|refine blk_alloc ?_ _));exact BK148.out),(by (with_reducible repeat (first|refine blk_drewN ?_ _|refine blk_drew ?_|refine blk_alloc ?_ _));exact BK158.out),GW158.out,GE158.out,NB146_158.out,NB158_146.out,NB148_158.out,NB158_148.out,(by repeat (first|(with_reducible first|exact HB.out|apply below_alloc|apply pw_below_drewN|apply below_drew1|refine below_set ?_ GE146.out|refine below_set ?_ GE148.out|refine below_set ?_ GE158.out)|exact HB.out))⟩)
        ·skip
         refine box_step ?hg (N:=6) ?hd (cs:=#[.int .i64 0,.float .f64 0,.float .f64 0,.float .f64 0,.float .f64 0,.float .f64 0,.float .f64 0]) (t:=26) ?hr ?_;(case hd=>rfl);(case hg=>rfl);(case hr=>first|(go_simp;done)|(go_simp;rfl))
         intro gb158 hg w29 hbox hb
         have n0_:=Aside0.mk (blk_below (g:=gb146) (o:=.cells #[.int .i64 x147000_1,.float .f64 x147001_1,.float .f64 x147002_1,.float .f64 x147003_1,.float .f64 x147004_1,.float .f64 x147005_1,.float .f64 x147006_1] 26 (0,0)) (by (with_reducible repeat (first|refine blk_drewN ?_ _|refine blk_drew ?_|refine blk_alloc ?_ _));exact BK146.out) hb)
         have n1_:=Aside0.mk (blk_below (g:=gb148) (o:=.cells #[.int .i64 x149000_1,.float .f64 x149001_1,.float .f64 x149002_1,.float .f64 x149003_1,.float .f64 x149004_1,.float .f64 x149005_1,.float .f64 x149006_1] 26 (0,0)) (by (with_reducible repeat (first|refine blk_drewN ?_ _|refine blk_drew ?_|refine blk_alloc ?_ _));exact BK148.out) hb)
         have n2_:=Aside0.mk (below_step (by repeat (first|(with_reducible first|exact HB.out|apply below_alloc|apply pw_below_drewN|apply below_drew1|refine below_set ?_ GE146.out|refine below_set ?_ GE148.out)|exact HB.out)) hb)
         have n3_:=Aside0.mk (hbox)
         have n4_:=Aside0.mk ((by rw [hg];exact (below_size (by repeat (first|(with_reducible first|exact HB.out|apply below_alloc|apply pw_below_drewN|apply below_drew1|refine below_set ?_ GE146.out|refine below_set ?_ GE148.out)|exact HB.out))) : w.heap.size ≤ gb158))
         have n5_:=Aside0.mk ((by rw [hg];exact (below_size (by repeat (first|(with_reducible first|exact HB.out|apply below_alloc|apply pw_below_drewN|apply below_drew1|refine below_set ?_ GE146.out|refine below_set ?_ GE148.out)|exact HB.out))) : w.heap.size ≤ gb158))
         have n6_:=Aside0.mk ((by rw [hg];exact Nat.ne_of_lt (blk_lt (g:=gb146) (o:=.cells #[.int .i64 x147000_1,.float .f64 x147001_1,.float .f64 x147002_1,.float .f64 x147003_1,.float .f64 x147004_1,.float .f64 x147005_1,.float .f64 x147006_1] 26 (0,0)) (by (with_reducible repeat (first|refine blk_drewN ?_ _|refine blk_drew ?_|refine blk_alloc ?_ _));exact BK146.out)) : gb146 ≠ gb158))
         have n7_:=Aside0.mk ((by rw [hg];exact Nat.ne_of_gt (blk_lt (g:=gb146) (o:=.cells #[.int .i64 x147000_1,.float .f64 x147001_1,.float .f64 x147002_1,.float .f64 x147003_1,.float .f64 x147004_1,.float .f64 x147005_1,.float .f64 x147006_1] 26 (0,0)) (by (with_reducible repeat (first|refine blk_drewN ?_ _|refine blk_drew ?_|refine blk_alloc ?_ _));exact BK146.out)) : gb158 ≠ gb146))
         have n8_:=Aside0.mk ((by rw [hg];exact Nat.ne_of_lt (blk_lt (g:=gb148) (o:=.cells #[.int .i64 x149000_1,.float .f64 x149001_1,.float .f64 x149002_1,.float .f64 x149003_1,.float .f64 x149004_1,.float .f64 x149005_1,.float .f64 x149006_1] 26 (0,0)) (by (with_reducible repeat (first|refine blk_drewN ?_ _|refine blk_drew ?_|refine blk_alloc ?_ _));exact BK148.out)) : gb148 ≠ gb158))
         have n9_:=Aside0.mk ((by rw [hg];exact Nat.ne_of_gt (blk_lt (g:=gb148) (o:=.cells #[.int .i64 x149000_1,.float .f64 x149001_1,.float .f64 x149002_1,.float .f64 x149003_1,.float .f64 x149004_1,.float .f64 x149005_1,.float .f64 x149006_1] 26 (0,0)) (by (with_reducible repeat (first|refine blk_drewN ?_ _|refine blk_drew ?_|refine blk_alloc ?_ _));exact BK148.out)) : gb158 ≠ gb148))
         clear BK146
         clear BK148
         clear HB
         have BK146:=n0_
         have BK148:=n1_
         have HB:=n2_
         have BK158:=n3_
         have GW158:=n4_
         have GE158:=n5_
         have NB146_158:=n6_
         have NB158_146:=n7_
         have NB148_158:=n8_
         have NB158_148:=n9_
         clear n0_ n1_ n2_ n3_ n4_ n5_ n6_ n7_ n8_ n9_
         clear hb hbox hg
         refine hK.out _ _ ⟨(blk_cell BK148.out 0).trans rfl,(blk_cell BK148.out 1).trans rfl,(blk_cell BK148.out 2).trans rfl,(blk_cell BK148.out 3).trans rfl,(blk_cell BK148.out 4).trans rfl,(blk_cell BK148.out 5).trans rfl,(blk_cell BK148.out 6).trans rfl,((HB.out.cell (World.block_lt_of_cell? w _ hw149_0)).trans hw149_0)⟩ (fun hHeld=>?_)
         clear hK K
         refine norm_ (a':=?_) ?_ ?_
         rotate_left
         ·show Act.put _ (some 6) _ = _
          simp only [Act.put,List.setIfInBounds_toArray,List.set_cons_zero,List.set_cons_succ,i64_w,i32_w]
          rfl
         refine one_ (i:=5) (N:=some 25) #[true,true,true,true,true,true,false,false,false,true,false,false] rfl rfl (one_of HT_.out (by kernel_rfl)) (by decide) (fun K hK=>?_)
         refine goes_ Try.func19 (by kernel_rfl) rfl #[.agg #[.int .i64 x149000_1,.float .f64 x149001_1,.float .f64 x149002_1,.float .f64 x149003_1,.float .f64 x149004_1,.float .f64 x149005_1,.float .f64 x149006_1],.float .f64 (rdOf (0 : Nat) l0 x5_1)] (by rfl) rfl rfl (by (try simp only [List.map_toArray,List.map_cons,List.map_nil]);first|done|rfl|(simp only [List.length_drop,List.length_take];rfl)) ?_
         with_reducible refine (quarryref31_Put.calls k1 x149000_1 x149001_1 x149002_1 x149003_1 x149004_1 x149005_1 x149006_1 (rdOf (0 : Nat) l0 x5_1) t150 t151 t152 t153 t154 t155 t156 t157 _ A10.out).mono ?_
         rintro e w30 ⟨rfl,hb⟩
         refine ⟨_,rfl,?_⟩
         have n0_:=Aside0.mk (blk_below (g:=gb146) (o:=.cells #[.int .i64 x147000_1,.float .f64 x147001_1,.float .f64 x147002_1,.float .f64 x147003_1,.float .f64 x147004_1,.float .f64 x147005_1,.float .f64 x147006_1] 26 (0,0)) (by (with_reducible repeat (first|refine blk_drewN ?_ _|refine blk_drew ?_|refine blk_alloc ?_ _));exact BK146.out) hb)
         have n1_:=Aside0.mk (blk_below (g:=gb148) (o:=.cells #[.int .i64 x149000_1,.float .f64 x149001_1,.float .f64 x149002_1,.float .f64 x149003_1,.float .f64 x149004_1,.float .f64 x149005_1,.float .f64 x149006_1] 26 (0,0)) (by (with_reducible repeat (first|refine blk_drewN ?_ _|refine blk_drew ?_|refine blk_alloc ?_ _));exact BK148.out) hb)
         have n2_:=Aside0.mk (blk_below (g:=gb158) (o:=.cells #[.int .i64 0,.float .f64 0,.float .f64 0,.float .f64 0,.float .f64 0,.float .f64 0,.float .f64 0] 26 (0,0)) (by (with_reducible repeat (first|refine blk_drewN ?_ _|refine blk_drew ?_|refine blk_alloc ?_ _));exact BK158.out) hb)
         have n3_:=Aside0.mk (below_step (by repeat (first|(with_reducible first|exact HB.out|apply below_alloc|apply pw_below_drewN|apply below_drew1|refine below_set ?_ GE146.out|refine below_set ?_ GE148.out|refine below_set ?_ GE158.out)|exact HB.out)) hb)
         clear BK146
         clear BK148
         clear BK158
         clear HB
         have BK146:=n0_
         have BK148:=n1_
         have BK158:=n2_
         have HB:=n3_
         clear n0_ n1_ n2_ n3_
         (try clear hb)
         (try clear hb2)
         (try clear hk)
         (try clear hi)
         refine hK.out _ _ ⟨(blk_cell BK148.out 0).trans rfl,(blk_cell BK148.out 1).trans rfl,(blk_cell BK148.out 2).trans rfl,(blk_cell BK148.out 3).trans rfl,(blk_cell BK148.out 4).trans rfl,(blk_cell BK148.out 5).trans rfl,(blk_cell BK148.out 6).trans rfl,((HB.out.cell (World.block_lt_of_cell? w _ hw149_0)).trans hw149_0)⟩ (fun hHeld=>?_)
         clear hK K
         refine norm_ (a':=?_) ?_ ?_
         rotate_left
         ·show Act.put _ (some 25) _ = _
          simp only [Act.put,List.setIfInBounds_toArray,List.set_cons_zero,List.set_cons_succ,i64_w,i32_w]
          rfl
         refine pure_ (i:=6) (N:=some 19) (v:=?_) (a':=?_) #[true,true,true,true,true,true,true,false,false,true,false,false] rfl rfl (any_of HT_.out (by kernel_rfl)) (fun _ _ _ h=>h) (Or.inl ⟨by rfl,?_⟩) ?_ ?_
         rotate_left
         ·intro w'
          go_simp
          with_reducible rfl
         rotate_left
         ·simp only [Act.put,List.setIfInBounds_toArray,List.set_cons_zero,List.set_cons_succ,i64_w,i32_w]
          rfl
         refine pure_ (i:=7) (N:=some 26) (v:=?_) (a':=?_) #[true,true,true,true,true,true,true,true,false,true,false,false] rfl rfl (any_of HT_.out (by kernel_rfl)) (fun _ _ _ h=>h) (Or.inl ⟨by rfl,?_⟩) ?_ ?_
         rotate_left
         ·intro w'
          go_simp
          with_reducible rfl
         rotate_left
         ·simp only [Act.put,List.setIfInBounds_toArray,List.set_cons_zero,List.set_cons_succ,i64_w,i32_w]
          rfl
         refine pure_ (i:=8) (N:=some 27) (v:=?_) (a':=?_) #[true,true,true,true,true,true,true,true,true,true,false,false] rfl rfl (any_of HT_.out (by kernel_rfl)) (fun _ _ _ h=>h) (Or.inl ⟨by rfl,?_⟩) ?_ ?_
         rotate_left
         ·intro w'
          go_simp
          with_reducible rfl
         rotate_left
         ·simp only [Act.put,List.setIfInBounds_toArray,List.set_cons_zero,List.set_cons_succ,i64_w,i32_w]
          rfl
         exact norm_ (by simp only [putAll,Act.put,List.setIfInBounds_toArray,List.set_cons_zero,List.set_cons_succ]) (hCont (gb158) _ ⟨hHeld,(by (with_reducible repeat (first|refine blk_drewN ?_ _|refine blk_drew ?_|refine blk_alloc ?_ _));exact BK146.out),(by (with_reducible repeat (first|refine blk_drewN ?_ _|refine blk_drew ?_|refine blk_alloc ?_ _));exact BK148.out),(by (with_reducible repeat (first|refine blk_drewN ?_ _|refine blk_drew ?_|refine blk_alloc ?_ _));exact BK158.out),GW158.out,GE158.out,NB146_158.out,NB158_146.out,NB148_158.out,NB158_148.out,(by repeat (first|(with_reducible first|exact HB.out|apply below_alloc|apply pw_below_drewN|apply below_drew1|refine below_set ?_ GE146.out|refine below_set ?_ GE148.out|refine below_set ?_ GE158.out)|exact HB.out))⟩)
       rintro gb158 w31 ⟨hS_,h0_,h1_,h2_,h3_,h4_,h5_,h6_,h7_,h8_,h9_⟩
       have n0_ : Aside0 (w31.heap[gb146]? = some (.cells #[.int .i64 x147000_1,.float .f64 x147001_1,.float .f64 x147002_1,.float .f64 x147003_1,.float .f64 x147004_1,.float .f64 x147005_1,.float .f64 x147006_1] 26 (0,0))):=⟨h0_⟩
       have n1_ : Aside0 (w31.heap[gb148]? = some (.cells #[.int .i64 x149000_1,.float .f64 x149001_1,.float .f64 x149002_1,.float .f64 x149003_1,.float .f64 x149004_1,.float .f64 x149005_1,.float .f64 x149006_1] 26 (0,0))):=⟨h1_⟩
       have n2_ : Aside0 (w31.heap[gb158]? = some (.cells #[.int .i64 0,.float .f64 0,.float .f64 0,.float .f64 0,.float .f64 0,.float .f64 0,.float .f64 0] 26 (0,0))):=⟨h2_⟩
       have n3_ : Aside0 (w.heap.size ≤ gb158):=⟨h3_⟩
       have n4_ : Aside0 (w.heap.size ≤ gb158):=⟨h4_⟩
       have n5_ : Aside0 (gb146 ≠ gb158):=⟨h5_⟩
       have n6_ : Aside0 (gb158 ≠ gb146):=⟨h6_⟩
       have n7_ : Aside0 (gb148 ≠ gb158):=⟨h7_⟩
       have n8_ : Aside0 (gb158 ≠ gb148):=⟨h8_⟩
       have n9_ : Aside0 (Below w.heap.size w w31):=⟨h9_⟩
       clear BK146
       clear BK148
       clear HB
       clear h0_ h1_ h2_ h3_ h4_ h5_ h6_ h7_ h8_ h9_
       have BK146:=n0_
       have BK148:=n1_
       have BK158:=n2_
       have GW158:=n3_
       have GE158:=n4_
       have NB146_158:=n5_
       have NB158_146:=n6_
       have NB148_158:=n7_
       have NB158_148:=n8_
       have HB:=n9_
       clear n0_ n1_ n2_ n3_ n4_ n5_ n6_ n7_ n8_ n9_
       have hHeld : w31.cell? ⟨gb148,0,none⟩ = some (.int .i64 x149000_1) ∧ w31.cell? ⟨gb148,1,none⟩ = some (.float .f64 x149001_1) ∧ w31.cell? ⟨gb148,2,none⟩ = some (.float .f64 x149002_1) ∧ w31.cell? ⟨gb148,3,none⟩ = some (.float .f64 x149003_1) ∧ w31.cell? ⟨gb148,4,none⟩ = some (.float .f64 x149004_1) ∧ w31.cell? ⟨gb148,5,none⟩ = some (.float .f64 x149005_1) ∧ w31.cell? ⟨gb148,6,none⟩ = some (.float .f64 x149006_1) ∧ w31.cell? (ad149.add (x5_1).toNat) = some (.float .f64 (rdOf (0 : Nat) l0 x5_1)):=hS_
       refine norm_ (a':=?_) ?_ ?_
       rotate_left
       ·simp only [putAll,Act.put,List.setIfInBounds_toArray,List.set_cons_zero,List.set_cons_succ]
        rfl
       refine one_ (i:=10) (N:=none) #[true,true,true,true,true,true,true,true,true,true,true,false] rfl rfl (one_of HT_.out (by kernel_rfl)) (by decide) (fun K hK=>?_)
       have hs32 : w31.cell? ⟨gb158,0,none⟩ = some (.int .i64 0):=(blk_cell BK158.out 0).trans rfl
       have hfs32:=blk_frozen BK158.out 0
       have hns32_0:=NB146_158.out
       have hns32_1:=NB148_158.out
       have hms32_0:=NB158_146.out
       have hms32_1:=NB158_148.out
       have hs33 : w31.cell? ⟨gb158,1,none⟩ = some (.float .f64 0):=(blk_cell BK158.out 1).trans rfl
       have hfs33:=blk_frozen BK158.out 1
       have hns33_0:=NB146_158.out
       have hns33_1:=NB148_158.out
       have hms33_0:=NB158_146.out
       have hms33_1:=NB158_148.out
       have hs34 : w31.cell? ⟨gb158,2,none⟩ = some (.float .f64 0):=(blk_cell BK158.out 2).trans rfl
       have hfs34:=blk_frozen BK158.out 2
       have hns34_0:=NB146_158.out
       have hns34_1:=NB148_158.out
       have hms34_0:=NB158_146.out
       have hms34_1:=NB158_148.out
       have hs35 : w31.cell? ⟨gb158,3,none⟩ = some (.float .f64 0):=(blk_cell BK158.out 3).trans rfl
       have hfs35:=blk_frozen BK158.out 3
       have hns35_0:=NB146_158.out
       have hns35_1:=NB148_158.out
       have hms35_0:=NB158_146.out
       have hms35_1:=NB158_148.out
       have hs36 : w31.cell? ⟨gb158,4,none⟩ = some (.float .f64 0):=(blk_cell BK158.out 4).trans rfl
       have hfs36:=blk_frozen BK158.out 4
       have hns36_0:=NB146_158.out
       have hns36_1:=NB148_158.out
       have hms36_0:=NB158_146.out
       have hms36_1:=NB158_148.out
       have hs37 : w31.cell? ⟨gb158,5,none⟩ = some (.float .f64 0):=(blk_cell BK158.out 5).trans rfl
       have hfs37:=blk_frozen BK158.out 5
       have hns37_0:=NB146_158.out
       have hns37_1:=NB148_158.out
       have hms37_0:=NB158_146.out
       have hms37_1:=NB158_148.out
       have hs38 : w31.cell? ⟨gb158,6,none⟩ = some (.float .f64 0):=(blk_cell BK158.out 6).trans rfl
       have hfs38:=blk_frozen BK158.out 6
       have hns38_0:=NB146_158.out
       have hns38_1:=NB148_158.out
       have hms38_0:=NB158_146.out
       have hms38_1:=NB158_148.out
       refine skip_ (w1:=?_) (by rfl) rfl ?_ ?_
       rotate_left
       ·go_simp
        rfl
       refine hK.out _ _ ⟨((cell_far (p:=⟨gb158,_,none⟩) NB148_158.out _).trans (((cell_far (p:=⟨gb158,_,none⟩) NB148_158.out _).trans (((cell_far (p:=⟨gb158,_,none⟩) NB148_158.out _).trans (((cell_far (p:=⟨gb158,_,none⟩) NB148_158.out _).trans (((cell_far (p:=⟨gb158,_,none⟩) NB148_158.out _).trans (((cell_far (p:=⟨gb158,_,none⟩) NB148_158.out _).trans (((cell_far (p:=⟨gb158,_,none⟩) NB148_158.out _).trans (hHeld.1)))))))))))))),((cell_far (p:=⟨gb158,_,none⟩) NB148_158.out _).trans (((cell_far (p:=⟨gb158,_,none⟩) NB148_158.out _).trans (((cell_far (p:=⟨gb158,_,none⟩) NB148_158.out _).trans (((cell_far (p:=⟨gb158,_,none⟩) NB148_158.out _).trans (((cell_far (p:=⟨gb158,_,none⟩) NB148_158.out _).trans (((cell_far (p:=⟨gb158,_,none⟩) NB148_158.out _).trans (((cell_far (p:=⟨gb158,_,none⟩) NB148_158.out _).trans (hHeld.2.1)))))))))))))),((cell_far (p:=⟨gb158,_,none⟩) NB148_158.out _).trans (((cell_far (p:=⟨gb158,_,none⟩) NB148_158.out _).trans (((cell_far (p:=⟨gb158,_,none⟩) NB148_158.out _).trans (((cell_far (p:=⟨gb158,_,none⟩) NB148_158.out _).trans (((cell_far (p:=⟨gb158,_,none⟩) NB148_158.out _).trans (((cell_far (p:=⟨gb158,_,none⟩) NB148_158.out _).trans (((cell_far (p:=⟨gb158,_,none⟩) NB148_158.out _).trans (hHeld.2.2.1)))))))))))))),((cell_far (p:=⟨gb158,_,none⟩) NB148_158.out _).trans (((cell_far (p:=⟨gb158,_,none⟩) NB148_158.out _).trans (((cell_far (p:=⟨gb158,_,none⟩) NB148_158.out _).trans (((cell_far (p:=⟨gb158,_,none⟩) NB148_158.out _).trans (((cell_far (p:=⟨gb158,_,none⟩) NB148_158.out _).trans (((cell_far (p:=⟨gb158,_,none⟩) NB148_158.out _).trans (((cell_far (p:=⟨gb158,_,none⟩) NB148_158.out _).trans (hHeld.2.2.2.1)))))))))))))),((cell_far (p:=⟨gb158,_,none⟩) NB148_158.out _).trans (((cell_far (p:=⟨gb158,_,none⟩) NB148_158.out _).trans (((cell_far (p:=⟨gb158,_,none⟩) NB148_158.out _).trans (((cell_far (p:=⟨gb158,_,none⟩) NB148_158.out _).trans (((cell_far (p:=⟨gb158,_,none⟩) NB148_158.out _).trans (((cell_far (p:=⟨gb158,_,none⟩) NB148_158.out _).trans (((cell_far (p:=⟨gb158,_,none⟩) NB148_158.out _).trans (hHeld.2.2.2.2.1)))))))))))))),((cell_far (p:=⟨gb158,_,none⟩) NB148_158.out _).trans (((cell_far (p:=⟨gb158,_,none⟩) NB148_158.out _).trans (((cell_far (p:=⟨gb158,_,none⟩) NB148_158.out _).trans (((cell_far (p:=⟨gb158,_,none⟩) NB148_158.out _).trans (((cell_far (p:=⟨gb158,_,none⟩) NB148_158.out _).trans (((cell_far (p:=⟨gb158,_,none⟩) NB148_158.out _).trans (((cell_far (p:=⟨gb158,_,none⟩) NB148_158.out _).trans (hHeld.2.2.2.2.2.1)))))))))))))),((cell_far (p:=⟨gb158,_,none⟩) NB148_158.out _).trans (((cell_far (p:=⟨gb158,_,none⟩) NB148_158.out _).trans (((cell_far (p:=⟨gb158,_,none⟩) NB148_158.out _).trans (((cell_far (p:=⟨gb158,_,none⟩) NB148_158.out _).trans (((cell_far (p:=⟨gb158,_,none⟩) NB148_158.out _).trans (((cell_far (p:=⟨gb158,_,none⟩) NB148_158.out _).trans (((cell_far (p:=⟨gb158,_,none⟩) NB148_158.out _).trans (hHeld.2.2.2.2.2.2.1)))))))))))))),((cell_far (p:=⟨gb158,_,none⟩) (by first|exact Nat.ne_of_lt (Nat.lt_of_lt_of_le (by have:=World.block_lt_of_cell? _ _ hw149_0;first|rwa [add_block] at this|exact this) GW158.out)|(rw [add_block];exact Nat.ne_of_lt (Nat.lt_of_lt_of_le (by have:=World.block_lt_of_cell? _ _ hw149_0;first|rwa [add_block] at this|exact this) GW158.out))|(show (Addr.add _ _).block ≠ _;rw [add_block];exact Nat.ne_of_lt (Nat.lt_of_lt_of_le (by have:=World.block_lt_of_cell? _ _ hw149_0;first|rwa [add_block] at this|exact this) GW158.out))|(dsimp only;exact Nat.ne_of_lt (Nat.lt_of_lt_of_le (by have:=World.block_lt_of_cell? _ _ hw149_0;first|rwa [add_block] at this|exact this) GW158.out))) _).trans (((cell_far (p:=⟨gb158,_,none⟩) (by first|exact Nat.ne_of_lt (Nat.lt_of_lt_of_le (by have:=World.block_lt_of_cell? _ _ hw149_0;first|rwa [add_block] at this|exact this) GW158.out)|(rw [add_block];exact Nat.ne_of_lt (Nat.lt_of_lt_of_le (by have:=World.block_lt_of_cell? _ _ hw149_0;first|rwa [add_block] at this|exact this) GW158.out))|(show (Addr.add _ _).block ≠ _;rw [add_block];exact Nat.ne_of_lt (Nat.lt_of_lt_of_le (by have:=World.block_lt_of_cell? _ _ hw149_0;first|rwa [add_block] at this|exact this) GW158.out))|(dsimp only;exact Nat.ne_of_lt (Nat.lt_of_lt_of_le (by have:=World.block_lt_of_cell? _ _ hw149_0;first|rwa [add_block] at this|exact this) GW158.out))) _).trans (((cell_far (p:=⟨gb158,_,none⟩) (by first|exact Nat.ne_of_lt (Nat.lt_of_lt_of_le (by have:=World.block_lt_of_cell? _ _ hw149_0;first|rwa [add_block] at this|exact this) GW158.out)|(rw [add_block];exact Nat.ne_of_lt (Nat.lt_of_lt_of_le (by have:=World.block_lt_of_cell? _ _ hw149_0;first|rwa [add_block] at this|exact this) GW158.out))|(show (Addr.add _ _).block ≠ _;rw [add_block];exact Nat.ne_of_lt (Nat.lt_of_lt_of_le (by have:=World.block_lt_of_cell? _ _ hw149_0;first|rwa [add_block] at this|exact this) GW158.out))|(dsimp only;exact Nat.ne_of_lt (Nat.lt_of_lt_of_le (by have:=World.block_lt_of_cell? _ _ hw149_0;first|rwa [add_block] at this|exact this) GW158.out))) _).trans (((cell_far (p:=⟨gb158,_,none⟩) (by first|exact Nat.ne_of_lt (Nat.lt_of_lt_of_le (by have:=World.block_lt_of_cell? _ _ hw149_0;first|rwa [add_block] at this|exact this) GW158.out)|(rw [add_block];exact Nat.ne_of_lt (Nat.lt_of_lt_of_le (by have:=World.block_lt_of_cell? _ _ hw149_0;first|rwa [add_block] at this|exact this) GW158.out))|(show (Addr.add _ _).block ≠ _;rw [add_block];exact Nat.ne_of_lt (Nat.lt_of_lt_of_le (by have:=World.block_lt_of_cell? _ _ hw149_0;first|rwa [add_block] at this|exact this) GW158.out))|(dsimp only;exact Nat.ne_of_lt (Nat.lt_of_lt_of_le (by have:=World.block_lt_of_cell? _ _ hw149_0;first|rwa [add_block] at this|exact this) GW158.out))) _).trans (((cell_far (p:=⟨gb158,_,none⟩) (by first|exact Nat.ne_of_lt (Nat.lt_of_lt_of_le (by have:=World.block_lt_of_cell? _ _ hw149_0;first|rwa [add_block] at this|exact this) GW158.out)|(rw [add_block];exact Nat.ne_of_lt (Nat.lt_of_lt_of_le (by have:=World.block_lt_of_cell? _ _ hw149_0;first|rwa [add_block] at this|exact this) GW158.out))|(show (Addr.add _ _).block ≠ _;rw [add_block];exact Nat.ne_of_lt (Nat.lt_of_lt_of_le (by have:=World.block_lt_of_cell? _ _ hw149_0;first|rwa [add_block] at this|exact this) GW158.out))|(dsimp only;exact Nat.ne_of_lt (Nat.lt_of_lt_of_le (by have:=World.block_lt_of_cell? _ _ hw149_0;first|rwa [add_block] at this|exact this) GW158.out))) _).trans (((cell_far (p:=⟨gb158,_,none⟩) (by first|exact Nat.ne_of_lt (Nat.lt_of_lt_of_le (by have:=World.block_lt_of_cell? _ _ hw149_0;first|rwa [add_block] at this|exact this) GW158.out)|(rw [add_block];exact Nat.ne_of_lt (Nat.lt_of_lt_of_le (by have:=World.block_lt_of_cell? _ _ hw149_0;first|rwa [add_block] at this|exact this) GW158.out))|(show (Addr.add _ _).block ≠ _;rw [add_block];exact Nat.ne_of_lt (Nat.lt_of_lt_of_le (by have:=World.block_lt_of_cell? _ _ hw149_0;first|rwa [add_block] at this|exact this) GW158.out))|(dsimp only;exact Nat.ne_of_lt (Nat.lt_of_lt_of_le (by have:=World.block_lt_of_cell? _ _ hw149_0;first|rwa [add_block] at this|exact this) GW158.out))) _).trans (((cell_far (p:=⟨gb158,_,none⟩) (by first|exact Nat.ne_of_lt (Nat.lt_of_lt_of_le (by have:=World.block_lt_of_cell? _ _ hw149_0;first|rwa [add_block] at this|exact this) GW158.out)|(rw [add_block];exact Nat.ne_of_lt (Nat.lt_of_lt_of_le (by have:=World.block_lt_of_cell? _ _ hw149_0;first|rwa [add_block] at this|exact this) GW158.out))|(show (Addr.add _ _).block ≠ _;rw [add_block];exact Nat.ne_of_lt (Nat.lt_of_lt_of_le (by have:=World.block_lt_of_cell? _ _ hw149_0;first|rwa [add_block] at this|exact this) GW158.out))|(dsimp only;exact Nat.ne_of_lt (Nat.lt_of_lt_of_le (by have:=World.block_lt_of_cell? _ _ hw149_0;first|rwa [add_block] at this|exact this) GW158.out))) _).trans (hHeld.2.2.2.2.2.2.2))))))))))))))⟩ (fun hHeld=>?_)
       clear hK K
       refine pure_ (i:=11) (N:=some 7) (v:=?_) (a':=?_) #[true,true,true,true,true,true,true,true,true,true,true,true] rfl rfl (any_of HT_.out (by kernel_rfl)) (fun _ _ _ h=>h) (Or.inl ⟨by rfl,?_⟩) ?_ ?_
       rotate_left
       ·intro w'
        go_simp
        with_reducible rfl
       rotate_left
       ·simp only [Act.put,List.setIfInBounds_toArray,List.set_cons_zero,List.set_cons_succ,i64_w,i32_w]
        rfl
       refine done_ (done_of HT_.out (by kernel_rfl)) ?_
       have hnb39:=NB146_148.out
       have hnc39:=NB148_146.out
       have hnb40:=NB146_158.out
       have hnc40:=NB158_146.out
       have hcz41_0 : w31.cell? ⟨gb146,0,none⟩ = some (.int .i64 x147000_1):=(blk_cell BK146.out 0).trans rfl
       have hcz41_1 : w31.cell? ⟨gb146,1,none⟩ = some (.float .f64 x147001_1):=(blk_cell BK146.out 1).trans rfl
       have hcz41_2 : w31.cell? ⟨gb146,2,none⟩ = some (.float .f64 x147002_1):=(blk_cell BK146.out 2).trans rfl
       have hcz41_3 : w31.cell? ⟨gb146,3,none⟩ = some (.float .f64 x147003_1):=(blk_cell BK146.out 3).trans rfl
       have hcz41_4 : w31.cell? ⟨gb146,4,none⟩ = some (.float .f64 x147004_1):=(blk_cell BK146.out 4).trans rfl
       have hcz41_5 : w31.cell? ⟨gb146,5,none⟩ = some (.float .f64 x147005_1):=(blk_cell BK146.out 5).trans rfl
       have hcz41_6 : w31.cell? ⟨gb146,6,none⟩ = some (.float .f64 x147006_1):=(blk_cell BK146.out 6).trans rfl
       have hfz41_0:=blk_frozen BK146.out 0
       have hfz41_1:=blk_frozen BK146.out 1
       have hfz41_2:=blk_frozen BK146.out 2
       have hfz41_3:=blk_frozen BK146.out 3
       have hfz41_4:=blk_frozen BK146.out 4
       have hfz41_5:=blk_frozen BK146.out 5
       have hfz41_6:=blk_frozen BK146.out 6
       try go_wp2
       refine bodyPost_ret (results_ct rfl _ _ gb146 26 #[.int .i64 0,.float .f64 0,.float .f64 0,.float .f64 0,.float .f64 0,.float .f64 0,.float .f64 0] (0,0) _ rfl (by (with_reducible repeat (first|refine blk_drewN ?_ _|refine blk_drew ?_|refine blk_alloc ?_ _));refine blk_put (cs:=#[.int .i64 0,.float .f64 0,.float .f64 0,.float .f64 0,.float .f64 0,.float .f64 0,.float .f64 x147006_1]) ?_ 6 _ (by first|rfl|(simp only [px_pos,px_ne];rfl)|simp [px_pos,px_ne]);(with_reducible repeat (first|refine blk_drewN ?_ _|refine blk_drew ?_|refine blk_alloc ?_ _));refine blk_put (cs:=#[.int .i64 0,.float .f64 0,.float .f64 0,.float .f64 0,.float .f64 0,.float .f64 x147005_1,.float .f64 x147006_1]) ?_ 5 _ (by first|rfl|(simp only [px_pos,px_ne];rfl)|simp [px_pos,px_ne]);(with_reducible repeat (first|refine blk_drewN ?_ _|refine blk_drew ?_|refine blk_alloc ?_ _));refine blk_put (cs:=#[.int .i64 0,.float .f64 0,.float .f64 0,.float .f64 0,.float .f64 x147004_1,.float .f64 x147005_1,.float .f64 x147006_1]) ?_ 4 _ (by first|rfl|(simp only [px_pos,px_ne];rfl)|simp [px_pos,px_ne]);(with_reducible repeat (first|refine blk_drewN ?_ _|refine blk_drew ?_|refine blk_alloc ?_ _));refine blk_put (cs:=#[.int .i64 0,.float .f64 0,.float .f64 0,.float .f64 x147003_1,.float .f64 x147004_1,.float .f64 x147005_1,.float .f64 x147006_1]) ?_ 3 _ (by first|rfl|(simp only [px_pos,px_ne];rfl)|simp [px_pos,px_ne]);(with_reducible repeat (first|refine blk_drewN ?_ _|refine blk_drew ?_|refine blk_alloc ?_ _));refine blk_put (cs:=#[.int .i64 0,.float .f64 0,.float .f64 x147002_1,.float .f64 x147003_1,.float .f64 x147004_1,.float .f64 x147005_1,.float .f64 x147006_1]) ?_ 2 _ (by first|rfl|(simp only [px_pos,px_ne];rfl)|simp [px_pos,px_ne]);(with_reducible repeat (first|refine blk_drewN ?_ _|refine blk_drew ?_|refine blk_alloc ?_ _));refine blk_put (cs:=#[.int .i64 0,.float .f64 x147001_1,.float .f64 x147002_1,.float .f64 x147003_1,.float .f64 x147004_1,.float .f64 x147005_1,.float .f64 x147006_1]) ?_ 1 _ (by first|rfl|(simp only [px_pos,px_ne];rfl)|simp [px_pos,px_ne]);(with_reducible repeat (first|refine blk_drewN ?_ _|refine blk_drew ?_|refine blk_alloc ?_ _));refine blk_put (cs:=#[.int .i64 x147000_1,.float .f64 x147001_1,.float .f64 x147002_1,.float .f64 x147003_1,.float .f64 x147004_1,.float .f64 x147005_1,.float .f64 x147006_1]) ?_ 0 _ (by first|rfl|(simp only [px_pos,px_ne];rfl)|simp [px_pos,px_ne]);(with_reducible repeat (first|refine blk_drewN ?_ _|refine blk_drew ?_|refine blk_alloc ?_ _));refine blk_far ?_ NB146_158.out _;(with_reducible repeat (first|refine blk_drewN ?_ _|refine blk_drew ?_|refine blk_alloc ?_ _));refine blk_far ?_ NB146_158.out _;(with_reducible repeat (first|refine blk_drewN ?_ _|refine blk_drew ?_|refine blk_alloc ?_ _));refine blk_far ?_ NB146_158.out _;(with_reducible repeat (first|refine blk_drewN ?_ _|refine blk_drew ?_|refine blk_alloc ?_ _));refine blk_far ?_ NB146_158.out _;(with_reducible repeat (first|refine blk_drewN ?_ _|refine blk_drew ?_|refine blk_alloc ?_ _));refine blk_far ?_ NB146_158.out _;(with_reducible repeat (first|refine blk_drewN ?_ _|refine blk_drew ?_|refine blk_alloc ?_ _));refine blk_far ?_ NB146_158.out _;(with_reducible repeat (first|refine blk_drewN ?_ _|refine blk_drew ?_|refine blk_alloc ?_ _));refine blk_far ?_ NB146_158.out _;(with_reducible repeat (first|refine blk_drewN ?_ _|refine blk_drew ?_|refine blk_alloc ?_ _));exact BK146.out) Try.underlying26 rfl (by kernel_rfl)) rfl ?_
       exact ⟨by first|rfl|(rw [px_ne];rfl)|(simp [errW_none,errW_some] <;> rfl)|(simp [*,errW_none,errW_some] <;> rfl),by repeat (first|(with_reducible first|exact HB.out|apply below_alloc|apply pw_below_drewN|apply below_drew1|refine below_set ?_ GE146.out|refine below_set ?_ GE148.out|refine below_set ?_ GE158.out)|exact HB.out)⟩
     ·rw [if_neg c9] at H
      exact absurd H (by simp)
    ·rw [if_neg c8] at H
     have c8b0 : decide (x5_1 < (l0.length : Int)) = false:=decide_eq_false c8
     clear c8
     simp only [Option.some.injEq,Prod.mk.injEq] at H
     obtain ⟨rfl,rfl,rfl,rfl,rfl,rfl,rfl,rfl⟩:=H
     have hnb42:=NB148_146.out
     have hnc42:=NB146_148.out
     have hcz43_0 : wr.cell? ⟨gb148,0,none⟩ = some (.int .i64 x149000_1):=(blk_cell BK148.out 0).trans rfl
     have hcz43_1 : wr.cell? ⟨gb148,1,none⟩ = some (.float .f64 x149001_1):=(blk_cell BK148.out 1).trans rfl
     have hcz43_2 : wr.cell? ⟨gb148,2,none⟩ = some (.float .f64 x149002_1):=(blk_cell BK148.out 2).trans rfl
     have hcz43_3 : wr.cell? ⟨gb148,3,none⟩ = some (.float .f64 x149003_1):=(blk_cell BK148.out 3).trans rfl
     have hcz43_4 : wr.cell? ⟨gb148,4,none⟩ = some (.float .f64 x149004_1):=(blk_cell BK148.out 4).trans rfl
     have hcz43_5 : wr.cell? ⟨gb148,5,none⟩ = some (.float .f64 x149005_1):=(blk_cell BK148.out 5).trans rfl
     have hcz43_6 : wr.cell? ⟨gb148,6,none⟩ = some (.float .f64 x149006_1):=(blk_cell BK148.out 6).trans rfl
     have hfz43_0:=blk_frozen BK148.out 0
     have hfz43_1:=blk_frozen BK148.out 1
     have hfz43_2:=blk_frozen BK148.out 2
     have hfz43_3:=blk_frozen BK148.out 3
     have hfz43_4:=blk_frozen BK148.out 4
     have hfz43_5:=blk_frozen BK148.out 5
     have hfz43_6:=blk_frozen BK148.out 6
     have hcz44_0 : wr.cell? ⟨gb146,0,none⟩ = some (.int .i64 x147000_1):=(blk_cell BK146.out 0).trans rfl
     have hcz44_1 : wr.cell? ⟨gb146,1,none⟩ = some (.float .f64 x147001_1):=(blk_cell BK146.out 1).trans rfl
     have hcz44_2 : wr.cell? ⟨gb146,2,none⟩ = some (.float .f64 x147002_1):=(blk_cell BK146.out 2).trans rfl
     have hcz44_3 : wr.cell? ⟨gb146,3,none⟩ = some (.float .f64 x147003_1):=(blk_cell BK146.out 3).trans rfl
     have hcz44_4 : wr.cell? ⟨gb146,4,none⟩ = some (.float .f64 x147004_1):=(blk_cell BK146.out 4).trans rfl
     have hcz44_5 : wr.cell? ⟨gb146,5,none⟩ = some (.float .f64 x147005_1):=(blk_cell BK146.out 5).trans rfl
     have hcz44_6 : wr.cell? ⟨gb146,6,none⟩ = some (.float .f64 x147006_1):=(blk_cell BK146.out 6).trans rfl
     have hfz44_0:=blk_frozen BK146.out 0
     have hfz44_1:=blk_frozen BK146.out 1
     have hfz44_2:=blk_frozen BK146.out 2
     have hfz44_3:=blk_frozen BK146.out 3
     have hfz44_4:=blk_frozen BK146.out 4
     have hfz44_5:=blk_frozen BK146.out 5
     have hfz44_6:=blk_frozen BK146.out 6
     go_wp2
     refine bodyPost_ret (results_ct rfl _ _ gb146 26 #[.int .i64 x149000_1,.float .f64 x149001_1,.float .f64 x149002_1,.float .f64 x149003_1,.float .f64 x149004_1,.float .f64 x149005_1,.float .f64 x149006_1] (0,0) _ rfl (by (with_reducible repeat (first|refine blk_drewN ?_ _|refine blk_drew ?_|refine blk_alloc ?_ _));refine blk_put (cs:=#[.int .i64 x149000_1,.float .f64 x149001_1,.float .f64 x149002_1,.float .f64 x149003_1,.float .f64 x149004_1,.float .f64 x149005_1,.float .f64 x147006_1]) ?_ 6 _ (by first|rfl|(simp only [px_pos,px_ne];rfl)|simp [px_pos,px_ne]);(with_reducible repeat (first|refine blk_drewN ?_ _|refine blk_drew ?_|refine blk_alloc ?_ _));refine blk_put (cs:=#[.int .i64 x149000_1,.float .f64 x149001_1,.float .f64 x149002_1,.float .f64 x149003_1,.float .f64 x149004_1,.float .f64 x147005_1,.float .f64 x147006_1]) ?_ 5 _ (by first|rfl|(simp only [px_pos,px_ne];rfl)|simp [px_pos,px_ne]);(with_reducible repeat (first|refine blk_drewN ?_ _|refine blk_drew ?_|refine blk_alloc ?_ _));refine blk_put (cs:=#[.int .i64 x149000_1,.float .f64 x149001_1,.float .f64 x149002_1,.float .f64 x149003_1,.float .f64 x147004_1,.float .f64 x147005_1,.float .f64 x147006_1]) ?_ 4 _ (by first|rfl|(simp only [px_pos,px_ne];rfl)|simp [px_pos,px_ne]);(with_reducible repeat (first|refine blk_drewN ?_ _|refine blk_drew ?_|refine blk_alloc ?_ _));refine blk_put (cs:=#[.int .i64 x149000_1,.float .f64 x149001_1,.float .f64 x149002_1,.float .f64 x147003_1,.float .f64 x147004_1,.float .f64 x147005_1,.float .f64 x147006_1]) ?_ 3 _ (by first|rfl|(simp only [px_pos,px_ne];rfl)|simp [px_pos,px_ne]);(with_reducible repeat (first|refine blk_drewN ?_ _|refine blk_drew ?_|refine blk_alloc ?_ _));refine blk_put (cs:=#[.int .i64 x149000_1,.float .f64 x149001_1,.float .f64 x147002_1,.float .f64 x147003_1,.float .f64 x147004_1,.float .f64 x147005_1,.float .f64 x147006_1]) ?_ 2 _ (by first|rfl|(simp only [px_pos,px_ne];rfl)|simp [px_pos,px_ne]);(with_reducible repeat (first|refine blk_drewN ?_ _|refine blk_drew ?_|refine blk_alloc ?_ _));refine blk_put (cs:=#[.int .i64 x149000_1,.float .f64 x147001_1,.float .f64 x147002_1,.float .f64 x147003_1,.float .f64 x147004_1,.float .f64 x147005_1,.float .f64 x147006_1]) ?_ 1 _ (by first|rfl|(simp only [px_pos,px_ne];rfl)|simp [px_pos,px_ne]);(with_reducible repeat (first|refine blk_drewN ?_ _|refine blk_drew ?_|refine blk_alloc ?_ _));refine blk_put (cs:=#[.int .i64 x147000_1,.float .f64 x147001_1,.float .f64 x147002_1,.float .f64 x147003_1,.float .f64 x147004_1,.float .f64 x147005_1,.float .f64 x147006_1]) ?_ 0 _ (by first|rfl|(simp only [px_pos,px_ne];rfl)|simp [px_pos,px_ne]);(with_reducible repeat (first|refine blk_drewN ?_ _|refine blk_drew ?_|refine blk_alloc ?_ _));exact BK146.out) Try.underlying26 rfl (by kernel_rfl)) rfl ?_
     exact ⟨by first|rfl|(rw [px_ne];rfl)|(simp [errW_none,errW_some] <;> rfl)|(simp [*,errW_none,errW_some] <;> rfl),by repeat (first|(with_reducible first|exact HB.out|apply below_alloc|apply pw_below_drewN|apply below_drew1|refine below_set ?_ GE146.out|refine below_set ?_ GE148.out)|exact HB.out)⟩
 ·replace c3:=Bool.eq_false_iff.mpr c3
  subst c3
  have H1 : (some (0,0,0,0,0,0,0,130)) = some (r1,r2,r3,r4,r5,r6,r7,r8):=by rw [if_neg (show ¬ (false = true) by decide)] at H;exact H
  clear H
  have H:=H1
  clear H1
  simp only [Option.some.injEq,Prod.mk.injEq] at H
  obtain ⟨rfl,rfl,rfl,rfl,rfl,rfl,rfl,rfl⟩:=H
  go_enter Try.func14,Try.ntmps14
  go_wp2_with (first|((with_reducible refine gate_dst (N:=2) rfl ?_);refine box_event ?hg (N:=2) ?hd (cs:=#[.int .i64 0,.float .f64 0,.float .f64 0,.float .f64 0,.float .f64 0,.float .f64 0,.float .f64 0]) (t:=26) ?hr ?_;(case hd=>rfl);(case hg=>rfl);(case hr=>first|(go_simp;done)|(go_simp;rfl));intro gb146 hg w45 hbox hb;have n0_:=Aside0.mk (below_step (by repeat (first|(with_reducible first|exact HB.out|apply below_alloc|apply pw_below_drewN|apply below_drew1)|exact HB.out)) hb);have n1_:=Aside0.mk (hbox);have n2_:=Aside0.mk ((by rw [hg];exact (below_size (by repeat (first|(with_reducible first|exact HB.out|apply below_alloc|apply pw_below_drewN|apply below_drew1)|exact HB.out))) : w.heap.size ≤ gb146));have n3_:=Aside0.mk ((by rw [hg];exact (below_size (by repeat (first|(with_reducible first|exact HB.out|apply below_alloc|apply pw_below_drewN|apply below_drew1)|exact HB.out))) : w.heap.size ≤ gb146));clear HB;have HB:=n0_;have BK146:=n1_;have GW146:=n2_;have GE146:=n3_;clear n0_ n1_ n2_ n3_;clear hb hbox hg)|((with_reducible refine gate_callee (f:=41) rfl ?_);refine goesL_ (some 9) rfl rfl Try.func41 (by kernel_rfl) rfl #[.slice A0 l0.length c0] rfl (by (try simp only [List.map_toArray,List.map_cons,List.map_nil]);first|done|rfl|(simp only [List.length_drop,List.length_take];rfl)) ?_;(with_reducible refine (quarryref31_All.calls k _ _ l0 false _ ?side1 ?side2 A2.out).mono ?_);(case side1=>repeat (first|exact (Kd.C_below HR0.out HB.out)|(with_reducible refine Kd.C_alloc ?_ _)|(with_reducible refine Kd.C_drewN ?_ _)|(with_reducible refine Kd.C_drew ?_)));(case side2=>exact HC0.out);rintro e w' ⟨rfl,⟨nd,rfl⟩⟩;refine ⟨_,rfl,?_⟩;have hcz46_0 : w45.cell? ⟨gb146,0,none⟩ = some (.int .i64 0):=(blk_cell BK146.out 0).trans rfl;have hcz46_1 : w45.cell? ⟨gb146,1,none⟩ = some (.float .f64 0):=(blk_cell BK146.out 1).trans rfl;have hcz46_2 : w45.cell? ⟨gb146,2,none⟩ = some (.float .f64 0):=(blk_cell BK146.out 2).trans rfl;have hcz46_3 : w45.cell? ⟨gb146,3,none⟩ = some (.float .f64 0):=(blk_cell BK146.out 3).trans rfl;have hcz46_4 : w45.cell? ⟨gb146,4,none⟩ = some (.float .f64 0):=(blk_cell BK146.out 4).trans rfl;have hcz46_5 : w45.cell? ⟨gb146,5,none⟩ = some (.float .f64 0):=(blk_cell BK146.out 5).trans rfl;have hcz46_6 : w45.cell? ⟨gb146,6,none⟩ = some (.float .f64 0):=(blk_cell BK146.out 6).trans rfl;have hfz46_0:=blk_frozen BK146.out 0;have hfz46_1:=blk_frozen BK146.out 1;have hfz46_2:=blk_frozen BK146.out 2;have hfz46_3:=blk_frozen BK146.out 3;have hfz46_4:=blk_frozen BK146.out 4;have hfz46_5:=blk_frozen BK146.out 5;have hfz46_6:=blk_frozen BK146.out 6))
  refine bodyPost_ret (results_ct rfl _ _ gb146 26 #[.int .i64 0,.float .f64 0,.float .f64 0,.float .f64 0,.float .f64 0,.float .f64 0,.float .f64 0] (0,0) _ rfl (by (with_reducible repeat (first|refine blk_drewN ?_ _|refine blk_drew ?_|refine blk_alloc ?_ _));refine blk_put (cs:=#[.int .i64 0,.float .f64 0,.float .f64 0,.float .f64 0,.float .f64 0,.float .f64 0,.float .f64 0]) ?_ 6 _ (by first|rfl|(simp only [px_pos,px_ne];rfl)|simp [px_pos,px_ne]);(with_reducible repeat (first|refine blk_drewN ?_ _|refine blk_drew ?_|refine blk_alloc ?_ _));refine blk_put (cs:=#[.int .i64 0,.float .f64 0,.float .f64 0,.float .f64 0,.float .f64 0,.float .f64 0,.float .f64 0]) ?_ 5 _ (by first|rfl|(simp only [px_pos,px_ne];rfl)|simp [px_pos,px_ne]);(with_reducible repeat (first|refine blk_drewN ?_ _|refine blk_drew ?_|refine blk_alloc ?_ _));refine blk_put (cs:=#[.int .i64 0,.float .f64 0,.float .f64 0,.float .f64 0,.float .f64 0,.float .f64 0,.float .f64 0]) ?_ 4 _ (by first|rfl|(simp only [px_pos,px_ne];rfl)|simp [px_pos,px_ne]);(with_reducible repeat (first|refine blk_drewN ?_ _|refine blk_drew ?_|refine blk_alloc ?_ _));refine blk_put (cs:=#[.int .i64 0,.float .f64 0,.float .f64 0,.float .f64 0,.float .f64 0,.float .f64 0,.float .f64 0]) ?_ 3 _ (by first|rfl|(simp only [px_pos,px_ne];rfl)|simp [px_pos,px_ne]);(with_reducible repeat (first|refine blk_drewN ?_ _|refine blk_drew ?_|refine blk_alloc ?_ _));refine blk_put (cs:=#[.int .i64 0,.float .f64 0,.float .f64 0,.float .f64 0,.float .f64 0,.float .f64 0,.float .f64 0]) ?_ 2 _ (by first|rfl|(simp only [px_pos,px_ne];rfl)|simp [px_pos,px_ne]);(with_reducible repeat (first|refine blk_drewN ?_ _|refine blk_drew ?_|refine blk_alloc ?_ _));refine blk_put (cs:=#[.int .i64 0,.float .f64 0,.float .f64 0,.float .f64 0,.float .f64 0,.float .f64 0,.float .f64 0]) ?_ 1 _ (by first|rfl|(simp only [px_pos,px_ne];rfl)|simp [px_pos,px_ne]);(with_reducible repeat (first|refine blk_drewN ?_ _|refine blk_drew ?_|refine blk_alloc ?_ _));refine blk_put (cs:=#[.int .i64 0,.float .f64 0,.float .f64 0,.float .f64 0,.float .f64 0,.float .f64 0,.float .f64 0]) ?_ 0 _ (by first|rfl|(simp only [px_pos,px_ne];rfl)|simp [px_pos,px_ne]);(with_reducible repeat (first|refine blk_drewN ?_ _|refine blk_drew ?_|refine blk_alloc ?_ _));exact BK146.out) Try.underlying26 rfl (by kernel_rfl)) rfl ?_
  exact ⟨by first|rfl|(rw [px_ne];rfl)|(simp [errW_none,errW_some] <;> rfl)|(simp [*,errW_none,errW_some] <;> rfl),by repeat (first|(with_reducible first|exact HB.out|apply below_alloc|apply pw_below_drewN|apply below_drew1|refine below_set ?_ GE146.out)|exact HB.out)⟩
end Go.Proofs.Ytijmdmnhbbcahaa.PTallyOf
