-- Written by shrink.py, a program of this session: what the law needs of the print and its words. Lean checks it.
import Derived.Test.YtgbiobbhaejjlaaDoorZPTreeShapesx0
import Derived.Test.YtgbiobbhaejjlaaDoorZPTreeShapesx21
namespace Go.Proofs.YtgbiobbhaejjlaaDoor.PTreeShapes
open Go.RowKit Go.Proofs.YtgbiobbhaejjlaaDoorW.PrintWords Go.Proofs.YtgbiobbhaejjlaaDoorW.PrintLast Go.Proofs.YtgbiobbhaejjlaaDoorW.PrintMore
attribute [local go_sem] max2_int min2_int max_two min_two max_three min_three max_four min_four
set_option linter.unusedVariables false
set_option linter.unusedSimpArgs false
mutual
def quarryref17_formed.j0 : Nat → Int → Bool → Int → Bool → ByteArray → ByteArray → List ByteArray → List (S25) → Option (Bool)
 | 0,_,_,_,_,_,_,_,_=>none
 | k + 1,x1,x20,x205000,x205001,x205002,x205003,x205004,x205005=>if x20 = true then (some false) else (quarryref17_formed.l0 k x1 0 x205000 x205001 x205002 x205003 x205004 x205005)
def quarryref17_formed.l0 : Nat → Int → Int → Int → Bool → ByteArray → ByteArray → List ByteArray → List (S25) → Option (Bool)
 | 0,_,_,_,_,_,_,_,_=>none
 | k + 1,x1,x5,x205000,x205001,x205002,x205003,x205004,x205005=>if x5 < (x205005.length : Int) then (if 0 ≤ x5 then ((quarryref17_formed.f k ((rd_T25 x205005 x5).f0) ((rd_T25 x205005 x5).f1) ((rd_T25 x205005 x5).f2) ((rd_T25 x205005 x5).f3) ((rd_T25 x205005 x5).f4) ((rd_T25 x205005 x5).f5) (wrap64 (x1 - 1))).bind fun t207=>(if t207 = true then (quarryref17_formed.l0 k x1 (wrap64 (x5 + 1)) x205000 x205001 x205002 x205003 x205004 x205005) else (some false))) else (none)) else (some true)
def quarryref17_formed.f : Nat → Int → Bool → ByteArray → ByteArray → List ByteArray → List (S25) → Int → Option (Bool)
 | 0,_,_,_,_,_,_,_=>none
 | k + 1,a0_0,a0_1,a0_2,a0_3,l0_4,l0_5,a1=>(quarryref17_plain.f k a0_0 a0_1 a0_2 a0_3 l0_4 l0_5).bind fun t205=>(if t205 = true then (if a0_0 = 5 then (quarryref17_formed.j0 k a1 (a1 == 0) a0_0 a0_1 a0_2 a0_3 l0_4 l0_5) else (if a0_0 = 6 then (quarryref17_formed.j0 k a1 (a1 == 0) a0_0 a0_1 a0_2 a0_3 l0_4 l0_5) else (quarryref17_formed.j0 k a1 false a0_0 a0_1 a0_2 a0_3 l0_4 l0_5))) else (some false))
end
set_option maxHeartbeats 8000000 in
set_option maxRecDepth 100000 in
theorem quarryref17_formed.calls (k : Nat) : ∀ (a0_0 : Int) (a0_1 : Bool) (a0_2 : ByteArray) (a0_3 : ByteArray) (A0_4 : Option Addr) (c0_4 : Nat) (l0_4 : List ByteArray) (A0_5 : Option Addr) (c0_5 : Nat) (l0_5 : List (S25)) (a1 : Int) (r : Bool) (w : World) (hr0_4 : Kd.C Kd.string w A0_4 l0_4.length l0_4) (hc0_4 : l0_4.length ≤ c0_4) (hr0_5 : Kd.C k25 w A0_5 l0_5.length l0_5) (hc0_5 : l0_5.length ≤ c0_5) (h : quarryref17_formed.f k a0_0 a0_1 a0_2 a0_3 l0_4 l0_5 a1 = some r),
  Calls Tryd.prog 20 #[.agg #[.int .i64 a0_0,.bool a0_1,.string a0_2,.string a0_3,.slice A0_4 l0_4.length c0_4,.slice A0_5 l0_5.length c0_5],.int .i64 a1] w fun e w'=>e = .returned (.bool r) ∧ Below w.heap.size w w':=by
 induction k using Nat.strongRecOn with
 | _ k ih =>
 intro a0_0 a0_1 a0_2 a0_3 A0_4 c0_4 l0_4 A0_5 c0_5 l0_5 a1 r w hr0_4 hc0_4 hr0_5 hc0_5 h
 cases k with
 | zero=>exact absurd h (by simp [quarryref17_formed.f])
 | succ k =>
 simp only [quarryref17_formed.f] at h
 have hu25:=Tryd.underlying25
 have HR0_4:=Aside0.mk hr0_4
 have HC0_4:=Aside0.mk hc0_4
 clear hr0_4 hc0_4
 have HR0_5:=Aside0.mk hr0_5
 have HC0_5:=Aside0.mk hc0_5
 clear hr0_5 hc0_5
 have HB:=Aside0.mk (Below.refl w.heap.size w)
 have H : ((quarryref17_plain.f k a0_0 a0_1 a0_2 a0_3 l0_4 l0_5).bind fun t205=>(if t205 = true then (if a0_0 = 5 then (quarryref17_formed.j0 k a1 (a1 == 0) a0_0 a0_1 a0_2 a0_3 l0_4 l0_5) else (if a0_0 = 6 then (quarryref17_formed.j0 k a1 (a1 == 0) a0_0 a0_1 a0_2 a0_3 l0_4 l0_5) else (quarryref17_formed.j0 k a1 false a0_0 a0_1 a0_2 a0_3 l0_4 l0_5))) else (some false))) = some r:=h
 clear h
 replace H:=Option.bind_eq_some_iff.mp H
 obtain ⟨t205,A30,H⟩:=H
 replace H : (if t205 = true then (if a0_0 = 5 then (quarryref17_formed.j0 k a1 (a1 == 0) a0_0 a0_1 a0_2 a0_3 l0_4 l0_5) else (if a0_0 = 6 then (quarryref17_formed.j0 k a1 (a1 == 0) a0_0 a0_1 a0_2 a0_3 l0_4 l0_5) else (quarryref17_formed.j0 k a1 false a0_0 a0_1 a0_2 a0_3 l0_4 l0_5))) else (some false)) = some r:=H
 have A3:=Aside0.mk A30
 clear A30
 by_cases c4 : t205 = true
 ·subst c4
  have H1 : (if a0_0 = 5 then (quarryref17_formed.j0 k a1 (a1 == 0) a0_0 a0_1 a0_2 a0_3 l0_4 l0_5) else (if a0_0 = 6 then (quarryref17_formed.j0 k a1 (a1 == 0) a0_0 a0_1 a0_2 a0_3 l0_4 l0_5) else (quarryref17_formed.j0 k a1 false a0_0 a0_1 a0_2 a0_3 l0_4 l0_5))) = some r:=by rw [if_pos rfl] at H;exact H
  clear H
  have H:=H1
  clear H1
  have HC5:=Aside0.mk H
  clear H
  go_enter Tryd.func20,Tryd.ntmps20
  go_upto_region 3 with (first|((with_reducible refine gate_dst (N:=2) rfl ?_);refine box_event ?hg (N:=2) ?hd (cs:=#[.int .i64 a0_0,.bool a0_1,.string a0_2,.string a0_3,.slice A0_4 l0_4.length c0_4,.slice A0_5 l0_5.length c0_5]) (t:=25) ?hr ?_;(case hd=>rfl);(case hg=>rfl);(case hr=>first|(go_simp;done)|(go_simp;rfl));intro gb204 hg w6 hbox hb;have n0_:=Aside0.mk (below_step (by repeat (first|(with_reducible first|exact HB.out|apply below_alloc|apply pw_below_drewN|apply below_drew1)|exact HB.out)) hb);have n1_:=Aside0.mk (hbox);have n2_:=Aside0.mk ((by rw [hg];exact (below_size (by repeat (first|(with_reducible first|exact HB.out|apply below_alloc|apply pw_below_drewN|apply below_drew1)|exact HB.out))) : w.heap.size ≤ gb204));have n3_:=Aside0.mk ((by rw [hg];exact (below_size (by repeat (first|(with_reducible first|exact HB.out|apply below_alloc|apply pw_below_drewN|apply below_drew1)|exact HB.out))) : w.heap.size ≤ gb204));clear HB;have HB:=n0_;have BK204:=n1_;have GW204:=n2_;have GE204:=n3_;clear n0_ n1_ n2_ n3_;clear hb hbox hg;have hcz7_0 : w6.cell? ⟨gb204,0,none⟩ = some (.int .i64 a0_0):=(blk_cell BK204.out 0).trans rfl;have hcz7_1 : w6.cell? ⟨gb204,1,none⟩ = some (.bool a0_1):=(blk_cell BK204.out 1).trans rfl;have hcz7_2 : w6.cell? ⟨gb204,2,none⟩ = some (.string a0_2):=(blk_cell BK204.out 2).trans rfl;have hcz7_3 : w6.cell? ⟨gb204,3,none⟩ = some (.string a0_3):=(blk_cell BK204.out 3).trans rfl;have hcz7_4 : w6.cell? ⟨gb204,4,none⟩ = some (.slice A0_4 l0_4.length c0_4):=(blk_cell BK204.out 4).trans rfl;have hcz7_5 : w6.cell? ⟨gb204,5,none⟩ = some (.slice A0_5 l0_5.length c0_5):=(blk_cell BK204.out 5).trans rfl;have hfz7_0:=blk_frozen BK204.out 0;have hfz7_1:=blk_frozen BK204.out 1;have hfz7_2:=blk_frozen BK204.out 2;have hfz7_3:=blk_frozen BK204.out 3;have hfz7_4:=blk_frozen BK204.out 4;have hfz7_5:=blk_frozen BK204.out 5)|((with_reducible refine gate_callee (f:=28) rfl ?_);refine goesL_ (some 7) rfl rfl Tryd.func28 (by kernel_rfl) rfl #[.agg #[.int .i64 a0_0,.bool a0_1,.string a0_2,.string a0_3,.slice A0_4 l0_4.length c0_4,.slice A0_5 l0_5.length c0_5]] rfl (by (try simp only [List.map_toArray,List.map_cons,List.map_nil]);first|done|rfl|(simp only [List.length_drop,List.length_take];rfl)) ?_;(with_reducible refine (quarryref17_plain.calls k a0_0 a0_1 a0_2 a0_3 _ _ l0_4 _ _ l0_5 true _ ?side1 ?side2 ?side3 ?side4 A3.out).mono ?_);(case side1=>repeat (first|exact (Kd.C_below HR0_4.out HB.out)|(with_reducible refine Kd.C_alloc ?_ _)|(with_reducible refine Kd.C_drewN ?_ _)|(with_reducible refine Kd.C_drew ?_)));(case side2=>exact HC0_4.out);(case side3=>repeat (first|exact (Kd.C_below HR0_5.out HB.out)|(with_reducible refine Kd.C_alloc ?_ _)|(with_reducible refine Kd.C_drewN ?_ _)|(with_reducible refine Kd.C_drew ?_)));(case side4=>exact HC0_5.out);rintro e w8 ⟨rfl,hb⟩;refine ⟨_,rfl,?_⟩;have n0_:=Aside0.mk (blk_below (g:=gb204) (o:=.cells #[.int .i64 a0_0,.bool a0_1,.string a0_2,.string a0_3,.slice A0_4 l0_4.length c0_4,.slice A0_5 l0_5.length c0_5] 25 (0,0)) (by (with_reducible repeat (first|refine blk_drewN ?_ _|refine blk_drew ?_|refine blk_alloc ?_ _));exact BK204.out) hb);have n1_:=Aside0.mk (below_step (by repeat (first|(with_reducible first|exact HB.out|apply below_alloc|apply pw_below_drewN|apply below_drew1|refine below_set ?_ GE204.out)|exact HB.out)) hb);clear BK204;clear HB;have BK204:=n0_;have HB:=n1_;clear n0_ n1_;(try clear hb);(try clear hb2);(try clear hk);(try clear hi)))
  (try simp only [Act.put,List.setIfInBounds_toArray,List.set_cons_zero,List.set_cons_succ])
  go_cut [20] (fun v20 wc=>∃ (kq : Nat) (x20_4 : Bool),v20 = .bool x20_4 ∧ Aside0 (quarryref17_formed.j0 kq a1 x20_4 a0_0 a0_1 a0_2 a0_3 l0_4 l0_5 = some r) ∧ Aside0 (kq ≤ k) ∧ Aside0 (wc.heap[gb204]? = some (.cells #[.int .i64 a0_0,.bool a0_1,.string a0_2,.string a0_3,(.slice A0_4 l0_4.length c0_4),(.slice A0_5 l0_5.length c0_5)] 25 (0,0))) ∧ Aside0 (Below w.heap.size w wc))
  case first =>
   have H:=HC5.out
   clear HC5
   by_cases c9 : a0_0 = 5
   ·rw [if_pos c9] at H
    have c9b0 : (a0_0 == 5) = true:=beq_iff_eq.mpr c9
    have c9b1 : (a0_0 != 5) = false:=bne_eq_false_iff_eq.mpr c9
    clear c9
    (first|rw [c9b0]|(simp only [i64_w,i32_w];rw [c9b0])|skip)
    have H':=Aside0.mk H
    clear H
    have hcz10_0 : w8.cell? ⟨gb204,0,none⟩ = some (.int .i64 a0_0):=(blk_cell BK204.out 0).trans rfl
    have hcz10_1 : w8.cell? ⟨gb204,1,none⟩ = some (.bool a0_1):=(blk_cell BK204.out 1).trans rfl
    have hcz10_2 : w8.cell? ⟨gb204,2,none⟩ = some (.string a0_2):=(blk_cell BK204.out 2).trans rfl
    have hcz10_3 : w8.cell? ⟨gb204,3,none⟩ = some (.string a0_3):=(blk_cell BK204.out 3).trans rfl
    have hcz10_4 : w8.cell? ⟨gb204,4,none⟩ = some (.slice A0_4 l0_4.length c0_4):=(blk_cell BK204.out 4).trans rfl
    have hcz10_5 : w8.cell? ⟨gb204,5,none⟩ = some (.slice A0_5 l0_5.length c0_5):=(blk_cell BK204.out 5).trans rfl
    have hfz10_0:=blk_frozen BK204.out 0
    have hfz10_1:=blk_frozen BK204.out 1
    have hfz10_2:=blk_frozen BK204.out 2
    have hfz10_3:=blk_frozen BK204.out 3
    have hfz10_4:=blk_frozen BK204.out 4
    have hfz10_5:=blk_frozen BK204.out 5
    go_wp2
    go_meet
    case rel=>exact ⟨_,((a1 == 0)),(by first|rfl|(simp;done)|(simp [*];done)),(by first|exact H'|(subst_vars;exact H')),⟨by first|omega|exact Nat.le_refl _⟩,⟨by (with_reducible repeat (first|refine blk_drewN ?_ _|refine blk_drew ?_|refine blk_alloc ?_ _));exact BK204.out⟩,⟨by repeat (first|(with_reducible first|exact HB.out|apply below_alloc|apply pw_below_drewN|apply below_drew1|refine below_set ?_ GE204.out)|exact HB.out)⟩⟩
   ·rw [if_neg c9] at H
    have c9b0 : (a0_0 == 5) = false:=beq_eq_false_iff_ne.mpr c9
    have c9b1 : (a0_0 != 5) = true:=bne_iff_ne.mpr c9
    (first|rw [c9b0]|(simp only [i64_w,i32_w];rw [c9b0])|skip)
    by_cases c11 : a0_0 = 6
    ·rw [if_pos c11] at H
     have c11b0 : (a0_0 == 6) = true:=beq_iff_eq.mpr c11
     have c11b1 : (a0_0 != 6) = false:=bne_eq_false_iff_eq.mpr c11
     clear c11
     have H':=Aside0.mk H
     clear H
     have hcz12_0 : w8.cell? ⟨gb204,0,none⟩ = some (.int .i64 a0_0):=(blk_cell BK204.out 0).trans rfl
     have hcz12_1 : w8.cell? ⟨gb204,1,none⟩ = some (.bool a0_1):=(blk_cell BK204.out 1).trans rfl
     have hcz12_2 : w8.cell? ⟨gb204,2,none⟩ = some (.string a0_2):=(blk_cell BK204.out 2).trans rfl
     have hcz12_3 : w8.cell? ⟨gb204,3,none⟩ = some (.string a0_3):=(blk_cell BK204.out 3).trans rfl
     have hcz12_4 : w8.cell? ⟨gb204,4,none⟩ = some (.slice A0_4 l0_4.length c0_4):=(blk_cell BK204.out 4).trans rfl
     have hcz12_5 : w8.cell? ⟨gb204,5,none⟩ = some (.slice A0_5 l0_5.length c0_5):=(blk_cell BK204.out 5).trans rfl
     have hfz12_0:=blk_frozen BK204.out 0
     have hfz12_1:=blk_frozen BK204.out 1
     have hfz12_2:=blk_frozen BK204.out 2
     have hfz12_3:=blk_frozen BK204.out 3
     have hfz12_4:=blk_frozen BK204.out 4
     have hfz12_5:=blk_frozen BK204.out 5
     go_wp2
     go_meet
     case rel=>exact ⟨_,((a1 == 0)),(by first|rfl|(simp;done)|(simp [*];done)),(by first|exact H'|(subst_vars;exact H')),⟨by first|omega|exact Nat.le_refl _⟩,⟨by (with_reducible repeat (first|refine blk_drewN ?_ _|refine blk_drew ?_|refine blk_alloc ?_ _));exact BK204.out⟩,⟨by repeat (first|(with_reducible first|exact HB.out|apply below_alloc|apply pw_below_drewN|apply below_drew1|refine below_set ?_ GE204.out)|exact HB.out)⟩⟩
    ·rw [if_neg c11] at H
     have c11b0 : (a0_0 == 6) = false:=beq_eq_false_iff_ne.mpr c11
     have c11b1 : (a0_0 != 6) = true:=bne_iff_ne.mpr c11
     have H':=Aside0.mk H
     clear H
     have hcz13_0 : w8.cell? ⟨gb204,0,none⟩ = some (.int .i64 a0_0):=(blk_cell BK204.out 0).trans rfl
     have hcz13_1 : w8.cell? ⟨gb204,1,none⟩ = some (.bool a0_1):=(blk_cell BK204.out 1).trans rfl
     have hcz13_2 : w8.cell? ⟨gb204,2,none⟩ = some (.string a0_2):=(blk_cell BK204.out 2).trans rfl
     have hcz13_3 : w8.cell? ⟨gb204,3,none⟩ = some (.string a0_3):=(blk_cell BK204.out 3).trans rfl
     have hcz13_4 : w8.cell? ⟨gb204,4,none⟩ = some (.slice A0_4 l0_4.length c0_4):=(blk_cell BK204.out 4).trans rfl
     have hcz13_5 : w8.cell? ⟨gb204,5,none⟩ = some (.slice A0_5 l0_5.length c0_5):=(blk_cell BK204.out 5).trans rfl
     have hfz13_0:=blk_frozen BK204.out 0
     have hfz13_1:=blk_frozen BK204.out 1
     have hfz13_2:=blk_frozen BK204.out 2
     have hfz13_3:=blk_frozen BK204.out 3
     have hfz13_4:=blk_frozen BK204.out 4
     have hfz13_5:=blk_frozen BK204.out 5
     go_wp2
     go_meet
     case rel=>exact ⟨_,(false),(by first|rfl|(simp;done)|(simp [*];done)),(by first|exact H'|(subst_vars;exact H')),⟨by first|omega|exact Nat.le_refl _⟩,⟨by (with_reducible repeat (first|refine blk_drewN ?_ _|refine blk_drew ?_|refine blk_alloc ?_ _));exact BK204.out⟩,⟨by repeat (first|(with_reducible first|exact HB.out|apply below_alloc|apply pw_below_drewN|apply below_drew1|refine below_set ?_ GE204.out)|exact HB.out)⟩⟩
  case rest =>
   clear HC5
   try clear c1
   try clear c2
   try clear p2
   try clear c4
   try clear c9
   try clear c9b0
   try clear c9b1
   try clear c11
   try clear c11b0
   try clear c11b1
   try clear hcz10_0
   try clear hcz10_1
   try clear hcz10_2
   try clear hcz10_3
   try clear hcz10_4
   try clear hcz10_5
   try clear hcz12_0
   try clear hcz12_1
   try clear hcz12_2
   try clear hcz12_3
   try clear hcz12_4
   try clear hcz12_5
   try clear hcz13_0
   try clear hcz13_1
   try clear hcz13_2
   try clear hcz13_3
   try clear hcz13_4
   try clear hcz13_5
   try clear hcz7_0
   try clear hcz7_1
   try clear hcz7_2
   try clear hcz7_3
   try clear hcz7_4
   try clear hcz7_5
   try clear hfz10_0
   try clear hfz10_1
   try clear hfz10_2
   try clear hfz10_3
   try clear hfz10_4
   try clear hfz10_5
   try clear hfz12_0
   try clear hfz12_1
   try clear hfz12_2
   try clear hfz12_3
   try clear hfz12_4
   try clear hfz12_5
   try clear hfz13_0
   try clear hfz13_1
   try clear hfz13_2
   try clear hfz13_3
   try clear hfz13_4
   try clear hfz13_5
   try clear hfz7_0
   try clear hfz7_1
   try clear hfz7_2
   try clear hfz7_3
   try clear hfz7_4
   try clear hfz7_5
   obtain ⟨kq,x20_4,rfl,HA,HJ4,BK204,HB⟩:=hcut
   cases kq with
   | zero=>exact absurd HA.out (by simp [quarryref17_formed.j0])
   | succ kj4 =>
    have H:=HA.out
    clear HA
    simp only [quarryref17_formed.j0] at H
    by_cases c14 : x20_4 = true
    ·subst c14
     have H1 : (some false) = some r:=by rw [if_pos rfl] at H;exact H
     clear H
     have H:=H1
     clear H1
     obtain rfl:=Option.some.inj H
     go_wp2
     go_ret
     exact ⟨by first|rfl|(simp [errW_none,errW_some] <;> rfl)|(simp [*,errW_none,errW_some] <;> rfl),by repeat (first|(with_reducible first|exact HB.out|apply below_alloc|apply pw_below_drewN|apply below_drew1|refine below_set ?_ GE204.out)|exact HB.out)⟩
    ·replace c14:=Bool.eq_false_iff.mpr c14
     subst c14
     have H1 : (quarryref17_formed.l0 kj4 a1 0 a0_0 a0_1 a0_2 a0_3 l0_4 l0_5) = some r:=by rw [if_neg (show ¬ (false = true) by decide)] at H;exact H
     clear H
     have H:=H1
     clear H1
     have H':=Aside0.mk H
     clear H
     go_wp2
     go_loopg [5] kj4 (fun kq v5 w'=>∃ (x5_2 : Int),v5 = .int .i64 x5_2 ∧ Aside0 (quarryref17_formed.l0 kq a1 x5_2 a0_0 a0_1 a0_2 a0_3 l0_4 l0_5 = some r) ∧ Aside0 (kq ≤ kj4) ∧ Aside0 (w'.heap[gb204]? = some (.cells #[.int .i64 a0_0,.bool a0_1,.string a0_2,.string a0_3,(.slice A0_4 l0_4.length c0_4),(.slice A0_5 l0_5.length c0_5)] 25 (0,0))) ∧ Aside0 (Below w.heap.size w w'))
     case atStart=>exact ⟨(0),(by first|rfl|(simp;done)|(simp [*];done)),H',⟨Nat.le_refl _⟩,⟨by (with_reducible repeat (first|refine blk_drewN ?_ _|refine blk_drew ?_|refine blk_alloc ?_ _));exact BK204.out⟩,⟨by repeat (first|(with_reducible first|exact HB.out|apply below_alloc|apply pw_below_drewN|apply below_drew1|refine below_set ?_ GE204.out)|exact HB.out)⟩⟩
     case round =>
      clear H'
      try clear c1
      try clear c2
      try clear p2
      try clear c4
      try clear c9
      try clear c9b0
      try clear c9b1
      try clear c11
      try clear c11b0
      try clear c11b1
      try clear c14
      try clear hcz10_0
      try clear hcz10_1
      try clear hcz10_2
      try clear hcz10_3
      try clear hcz10_4
      try clear hcz10_5
      try clear hcz12_0
      try clear hcz12_1
      try clear hcz12_2
      try clear hcz12_3
      try clear hcz12_4
      try clear hcz12_5
      try clear hcz13_0
      try clear hcz13_1
      try clear hcz13_2
      try clear hcz13_3
      try clear hcz13_4
      try clear hcz13_5
      try clear hcz7_0
      try clear hcz7_1
      try clear hcz7_2
      try clear hcz7_3
      try clear hcz7_4
      try clear hcz7_5
      try clear hfz10_0
      try clear hfz10_1
      try clear hfz10_2
      try clear hfz10_3
      try clear hfz10_4
      try clear hfz10_5
      try clear hfz12_0
      try clear hfz12_1
      try clear hfz12_2
      try clear hfz12_3
      try clear hfz12_4
      try clear hfz12_5
      try clear hfz13_0
      try clear hfz13_1
      try clear hfz13_2
      try clear hfz13_3
      try clear hfz13_4
      try clear hfz13_5
      try clear hfz7_0
      try clear hfz7_1
      try clear hfz7_2
      try clear hfz7_3
      try clear hfz7_4
      try clear hfz7_5
      try clear p2
      try clear HK2
      try clear BK204
      try clear HB
      obtain ⟨x5_2,rfl,HA,HK2,BK204,HB⟩:=hrel
      cases gk with
      | zero=>exact absurd HA.out (by simp [quarryref17_formed.l0])
      | succ k2 =>
       have H:=HA.out
       clear HA
       simp only [quarryref17_formed.l0] at H
       by_cases c15 : x5_2 < (l0_5.length : Int)
       ·rw [if_pos c15] at H
        have c15b0 : decide (x5_2 < (l0_5.length : Int)) = true:=decide_eq_true c15
        clear c15
        by_cases c16 : 0 ≤ x5_2
        ·rw [if_pos c16] at H
         have c16b0 : decide (0 ≤ x5_2) = true:=decide_eq_true c16
         clear c16
         replace H:=Option.bind_eq_some_iff.mp H
         obtain ⟨t207,A170,H⟩:=H
         replace H : (if t207 = true then (quarryref17_formed.l0 k2 a1 (wrap64 (x5_2 + 1)) a0_0 a0_1 a0_2 a0_3 l0_4 l0_5) else (some false)) = some r:=H
         have A17:=Aside0.mk A170
         clear A170
         by_cases c18 : t207 = true
         ·subst c18
          have H1 : (quarryref17_formed.l0 k2 a1 (wrap64 (x5_2 + 1)) a0_0 a0_1 a0_2 a0_3 l0_4 l0_5) = some r:=by rw [if_pos rfl] at H;exact H
          clear H
          have H:=H1
          clear H1
          have H':=Aside0.mk H
          clear H
          have hcz19_0 : wr.cell? ⟨gb204,0,none⟩ = some (.int .i64 a0_0):=(blk_cell BK204.out 0).trans rfl
          have hcz19_1 : wr.cell? ⟨gb204,1,none⟩ = some (.bool a0_1):=(blk_cell BK204.out 1).trans rfl
          have hcz19_2 : wr.cell? ⟨gb204,2,none⟩ = some (.string a0_2):=(blk_cell BK204.out 2).trans rfl
          have hcz19_3 : wr.cell? ⟨gb204,3,none⟩ = some (.string a0_3):=(blk_cell BK204.out 3).trans rfl
          have hcz19_4 : wr.cell? ⟨gb204,4,none⟩ = some (.slice A0_4 l0_4.length c0_4):=(blk_cell BK204.out 4).trans rfl
          have hcz19_5 : wr.cell? ⟨gb204,5,none⟩ = some (.slice A0_5 l0_5.length c0_5):=(blk_cell BK204.out 5).trans rfl
          have hfz19_0:=blk_frozen BK204.out 0
          have hfz19_1:=blk_frozen BK204.out 1
          have hfz19_2:=blk_frozen BK204.out 2
          have hfz19_3:=blk_frozen BK204.out 3
          have hfz19_4:=blk_frozen BK204.out 4
          have hfz19_5:=blk_frozen BK204.out 5
          have p206 : 0 ≤ (x5_2 : Int):=of_decide_eq_true (by first|(with_reducible assumption)|assumption)
          have q206 : x5_2 < (l0_5.length : Int):=of_decide_eq_true (by first|(with_reducible assumption)|assumption)
          obtain ⟨ad206,A206_4,c206_4,A206_5,c206_5,e206,hx206_0,hx206_1,hx206_2,hx206_3,hx206_4,hx206_5,hl206_4,hi206_4,hl206_5,hi206_5⟩:=at_T25 HR0_5.out x5_2 p206 q206
          cases e206
          replace hx206_0:=(HB.out.cell (World.block_lt_of_cell? w _ hx206_0)).trans hx206_0
          replace hx206_1:=(HB.out.cell (World.block_lt_of_cell? w _ hx206_1)).trans hx206_1
          replace hx206_2:=(HB.out.cell (World.block_lt_of_cell? w _ hx206_2)).trans hx206_2
          replace hx206_3:=(HB.out.cell (World.block_lt_of_cell? w _ hx206_3)).trans hx206_3
          replace hx206_4:=(HB.out.cell (World.block_lt_of_cell? w _ hx206_4)).trans hx206_4
          replace hx206_5:=(HB.out.cell (World.block_lt_of_cell? w _ hx206_5)).trans hx206_5
          have HR206_4:=Aside0.mk hi206_4
          have HC206_4:=Aside0.mk hl206_4
          clear hi206_4 hl206_4
          have HR206_5:=Aside0.mk hi206_5
          have HC206_5:=Aside0.mk hl206_5
          clear hi206_5 hl206_5
          replace p206:=eq_true p206
          replace q206:=eq_true q206
          go_wp2_with (first|((with_reducible refine gate_callee (f:=20) rfl ?_);refine goesL_ (some 35) rfl rfl Tryd.func20 (by kernel_rfl) rfl #[.agg #[.int .i64 ((rd_T25 l0_5 x5_2).f0),.bool ((rd_T25 l0_5 x5_2).f1),.string ((rd_T25 l0_5 x5_2).f2),.string ((rd_T25 l0_5 x5_2).f3),.slice A206_4 ((rd_T25 l0_5 x5_2).f4).length c206_4,.slice A206_5 ((rd_T25 l0_5 x5_2).f5).length c206_5],.int .i64 (wrap64 (a1 - 1))] rfl (by (try simp only [List.map_toArray,List.map_cons,List.map_nil]);first|done|rfl|(simp only [List.length_drop,List.length_take];rfl)) ?_;(with_reducible refine (ih k2 (by have:=HJ4.out;have:=HK2.out;omega) ((rd_T25 l0_5 x5_2).f0) ((rd_T25 l0_5 x5_2).f1) ((rd_T25 l0_5 x5_2).f2) ((rd_T25 l0_5 x5_2).f3) _ _ ((rd_T25 l0_5 x5_2).f4) _ _ ((rd_T25 l0_5 x5_2).f5) (wrap64 (a1 - 1)) true _ ?side1 ?side2 ?side3 ?side4 A17.out).mono ?_);(case side1=>repeat (first|exact (Kd.C_below HR206_4.out HB.out)|(with_reducible refine Kd.C_alloc ?_ _)|(with_reducible refine Kd.C_drewN ?_ _)|(with_reducible refine Kd.C_drew ?_)));(case side2=>exact HC206_4.out);(case side3=>repeat (first|exact (Kd.C_below HR206_5.out HB.out)|(with_reducible refine Kd.C_alloc ?_ _)|(with_reducible refine Kd.C_drewN ?_ _)|(with_reducible refine Kd.C_drew ?_)));(case side4=>exact HC206_5.out);rintro e w20 ⟨rfl,hb⟩;refine ⟨_,rfl,?_⟩;have n0_:=Aside0.mk (blk_below (g:=gb204) (o:=.cells #[.int .i64 a0_0,.bool a0_1,.string a0_2,.string a0_3,.slice A0_4 l0_4.length c0_4,.slice (some ad206) l0_5.length c0_5] 25 (0,0)) (by (with_reducible repeat (first|refine blk_drewN ?_ _|refine blk_drew ?_|refine blk_alloc ?_ _));exact BK204.out) hb);have n1_:=Aside0.mk (below_step (by repeat (first|(with_reducible first|exact HB.out|apply below_alloc|apply pw_below_drewN|apply below_drew1|refine below_set ?_ GE204.out)|exact HB.out)) hb);clear BK204;clear HB;have BK204:=n0_;have HB:=n1_;clear n0_ n1_;(try clear hb);(try clear hb2);(try clear hk);(try clear hi)))
          go_roundg k2
          case measure=>have:=HJ4.out;have:=HK2.out;omega
          case rel=>exact ⟨(wrap64 (x5_2 + 1)),(by first|rfl|(simp;done)|(simp [*];done)),(by first|exact H'|(subst_vars;exact H')),⟨by have:=HJ4.out;have:=HK2.out;omega⟩,⟨by (with_reducible repeat (first|refine blk_drewN ?_ _|refine blk_drew ?_|refine blk_alloc ?_ _));exact BK204.out⟩,⟨by repeat (first|(with_reducible first|exact HB.out|apply below_alloc|apply pw_below_drewN|apply below_drew1|refine below_set ?_ GE204.out)|exact HB.out)⟩⟩
         ·replace c18:=Bool.eq_false_iff.mpr c18
          subst c18
          have H1 : (some false) = some r:=by rw [if_neg (show ¬ (false = true) by decide)] at H;exact H
          clear H
          have H:=H1
          clear H1
          obtain rfl:=Option.some.inj H
          have hcz21_0 : wr.cell? ⟨gb204,0,none⟩ = some (.int .i64 a0_0):=(blk_cell BK204.out 0).trans rfl
          have hcz21_1 : wr.cell? ⟨gb204,1,none⟩ = some (.bool a0_1):=(blk_cell BK204.out 1).trans rfl
          have hcz21_2 : wr.cell? ⟨gb204,2,none⟩ = some (.string a0_2):=(blk_cell BK204.out 2).trans rfl
          have hcz21_3 : wr.cell? ⟨gb204,3,none⟩ = some (.string a0_3):=(blk_cell BK204.out 3).trans rfl
          have hcz21_4 : wr.cell? ⟨gb204,4,none⟩ = some (.slice A0_4 l0_4.length c0_4):=(blk_cell BK204.out 4).trans rfl
          have hcz21_5 : wr.cell? ⟨gb204,5,none⟩ = some (.slice A0_5 l0_5.length c0_5):=(blk_cell BK204.out 5).trans rfl
          have hfz21_0:=blk_frozen BK204.out 0
          have hfz21_1:=blk_frozen BK204.out 1
          have hfz21_2:=blk_frozen BK204.out 2
          have hfz21_3:=blk_frozen BK204.out 3
          have hfz21_4:=blk_frozen BK204.out 4
          have hfz21_5:=blk_frozen BK204.out 5
          have p206 : 0 ≤ (x5_2 : Int):=of_decide_eq_true (by first|(with_reducible assumption)|assumption)
          have q206 : x5_2 < (l0_5.length : Int):=of_decide_eq_true (by first|(with_reducible assumption)|assumption)
          obtain ⟨ad206,A206_4,c206_4,A206_5,c206_5,e206,hx206_0,hx206_1,hx206_2,hx206_3,hx206_4,hx206_5,hl206_4,hi206_4,hl206_5,hi206_5⟩:=at_T25 HR0_5.out x5_2 p206 q206
          cases e206
          replace hx206_0:=(HB.out.cell (World.block_lt_of_cell? w _ hx206_0)).trans hx206_0
          replace hx206_1:=(HB.out.cell (World.block_lt_of_cell? w _ hx206_1)).trans hx206_1
          replace hx206_2:=(HB.out.cell (World.block_lt_of_cell? w _ hx206_2)).trans hx206_2
          replace hx206_3:=(HB.out.cell (World.block_lt_of_cell? w _ hx206_3)).trans hx206_3
          replace hx206_4:=(HB.out.cell (World.block_lt_of_cell? w _ hx206_4)).trans hx206_4
          replace hx206_5:=(HB.out.cell (World.block_lt_of_cell? w _ hx206_5)).trans hx206_5
          have HR206_4:=Aside0.mk hi206_4
          have HC206_4:=Aside0.mk hl206_4
          clear hi206_4 hl206_4
          have HR206_5:=Aside0.mk hi206_5
          have HC206_5:=Aside0.mk hl206_5
          clear hi206_5 hl206_5
          replace p206:=eq_true p206
          replace q206:=eq_true q206
          go_wp2_with (first|((with_reducible refine gate_callee (f:=20) rfl ?_);refine goesL_ (some 35) rfl rfl Tryd.func20 (by kernel_rfl) rfl #[.agg #[.int .i64 ((rd_T25 l0_5 x5_2).f0),.bool ((rd_T25 l0_5 x5_2).f1),.string ((rd_T25 l0_5 x5_2).f2),.string ((rd_T25 l0_5 x5_2).f3),.slice A206_4 ((rd_T25 l0_5 x5_2).f4).length c206_4,.slice A206_5 ((rd_T25 l0_5 x5_2).f5).length c206_5],.int .i64 (wrap64 (a1 - 1))] rfl (by (try simp only [List.map_toArray,List.map_cons,List.map_nil]);first|done|rfl|(simp only [List.length_drop,List.length_take];rfl)) ?_;(with_reducible refine (ih k2 (by have:=HJ4.out;have:=HK2.out;omega) ((rd_T25 l0_5 x5_2).f0) ((rd_T25 l0_5 x5_2).f1) ((rd_T25 l0_5 x5_2).f2) ((rd_T25 l0_5 x5_2).f3) _ _ ((rd_T25 l0_5 x5_2).f4) _ _ ((rd_T25 l0_5 x5_2).f5) (wrap64 (a1 - 1)) false _ ?side1 ?side2 ?side3 ?side4 A17.out).mono ?_);(case side1=>repeat (first|exact (Kd.C_below HR206_4.out HB.out)|(with_reducible refine Kd.C_alloc ?_ _)|(with_reducible refine Kd.C_drewN ?_ _)|(with_reducible refine Kd.C_drew ?_)));(case side2=>exact HC206_4.out);(case side3=>repeat (first|exact (Kd.C_below HR206_5.out HB.out)|(with_reducible refine Kd.C_alloc ?_ _)|(with_reducible refine Kd.C_drewN ?_ _)|(with_reducible refine Kd.C_drew ?_)));(case side4=>exact HC206_5.out);rintro e w22 ⟨rfl,hb⟩;refine ⟨_,rfl,?_⟩;have n0_:=Aside0.mk (blk_below (g:=gb204) (o:=.cells #[.int .i64 a0_0,.bool a0_1,.string a0_2,.string a0_3,.slice A0_4 l0_4.length c0_4,.slice (some ad206) l0_5.length c0_5] 25 (0,0)) (by (with_reducible repeat (first|refine blk_drewN ?_ _|refine blk_drew ?_|refine blk_alloc ?_ _));exact BK204.out) hb);have n1_:=Aside0.mk (below_step (by repeat (first|(with_reducible first|exact HB.out|apply below_alloc|apply pw_below_drewN|apply below_drew1|refine below_set ?_ GE204.out)|exact HB.out)) hb);clear BK204;clear HB;have BK204:=n0_;have HB:=n1_;clear n0_ n1_;(try clear hb);(try clear hb2);(try clear hk);(try clear hi)))
          go_ret
          exact ⟨by first|rfl|(simp [errW_none,errW_some] <;> rfl)|(simp [*,errW_none,errW_some] <;> rfl),by repeat (first|(with_reducible first|exact HB.out|apply below_alloc|apply pw_below_drewN|apply below_drew1|refine below_set ?_ GE204.out)|exact HB.out)⟩
        ·rw [if_neg c16] at H
         exact absurd H (by simp)
       ·rw [if_neg c15] at H
        have c15b0 : decide (x5_2 < (l0_5.length : Int)) = false:=decide_eq_false c15
        clear c15
        obtain rfl:=Option.some.inj H
        have hcz23_0 : wr.cell? ⟨gb204,0,none⟩ = some (.int .i64 a0_0):=(blk_cell BK204.out 0).trans rfl
        have hcz23_1 : wr.cell? ⟨gb204,1,none⟩ = some (.bool a0_1):=(blk_cell BK204.out 1).trans rfl
        have hcz23_2 : wr.cell? ⟨gb204,2,none⟩ = some (.string a0_2):=(blk_cell BK204.out 2).trans rfl
        have hcz23_3 : wr.cell? ⟨gb204,3,none⟩ = some (.string a0_3):=(blk_cell BK204.out 3).trans rfl
        have hcz23_4 : wr.cell? ⟨gb204,4,none⟩ = some (.slice A0_4 l0_4.length c0_4):=(blk_cell BK204.out 4).trans rfl
        have hcz23_5 : wr.cell? ⟨gb204,5,none⟩ = some (.slice A0_5 l0_5.length c0_5):=(blk_cell BK204.out 5).trans rfl
        have hfz23_0:=blk_frozen BK204.out 0
        have hfz23_1:=blk_frozen BK204.out 1
        have hfz23_2:=blk_frozen BK204.out 2
        have hfz23_3:=blk_frozen BK204.out 3
        have hfz23_4:=blk_frozen BK204.out 4
        have hfz23_5:=blk_frozen BK204.out 5
        go_wp2
        go_ret
        exact ⟨by first|rfl|(simp [errW_none,errW_some] <;> rfl)|(simp [*,errW_none,errW_some] <;> rfl),by repeat (first|(with_reducible first|exact HB.out|apply below_alloc|apply pw_below_drewN|apply below_drew1|refine below_set ?_ GE204.out)|exact HB.out)⟩
 ·replace c4:=Bool.eq_false_iff.mpr c4
  subst c4
  have H1 : (some false) = some r:=by rw [if_neg (show ¬ (false = true) by decide)] at H;exact H
  clear H
  have H:=H1
  clear H1
  obtain rfl:=Option.some.inj H
  go_enter Tryd.func20,Tryd.ntmps20
  go_wp2_with (first|((with_reducible refine gate_dst (N:=2) rfl ?_);refine box_event ?hg (N:=2) ?hd (cs:=#[.int .i64 a0_0,.bool a0_1,.string a0_2,.string a0_3,.slice A0_4 l0_4.length c0_4,.slice A0_5 l0_5.length c0_5]) (t:=25) ?hr ?_;(case hd=>rfl);(case hg=>rfl);(case hr=>first|(go_simp;done)|(go_simp;rfl));intro gb204 hg w24 hbox hb;have n0_:=Aside0.mk (below_step (by repeat (first|(with_reducible first|exact HB.out|apply below_alloc|apply pw_below_drewN|apply below_drew1)|exact HB.out)) hb);have n1_:=Aside0.mk (hbox);have n2_:=Aside0.mk ((by rw [hg];exact (below_size (by repeat (first|(with_reducible first|exact HB.out|apply below_alloc|apply pw_below_drewN|apply below_drew1)|exact HB.out))) : w.heap.size ≤ gb204));have n3_:=Aside0.mk ((by rw [hg];exact (below_size (by repeat (first|(with_reducible first|exact HB.out|apply below_alloc|apply pw_below_drewN|apply below_drew1)|exact HB.out))) : w.heap.size ≤ gb204));clear HB;have HB:=n0_;have BK204:=n1_;have GW204:=n2_;have GE204:=n3_;clear n0_ n1_ n2_ n3_;clear hb hbox hg;have hcz25_0 : w24.cell? ⟨gb204,0,none⟩ = some (.int .i64 a0_0):=(blk_cell BK204.out 0).trans rfl;have hcz25_1 : w24.cell? ⟨gb204,1,none⟩ = some (.bool a0_1):=(blk_cell BK204.out 1).trans rfl;have hcz25_2 : w24.cell? ⟨gb204,2,none⟩ = some (.string a0_2):=(blk_cell BK204.out 2).trans rfl;have hcz25_3 : w24.cell? ⟨gb204,3,none⟩ = some (.string a0_3):=(blk_cell BK204.out 3).trans rfl;have hcz25_4 : w24.cell? ⟨gb204,4,none⟩ = some (.slice A0_4 l0_4.length c0_4):=(blk_cell BK204.out 4).trans rfl;have hcz25_5 : w24.cell? ⟨gb204,5,none⟩ = some (.slice A0_5 l0_5.length c0_5):=(blk_cell BK204.out 5).trans rfl;have hfz25_0:=blk_frozen BK204.out 0;have hfz25_1:=blk_frozen BK204.out 1;have hfz25_2:=blk_frozen BK204.out 2;have hfz25_3:=blk_frozen BK204.out 3;have hfz25_4:=blk_frozen BK204.out 4;have hfz25_5:=blk_frozen BK204.out 5)|((with_reducible refine gate_callee (f:=28) rfl ?_);refine goesL_ (some 7) rfl rfl Tryd.func28 (by kernel_rfl) rfl #[.agg #[.int .i64 a0_0,.bool a0_1,.string a0_2,.string a0_3,.slice A0_4 l0_4.length c0_4,.slice A0_5 l0_5.length c0_5]] rfl (by (try simp only [List.map_toArray,List.map_cons,List.map_nil]);first|done|rfl|(simp only [List.length_drop,List.length_take];rfl)) ?_;(with_reducible refine (quarryref17_plain.calls k a0_0 a0_1 a0_2 a0_3 _ _ l0_4 _ _ l0_5 false _ ?side1 ?side2 ?side3 ?side4 A3.out).mono ?_);(case side1=>repeat (first|exact (Kd.C_below HR0_4.out HB.out)|(with_reducible refine Kd.C_alloc ?_ _)|(with_reducible refine Kd.C_drewN ?_ _)|(with_reducible refine Kd.C_drew ?_)));(case side2=>exact HC0_4.out);(case side3=>repeat (first|exact (Kd.C_below HR0_5.out HB.out)|(with_reducible refine Kd.C_alloc ?_ _)|(with_reducible refine Kd.C_drewN ?_ _)|(with_reducible refine Kd.C_drew ?_)));(case side4=>exact HC0_5.out);rintro e w26 ⟨rfl,hb⟩;refine ⟨_,rfl,?_⟩;have n0_:=Aside0.mk (blk_below (g:=gb204) (o:=.cells #[.int .i64 a0_0,.bool a0_1,.string a0_2,.string a0_3,.slice A0_4 l0_4.length c0_4,.slice A0_5 l0_5.length c0_5] 25 (0,0)) (by (with_reducible repeat (first|refine blk_drewN ?_ _|refine blk_drew ?_|refine blk_alloc ?_ _));exact BK204.out) hb);have n1_:=Aside0.mk (below_step (by repeat (first|(with_reducible first|exact HB.out|apply below_alloc|apply pw_below_drewN|apply below_drew1|refine below_set ?_ GE204.out)|exact HB.out)) hb);clear BK204;clear HB;have BK204:=n0_;have HB:=n1_;clear n0_ n1_;(try clear hb);(try clear hb2);(try clear hk);(try clear hi)))
  go_ret
  exact ⟨by first|rfl|(simp [errW_none,errW_some] <;> rfl)|(simp [*,errW_none,errW_some] <;> rfl),by repeat (first|(with_reducible first|exact HB.out|apply below_alloc|apply pw_below_drewN|apply below_drew1|refine below_set ?_ GE204.out)|exact HB.out)⟩
def quarryref17_Formed.f (k : Nat) (a0_0 : Int) (a0_1 : Bool) (a0_2 : ByteArray) (a0_3 : ByteArray) (l0_4 : List ByteArray) (l0_5 : List (S25)) : Option (Bool):=(quarryref17_formed.f k a0_0 a0_1 a0_2 a0_3 l0_4 l0_5 1024).bind fun t209=>(some t209)
set_option maxHeartbeats 8000000 in
set_option maxRecDepth 100000 in
theorem quarryref17_Formed.calls (k : Nat) (a0_0 : Int) (a0_1 : Bool) (a0_2 : ByteArray) (a0_3 : ByteArray) (A0_4 : Option Addr) (c0_4 : Nat) (l0_4 : List ByteArray) (A0_5 : Option Addr) (c0_5 : Nat) (l0_5 : List (S25)) (r : Bool) (w : World) (hr0_4 : Kd.C Kd.string w A0_4 l0_4.length l0_4) (hc0_4 : l0_4.length ≤ c0_4) (hr0_5 : Kd.C k25 w A0_5 l0_5.length l0_5) (hc0_5 : l0_5.length ≤ c0_5) (h : quarryref17_Formed.f k a0_0 a0_1 a0_2 a0_3 l0_4 l0_5 = some r) :
  Calls Tryd.prog 10 #[.agg #[.int .i64 a0_0,.bool a0_1,.string a0_2,.string a0_3,.slice A0_4 l0_4.length c0_4,.slice A0_5 l0_5.length c0_5]] w fun e w'=>e = .returned (.bool r) ∧ Below w.heap.size w w':=by
 have hu25:=Tryd.underlying25
 have HR0_4:=Aside0.mk hr0_4
 have HC0_4:=Aside0.mk hc0_4
 clear hr0_4 hc0_4
 have HR0_5:=Aside0.mk hr0_5
 have HC0_5:=Aside0.mk hc0_5
 clear hr0_5 hc0_5
 have HB:=Aside0.mk (Below.refl w.heap.size w)
 have H : ((quarryref17_formed.f k a0_0 a0_1 a0_2 a0_3 l0_4 l0_5 1024).bind fun t209=>(some t209)) = some r:=h
 clear h
 replace H:=Option.bind_eq_some_iff.mp H
 obtain ⟨t209,A20,H⟩:=H
 replace H : (some t209) = some r:=H
 have A2:=Aside0.mk A20
 clear A20
 obtain rfl:=Option.some.inj H
 go_enter Tryd.func10,Tryd.ntmps10
 go_wp2_with (first|((with_reducible refine gate_dst (N:=1) rfl ?_);refine box_event ?hg (N:=1) ?hd (cs:=#[.int .i64 a0_0,.bool a0_1,.string a0_2,.string a0_3,.slice A0_4 l0_4.length c0_4,.slice A0_5 l0_5.length c0_5]) (t:=25) ?hr ?_;(case hd=>rfl);(case hg=>rfl);(case hr=>first|(go_simp;done)|(go_simp;rfl));intro gb208 hg w3 hbox hb;have n0_:=Aside0.mk (below_step (by repeat (first|(with_reducible first|exact HB.out|apply below_alloc|apply pw_below_drewN|apply below_drew1)|exact HB.out)) hb);have n1_:=Aside0.mk (hbox);have n2_:=Aside0.mk ((by rw [hg];exact (below_size (by repeat (first|(with_reducible first|exact HB.out|apply below_alloc|apply pw_below_drewN|apply below_drew1)|exact HB.out))) : w.heap.size ≤ gb208));have n3_:=Aside0.mk ((by rw [hg];exact (below_size (by repeat (first|(with_reducible first|exact HB.out|apply below_alloc|apply pw_below_drewN|apply below_drew1)|exact HB.out))) : w.heap.size ≤ gb208));clear HB;have HB:=n0_;have BK208:=n1_;have GW208:=n2_;have GE208:=n3_;clear n0_ n1_ n2_ n3_;clear hb hbox hg;have hcz4_0 : w3.cell? ⟨gb208,0,none⟩ = some (.int .i64 a0_0):=(blk_cell BK208.out 0).trans rfl;have hcz4_1 : w3.cell? ⟨gb208,1,none⟩ = some (.bool a0_1):=(blk_cell BK208.out 1).trans rfl;have hcz4_2 : w3.cell? ⟨gb208,2,none⟩ = some (.string a0_2):=(blk_cell BK208.out 2).trans rfl;have hcz4_3 : w3.cell? ⟨gb208,3,none⟩ = some (.string a0_3):=(blk_cell BK208.out 3).trans rfl;have hcz4_4 : w3.cell? ⟨gb208,4,none⟩ = some (.slice A0_4 l0_4.length c0_4):=(blk_cell BK208.out 4).trans rfl;have hcz4_5 : w3.cell? ⟨gb208,5,none⟩ = some (.slice A0_5 l0_5.length c0_5):=(blk_cell BK208.out 5).trans rfl;have hfz4_0:=blk_frozen BK208.out 0;have hfz4_1:=blk_frozen BK208.out 1;have hfz4_2:=blk_frozen BK208.out 2;have hfz4_3:=blk_frozen BK208.out 3;have hfz4_4:=blk_frozen BK208.out 4;have hfz4_5:=blk_frozen BK208.out 5)|((with_reducible refine gate_callee (f:=20) rfl ?_);refine goesL_ (some 4) rfl rfl Tryd.func20 (by kernel_rfl) rfl #[.agg #[.int .i64 a0_0,.bool a0_1,.string a0_2,.string a0_3,.slice A0_4 l0_4.length c0_4,.slice A0_5 l0_5.length c0_5],.int .i64 1024] rfl (by (try simp only [List.map_toArray,List.map_cons,List.map_nil]);first|done|rfl|(simp only [List.length_drop,List.length_take];rfl)) ?_;(with_reducible refine (quarryref17_formed.calls k a0_0 a0_1 a0_2 a0_3 _ _ l0_4 _ _ l0_5 1024 t209 _ ?side1 ?side2 ?side3 ?side4 A2.out).mono ?_);(case side1=>repeat (first|exact (Kd.C_below HR0_4.out HB.out)|(with_reducible refine Kd.C_alloc ?_ _)|(with_reducible refine Kd.C_drewN ?_ _)|(with_reducible refine Kd.C_drew ?_)));(case side2=>exact HC0_4.out);(case side3=>repeat (first|exact (Kd.C_below HR0_5.out HB.out)|(with_reducible refine Kd.C_alloc ?_ _)|(with_reducible refine Kd.C_drewN ?_ _)|(with_reducible refine Kd.C_drew ?_)));(case side4=>exact HC0_5.out);rintro e w5 ⟨rfl,hb⟩;refine ⟨_,rfl,?_⟩;have n0_:=Aside0.mk (blk_below (g:=gb208) (o:=.cells #[.int .i64 a0_0,.bool a0_1,.string a0_2,.string a0_3,.slice A0_4 l0_4.length c0_4,.slice A0_5 l0_5.length c0_5] 25 (0,0)) (by (with_reducible repeat (first|refine blk_drewN ?_ _|refine blk_drew ?_|refine blk_alloc ?_ _));exact BK208.out) hb);have n1_:=Aside0.mk (below_step (by repeat (first|(with_reducible first|exact HB.out|apply below_alloc|apply pw_below_drewN|apply below_drew1|refine below_set ?_ GE208.out)|exact HB.out)) hb);clear BK208;clear HB;have BK208:=n0_;have HB:=n1_;clear n0_ n1_;(try clear hb);(try clear hb2);(try clear hk);(try clear hi)))
 go_ret
 exact ⟨by first|rfl|(simp [errW_none,errW_some] <;> rfl)|(simp [*,errW_none,errW_some] <;> rfl),by repeat (first|(with_reducible first|exact HB.out|apply below_alloc|apply pw_below_drewN|apply below_drew1|refine below_set ?_ GE208.out)|exact HB.out)⟩
mutual
def quarryref17_Depth.j0 : Nat → Bool → Int → Bool → ByteArray → ByteArray → List ByteArray → List (S25) → Option (Int)
 | 0,_,_,_,_,_,_,_=>none
 | k + 1,x13,x211000,x211001,x211002,x211003,x211004,x211005=>if x13 = true then (some 0) else (quarryref17_Depth.l0 k 0 0 x211000 x211001 x211002 x211003 x211004 x211005)
def quarryref17_Depth.l0 : Nat → Int → Int → Int → Bool → ByteArray → ByteArray → List ByteArray → List (S25) → Option (Int)
 | 0,_,_,_,_,_,_,_,_=>none
 | k + 1,x3,x4,x211000,x211001,x211002,x211003,x211004,x211005=>if x4 < (x211005.length : Int) then (if 0 ≤ x4 then ((quarryref17_Depth.f k ((rd_T25 x211005 x4).f0) ((rd_T25 x211005 x4).f1) ((rd_T25 x211005 x4).f2) ((rd_T25 x211005 x4).f3) ((rd_T25 x211005 x4).f4) ((rd_T25 x211005 x4).f5)).bind fun t212=>(if t212 > x3 then (quarryref17_Depth.l0 k t212 (wrap64 (x4 + 1)) x211000 x211001 x211002 x211003 x211004 x211005) else (quarryref17_Depth.l0 k x3 (wrap64 (x4 + 1)) x211000 x211001 x211002 x211003 x211004 x211005))) else (none)) else (some (wrap64 (x3 + 1)))
def quarryref17_Depth.f : Nat → Int → Bool → ByteArray → ByteArray → List ByteArray → List (S25) → Option (Int)
 | 0,_,_,_,_,_,_=>none
 | k + 1,a0_0,a0_1,a0_2,a0_3,l0_4,l0_5=>if a0_0 = 5 then (quarryref17_Depth.j0 k false a0_0 a0_1 a0_2 a0_3 l0_4 l0_5) else (quarryref17_Depth.j0 k (a0_0 != 6) a0_0 a0_1 a0_2 a0_3 l0_4 l0_5)
end
set_option maxHeartbeats 8000000 in
set_option maxRecDepth 100000 in
theorem quarryref17_Depth.calls (k : Nat) : ∀ (a0_0 : Int) (a0_1 : Bool) (a0_2 : ByteArray) (a0_3 : ByteArray) (A0_4 : Option Addr) (c0_4 : Nat) (l0_4 : List ByteArray) (A0_5 : Option Addr) (c0_5 : Nat) (l0_5 : List (S25)) (r : Int) (w : World) (hr0_4 : Kd.C Kd.string w A0_4 l0_4.length l0_4) (hc0_4 : l0_4.length ≤ c0_4) (hr0_5 : Kd.C k25 w A0_5 l0_5.length l0_5) (hc0_5 : l0_5.length ≤ c0_5) (h : quarryref17_Depth.f k a0_0 a0_1 a0_2 a0_3 l0_4 l0_5 = some r),
  Calls Tryd.prog 11 #[.agg #[.int .i64 a0_0,.bool a0_1,.string a0_2,.string a0_3,.slice A0_4 l0_4.length c0_4,.slice A0_5 l0_5.length c0_5]] w fun e w'=>e = .returned (.int .i64 r) ∧ Below w.heap.size w w':=by
 induction k using Nat.strongRecOn with
 | _ k ih =>
 intro a0_0 a0_1 a0_2 a0_3 A0_4 c0_4 l0_4 A0_5 c0_5 l0_5 r w hr0_4 hc0_4 hr0_5 hc0_5 h
 cases k with
 | zero=>exact absurd h (by simp [quarryref17_Depth.f])
 | succ k =>
 simp only [quarryref17_Depth.f] at h
 have hu25:=Tryd.underlying25
 have HR0_4:=Aside0.mk hr0_4
 have HC0_4:=Aside0.mk hc0_4
 clear hr0_4 hc0_4
 have HR0_5:=Aside0.mk hr0_5
 have HC0_5:=Aside0.mk hc0_5
 clear hr0_5 hc0_5
 have HB:=Aside0.mk (Below.refl w.heap.size w)
 have H : (if a0_0 = 5 then (quarryref17_Depth.j0 k false a0_0 a0_1 a0_2 a0_3 l0_4 l0_5) else (quarryref17_Depth.j0 k (a0_0 != 6) a0_0 a0_1 a0_2 a0_3 l0_4 l0_5)) = some r:=h
 clear h
 have HC2:=Aside0.mk H
 clear H
 go_enter Tryd.func11,Tryd.ntmps11
 go_upto_region 1 with (first|((with_reducible refine gate_dst (N:=1) rfl ?_);refine box_event ?hg (N:=1) ?hd (cs:=#[.int .i64 a0_0,.bool a0_1,.string a0_2,.string a0_3,.slice A0_4 l0_4.length c0_4,.slice A0_5 l0_5.length c0_5]) (t:=25) ?hr ?_;(case hd=>rfl);(case hg=>rfl);(case hr=>first|(go_simp;done)|(go_simp;rfl));intro gb210 hg w3 hbox hb;have n0_:=Aside0.mk (below_step (by repeat (first|(with_reducible first|exact HB.out|apply below_alloc|apply pw_below_drewN|apply below_drew1)|exact HB.out)) hb);have n1_:=Aside0.mk (hbox);have n2_:=Aside0.mk ((by rw [hg];exact (below_size (by repeat (first|(with_reducible first|exact HB.out|apply below_alloc|apply pw_below_drewN|apply below_drew1)|exact HB.out))) : w.heap.size ≤ gb210));have n3_:=Aside0.mk ((by rw [hg];exact (below_size (by repeat (first|(with_reducible first|exact HB.out|apply below_alloc|apply pw_below_drewN|apply below_drew1)|exact HB.out))) : w.heap.size ≤ gb210));clear HB;have HB:=n0_;have BK210:=n1_;have GW210:=n2_;have GE210:=n3_;clear n0_ n1_ n2_ n3_;clear hb hbox hg))
 (try simp only [Act.put,List.setIfInBounds_toArray,List.set_cons_zero,List.set_cons_succ])
 go_cut [13] (fun v13 wc=>∃ (kq : Nat) (x13_1 : Bool),v13 = .bool x13_1 ∧ Aside0 (quarryref17_Depth.j0 kq x13_1 a0_0 a0_1 a0_2 a0_3 l0_4 l0_5 = some r) ∧ Aside0 (kq ≤ k) ∧ Aside0 (wc.heap[gb210]? = some (.cells #[.int .i64 a0_0,.bool a0_1,.string a0_2,.string a0_3,(.slice A0_4 l0_4.length c0_4),(.slice A0_5 l0_5.length c0_5)] 25 (0,0))) ∧ Aside0 (Below w.heap.size w wc))
 case first =>
  have H:=HC2.out
  clear HC2
  by_cases c4 : a0_0 = 5
  ·rw [if_pos c4] at H
   have c4b0 : (a0_0 == 5) = true:=beq_iff_eq.mpr c4
   have c4b1 : (a0_0 != 5) = false:=bne_eq_false_iff_eq.mpr c4
   clear c4
   (first|rw [c4b0]|(simp only [i64_w,i32_w];rw [c4b0])|skip)
   have H':=Aside0.mk H
   clear H
   have hcz5_0 : w3.cell? ⟨gb210,0,none⟩ = some (.int .i64 a0_0):=(blk_cell BK210.out 0).trans rfl
   have hcz5_1 : w3.cell? ⟨gb210,1,none⟩ = some (.bool a0_1):=(blk_cell BK210.out 1).trans rfl
   have hcz5_2 : w3.cell? ⟨gb210,2,none⟩ = some (.string a0_2):=(blk_cell BK210.out 2).trans rfl
   have hcz5_3 : w3.cell? ⟨gb210,3,none⟩ = some (.string a0_3):=(blk_cell BK210.out 3).trans rfl
   have hcz5_4 : w3.cell? ⟨gb210,4,none⟩ = some (.slice A0_4 l0_4.length c0_4):=(blk_cell BK210.out 4).trans rfl
   have hcz5_5 : w3.cell? ⟨gb210,5,none⟩ = some (.slice A0_5 l0_5.length c0_5):=(blk_cell BK210.out 5).trans rfl
   have hfz5_0:=blk_frozen BK210.out 0
   have hfz5_1:=blk_frozen BK210.out 1
   have hfz5_2:=blk_frozen BK210.out 2
   have hfz5_3:=blk_frozen BK210.out 3
   have hfz5_4:=blk_frozen BK210.out 4
   have hfz5_5:=blk_frozen BK210.out 5
   go_wp2
   go_meet
   case rel=>exact ⟨_,(false),(by first|rfl|(simp;done)|(simp [*];done)),(by first|exact H'|(subst_vars;exact H')),⟨by first|omega|exact Nat.le_refl _⟩,⟨by (with_reducible repeat (first|refine blk_drewN ?_ _|refine blk_drew ?_|refine blk_alloc ?_ _));exact BK210.out⟩,⟨by repeat (first|(with_reducible first|exact HB.out|apply below_alloc|apply pw_below_drewN|apply below_drew1|refine below_set ?_ GE210.out)|exact HB.out)⟩⟩
  ·rw [if_neg c4] at H
   have c4b0 : (a0_0 == 5) = false:=beq_eq_false_iff_ne.mpr c4
   have c4b1 : (a0_0 != 5) = true:=bne_iff_ne.mpr c4
   (first|rw [c4b0]|(simp only [i64_w,i32_w];rw [c4b0])|skip)
   have H':=Aside0.mk H
   clear H
   have hcz6_0 : w3.cell? ⟨gb210,0,none⟩ = some (.int .i64 a0_0):=(blk_cell BK210.out 0).trans rfl
   have hcz6_1 : w3.cell? ⟨gb210,1,none⟩ = some (.bool a0_1):=(blk_cell BK210.out 1).trans rfl
   have hcz6_2 : w3.cell? ⟨gb210,2,none⟩ = some (.string a0_2):=(blk_cell BK210.out 2).trans rfl
   have hcz6_3 : w3.cell? ⟨gb210,3,none⟩ = some (.string a0_3):=(blk_cell BK210.out 3).trans rfl
   have hcz6_4 : w3.cell? ⟨gb210,4,none⟩ = some (.slice A0_4 l0_4.length c0_4):=(blk_cell BK210.out 4).trans rfl
   have hcz6_5 : w3.cell? ⟨gb210,5,none⟩ = some (.slice A0_5 l0_5.length c0_5):=(blk_cell BK210.out 5).trans rfl
   have hfz6_0:=blk_frozen BK210.out 0
   have hfz6_1:=blk_frozen BK210.out 1
   have hfz6_2:=blk_frozen BK210.out 2
   have hfz6_3:=blk_frozen BK210.out 3
   have hfz6_4:=blk_frozen BK210.out 4
   have hfz6_5:=blk_frozen BK210.out 5
   go_wp2
   go_meet
   case rel=>exact ⟨_,((a0_0 != 6)),(by first|rfl|(simp;done)|(simp [*];done)),(by first|exact H'|(subst_vars;exact H')),⟨by first|omega|exact Nat.le_refl _⟩,⟨by (with_reducible repeat (first|refine blk_drewN ?_ _|refine blk_drew ?_|refine blk_alloc ?_ _));exact BK210.out⟩,⟨by repeat (first|(with_reducible first|exact HB.out|apply below_alloc|apply pw_below_drewN|apply below_drew1|refine below_set ?_ GE210.out)|exact HB.out)⟩⟩
 case rest =>
  clear HC2
  try clear c1
  try clear p2
  try clear c4
  try clear c4b0
  try clear c4b1
  try clear hcz5_0
  try clear hcz5_1
  try clear hcz5_2
  try clear hcz5_3
  try clear hcz5_4
  try clear hcz5_5
  try clear hcz6_0
  try clear hcz6_1
  try clear hcz6_2
  try clear hcz6_3
  try clear hcz6_4
  try clear hcz6_5
  try clear hfz5_0
  try clear hfz5_1
  try clear hfz5_2
  try clear hfz5_3
  try clear hfz5_4
  try clear hfz5_5
  try clear hfz6_0
  try clear hfz6_1
  try clear hfz6_2
  try clear hfz6_3
  try clear hfz6_4
  try clear hfz6_5
  obtain ⟨kq,x13_1,rfl,HA,HJ1,BK210,HB⟩:=hcut
  cases kq with
  | zero=>exact absurd HA.out (by simp [quarryref17_Depth.j0])
  | succ kj1 =>
   have H:=HA.out
   clear HA
   simp only [quarryref17_Depth.j0] at H
   by_cases c7 : x13_1 = true
   ·subst c7
    have H1 : (some 0) = some r:=by rw [if_pos rfl] at H;exact H
    clear H
    have H:=H1
    clear H1
    obtain rfl:=Option.some.inj H
    go_wp2
    go_ret
    exact ⟨by first|rfl|(simp [errW_none,errW_some] <;> rfl)|(simp [*,errW_none,errW_some] <;> rfl),by repeat (first|(with_reducible first|exact HB.out|apply below_alloc|apply pw_below_drewN|apply below_drew1|refine below_set ?_ GE210.out)|exact HB.out)⟩
   ·replace c7:=Bool.eq_false_iff.mpr c7
    subst c7
    have H1 : (quarryref17_Depth.l0 kj1 0 0 a0_0 a0_1 a0_2 a0_3 l0_4 l0_5) = some r:=by rw [if_neg (show ¬ (false = true) by decide)] at H;exact H
    clear H
    have H:=H1
    clear H1
    have H':=Aside0.mk H
    clear H
    go_wp2
    go_loopg [3,4] kj1 (fun kq v3 v4 w'=>∃ (x3_2 : Int) (x4_2 : Int),v3 = .int .i64 x3_2 ∧ v4 = .int .i64 x4_2 ∧ Aside0 (quarryref17_Depth.l0 kq x3_2 x4_2 a0_0 a0_1 a0_2 a0_3 l0_4 l0_5 = some r) ∧ Aside0 (kq ≤ kj1) ∧ Aside0 (w'.heap[gb210]? = some (.cells #[.int .i64 a0_0,.bool a0_1,.string a0_2,.string a0_3,(.slice A0_4 l0_4.length c0_4),(.slice A0_5 l0_5.length c0_5)] 25 (0,0))) ∧ Aside0 (Below w.heap.size w w'))
    case atStart=>exact ⟨(0),(0),(by first|rfl|(simp;done)|(simp [*];done)),(by first|rfl|(simp;done)|(simp [*];done)),H',⟨Nat.le_refl _⟩,⟨by (with_reducible repeat (first|refine blk_drewN ?_ _|refine blk_drew ?_|refine blk_alloc ?_ _));exact BK210.out⟩,⟨by repeat (first|(with_reducible first|exact HB.out|apply below_alloc|apply pw_below_drewN|apply below_drew1|refine below_set ?_ GE210.out)|exact HB.out)⟩⟩
    case round =>
     clear H'
     try clear c1
     try clear p2
     try clear c4
     try clear c4b0
     try clear c4b1
     try clear c7
     try clear hcz5_0
     try clear hcz5_1
     try clear hcz5_2
     try clear hcz5_3
     try clear hcz5_4
     try clear hcz5_5
     try clear hcz6_0
     try clear hcz6_1
     try clear hcz6_2
     try clear hcz6_3
     try clear hcz6_4
     try clear hcz6_5
     try clear hfz5_0
     try clear hfz5_1
     try clear hfz5_2
     try clear hfz5_3
     try clear hfz5_4
     try clear hfz5_5
     try clear hfz6_0
     try clear hfz6_1
     try clear hfz6_2
     try clear hfz6_3
     try clear hfz6_4
     try clear hfz6_5
     try clear p2
     try clear HK2
     try clear BK210
     try clear HB
     obtain ⟨x3_2,x4_2,rfl,rfl,HA,HK2,BK210,HB⟩:=hrel
     cases gk with
     | zero=>exact absurd HA.out (by simp [quarryref17_Depth.l0])
     | succ k2 =>
      have H:=HA.out
      clear HA
      simp only [quarryref17_Depth.l0] at H
      by_cases c8 : x4_2 < (l0_5.length : Int)
      ·rw [if_pos c8] at H
       have c8b0 : decide (x4_2 < (l0_5.length : Int)) = true:=decide_eq_true c8
       clear c8
       by_cases c9 : 0 ≤ x4_2
       ·rw [if_pos c9] at H
        have c9b0 : decide (0 ≤ x4_2) = true:=decide_eq_true c9
        clear c9
        replace H:=Option.bind_eq_some_iff.mp H
        obtain ⟨t212,A100,H⟩:=H
        replace H : (if t212 > x3_2 then (quarryref17_Depth.l0 k2 t212 (wrap64 (x4_2 + 1)) a0_0 a0_1 a0_2 a0_3 l0_4 l0_5) else (quarryref17_Depth.l0 k2 x3_2 (wrap64 (x4_2 + 1)) a0_0 a0_1 a0_2 a0_3 l0_4 l0_5)) = some r:=H
        have A10:=Aside0.mk A100
        clear A100
        by_cases c11 : t212 > x3_2
        ·rw [if_pos c11] at H
         have c11b0 : decide (x3_2 < t212) = true:=decide_eq_true c11
         clear c11
         have H':=Aside0.mk H
         clear H
         have hcz12_0 : wr.cell? ⟨gb210,0,none⟩ = some (.int .i64 a0_0):=(blk_cell BK210.out 0).trans rfl
         have hcz12_1 : wr.cell? ⟨gb210,1,none⟩ = some (.bool a0_1):=(blk_cell BK210.out 1).trans rfl
         have hcz12_2 : wr.cell? ⟨gb210,2,none⟩ = some (.string a0_2):=(blk_cell BK210.out 2).trans rfl
         have hcz12_3 : wr.cell? ⟨gb210,3,none⟩ = some (.string a0_3):=(blk_cell BK210.out 3).trans rfl
         have hcz12_4 : wr.cell? ⟨gb210,4,none⟩ = some (.slice A0_4 l0_4.length c0_4):=(blk_cell BK210.out 4).trans rfl
         have hcz12_5 : wr.cell? ⟨gb210,5,none⟩ = some (.slice A0_5 l0_5.length c0_5):=(blk_cell BK210.out 5).trans rfl
         have hfz12_0:=blk_frozen BK210.out 0
         have hfz12_1:=blk_frozen BK210.out 1
         have hfz12_2:=blk_frozen BK210.out 2
         have hfz12_3:=blk_frozen BK210.out 3
         have hfz12_4:=blk_frozen BK210.out 4
         have hfz12_5:=blk_frozen BK210.out 5
         have p211 : 0 ≤ (x4_2 : Int):=of_decide_eq_true (by first|(with_reducible assumption)|assumption)
         have q211 : x4_2 < (l0_5.length : Int):=of_decide_eq_true (by first|(with_reducible assumption)|assumption)
         obtain ⟨ad211,A211_4,c211_4,A211_5,c211_5,e211,hx211_0,hx211_1,hx211_2,hx211_3,hx211_4,hx211_5,hl211_4,hi211_4,hl211_5,hi211_5⟩:=at_T25 HR0_5.out x4_2 p211 q211
         cases e211
         replace hx211_0:=(HB.out.cell (World.block_lt_of_cell? w _ hx211_0)).trans hx211_0
         replace hx211_1:=(HB.out.cell (World.block_lt_of_cell? w _ hx211_1)).trans hx211_1
         replace hx211_2:=(HB.out.cell (World.block_lt_of_cell? w _ hx211_2)).trans hx211_2
         replace hx211_3:=(HB.out.cell (World.block_lt_of_cell? w _ hx211_3)).trans hx211_3
         replace hx211_4:=(HB.out.cell (World.block_lt_of_cell? w _ hx211_4)).trans hx211_4
         replace hx211_5:=(HB.out.cell (World.block_lt_of_cell? w _ hx211_5)).trans hx211_5
         have HR211_4:=Aside0.mk hi211_4
         have HC211_4:=Aside0.mk hl211_4
         clear hi211_4 hl211_4
         have HR211_5:=Aside0.mk hi211_5
         have HC211_5:=Aside0.mk hl211_5
         clear hi211_5 hl211_5
         replace p211:=eq_true p211
         replace q211:=eq_true q211
         go_wp2_with (first|((with_reducible refine gate_callee (f:=11) rfl ?_);refine goesL_ (some 26) rfl rfl Tryd.func11 (by kernel_rfl) rfl #[.agg #[.int .i64 ((rd_T25 l0_5 x4_2).f0),.bool ((rd_T25 l0_5 x4_2).f1),.string ((rd_T25 l0_5 x4_2).f2),.string ((rd_T25 l0_5 x4_2).f3),.slice A211_4 ((rd_T25 l0_5 x4_2).f4).length c211_4,.slice A211_5 ((rd_T25 l0_5 x4_2).f5).length c211_5]] rfl (by (try simp only [List.map_toArray,List.map_cons,List.map_nil]);first|done|rfl|(simp only [List.length_drop,List.length_take];rfl)) ?_;(with_reducible refine (ih k2 (by have:=HJ1.out;have:=HK2.out;omega) ((rd_T25 l0_5 x4_2).f0) ((rd_T25 l0_5 x4_2).f1) ((rd_T25 l0_5 x4_2).f2) ((rd_T25 l0_5 x4_2).f3) _ _ ((rd_T25 l0_5 x4_2).f4) _ _ ((rd_T25 l0_5 x4_2).f5) t212 _ ?side1 ?side2 ?side3 ?side4 A10.out).mono ?_);(case side1=>repeat (first|exact (Kd.C_below HR211_4.out HB.out)|(with_reducible refine Kd.C_alloc ?_ _)|(with_reducible refine Kd.C_drewN ?_ _)|(with_reducible refine Kd.C_drew ?_)));(case side2=>exact HC211_4.out);(case side3=>repeat (first|exact (Kd.C_below HR211_5.out HB.out)|(with_reducible refine Kd.C_alloc ?_ _)|(with_reducible refine Kd.C_drewN ?_ _)|(with_reducible refine Kd.C_drew ?_)));(case side4=>exact HC211_5.out);rintro e w13 ⟨rfl,hb⟩;refine ⟨_,rfl,?_⟩;have n0_:=Aside0.mk (blk_below (g:=gb210) (o:=.cells #[.int .i64 a0_0,.bool a0_1,.string a0_2,.string a0_3,.slice A0_4 l0_4.length c0_4,.slice (some ad211) l0_5.length c0_5] 25 (0,0)) (by (with_reducible repeat (first|refine blk_drewN ?_ _|refine blk_drew ?_|refine blk_alloc ?_ _));exact BK210.out) hb);have n1_:=Aside0.mk (below_step (by repeat (first|(with_reducible first|exact HB.out|apply below_alloc|apply pw_below_drewN|apply below_drew1|refine below_set ?_ GE210.out)|exact HB.out)) hb);clear BK210;clear HB;have BK210:=n0_;have HB:=n1_;clear n0_ n1_;(try clear hb);(try clear hb2);(try clear hk);(try clear hi)))
         go_roundg k2
         case measure=>have:=HJ1.out;have:=HK2.out;omega
         case rel=>exact ⟨(t212),(wrap64 (x4_2 + 1)),(by first|rfl|(simp;done)|(simp [*];done)),(by first|rfl|(simp;done)|(simp [*];done)),(by first|exact H'|(subst_vars;exact H')),⟨by have:=HJ1.out;have:=HK2.out;omega⟩,⟨by (with_reducible repeat (first|refine blk_drewN ?_ _|refine blk_drew ?_|refine blk_alloc ?_ _));exact BK210.out⟩,⟨by repeat (first|(with_reducible first|exact HB.out|apply below_alloc|apply pw_below_drewN|apply below_drew1|refine below_set ?_ GE210.out)|exact HB.out)⟩⟩
        ·rw [if_neg c11] at H
         have c11b0 : decide (x3_2 < t212) = false:=decide_eq_false c11
         clear c11
         have H':=Aside0.mk H
         clear H
         have hcz14_0 : wr.cell? ⟨gb210,0,none⟩ = some (.int .i64 a0_0):=(blk_cell BK210.out 0).trans rfl
         have hcz14_1 : wr.cell? ⟨gb210,1,none⟩ = some (.bool a0_1):=(blk_cell BK210.out 1).trans rfl
         have hcz14_2 : wr.cell? ⟨gb210,2,none⟩ = some (.string a0_2):=(blk_cell BK210.out 2).trans rfl
         have hcz14_3 : wr.cell? ⟨gb210,3,none⟩ = some (.string a0_3):=(blk_cell BK210.out 3).trans rfl
         have hcz14_4 : wr.cell? ⟨gb210,4,none⟩ = some (.slice A0_4 l0_4.length c0_4):=(blk_cell BK210.out 4).trans rfl
         have hcz14_5 : wr.cell? ⟨gb210,5,none⟩ = some (.slice A0_5 l0_5.length c0_5):=(blk_cell BK210.out 5).trans rfl
         have hfz14_0:=blk_frozen BK210.out 0
         have hfz14_1:=blk_frozen BK210.out 1
         have hfz14_2:=blk_frozen BK210.out 2
         have hfz14_3:=blk_frozen BK210.out 3
         have hfz14_4:=blk_frozen BK210.out 4
         have hfz14_5:=blk_frozen BK210.out 5
         have p211 : 0 ≤ (x4_2 : Int):=of_decide_eq_true (by first|(with_reducible assumption)|assumption)
         have q211 : x4_2 < (l0_5.length : Int):=of_decide_eq_true (by first|(with_reducible assumption)|assumption)
         obtain ⟨ad211,A211_4,c211_4,A211_5,c211_5,e211,hx211_0,hx211_1,hx211_2,hx211_3,hx211_4,hx211_5,hl211_4,hi211_4,hl211_5,hi211_5⟩:=at_T25 HR0_5.out x4_2 p211 q211
         cases e211
         replace hx211_0:=(HB.out.cell (World.block_lt_of_cell? w _ hx211_0)).trans hx211_0
         replace hx211_1:=(HB.out.cell (World.block_lt_of_cell? w _ hx211_1)).trans hx211_1
         replace hx211_2:=(HB.out.cell (World.block_lt_of_cell? w _ hx211_2)).trans hx211_2
         replace hx211_3:=(HB.out.cell (World.block_lt_of_cell? w _ hx211_3)).trans hx211_3
         replace hx211_4:=(HB.out.cell (World.block_lt_of_cell? w _ hx211_4)).trans hx211_4
         replace hx211_5:=(HB.out.cell (World.block_lt_of_cell? w _ hx211_5)).trans hx211_5
         have HR211_4:=Aside0.mk hi211_4
         have HC211_4:=Aside0.mk hl211_4
         clear hi211_4 hl211_4
         have HR211_5:=Aside0.mk hi211_5
         have HC211_5:=Aside0.mk hl211_5
         clear hi211_5 hl211_5
         replace p211:=eq_true p211
         replace q211:=eq_true q211
         go_wp2_with (first|((with_reducible refine gate_callee (f:=11) rfl ?_);refine goesL_ (some 26) rfl rfl Tryd.func11 (by kernel_rfl) rfl #[.agg #[.int .i64 ((rd_T25 l0_5 x4_2).f0),.bool ((rd_T25 l0_5 x4_2).f1),.string ((rd_T25 l0_5 x4_2).f2),.string ((rd_T25 l0_5 x4_2).f3),.slice A211_4 ((rd_T25 l0_5 x4_2).f4).length c211_4,.slice A211_5 ((rd_T25 l0_5 x4_2).f5).length c211_5]] rfl (by (try simp only [List.map_toArray,List.map_cons,List.map_nil]);first|done|rfl|(simp only [List.length_drop,List.length_take];rfl)) ?_;(with_reducible refine (ih k2 (by have:=HJ1.out;have:=HK2.out;omega) ((rd_T25 l0_5 x4_2).f0) ((rd_T25 l0_5 x4_2).f1) ((rd_T25 l0_5 x4_2).f2) ((rd_T25 l0_5 x4_2).f3) _ _ ((rd_T25 l0_5 x4_2).f4) _ _ ((rd_T25 l0_5 x4_2).f5) t212 _ ?side1 ?side2 ?side3 ?side4 A10.out).mono ?_);(case side1=>repeat (first|exact (Kd.C_below HR211_4.out HB.out)|(with_reducible refine Kd.C_alloc ?_ _)|(with_reducible refine Kd.C_drewN ?_ _)|(with_reducible refine Kd.C_drew ?_)));(case side2=>exact HC211_4.out);(case side3=>repeat (first|exact (Kd.C_below HR211_5.out HB.out)|(with_reducible refine Kd.C_alloc ?_ _)|(with_reducible refine Kd.C_drewN ?_ _)|(with_reducible refine Kd.C_drew ?_)));(case side4=>exact HC211_5.out);rintro e w15 ⟨rfl,hb⟩;refine ⟨_,rfl,?_⟩;have n0_:=Aside0.mk (blk_below (g:=gb210) (o:=.cells #[.int .i64 a0_0,.bool a0_1,.string a0_2,.string a0_3,.slice A0_4 l0_4.length c0_4,.slice (some ad211) l0_5.length c0_5] 25 (0,0)) (by (with_reducible repeat (first|refine blk_drewN ?_ _|refine blk_drew ?_|refine blk_alloc ?_ _));exact BK210.out) hb);have n1_:=Aside0.mk (below_step (by repeat (first|(with_reducible first|exact HB.out|apply below_alloc|apply pw_below_drewN|apply below_drew1|refine below_set ?_ GE210.out)|exact HB.out)) hb);clear BK210;clear HB;have BK210:=n0_;have HB:=n1_;clear n0_ n1_;(try clear hb);(try clear hb2);(try clear hk);(try clear hi)))
         go_roundg k2
         case measure=>have:=HJ1.out;have:=HK2.out;omega
         case rel=>exact ⟨(x3_2),(wrap64 (x4_2 + 1)),(by first|rfl|(simp;done)|(simp [*];done)),(by first|rfl|(simp;done)|(simp [*];done)),(by first|exact H'|(subst_vars;exact H')),⟨by have:=HJ1.out;have:=HK2.out;omega⟩,⟨by (with_reducible repeat (first|refine blk_drewN ?_ _|refine blk_drew ?_|refine blk_alloc ?_ _));exact BK210.out⟩,⟨by repeat (first|(with_reducible first|exact HB.out|apply below_alloc|apply pw_below_drewN|apply below_drew1|refine below_set ?_ GE210.out)|exact HB.out)⟩⟩
       ·rw [if_neg c9] at H
        exact absurd H (by simp)
      ·rw [if_neg c8] at H
       have c8b0 : decide (x4_2 < (l0_5.length : Int)) = false:=decide_eq_false c8
       clear c8
       obtain rfl:=Option.some.inj H
       have hcz16_0 : wr.cell? ⟨gb210,0,none⟩ = some (.int .i64 a0_0):=(blk_cell BK210.out 0).trans rfl
       have hcz16_1 : wr.cell? ⟨gb210,1,none⟩ = some (.bool a0_1):=(blk_cell BK210.out 1).trans rfl
       have hcz16_2 : wr.cell? ⟨gb210,2,none⟩ = some (.string a0_2):=(blk_cell BK210.out 2).trans rfl
       have hcz16_3 : wr.cell? ⟨gb210,3,none⟩ = some (.string a0_3):=(blk_cell BK210.out 3).trans rfl
       have hcz16_4 : wr.cell? ⟨gb210,4,none⟩ = some (.slice A0_4 l0_4.length c0_4):=(blk_cell BK210.out 4).trans rfl
       have hcz16_5 : wr.cell? ⟨gb210,5,none⟩ = some (.slice A0_5 l0_5.length c0_5):=(blk_cell BK210.out 5).trans rfl
       have hfz16_0:=blk_frozen BK210.out 0
       have hfz16_1:=blk_frozen BK210.out 1
       have hfz16_2:=blk_frozen BK210.out 2
       have hfz16_3:=blk_frozen BK210.out 3
       have hfz16_4:=blk_frozen BK210.out 4
       have hfz16_5:=blk_frozen BK210.out 5
       go_wp2
       go_ret
       exact ⟨by first|rfl|(simp [errW_none,errW_some] <;> rfl)|(simp [*,errW_none,errW_some] <;> rfl),by repeat (first|(with_reducible first|exact HB.out|apply below_alloc|apply pw_below_drewN|apply below_drew1|refine below_set ?_ GE210.out)|exact HB.out)⟩
end Go.Proofs.YtgbiobbhaejjlaaDoor.PTreeShapes
