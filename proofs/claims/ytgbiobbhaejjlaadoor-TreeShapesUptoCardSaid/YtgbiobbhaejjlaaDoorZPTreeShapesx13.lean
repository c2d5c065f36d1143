-- Written by shrink.py, a program of this session: what the law needs of the print and its words. Lean checks it.
import Derived.Test.YtgbiobbhaejjlaaDoorZPTreeShapesx0
import Derived.Test.YtgbiobbhaejjlaaDoorZPTreeShapesx1
import Derived.Test.YtgbiobbhaejjlaaDoorZPTreeShapesx12
namespace Go.Proofs.YtgbiobbhaejjlaaDoor.PTreeShapes
open Go.RowKit Go.Proofs.YtgbiobbhaejjlaaDoorW.PrintWords Go.Proofs.YtgbiobbhaejjlaaDoorW.PrintLast Go.Proofs.YtgbiobbhaejjlaaDoorW.PrintMore
attribute [local go_sem] max2_int min2_int max_two min_two max_three min_three max_four min_four
set_option linter.unusedVariables false
set_option linter.unusedSimpArgs false
mutual
def tree_formed.j0 : Nat → Int → Bool → Int → Bool → ByteArray → ByteArray → List ByteArray → List (S25) → Option (Bool)
 | 0,_,_,_,_,_,_,_,_=>none
 | k + 1,x1,x17,x117000,x117001,x117002,x117003,x117004,x117005=>if x17 = true then (some false) else (tree_formed.l0 k x1 x117005 (x117005.length : Int) 0)
def tree_formed.l0 : Nat → Int → List (S25) → Int → Int → Option (Bool)
 | 0,_,_,_,_=>none
 | k + 1,x1,x19,x20,x21=>if x21 < x20 then (if 0 ≤ x21 then (if x21 < (x19.length : Int) then ((tree_formed.f k ((rd_T25 x19 x21).f0) ((rd_T25 x19 x21).f1) ((rd_T25 x19 x21).f2) ((rd_T25 x19 x21).f3) ((rd_T25 x19 x21).f4) ((rd_T25 x19 x21).f5) (wrap64 (x1 - 1))).bind fun t121=>(if t121 = true then (tree_formed.l0 k x1 x19 x20 (wrap64 (x21 + 1))) else (some false))) else (none)) else (none)) else (some true)
def tree_formed.f : Nat → Int → Bool → ByteArray → ByteArray → List ByteArray → List (S25) → Int → Option (Bool)
 | 0,_,_,_,_,_,_,_=>none
 | k + 1,a0_0,a0_1,a0_2,a0_3,l0_4,l0_5,a1=>(tree_plain.f a0_0 a0_1 a0_2 a0_3 l0_4 l0_5).bind fun t117=>(if t117 = true then ((tree_holds.f a0_0 a0_1 a0_2 a0_3 l0_4 l0_5).bind fun t118=>(if t118 = true then (tree_formed.j0 k a1 (a1 == 0) a0_0 a0_1 a0_2 a0_3 l0_4 l0_5) else (tree_formed.j0 k a1 false a0_0 a0_1 a0_2 a0_3 l0_4 l0_5))) else (tree_formed.j0 k a1 true a0_0 a0_1 a0_2 a0_3 l0_4 l0_5))
end
theorem tree_formed.mono_l : ∀ k,(∀ y0 y1 y2 y3 y4 y5 y6,LeO (tree_formed.f k y0 y1 y2 y3 y4 y5 y6) (tree_formed.f (k + 1) y0 y1 y2 y3 y4 y5 y6)) ∧ (∀ y0 y1 y2 y3 y4 y5 y6 y7,LeO (tree_formed.j0 k y0 y1 y2 y3 y4 y5 y6 y7) (tree_formed.j0 (k + 1) y0 y1 y2 y3 y4 y5 y6 y7)) ∧ (∀ y0 y1 y2 y3,LeO (tree_formed.l0 k y0 y1 y2 y3) (tree_formed.l0 (k + 1) y0 y1 y2 y3))
 | 0=>⟨fun _ _ _ _ _ _ _ r h=>by simp [tree_formed.f] at h,fun _ _ _ _ _ _ _ _ r h=>by simp [tree_formed.j0] at h,fun _ _ _ _ r h=>by simp [tree_formed.l0] at h⟩
 | k + 1=>by
  obtain ⟨ih0,ih1,ih2⟩:=tree_formed.mono_l k
  refine ⟨?_,?_,?_⟩
  ·intro y0 y1 y2 y3 y4 y5 y6
   unfold tree_formed.f
   repeat' first
   | (with_reducible exact ih0 _ _ _ _ _ _ _)
   | (with_reducible exact ih1 _ _ _ _ _ _ _ _)
   | (with_reducible exact ih2 _ _ _ _)
   | (with_reducible exact LeO.refl _)
   | (with_reducible exact LeO.none _)
   | (with_reducible refine LeO.ite ?_ ?_)
   | (with_reducible refine LeO.bind ?_ (fun _=>?_))
   | exact ih0 _ _ _ _ _ _ _
   | exact ih1 _ _ _ _ _ _ _ _
   | exact ih2 _ _ _ _
   | exact LeO.none _
   | refine LeO.ite ?_ ?_
   | refine LeO.bind ?_ (fun _=>?_)
  ·intro y0 y1 y2 y3 y4 y5 y6 y7
   unfold tree_formed.j0
   repeat' first
   | (with_reducible exact ih0 _ _ _ _ _ _ _)
   | (with_reducible exact ih1 _ _ _ _ _ _ _ _)
   | (with_reducible exact ih2 _ _ _ _)
   | (with_reducible exact LeO.refl _)
   | (with_reducible exact LeO.none _)
   | (with_reducible refine LeO.ite ?_ ?_)
   | (with_reducible refine LeO.bind ?_ (fun _=>?_))
   | exact ih0 _ _ _ _ _ _ _
   | exact ih1 _ _ _ _ _ _ _ _
   | exact ih2 _ _ _ _
   | exact LeO.none _
   | refine LeO.ite ?_ ?_
   | refine LeO.bind ?_ (fun _=>?_)
  ·intro y0 y1 y2 y3
   unfold tree_formed.l0
   repeat' first
   | (with_reducible exact ih0 _ _ _ _ _ _ _)
   | (with_reducible exact ih1 _ _ _ _ _ _ _ _)
   | (with_reducible exact ih2 _ _ _ _)
   | (with_reducible exact LeO.refl _)
   | (with_reducible exact LeO.none _)
   | (with_reducible refine LeO.ite ?_ ?_)
   | (with_reducible refine LeO.bind ?_ (fun _=>?_))
   | exact ih0 _ _ _ _ _ _ _
   | exact ih1 _ _ _ _ _ _ _ _
   | exact ih2 _ _ _ _
   | exact LeO.none _
   | refine LeO.ite ?_ ?_
   | refine LeO.bind ?_ (fun _=>?_)
theorem tree_formed.mono : ∀ a0 a1 a2 a3 a4 a5 a6 k,LeO (tree_formed.f k a0 a1 a2 a3 a4 a5 a6) (tree_formed.f (k + 1) a0 a1 a2 a3 a4 a5 a6):=by
 intro a0 a1 a2 a3 a4 a5 a6 k
 obtain ⟨ih0,ih1,ih2⟩:=tree_formed.mono_l k
 exact ih0 a0 a1 a2 a3 a4 a5 a6
set_option maxHeartbeats 8000000 in
set_option maxRecDepth 100000 in
theorem tree_formed.calls (k : Nat) : ∀ (a0_0 : Int) (a0_1 : Bool) (a0_2 : ByteArray) (a0_3 : ByteArray) (A0_4 : Option Addr) (c0_4 : Nat) (l0_4 : List ByteArray) (A0_5 : Option Addr) (c0_5 : Nat) (l0_5 : List (S25)) (a1 : Int) (r : Bool) (w : World) (hr0_4 : Kd.C Kd.string w A0_4 l0_4.length l0_4) (hc0_4 : l0_4.length ≤ c0_4) (hr0_5 : Kd.C k25 w A0_5 l0_5.length l0_5) (hc0_5 : l0_5.length ≤ c0_5) (h : tree_formed.f k a0_0 a0_1 a0_2 a0_3 l0_4 l0_5 a1 = some r),
  Calls Tryd.prog 17 #[.agg #[.int .i64 a0_0,.bool a0_1,.string a0_2,.string a0_3,.slice A0_4 l0_4.length c0_4,.slice A0_5 l0_5.length c0_5],.int .i64 a1] w fun e w'=>e = .returned (.bool r) ∧ Below w.heap.size w w':=by
 induction k using Nat.strongRecOn with
 | _ k ih =>
 intro a0_0 a0_1 a0_2 a0_3 A0_4 c0_4 l0_4 A0_5 c0_5 l0_5 a1 r w hr0_4 hc0_4 hr0_5 hc0_5 h
 cases k with
 | zero=>exact absurd h (by simp [tree_formed.f])
 | succ k =>
 simp only [tree_formed.f] at h
 have hu25:=Tryd.underlying25
 have HR0_4:=Aside0.mk hr0_4
 have HC0_4:=Aside0.mk hc0_4
 clear hr0_4 hc0_4
 have HR0_5:=Aside0.mk hr0_5
 have HC0_5:=Aside0.mk hc0_5
 clear hr0_5 hc0_5
 have HB:=Aside0.mk (Below.refl w.heap.size w)
 have H : ((tree_plain.f a0_0 a0_1 a0_2 a0_3 l0_4 l0_5).bind fun t117=>(if t117 = true then ((tree_holds.f a0_0 a0_1 a0_2 a0_3 l0_4 l0_5).bind fun t118=>(if t118 = true then (tree_formed.j0 k a1 (a1 == 0) a0_0 a0_1 a0_2 a0_3 l0_4 l0_5) else (tree_formed.j0 k a1 false a0_0 a0_1 a0_2 a0_3 l0_4 l0_5))) else (tree_formed.j0 k a1 true a0_0 a0_1 a0_2 a0_3 l0_4 l0_5))) = some r:=h
 clear h
 have HC3:=Aside0.mk H
 clear H
 go_enter Tryd.func17,Tryd.ntmps17
 go_upto_region 1 with (first|((with_reducible refine gate_dst (N:=2) rfl ?_);refine box_event ?hg (N:=2) ?hd (cs:=#[.int .i64 a0_0,.bool a0_1,.string a0_2,.string a0_3,.slice A0_4 l0_4.length c0_4,.slice A0_5 l0_5.length c0_5]) (t:=25) ?hr ?_;(case hd=>rfl);(case hg=>rfl);(case hr=>first|(go_simp;done)|(go_simp;rfl));intro gb116 hg w4 hbox hb;have n0_:=Aside0.mk (below_step (by repeat (first|(with_reducible first|exact HB.out|apply below_alloc|apply pw_below_drewN|apply below_drew1)|exact HB.out)) hb);have n1_:=Aside0.mk (hbox);have n2_:=Aside0.mk ((by rw [hg];exact (below_size (by repeat (first|(with_reducible first|exact HB.out|apply below_alloc|apply pw_below_drewN|apply below_drew1)|exact HB.out))) : w.heap.size ≤ gb116));have n3_:=Aside0.mk ((by rw [hg];exact (below_size (by repeat (first|(with_reducible first|exact HB.out|apply below_alloc|apply pw_below_drewN|apply below_drew1)|exact HB.out))) : w.heap.size ≤ gb116));clear HB;have HB:=n0_;have BK116:=n1_;have GW116:=n2_;have GE116:=n3_;clear n0_ n1_ n2_ n3_;clear hb hbox hg))
 (try simp only [Act.put,List.setIfInBounds_toArray,List.set_cons_zero,List.set_cons_succ])
 go_cut [17] (fun v17 wc=>∃ (kq : Nat) (x17_2 : Bool),v17 = .bool x17_2 ∧ Aside0 (tree_formed.j0 kq a1 x17_2 a0_0 a0_1 a0_2 a0_3 l0_4 l0_5 = some r) ∧ Aside0 (kq ≤ k) ∧ Aside0 (wc.heap[gb116]? = some (.cells #[.int .i64 a0_0,.bool a0_1,.string a0_2,.string a0_3,(.slice A0_4 l0_4.length c0_4),(.slice A0_5 l0_5.length c0_5)] 25 (0,0))) ∧ Aside0 (Below w.heap.size w wc))
 case first =>
  have H:=HC3.out
  clear HC3
  replace H:=Option.bind_eq_some_iff.mp H
  obtain ⟨t117,A50,H⟩:=H
  replace H : (if t117 = true then ((tree_holds.f a0_0 a0_1 a0_2 a0_3 l0_4 l0_5).bind fun t118=>(if t118 = true then (tree_formed.j0 k a1 (a1 == 0) a0_0 a0_1 a0_2 a0_3 l0_4 l0_5) else (tree_formed.j0 k a1 false a0_0 a0_1 a0_2 a0_3 l0_4 l0_5))) else (tree_formed.j0 k a1 true a0_0 a0_1 a0_2 a0_3 l0_4 l0_5)) = some r:=H
  have A5:=Aside0.mk A50
  clear A50
  by_cases c6 : t117 = true
  ·subst c6
   have H1 : ((tree_holds.f a0_0 a0_1 a0_2 a0_3 l0_4 l0_5).bind fun t118=>(if t118 = true then (tree_formed.j0 k a1 (a1 == 0) a0_0 a0_1 a0_2 a0_3 l0_4 l0_5) else (tree_formed.j0 k a1 false a0_0 a0_1 a0_2 a0_3 l0_4 l0_5))) = some r:=by rw [if_pos rfl] at H;exact H
   clear H
   have H:=H1
   clear H1
   replace H:=Option.bind_eq_some_iff.mp H
   obtain ⟨t118,A70,H⟩:=H
   replace H : (if t118 = true then (tree_formed.j0 k a1 (a1 == 0) a0_0 a0_1 a0_2 a0_3 l0_4 l0_5) else (tree_formed.j0 k a1 false a0_0 a0_1 a0_2 a0_3 l0_4 l0_5)) = some r:=H
   have A7:=Aside0.mk A70
   clear A70
   by_cases c8 : t118 = true
   ·subst c8
    have H1 : (tree_formed.j0 k a1 (a1 == 0) a0_0 a0_1 a0_2 a0_3 l0_4 l0_5) = some r:=by rw [if_pos rfl] at H;exact H
    clear H
    have H:=H1
    clear H1
    have H':=Aside0.mk H
    clear H
    have hcz9_0 : w4.cell? ⟨gb116,0,none⟩ = some (.int .i64 a0_0):=(blk_cell BK116.out 0).trans rfl
    have hcz9_1 : w4.cell? ⟨gb116,1,none⟩ = some (.bool a0_1):=(blk_cell BK116.out 1).trans rfl
    have hcz9_2 : w4.cell? ⟨gb116,2,none⟩ = some (.string a0_2):=(blk_cell BK116.out 2).trans rfl
    have hcz9_3 : w4.cell? ⟨gb116,3,none⟩ = some (.string a0_3):=(blk_cell BK116.out 3).trans rfl
    have hcz9_4 : w4.cell? ⟨gb116,4,none⟩ = some (.slice A0_4 l0_4.length c0_4):=(blk_cell BK116.out 4).trans rfl
    have hcz9_5 : w4.cell? ⟨gb116,5,none⟩ = some (.slice A0_5 l0_5.length c0_5):=(blk_cell BK116.out 5).trans rfl
    have hfz9_0:=blk_frozen BK116.out 0
    have hfz9_1:=blk_frozen BK116.out 1
    have hfz9_2:=blk_frozen BK116.out 2
    have hfz9_3:=blk_frozen BK116.out 3
    have hfz9_4:=blk_frozen BK116.out 4
    have hfz9_5:=blk_frozen BK116.out 5
    go_wp2_with (first|((with_reducible refine gate_callee (f:=26) rfl ?_);refine goesL_ (some 8) rfl rfl Tryd.func26 (by kernel_rfl) rfl #[.agg #[.int .i64 a0_0,.bool a0_1,.string a0_2,.string a0_3,.slice A0_4 l0_4.length c0_4,.slice A0_5 l0_5.length c0_5]] rfl (by (try simp only [List.map_toArray,List.map_cons,List.map_nil]);first|done|rfl|(simp only [List.length_drop,List.length_take];rfl)) ?_;(with_reducible refine (tree_plain.calls a0_0 a0_1 a0_2 a0_3 _ _ l0_4 _ _ l0_5 true _ ?side1 ?side2 ?side3 ?side4 A5.out).mono ?_);(case side1=>repeat (first|exact (Kd.C_below HR0_4.out HB.out)|(with_reducible refine Kd.C_alloc ?_ _)|(with_reducible refine Kd.C_drewN ?_ _)|(with_reducible refine Kd.C_drew ?_)));(case side2=>exact HC0_4.out);(case side3=>repeat (first|exact (Kd.C_below HR0_5.out HB.out)|(with_reducible refine Kd.C_alloc ?_ _)|(with_reducible refine Kd.C_drewN ?_ _)|(with_reducible refine Kd.C_drew ?_)));(case side4=>exact HC0_5.out);rintro e w10 ⟨rfl,hb⟩;refine ⟨_,rfl,?_⟩;have n0_:=Aside0.mk (blk_below (g:=gb116) (o:=.cells #[.int .i64 a0_0,.bool a0_1,.string a0_2,.string a0_3,.slice A0_4 l0_4.length c0_4,.slice A0_5 l0_5.length c0_5] 25 (0,0)) (by (with_reducible repeat (first|refine blk_drewN ?_ _|refine blk_drew ?_|refine blk_alloc ?_ _));exact BK116.out) hb);have n1_:=Aside0.mk (below_step (by repeat (first|(with_reducible first|exact HB.out|apply below_alloc|apply pw_below_drewN|apply below_drew1|refine below_set ?_ GE116.out)|exact HB.out)) hb);clear BK116;clear HB;have BK116:=n0_;have HB:=n1_;clear n0_ n1_;(try clear hb);(try clear hb2);(try clear hk);(try clear hi);have hcz11_0 : w10.cell? ⟨gb116,0,none⟩ = some (.int .i64 a0_0):=(blk_cell BK116.out 0).trans rfl;have hcz11_1 : w10.cell? ⟨gb116,1,none⟩ = some (.bool a0_1):=(blk_cell BK116.out 1).trans rfl;have hcz11_2 : w10.cell? ⟨gb116,2,none⟩ = some (.string a0_2):=(blk_cell BK116.out 2).trans rfl;have hcz11_3 : w10.cell? ⟨gb116,3,none⟩ = some (.string a0_3):=(blk_cell BK116.out 3).trans rfl;have hcz11_4 : w10.cell? ⟨gb116,4,none⟩ = some (.slice A0_4 l0_4.length c0_4):=(blk_cell BK116.out 4).trans rfl;have hcz11_5 : w10.cell? ⟨gb116,5,none⟩ = some (.slice A0_5 l0_5.length c0_5):=(blk_cell BK116.out 5).trans rfl;have hfz11_0:=blk_frozen BK116.out 0;have hfz11_1:=blk_frozen BK116.out 1;have hfz11_2:=blk_frozen BK116.out 2;have hfz11_3:=blk_frozen BK116.out 3;have hfz11_4:=blk_frozen BK116.out 4;have hfz11_5:=blk_frozen BK116.out 5)|(go_at_call 18;(with_reducible refine (tree_holds.calls a0_0 a0_1 a0_2 a0_3 _ _ l0_4 _ _ l0_5 true _ ?side1 ?side2 ?side3 ?side4 A7.out).mono ?_);(case side1=>repeat (first|exact (Kd.C_below HR0_4.out HB.out)|(with_reducible refine Kd.C_alloc ?_ _)|(with_reducible refine Kd.C_drewN ?_ _)|(with_reducible refine Kd.C_drew ?_)));(case side2=>exact HC0_4.out);(case side3=>repeat (first|exact (Kd.C_below HR0_5.out HB.out)|(with_reducible refine Kd.C_alloc ?_ _)|(with_reducible refine Kd.C_drewN ?_ _)|(with_reducible refine Kd.C_drew ?_)));(case side4=>exact HC0_5.out);rintro e w12 ⟨rfl,hb⟩;have n0_:=Aside0.mk (blk_below (g:=gb116) (o:=.cells #[.int .i64 a0_0,.bool a0_1,.string a0_2,.string a0_3,.slice A0_4 l0_4.length c0_4,.slice A0_5 l0_5.length c0_5] 25 (0,0)) (by (with_reducible repeat (first|refine blk_drewN ?_ _|refine blk_drew ?_|refine blk_alloc ?_ _));exact BK116.out) hb);have n1_:=Aside0.mk (below_step (by repeat (first|(with_reducible first|exact HB.out|apply below_alloc|apply pw_below_drewN|apply below_drew1|refine below_set ?_ GE116.out)|exact HB.out)) hb);clear BK116;clear HB;have BK116:=n0_;have HB:=n1_;clear n0_ n1_;(try clear hb);(try clear hb2);(try clear hk);(try clear hi)))
    go_meet
    case rel=>exact ⟨_,((a1 == 0)),(by first|rfl|(simp;done)|(simp [*];done)),(by first|exact H'|(subst_vars;exact H')),⟨by first|omega|exact Nat.le_refl _⟩,⟨by (with_reducible repeat (first|refine blk_drewN ?_ _|refine blk_drew ?_|refine blk_alloc ?_ _));exact BK116.out⟩,⟨by repeat (first|(with_reducible first|exact HB.out|apply below_alloc|apply pw_below_drewN|apply below_drew1|refine below_set ?_ GE116.out)|exact HB.out)⟩⟩
   ·replace c8:=Bool.eq_false_iff.mpr c8
    subst c8
    have H1 : (tree_formed.j0 k a1 false a0_0 a0_1 a0_2 a0_3 l0_4 l0_5) = some r:=by rw [if_neg (show ¬ (false = true) by decide)] at H;exact H
    clear H
    have H:=H1
    clear H1
    have H':=Aside0.mk H
    clear H
    have hcz13_0 : w4.cell? ⟨gb116,0,none⟩ = some (.int .i64 a0_0):=(blk_cell BK116.out 0).trans rfl
    have hcz13_1 : w4.cell? ⟨gb116,1,none⟩ = some (.bool a0_1):=(blk_cell BK116.out 1).trans rfl
    have hcz13_2 : w4.cell? ⟨gb116,2,none⟩ = some (.string a0_2):=(blk_cell BK116.out 2).trans rfl
    have hcz13_3 : w4.cell? ⟨gb116,3,none⟩ = some (.string a0_3):=(blk_cell BK116.out 3).trans rfl
    have hcz13_4 : w4.cell? ⟨gb116,4,none⟩ = some (.slice A0_4 l0_4.length c0_4):=(blk_cell BK116.out 4).trans rfl
    have hcz13_5 : w4.cell? ⟨gb116,5,none⟩ = some (.slice A0_5 l0_5.length c0_5):=(blk_cell BK116.out 5).trans rfl
    have hfz13_0:=blk_frozen BK116.out 0
    have hfz13_1:=blk_frozen BK116.out 1
    have hfz13_2:=blk_frozen BK116.out 2
    have hfz13_3:=blk_frozen BK116.out 3
    have hfz13_4:=blk_frozen BK116.out 4
    have hfz13_5:=blk_frozen BK116.out 5
    go_wp2_with (first|((with_reducible refine gate_callee (f:=26) rfl ?_);refine goesL_ (some 8) rfl rfl Tryd.func26 (by kernel_rfl) rfl #[.agg #[.int .i64 a0_0,.bool a0_1,.string a0_2,.string a0_3,.slice A0_4 l0_4.length c0_4,.slice A0_5 l0_5.length c0_5]] rfl (by (try simp only [List.map_toArray,List.map_cons,List.map_nil]);first|done|rfl|(simp only [List.length_drop,List.length_take];rfl)) ?_;(with_reducible refine (tree_plain.calls a0_0 a0_1 a0_2 a0_3 _ _ l0_4 _ _ l0_5 true _ ?side1 ?side2 ?side3 ?side4 A5.out).mono ?_);(case side1=>repeat (first|exact (Kd.C_below HR0_4.out HB.out)|(with_reducible refine Kd.C_alloc ?_ _)|(with_reducible refine Kd.C_drewN ?_ _)|(with_reducible refine Kd.C_drew ?_)));(case side2=>exact HC0_4.out);(case side3=>repeat (first|exact (Kd.C_below HR0_5.out HB.out)|(with_reducible refine Kd.C_alloc ?_ _)|(with_reducible refine Kd.C_drewN ?_ _)|(with_reducible refine Kd.C_drew ?_)));(case side4=>exact HC0_5.out);rintro e w14 ⟨rfl,hb⟩;refine ⟨_,rfl,?_⟩;have n0_:=Aside0.mk (blk_below (g:=gb116) (o:=.cells #[.int .i64 a0_0,.bool a0_1,.string a0_2,.string a0_3,.slice A0_4 l0_4.length c0_4,.slice A0_5 l0_5.length c0_5] 25 (0,0)) (by (with_reducible repeat (first|refine blk_drewN ?_ _|refine blk_drew ?_|refine blk_alloc ?_ _));exact BK116.out) hb);have n1_:=Aside0.mk (below_step (by repeat (first|(with_reducible first|exact HB.out|apply below_alloc|apply pw_below_drewN|apply below_drew1|refine below_set ?_ GE116.out)|exact HB.out)) hb);clear BK116;clear HB;have BK116:=n0_;have HB:=n1_;clear n0_ n1_;(try clear hb);(try clear hb2);(try clear hk);(try clear hi);have hcz15_0 : w14.cell? ⟨gb116,0,none⟩ = some (.int .i64 a0_0):=(blk_cell BK116.out 0).trans rfl;have hcz15_1 : w14.cell? ⟨gb116,1,none⟩ = some (.bool a0_1):=(blk_cell BK116.out 1).trans rfl;have hcz15_2 : w14.cell? ⟨gb116,2,none⟩ = some (.string a0_2):=(blk_cell BK116.out 2).trans rfl;have hcz15_3 : w14.cell? ⟨gb116,3,none⟩ = some (.string a0_3):=(blk_cell BK116.out 3).trans rfl;have hcz15_4 : w14.cell? ⟨gb116,4,none⟩ = some (.slice A0_4 l0_4.length c0_4):=(blk_cell BK116.out 4).trans rfl;have hcz15_5 : w14.cell? ⟨gb116,5,none⟩ = some (.slice A0_5 l0_5.length c0_5):=(blk_cell BK116.out 5).trans rfl;have hfz15_0:=blk_frozen BK116.out 0;have hfz15_1:=blk_frozen BK116.out 1;have hfz15_2:=blk_frozen BK116.out 2;have hfz15_3:=blk_frozen BK116.out 3;have hfz15_4:=blk_frozen BK116.out 4;have hfz15_5:=blk_frozen BK116.out 5)|(go_at_call 18;(with_reducible refine (tree_holds.calls a0_0 a0_1 a0_2 a0_3 _ _ l0_4 _ _ l0_5 false _ ?side1 ?side2 ?side3 ?side4 A7.out).mono ?_);(case side1=>repeat (first|exact (Kd.C_below HR0_4.out HB.out)|(with_reducible refine Kd.C_alloc ?_ _)|(with_reducible refine Kd.C_drewN ?_ _)|(with_reducible refine Kd.C_drew ?_)));(case side2=>exact HC0_4.out);(case side3=>repeat (first|exact (Kd.C_below HR0_5.out HB.out)|(with_reducible refine Kd.C_alloc ?_ _)|(with_reducible refine Kd.C_drewN ?_ _)|(with_reducible refine Kd.C_drew ?_)));(case side4=>exact HC0_5.out);rintro e w16 ⟨rfl,hb⟩;have n0_:=Aside0.mk (blk_below (g:=gb116) (o:=.cells #[.int .i64 a0_0,.bool a0_1,.string a0_2,.string a0_3,.slice A0_4 l0_4.length c0_4,.slice A0_5 l0_5.length c0_5] 25 (0,0)) (by (with_reducible repeat (first|refine blk_drewN ?_ _|refine blk_drew ?_|refine blk_alloc ?_ _));exact BK116.out) hb);have n1_:=Aside0.mk (below_step (by repeat (first|(with_reducible first|exact HB.out|apply below_alloc|apply pw_below_drewN|apply below_drew1|refine below_set ?_ GE116.out)|exact HB.out)) hb);clear BK116;clear HB;have BK116:=n0_;have HB:=n1_;clear n0_ n1_;(try clear hb);(try clear hb2);(try clear hk);(try clear hi)))
    go_meet
    case rel=>exact ⟨_,(false),(by first|rfl|(simp;done)|(simp [*];done)),(by first|exact H'|(subst_vars;exact H')),⟨by first|omega|exact Nat.le_refl _⟩,⟨by (with_reducible repeat (first|refine blk_drewN ?_ _|refine blk_drew ?_|refine blk_alloc ?_ _));exact BK116.out⟩,⟨by repeat (first|(with_reducible first|exact HB.out|apply below_alloc|apply pw_below_drewN|apply below_drew1|refine below_set ?_ GE116.out)|exact HB.out)⟩⟩
  ·replace c6:=Bool.eq_false_iff.mpr c6
   subst c6
   have H1 : (tree_formed.j0 k a1 true a0_0 a0_1 a0_2 a0_3 l0_4 l0_5) = some r:=by rw [if_neg (show ¬ (false = true) by decide)] at H;exact H
   clear H
   have H:=H1
   clear H1
   have H':=Aside0.mk H
   clear H
   have hcz17_0 : w4.cell? ⟨gb116,0,none⟩ = some (.int .i64 a0_0):=(blk_cell BK116.out 0).trans rfl
   have hcz17_1 : w4.cell? ⟨gb116,1,none⟩ = some (.bool a0_1):=(blk_cell BK116.out 1).trans rfl
   have hcz17_2 : w4.cell? ⟨gb116,2,none⟩ = some (.string a0_2):=(blk_cell BK116.out 2).trans rfl
   have hcz17_3 : w4.cell? ⟨gb116,3,none⟩ = some (.string a0_3):=(blk_cell BK116.out 3).trans rfl
   have hcz17_4 : w4.cell? ⟨gb116,4,none⟩ = some (.slice A0_4 l0_4.length c0_4):=(blk_cell BK116.out 4).trans rfl
   have hcz17_5 : w4.cell? ⟨gb116,5,none⟩ = some (.slice A0_5 l0_5.length c0_5):=(blk_cell BK116.out 5).trans rfl
   have hfz17_0:=blk_frozen BK116.out 0
   have hfz17_1:=blk_frozen BK116.out 1
   have hfz17_2:=blk_frozen BK116.out 2
   have hfz17_3:=blk_frozen BK116.out 3
   have hfz17_4:=blk_frozen BK116.out 4
   have hfz17_5:=blk_frozen BK116.out 5
   go_wp2_with (first|((with_reducible refine gate_callee (f:=26) rfl ?_);refine goesL_ (some 8) rfl rfl Tryd.func26 (by kernel_rfl) rfl #[.agg #[.int .i64 a0_0,.bool a0_1,.string a0_2,.string a0_3,.slice A0_4 l0_4.length c0_4,.slice A0_5 l0_5.length c0_5]] rfl (by (try simp only [List.map_toArray,List.map_cons,List.map_nil]);first|done|rfl|(simp only [List.length_drop,List.length_take];rfl)) ?_;(with_reducible refine (tree_plain.calls a0_0 a0_1 a0_2 a0_3 _ _ l0_4 _ _ l0_5 false _ ?side1 ?side2 ?side3 ?side4 A5.out).mono ?_);(case side1=>repeat (first|exact (Kd.C_below HR0_4.out HB.out)|(with_reducible refine Kd.C_alloc ?_ _)|(with_reducible refine Kd.C_drewN ?_ _)|(with_reducible refine Kd.C_drew ?_)));(case side2=>exact HC0_4.out);(case side3=>repeat (first|exact (Kd.C_below HR0_5.out HB.out)|(with_reducible refine Kd.C_alloc ?_ _)|(with_reducible refine Kd.C_drewN ?_ _)|(with_reducible refine Kd.C_drew ?_)));(case side4=>exact HC0_5.out);rintro e w18 ⟨rfl,hb⟩;refine ⟨_,rfl,?_⟩;have n0_:=Aside0.mk (blk_below (g:=gb116) (o:=.cells #[.int .i64 a0_0,.bool a0_1,.string a0_2,.string a0_3,.slice A0_4 l0_4.length c0_4,.slice A0_5 l0_5.length c0_5] 25 (0,0)) (by (with_reducible repeat (first|refine blk_drewN ?_ _|refine blk_drew ?_|refine blk_alloc ?_ _));exact BK116.out) hb);have n1_:=Aside0.mk (below_step (by repeat (first|(with_reducible first|exact HB.out|apply below_alloc|apply pw_below_drewN|apply below_drew1|refine below_set ?_ GE116.out)|exact HB.out)) hb);clear BK116;clear HB;have BK116:=n0_;have HB:=n1_;clear n0_ n1_;(try clear hb);(try clear hb2);(try clear hk);(try clear hi)))
   go_meet
   case rel=>exact ⟨_,(true),(by first|rfl|(simp;done)|(simp [*];done)),(by first|exact H'|(subst_vars;exact H')),⟨by first|omega|exact Nat.le_refl _⟩,⟨by (with_reducible repeat (first|refine blk_drewN ?_ _|refine blk_drew ?_|refine blk_alloc ?_ _));exact BK116.out⟩,⟨by repeat (first|(with_reducible first|exact HB.out|apply below_alloc|apply pw_below_drewN|apply below_drew1|refine below_set ?_ GE116.out)|exact HB.out)⟩⟩
 case rest =>
  clear HC3
  try clear c1
  try clear c2
  try clear p2
  try clear c6
  try clear c8
  try clear c17
  try clear hcz11_0
  try clear hcz11_1
  try clear hcz11_2
  try clear hcz11_3
  try clear hcz11_4
  try clear hcz11_5
  try clear hcz13_0
  try clear hcz13_1
  try clear hcz13_2
  try clear hcz13_3
  try clear hcz13_4
  try clear hcz13_5
  try clear hcz15_0
  try clear hcz15_1
  try clear hcz15_2
  try clear hcz15_3
  try clear hcz15_4
  try clear hcz15_5
  try clear hcz17_0
  try clear hcz17_1
  try clear hcz17_2
  try clear hcz17_3
  try clear hcz17_4
  try clear hcz17_5
  try clear hcz9_0
  try clear hcz9_1
  try clear hcz9_2
  try clear hcz9_3
  try clear hcz9_4
  try clear hcz9_5
  try clear hfz11_0
  try clear hfz11_1
  try clear hfz11_2
  try clear hfz11_3
  try clear hfz11_4
  try clear hfz11_5
  try clear hfz13_0
  try clear hfz13_1
  try clear hfz13_2
  try clear hfz13_3
  try clear hfz13_4
  try clear hfz13_5
  try clear hfz15_0
  try clear hfz15_1
  try clear hfz15_2
  try clear hfz15_3
  try clear hfz15_4
  try clear hfz15_5
  try clear hfz17_0
  try clear hfz17_1
  try clear hfz17_2
  try clear hfz17_3
  try clear hfz17_4
  try clear hfz17_5
  try clear hfz9_0
  try clear hfz9_1
  try clear hfz9_2
  try clear hfz9_3
  try clear hfz9_4
  try clear hfz9_5
  obtain ⟨kq,x17_2,rfl,HA,HJ2,BK116,HB⟩:=hcut
  cases kq with
  | zero=>exact absurd HA.out (by simp [tree_formed.j0])
  | succ kj2 =>
   have H:=HA.out
   clear HA
   simp only [tree_formed.j0] at H
   by_cases c19 : x17_2 = true
   ·subst c19
    have H1 : (some false) = some r:=by rw [if_pos rfl] at H;exact H
    clear H
    have H:=H1
    clear H1
    obtain rfl:=Option.some.inj H
    go_wp2
    go_ret
    exact ⟨by first|rfl|(simp [errW_none,errW_some] <;> rfl)|(simp [*,errW_none,errW_some] <;> rfl),by repeat (first|(with_reducible first|exact HB.out|apply below_alloc|apply pw_below_drewN|apply below_drew1|refine below_set ?_ GE116.out)|exact HB.out)⟩
   ·replace c19:=Bool.eq_false_iff.mpr c19
    subst c19
    have H1 : (tree_formed.l0 kj2 a1 l0_5 (l0_5.length : Int) 0) = some r:=by rw [if_neg (show ¬ (false = true) by decide)] at H;exact H
    clear H
    have H:=H1
    clear H1
    have H':=Aside0.mk H
    clear H
    have hcz20_0 : wc.cell? ⟨gb116,0,none⟩ = some (.int .i64 a0_0):=(blk_cell BK116.out 0).trans rfl
    have hcz20_1 : wc.cell? ⟨gb116,1,none⟩ = some (.bool a0_1):=(blk_cell BK116.out 1).trans rfl
    have hcz20_2 : wc.cell? ⟨gb116,2,none⟩ = some (.string a0_2):=(blk_cell BK116.out 2).trans rfl
    have hcz20_3 : wc.cell? ⟨gb116,3,none⟩ = some (.string a0_3):=(blk_cell BK116.out 3).trans rfl
    have hcz20_4 : wc.cell? ⟨gb116,4,none⟩ = some (.slice A0_4 l0_4.length c0_4):=(blk_cell BK116.out 4).trans rfl
    have hcz20_5 : wc.cell? ⟨gb116,5,none⟩ = some (.slice A0_5 l0_5.length c0_5):=(blk_cell BK116.out 5).trans rfl
    have hfz20_0:=blk_frozen BK116.out 0
    have hfz20_1:=blk_frozen BK116.out 1
    have hfz20_2:=blk_frozen BK116.out 2
    have hfz20_3:=blk_frozen BK116.out 3
    have hfz20_4:=blk_frozen BK116.out 4
    have hfz20_5:=blk_frozen BK116.out 5
    go_wp2
    go_loopg [21] kj2 (fun kq v21 w'=>∃ (x21_2 : Int),v21 = .int .i64 x21_2 ∧ Aside0 (tree_formed.l0 kq a1 l0_5 (l0_5.length : Int) x21_2 = some r) ∧ Aside0 (kq ≤ kj2) ∧ Aside0 (w'.heap[gb116]? = some (.cells #[.int .i64 a0_0,.bool a0_1,.string a0_2,.string a0_3,(.slice A0_4 l0_4.length c0_4),(.slice A0_5 l0_5.length c0_5)] 25 (0,0))) ∧ Aside0 (Below w.heap.size w w'))
    case atStart=>exact ⟨(0),(by first|rfl|(simp;done)|(simp [*];done)),H',⟨Nat.le_refl _⟩,⟨by (with_reducible repeat (first|refine blk_drewN ?_ _|refine blk_drew ?_|refine blk_alloc ?_ _));exact BK116.out⟩,⟨by repeat (first|(with_reducible first|exact HB.out|apply below_alloc|apply pw_below_drewN|apply below_drew1|refine below_set ?_ GE116.out)|exact HB.out)⟩⟩
    case round =>
     clear H'
     try clear c1
     try clear c2
     try clear p2
     try clear c6
     try clear c8
     try clear c17
     try clear c19
     try clear hcz11_0
     try clear hcz11_1
     try clear hcz11_2
     try clear hcz11_3
     try clear hcz11_4
     try clear hcz11_5
     try clear hcz13_0
     try clear hcz13_1
     try clear hcz13_2
     try clear hcz13_3
     try clear hcz13_4
     try clear hcz13_5
     try clear hcz15_0
     try clear hcz15_1
     try clear hcz15_2
     try clear hcz15_3
     try clear hcz15_4
     try clear hcz15_5
     try clear hcz17_0
     try clear hcz17_1
     try clear hcz17_2
     try clear hcz17_3
     try clear hcz17_4
     try clear hcz17_5
     try clear hcz20_0
     try clear hcz20_1
     try clear hcz20_2
     try clear hcz20_3
     try clear hcz20_4
     try clear hcz20_5
     try clear hcz9_0
     try clear hcz9_1
     try clear hcz9_2
     try clear hcz9_3
     try clear hcz9_4
     try clear hcz9_5
     try clear hfz11_0
     try clear hfz11_1
     try clear hfz11_2
     try clear hfz11_3
     try clear hfz11_4
     try clear hfz11_5
     try clear hfz13_0
     try clear hfz13_1
     try clear hfz13_2
     try clear hfz13_3
     try clear hfz13_4
     try clear hfz13_5
     try clear hfz15_0
     try clear hfz15_1
     try clear hfz15_2
     try clear hfz15_3
     try clear hfz15_4
     try clear hfz15_5
     try clear hfz17_0
     try clear hfz17_1
     try clear hfz17_2
     try clear hfz17_3
     try clear hfz17_4
     try clear hfz17_5
     try clear hfz20_0
     try clear hfz20_1
     try clear hfz20_2
     try clear hfz20_3
     try clear hfz20_4
     try clear hfz20_5
     try clear hfz9_0
     try clear hfz9_1
     try clear hfz9_2
     try clear hfz9_3
     try clear hfz9_4
     try clear hfz9_5
     try clear p2
     try clear HK2
     try clear BK116
     try clear HB
     obtain ⟨x21_2,rfl,HA,HK2,BK116,HB⟩:=hrel
     cases gk with
     | zero=>exact absurd HA.out (by simp [tree_formed.l0])
     | succ k2 =>
      have H:=HA.out
      clear HA
      simp only [tree_formed.l0] at H
      by_cases c21 : x21_2 < (l0_5.length : Int)
      ·rw [if_pos c21] at H
       have c21b0 : decide (x21_2 < (l0_5.length : Int)) = true:=decide_eq_true c21
       clear c21
       by_cases c22 : 0 ≤ x21_2
       ·rw [if_pos c22] at H
        have c22b0 : decide (0 ≤ x21_2) = true:=decide_eq_true c22
        clear c22
        by_cases c23 : x21_2 < (l0_5.length : Int)
        ·rw [if_pos c23] at H
         have c23b0 : decide (x21_2 < (l0_5.length : Int)) = true:=decide_eq_true c23
         clear c23
         replace H:=Option.bind_eq_some_iff.mp H
         obtain ⟨t121,A240,H⟩:=H
         replace H : (if t121 = true then (tree_formed.l0 k2 a1 l0_5 (l0_5.length : Int) (wrap64 (x21_2 + 1))) else (some false)) = some r:=H
         have A24:=Aside0.mk A240
         clear A240
         by_cases c25 : t121 = true
         ·subst c25
          have H1 : (tree_formed.l0 k2 a1 l0_5 (l0_5.length : Int) (wrap64 (x21_2 + 1))) = some r:=by rw [if_pos rfl] at H;exact H
          clear H
          have H:=H1
          clear H1
          have H':=Aside0.mk H
          clear H
          have p119 : 0 ≤ (x21_2 : Int):=of_decide_eq_true (by first|(with_reducible assumption)|assumption)
          have q119 : x21_2 < (l0_5.length : Int):=of_decide_eq_true (by first|(with_reducible assumption)|assumption)
          obtain ⟨ad119,A119_4,c119_4,A119_5,c119_5,e119,hx119_0,hx119_1,hx119_2,hx119_3,hx119_4,hx119_5,hl119_4,hi119_4,hl119_5,hi119_5⟩:=at_T25 HR0_5.out x21_2 p119 q119
          cases e119
          replace hx119_0:=(HB.out.cell (World.block_lt_of_cell? w _ hx119_0)).trans hx119_0
          replace hx119_1:=(HB.out.cell (World.block_lt_of_cell? w _ hx119_1)).trans hx119_1
          replace hx119_2:=(HB.out.cell (World.block_lt_of_cell? w _ hx119_2)).trans hx119_2
          replace hx119_3:=(HB.out.cell (World.block_lt_of_cell? w _ hx119_3)).trans hx119_3
          replace hx119_4:=(HB.out.cell (World.block_lt_of_cell? w _ hx119_4)).trans hx119_4
          replace hx119_5:=(HB.out.cell (World.block_lt_of_cell? w _ hx119_5)).trans hx119_5
          have HR119_4:=Aside0.mk hi119_4
          have HC119_4:=Aside0.mk hl119_4
          clear hi119_4 hl119_4
          have HR119_5:=Aside0.mk hi119_5
          have HC119_5:=Aside0.mk hl119_5
          clear hi119_5 hl119_5
          replace p119:=eq_true p119
          replace q119:=eq_true q119
          go_wp2_with (first|((with_reducible refine gate_dst (N:=6) rfl ?_);refine box_event ?hg (N:=6) ?hd (cs:=#[.int .i64 0,.bool false,.string (⟨#[]⟩ : ByteArray),.string (⟨#[]⟩ : ByteArray),.slice none 0 0,.slice none 0 0]) (t:=25) ?hr ?_;(case hd=>rfl);(case hg=>rfl);(case hr=>first|(go_simp;done)|(go_simp;rfl));intro gb120 hg w26 hbox hb;have n0_:=Aside0.mk (blk_below (g:=gb116) (o:=.cells #[.int .i64 a0_0,.bool a0_1,.string a0_2,.string a0_3,.slice A0_4 l0_4.length c0_4,.slice (some ad119) l0_5.length c0_5] 25 (0,0)) (by (with_reducible repeat (first|refine blk_drewN ?_ _|refine blk_drew ?_|refine blk_alloc ?_ _));exact BK116.out) hb);have n1_:=Aside0.mk (below_step (by repeat (first|(with_reducible first|exact HB.out|apply below_alloc|apply pw_below_drewN|apply below_drew1|refine below_set ?_ GE116.out)|exact HB.out)) hb);have n2_:=Aside0.mk (hbox);have n3_:=Aside0.mk ((by rw [hg];exact (below_size (by repeat (first|(with_reducible first|exact HB.out|apply below_alloc|apply pw_below_drewN|apply below_drew1|refine below_set ?_ GE116.out)|exact HB.out))) : w.heap.size ≤ gb120));have n4_:=Aside0.mk ((by rw [hg];exact (below_size (by repeat (first|(with_reducible first|exact HB.out|apply below_alloc|apply pw_below_drewN|apply below_drew1|refine below_set ?_ GE116.out)|exact HB.out))) : w.heap.size ≤ gb120));have n5_:=Aside0.mk ((by rw [hg];exact Nat.ne_of_lt (blk_lt (g:=gb116) (o:=.cells #[.int .i64 a0_0,.bool a0_1,.string a0_2,.string a0_3,.slice A0_4 l0_4.length c0_4,.slice (some ad119) l0_5.length c0_5] 25 (0,0)) (by (with_reducible repeat (first|refine blk_drewN ?_ _|refine blk_drew ?_|refine blk_alloc ?_ _));exact BK116.out)) : gb116 ≠ gb120));have n6_:=Aside0.mk ((by rw [hg];exact Nat.ne_of_gt (blk_lt (g:=gb116) (o:=.cells #[.int .i64 a0_0,.bool a0_1,.string a0_2,.string a0_3,.slice A0_4 l0_4.length c0_4,.slice (some ad119) l0_5.length c0_5] 25 (0,0)) (by (with_reducible repeat (first|refine blk_drewN ?_ _|refine blk_drew ?_|refine blk_alloc ?_ _));exact BK116.out)) : gb120 ≠ gb116));clear BK116;clear HB;have BK116:=n0_;have HB:=n1_;have BK120:=n2_;have GW120:=n3_;have GE120:=n4_;have NB116_120:=n5_;have NB120_116:=n6_;clear n0_ n1_ n2_ n3_ n4_ n5_ n6_;clear hb hbox hg;have hnb27:=NB120_116.out;have hnc27:=NB116_120.out;have hcz28_0 : w26.cell? ⟨gb120,0,none⟩ = some (.int .i64 0):=(blk_cell BK120.out 0).trans rfl;have hcz28_1 : w26.cell? ⟨gb120,1,none⟩ = some (.bool false):=(blk_cell BK120.out 1).trans rfl;have hcz28_2 : w26.cell? ⟨gb120,2,none⟩ = some (.string (⟨#[]⟩ : ByteArray)):=(blk_cell BK120.out 2).trans rfl;have hcz28_3 : w26.cell? ⟨gb120,3,none⟩ = some (.string (⟨#[]⟩ : ByteArray)):=(blk_cell BK120.out 3).trans rfl;have hcz28_4 : w26.cell? ⟨gb120,4,none⟩ = some (.slice none 0 0):=(blk_cell BK120.out 4).trans rfl;have hcz28_5 : w26.cell? ⟨gb120,5,none⟩ = some (.slice none 0 0):=(blk_cell BK120.out 5).trans rfl;have hfz28_0:=blk_frozen BK120.out 0;have hfz28_1:=blk_frozen BK120.out 1;have hfz28_2:=blk_frozen BK120.out 2;have hfz28_3:=blk_frozen BK120.out 3;have hfz28_4:=blk_frozen BK120.out 4;have hfz28_5:=blk_frozen BK120.out 5)|((with_reducible refine gate_callee (f:=17) rfl ?_);refine goesL_ (some 28) rfl rfl Tryd.func17 (by kernel_rfl) rfl #[.agg #[.int .i64 ((rd_T25 l0_5 x21_2).f0),.bool ((rd_T25 l0_5 x21_2).f1),.string ((rd_T25 l0_5 x21_2).f2),.string ((rd_T25 l0_5 x21_2).f3),.slice A119_4 ((rd_T25 l0_5 x21_2).f4).length c119_4,.slice A119_5 ((rd_T25 l0_5 x21_2).f5).length c119_5],.int .i64 (wrap64 (a1 - 1))] rfl (by (try simp only [List.map_toArray,List.map_cons,List.map_nil]);first|done|rfl|(simp only [List.length_drop,List.length_take];rfl)) ?_;(with_reducible refine (ih k2 (by have:=HJ2.out;have:=HK2.out;omega) ((rd_T25 l0_5 x21_2).f0) ((rd_T25 l0_5 x21_2).f1) ((rd_T25 l0_5 x21_2).f2) ((rd_T25 l0_5 x21_2).f3) _ _ ((rd_T25 l0_5 x21_2).f4) _ _ ((rd_T25 l0_5 x21_2).f5) (wrap64 (a1 - 1)) true _ ?side1 ?side2 ?side3 ?side4 A24.out).mono ?_);(case side1=>exact Kd.C_below HR119_4.out (by repeat (first|(with_reducible first|exact HB.out|apply below_alloc|apply pw_below_drewN|apply below_drew1|refine below_set ?_ GE116.out|refine below_set ?_ GE120.out)|exact HB.out)));(case side2=>exact HC119_4.out);(case side3=>exact Kd.C_below HR119_5.out (by repeat (first|(with_reducible first|exact HB.out|apply below_alloc|apply pw_below_drewN|apply below_drew1|refine below_set ?_ GE116.out|refine below_set ?_ GE120.out)|exact HB.out)));(case side4=>exact HC119_5.out);rintro e w29 ⟨rfl,hb⟩;refine ⟨_,rfl,?_⟩;have n0_:=Aside0.mk (blk_below (g:=gb116) (o:=.cells #[.int .i64 a0_0,.bool a0_1,.string a0_2,.string a0_3,.slice A0_4 l0_4.length c0_4,.slice (some ad119) l0_5.length c0_5] 25 (0,0)) (by (with_reducible repeat (first|refine blk_drewN ?_ _|refine blk_drew ?_|refine blk_alloc ?_ _));refine blk_far ?_ NB116_120.out _;(with_reducible repeat (first|refine blk_drewN ?_ _|refine blk_drew ?_|refine blk_alloc ?_ _));refine blk_far ?_ NB116_120.out _;(with_reducible repeat (first|refine blk_drewN ?_ _|refine blk_drew ?_|refine blk_alloc ?_ _));refine blk_far ?_ NB116_120.out _;(with_reducible repeat (first|refine blk_drewN ?_ _|refine blk_drew ?_|refine blk_alloc ?_ _));refine blk_far ?_ NB116_120.out _;(with_reducible repeat (first|refine blk_drewN ?_ _|refine blk_drew ?_|refine blk_alloc ?_ _));refine blk_far ?_ NB116_120.out _;(with_reducible repeat (first|refine blk_drewN ?_ _|refine blk_drew ?_|refine blk_alloc ?_ _));refine blk_far ?_ NB116_120.out _;(with_reducible repeat (first|refine blk_drewN ?_ _|refine blk_drew ?_|refine blk_alloc ?_ _));exact BK116.out) hb);have n1_:=Aside0.mk (blk_below (g:=gb120) (o:=.cells #[.int .i64 ((rd_T25 l0_5 x21_2).f0),.bool ((rd_T25 l0_5 x21_2).f1),.string ((rd_T25 l0_5 x21_2).f2),.string ((rd_T25 l0_5 x21_2).f3),.slice A119_4 ((rd_T25 l0_5 x21_2).f4).length c119_4,.slice A119_5 ((rd_T25 l0_5 x21_2).f5).length c119_5] 25 (0,0)) (by (with_reducible repeat (first|refine blk_drewN ?_ _|refine blk_drew ?_|refine blk_alloc ?_ _));refine blk_put (cs:=#[.int .i64 ((rd_T25 l0_5 x21_2).f0),.bool ((rd_T25 l0_5 x21_2).f1),.string ((rd_T25 l0_5 x21_2).f2),.string ((rd_T25 l0_5 x21_2).f3),.slice A119_4 ((rd_T25 l0_5 x21_2).f4).length c119_4,.slice none 0 0]) ?_ 5 _ (by first|rfl|(simp only [px_pos,px_ne];rfl)|simp [px_pos,px_ne]);(with_reducible repeat (first|refine blk_drewN ?_ _|refine blk_drew ?_|refine blk_alloc ?_ _));refine blk_put (cs:=#[.int .i64 ((rd_T25 l0_5 x21_2).f0),.bool ((rd_T25 l0_5 x21_2).f1),.string ((rd_T25 l0_5 x21_2).f2),.string ((rd_T25 l0_5 x21_2).f3),.slice none 0 0,.slice none 0 0]) ?_ 4 _ (by first|rfl|(simp only [px_pos,px_ne];rfl)|simp [px_pos,px_ne]);(with_reducible repeat (first|refine blk_drewN ?_ _|refine blk_drew ?_|refine blk_alloc ?_ _));refine blk_put (cs:=#[.int .i64 ((rd_T25 l0_5 x21_2).f0),.bool ((rd_T25 l0_5 x21_2).f1),.string ((rd_T25 l0_5 x21_2).f2),.string (⟨#[]⟩ : ByteArray),.slice none 0 0,.slice none 0 0]) ?_ 3 _ (by first|rfl|(simp only [px_pos,px_ne];rfl)|simp [px_pos,px_ne]);(with_reducible repeat (first|refine blk_drewN ?_ _|refine blk_drew ?_|refine blk_alloc ?_ _));refine blk_put (cs:=#[.int .i64 ((rd_T25 l0_5 x21_2).f0),.bool ((rd_T25 l0_5 x21_2).f1),.string (⟨#[]⟩ : ByteArray),.string (⟨#[]⟩ : ByteArray),.slice none 0 0,.slice none 0 0]) ?_ 2 _ (by first|rfl|(simp only [px_pos,px_ne];rfl)|simp [px_pos,px_ne]);(with_reducible repeat (first|refine blk_drewN ?_ _|refine blk_drew ?_|refine blk_alloc ?_ _));refine blk_put (cs:=#[.int .i64 ((rd_T25 l0_5 x21_2).f0),.bool false,.string (⟨#[]⟩ : ByteArray),.string (⟨#[]⟩ : ByteArray),.slice none 0 0,.slice none 0 0]) ?_ 1 _ (by first|rfl|(simp only [px_pos,px_ne];rfl)|simp [px_pos,px_ne]);(with_reducible repeat (first|refine blk_drewN ?_ _|refine blk_drew ?_|refine blk_alloc ?_ _));refine blk_put (cs:=#[.int .i64 0,.bool false,.string (⟨#[]⟩ : ByteArray),.string (⟨#[]⟩ : ByteArray),.slice none 0 0,.slice none 0 0]) ?_ 0 _ (by first|rfl|(simp only [px_pos,px_ne];rfl)|simp [px_pos,px_ne]);(with_reducible repeat (first|refine blk_drewN ?_ _|refine blk_drew ?_|refine blk_alloc ?_ _));exact BK120.out) hb);have n2_:=Aside0.mk (below_step (by repeat (first|(with_reducible first|exact HB.out|apply below_alloc|apply pw_below_drewN|apply below_drew1|refine below_set ?_ GE116.out|refine below_set ?_ GE120.out)|exact HB.out)) hb);clear BK116;clear BK120;clear HB;have BK116:=n0_;have BK120:=n1_;have HB:=n2_;clear n0_ n1_ n2_;(try clear hb);(try clear hb2);(try clear hk);(try clear hi)))
          go_roundg k2
          case measure=>have:=HJ2.out;have:=HK2.out;omega
          case rel=>exact ⟨(wrap64 (x21_2 + 1)),(by first|rfl|(simp;done)|(simp [*];done)),(by first|exact H'|(subst_vars;exact H')),⟨by have:=HJ2.out;have:=HK2.out;omega⟩,⟨by (with_reducible repeat (first|refine blk_drewN ?_ _|refine blk_drew ?_|refine blk_alloc ?_ _));exact BK116.out⟩,⟨by repeat (first|(with_reducible first|exact HB.out|apply below_alloc|apply pw_below_drewN|apply below_drew1|refine below_set ?_ GE116.out|refine below_set ?_ GE120.out)|exact HB.out)⟩⟩
         ·replace c25:=Bool.eq_false_iff.mpr c25
          subst c25
          have H1 : (some false) = some r:=by rw [if_neg (show ¬ (false = true) by decide)] at H;exact H
          clear H
          have H:=H1
          clear H1
          obtain rfl:=Option.some.inj H
          have p119 : 0 ≤ (x21_2 : Int):=of_decide_eq_true (by first|(with_reducible assumption)|assumption)
          have q119 : x21_2 < (l0_5.length : Int):=of_decide_eq_true (by first|(with_reducible assumption)|assumption)
          obtain ⟨ad119,A119_4,c119_4,A119_5,c119_5,e119,hx119_0,hx119_1,hx119_2,hx119_3,hx119_4,hx119_5,hl119_4,hi119_4,hl119_5,hi119_5⟩:=at_T25 HR0_5.out x21_2 p119 q119
          cases e119
          replace hx119_0:=(HB.out.cell (World.block_lt_of_cell? w _ hx119_0)).trans hx119_0
          replace hx119_1:=(HB.out.cell (World.block_lt_of_cell? w _ hx119_1)).trans hx119_1
          replace hx119_2:=(HB.out.cell (World.block_lt_of_cell? w _ hx119_2)).trans hx119_2
          replace hx119_3:=(HB.out.cell (World.block_lt_of_cell? w _ hx119_3)).trans hx119_3
          replace hx119_4:=(HB.out.cell (World.block_lt_of_cell? w _ hx119_4)).trans hx119_4
          replace hx119_5:=(HB.out.cell (World.block_lt_of_cell? w _ hx119_5)).trans hx119_5
          have HR119_4:=Aside0.mk hi119_4
          have HC119_4:=Aside0.mk hl119_4
          clear hi119_4 hl119_4
          have HR119_5:=Aside0.mk hi119_5
          have HC119_5:=Aside0.mk hl119_5
          clear hi119_5 hl119_5
          replace p119:=eq_true p119
          replace q119:=eq_true q119
          go_wp2_with (first|((with_reducible refine gate_dst (N:=6) rfl ?_);refine box_event ?hg (N:=6) ?hd (cs:=#[.int .i64 0,.bool false,.string (⟨#[]⟩ : ByteArray),.string (⟨#[]⟩ : ByteArray),.slice none 0 0,.slice none 0 0]) (t:=25) ?hr ?_;(case hd=>rfl);(case hg=>rfl);(case hr=>first|(go_simp;done)|(go_simp;rfl));intro gb120 hg w30 hbox hb;have n0_:=Aside0.mk (blk_below (g:=gb116) (o:=.cells #[.int .i64 a0_0,.bool a0_1,.string a0_2,.string a0_3,.slice A0_4 l0_4.length c0_4,.slice (some ad119) l0_5.length c0_5] 25 (0,0)) (by (with_reducible repeat (first|refine blk_drewN ?_ _|refine blk_drew ?_|refine blk_alloc ?_ _));exact BK116.out) hb);have n1_:=Aside0.mk (below_step (by repeat (first|(with_reducible first|exact HB.out|apply below_alloc|apply pw_below_drewN|apply below_drew1|refine below_set ?_ GE116.out)|exact HB.out)) hb);have n2_:=Aside0.mk (hbox);have n3_:=Aside0.mk ((by rw [hg];exact (below_size (by repeat (first|(with_reducible first|exact HB.out|apply below_alloc|apply pw_below_drewN|apply below_drew1|refine below_set ?_ GE116.out)|exact HB.out))) : w.heap.size ≤ gb120));have n4_:=Aside0.mk ((by rw [hg];exact (below_size (by repeat (first|(with_reducible first|exact HB.out|apply below_alloc|apply pw_below_drewN|apply below_drew1|refine below_set ?_ GE116.out)|exact HB.out))) : w.heap.size ≤ gb120));have n5_:=Aside0.mk ((by rw [hg];exact Nat.ne_of_lt (blk_lt (g:=gb116) (o:=.cells #[.int .i64 a0_0,.bool a0_1,.string a0_2,.string a0_3,.slice A0_4 l0_4.length c0_4,.slice (some ad119) l0_5.length c0_5] 25 (0,0)) (by (with_reducible repeat (first|refine blk_drewN ?_ _|refine blk_drew ?_|refine blk_alloc ?_ _));exact BK116.out)) : gb116 ≠ gb120));have n6_:=Aside0.mk ((by rw [hg];exact Nat.ne_of_gt (blk_lt (g:=gb116) (o:=.cells #[.int .i64 a0_0,.bool a0_1,.string a0_2,.string a0_3,.slice A0_4 l0_4.length c0_4,.slice (some ad119) l0_5.length c0_5] 25 (0,0)) (by (with_reducible repeat (first|refine blk_drewN ?_ _|refine blk_drew ?_|refine blk_alloc ?_ _));exact BK116.out)) : gb120 ≠ gb116));clear BK116;clear HB;have BK116:=n0_;have HB:=n1_;have BK120:=n2_;have GW120:=n3_;have GE120:=n4_;have NB116_120:=n5_;have NB120_116:=n6_;clear n0_ n1_ n2_ n3_ n4_ n5_ n6_;clear hb hbox hg;have hnb31:=NB120_116.out;have hnc31:=NB116_120.out;have hcz32_0 : w30.cell? ⟨gb120,0,none⟩ = some (.int .i64 0):=(blk_cell BK120.out 0).trans rfl;have hcz32_1 : w30.cell? ⟨gb120,1,none⟩ = some (.bool false):=(blk_cell BK120.out 1).trans rfl;have hcz32_2 : w30.cell? ⟨gb120,2,none⟩ = some (.string (⟨#[]⟩ : ByteArray)):=(blk_cell BK120.out 2).trans rfl;have hcz32_3 : w30.cell? ⟨gb120,3,none⟩ = some (.string (⟨#[]⟩ : ByteArray)):=(blk_cell BK120.out 3).trans rfl;have hcz32_4 : w30.cell? ⟨gb120,4,none⟩ = some (.slice none 0 0):=(blk_cell BK120.out 4).trans rfl;have hcz32_5 : w30.cell? ⟨gb120,5,none⟩ = some (.slice none 0 0):=(blk_cell BK120.out 5).trans rfl;have hfz32_0:=blk_frozen BK120.out 0;have hfz32_1:=blk_frozen BK120.out 1;have hfz32_2:=blk_frozen BK120.out 2;have hfz32_3:=blk_frozen BK120.out 3;have hfz32_4:=blk_frozen BK120.out 4;have hfz32_5:=blk_frozen BK120.out 5)|((with_reducible refine gate_callee (f:=17) rfl ?_);refine goesL_ (some 28) rfl rfl Tryd.func17 (by kernel_rfl) rfl #[.agg #[.int .i64 ((rd_T25 l0_5 x21_2).f0),.bool ((rd_T25 l0_5 x21_2).f1),.string ((rd_T25 l0_5 x21_2).f2),.string ((rd_T25 l0_5 x21_2).f3),.slice A119_4 ((rd_T25 l0_5 x21_2).f4).length c119_4,.slice A119_5 ((rd_T25 l0_5 x21_2).f5).length c119_5],.int .i64 (wrap64 (a1 - 1))] rfl (by (try simp only [List.map_toArray,List.map_cons,List.map_nil]);first|done|rfl|(simp only [List.length_drop,List.length_take];rfl)) ?_;(with_reducible refine (ih k2 (by have:=HJ2.out;have:=HK2.out;omega) ((rd_T25 l0_5 x21_2).f0) ((rd_T25 l0_5 x21_2).f1) ((rd_T25 l0_5 x21_2).f2) ((rd_T25 l0_5 x21_2).f3) _ _ ((rd_T25 l0_5 x21_2).f4) _ _ ((rd_T25 l0_5 x21_2).f5) (wrap64 (a1 - 1)) false _ ?side1 ?side2 ?side3 ?side4 A24.out).mono ?_);(case side1=>exact Kd.C_below HR119_4.out (by repeat (first|(with_reducible first|exact HB.out|apply below_alloc|apply pw_below_drewN|apply below_drew1|refine below_set ?_ GE116.out|refine below_set ?_ GE120.out)|exact HB.out)));(case side2=>exact HC119_4.out);(case side3=>exact Kd.C_below HR119_5.out (by repeat (first|(with_reducible first|exact HB.out|apply below_alloc|apply pw_below_drewN|apply below_drew1|refine below_set ?_ GE116.out|refine below_set ?_ GE120.out)|exact HB.out)));(case side4=>exact HC119_5.out);rintro e w33 ⟨rfl,hb⟩;refine ⟨_,rfl,?_⟩;have n0_:=Aside0.mk (blk_below (g:=gb116) (o:=.cells #[.int .i64 a0_0,.bool a0_1,.string a0_2,.string a0_3,.slice A0_4 l0_4.length c0_4,.slice (some ad119) l0_5.length c0_5] 25 (0,0)) (by (with_reducible repeat (first|refine blk_drewN ?_ _|refine blk_drew ?_|refine blk_alloc ?_ _));refine blk_far ?_ NB116_120.out _;(with_reducible repeat (first|refine blk_drewN ?_ _|refine blk_drew ?_|refine blk_alloc ?_ _));refine blk_far ?_ NB116_120.out _;(with_reducible repeat (first|refine blk_drewN ?_ _|refine blk_drew ?_|refine blk_alloc ?_ _));refine blk_far ?_ NB116_120.out _;(with_reducible repeat (first|refine blk_drewN ?_ _|refine blk_drew ?_|refine blk_alloc ?_ _));refine blk_far ?_ NB116_120.out _;(with_reducible repeat (first|refine blk_drewN ?_ _|refine blk_drew ?_|refine blk_alloc ?_ _));refine blk_far ?_ NB116_120.out _;(with_reducible repeat (first|refine blk_drewN ?_ _|refine blk_drew ?_|refine blk_alloc ?_ _));refine blk_far ?_ NB116_120.out _;(with_reducible repeat (first|refine blk_drewN ?_ _|refine blk_drew ?_|refine blk_alloc ?_ _));exact BK116.out) hb);have n1_:=Aside0.mk (blk_below (g:=gb120) (o:=.cells #[.int .i64 ((rd_T25 l0_5 x21_2).f0),.bool ((rd_T25 l0_5 x21_2).f1),.string ((rd_T25 l0_5 x21_2).f2),.string ((rd_T25 l0_5 x21_2).f3),.slice A119_4 ((rd_T25 l0_5 x21_2).f4).length c119_4,.slice A119_5 ((rd_T25 l0_5 x21_2).f5).length c119_5] 25 (0,0)) (by (with_reducible repeat (first|refine blk_drewN ?_ _|refine blk_drew ?_|refine blk_alloc ?_ _));refine blk_put (cs:=#[.int .i64 ((rd_T25 l0_5 x21_2).f0),.bool ((rd_T25 l0_5 x21_2).f1),.string ((rd_T25 l0_5 x21_2).f2),.string ((rd_T25 l0_5 x21_2).f3),.slice A119_4 ((rd_T25 l0_5 x21_2).f4).length c119_4,.slice none 0 0]) ?_ 5 _ (by first|rfl|(simp only [px_pos,px_ne];rfl)|simp [px_pos,px_ne]);(with_reducible repeat (first|refine blk_drewN ?_ _|refine blk_drew ?_|refine blk_alloc ?_ _));refine blk_put (cs:=#[.int .i64 ((rd_T25 l0_5 x21_2).f0),.bool ((rd_T25 l0_5 x21_2).f1),.string ((rd_T25 l0_5 x21_2).f2),.string ((rd_T25 l0_5 x21_2).f3),.slice none 0 0,.slice none 0 0]) ?_ 4 _ (by first|rfl|(simp only [px_pos,px_ne];rfl)|simp [px_pos,px_ne]);(with_reducible repeat (first|refine blk_drewN ?_ _|refine blk_drew ?_|refine blk_alloc ?_ _));refine blk_put (cs:=#[.int .i64 ((rd_T25 l0_5 x21_2).f0),.bool ((rd_T25 l0_5 x21_2).f1),.string ((rd_T25 l0_5 x21_2).f2),.string (⟨#[]⟩ : ByteArray),.slice none 0 0,.slice none 0 0]) ?_ 3 _ (by first|rfl|(simp only [px_pos,px_ne];rfl)|simp [px_pos,px_ne]);(with_reducible repeat (first|refine blk_drewN ?_ _|refine blk_drew ?_|refine blk_alloc ?_ _));refine blk_put (cs:=#[.int .i64 ((rd_T25 l0_5 x21_2).f0),.bool ((rd_T25 l0_5 x21_2).f1),.string (⟨#[]⟩ : ByteArray),.string (⟨#[]⟩ : ByteArray),.slice none 0 0,.slice none 0 0]) ?_ 2 _ (by first|rfl|(simp only [px_pos,px_ne];rfl)|simp [px_pos,px_ne]);(with_reducible repeat (first|refine blk_drewN ?_ _|refine blk_drew ?_|refine blk_alloc ?_ _));refine blk_put (cs:=#[.int .i64 ((rd_T25 l0_5 x21_2).f0),.bool false,.string (⟨#[]⟩ : ByteArray),.string (⟨#[]⟩ : ByteArray),.slice none 0 0,.slice none 0 0]) ?_ 1 _ (by first|rfl|(simp only [px_pos,px_ne];rfl)|simp [px_pos,px_ne]);(with_reducible repeat (first|refine blk_drewN ?_ _|refine blk_drew ?_|refine blk_alloc ?_ _));refine blk_put (cs:=#[.int .i64 0,.bool false,.string (⟨#[]⟩ : ByteArray),.string (⟨#[]⟩ : ByteArray),.slice none 0 0,.slice none 0 0]) ?_ 0 _ (by first|rfl|(simp only [px_pos,px_ne];rfl)|simp [px_pos,px_ne]);(with_reducible repeat (first|refine blk_drewN ?_ _|refine blk_drew ?_|refine blk_alloc ?_ _));exact BK120.out) hb);have n2_:=Aside0.mk (below_step (by repeat (first|(with_reducible first|exact HB.out|apply below_alloc|apply pw_below_drewN|apply below_drew1|refine below_set ?_ GE116.out|refine below_set ?_ GE120.out)|exact HB.out)) hb);clear BK116;clear BK120;clear HB;have BK116:=n0_;have BK120:=n1_;have HB:=n2_;clear n0_ n1_ n2_;(try clear hb);(try clear hb2);(try clear hk);(try clear hi)))
          go_ret
          exact ⟨by first|rfl|(simp [errW_none,errW_some] <;> rfl)|(simp [*,errW_none,errW_some] <;> rfl),by repeat (first|(with_reducible first|exact HB.out|apply below_alloc|apply pw_below_drewN|apply below_drew1|refine below_set ?_ GE116.out|refine below_set ?_ GE120.out)|exact HB.out)⟩
        ·rw [if_neg c23] at H
         exact absurd H (by simp)
       ·rw [if_neg c22] at H
        exact absurd H (by simp)
      ·rw [if_neg c21] at H
       have c21b0 : decide (x21_2 < (l0_5.length : Int)) = false:=decide_eq_false c21
       clear c21
       obtain rfl:=Option.some.inj H
       go_wp2
       go_ret
       exact ⟨by first|rfl|(simp [errW_none,errW_some] <;> rfl)|(simp [*,errW_none,errW_some] <;> rfl),by repeat (first|(with_reducible first|exact HB.out|apply below_alloc|apply pw_below_drewN|apply below_drew1|refine below_set ?_ GE116.out)|exact HB.out)⟩
def tree_Formed.f (k : Nat) (a0_0 : Int) (a0_1 : Bool) (a0_2 : ByteArray) (a0_3 : ByteArray) (l0_4 : List ByteArray) (l0_5 : List (S25)) : Option (Bool):=(tree_formed.f k a0_0 a0_1 a0_2 a0_3 l0_4 l0_5 1024).bind fun t123=>(some t123)
theorem tree_Formed.mono : ∀ a0 a1 a2 a3 a4 a5 k,LeO (tree_Formed.f k a0 a1 a2 a3 a4 a5) (tree_Formed.f (k + 1) a0 a1 a2 a3 a4 a5):=by
 intro a0 a1 a2 a3 a4 a5 k
 unfold tree_Formed.f
 repeat' first
   | (with_reducible exact tree_formed.mono _ _ _ _ _ _ _ _)
   | (with_reducible exact LeO.refl _)
   | (with_reducible exact LeO.none _)
   | (with_reducible refine LeO.ite ?_ ?_)
   | (with_reducible refine LeO.bind ?_ (fun _=>?_))
   | exact tree_formed.mono _ _ _ _ _ _ _ _
   | exact LeO.none _
   | refine LeO.ite ?_ ?_
   | refine LeO.bind ?_ (fun _=>?_)
set_option maxHeartbeats 8000000 in
set_option maxRecDepth 100000 in
theorem tree_Formed.calls (k : Nat) (a0_0 : Int) (a0_1 : Bool) (a0_2 : ByteArray) (a0_3 : ByteArray) (A0_4 : Option Addr) (c0_4 : Nat) (l0_4 : List ByteArray) (A0_5 : Option Addr) (c0_5 : Nat) (l0_5 : List (S25)) (r : Bool) (w : World) (hr0_4 : Kd.C Kd.string w A0_4 l0_4.length l0_4) (hc0_4 : l0_4.length ≤ c0_4) (hr0_5 : Kd.C k25 w A0_5 l0_5.length l0_5) (hc0_5 : l0_5.length ≤ c0_5) (h : tree_Formed.f k a0_0 a0_1 a0_2 a0_3 l0_4 l0_5 = some r) :
  Calls Tryd.prog 5 #[.agg #[.int .i64 a0_0,.bool a0_1,.string a0_2,.string a0_3,.slice A0_4 l0_4.length c0_4,.slice A0_5 l0_5.length c0_5]] w fun e w'=>e = .returned (.bool r) ∧ Below w.heap.size w w':=by
 have hu25:=Tryd.underlying25
 have HR0_4:=Aside0.mk hr0_4
 have HC0_4:=Aside0.mk hc0_4
 clear hr0_4 hc0_4
 have HR0_5:=Aside0.mk hr0_5
 have HC0_5:=Aside0.mk hc0_5
 clear hr0_5 hc0_5
 have HB:=Aside0.mk (Below.refl w.heap.size w)
 have H : ((tree_formed.f k a0_0 a0_1 a0_2 a0_3 l0_4 l0_5 1024).bind fun t123=>(some t123)) = some r:=h
 clear h
 replace H:=Option.bind_eq_some_iff.mp H
 obtain ⟨t123,A20,H⟩:=H
 replace H : (some t123) = some r:=H
 have A2:=Aside0.mk A20
 clear A20
 obtain rfl:=Option.some.inj H
 go_enter Tryd.func5,Tryd.ntmps5
 go_wp2_with (first|((with_reducible refine gate_dst (N:=1) rfl ?_);refine box_event ?hg (N:=1) ?hd (cs:=#[.int .i64 a0_0,.bool a0_1,.string a0_2,.string a0_3,.slice A0_4 l0_4.length c0_4,.slice A0_5 l0_5.length c0_5]) (t:=25) ?hr ?_;(case hd=>rfl);(case hg=>rfl);(case hr=>first|(go_simp;done)|(go_simp;rfl));intro gb122 hg w3 hbox hb;have n0_:=Aside0.mk (below_step (by repeat (first|(with_reducible first|exact HB.out|apply below_alloc|apply pw_below_drewN|apply below_drew1)|exact HB.out)) hb);have n1_:=Aside0.mk (hbox);have n2_:=Aside0.mk ((by rw [hg];exact (below_size (by repeat (first|(with_reducible first|exact HB.out|apply below_alloc|apply pw_below_drewN|apply below_drew1)|exact HB.out))) : w.heap.size ≤ gb122));have n3_:=Aside0.mk ((by rw [hg];exact (below_size (by repeat (first|(with_reducible first|exact HB.out|apply below_alloc|apply pw_below_drewN|apply below_drew1)|exact HB.out))) : w.heap.size ≤ gb122));clear HB;have HB:=n0_;have BK122:=n1_;have GW122:=n2_;have GE122:=n3_;clear n0_ n1_ n2_ n3_;clear hb hbox hg;have hcz4_0 : w3.cell? ⟨gb122,0,none⟩ = some (.int .i64 a0_0):=(blk_cell BK122.out 0).trans rfl;have hcz4_1 : w3.cell? ⟨gb122,1,none⟩ = some (.bool a0_1):=(blk_cell BK122.out 1).trans rfl;have hcz4_2 : w3.cell? ⟨gb122,2,none⟩ = some (.string a0_2):=(blk_cell BK122.out 2).trans rfl;have hcz4_3 : w3.cell? ⟨gb122,3,none⟩ = some (.string a0_3):=(blk_cell BK122.out 3).trans rfl;have hcz4_4 : w3.cell? ⟨gb122,4,none⟩ = some (.slice A0_4 l0_4.length c0_4):=(blk_cell BK122.out 4).trans rfl;have hcz4_5 : w3.cell? ⟨gb122,5,none⟩ = some (.slice A0_5 l0_5.length c0_5):=(blk_cell BK122.out 5).trans rfl;have hfz4_0:=blk_frozen BK122.out 0;have hfz4_1:=blk_frozen BK122.out 1;have hfz4_2:=blk_frozen BK122.out 2;have hfz4_3:=blk_frozen BK122.out 3;have hfz4_4:=blk_frozen BK122.out 4;have hfz4_5:=blk_frozen BK122.out 5)|((with_reducible refine gate_callee (f:=17) rfl ?_);refine goesL_ (some 4) rfl rfl Tryd.func17 (by kernel_rfl) rfl #[.agg #[.int .i64 a0_0,.bool a0_1,.string a0_2,.string a0_3,.slice A0_4 l0_4.length c0_4,.slice A0_5 l0_5.length c0_5],.int .i64 1024] rfl (by (try simp only [List.map_toArray,List.map_cons,List.map_nil]);first|done|rfl|(simp only [List.length_drop,List.length_take];rfl)) ?_;(with_reducible refine (tree_formed.calls k a0_0 a0_1 a0_2 a0_3 _ _ l0_4 _ _ l0_5 1024 t123 _ ?side1 ?side2 ?side3 ?side4 A2.out).mono ?_);(case side1=>repeat (first|exact (Kd.C_below HR0_4.out HB.out)|(with_reducible refine Kd.C_alloc ?_ _)|(with_reducible refine Kd.C_drewN ?_ _)|(with_reducible refine Kd.C_drew ?_)));(case side2=>exact HC0_4.out);(case side3=>repeat (first|exact (Kd.C_below HR0_5.out HB.out)|(with_reducible refine Kd.C_alloc ?_ _)|(with_reducible refine Kd.C_drewN ?_ _)|(with_reducible refine Kd.C_drew ?_)));(case side4=>exact HC0_5.out);rintro e w5 ⟨rfl,hb⟩;refine ⟨_,rfl,?_⟩;have n0_:=Aside0.mk (blk_below (g:=gb122) (o:=.cells #[.int .i64 a0_0,.bool a0_1,.string a0_2,.string a0_3,.slice A0_4 l0_4.length c0_4,.slice A0_5 l0_5.length c0_5] 25 (0,0)) (by (with_reducible repeat (first|refine blk_drewN ?_ _|refine blk_drew ?_|refine blk_alloc ?_ _));exact BK122.out) hb);have n1_:=Aside0.mk (below_step (by repeat (first|(with_reducible first|exact HB.out|apply below_alloc|apply pw_below_drewN|apply below_drew1|refine below_set ?_ GE122.out)|exact HB.out)) hb);clear BK122;clear HB;have BK122:=n0_;have HB:=n1_;clear n0_ n1_;(try clear hb);(try clear hb2);(try clear hk);(try clear hi)))
 go_ret
 exact ⟨by first|rfl|(simp [errW_none,errW_some] <;> rfl)|(simp [*,errW_none,errW_some] <;> rfl),by repeat (first|(with_reducible first|exact HB.out|apply below_alloc|apply pw_below_drewN|apply below_drew1|refine below_set ?_ GE122.out)|exact HB.out)⟩
def quarrylaw17_smallValue.f  : Option (Int × Bool × ByteArray × ByteArray × List ByteArray × (List (S25))):=some (6,false,(⟨#[]⟩ : ByteArray),(⟨#[]⟩ : ByteArray),(([(⟨#[97]⟩ : ByteArray),(⟨#[98]⟩ : ByteArray)] : List ByteArray)),(([(⟨5,false,(⟨#[]⟩ : ByteArray),(⟨#[]⟩ : ByteArray),([] : List ByteArray),(([(⟨3,false,(⟨#[49,46,48]⟩ : ByteArray),(⟨#[]⟩ : ByteArray),([] : List ByteArray),([] : List (S25))⟩ : S25),(⟨2,true,(⟨#[]⟩ : ByteArray),(⟨#[]⟩ : ByteArray),([] : List ByteArray),([] : List (S25))⟩ : S25)] : List (S25)))⟩ : S25),(⟨1,false,(⟨#[]⟩ : ByteArray),(⟨#[]⟩ : ByteArray),([] : List ByteArray),([] : List (S25))⟩ : S25)] : List (S25))))
set_option maxHeartbeats 8000000 in
set_option maxRecDepth 100000 in
theorem quarrylaw17_smallValue.calls  (r1 : Int) (r2 : Bool) (r3 : ByteArray) (r4 : ByteArray) (r5 : List ByteArray) (r6 : List (S25)) (w : World) (h : quarrylaw17_smallValue.f  = some (r1,r2,r3,r4,r5,r6)) :
  Calls Tryd.prog 6 #[] w fun e w'=>∃ v4_ v5_ : Value,e = .returned (.agg #[.int .i64 r1,.bool r2,.string r3,.string r4,v4_,v5_]) ∧ Kd.R Kd.string 9 w' w.heap.size (fun k_=>(w.heap.size ≤ k_)) v4_ r5 ∧ Kd.N k25 25 w' w.heap.size (fun k_=>(w.heap.size ≤ k_) ∧ some k_ ≠ (v4_ : Value).ownBlock) v5_ r6 ∧ Below w.heap.size w w':=by
 have hu25:=Tryd.underlying25
 have HB:=Aside0.mk (Below.refl w.heap.size w)
 have H : (some (6,false,(⟨#[]⟩ : ByteArray),(⟨#[]⟩ : ByteArray),(([(⟨#[97]⟩ : ByteArray),(⟨#[98]⟩ : ByteArray)] : List ByteArray)),(([(⟨5,false,(⟨#[]⟩ : ByteArray),(⟨#[]⟩ : ByteArray),([] : List ByteArray),(([(⟨3,false,(⟨#[49,46,48]⟩ : ByteArray),(⟨#[]⟩ : ByteArray),([] : List ByteArray),([] : List (S25))⟩ : S25),(⟨2,true,(⟨#[]⟩ : ByteArray),(⟨#[]⟩ : ByteArray),([] : List ByteArray),([] : List (S25))⟩ : S25)] : List (S25)))⟩ : S25),(⟨1,false,(⟨#[]⟩ : ByteArray),(⟨#[]⟩ : ByteArray),([] : List ByteArray),([] : List (S25))⟩ : S25)] : List (S25))))) = some (r1,r2,r3,r4,r5,r6):=h
 clear h
 obtain ⟨y125,hy125⟩ : ∃ y_ : List (S25),y_ = (([(⟨3,false,(⟨#[49,46,48]⟩ : ByteArray),(⟨#[]⟩ : ByteArray),([] : List ByteArray),([] : List (S25))⟩ : S25),(⟨2,true,(⟨#[]⟩ : ByteArray),(⟨#[]⟩ : ByteArray),([] : List ByteArray),([] : List (S25))⟩ : S25)] : List (S25))):=⟨_,rfl⟩
 replace H : (some (6,false,(⟨#[]⟩ : ByteArray),(⟨#[]⟩ : ByteArray),(([(⟨#[97]⟩ : ByteArray),(⟨#[98]⟩ : ByteArray)] : List ByteArray)),(([(⟨5,false,(⟨#[]⟩ : ByteArray),(⟨#[]⟩ : ByteArray),([] : List ByteArray),y125⟩ : S25),(⟨1,false,(⟨#[]⟩ : ByteArray),(⟨#[]⟩ : ByteArray),([] : List ByteArray),([] : List (S25))⟩ : S25)] : List (S25))))) = some (r1,r2,r3,r4,r5,r6):=by first|(rw [hy125];with_reducible exact H)|(have H2_:=(Option.bind_some _ _).symm.trans H;rw [hy125];with_reducible exact H2_)|(have H2_:=(Option.bind_some _ _).symm.trans H;with_reducible exact H2_)|with_reducible exact H|(rw [hy125];exact H)|exact H
 have Ny125:=Aside0.mk hy125
 clear hy125
 obtain ⟨y129,hy129⟩ : ∃ y_ : List ByteArray,y_ = (([(⟨#[97]⟩ : ByteArray),(⟨#[98]⟩ : ByteArray)] : List ByteArray)):=⟨_,rfl⟩
 replace H : (some (6,false,(⟨#[]⟩ : ByteArray),(⟨#[]⟩ : ByteArray),y129,(([(⟨5,false,(⟨#[]⟩ : ByteArray),(⟨#[]⟩ : ByteArray),([] : List ByteArray),y125⟩ : S25),(⟨1,false,(⟨#[]⟩ : ByteArray),(⟨#[]⟩ : ByteArray),([] : List ByteArray),([] : List (S25))⟩ : S25)] : List (S25))))) = some (r1,r2,r3,r4,r5,r6):=by first|(rw [hy129];with_reducible exact H)|(have H2_:=(Option.bind_some _ _).symm.trans H;rw [hy129];with_reducible exact H2_)|(have H2_:=(Option.bind_some _ _).symm.trans H;with_reducible exact H2_)|with_reducible exact H|(rw [hy129];exact H)|exact H
 have Ny129:=Aside0.mk hy129
 clear hy129
 obtain ⟨y132,hy132⟩ : ∃ y_ : List (S25),y_ = (([(⟨5,false,(⟨#[]⟩ : ByteArray),(⟨#[]⟩ : ByteArray),([] : List ByteArray),y125⟩ : S25),(⟨1,false,(⟨#[]⟩ : ByteArray),(⟨#[]⟩ : ByteArray),([] : List ByteArray),([] : List (S25))⟩ : S25)] : List (S25))):=⟨_,rfl⟩
 replace H : (some (6,false,(⟨#[]⟩ : ByteArray),(⟨#[]⟩ : ByteArray),y129,y132)) = some (r1,r2,r3,r4,r5,r6):=by first|(rw [hy132];with_reducible exact H)|(have H2_:=(Option.bind_some _ _).symm.trans H;rw [hy132];with_reducible exact H2_)|(have H2_:=(Option.bind_some _ _).symm.trans H;with_reducible exact H2_)|with_reducible exact H|(rw [hy132];exact H)|exact H
 have Ny132:=Aside0.mk hy132
 clear hy132
 simp only [Option.some.injEq,Prod.mk.injEq] at H
 obtain ⟨rfl,rfl,rfl,rfl,rfl,rfl⟩:=H
 go_enter Tryd.func6,Tryd.ntmps6
 go_wp2_with (first|((with_reducible refine gate_dst (N:=0) rfl ?_);refine box_event ?hg (N:=0) ?hd (cs:=#[.int .i64 0,.bool false,.string (⟨#[]⟩ : ByteArray),.string (⟨#[]⟩ : ByteArray),.slice none 0 0,.slice none 0 0]) (t:=25) ?hr ?_;(case hd=>rfl);(case hg=>rfl);(case hr=>first|(go_simp;done)|(go_simp;rfl));intro gb124 hg w1 hbox hb;have n0_:=Aside0.mk (below_step (by repeat (first|(with_reducible first|exact HB.out|apply below_alloc|apply pw_below_drewN|apply below_drew1)|exact HB.out)) hb);have n1_:=Aside0.mk (hbox);have n2_:=Aside0.mk ((by rw [hg];exact (below_size (by repeat (first|(with_reducible first|exact HB.out|apply below_alloc|apply pw_below_drewN|apply below_drew1)|exact HB.out))) : w.heap.size ≤ gb124));have n3_:=Aside0.mk ((by rw [hg];exact (below_size (by repeat (first|(with_reducible first|exact HB.out|apply below_alloc|apply pw_below_drewN|apply below_drew1)|exact HB.out))) : w.heap.size ≤ gb124));clear HB;have HB:=n0_;have BK124:=n1_;have GW124:=n2_;have GE124:=n3_;clear n0_ n1_ n2_ n3_;clear hb hbox hg)|((with_reducible refine gate_dst (N:=4) rfl ?_);refine Kd.N_lit k25 _ 25 ?hg (N':=4) ?hd (xs:=([(⟨3,false,(⟨#[49,46,48]⟩ : ByteArray),(⟨#[]⟩ : ByteArray),([] : List ByteArray),([] : List (S25))⟩ : S25),(⟨2,true,(⟨#[]⟩ : ByteArray),(⟨#[]⟩ : ByteArray),([] : List ByteArray),([] : List (S25))⟩ : S25)] : List (S25))) (inner:=[.int .i64 3,.bool false,.string (⟨#[49,46,48]⟩ : ByteArray),.string (⟨#[]⟩ : ByteArray),.slice none 0 0,.slice none 0 0,.int .i64 2,.bool true,.string (⟨#[]⟩ : ByteArray),.string (⟨#[]⟩ : ByteArray),.slice none 0 0,.slice none 0 0]) (ok:=(fun k_=>(w.heap.size ≤ k_) ∧ k_ ≠ gb124)) (okp:=(fun k_=>(w.heap.size ≤ k_) ∧ k_ ≠ gb124)) ?hr ?hp (fun _ hk=>hk) ((show ∀ k_,w1.heap.size ≤ k_ → (fun k_=>(w.heap.size ≤ k_) ∧ k_ ≠ gb124) k_ from fun k_ hk=>⟨(Nat.le_trans (below_size (by repeat (first|(with_reducible first|exact HB.out|apply below_alloc|apply pw_below_drewN|apply below_drew1|refine below_set ?_ GE124.out)|exact HB.out))) hk),Kd.freshB (g:=gb124) (o:=.cells #[.int .i64 0,.bool false,.string (⟨#[]⟩ : ByteArray),.string (⟨#[]⟩ : ByteArray),.slice none 0 0,.slice none 0 0] 25 (0,0)) (by (with_reducible repeat (first|refine blk_drewN ?_ _|refine blk_drew ?_|refine blk_alloc ?_ _));exact BK124.out) k_ hk⟩) _ (Nat.le_refl _)) (Below.refl _ _) (Nat.le_refl _) (by simp) ?_;(case hd=>rfl);(case hg=>rfl);(case hr=>first|(go_simp;done)|(go_simp;rfl));(case hp=>exact (Reps.c6 (show Kd.FK k25 _ _ (⟨3,false,(⟨#[49,46,48]⟩ : ByteArray),(⟨#[]⟩ : ByteArray),([] : List ByteArray),([] : List (S25))⟩ : S25) [.int .i64 3,.bool false,.string (⟨#[49,46,48]⟩ : ByteArray),.string (⟨#[]⟩ : ByteArray),.slice none 0 0,.slice none 0 0] from (k25_mkF _ _ (⟨3,false,(⟨#[49,46,48]⟩ : ByteArray),(⟨#[]⟩ : ByteArray),([] : List ByteArray),([] : List (S25))⟩ : S25) (Nat.le_refl _) (Kd.F_nil _ _ _) (Nat.le_refl _) (Kd.F_nil _ _ _))) (Reps.c6 (show Kd.FK k25 _ _ (⟨2,true,(⟨#[]⟩ : ByteArray),(⟨#[]⟩ : ByteArray),([] : List ByteArray),([] : List (S25))⟩ : S25) [.int .i64 2,.bool true,.string (⟨#[]⟩ : ByteArray),.string (⟨#[]⟩ : ByteArray),.slice none 0 0,.slice none 0 0] from (k25_mkF _ _ (⟨2,true,(⟨#[]⟩ : ByteArray),(⟨#[]⟩ : ByteArray),([] : List ByteArray),([] : List (S25))⟩ : S25) (Nat.le_refl _) (Kd.F_nil _ _ _) (Nat.le_refl _) (Kd.F_nil _ _ _))) (Reps.none _ _))));intro v126 w2 ho3 hb hg_ hnew_;clear hg_ hnew_;(first|rw [← Ny125.out] at ho3|(simp only [Int.reduceToNat] at ho3;rw [← Ny125.out] at ho3));have n0_:=Aside0.mk (Kd.N_lower ho3 (below_size (by repeat (first|(with_reducible first|exact HB.out|apply below_alloc|apply pw_below_drewN|apply below_drew1|refine below_set ?_ GE124.out)|exact HB.out))));have n1_:=Aside0.mk (blk_below (g:=gb124) (o:=.cells #[.int .i64 0,.bool false,.string (⟨#[]⟩ : ByteArray),.string (⟨#[]⟩ : ByteArray),.slice none 0 0,.slice none 0 0] 25 (0,0)) (by (with_reducible repeat (first|refine blk_drewN ?_ _|refine blk_drew ?_|refine blk_alloc ?_ _));exact BK124.out) hb);have n2_:=Aside0.mk (below_step (by repeat (first|(with_reducible first|exact HB.out|apply below_alloc|apply pw_below_drewN|apply below_drew1|refine below_set ?_ GE124.out)|exact HB.out)) hb);clear BK124;clear HB;have HO127:=n0_;have BK124:=n1_;have HB:=n2_;clear n0_ n1_ n2_;clear hb ho3;obtain ⟨Ao4,co4,eo4⟩:=Kd.N_slice HO127.out;subst eo4)|((with_reducible refine gate_dst (N:=1) rfl ?_);refine box_event ?hg (N:=1) ?hd (cs:=#[.int .i64 0,.bool false,.string (⟨#[]⟩ : ByteArray),.string (⟨#[]⟩ : ByteArray),.slice none 0 0,.slice none 0 0]) (t:=25) ?hr ?_;(case hd=>rfl);(case hg=>rfl);(case hr=>first|(go_simp;done)|(go_simp;rfl));intro gb128 hg w5 hbox hb;have n0_:=Aside0.mk (Kd.N_below (Kd.N_elderB (by (with_reducible repeat (first|apply Kd.N_alloc|apply Kd.N_drewN|apply Kd.N_drew));exact HO127.out) gb128 (Nat.le_of_eq hg.symm)) hb);have n1_:=Aside0.mk (blk_below (g:=gb124) (o:=.cells #[.int .i64 0,.bool false,.string (⟨#[]⟩ : ByteArray),.string (⟨#[]⟩ : ByteArray),.slice none 0 0,.slice none 0 0] 25 (0,0)) (by (with_reducible repeat (first|refine blk_drewN ?_ _|refine blk_drew ?_|refine blk_alloc ?_ _));exact BK124.out) hb);have n2_:=Aside0.mk (below_step (by repeat (first|(with_reducible first|exact HB.out|apply below_alloc|apply pw_below_drewN|apply below_drew1|refine below_set ?_ GE124.out)|exact HB.out)) hb);have n3_:=Aside0.mk (hbox);have n4_:=Aside0.mk ((by rw [hg];exact (below_size (by repeat (first|(with_reducible first|exact HB.out|apply below_alloc|apply pw_below_drewN|apply below_drew1|refine below_set ?_ GE124.out)|exact HB.out))) : w.heap.size ≤ gb128));have n5_:=Aside0.mk ((by rw [hg];exact (below_size (by repeat (first|(with_reducible first|exact HB.out|apply below_alloc|apply pw_below_drewN|apply below_drew1|refine below_set ?_ GE124.out)|exact HB.out))) : w.heap.size ≤ gb128));have n6_:=Aside0.mk ((by rw [hg];exact Nat.ne_of_lt (blk_lt (g:=gb124) (o:=.cells #[.int .i64 0,.bool false,.string (⟨#[]⟩ : ByteArray),.string (⟨#[]⟩ : ByteArray),.slice none 0 0,.slice none 0 0] 25 (0,0)) (by (with_reducible repeat (first|refine blk_drewN ?_ _|refine blk_drew ?_|refine blk_alloc ?_ _));exact BK124.out)) : gb124 ≠ gb128));have n7_:=Aside0.mk ((by rw [hg];exact Nat.ne_of_gt (blk_lt (g:=gb124) (o:=.cells #[.int .i64 0,.bool false,.string (⟨#[]⟩ : ByteArray),.string (⟨#[]⟩ : ByteArray),.slice none 0 0,.slice none 0 0] 25 (0,0)) (by (with_reducible repeat (first|refine blk_drewN ?_ _|refine blk_drew ?_|refine blk_alloc ?_ _));exact BK124.out)) : gb128 ≠ gb124));clear HO127;clear BK124;clear HB;have HO127:=n0_;have BK124:=n1_;have HB:=n2_;have BK128:=n3_;have GW128:=n4_;have GE128:=n5_;have NB124_128:=n6_;have NB128_124:=n7_;clear n0_ n1_ n2_ n3_ n4_ n5_ n6_ n7_;clear hb hbox hg;have hnb6:=NB128_124.out;have hnc6:=NB124_128.out;have hcz7_0 : w5.cell? ⟨gb128,0,none⟩ = some (.int .i64 0):=(blk_cell BK128.out 0).trans rfl;have hcz7_1 : w5.cell? ⟨gb128,1,none⟩ = some (.bool false):=(blk_cell BK128.out 1).trans rfl;have hcz7_2 : w5.cell? ⟨gb128,2,none⟩ = some (.string (⟨#[]⟩ : ByteArray)):=(blk_cell BK128.out 2).trans rfl;have hcz7_3 : w5.cell? ⟨gb128,3,none⟩ = some (.string (⟨#[]⟩ : ByteArray)):=(blk_cell BK128.out 3).trans rfl;have hcz7_4 : w5.cell? ⟨gb128,4,none⟩ = some (.slice none 0 0):=(blk_cell BK128.out 4).trans rfl;have hcz7_5 : w5.cell? ⟨gb128,5,none⟩ = some (.slice none 0 0):=(blk_cell BK128.out 5).trans rfl;have hfz7_0:=blk_frozen BK128.out 0;have hfz7_1:=blk_frozen BK128.out 1;have hfz7_2:=blk_frozen BK128.out 2;have hfz7_3:=blk_frozen BK128.out 3;have hfz7_4:=blk_frozen BK128.out 4;have hfz7_5:=blk_frozen BK128.out 5)|((with_reducible refine gate_dst (N:=6) rfl ?_);refine Kd.R_lit Kd.string _ 9 ?hg (N:=6) ?hd (xs:=([(⟨#[97]⟩ : ByteArray),(⟨#[98]⟩ : ByteArray)] : List ByteArray)) (inner:=[.string (⟨#[97]⟩ : ByteArray),.string (⟨#[98]⟩ : ByteArray)]) (ok:=fun _=>True) (okp:=fun _=>True) ?hr ?hp (fun _ hk=>hk) trivial (Below.refl _ _) (Nat.le_refl _) (by simp) ?_;(case hd=>rfl);(case hg=>rfl);(case hr=>first|(go_simp;done)|(go_simp;rfl));(case hp=>exact (Reps.one (show Kd.M Kd.string _ _ _ (⟨#[97]⟩ : ByteArray) [.string (⟨#[97]⟩ : ByteArray)] from rfl) (Reps.one (show Kd.M Kd.string _ _ _ (⟨#[98]⟩ : ByteArray) [.string (⟨#[98]⟩ : ByteArray)] from rfl) (Reps.none _ _))));intro v130 w8 ho9 hb hg_ hnew_;clear hg_ hnew_;(first|rw [← Ny129.out] at ho9|(simp only [Int.reduceToNat] at ho9;rw [← Ny129.out] at ho9));have n0_:=Aside0.mk (Kd.N_elder' (by (with_reducible repeat (first|apply Kd.N_alloc|apply Kd.N_drewN|apply Kd.N_drew));exact (Kd.N_mono (Kd.N_far (p:=⟨gb128,5,none⟩) (Kd.N_far (p:=⟨gb128,4,none⟩) (Kd.N_far (p:=⟨gb128,3,none⟩) (Kd.N_far (p:=⟨gb128,2,none⟩) (Kd.N_far (p:=⟨gb128,1,none⟩) (Kd.N_far (p:=⟨gb128,0,none⟩) (Kd.N_mono HO127.out (fun k_ hk=>(⟨hk,hk.2⟩ : _ ∧ k_ ≠ gb128))) (fun _ hk=>hk.2) (.int .i64 5)) (fun _ hk=>hk.2) (.bool false)) (fun _ hk=>hk.2) (.string (⟨#[]⟩ : ByteArray))) (fun _ hk=>hk.2) (.string (⟨#[]⟩ : ByteArray))) (fun _ hk=>hk.2) (.slice none 0 0)) (fun _ hk=>hk.2) (.slice Ao4 y125.length co4)) (fun _ h_=>h_.1))) (Kd.R_base ho9) hb);have n1_:=Aside0.mk (Kd.R_lower (Kd.R_newM (M:=fun k_=>(w.heap.size ≤ k_)) ho9 (below_size (by repeat (first|(with_reducible first|exact HB.out|apply below_alloc|apply pw_below_drewN|apply below_drew1|refine below_set ?_ GE124.out|refine below_set ?_ GE128.out)|exact HB.out))) (fun k_ h_=>h_)) (below_size (by repeat (first|(with_reducible first|exact HB.out|apply below_alloc|apply pw_below_drewN|apply below_drew1|refine below_set ?_ GE124.out|refine below_set ?_ GE128.out)|exact HB.out))));have n2_:=Aside0.mk (blk_below (g:=gb124) (o:=.cells #[.int .i64 0,.bool false,.string (⟨#[]⟩ : ByteArray),.string (⟨#[]⟩ : ByteArray),.slice none 0 0,.slice none 0 0] 25 (0,0)) (by (with_reducible repeat (first|refine blk_drewN ?_ _|refine blk_drew ?_|refine blk_alloc ?_ _));refine blk_far ?_ NB124_128.out _;(with_reducible repeat (first|refine blk_drewN ?_ _|refine blk_drew ?_|refine blk_alloc ?_ _));refine blk_far ?_ NB124_128.out _;(with_reducible repeat (first|refine blk_drewN ?_ _|refine blk_drew ?_|refine blk_alloc ?_ _));refine blk_far ?_ NB124_128.out _;(with_reducible repeat (first|refine blk_drewN ?_ _|refine blk_drew ?_|refine blk_alloc ?_ _));refine blk_far ?_ NB124_128.out _;(with_reducible repeat (first|refine blk_drewN ?_ _|refine blk_drew ?_|refine blk_alloc ?_ _));refine blk_far ?_ NB124_128.out _;(with_reducible repeat (first|refine blk_drewN ?_ _|refine blk_drew ?_|refine blk_alloc ?_ _));refine blk_far ?_ NB124_128.out _;(with_reducible repeat (first|refine blk_drewN ?_ _|refine blk_drew ?_|refine blk_alloc ?_ _));exact BK124.out) hb);have n3_:=Aside0.mk (blk_below (g:=gb128) (o:=.cells #[.int .i64 5,.bool false,.string (⟨#[]⟩ : ByteArray),.string (⟨#[]⟩ : ByteArray),.slice none 0 0,.slice Ao4 y125.length co4] 25 (0,0)) (by (with_reducible repeat (first|refine blk_drewN ?_ _|refine blk_drew ?_|refine blk_alloc ?_ _));refine blk_put (cs:=#[.int .i64 5,.bool false,.string (⟨#[]⟩ : ByteArray),.string (⟨#[]⟩ : ByteArray),.slice none 0 0,.slice none 0 0]) ?_ 5 _ (by first|rfl|(simp only [px_pos,px_ne];rfl)|simp [px_pos,px_ne]);(with_reducible repeat (first|refine blk_drewN ?_ _|refine blk_drew ?_|refine blk_alloc ?_ _));refine blk_put (cs:=#[.int .i64 5,.bool false,.string (⟨#[]⟩ : ByteArray),.string (⟨#[]⟩ : ByteArray),.slice none 0 0,.slice none 0 0]) ?_ 4 _ (by first|rfl|(simp only [px_pos,px_ne];rfl)|simp [px_pos,px_ne]);(with_reducible repeat (first|refine blk_drewN ?_ _|refine blk_drew ?_|refine blk_alloc ?_ _));refine blk_put (cs:=#[.int .i64 5,.bool false,.string (⟨#[]⟩ : ByteArray),.string (⟨#[]⟩ : ByteArray),.slice none 0 0,.slice none 0 0]) ?_ 3 _ (by first|rfl|(simp only [px_pos,px_ne];rfl)|simp [px_pos,px_ne]);(with_reducible repeat (first|refine blk_drewN ?_ _|refine blk_drew ?_|refine blk_alloc ?_ _));refine blk_put (cs:=#[.int .i64 5,.bool false,.string (⟨#[]⟩ : ByteArray),.string (⟨#[]⟩ : ByteArray),.slice none 0 0,.slice none 0 0]) ?_ 2 _ (by first|rfl|(simp only [px_pos,px_ne];rfl)|simp [px_pos,px_ne]);(with_reducible repeat (first|refine blk_drewN ?_ _|refine blk_drew ?_|refine blk_alloc ?_ _));refine blk_put (cs:=#[.int .i64 5,.bool false,.string (⟨#[]⟩ : ByteArray),.string (⟨#[]⟩ : ByteArray),.slice none 0 0,.slice none 0 0]) ?_ 1 _ (by first|rfl|(simp only [px_pos,px_ne];rfl)|simp [px_pos,px_ne]);(with_reducible repeat (first|refine blk_drewN ?_ _|refine blk_drew ?_|refine blk_alloc ?_ _));refine blk_put (cs:=#[.int .i64 0,.bool false,.string (⟨#[]⟩ : ByteArray),.string (⟨#[]⟩ : ByteArray),.slice none 0 0,.slice none 0 0]) ?_ 0 _ (by first|rfl|(simp only [px_pos,px_ne];rfl)|simp [px_pos,px_ne]);(with_reducible repeat (first|refine blk_drewN ?_ _|refine blk_drew ?_|refine blk_alloc ?_ _));exact BK128.out) hb);have n4_:=Aside0.mk (below_step (by repeat (first|(with_reducible first|exact HB.out|apply below_alloc|apply pw_below_drewN|apply below_drew1|refine below_set ?_ GE124.out|refine below_set ?_ GE128.out)|exact HB.out)) hb);clear HO127;clear BK124;clear BK128;clear HB;have HO127:=n0_;have HO131:=n1_;have BK124:=n2_;have BK128:=n3_;have HB:=n4_;clear n0_ n1_ n2_ n3_ n4_;clear hb ho9;have hcz10_0 : w8.cell? ⟨gb128,0,none⟩ = some (.int .i64 5):=(blk_cell BK128.out 0).trans rfl;have hcz10_1 : w8.cell? ⟨gb128,1,none⟩ = some (.bool false):=(blk_cell BK128.out 1).trans rfl;have hcz10_2 : w8.cell? ⟨gb128,2,none⟩ = some (.string (⟨#[]⟩ : ByteArray)):=(blk_cell BK128.out 2).trans rfl;have hcz10_3 : w8.cell? ⟨gb128,3,none⟩ = some (.string (⟨#[]⟩ : ByteArray)):=(blk_cell BK128.out 3).trans rfl;have hcz10_4 : w8.cell? ⟨gb128,4,none⟩ = some (.slice none 0 0):=(blk_cell BK128.out 4).trans rfl;have hcz10_5 : w8.cell? ⟨gb128,5,none⟩ = some (.slice Ao4 y125.length co4):=(blk_cell BK128.out 5).trans rfl;have hfz10_0:=blk_frozen BK128.out 0;have hfz10_1:=blk_frozen BK128.out 1;have hfz10_2:=blk_frozen BK128.out 2;have hfz10_3:=blk_frozen BK128.out 3;have hfz10_4:=blk_frozen BK128.out 4;have hfz10_5:=blk_frozen BK128.out 5)|((with_reducible refine gate_dst (N:=9) rfl ?_);refine Kd.N_lit k25 _ 25 ?hg (N':=9) ?hd (xs:=([(⟨5,false,(⟨#[]⟩ : ByteArray),(⟨#[]⟩ : ByteArray),([] : List ByteArray),y125⟩ : S25),(⟨1,false,(⟨#[]⟩ : ByteArray),(⟨#[]⟩ : ByteArray),([] : List ByteArray),([] : List (S25))⟩ : S25)] : List (S25))) (inner:=[.int .i64 5,.bool false,.string (⟨#[]⟩ : ByteArray),.string (⟨#[]⟩ : ByteArray),.slice none 0 0,.slice Ao4 y125.length co4,.int .i64 1,.bool false,.string (⟨#[]⟩ : ByteArray),.string (⟨#[]⟩ : ByteArray),.slice none 0 0,.slice none 0 0]) (ok:=(fun k_=>(w.heap.size ≤ k_) ∧ some k_ ≠ (v130 : Value).ownBlock ∧ k_ ≠ gb124 ∧ k_ ≠ gb128)) (okp:=(fun k_=>(w.heap.size ≤ k_) ∧ some k_ ≠ (v130 : Value).ownBlock ∧ k_ ≠ gb124 ∧ k_ ≠ gb128)) ?hr ?hp (fun _ hk=>hk) ((show ∀ k_,w8.heap.size ≤ k_ → (fun k_=>(w.heap.size ≤ k_) ∧ some k_ ≠ (v130 : Value).ownBlock ∧ k_ ≠ gb124 ∧ k_ ≠ gb128) k_ from fun k_ hk=>⟨(Nat.le_trans (below_size (by repeat (first|(with_reducible first|exact HB.out|apply below_alloc|apply pw_below_drewN|apply below_drew1|refine below_set ?_ GE124.out|refine below_set ?_ GE128.out)|exact HB.out))) hk),Kd.fresh' (Kd.R_lt (by (with_reducible repeat (first|apply Kd.R_alloc|apply Kd.R_drewN|apply Kd.R_drew));exact HO131.out)) k_ hk,Kd.freshB (g:=gb124) (o:=.cells #[.int .i64 0,.bool false,.string (⟨#[]⟩ : ByteArray),.string (⟨#[]⟩ : ByteArray),.slice none 0 0,.slice none 0 0] 25 (0,0)) (by (with_reducible repeat (first|refine blk_drewN ?_ _|refine blk_drew ?_|refine blk_alloc ?_ _));exact BK124.out) k_ hk,Kd.freshB (g:=gb128) (o:=.cells #[.int .i64 5,.bool false,.string (⟨#[]⟩ : ByteArray),.string (⟨#[]⟩ : ByteArray),.slice none 0 0,.slice Ao4 y125.length co4] 25 (0,0)) (by (with_reducible repeat (first|refine blk_drewN ?_ _|refine blk_drew ?_|refine blk_alloc ?_ _));exact BK128.out) k_ hk⟩) _ (Nat.le_refl _)) (Below.refl _ _) (Nat.le_refl _) (by simp) ?_;(case hd=>rfl);(case hg=>rfl);(case hr=>first|(go_simp;done)|(go_simp;rfl));(case hp=>exact (Reps.c6 (show Kd.FK k25 _ _ (⟨5,false,(⟨#[]⟩ : ByteArray),(⟨#[]⟩ : ByteArray),([] : List ByteArray),y125⟩ : S25) [.int .i64 5,.bool false,.string (⟨#[]⟩ : ByteArray),.string (⟨#[]⟩ : ByteArray),.slice none 0 0,.slice Ao4 y125.length co4] from (k25_mkF _ _ (⟨5,false,(⟨#[]⟩ : ByteArray),(⟨#[]⟩ : ByteArray),([] : List ByteArray),y125⟩ : S25) (Nat.le_refl _) (Kd.F_nil _ _ _) (Kd.N_reads' (Kd.N_mono (ok':=(fun k_=>(w.heap.size ≤ k_) ∧ some k_ ≠ (v130 : Value).ownBlock ∧ k_ ≠ gb124 ∧ k_ ≠ gb128)) (HO127.out) (fun k_ hk=>⟨hk.1.1.1,⟨hk.2,⟨hk.1.1.2,hk.1.2⟩⟩⟩))).2.1 (Kd.N_F (Kd.N_mono (ok':=(fun k_=>(w.heap.size ≤ k_) ∧ some k_ ≠ (v130 : Value).ownBlock ∧ k_ ≠ gb124 ∧ k_ ≠ gb128)) (HO127.out) (fun k_ hk=>⟨hk.1.1.1,⟨hk.2,⟨hk.1.1.2,hk.1.2⟩⟩⟩))))) (Reps.c6 (show Kd.FK k25 _ _ (⟨1,false,(⟨#[]⟩ : ByteArray),(⟨#[]⟩ : ByteArray),([] : List ByteArray),([] : List (S25))⟩ : S25) [.int .i64 1,.bool false,.string (⟨#[]⟩ : ByteArray),.string (⟨#[]⟩ : ByteArray),.slice none 0 0,.slice none 0 0] from (k25_mkF _ _ (⟨1,false,(⟨#[]⟩ : ByteArray),(⟨#[]⟩ : ByteArray),([] : List ByteArray),([] : List (S25))⟩ : S25) (Nat.le_refl _) (Kd.F_nil _ _ _) (Nat.le_refl _) (Kd.F_nil _ _ _))) (Reps.none _ _))));intro v133 w11 ho12 hb hg_ hnew_;clear hg_ hnew_;(first|rw [← Ny132.out] at ho12|(simp only [Int.reduceToNat] at ho12;rw [← Ny132.out] at ho12));have n0_:=Aside0.mk (Kd.R_below (by (with_reducible repeat (first|apply Kd.R_alloc|apply Kd.R_drewN|apply Kd.R_drew));exact HO131.out) hb);have n1_:=Aside0.mk (Kd.N_lower ho12 (below_size (by repeat (first|(with_reducible first|exact HB.out|apply below_alloc|apply pw_below_drewN|apply below_drew1|refine below_set ?_ GE124.out|refine below_set ?_ GE128.out)|exact HB.out))));have n2_:=Aside0.mk (blk_below (g:=gb124) (o:=.cells #[.int .i64 0,.bool false,.string (⟨#[]⟩ : ByteArray),.string (⟨#[]⟩ : ByteArray),.slice none 0 0,.slice none 0 0] 25 (0,0)) (by (with_reducible repeat (first|refine blk_drewN ?_ _|refine blk_drew ?_|refine blk_alloc ?_ _));exact BK124.out) hb);have n3_:=Aside0.mk (blk_below (g:=gb128) (o:=.cells #[.int .i64 5,.bool false,.string (⟨#[]⟩ : ByteArray),.string (⟨#[]⟩ : ByteArray),.slice none 0 0,.slice Ao4 y125.length co4] 25 (0,0)) (by (with_reducible repeat (first|refine blk_drewN ?_ _|refine blk_drew ?_|refine blk_alloc ?_ _));exact BK128.out) hb);have n4_:=Aside0.mk (below_step (by repeat (first|(with_reducible first|exact HB.out|apply below_alloc|apply pw_below_drewN|apply below_drew1|refine below_set ?_ GE124.out|refine below_set ?_ GE128.out)|exact HB.out)) hb);clear HO131;clear BK124;clear BK128;clear HB;clear HO127;have HO131:=n0_;have HO134:=n1_;have BK124:=n2_;have BK128:=n3_;have HB:=n4_;clear n0_ n1_ n2_ n3_ n4_;clear hb ho12;obtain ⟨Ao13,co13,eo13⟩:=Kd.N_slice HO134.out;subst eo13;obtain ⟨Ao14,co14,eo14⟩:=Kd.R_slice HO131.out;subst eo14;have hcz15_0 : w11.cell? ⟨gb124,0,none⟩ = some (.int .i64 0):=(blk_cell BK124.out 0).trans rfl;have hcz15_1 : w11.cell? ⟨gb124,1,none⟩ = some (.bool false):=(blk_cell BK124.out 1).trans rfl;have hcz15_2 : w11.cell? ⟨gb124,2,none⟩ = some (.string (⟨#[]⟩ : ByteArray)):=(blk_cell BK124.out 2).trans rfl;have hcz15_3 : w11.cell? ⟨gb124,3,none⟩ = some (.string (⟨#[]⟩ : ByteArray)):=(blk_cell BK124.out 3).trans rfl;have hcz15_4 : w11.cell? ⟨gb124,4,none⟩ = some (.slice none 0 0):=(blk_cell BK124.out 4).trans rfl;have hcz15_5 : w11.cell? ⟨gb124,5,none⟩ = some (.slice none 0 0):=(blk_cell BK124.out 5).trans rfl;have hfz15_0:=blk_frozen BK124.out 0;have hfz15_1:=blk_frozen BK124.out 1;have hfz15_2:=blk_frozen BK124.out 2;have hfz15_3:=blk_frozen BK124.out 3;have hfz15_4:=blk_frozen BK124.out 4;have hfz15_5:=blk_frozen BK124.out 5))
 refine bodyPost_ret (results_cell_row rfl _ _ gb124 25 #[.int .i64 6,.bool false,.string (⟨#[]⟩ : ByteArray),.string (⟨#[]⟩ : ByteArray),.slice Ao14 y129.length co14,.slice Ao13 y132.length co13] (0,0) _ rfl (by (with_reducible repeat (first|refine blk_drewN ?_ _|refine blk_drew ?_|refine blk_alloc ?_ _));refine blk_put (cs:=#[.int .i64 6,.bool false,.string (⟨#[]⟩ : ByteArray),.string (⟨#[]⟩ : ByteArray),.slice Ao14 y129.length co14,.slice none 0 0]) ?_ 5 _ (by first|rfl|(simp only [px_pos,px_ne];rfl)|simp [px_pos,px_ne]);(with_reducible repeat (first|refine blk_drewN ?_ _|refine blk_drew ?_|refine blk_alloc ?_ _));refine blk_put (cs:=#[.int .i64 6,.bool false,.string (⟨#[]⟩ : ByteArray),.string (⟨#[]⟩ : ByteArray),.slice none 0 0,.slice none 0 0]) ?_ 4 _ (by first|rfl|(simp only [px_pos,px_ne];rfl)|simp [px_pos,px_ne]);(with_reducible repeat (first|refine blk_drewN ?_ _|refine blk_drew ?_|refine blk_alloc ?_ _));refine blk_put (cs:=#[.int .i64 6,.bool false,.string (⟨#[]⟩ : ByteArray),.string (⟨#[]⟩ : ByteArray),.slice none 0 0,.slice none 0 0]) ?_ 3 _ (by first|rfl|(simp only [px_pos,px_ne];rfl)|simp [px_pos,px_ne]);(with_reducible repeat (first|refine blk_drewN ?_ _|refine blk_drew ?_|refine blk_alloc ?_ _));refine blk_put (cs:=#[.int .i64 6,.bool false,.string (⟨#[]⟩ : ByteArray),.string (⟨#[]⟩ : ByteArray),.slice none 0 0,.slice none 0 0]) ?_ 2 _ (by first|rfl|(simp only [px_pos,px_ne];rfl)|simp [px_pos,px_ne]);(with_reducible repeat (first|refine blk_drewN ?_ _|refine blk_drew ?_|refine blk_alloc ?_ _));refine blk_put (cs:=#[.int .i64 6,.bool false,.string (⟨#[]⟩ : ByteArray),.string (⟨#[]⟩ : ByteArray),.slice none 0 0,.slice none 0 0]) ?_ 1 _ (by first|rfl|(simp only [px_pos,px_ne];rfl)|simp [px_pos,px_ne]);(with_reducible repeat (first|refine blk_drewN ?_ _|refine blk_drew ?_|refine blk_alloc ?_ _));refine blk_put (cs:=#[.int .i64 0,.bool false,.string (⟨#[]⟩ : ByteArray),.string (⟨#[]⟩ : ByteArray),.slice none 0 0,.slice none 0 0]) ?_ 0 _ (by first|rfl|(simp only [px_pos,px_ne];rfl)|simp [px_pos,px_ne]);(with_reducible repeat (first|refine blk_drewN ?_ _|refine blk_drew ?_|refine blk_alloc ?_ _));exact BK124.out) Tryd.underlying25 rfl (by kernel_rfl)) rfl ?_
 exact ⟨_,_,by first|rfl|(simp [errW_none,errW_some] <;> rfl)|(simp [*,errW_none,errW_some] <;> rfl),by (with_reducible repeat (first|apply Kd.R_alloc|apply Kd.R_drewN|apply Kd.R_drew));exact Kd.R_mono (Kd.R_far (p:=⟨gb124,5,none⟩) (Kd.R_far (p:=⟨gb124,4,none⟩) (Kd.R_far (p:=⟨gb124,3,none⟩) (Kd.R_far (p:=⟨gb124,2,none⟩) (Kd.R_far (p:=⟨gb124,1,none⟩) (Kd.R_far (p:=⟨gb124,0,none⟩) (Kd.R_types HO131.out BK124.out (by decide)) (fun _ hk=>hk.2) (.int .i64 6)) (fun _ hk=>hk.2) (.bool false)) (fun _ hk=>hk.2) (.string (⟨#[]⟩ : ByteArray))) (fun _ hk=>hk.2) (.string (⟨#[]⟩ : ByteArray))) (fun _ hk=>hk.2) (.slice Ao14 y129.length co14)) (fun _ hk=>hk.2) (.slice Ao13 y132.length co13)) (fun _ hk=>hk.1.1),by (with_reducible repeat (first|apply Kd.N_alloc|apply Kd.N_drewN|apply Kd.N_drew));exact Kd.N_mono (Kd.N_far (p:=⟨gb124,5,none⟩) (Kd.N_far (p:=⟨gb124,4,none⟩) (Kd.N_far (p:=⟨gb124,3,none⟩) (Kd.N_far (p:=⟨gb124,2,none⟩) (Kd.N_far (p:=⟨gb124,1,none⟩) (Kd.N_far (p:=⟨gb124,0,none⟩) (Kd.N_mono HO134.out (fun k_ hk=>(⟨hk,hk.2.2.1⟩ : _ ∧ k_ ≠ gb124))) (fun _ hk=>hk.2) (.int .i64 6)) (fun _ hk=>hk.2) (.bool false)) (fun _ hk=>hk.2) (.string (⟨#[]⟩ : ByteArray))) (fun _ hk=>hk.2) (.string (⟨#[]⟩ : ByteArray))) (fun _ hk=>hk.2) (.slice Ao14 y129.length co14)) (fun _ hk=>hk.2) (.slice Ao13 y132.length co13)) (fun _ hk=>⟨hk.1.1,hk.1.2.1⟩),by repeat (first|(with_reducible first|exact HB.out|apply below_alloc|apply pw_below_drewN|apply below_drew1|refine below_set ?_ GE124.out|refine below_set ?_ GE128.out)|exact HB.out)⟩
mutual
def tree_Depth.l0 : Nat → Int → List (S25) → Int → Int → Option (Int)
 | 0,_,_,_,_=>none
 | k + 1,x3,x10,x11,x12=>if x12 < x11 then (if 0 ≤ x12 then (if x12 < (x10.length : Int) then ((tree_Depth.f k ((rd_T25 x10 x12).f0) ((rd_T25 x10 x12).f1) ((rd_T25 x10 x12).f2) ((rd_T25 x10 x12).f3) ((rd_T25 x10 x12).f4) ((rd_T25 x10 x12).f5)).bind fun t139=>(tree_Depth.l0 k (mx x3 t139) x10 x11 (wrap64 (x12 + 1)))) else (none)) else (none)) else (some (wrap64 (x3 + 1)))
def tree_Depth.f : Nat → Int → Bool → ByteArray → ByteArray → List ByteArray → List (S25) → Option (Int)
 | 0,_,_,_,_,_,_=>none
 | k + 1,a0_0,a0_1,a0_2,a0_3,l0_4,l0_5=>(tree_holds.f a0_0 a0_1 a0_2 a0_3 l0_4 l0_5).bind fun t136=>(if t136 = true then (tree_Depth.l0 k 0 l0_5 (l0_5.length : Int) 0) else (some 0))
end
theorem tree_Depth.mono_l : ∀ k,(∀ y0 y1 y2 y3 y4 y5,LeO (tree_Depth.f k y0 y1 y2 y3 y4 y5) (tree_Depth.f (k + 1) y0 y1 y2 y3 y4 y5)) ∧ (∀ y0 y1 y2 y3,LeO (tree_Depth.l0 k y0 y1 y2 y3) (tree_Depth.l0 (k + 1) y0 y1 y2 y3))
 | 0=>⟨fun _ _ _ _ _ _ r h=>by simp [tree_Depth.f] at h,fun _ _ _ _ r h=>by simp [tree_Depth.l0] at h⟩
 | k + 1=>by
  obtain ⟨ih0,ih1⟩:=tree_Depth.mono_l k
  refine ⟨?_,?_⟩
  ·intro y0 y1 y2 y3 y4 y5
   unfold tree_Depth.f
   repeat' first
   | (with_reducible exact ih0 _ _ _ _ _ _)
   | (with_reducible exact ih1 _ _ _ _)
   | (with_reducible exact LeO.refl _)
   | (with_reducible exact LeO.none _)
   | (with_reducible refine LeO.ite ?_ ?_)
   | (with_reducible refine LeO.bind ?_ (fun _=>?_))
   | exact ih0 _ _ _ _ _ _
   | exact ih1 _ _ _ _
   | exact LeO.none _
   | refine LeO.ite ?_ ?_
   | refine LeO.bind ?_ (fun _=>?_)
  ·intro y0 y1 y2 y3
   unfold tree_Depth.l0
   repeat' first
   | (with_reducible exact ih0 _ _ _ _ _ _)
   | (with_reducible exact ih1 _ _ _ _)
   | (with_reducible exact LeO.refl _)
   | (with_reducible exact LeO.none _)
   | (with_reducible refine LeO.ite ?_ ?_)
   | (with_reducible refine LeO.bind ?_ (fun _=>?_))
   | exact ih0 _ _ _ _ _ _
   | exact ih1 _ _ _ _
   | exact LeO.none _
   | refine LeO.ite ?_ ?_
   | refine LeO.bind ?_ (fun _=>?_)
theorem tree_Depth.mono : ∀ a0 a1 a2 a3 a4 a5 k,LeO (tree_Depth.f k a0 a1 a2 a3 a4 a5) (tree_Depth.f (k + 1) a0 a1 a2 a3 a4 a5):=by
 intro a0 a1 a2 a3 a4 a5 k
 obtain ⟨ih0,ih1⟩:=tree_Depth.mono_l k
 exact ih0 a0 a1 a2 a3 a4 a5
set_option maxHeartbeats 8000000 in
set_option maxRecDepth 100000 in
theorem tree_Depth.calls (k : Nat) : ∀ (a0_0 : Int) (a0_1 : Bool) (a0_2 : ByteArray) (a0_3 : ByteArray) (A0_4 : Option Addr) (c0_4 : Nat) (l0_4 : List ByteArray) (A0_5 : Option Addr) (c0_5 : Nat) (l0_5 : List (S25)) (r : Int) (w : World) (hr0_4 : Kd.C Kd.string w A0_4 l0_4.length l0_4) (hc0_4 : l0_4.length ≤ c0_4) (hr0_5 : Kd.C k25 w A0_5 l0_5.length l0_5) (hc0_5 : l0_5.length ≤ c0_5) (h : tree_Depth.f k a0_0 a0_1 a0_2 a0_3 l0_4 l0_5 = some r),
  Calls Tryd.prog 7 #[.agg #[.int .i64 a0_0,.bool a0_1,.string a0_2,.string a0_3,.slice A0_4 l0_4.length c0_4,.slice A0_5 l0_5.length c0_5]] w fun e w'=>e = .returned (.int .i64 r) ∧ Below w.heap.size w w':=by
 induction k using Nat.strongRecOn with
 | _ k ih =>
 intro a0_0 a0_1 a0_2 a0_3 A0_4 c0_4 l0_4 A0_5 c0_5 l0_5 r w hr0_4 hc0_4 hr0_5 hc0_5 h
 cases k with
 | zero=>exact absurd h (by simp [tree_Depth.f])
 | succ k =>
 simp only [tree_Depth.f] at h
 have hu25:=Tryd.underlying25
 have HR0_4:=Aside0.mk hr0_4
 have HC0_4:=Aside0.mk hc0_4
 clear hr0_4 hc0_4
 have HR0_5:=Aside0.mk hr0_5
 have HC0_5:=Aside0.mk hc0_5
 clear hr0_5 hc0_5
 have HB:=Aside0.mk (Below.refl w.heap.size w)
 have H : ((tree_holds.f a0_0 a0_1 a0_2 a0_3 l0_4 l0_5).bind fun t136=>(if t136 = true then (tree_Depth.l0 k 0 l0_5 (l0_5.length : Int) 0) else (some 0))) = some r:=h
 clear h
 replace H:=Option.bind_eq_some_iff.mp H
 obtain ⟨t136,A20,H⟩:=H
 replace H : (if t136 = true then (tree_Depth.l0 k 0 l0_5 (l0_5.length : Int) 0) else (some 0)) = some r:=H
 have A2:=Aside0.mk A20
 clear A20
 by_cases c3 : t136 = true
 ·subst c3
  have H1 : (tree_Depth.l0 k 0 l0_5 (l0_5.length : Int) 0) = some r:=by rw [if_pos rfl] at H;exact H
  clear H
  have H:=H1
  clear H1
  have H':=Aside0.mk H
  clear H
  go_enter Tryd.func7,Tryd.ntmps7
  go_wp2_with (first|((with_reducible refine gate_dst (N:=1) rfl ?_);refine box_event ?hg (N:=1) ?hd (cs:=#[.int .i64 a0_0,.bool a0_1,.string a0_2,.string a0_3,.slice A0_4 l0_4.length c0_4,.slice A0_5 l0_5.length c0_5]) (t:=25) ?hr ?_;(case hd=>rfl);(case hg=>rfl);(case hr=>first|(go_simp;done)|(go_simp;rfl));intro gb135 hg w4 hbox hb;have n0_:=Aside0.mk (below_step (by repeat (first|(with_reducible first|exact HB.out|apply below_alloc|apply pw_below_drewN|apply below_drew1)|exact HB.out)) hb);have n1_:=Aside0.mk (hbox);have n2_:=Aside0.mk ((by rw [hg];exact (below_size (by repeat (first|(with_reducible first|exact HB.out|apply below_alloc|apply pw_below_drewN|apply below_drew1)|exact HB.out))) : w.heap.size ≤ gb135));have n3_:=Aside0.mk ((by rw [hg];exact (below_size (by repeat (first|(with_reducible first|exact HB.out|apply below_alloc|apply pw_below_drewN|apply below_drew1)|exact HB.out))) : w.heap.size ≤ gb135));clear HB;have HB:=n0_;have BK135:=n1_;have GW135:=n2_;have GE135:=n3_;clear n0_ n1_ n2_ n3_;clear hb hbox hg;have hcz5_0 : w4.cell? ⟨gb135,0,none⟩ = some (.int .i64 a0_0):=(blk_cell BK135.out 0).trans rfl;have hcz5_1 : w4.cell? ⟨gb135,1,none⟩ = some (.bool a0_1):=(blk_cell BK135.out 1).trans rfl;have hcz5_2 : w4.cell? ⟨gb135,2,none⟩ = some (.string a0_2):=(blk_cell BK135.out 2).trans rfl;have hcz5_3 : w4.cell? ⟨gb135,3,none⟩ = some (.string a0_3):=(blk_cell BK135.out 3).trans rfl;have hcz5_4 : w4.cell? ⟨gb135,4,none⟩ = some (.slice A0_4 l0_4.length c0_4):=(blk_cell BK135.out 4).trans rfl;have hcz5_5 : w4.cell? ⟨gb135,5,none⟩ = some (.slice A0_5 l0_5.length c0_5):=(blk_cell BK135.out 5).trans rfl;have hfz5_0:=blk_frozen BK135.out 0;have hfz5_1:=blk_frozen BK135.out 1;have hfz5_2:=blk_frozen BK135.out 2;have hfz5_3:=blk_frozen BK135.out 3;have hfz5_4:=blk_frozen BK135.out 4;have hfz5_5:=blk_frozen BK135.out 5)|((with_reducible refine gate_callee (f:=18) rfl ?_);refine goesL_ (some 7) rfl rfl Tryd.func18 (by kernel_rfl) rfl #[.agg #[.int .i64 a0_0,.bool a0_1,.string a0_2,.string a0_3,.slice A0_4 l0_4.length c0_4,.slice A0_5 l0_5.length c0_5]] rfl (by (try simp only [List.map_toArray,List.map_cons,List.map_nil]);first|done|rfl|(simp only [List.length_drop,List.length_take];rfl)) ?_;(with_reducible refine (tree_holds.calls a0_0 a0_1 a0_2 a0_3 _ _ l0_4 _ _ l0_5 true _ ?side1 ?side2 ?side3 ?side4 A2.out).mono ?_);(case side1=>repeat (first|exact (Kd.C_below HR0_4.out HB.out)|(with_reducible refine Kd.C_alloc ?_ _)|(with_reducible refine Kd.C_drewN ?_ _)|(with_reducible refine Kd.C_drew ?_)));(case side2=>exact HC0_4.out);(case side3=>repeat (first|exact (Kd.C_below HR0_5.out HB.out)|(with_reducible refine Kd.C_alloc ?_ _)|(with_reducible refine Kd.C_drewN ?_ _)|(with_reducible refine Kd.C_drew ?_)));(case side4=>exact HC0_5.out);rintro e w6 ⟨rfl,hb⟩;refine ⟨_,rfl,?_⟩;have n0_:=Aside0.mk (blk_below (g:=gb135) (o:=.cells #[.int .i64 a0_0,.bool a0_1,.string a0_2,.string a0_3,.slice A0_4 l0_4.length c0_4,.slice A0_5 l0_5.length c0_5] 25 (0,0)) (by (with_reducible repeat (first|refine blk_drewN ?_ _|refine blk_drew ?_|refine blk_alloc ?_ _));exact BK135.out) hb);have n1_:=Aside0.mk (below_step (by repeat (first|(with_reducible first|exact HB.out|apply below_alloc|apply pw_below_drewN|apply below_drew1|refine below_set ?_ GE135.out)|exact HB.out)) hb);clear BK135;clear HB;have BK135:=n0_;have HB:=n1_;clear n0_ n1_;(try clear hb);(try clear hb2);(try clear hk);(try clear hi);have hcz7_0 : w6.cell? ⟨gb135,0,none⟩ = some (.int .i64 a0_0):=(blk_cell BK135.out 0).trans rfl;have hcz7_1 : w6.cell? ⟨gb135,1,none⟩ = some (.bool a0_1):=(blk_cell BK135.out 1).trans rfl;have hcz7_2 : w6.cell? ⟨gb135,2,none⟩ = some (.string a0_2):=(blk_cell BK135.out 2).trans rfl;have hcz7_3 : w6.cell? ⟨gb135,3,none⟩ = some (.string a0_3):=(blk_cell BK135.out 3).trans rfl;have hcz7_4 : w6.cell? ⟨gb135,4,none⟩ = some (.slice A0_4 l0_4.length c0_4):=(blk_cell BK135.out 4).trans rfl;have hcz7_5 : w6.cell? ⟨gb135,5,none⟩ = some (.slice A0_5 l0_5.length c0_5):=(blk_cell BK135.out 5).trans rfl;have hfz7_0:=blk_frozen BK135.out 0;have hfz7_1:=blk_frozen BK135.out 1;have hfz7_2:=blk_frozen BK135.out 2;have hfz7_3:=blk_frozen BK135.out 3;have hfz7_4:=blk_frozen BK135.out 4;have hfz7_5:=blk_frozen BK135.out 5))
  go_loopg [3,12] k (fun kq v3 v12 w'=>∃ (x3_1 : Int) (x12_1 : Int),v3 = .int .i64 x3_1 ∧ v12 = .int .i64 x12_1 ∧ Aside0 (tree_Depth.l0 kq x3_1 l0_5 (l0_5.length : Int) x12_1 = some r) ∧ Aside0 (kq ≤ k) ∧ Aside0 (w'.heap[gb135]? = some (.cells #[.int .i64 a0_0,.bool a0_1,.string a0_2,.string a0_3,(.slice A0_4 l0_4.length c0_4),(.slice A0_5 l0_5.length c0_5)] 25 (0,0))) ∧ Aside0 (Below w.heap.size w w'))
  case atStart=>exact ⟨(0),(0),(by first|rfl|(simp;done)|(simp [*];done)),(by first|rfl|(simp;done)|(simp [*];done)),H',⟨Nat.le_refl _⟩,⟨by (with_reducible repeat (first|refine blk_drewN ?_ _|refine blk_drew ?_|refine blk_alloc ?_ _));exact BK135.out⟩,⟨by repeat (first|(with_reducible first|exact HB.out|apply below_alloc|apply pw_below_drewN|apply below_drew1|refine below_set ?_ GE135.out)|exact HB.out)⟩⟩
  case round =>
   clear H'
   try clear c1
   try clear p2
   try clear c3
   try clear c7
   try clear hcz5_0
   try clear hcz5_1
   try clear hcz5_2
   try clear hcz5_3
   try clear hcz5_4
   try clear hcz5_5
   try clear hcz7_0
   try clear hcz7_1
   try clear hcz7_2
   try clear hcz7_3
   try clear hcz7_4
   try clear hcz7_5
   try clear hfz5_0
   try clear hfz5_1
   try clear hfz5_2
   try clear hfz5_3
   try clear hfz5_4
   try clear hfz5_5
   try clear hfz7_0
   try clear hfz7_1
   try clear hfz7_2
   try clear hfz7_3
   try clear hfz7_4
   try clear hfz7_5
   try clear HK1
   try clear BK135
   try clear HB
   obtain ⟨x3_1,x12_1,rfl,rfl,HA,HK1,BK135,HB⟩:=hrel
   cases gk with
   | zero=>exact absurd HA.out (by simp [tree_Depth.l0])
   | succ k1 =>
    have H:=HA.out
    clear HA
    simp only [tree_Depth.l0] at H
    by_cases c8 : x12_1 < (l0_5.length : Int)
    ·rw [if_pos c8] at H
     have c8b0 : decide (x12_1 < (l0_5.length : Int)) = true:=decide_eq_true c8
     clear c8
     by_cases c9 : 0 ≤ x12_1
     ·rw [if_pos c9] at H
      have c9b0 : decide (0 ≤ x12_1) = true:=decide_eq_true c9
      clear c9
      by_cases c10 : x12_1 < (l0_5.length : Int)
      ·rw [if_pos c10] at H
       have c10b0 : decide (x12_1 < (l0_5.length : Int)) = true:=decide_eq_true c10
       clear c10
       replace H:=Option.bind_eq_some_iff.mp H
       obtain ⟨t139,A110,H⟩:=H
       replace H : (tree_Depth.l0 k1 (mx x3_1 t139) l0_5 (l0_5.length : Int) (wrap64 (x12_1 + 1))) = some r:=H
       have A11:=Aside0.mk A110
       clear A110
       obtain ⟨ji12,hji12⟩ : ∃ j_ : Int,(mx x3_1 t139) = j_:=⟨_,rfl⟩
       replace H : (tree_Depth.l0 k1 ji12 l0_5 (l0_5.length : Int) (wrap64 (x12_1 + 1))) = some r:=by first|(rw [hji12] at H;exact H)|(simp only [hji12] at H ⊢;exact H)
       (try rw [hji12] at A11)
       have hji12_ : (if x3_1 < t139 then t139 else x3_1) = ji12:=hji12
       have H':=Aside0.mk H
       clear H
       have p137 : 0 ≤ (x12_1 : Int):=of_decide_eq_true (by first|(with_reducible assumption)|assumption)
       have q137 : x12_1 < (l0_5.length : Int):=of_decide_eq_true (by first|(with_reducible assumption)|assumption)
       obtain ⟨ad137,A137_4,c137_4,A137_5,c137_5,e137,hx137_0,hx137_1,hx137_2,hx137_3,hx137_4,hx137_5,hl137_4,hi137_4,hl137_5,hi137_5⟩:=at_T25 HR0_5.out x12_1 p137 q137
       cases e137
       replace hx137_0:=(HB.out.cell (World.block_lt_of_cell? w _ hx137_0)).trans hx137_0
       replace hx137_1:=(HB.out.cell (World.block_lt_of_cell? w _ hx137_1)).trans hx137_1
       replace hx137_2:=(HB.out.cell (World.block_lt_of_cell? w _ hx137_2)).trans hx137_2
       replace hx137_3:=(HB.out.cell (World.block_lt_of_cell? w _ hx137_3)).trans hx137_3
       replace hx137_4:=(HB.out.cell (World.block_lt_of_cell? w _ hx137_4)).trans hx137_4
       replace hx137_5:=(HB.out.cell (World.block_lt_of_cell? w _ hx137_5)).trans hx137_5
       have HR137_4:=Aside0.mk hi137_4
       have HC137_4:=Aside0.mk hl137_4
       clear hi137_4 hl137_4
       have HR137_5:=Aside0.mk hi137_5
       have HC137_5:=Aside0.mk hl137_5
       clear hi137_5 hl137_5
       replace p137:=eq_true p137
       replace q137:=eq_true q137
       go_wp2_with (first|((with_reducible refine gate_dst (N:=5) rfl ?_);refine box_event ?hg (N:=5) ?hd (cs:=#[.int .i64 0,.bool false,.string (⟨#[]⟩ : ByteArray),.string (⟨#[]⟩ : ByteArray),.slice none 0 0,.slice none 0 0]) (t:=25) ?hr ?_;(case hd=>rfl);(case hg=>rfl);(case hr=>first|(go_simp;done)|(go_simp;rfl));intro gb138 hg w13 hbox hb;have n0_:=Aside0.mk (blk_below (g:=gb135) (o:=.cells #[.int .i64 a0_0,.bool a0_1,.string a0_2,.string a0_3,.slice A0_4 l0_4.length c0_4,.slice (some ad137) l0_5.length c0_5] 25 (0,0)) (by (with_reducible repeat (first|refine blk_drewN ?_ _|refine blk_drew ?_|refine blk_alloc ?_ _));exact BK135.out) hb);have n1_:=Aside0.mk (below_step (by repeat (first|(with_reducible first|exact HB.out|apply below_alloc|apply pw_below_drewN|apply below_drew1|refine below_set ?_ GE135.out)|exact HB.out)) hb);have n2_:=Aside0.mk (hbox);have n3_:=Aside0.mk ((by rw [hg];exact (below_size (by repeat (first|(with_reducible first|exact HB.out|apply below_alloc|apply pw_below_drewN|apply below_drew1|refine below_set ?_ GE135.out)|exact HB.out))) : w.heap.size ≤ gb138));have n4_:=Aside0.mk ((by rw [hg];exact (below_size (by repeat (first|(with_reducible first|exact HB.out|apply below_alloc|apply pw_below_drewN|apply below_drew1|refine below_set ?_ GE135.out)|exact HB.out))) : w.heap.size ≤ gb138));have n5_:=Aside0.mk ((by rw [hg];exact Nat.ne_of_lt (blk_lt (g:=gb135) (o:=.cells #[.int .i64 a0_0,.bool a0_1,.string a0_2,.string a0_3,.slice A0_4 l0_4.length c0_4,.slice (some ad137) l0_5.length c0_5] 25 (0,0)) (by (with_reducible repeat (first|refine blk_drewN ?_ _|refine blk_drew ?_|refine blk_alloc ?_ _));exact BK135.out)) : gb135 ≠ gb138));have n6_:=Aside0.mk ((by rw [hg];exact Nat.ne_of_gt (blk_lt (g:=gb135) (o:=.cells #[.int .i64 a0_0,.bool a0_1,.string a0_2,.string a0_3,.slice A0_4 l0_4.length c0_4,.slice (some ad137) l0_5.length c0_5] 25 (0,0)) (by (with_reducible repeat (first|refine blk_drewN ?_ _|refine blk_drew ?_|refine blk_alloc ?_ _));exact BK135.out)) : gb138 ≠ gb135));clear BK135;clear HB;have BK135:=n0_;have HB:=n1_;have BK138:=n2_;have GW138:=n3_;have GE138:=n4_;have NB135_138:=n5_;have NB138_135:=n6_;clear n0_ n1_ n2_ n3_ n4_ n5_ n6_;clear hb hbox hg;have hnb14:=NB138_135.out;have hnc14:=NB135_138.out;have hcz15_0 : w13.cell? ⟨gb138,0,none⟩ = some (.int .i64 0):=(blk_cell BK138.out 0).trans rfl;have hcz15_1 : w13.cell? ⟨gb138,1,none⟩ = some (.bool false):=(blk_cell BK138.out 1).trans rfl;have hcz15_2 : w13.cell? ⟨gb138,2,none⟩ = some (.string (⟨#[]⟩ : ByteArray)):=(blk_cell BK138.out 2).trans rfl;have hcz15_3 : w13.cell? ⟨gb138,3,none⟩ = some (.string (⟨#[]⟩ : ByteArray)):=(blk_cell BK138.out 3).trans rfl;have hcz15_4 : w13.cell? ⟨gb138,4,none⟩ = some (.slice none 0 0):=(blk_cell BK138.out 4).trans rfl;have hcz15_5 : w13.cell? ⟨gb138,5,none⟩ = some (.slice none 0 0):=(blk_cell BK138.out 5).trans rfl;have hfz15_0:=blk_frozen BK138.out 0;have hfz15_1:=blk_frozen BK138.out 1;have hfz15_2:=blk_frozen BK138.out 2;have hfz15_3:=blk_frozen BK138.out 3;have hfz15_4:=blk_frozen BK138.out 4;have hfz15_5:=blk_frozen BK138.out 5)|((with_reducible refine gate_callee (f:=7) rfl ?_);refine goesL_ (some 18) rfl rfl Tryd.func7 (by kernel_rfl) rfl #[.agg #[.int .i64 ((rd_T25 l0_5 x12_1).f0),.bool ((rd_T25 l0_5 x12_1).f1),.string ((rd_T25 l0_5 x12_1).f2),.string ((rd_T25 l0_5 x12_1).f3),.slice A137_4 ((rd_T25 l0_5 x12_1).f4).length c137_4,.slice A137_5 ((rd_T25 l0_5 x12_1).f5).length c137_5]] rfl (by (try simp only [List.map_toArray,List.map_cons,List.map_nil]);first|done|rfl|(simp only [List.length_drop,List.length_take];rfl)) ?_;(with_reducible refine (ih k1 (by have:=HK1.out;omega) ((rd_T25 l0_5 x12_1).f0) ((rd_T25 l0_5 x12_1).f1) ((rd_T25 l0_5 x12_1).f2) ((rd_T25 l0_5 x12_1).f3) _ _ ((rd_T25 l0_5 x12_1).f4) _ _ ((rd_T25 l0_5 x12_1).f5) t139 _ ?side1 ?side2 ?side3 ?side4 A11.out).mono ?_);(case side1=>exact Kd.C_below HR137_4.out (by repeat (first|(with_reducible first|exact HB.out|apply below_alloc|apply pw_below_drewN|apply below_drew1|refine below_set ?_ GE135.out|refine below_set ?_ GE138.out)|exact HB.out)));(case side2=>exact HC137_4.out);(case side3=>exact Kd.C_below HR137_5.out (by repeat (first|(with_reducible first|exact HB.out|apply below_alloc|apply pw_below_drewN|apply below_drew1|refine below_set ?_ GE135.out|refine below_set ?_ GE138.out)|exact HB.out)));(case side4=>exact HC137_5.out);rintro e w16 ⟨rfl,hb⟩;refine ⟨_,rfl,?_⟩;have n0_:=Aside0.mk (blk_below (g:=gb135) (o:=.cells #[.int .i64 a0_0,.bool a0_1,.string a0_2,.string a0_3,.slice A0_4 l0_4.length c0_4,.slice (some ad137) l0_5.length c0_5] 25 (0,0)) (by (with_reducible repeat (first|refine blk_drewN ?_ _|refine blk_drew ?_|refine blk_alloc ?_ _));refine blk_far ?_ NB135_138.out _;(with_reducible repeat (first|refine blk_drewN ?_ _|refine blk_drew ?_|refine blk_alloc ?_ _));refine blk_far ?_ NB135_138.out _;(with_reducible repeat (first|refine blk_drewN ?_ _|refine blk_drew ?_|refine blk_alloc ?_ _));refine blk_far ?_ NB135_138.out _;(with_reducible repeat (first|refine blk_drewN ?_ _|refine blk_drew ?_|refine blk_alloc ?_ _));refine blk_far ?_ NB135_138.out _;(with_reducible repeat (first|refine blk_drewN ?_ _|refine blk_drew ?_|refine blk_alloc ?_ _));refine blk_far ?_ NB135_138.out _;(with_reducible repeat (first|refine blk_drewN ?_ _|refine blk_drew ?_|refine blk_alloc ?_ _));refine blk_far ?_ NB135_138.out _;(with_reducible repeat (first|refine blk_drewN ?_ _|refine blk_drew ?_|refine blk_alloc ?_ _));exact BK135.out) hb);have n1_:=Aside0.mk (blk_below (g:=gb138) (o:=.cells #[.int .i64 ((rd_T25 l0_5 x12_1).f0),.bool ((rd_T25 l0_5 x12_1).f1),.string ((rd_T25 l0_5 x12_1).f2),.string ((rd_T25 l0_5 x12_1).f3),.slice A137_4 ((rd_T25 l0_5 x12_1).f4).length c137_4,.slice A137_5 ((rd_T25 l0_5 x12_1).f5).length c137_5] 25 (0,0)) (by (with_reducible repeat (first|refine blk_drewN ?_ _|refine blk_drew ?_|refine blk_alloc ?_ _));refine blk_put (cs:=#[.int .i64 ((rd_T25 l0_5 x12_1).f0),.bool ((rd_T25 l0_5 x12_1).f1),.string ((rd_T25 l0_5 x12_1).f2),.string ((rd_T25 l0_5 x12_1).f3),.slice A137_4 ((rd_T25 l0_5 x12_1).f4).length c137_4,.slice none 0 0]) ?_ 5 _ (by first|rfl|(simp only [px_pos,px_ne];rfl)|simp [px_pos,px_ne]);(with_reducible repeat (first|refine blk_drewN ?_ _|refine blk_drew ?_|refine blk_alloc ?_ _));refine blk_put (cs:=#[.int .i64 ((rd_T25 l0_5 x12_1).f0),.bool ((rd_T25 l0_5 x12_1).f1),.string ((rd_T25 l0_5 x12_1).f2),.string ((rd_T25 l0_5 x12_1).f3),.slice none 0 0,.slice none 0 0]) ?_ 4 _ (by first|rfl|(simp only [px_pos,px_ne];rfl)|simp [px_pos,px_ne]);(with_reducible repeat (first|refine blk_drewN ?_ _|refine blk_drew ?_|refine blk_alloc ?_ _));refine blk_put (cs:=#[.int .i64 ((rd_T25 l0_5 x12_1).f0),.bool ((rd_T25 l0_5 x12_1).f1),.string ((rd_T25 l0_5 x12_1).f2),.string (⟨#[]⟩ : ByteArray),.slice none 0 0,.slice none 0 0]) ?_ 3 _ (by first|rfl|(simp only [px_pos,px_ne];rfl)|simp [px_pos,px_ne]);(with_reducible repeat (first|refine blk_drewN ?_ _|refine blk_drew ?_|refine blk_alloc ?_ _));refine blk_put (cs:=#[.int .i64 ((rd_T25 l0_5 x12_1).f0),.bool ((rd_T25 l0_5 x12_1).f1),.string (⟨#[]⟩ : ByteArray),.string (⟨#[]⟩ : ByteArray),.slice none 0 0,.slice none 0 0]) ?_ 2 _ (by first|rfl|(simp only [px_pos,px_ne];rfl)|simp [px_pos,px_ne]);(with_reducible repeat (first|refine blk_drewN ?_ _|refine blk_drew ?_|refine blk_alloc ?_ _));refine blk_put (cs:=#[.int .i64 ((rd_T25 l0_5 x12_1).f0),.bool false,.string (⟨#[]⟩ : ByteArray),.string (⟨#[]⟩ : ByteArray),.slice none 0 0,.slice none 0 0]) ?_ 1 _ (by first|rfl|(simp only [px_pos,px_ne];rfl)|simp [px_pos,px_ne]);(with_reducible repeat (first|refine blk_drewN ?_ _|refine blk_drew ?_|refine blk_alloc ?_ _));refine blk_put (cs:=#[.int .i64 0,.bool false,.string (⟨#[]⟩ : ByteArray),.string (⟨#[]⟩ : ByteArray),.slice none 0 0,.slice none 0 0]) ?_ 0 _ (by first|rfl|(simp only [px_pos,px_ne];rfl)|simp [px_pos,px_ne]);(with_reducible repeat (first|refine blk_drewN ?_ _|refine blk_drew ?_|refine blk_alloc ?_ _));exact BK138.out) hb);have n2_:=Aside0.mk (below_step (by repeat (first|(with_reducible first|exact HB.out|apply below_alloc|apply pw_below_drewN|apply below_drew1|refine below_set ?_ GE135.out|refine below_set ?_ GE138.out)|exact HB.out)) hb);clear BK135;clear BK138;clear HB;have BK135:=n0_;have BK138:=n1_;have HB:=n2_;clear n0_ n1_ n2_;(try clear hb);(try clear hb2);(try clear hk);(try clear hi)))
       go_roundg k1
       case measure=>have:=HK1.out;omega
       case rel=>exact ⟨(ji12),(wrap64 (x12_1 + 1)),(by first|rfl|(simp;done)|(simp only [← hji12] <;> (first|rfl|simp))|(simp [*];done)),(by first|rfl|(simp;done)|(simp [*];done)),(by first|exact H'|(subst_vars;exact H')),⟨by have:=HK1.out;omega⟩,⟨by (with_reducible repeat (first|refine blk_drewN ?_ _|refine blk_drew ?_|refine blk_alloc ?_ _));exact BK135.out⟩,⟨by repeat (first|(with_reducible first|exact HB.out|apply below_alloc|apply pw_below_drewN|apply below_drew1|refine below_set ?_ GE135.out|refine below_set ?_ GE138.out)|exact HB.out)⟩⟩
      ·rw [if_neg c10] at H
       exact absurd H (by simp)
     ·rw [if_neg c9] at H
      exact absurd H (by simp)
    ·rw [if_neg c8] at H
     have c8b0 : decide (x12_1 < (l0_5.length : Int)) = false:=decide_eq_false c8
     clear c8
     obtain rfl:=Option.some.inj H
     go_wp2
     go_ret
     exact ⟨by first|rfl|(simp [errW_none,errW_some] <;> rfl)|(simp [*,errW_none,errW_some] <;> rfl),by repeat (first|(with_reducible first|exact HB.out|apply below_alloc|apply pw_below_drewN|apply below_drew1|refine below_set ?_ GE135.out)|exact HB.out)⟩
 ·replace c3:=Bool.eq_false_iff.mpr c3
  subst c3
  have H1 : (some 0) = some r:=by rw [if_neg (show ¬ (false = true) by decide)] at H;exact H
  clear H
  have H:=H1
  clear H1
  obtain rfl:=Option.some.inj H
  go_enter Tryd.func7,Tryd.ntmps7
  go_wp2_with (first|((with_reducible refine gate_dst (N:=1) rfl ?_);refine box_event ?hg (N:=1) ?hd (cs:=#[.int .i64 a0_0,.bool a0_1,.string a0_2,.string a0_3,.slice A0_4 l0_4.length c0_4,.slice A0_5 l0_5.length c0_5]) (t:=25) ?hr ?_;(case hd=>rfl);(case hg=>rfl);(case hr=>first|(go_simp;done)|(go_simp;rfl));intro gb135 hg w17 hbox hb;have n0_:=Aside0.mk (below_step (by repeat (first|(with_reducible first|exact HB.out|apply below_alloc|apply pw_below_drewN|apply below_drew1)|exact HB.out)) hb);have n1_:=Aside0.mk (hbox);have n2_:=Aside0.mk ((by rw [hg];exact (below_size (by repeat (first|(with_reducible first|exact HB.out|apply below_alloc|apply pw_below_drewN|apply below_drew1)|exact HB.out))) : w.heap.size ≤ gb135));have n3_:=Aside0.mk ((by rw [hg];exact (below_size (by repeat (first|(with_reducible first|exact HB.out|apply below_alloc|apply pw_below_drewN|apply below_drew1)|exact HB.out))) : w.heap.size ≤ gb135));clear HB;have HB:=n0_;have BK135:=n1_;have GW135:=n2_;have GE135:=n3_;clear n0_ n1_ n2_ n3_;clear hb hbox hg;have hcz18_0 : w17.cell? ⟨gb135,0,none⟩ = some (.int .i64 a0_0):=(blk_cell BK135.out 0).trans rfl;have hcz18_1 : w17.cell? ⟨gb135,1,none⟩ = some (.bool a0_1):=(blk_cell BK135.out 1).trans rfl;have hcz18_2 : w17.cell? ⟨gb135,2,none⟩ = some (.string a0_2):=(blk_cell BK135.out 2).trans rfl;have hcz18_3 : w17.cell? ⟨gb135,3,none⟩ = some (.string a0_3):=(blk_cell BK135.out 3).trans rfl;have hcz18_4 : w17.cell? ⟨gb135,4,none⟩ = some (.slice A0_4 l0_4.length c0_4):=(blk_cell BK135.out 4).trans rfl;have hcz18_5 : w17.cell? ⟨gb135,5,none⟩ = some (.slice A0_5 l0_5.length c0_5):=(blk_cell BK135.out 5).trans rfl;have hfz18_0:=blk_frozen BK135.out 0;have hfz18_1:=blk_frozen BK135.out 1;have hfz18_2:=blk_frozen BK135.out 2;have hfz18_3:=blk_frozen BK135.out 3;have hfz18_4:=blk_frozen BK135.out 4;have hfz18_5:=blk_frozen BK135.out 5)|((with_reducible refine gate_callee (f:=18) rfl ?_);refine goesL_ (some 7) rfl rfl Tryd.func18 (by kernel_rfl) rfl #[.agg #[.int .i64 a0_0,.bool a0_1,.string a0_2,.string a0_3,.slice A0_4 l0_4.length c0_4,.slice A0_5 l0_5.length c0_5]] rfl (by (try simp only [List.map_toArray,List.map_cons,List.map_nil]);first|done|rfl|(simp only [List.length_drop,List.length_take];rfl)) ?_;(with_reducible refine (tree_holds.calls a0_0 a0_1 a0_2 a0_3 _ _ l0_4 _ _ l0_5 false _ ?side1 ?side2 ?side3 ?side4 A2.out).mono ?_);(case side1=>repeat (first|exact (Kd.C_below HR0_4.out HB.out)|(with_reducible refine Kd.C_alloc ?_ _)|(with_reducible refine Kd.C_drewN ?_ _)|(with_reducible refine Kd.C_drew ?_)));(case side2=>exact HC0_4.out);(case side3=>repeat (first|exact (Kd.C_below HR0_5.out HB.out)|(with_reducible refine Kd.C_alloc ?_ _)|(with_reducible refine Kd.C_drewN ?_ _)|(with_reducible refine Kd.C_drew ?_)));(case side4=>exact HC0_5.out);rintro e w19 ⟨rfl,hb⟩;refine ⟨_,rfl,?_⟩;have n0_:=Aside0.mk (blk_below (g:=gb135) (o:=.cells #[.int .i64 a0_0,.bool a0_1,.string a0_2,.string a0_3,.slice A0_4 l0_4.length c0_4,.slice A0_5 l0_5.length c0_5] 25 (0,0)) (by (with_reducible repeat (first|refine blk_drewN ?_ _|refine blk_drew ?_|refine blk_alloc ?_ _));exact BK135.out) hb);have n1_:=Aside0.mk (below_step (by repeat (first|(with_reducible first|exact HB.out|apply below_alloc|apply pw_below_drewN|apply below_drew1|refine below_set ?_ GE135.out)|exact HB.out)) hb);clear BK135;clear HB;have BK135:=n0_;have HB:=n1_;clear n0_ n1_;(try clear hb);(try clear hb2);(try clear hk);(try clear hi)))
  go_ret
  exact ⟨by first|rfl|(simp [errW_none,errW_some] <;> rfl)|(simp [*,errW_none,errW_some] <;> rfl),by repeat (first|(with_reducible first|exact HB.out|apply below_alloc|apply pw_below_drewN|apply below_drew1|refine below_set ?_ GE135.out)|exact HB.out)⟩
mutual
def tree_Count.l0 : Nat → Int → List (S25) → Int → Int → Option (Int)
 | 0,_,_,_,_=>none
 | k + 1,x3,x7,x8,x9=>if x9 < x8 then (if 0 ≤ x9 then (if x9 < (x7.length : Int) then ((tree_Count.f k ((rd_T25 x7 x9).f0) ((rd_T25 x7 x9).f1) ((rd_T25 x7 x9).f2) ((rd_T25 x7 x9).f3) ((rd_T25 x7 x9).f4) ((rd_T25 x7 x9).f5)).bind fun t143=>(tree_Count.l0 k (wrap64 (x3 + t143)) x7 x8 (wrap64 (x9 + 1)))) else (none)) else (none)) else (some x3)
def tree_Count.f : Nat → Int → Bool → ByteArray → ByteArray → List ByteArray → List (S25) → Option (Int)
 | 0,_,_,_,_,_,_=>none
 | k + 1,a0_0,a0_1,a0_2,a0_3,l0_4,l0_5=>tree_Count.l0 k 1 l0_5 (l0_5.length : Int) 0
end
theorem tree_Count.mono_l : ∀ k,(∀ y0 y1 y2 y3 y4 y5,LeO (tree_Count.f k y0 y1 y2 y3 y4 y5) (tree_Count.f (k + 1) y0 y1 y2 y3 y4 y5)) ∧ (∀ y0 y1 y2 y3,LeO (tree_Count.l0 k y0 y1 y2 y3) (tree_Count.l0 (k + 1) y0 y1 y2 y3))
 | 0=>⟨fun _ _ _ _ _ _ r h=>by simp [tree_Count.f] at h,fun _ _ _ _ r h=>by simp [tree_Count.l0] at h⟩
 | k + 1=>by
  obtain ⟨ih0,ih1⟩:=tree_Count.mono_l k
  refine ⟨?_,?_⟩
  ·intro y0 y1 y2 y3 y4 y5
   unfold tree_Count.f
   repeat' first
   | (with_reducible exact ih0 _ _ _ _ _ _)
   | (with_reducible exact ih1 _ _ _ _)
   | (with_reducible exact LeO.refl _)
   | (with_reducible exact LeO.none _)
   | (with_reducible refine LeO.ite ?_ ?_)
   | (with_reducible refine LeO.bind ?_ (fun _=>?_))
   | exact ih0 _ _ _ _ _ _
   | exact ih1 _ _ _ _
   | exact LeO.none _
   | refine LeO.ite ?_ ?_
   | refine LeO.bind ?_ (fun _=>?_)
  ·intro y0 y1 y2 y3
   unfold tree_Count.l0
   repeat' first
   | (with_reducible exact ih0 _ _ _ _ _ _)
   | (with_reducible exact ih1 _ _ _ _)
   | (with_reducible exact LeO.refl _)
   | (with_reducible exact LeO.none _)
   | (with_reducible refine LeO.ite ?_ ?_)
   | (with_reducible refine LeO.bind ?_ (fun _=>?_))
   | exact ih0 _ _ _ _ _ _
   | exact ih1 _ _ _ _
   | exact LeO.none _
   | refine LeO.ite ?_ ?_
   | refine LeO.bind ?_ (fun _=>?_)
theorem tree_Count.mono : ∀ a0 a1 a2 a3 a4 a5 k,LeO (tree_Count.f k a0 a1 a2 a3 a4 a5) (tree_Count.f (k + 1) a0 a1 a2 a3 a4 a5):=by
 intro a0 a1 a2 a3 a4 a5 k
 obtain ⟨ih0,ih1⟩:=tree_Count.mono_l k
 exact ih0 a0 a1 a2 a3 a4 a5
set_option maxHeartbeats 8000000 in
set_option maxRecDepth 100000 in
theorem tree_Count.calls (k : Nat) : ∀ (a0_0 : Int) (a0_1 : Bool) (a0_2 : ByteArray) (a0_3 : ByteArray) (A0_4 : Option Addr) (c0_4 : Nat) (l0_4 : List ByteArray) (A0_5 : Option Addr) (c0_5 : Nat) (l0_5 : List (S25)) (r : Int) (w : World) (hr0_4 : Kd.C Kd.string w A0_4 l0_4.length l0_4) (hc0_4 : l0_4.length ≤ c0_4) (hr0_5 : Kd.C k25 w A0_5 l0_5.length l0_5) (hc0_5 : l0_5.length ≤ c0_5) (h : tree_Count.f k a0_0 a0_1 a0_2 a0_3 l0_4 l0_5 = some r),
  Calls Tryd.prog 8 #[.agg #[.int .i64 a0_0,.bool a0_1,.string a0_2,.string a0_3,.slice A0_4 l0_4.length c0_4,.slice A0_5 l0_5.length c0_5]] w fun e w'=>e = .returned (.int .i64 r) ∧ Below w.heap.size w w':=by
 induction k using Nat.strongRecOn with
 | _ k ih =>
 intro a0_0 a0_1 a0_2 a0_3 A0_4 c0_4 l0_4 A0_5 c0_5 l0_5 r w hr0_4 hc0_4 hr0_5 hc0_5 h
 cases k with
 | zero=>exact absurd h (by simp [tree_Count.f])
 | succ k =>
 simp only [tree_Count.f] at h
 have hu25:=Tryd.underlying25
 have HR0_4:=Aside0.mk hr0_4
 have HC0_4:=Aside0.mk hc0_4
 clear hr0_4 hc0_4
 have HR0_5:=Aside0.mk hr0_5
 have HC0_5:=Aside0.mk hc0_5
 clear hr0_5 hc0_5
 have HB:=Aside0.mk (Below.refl w.heap.size w)
 have H : (tree_Count.l0 k 1 l0_5 (l0_5.length : Int) 0) = some r:=h
 clear h
 have H':=Aside0.mk H
 clear H
 go_enter Tryd.func8,Tryd.ntmps8
 go_wp2_with (first|((with_reducible refine gate_dst (N:=1) rfl ?_);refine box_event ?hg (N:=1) ?hd (cs:=#[.int .i64 a0_0,.bool a0_1,.string a0_2,.string a0_3,.slice A0_4 l0_4.length c0_4,.slice A0_5 l0_5.length c0_5]) (t:=25) ?hr ?_;(case hd=>rfl);(case hg=>rfl);(case hr=>first|(go_simp;done)|(go_simp;rfl));intro gb140 hg w2 hbox hb;have n0_:=Aside0.mk (below_step (by repeat (first|(with_reducible first|exact HB.out|apply below_alloc|apply pw_below_drewN|apply below_drew1)|exact HB.out)) hb);have n1_:=Aside0.mk (hbox);have n2_:=Aside0.mk ((by rw [hg];exact (below_size (by repeat (first|(with_reducible first|exact HB.out|apply below_alloc|apply pw_below_drewN|apply below_drew1)|exact HB.out))) : w.heap.size ≤ gb140));have n3_:=Aside0.mk ((by rw [hg];exact (below_size (by repeat (first|(with_reducible first|exact HB.out|apply below_alloc|apply pw_below_drewN|apply below_drew1)|exact HB.out))) : w.heap.size ≤ gb140));clear HB;have HB:=n0_;have BK140:=n1_;have GW140:=n2_;have GE140:=n3_;clear n0_ n1_ n2_ n3_;clear hb hbox hg;have hcz3_0 : w2.cell? ⟨gb140,0,none⟩ = some (.int .i64 a0_0):=(blk_cell BK140.out 0).trans rfl;have hcz3_1 : w2.cell? ⟨gb140,1,none⟩ = some (.bool a0_1):=(blk_cell BK140.out 1).trans rfl;have hcz3_2 : w2.cell? ⟨gb140,2,none⟩ = some (.string a0_2):=(blk_cell BK140.out 2).trans rfl;have hcz3_3 : w2.cell? ⟨gb140,3,none⟩ = some (.string a0_3):=(blk_cell BK140.out 3).trans rfl;have hcz3_4 : w2.cell? ⟨gb140,4,none⟩ = some (.slice A0_4 l0_4.length c0_4):=(blk_cell BK140.out 4).trans rfl;have hcz3_5 : w2.cell? ⟨gb140,5,none⟩ = some (.slice A0_5 l0_5.length c0_5):=(blk_cell BK140.out 5).trans rfl;have hfz3_0:=blk_frozen BK140.out 0;have hfz3_1:=blk_frozen BK140.out 1;have hfz3_2:=blk_frozen BK140.out 2;have hfz3_3:=blk_frozen BK140.out 3;have hfz3_4:=blk_frozen BK140.out 4;have hfz3_5:=blk_frozen BK140.out 5))
 go_loopg [3,9] k (fun kq v3 v9 w'=>∃ (x3_1 : Int) (x9_1 : Int),v3 = .int .i64 x3_1 ∧ v9 = .int .i64 x9_1 ∧ Aside0 (tree_Count.l0 kq x3_1 l0_5 (l0_5.length : Int) x9_1 = some r) ∧ Aside0 (kq ≤ k) ∧ Aside0 (w'.heap[gb140]? = some (.cells #[.int .i64 a0_0,.bool a0_1,.string a0_2,.string a0_3,(.slice A0_4 l0_4.length c0_4),(.slice A0_5 l0_5.length c0_5)] 25 (0,0))) ∧ Aside0 (Below w.heap.size w w'))
 case atStart=>exact ⟨(1),(0),(by first|rfl|(simp;done)|(simp [*];done)),(by first|rfl|(simp;done)|(simp [*];done)),H',⟨Nat.le_refl _⟩,⟨by (with_reducible repeat (first|refine blk_drewN ?_ _|refine blk_drew ?_|refine blk_alloc ?_ _));exact BK140.out⟩,⟨by repeat (first|(with_reducible first|exact HB.out|apply below_alloc|apply pw_below_drewN|apply below_drew1|refine below_set ?_ GE140.out)|exact HB.out)⟩⟩
 case round =>
  clear H'
  try clear p2
  try clear hcz3_0
  try clear hcz3_1
  try clear hcz3_2
  try clear hcz3_3
  try clear hcz3_4
  try clear hcz3_5
  try clear hfz3_0
  try clear hfz3_1
  try clear hfz3_2
  try clear hfz3_3
  try clear hfz3_4
  try clear hfz3_5
  try clear HK1
  try clear BK140
  try clear HB
  obtain ⟨x3_1,x9_1,rfl,rfl,HA,HK1,BK140,HB⟩:=hrel
  cases gk with
  | zero=>exact absurd HA.out (by simp [tree_Count.l0])
  | succ k1 =>
   have H:=HA.out
   clear HA
   simp only [tree_Count.l0] at H
   by_cases c4 : x9_1 < (l0_5.length : Int)
   ·rw [if_pos c4] at H
    have c4b0 : decide (x9_1 < (l0_5.length : Int)) = true:=decide_eq_true c4
    clear c4
    by_cases c5 : 0 ≤ x9_1
    ·rw [if_pos c5] at H
     have c5b0 : decide (0 ≤ x9_1) = true:=decide_eq_true c5
     clear c5
     by_cases c6 : x9_1 < (l0_5.length : Int)
     ·rw [if_pos c6] at H
      have c6b0 : decide (x9_1 < (l0_5.length : Int)) = true:=decide_eq_true c6
      clear c6
      replace H:=Option.bind_eq_some_iff.mp H
      obtain ⟨t143,A70,H⟩:=H
      replace H : (tree_Count.l0 k1 (wrap64 (x3_1 + t143)) l0_5 (l0_5.length : Int) (wrap64 (x9_1 + 1))) = some r:=H
      have A7:=Aside0.mk A70
      clear A70
      have H':=Aside0.mk H
      clear H
      have p141 : 0 ≤ (x9_1 : Int):=of_decide_eq_true (by first|(with_reducible assumption)|assumption)
      have q141 : x9_1 < (l0_5.length : Int):=of_decide_eq_true (by first|(with_reducible assumption)|assumption)
      obtain ⟨ad141,A141_4,c141_4,A141_5,c141_5,e141,hx141_0,hx141_1,hx141_2,hx141_3,hx141_4,hx141_5,hl141_4,hi141_4,hl141_5,hi141_5⟩:=at_T25 HR0_5.out x9_1 p141 q141
      cases e141
      replace hx141_0:=(HB.out.cell (World.block_lt_of_cell? w _ hx141_0)).trans hx141_0
      replace hx141_1:=(HB.out.cell (World.block_lt_of_cell? w _ hx141_1)).trans hx141_1
      replace hx141_2:=(HB.out.cell (World.block_lt_of_cell? w _ hx141_2)).trans hx141_2
      replace hx141_3:=(HB.out.cell (World.block_lt_of_cell? w _ hx141_3)).trans hx141_3
      replace hx141_4:=(HB.out.cell (World.block_lt_of_cell? w _ hx141_4)).trans hx141_4
      replace hx141_5:=(HB.out.cell (World.block_lt_of_cell? w _ hx141_5)).trans hx141_5
      have HR141_4:=Aside0.mk hi141_4
      have HC141_4:=Aside0.mk hl141_4
      clear hi141_4 hl141_4
      have HR141_5:=Aside0.mk hi141_5
      have HC141_5:=Aside0.mk hl141_5
      clear hi141_5 hl141_5
      replace p141:=eq_true p141
      replace q141:=eq_true q141
      go_wp2_with (first|((with_reducible refine gate_dst (N:=5) rfl ?_);refine box_event ?hg (N:=5) ?hd (cs:=#[.int .i64 0,.bool false,.string (⟨#[]⟩ : ByteArray),.string (⟨#[]⟩ : ByteArray),.slice none 0 0,.slice none 0 0]) (t:=25) ?hr ?_;(case hd=>rfl);(case hg=>rfl);(case hr=>first|(go_simp;done)|(go_simp;rfl));intro gb142 hg w8 hbox hb;have n0_:=Aside0.mk (blk_below (g:=gb140) (o:=.cells #[.int .i64 a0_0,.bool a0_1,.string a0_2,.string a0_3,.slice A0_4 l0_4.length c0_4,.slice (some ad141) l0_5.length c0_5] 25 (0,0)) (by (with_reducible repeat (first|refine blk_drewN ?_ _|refine blk_drew ?_|refine blk_alloc ?_ _));exact BK140.out) hb);have n1_:=Aside0.mk (below_step (by repeat (first|(with_reducible first|exact HB.out|apply below_alloc|apply pw_below_drewN|apply below_drew1|refine below_set ?_ GE140.out)|exact HB.out)) hb);have n2_:=Aside0.mk (hbox);have n3_:=Aside0.mk ((by rw [hg];exact (below_size (by repeat (first|(with_reducible first|exact HB.out|apply below_alloc|apply pw_below_drewN|apply below_drew1|refine below_set ?_ GE140.out)|exact HB.out))) : w.heap.size ≤ gb142));have n4_:=Aside0.mk ((by rw [hg];exact (below_size (by repeat (first|(with_reducible first|exact HB.out|apply below_alloc|apply pw_below_drewN|apply below_drew1|refine below_set ?_ GE140.out)|exact HB.out))) : w.heap.size ≤ gb142));have n5_:=Aside0.mk ((by rw [hg];exact Nat.ne_of_lt (blk_lt (g:=gb140) (o:=.cells #[.int .i64 a0_0,.bool a0_1,.string a0_2,.string a0_3,.slice A0_4 l0_4.length c0_4,.slice (some ad141) l0_5.length c0_5] 25 (0,0)) (by (with_reducible repeat (first|refine blk_drewN ?_ _|refine blk_drew ?_|refine blk_alloc ?_ _));exact BK140.out)) : gb140 ≠ gb142));have n6_:=Aside0.mk ((by rw [hg];exact Nat.ne_of_gt (blk_lt (g:=gb140) (o:=.cells #[.int .i64 a0_0,.bool a0_1,.string a0_2,.string a0_3,.slice A0_4 l0_4.length c0_4,.slice (some ad141) l0_5.length c0_5] 25 (0,0)) (by (with_reducible repeat (first|refine blk_drewN ?_ _|refine blk_drew ?_|refine blk_alloc ?_ _));exact BK140.out)) : gb142 ≠ gb140));clear BK140;clear HB;have BK140:=n0_;have HB:=n1_;have BK142:=n2_;have GW142:=n3_;have GE142:=n4_;have NB140_142:=n5_;have NB142_140:=n6_;clear n0_ n1_ n2_ n3_ n4_ n5_ n6_;clear hb hbox hg;have hnb9:=NB142_140.out;have hnc9:=NB140_142.out;have hcz10_0 : w8.cell? ⟨gb142,0,none⟩ = some (.int .i64 0):=(blk_cell BK142.out 0).trans rfl;have hcz10_1 : w8.cell? ⟨gb142,1,none⟩ = some (.bool false):=(blk_cell BK142.out 1).trans rfl;have hcz10_2 : w8.cell? ⟨gb142,2,none⟩ = some (.string (⟨#[]⟩ : ByteArray)):=(blk_cell BK142.out 2).trans rfl;have hcz10_3 : w8.cell? ⟨gb142,3,none⟩ = some (.string (⟨#[]⟩ : ByteArray)):=(blk_cell BK142.out 3).trans rfl;have hcz10_4 : w8.cell? ⟨gb142,4,none⟩ = some (.slice none 0 0):=(blk_cell BK142.out 4).trans rfl;have hcz10_5 : w8.cell? ⟨gb142,5,none⟩ = some (.slice none 0 0):=(blk_cell BK142.out 5).trans rfl;have hfz10_0:=blk_frozen BK142.out 0;have hfz10_1:=blk_frozen BK142.out 1;have hfz10_2:=blk_frozen BK142.out 2;have hfz10_3:=blk_frozen BK142.out 3;have hfz10_4:=blk_frozen BK142.out 4;have hfz10_5:=blk_frozen BK142.out 5)|((with_reducible refine gate_callee (f:=8) rfl ?_);refine goesL_ (some 15) rfl rfl Tryd.func8 (by kernel_rfl) rfl #[.agg #[.int .i64 ((rd_T25 l0_5 x9_1).f0),.bool ((rd_T25 l0_5 x9_1).f1),.string ((rd_T25 l0_5 x9_1).f2),.string ((rd_T25 l0_5 x9_1).f3),.slice A141_4 ((rd_T25 l0_5 x9_1).f4).length c141_4,.slice A141_5 ((rd_T25 l0_5 x9_1).f5).length c141_5]] rfl (by (try simp only [List.map_toArray,List.map_cons,List.map_nil]);first|done|rfl|(simp only [List.length_drop,List.length_take];rfl)) ?_;(with_reducible refine (ih k1 (by have:=HK1.out;omega) ((rd_T25 l0_5 x9_1).f0) ((rd_T25 l0_5 x9_1).f1) ((rd_T25 l0_5 x9_1).f2) ((rd_T25 l0_5 x9_1).f3) _ _ ((rd_T25 l0_5 x9_1).f4) _ _ ((rd_T25 l0_5 x9_1).f5) t143 _ ?side1 ?side2 ?side3 ?side4 A7.out).mono ?_);(case side1=>exact Kd.C_below HR141_4.out (by repeat (first|(with_reducible first|exact HB.out|apply below_alloc|apply pw_below_drewN|apply below_drew1|refine below_set ?_ GE140.out|refine below_set ?_ GE142.out)|exact HB.out)));(case side2=>exact HC141_4.out);(case side3=>exact Kd.C_below HR141_5.out (by repeat (first|(with_reducible first|exact HB.out|apply below_alloc|apply pw_below_drewN|apply below_drew1|refine below_set ?_ GE140.out|refine below_set ?_ GE142.out)|exact HB.out)));(case side4=>exact HC141_5.out);rintro e w11 ⟨rfl,hb⟩;refine ⟨_,rfl,?_⟩;have n0_:=Aside0.mk (blk_below (g:=gb140) (o:=.cells #[.int .i64 a0_0,.bool a0_1,.string a0_2,.string a0_3,.slice A0_4 l0_4.length c0_4,.slice (some ad141) l0_5.length c0_5] 25 (0,0)) (by (with_reducible repeat (first|refine blk_drewN ?_ _|refine blk_drew ?_|refine blk_alloc ?_ _));refine blk_far ?_ NB140_142.out _;(with_reducible repeat (first|refine blk_drewN ?_ _|refine blk_drew ?_|refine blk_alloc ?_ _));refine blk_far ?_ NB140_142.out _;(with_reducible repeat (first|refine blk_drewN ?_ _|refine blk_drew ?_|refine blk_alloc ?_ _));refine blk_far ?_ NB140_142.out _;(with_reducible repeat (first|refine blk_drewN ?_ _|refine blk_drew ?_|refine blk_alloc ?_ _));refine blk_far ?_ NB140_142.out _;(with_reducible repeat (first|refine blk_drewN ?_ _|refine blk_drew ?_|refine blk_alloc ?_ _));refine blk_far ?_ NB140_142.out _;(with_reducible repeat (first|refine blk_drewN ?_ _|refine blk_drew ?_|refine blk_alloc ?_ _));refine blk_far ?_ NB140_142.out _;(with_reducible repeat (first|refine blk_drewN ?_ _|refine blk_drew ?_|refine blk_alloc ?_ _));exact BK140.out) hb);have n1_:=Aside0.mk (blk_below (g:=gb142) (o:=.cells #[.int .i64 ((rd_T25 l0_5 x9_1).f0),.bool ((rd_T25 l0_5 x9_1).f1),.string ((rd_T25 l0_5 x9_1).f2),.string ((rd_T25 l0_5 x9_1).f3),.slice A141_4 ((rd_T25 l0_5 x9_1).f4).length c141_4,.slice A141_5 ((rd_T25 l0_5 x9_1).f5).length c141_5] 25 (0,0)) (by (with_reducible repeat (first|refine blk_drewN ?_ _|refine blk_drew ?_|refine blk_alloc ?_ _));refine blk_put (cs:=#[.int .i64 ((rd_T25 l0_5 x9_1).f0),.bool ((rd_T25 l0_5 x9_1).f1),.string ((rd_T25 l0_5 x9_1).f2),.string ((rd_T25 l0_5 x9_1).f3),.slice A141_4 ((rd_T25 l0_5 x9_1).f4).length c141_4,.slice none 0 0]) ?_ 5 _ (by first|rfl|(simp only [px_pos,px_ne];rfl)|simp [px_pos,px_ne]);(with_reducible repeat (first|refine blk_drewN ?_ _|refine blk_drew ?_|refine blk_alloc ?_ _));refine blk_put (cs:=#[.int .i64 ((rd_T25 l0_5 x9_1).f0),.bool ((rd_T25 l0_5 x9_1).f1),.string ((rd_T25 l0_5 x9_1).f2),.string ((rd_T25 l0_5 x9_1).f3),.slice none 0 0,.slice none 0 0]) ?_ 4 _ (by first|rfl|(simp only [px_pos,px_ne];rfl)|simp [px_pos,px_ne]);(with_reducible repeat (first|refine blk_drewN ?_ _|refine blk_drew ?_|refine blk_alloc ?_ _));refine blk_put (cs:=#[.int .i64 ((rd_T25 l0_5 x9_1).f0),.bool ((rd_T25 l0_5 x9_1).f1),.string ((rd_T25 l0_5 x9_1).f2),.string (⟨#[]⟩ : ByteArray),.slice none 0 0,.slice none 0 0]) ?_ 3 _ (by first|rfl|(simp only [px_pos,px_ne];rfl)|simp [px_pos,px_ne]);(with_reducible repeat (first|refine blk_drewN ?_ _|refine blk_drew ?_|refine blk_alloc ?_ _));refine blk_put (cs:=#[.int .i64 ((rd_T25 l0_5 x9_1).f0),.bool ((rd_T25 l0_5 x9_1).f1),.string (⟨#[]⟩ : ByteArray),.string (⟨#[]⟩ : ByteArray),.slice none 0 0,.slice none 0 0]) ?_ 2 _ (by first|rfl|(simp only [px_pos,px_ne];rfl)|simp [px_pos,px_ne]);(with_reducible repeat (first|refine blk_drewN ?_ _|refine blk_drew ?_|refine blk_alloc ?_ _));refine blk_put (cs:=#[.int .i64 ((rd_T25 l0_5 x9_1).f0),.bool false,.string (⟨#[]⟩ : ByteArray),.string (⟨#[]⟩ : ByteArray),.slice none 0 0,.slice none 0 0]) ?_ 1 _ (by first|rfl|(simp only [px_pos,px_ne];rfl)|simp [px_pos,px_ne]);(with_reducible repeat (first|refine blk_drewN ?_ _|refine blk_drew ?_|refine blk_alloc ?_ _));refine blk_put (cs:=#[.int .i64 0,.bool false,.string (⟨#[]⟩ : ByteArray),.string (⟨#[]⟩ : ByteArray),.slice none 0 0,.slice none 0 0]) ?_ 0 _ (by first|rfl|(simp only [px_pos,px_ne];rfl)|simp [px_pos,px_ne]);(with_reducible repeat (first|refine blk_drewN ?_ _|refine blk_drew ?_|refine blk_alloc ?_ _));exact BK142.out) hb);have n2_:=Aside0.mk (below_step (by repeat (first|(with_reducible first|exact HB.out|apply below_alloc|apply pw_below_drewN|apply below_drew1|refine below_set ?_ GE140.out|refine below_set ?_ GE142.out)|exact HB.out)) hb);clear BK140;clear BK142;clear HB;have BK140:=n0_;have BK142:=n1_;have HB:=n2_;clear n0_ n1_ n2_;(try clear hb);(try clear hb2);(try clear hk);(try clear hi)))
      go_roundg k1
      case measure=>have:=HK1.out;omega
      case rel=>exact ⟨(wrap64 (x3_1 + t143)),(wrap64 (x9_1 + 1)),(by first|rfl|(simp;done)|(simp [*];done)),(by first|rfl|(simp;done)|(simp [*];done)),(by first|exact H'|(subst_vars;exact H')),⟨by have:=HK1.out;omega⟩,⟨by (with_reducible repeat (first|refine blk_drewN ?_ _|refine blk_drew ?_|refine blk_alloc ?_ _));exact BK140.out⟩,⟨by repeat (first|(with_reducible first|exact HB.out|apply below_alloc|apply pw_below_drewN|apply below_drew1|refine below_set ?_ GE140.out|refine below_set ?_ GE142.out)|exact HB.out)⟩⟩
     ·rw [if_neg c6] at H
      exact absurd H (by simp)
    ·rw [if_neg c5] at H
     exact absurd H (by simp)
   ·rw [if_neg c4] at H
    have c4b0 : decide (x9_1 < (l0_5.length : Int)) = false:=decide_eq_false c4
    clear c4
    obtain rfl:=Option.some.inj H
    go_wp2
    go_ret
    exact ⟨by first|rfl|(simp [errW_none,errW_some] <;> rfl)|(simp [*,errW_none,errW_some] <;> rfl),by repeat (first|(with_reducible first|exact HB.out|apply below_alloc|apply pw_below_drewN|apply below_drew1|refine below_set ?_ GE140.out)|exact HB.out)⟩
def quarryref00_told.f (a0 : Int) (a1 : Int) (a2 : Int) : Option (Int):=if a1 > 1025 then (some (wrap64 (1 + a0))) else (some (wrap64 ((wrap64 ((wrap64 (16 + (wrap64 (6 * a0)))) + (wrap64 (16 * a1)))) + a2)))
set_option maxHeartbeats 8000000 in
set_option maxRecDepth 100000 in
theorem quarryref00_told.calls (a0 : Int) (a1 : Int) (a2 : Int) (r : Int) (w : World) (h : quarryref00_told.f a0 a1 a2 = some r) :
  Calls Tryd.prog 27 #[.int .i64 a0,.int .i64 a1,.int .i64 a2] w fun e w'=>e = .returned (.int .i64 r) ∧ Drawn0 w w':=by
 have H : (if a1 > 1025 then (some (wrap64 (1 + a0))) else (some (wrap64 ((wrap64 ((wrap64 (16 + (wrap64 (6 * a0)))) + (wrap64 (16 * a1)))) + a2)))) = some r:=h
 clear h
 by_cases c4 : a1 > 1025
 ·rw [if_pos c4] at H
  have c4b0 : decide (1025 < a1) = true:=decide_eq_true c4
  clear c4
  obtain rfl:=Option.some.inj H
  go_enter Tryd.func27,Tryd.ntmps27
  go_wp2
  go_ret
  exact ⟨by first|rfl|(simp;done)|(simp [*];done),by repeat (first|exact Drawn0.refl _|apply Drawn0.step)⟩
 ·rw [if_neg c4] at H
  have c4b0 : decide (1025 < a1) = false:=decide_eq_false c4
  clear c4
  obtain rfl:=Option.some.inj H
  go_enter Tryd.func27,Tryd.ntmps27
  go_wp2
  go_ret
  exact ⟨by first|rfl|(simp;done)|(simp [*];done),by repeat (first|exact Drawn0.refl _|apply Drawn0.step)⟩
end Go.Proofs.YtgbiobbhaejjlaaDoor.PTreeShapes
