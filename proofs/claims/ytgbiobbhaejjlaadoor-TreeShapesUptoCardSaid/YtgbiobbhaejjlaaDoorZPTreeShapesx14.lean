-- Written by shrink.py, a program of this session: what the law needs of the print and its words. Lean checks it.
import Derived.Test.YtgbiobbhaejjlaaDoorZPTreeShapesx0
import Derived.Test.YtgbiobbhaejjlaaDoorZPTreeShapesx13
namespace Go.Proofs.YtgbiobbhaejjlaaDoor.PTreeShapes
open Go.RowKit Go.Proofs.YtgbiobbhaejjlaaDoorW.PrintWords Go.Proofs.YtgbiobbhaejjlaaDoorW.PrintLast Go.Proofs.YtgbiobbhaejjlaaDoorW.PrintMore
attribute [local go_sem] max2_int min2_int max_two min_two max_three min_three max_four min_four
set_option linter.unusedVariables false
set_option linter.unusedSimpArgs false
mutual
def quarryref00_leftOfValue.j1 : Nat → Int → Int → Int → Int → Bool → ByteArray → ByteArray → List ByteArray → List (S25) → Option (Int)
 | 0,_,_,_,_,_,_,_,_,_=>none
 | k + 1,x1,x2,x3,x145000,x145001,x145002,x145003,x145004,x145005=>quarryref00_leftOfValue.l1 k x1 x2 x3 0 x145000 x145001 x145002 x145003 x145004 x145005
def quarryref00_leftOfValue.l1 : Nat → Int → Int → Int → Int → Int → Bool → ByteArray → ByteArray → List ByteArray → List (S25) → Option (Int)
 | 0,_,_,_,_,_,_,_,_,_,_=>none
 | k + 1,x1,x2,x3,x10,x145000,x145001,x145002,x145003,x145004,x145005=>if x10 < (x145005.length : Int) then (quarryref00_leftOfValue.j3 k x1 x2 x3 x10 (decide (x3 ≥ 0)) x145000 x145001 x145002 x145003 x145004 x145005) else (quarryref00_leftOfValue.j3 k x1 x2 x3 x10 false x145000 x145001 x145002 x145003 x145004 x145005)
def quarryref00_leftOfValue.j3 : Nat → Int → Int → Int → Int → Bool → Int → Bool → ByteArray → ByteArray → List ByteArray → List (S25) → Option (Int)
 | 0,_,_,_,_,_,_,_,_,_,_,_=>none
 | k + 1,x1,x2,x3,x10,x55,x145000,x145001,x145002,x145003,x145004,x145005=>if x55 = true then (if x10 < (x145004.length : Int) then (if 0 ≤ x10 then (if x10 < (x145005.length : Int) then ((quarryref00_leftOfValue.f k ((rd_T25 x145005 x10).f0) ((rd_T25 x145005 x10).f1) ((rd_T25 x145005 x10).f2) ((rd_T25 x145005 x10).f3) ((rd_T25 x145005 x10).f4) ((rd_T25 x145005 x10).f5) (wrap64 (x1 + 1)) (wrap64 ((wrap64 (x2 + 21)) + (wrap64 (2 * ((rdOf ByteArray.empty x145004 x10).size : Int))))) x3).bind fun t150=>(quarryref00_leftOfValue.l1 k x1 x2 t150 (wrap64 (x10 + 1)) x145000 x145001 x145002 x145003 x145004 x145005)) else (none)) else (none)) else (if 0 ≤ x10 then (if x10 < (x145005.length : Int) then ((quarryref00_leftOfValue.f k ((rd_T25 x145005 x10).f0) ((rd_T25 x145005 x10).f1) ((rd_T25 x145005 x10).f2) ((rd_T25 x145005 x10).f3) ((rd_T25 x145005 x10).f4) ((rd_T25 x145005 x10).f5) (wrap64 (x1 + 1)) (wrap64 (x2 + 21)) x3).bind fun t152=>(quarryref00_leftOfValue.l1 k x1 x2 t152 (wrap64 (x10 + 1)) x145000 x145001 x145002 x145003 x145004 x145005)) else (none)) else (none))) else (some x3)
def quarryref00_leftOfValue.l0 : Nat → Int → Int → Int → Int → Int → Bool → ByteArray → ByteArray → List ByteArray → List (S25) → Option (Int)
 | 0,_,_,_,_,_,_,_,_,_,_=>none
 | k + 1,x1,x2,x3,x9,x145000,x145001,x145002,x145003,x145004,x145005=>if x9 < (x145004.length : Int) then (if x3 ≥ 0 then (if 0 ≤ x9 then ((quarryref00_told.f ((rdOf ByteArray.empty x145004 x9).size : Int) x1 0).bind fun t147=>(quarryref00_leftOfValue.l0 k x1 x2 (wrap64 (x3 - t147)) (wrap64 (x9 + 1)) x145000 x145001 x145002 x145003 x145004 x145005)) else (none)) else (quarryref00_leftOfValue.j1 k x1 x2 x3 x145000 x145001 x145002 x145003 x145004 x145005)) else (quarryref00_leftOfValue.j1 k x1 x2 x3 x145000 x145001 x145002 x145003 x145004 x145005)
def quarryref00_leftOfValue.f : Nat → Int → Bool → ByteArray → ByteArray → List ByteArray → List (S25) → Int → Int → Int → Option (Int)
 | 0,_,_,_,_,_,_,_,_,_=>none
 | k + 1,a0_0,a0_1,a0_2,a0_3,l0_4,l0_5,a1,a2,a3=>if a1 > 65536 then (some (-1)) else ((quarryref00_told.f (wrap64 ((a0_2.size : Int) + (a0_3.size : Int))) a1 a2).bind fun t145=>(quarryref00_leftOfValue.l0 k a1 a2 (wrap64 (a3 - t145)) 0 a0_0 a0_1 a0_2 a0_3 l0_4 l0_5))
end
set_option maxHeartbeats 8000000 in
set_option maxRecDepth 100000 in
theorem quarryref00_leftOfValue.calls (k : Nat) : ∀ (a0_0 : Int) (a0_1 : Bool) (a0_2 : ByteArray) (a0_3 : ByteArray) (A0_4 : Option Addr) (c0_4 : Nat) (l0_4 : List ByteArray) (A0_5 : Option Addr) (c0_5 : Nat) (l0_5 : List (S25)) (a1 : Int) (a2 : Int) (a3 : Int) (r : Int) (w : World) (hr0_4 : Kd.C Kd.string w A0_4 l0_4.length l0_4) (hc0_4 : l0_4.length ≤ c0_4) (hr0_5 : Kd.C k25 w A0_5 l0_5.length l0_5) (hc0_5 : l0_5.length ≤ c0_5) (h : quarryref00_leftOfValue.f k a0_0 a0_1 a0_2 a0_3 l0_4 l0_5 a1 a2 a3 = some r),
  Calls Tryd.prog 19 #[.agg #[.int .i64 a0_0,.bool a0_1,.string a0_2,.string a0_3,.slice A0_4 l0_4.length c0_4,.slice A0_5 l0_5.length c0_5],.int .i64 a1,.int .i64 a2,.int .i64 a3] w fun e w'=>e = .returned (.int .i64 r) ∧ Below w.heap.size w w':=by
 induction k using Nat.strongRecOn with
 | _ k ih =>
 intro a0_0 a0_1 a0_2 a0_3 A0_4 c0_4 l0_4 A0_5 c0_5 l0_5 a1 a2 a3 r w hr0_4 hc0_4 hr0_5 hc0_5 h
 cases k with
 | zero=>exact absurd h (by simp [quarryref00_leftOfValue.f])
 | succ k =>
 simp only [quarryref00_leftOfValue.f] at h
 have hu25:=Tryd.underlying25
 have HR0_4:=Aside0.mk hr0_4
 have HC0_4:=Aside0.mk hc0_4
 clear hr0_4 hc0_4
 have HR0_5:=Aside0.mk hr0_5
 have HC0_5:=Aside0.mk hc0_5
 clear hr0_5 hc0_5
 have HB:=Aside0.mk (Below.refl w.heap.size w)
 have H : (if a1 > 65536 then (some (-1)) else ((quarryref00_told.f (wrap64 ((a0_2.size : Int) + (a0_3.size : Int))) a1 a2).bind fun t145=>(quarryref00_leftOfValue.l0 k a1 a2 (wrap64 (a3 - t145)) 0 a0_0 a0_1 a0_2 a0_3 l0_4 l0_5))) = some r:=h
 clear h
 by_cases c5 : a1 > 65536
 ·rw [if_pos c5] at H
  have c5b0 : decide (65536 < a1) = true:=decide_eq_true c5
  clear c5
  obtain rfl:=Option.some.inj H
  go_enter Tryd.func19,Tryd.ntmps19
  go_wp2_with (first|((with_reducible refine gate_dst (N:=4) rfl ?_);refine box_event ?hg (N:=4) ?hd (cs:=#[.int .i64 a0_0,.bool a0_1,.string a0_2,.string a0_3,.slice A0_4 l0_4.length c0_4,.slice A0_5 l0_5.length c0_5]) (t:=25) ?hr ?_;(case hd=>rfl);(case hg=>rfl);(case hr=>first|(go_simp;done)|(go_simp;rfl));intro gb144 hg w6 hbox hb;have n0_:=Aside0.mk (below_step (by repeat (first|(with_reducible first|exact HB.out|apply below_alloc|apply pw_below_drewN|apply below_drew1)|exact HB.out)) hb);have n1_:=Aside0.mk (hbox);have n2_:=Aside0.mk ((by rw [hg];exact (below_size (by repeat (first|(with_reducible first|exact HB.out|apply below_alloc|apply pw_below_drewN|apply below_drew1)|exact HB.out))) : w.heap.size ≤ gb144));have n3_:=Aside0.mk ((by rw [hg];exact (below_size (by repeat (first|(with_reducible first|exact HB.out|apply below_alloc|apply pw_below_drewN|apply below_drew1)|exact HB.out))) : w.heap.size ≤ gb144));clear HB;have HB:=n0_;have BK144:=n1_;have GW144:=n2_;have GE144:=n3_;clear n0_ n1_ n2_ n3_;clear hb hbox hg))
  go_ret
  exact ⟨by first|rfl|(simp [errW_none,errW_some] <;> rfl)|(simp [*,errW_none,errW_some] <;> rfl),by repeat (first|(with_reducible first|exact HB.out|apply below_alloc|apply pw_below_drewN|apply below_drew1|refine below_set ?_ GE144.out)|exact HB.out)⟩
 ·rw [if_neg c5] at H
  have c5b0 : decide (65536 < a1) = false:=decide_eq_false c5
  clear c5
  replace H:=Option.bind_eq_some_iff.mp H
  obtain ⟨t145,A70,H⟩:=H
  replace H : (quarryref00_leftOfValue.l0 k a1 a2 (wrap64 (a3 - t145)) 0 a0_0 a0_1 a0_2 a0_3 l0_4 l0_5) = some r:=H
  have A7:=Aside0.mk A70
  clear A70
  have HC8:=Aside0.mk H
  clear H
  go_enter Tryd.func19,Tryd.ntmps19
  go_upto_block 0 with (first|((with_reducible refine gate_dst (N:=4) rfl ?_);refine box_event ?hg (N:=4) ?hd (cs:=#[.int .i64 a0_0,.bool a0_1,.string a0_2,.string a0_3,.slice A0_4 l0_4.length c0_4,.slice A0_5 l0_5.length c0_5]) (t:=25) ?hr ?_;(case hd=>rfl);(case hg=>rfl);(case hr=>first|(go_simp;done)|(go_simp;rfl));intro gb144 hg w9 hbox hb;have n0_:=Aside0.mk (below_step (by repeat (first|(with_reducible first|exact HB.out|apply below_alloc|apply pw_below_drewN|apply below_drew1)|exact HB.out)) hb);have n1_:=Aside0.mk (hbox);have n2_:=Aside0.mk ((by rw [hg];exact (below_size (by repeat (first|(with_reducible first|exact HB.out|apply below_alloc|apply pw_below_drewN|apply below_drew1)|exact HB.out))) : w.heap.size ≤ gb144));have n3_:=Aside0.mk ((by rw [hg];exact (below_size (by repeat (first|(with_reducible first|exact HB.out|apply below_alloc|apply pw_below_drewN|apply below_drew1)|exact HB.out))) : w.heap.size ≤ gb144));clear HB;have HB:=n0_;have BK144:=n1_;have GW144:=n2_;have GE144:=n3_;clear n0_ n1_ n2_ n3_;clear hb hbox hg;have hcz10_0 : w9.cell? ⟨gb144,0,none⟩ = some (.int .i64 a0_0):=(blk_cell BK144.out 0).trans rfl;have hcz10_1 : w9.cell? ⟨gb144,1,none⟩ = some (.bool a0_1):=(blk_cell BK144.out 1).trans rfl;have hcz10_2 : w9.cell? ⟨gb144,2,none⟩ = some (.string a0_2):=(blk_cell BK144.out 2).trans rfl;have hcz10_3 : w9.cell? ⟨gb144,3,none⟩ = some (.string a0_3):=(blk_cell BK144.out 3).trans rfl;have hcz10_4 : w9.cell? ⟨gb144,4,none⟩ = some (.slice A0_4 l0_4.length c0_4):=(blk_cell BK144.out 4).trans rfl;have hcz10_5 : w9.cell? ⟨gb144,5,none⟩ = some (.slice A0_5 l0_5.length c0_5):=(blk_cell BK144.out 5).trans rfl;have hfz10_0:=blk_frozen BK144.out 0;have hfz10_1:=blk_frozen BK144.out 1;have hfz10_2:=blk_frozen BK144.out 2;have hfz10_3:=blk_frozen BK144.out 3;have hfz10_4:=blk_frozen BK144.out 4;have hfz10_5:=blk_frozen BK144.out 5)|((with_reducible refine gate_callee (f:=27) rfl ?_);refine goesL_ (some 24) rfl rfl Tryd.func27 (by kernel_rfl) rfl #[.int .i64 (wrap64 ((a0_2.size : Int) + (a0_3.size : Int))),.int .i64 a1,.int .i64 a2] rfl (by (try simp only [List.map_toArray,List.map_cons,List.map_nil]);first|done|rfl|(simp only [List.length_drop,List.length_take];rfl)) ?_;(with_reducible refine (quarryref00_told.calls (wrap64 ((a0_2.size : Int) + (a0_3.size : Int))) a1 a2 t145 _ A7.out).mono ?_);rintro e w' ⟨rfl,⟨nd,rfl⟩⟩;refine ⟨_,rfl,?_⟩))
  (try simp only [Act.put,List.setIfInBounds_toArray,List.set_cons_zero,List.set_cons_succ])
  go_cut [3] (fun v3 wc=>∃ (kq : Nat) (x3_7 : Int),v3 = .int .i64 x3_7 ∧ Aside0 (quarryref00_leftOfValue.j1 kq a1 a2 x3_7 a0_0 a0_1 a0_2 a0_3 l0_4 l0_5 = some r) ∧ Aside0 (kq ≤ k) ∧ Aside0 (wc.heap[gb144]? = some (.cells #[.int .i64 a0_0,.bool a0_1,.string a0_2,.string a0_3,(.slice A0_4 l0_4.length c0_4),(.slice A0_5 l0_5.length c0_5)] 25 (0,0))) ∧ Aside0 (Below w.heap.size w wc))
  case first =>
   have H:=HC8.out
   clear HC8
   have H':=Aside0.mk H
   clear H
   go_wp2
   go_loopg [3,9] k (fun kq v3 v9 w'=>∃ (x3_1 : Int) (x9_1 : Int),v3 = .int .i64 x3_1 ∧ v9 = .int .i64 x9_1 ∧ Aside0 (quarryref00_leftOfValue.l0 kq a1 a2 x3_1 x9_1 a0_0 a0_1 a0_2 a0_3 l0_4 l0_5 = some r) ∧ Aside0 (kq ≤ k) ∧ Aside0 (w'.heap[gb144]? = some (.cells #[.int .i64 a0_0,.bool a0_1,.string a0_2,.string a0_3,(.slice A0_4 l0_4.length c0_4),(.slice A0_5 l0_5.length c0_5)] 25 (0,0))) ∧ Aside0 (Below w.heap.size w w'))
   case atStart=>exact ⟨(wrap64 (a3 - t145)),(0),(by first|rfl|(simp;done)|(simp [*];done)),(by first|rfl|(simp;done)|(simp [*];done)),H',⟨Nat.le_refl _⟩,⟨by (with_reducible repeat (first|refine blk_drewN ?_ _|refine blk_drew ?_|refine blk_alloc ?_ _));exact BK144.out⟩,⟨by repeat (first|(with_reducible first|exact HB.out|apply below_alloc|apply pw_below_drewN|apply below_drew1|refine below_set ?_ GE144.out)|exact HB.out)⟩⟩
   case round =>
    clear H'
    try clear c1
    try clear c2
    try clear p2
    try clear c5
    try clear c5b0
    try clear p6
    try clear hcz10_0
    try clear hcz10_1
    try clear hcz10_2
    try clear hcz10_3
    try clear hcz10_4
    try clear hcz10_5
    try clear hfz10_0
    try clear hfz10_1
    try clear hfz10_2
    try clear hfz10_3
    try clear hfz10_4
    try clear hfz10_5
    try clear HK1
    try clear BK144
    try clear HB
    obtain ⟨x3_1,x9_1,rfl,rfl,HA,HK1,BK144,HB⟩:=hrel
    cases gk with
    | zero=>exact absurd HA.out (by simp [quarryref00_leftOfValue.l0])
    | succ k1 =>
     have H:=HA.out
     clear HA
     simp only [quarryref00_leftOfValue.l0] at H
     by_cases c11 : x9_1 < (l0_4.length : Int)
     ·rw [if_pos c11] at H
      have c11b0 : decide (x9_1 < (l0_4.length : Int)) = true:=decide_eq_true c11
      clear c11
      (first|rw [c11b0]|(simp only [i64_w,i32_w];rw [c11b0])|skip)
      by_cases c12 : x3_1 ≥ 0
      ·rw [if_pos c12] at H
       have c12b0 : decide (0 ≤ x3_1) = true:=decide_eq_true c12
       clear c12
       by_cases c13 : 0 ≤ x9_1
       ·rw [if_pos c13] at H
        have c13b0 : decide (0 ≤ x9_1) = true:=decide_eq_true c13
        clear c13
        replace H:=Option.bind_eq_some_iff.mp H
        obtain ⟨t147,A140,H⟩:=H
        replace H : (quarryref00_leftOfValue.l0 k1 a1 a2 (wrap64 (x3_1 - t147)) (wrap64 (x9_1 + 1)) a0_0 a0_1 a0_2 a0_3 l0_4 l0_5) = some r:=H
        have A14:=Aside0.mk A140
        clear A140
        have H':=Aside0.mk H
        clear H
        have hcz15_0 : wr.cell? ⟨gb144,0,none⟩ = some (.int .i64 a0_0):=(blk_cell BK144.out 0).trans rfl
        have hcz15_1 : wr.cell? ⟨gb144,1,none⟩ = some (.bool a0_1):=(blk_cell BK144.out 1).trans rfl
        have hcz15_2 : wr.cell? ⟨gb144,2,none⟩ = some (.string a0_2):=(blk_cell BK144.out 2).trans rfl
        have hcz15_3 : wr.cell? ⟨gb144,3,none⟩ = some (.string a0_3):=(blk_cell BK144.out 3).trans rfl
        have hcz15_4 : wr.cell? ⟨gb144,4,none⟩ = some (.slice A0_4 l0_4.length c0_4):=(blk_cell BK144.out 4).trans rfl
        have hcz15_5 : wr.cell? ⟨gb144,5,none⟩ = some (.slice A0_5 l0_5.length c0_5):=(blk_cell BK144.out 5).trans rfl
        have hfz15_0:=blk_frozen BK144.out 0
        have hfz15_1:=blk_frozen BK144.out 1
        have hfz15_2:=blk_frozen BK144.out 2
        have hfz15_3:=blk_frozen BK144.out 3
        have hfz15_4:=blk_frozen BK144.out 4
        have hfz15_5:=blk_frozen BK144.out 5
        have p146 : 0 ≤ (x9_1 : Int):=of_decide_eq_true (by first|(with_reducible assumption)|assumption)
        have q146 : x9_1 < (l0_4.length : Int):=of_decide_eq_true (by first|(with_reducible assumption)|assumption)
        obtain ⟨ad146,e146,hx146_0⟩:=Kd.at_string HR0_4.out x9_1 p146 q146
        cases e146
        replace hx146_0:=(HB.out.cell (World.block_lt_of_cell? w _ hx146_0)).trans hx146_0
        replace p146:=eq_true p146
        replace q146:=eq_true q146
        go_wp2_with (first|((with_reducible refine gate_callee (f:=27) rfl ?_);refine goesL_ (some 45) rfl rfl Tryd.func27 (by kernel_rfl) rfl #[.int .i64 ((rdOf ByteArray.empty l0_4 x9_1).size : Int),.int .i64 a1,.int .i64 0] rfl (by (try simp only [List.map_toArray,List.map_cons,List.map_nil]);first|done|rfl|(simp only [List.length_drop,List.length_take];rfl)) ?_;(with_reducible refine (quarryref00_told.calls ((rdOf ByteArray.empty l0_4 x9_1).size : Int) a1 0 t147 _ A14.out).mono ?_);rintro e w' ⟨rfl,⟨nd,rfl⟩⟩;refine ⟨_,rfl,?_⟩))
        go_roundg k1
        case measure=>have:=HK1.out;omega
        case rel=>exact ⟨(wrap64 (x3_1 - t147)),(wrap64 (x9_1 + 1)),(by first|rfl|(simp;done)|(simp [*];done)),(by first|rfl|(simp;done)|(simp [*];done)),(by first|exact H'|(subst_vars;exact H')),⟨by have:=HK1.out;omega⟩,⟨by (with_reducible repeat (first|refine blk_drewN ?_ _|refine blk_drew ?_|refine blk_alloc ?_ _));exact BK144.out⟩,⟨by repeat (first|(with_reducible first|exact HB.out|apply below_alloc|apply pw_below_drewN|apply below_drew1|refine below_set ?_ GE144.out)|exact HB.out)⟩⟩
       ·rw [if_neg c13] at H
        exact absurd H (by simp)
      ·rw [if_neg c12] at H
       have c12b0 : decide (0 ≤ x3_1) = false:=decide_eq_false c12
       clear c12
       have H':=Aside0.mk H
       clear H
       have hcz16_0 : wr.cell? ⟨gb144,0,none⟩ = some (.int .i64 a0_0):=(blk_cell BK144.out 0).trans rfl
       have hcz16_1 : wr.cell? ⟨gb144,1,none⟩ = some (.bool a0_1):=(blk_cell BK144.out 1).trans rfl
       have hcz16_2 : wr.cell? ⟨gb144,2,none⟩ = some (.string a0_2):=(blk_cell BK144.out 2).trans rfl
       have hcz16_3 : wr.cell? ⟨gb144,3,none⟩ = some (.string a0_3):=(blk_cell BK144.out 3).trans rfl
       have hcz16_4 : wr.cell? ⟨gb144,4,none⟩ = some (.slice A0_4 l0_4.length c0_4):=(blk_cell BK144.out 4).trans rfl
       have hcz16_5 : wr.cell? ⟨gb144,5,none⟩ = some (.slice A0_5 l0_5.length c0_5):=(blk_cell BK144.out 5).trans rfl
       have hfz16_0:=blk_frozen BK144.out 0
       have hfz16_1:=blk_frozen BK144.out 1
       have hfz16_2:=blk_frozen BK144.out 2
       have hfz16_3:=blk_frozen BK144.out 3
       have hfz16_4:=blk_frozen BK144.out 4
       have hfz16_5:=blk_frozen BK144.out 5
       go_wp2
       go_meet
       case rel=>exact ⟨_,(x3_1),(by first|rfl|(simp;done)|(simp [*];done)),(by first|exact H'|(subst_vars;exact H')),⟨by have:=HK1.out;first|omega|exact Nat.le_refl _⟩,⟨by (with_reducible repeat (first|refine blk_drewN ?_ _|refine blk_drew ?_|refine blk_alloc ?_ _));exact BK144.out⟩,⟨by repeat (first|(with_reducible first|exact HB.out|apply below_alloc|apply pw_below_drewN|apply below_drew1|refine below_set ?_ GE144.out)|exact HB.out)⟩⟩
     ·rw [if_neg c11] at H
      have c11b0 : decide (x9_1 < (l0_4.length : Int)) = false:=decide_eq_false c11
      clear c11
      (first|rw [c11b0]|(simp only [i64_w,i32_w];rw [c11b0])|skip)
      have H':=Aside0.mk H
      clear H
      have hcz17_0 : wr.cell? ⟨gb144,0,none⟩ = some (.int .i64 a0_0):=(blk_cell BK144.out 0).trans rfl
      have hcz17_1 : wr.cell? ⟨gb144,1,none⟩ = some (.bool a0_1):=(blk_cell BK144.out 1).trans rfl
      have hcz17_2 : wr.cell? ⟨gb144,2,none⟩ = some (.string a0_2):=(blk_cell BK144.out 2).trans rfl
      have hcz17_3 : wr.cell? ⟨gb144,3,none⟩ = some (.string a0_3):=(blk_cell BK144.out 3).trans rfl
      have hcz17_4 : wr.cell? ⟨gb144,4,none⟩ = some (.slice A0_4 l0_4.length c0_4):=(blk_cell BK144.out 4).trans rfl
      have hcz17_5 : wr.cell? ⟨gb144,5,none⟩ = some (.slice A0_5 l0_5.length c0_5):=(blk_cell BK144.out 5).trans rfl
      have hfz17_0:=blk_frozen BK144.out 0
      have hfz17_1:=blk_frozen BK144.out 1
      have hfz17_2:=blk_frozen BK144.out 2
      have hfz17_3:=blk_frozen BK144.out 3
      have hfz17_4:=blk_frozen BK144.out 4
      have hfz17_5:=blk_frozen BK144.out 5
      go_wp2
      go_meet
      case rel=>exact ⟨_,(x3_1),(by first|rfl|(simp;done)|(simp [*];done)),(by first|exact H'|(subst_vars;exact H')),⟨by have:=HK1.out;first|omega|exact Nat.le_refl _⟩,⟨by (with_reducible repeat (first|refine blk_drewN ?_ _|refine blk_drew ?_|refine blk_alloc ?_ _));exact BK144.out⟩,⟨by repeat (first|(with_reducible first|exact HB.out|apply below_alloc|apply pw_below_drewN|apply below_drew1|refine below_set ?_ GE144.out)|exact HB.out)⟩⟩
  case rest =>
   clear HC8
   try clear c1
   try clear p1
   try clear q1
   try clear hx1
   try clear c2
   try clear p2
   try clear c5
   try clear c5b0
   try clear p6
   try clear c11
   try clear c11b0
   try clear c12
   try clear c12b0
   try clear c13
   try clear c13b0
   try clear p14
   try clear q14
   try clear hx14
   try clear hcz10_0
   try clear hcz10_1
   try clear hcz10_2
   try clear hcz10_3
   try clear hcz10_4
   try clear hcz10_5
   try clear hcz15_0
   try clear hcz15_1
   try clear hcz15_2
   try clear hcz15_3
   try clear hcz15_4
   try clear hcz15_5
   try clear hcz16_0
   try clear hcz16_1
   try clear hcz16_2
   try clear hcz16_3
   try clear hcz16_4
   try clear hcz16_5
   try clear hcz17_0
   try clear hcz17_1
   try clear hcz17_2
   try clear hcz17_3
   try clear hcz17_4
   try clear hcz17_5
   try clear hfz10_0
   try clear hfz10_1
   try clear hfz10_2
   try clear hfz10_3
   try clear hfz10_4
   try clear hfz10_5
   try clear hfz15_0
   try clear hfz15_1
   try clear hfz15_2
   try clear hfz15_3
   try clear hfz15_4
   try clear hfz15_5
   try clear hfz16_0
   try clear hfz16_1
   try clear hfz16_2
   try clear hfz16_3
   try clear hfz16_4
   try clear hfz16_5
   try clear hfz17_0
   try clear hfz17_1
   try clear hfz17_2
   try clear hfz17_3
   try clear hfz17_4
   try clear hfz17_5
   try clear hx146_0
   try clear p146
   try clear p2
   try clear p6
   try clear q146
   obtain ⟨kq,x3_7,rfl,HA,HJ7,BK144,HB⟩:=hcut
   cases kq with
   | zero=>exact absurd HA.out (by simp [quarryref00_leftOfValue.j1])
   | succ kj7 =>
    have H:=HA.out
    clear HA
    simp only [quarryref00_leftOfValue.j1] at H
    have H':=Aside0.mk H
    clear H
    go_wp2
    go_loopg [3,10] kj7 (fun kq v3 v10 w'=>∃ (x3_2 : Int) (x10_2 : Int),v3 = .int .i64 x3_2 ∧ v10 = .int .i64 x10_2 ∧ Aside0 (quarryref00_leftOfValue.l1 kq a1 a2 x3_2 x10_2 a0_0 a0_1 a0_2 a0_3 l0_4 l0_5 = some r) ∧ Aside0 (kq ≤ kj7) ∧ Aside0 (w'.heap[gb144]? = some (.cells #[.int .i64 a0_0,.bool a0_1,.string a0_2,.string a0_3,(.slice A0_4 l0_4.length c0_4),(.slice A0_5 l0_5.length c0_5)] 25 (0,0))) ∧ Aside0 (Below w.heap.size w w'))
    case atStart=>exact ⟨(x3_7),(0),(by first|rfl|(simp;done)|(simp [*];done)),(by first|rfl|(simp;done)|(simp [*];done)),H',⟨Nat.le_refl _⟩,⟨by (with_reducible repeat (first|refine blk_drewN ?_ _|refine blk_drew ?_|refine blk_alloc ?_ _));exact BK144.out⟩,⟨by repeat (first|(with_reducible first|exact HB.out|apply below_alloc|apply pw_below_drewN|apply below_drew1|refine below_set ?_ GE144.out)|exact HB.out)⟩⟩
    case round =>
     clear H'
     try clear c1
     try clear p1
     try clear q1
     try clear hx1
     try clear c2
     try clear p2
     try clear c5
     try clear c5b0
     try clear p6
     try clear c11
     try clear c11b0
     try clear c12
     try clear c12b0
     try clear c13
     try clear c13b0
     try clear p14
     try clear q14
     try clear hx14
     try clear hcz10_0
     try clear hcz10_1
     try clear hcz10_2
     try clear hcz10_3
     try clear hcz10_4
     try clear hcz10_5
     try clear hcz15_0
     try clear hcz15_1
     try clear hcz15_2
     try clear hcz15_3
     try clear hcz15_4
     try clear hcz15_5
     try clear hcz16_0
     try clear hcz16_1
     try clear hcz16_2
     try clear hcz16_3
     try clear hcz16_4
     try clear hcz16_5
     try clear hcz17_0
     try clear hcz17_1
     try clear hcz17_2
     try clear hcz17_3
     try clear hcz17_4
     try clear hcz17_5
     try clear hfz10_0
     try clear hfz10_1
     try clear hfz10_2
     try clear hfz10_3
     try clear hfz10_4
     try clear hfz10_5
     try clear hfz15_0
     try clear hfz15_1
     try clear hfz15_2
     try clear hfz15_3
     try clear hfz15_4
     try clear hfz15_5
     try clear hfz16_0
     try clear hfz16_1
     try clear hfz16_2
     try clear hfz16_3
     try clear hfz16_4
     try clear hfz16_5
     try clear hfz17_0
     try clear hfz17_1
     try clear hfz17_2
     try clear hfz17_3
     try clear hfz17_4
     try clear hfz17_5
     try clear hx146_0
     try clear p1
     try clear p14
     try clear p146
     try clear p2
     try clear p6
     try clear q1
     try clear q14
     try clear q146
     try clear HK2
     try clear BK144
     try clear HB
     obtain ⟨x3_2,x10_2,rfl,rfl,HA,HK2,BK144,HB⟩:=hrel
     cases gk with
     | zero=>exact absurd HA.out (by simp [quarryref00_leftOfValue.l1])
     | succ k2 =>
      have H:=HA.out
      clear HA
      simp only [quarryref00_leftOfValue.l1] at H
      have HC18:=Aside0.mk H
      clear H
      go_upto_region 9 with (fail)
      go_cut [55] (fun v55 wc=>∃ (kq : Nat) (x55_17 : Bool),v55 = .bool x55_17 ∧ Aside0 (quarryref00_leftOfValue.j3 kq a1 a2 x3_2 x10_2 x55_17 a0_0 a0_1 a0_2 a0_3 l0_4 l0_5 = some r) ∧ Aside0 (kq ≤ k2) ∧ Aside0 (wc.heap[gb144]? = some (.cells #[.int .i64 a0_0,.bool a0_1,.string a0_2,.string a0_3,(.slice A0_4 l0_4.length c0_4),(.slice A0_5 l0_5.length c0_5)] 25 (0,0))) ∧ Aside0 (Below w.heap.size w wc))
      case first =>
       have H:=HC18.out
       clear HC18
       by_cases c19 : x10_2 < (l0_5.length : Int)
       ·rw [if_pos c19] at H
        have c19b0 : decide (x10_2 < (l0_5.length : Int)) = true:=decide_eq_true c19
        clear c19
        (first|rw [c19b0]|(simp only [i64_w,i32_w];rw [c19b0])|skip)
        have H':=Aside0.mk H
        clear H
        have hcz20_0 : wr.cell? ⟨gb144,0,none⟩ = some (.int .i64 a0_0):=(blk_cell BK144.out 0).trans rfl
        have hcz20_1 : wr.cell? ⟨gb144,1,none⟩ = some (.bool a0_1):=(blk_cell BK144.out 1).trans rfl
        have hcz20_2 : wr.cell? ⟨gb144,2,none⟩ = some (.string a0_2):=(blk_cell BK144.out 2).trans rfl
        have hcz20_3 : wr.cell? ⟨gb144,3,none⟩ = some (.string a0_3):=(blk_cell BK144.out 3).trans rfl
        have hcz20_4 : wr.cell? ⟨gb144,4,none⟩ = some (.slice A0_4 l0_4.length c0_4):=(blk_cell BK144.out 4).trans rfl
        have hcz20_5 : wr.cell? ⟨gb144,5,none⟩ = some (.slice A0_5 l0_5.length c0_5):=(blk_cell BK144.out 5).trans rfl
        have hfz20_0:=blk_frozen BK144.out 0
        have hfz20_1:=blk_frozen BK144.out 1
        have hfz20_2:=blk_frozen BK144.out 2
        have hfz20_3:=blk_frozen BK144.out 3
        have hfz20_4:=blk_frozen BK144.out 4
        have hfz20_5:=blk_frozen BK144.out 5
        go_wp2
        go_meet
        case rel=>exact ⟨_,(decide (x3_2 ≥ 0)),(by first|rfl|(simp;done)|(simp [*];done)),(by first|exact H'|(subst_vars;exact H')),⟨by have:=HJ7.out;have:=HK2.out;first|omega|exact Nat.le_refl _⟩,⟨by (with_reducible repeat (first|refine blk_drewN ?_ _|refine blk_drew ?_|refine blk_alloc ?_ _));exact BK144.out⟩,⟨by repeat (first|(with_reducible first|exact HB.out|apply below_alloc|apply pw_below_drewN|apply below_drew1|refine below_set ?_ GE144.out)|exact HB.out)⟩⟩
       ·rw [if_neg c19] at H
        have c19b0 : decide (x10_2 < (l0_5.length : Int)) = false:=decide_eq_false c19
        clear c19
        (first|rw [c19b0]|(simp only [i64_w,i32_w];rw [c19b0])|skip)
        have H':=Aside0.mk H
        clear H
        have hcz21_0 : wr.cell? ⟨gb144,0,none⟩ = some (.int .i64 a0_0):=(blk_cell BK144.out 0).trans rfl
        have hcz21_1 : wr.cell? ⟨gb144,1,none⟩ = some (.bool a0_1):=(blk_cell BK144.out 1).trans rfl
        have hcz21_2 : wr.cell? ⟨gb144,2,none⟩ = some (.string a0_2):=(blk_cell BK144.out 2).trans rfl
        have hcz21_3 : wr.cell? ⟨gb144,3,none⟩ = some (.string a0_3):=(blk_cell BK144.out 3).trans rfl
        have hcz21_4 : wr.cell? ⟨gb144,4,none⟩ = some (.slice A0_4 l0_4.length c0_4):=(blk_cell BK144.out 4).trans rfl
        have hcz21_5 : wr.cell? ⟨gb144,5,none⟩ = some (.slice A0_5 l0_5.length c0_5):=(blk_cell BK144.out 5).trans rfl
        have hfz21_0:=blk_frozen BK144.out 0
        have hfz21_1:=blk_frozen BK144.out 1
        have hfz21_2:=blk_frozen BK144.out 2
        have hfz21_3:=blk_frozen BK144.out 3
        have hfz21_4:=blk_frozen BK144.out 4
        have hfz21_5:=blk_frozen BK144.out 5
        go_wp2
        go_meet
        case rel=>exact ⟨_,(false),(by first|rfl|(simp;done)|(simp [*];done)),(by first|exact H'|(subst_vars;exact H')),⟨by have:=HJ7.out;have:=HK2.out;first|omega|exact Nat.le_refl _⟩,⟨by (with_reducible repeat (first|refine blk_drewN ?_ _|refine blk_drew ?_|refine blk_alloc ?_ _));exact BK144.out⟩,⟨by repeat (first|(with_reducible first|exact HB.out|apply below_alloc|apply pw_below_drewN|apply below_drew1|refine below_set ?_ GE144.out)|exact HB.out)⟩⟩
      case rest =>
       clear HC18
       try clear c1
       try clear p1
       try clear q1
       try clear hx1
       try clear c2
       try clear p2
       try clear c5
       try clear c5b0
       try clear p6
       try clear c11
       try clear c11b0
       try clear c12
       try clear c12b0
       try clear c13
       try clear c13b0
       try clear p14
       try clear q14
       try clear hx14
       try clear c19
       try clear c19b0
       try clear hcz10_0
       try clear hcz10_1
       try clear hcz10_2
       try clear hcz10_3
       try clear hcz10_4
       try clear hcz10_5
       try clear hcz15_0
       try clear hcz15_1
       try clear hcz15_2
       try clear hcz15_3
       try clear hcz15_4
       try clear hcz15_5
       try clear hcz16_0
       try clear hcz16_1
       try clear hcz16_2
       try clear hcz16_3
       try clear hcz16_4
       try clear hcz16_5
       try clear hcz17_0
       try clear hcz17_1
       try clear hcz17_2
       try clear hcz17_3
       try clear hcz17_4
       try clear hcz17_5
       try clear hcz20_0
       try clear hcz20_1
       try clear hcz20_2
       try clear hcz20_3
       try clear hcz20_4
       try clear hcz20_5
       try clear hcz21_0
       try clear hcz21_1
       try clear hcz21_2
       try clear hcz21_3
       try clear hcz21_4
       try clear hcz21_5
       try clear hfz10_0
       try clear hfz10_1
       try clear hfz10_2
       try clear hfz10_3
       try clear hfz10_4
       try clear hfz10_5
       try clear hfz15_0
       try clear hfz15_1
       try clear hfz15_2
       try clear hfz15_3
       try clear hfz15_4
       try clear hfz15_5
       try clear hfz16_0
       try clear hfz16_1
       try clear hfz16_2
       try clear hfz16_3
       try clear hfz16_4
       try clear hfz16_5
       try clear hfz17_0
       try clear hfz17_1
       try clear hfz17_2
       try clear hfz17_3
       try clear hfz17_4
       try clear hfz17_5
       try clear hfz20_0
       try clear hfz20_1
       try clear hfz20_2
       try clear hfz20_3
       try clear hfz20_4
       try clear hfz20_5
       try clear hfz21_0
       try clear hfz21_1
       try clear hfz21_2
       try clear hfz21_3
       try clear hfz21_4
       try clear hfz21_5
       try clear hx146_0
       try clear p1
       try clear p14
       try clear p146
       try clear p2
       try clear p6
       try clear q1
       try clear q14
       try clear q146
       obtain ⟨kq,x55_17,rfl,HA,HJ17,BK144,HB⟩:=hcut
       cases kq with
       | zero=>exact absurd HA.out (by simp [quarryref00_leftOfValue.j3])
       | succ kj17 =>
        have H:=HA.out
        clear HA
        simp only [quarryref00_leftOfValue.j3] at H
        by_cases c22 : x55_17 = true
        ·subst c22
         have H1 : (if x10_2 < (l0_4.length : Int) then (if 0 ≤ x10_2 then (if x10_2 < (l0_5.length : Int) then ((quarryref00_leftOfValue.f kj17 ((rd_T25 l0_5 x10_2).f0) ((rd_T25 l0_5 x10_2).f1) ((rd_T25 l0_5 x10_2).f2) ((rd_T25 l0_5 x10_2).f3) ((rd_T25 l0_5 x10_2).f4) ((rd_T25 l0_5 x10_2).f5) (wrap64 (a1 + 1)) (wrap64 ((wrap64 (a2 + 21)) + (wrap64 (2 * ((rdOf ByteArray.empty l0_4 x10_2).size : Int))))) x3_2).bind fun t150=>(quarryref00_leftOfValue.l1 kj17 a1 a2 t150 (wrap64 (x10_2 + 1)) a0_0 a0_1 a0_2 a0_3 l0_4 l0_5)) else (none)) else (none)) else (if 0 ≤ x10_2 then (if x10_2 < (l0_5.length : Int) then ((quarryref00_leftOfValue.f kj17 ((rd_T25 l0_5 x10_2).f0) ((rd_T25 l0_5 x10_2).f1) ((rd_T25 l0_5 x10_2).f2) ((rd_T25 l0_5 x10_2).f3) ((rd_T25 l0_5 x10_2).f4) ((rd_T25 l0_5 x10_2).f5) (wrap64 (a1 + 1)) (wrap64 (a2 + 21)) x3_2).bind fun t152=>(quarryref00_leftOfValue.l1 kj17 a1 a2 t152 (wrap64 (x10_2 + 1)) a0_0 a0_1 a0_2 a0_3 l0_4 l0_5)) else (none)) else (none))) = some r:=by rw [if_pos rfl] at H;exact H
         clear H
         have H:=H1
         clear H1
         by_cases c23 : x10_2 < (l0_4.length : Int)
         ·rw [if_pos c23] at H
          have c23b0 : decide (x10_2 < (l0_4.length : Int)) = true:=decide_eq_true c23
          clear c23
          by_cases c24 : 0 ≤ x10_2
          ·rw [if_pos c24] at H
           have c24b0 : decide (0 ≤ x10_2) = true:=decide_eq_true c24
           clear c24
           by_cases c25 : x10_2 < (l0_5.length : Int)
           ·rw [if_pos c25] at H
            have c25b0 : decide (x10_2 < (l0_5.length : Int)) = true:=decide_eq_true c25
            clear c25
            replace H:=Option.bind_eq_some_iff.mp H
            obtain ⟨t150,A260,H⟩:=H
            replace H : (quarryref00_leftOfValue.l1 kj17 a1 a2 t150 (wrap64 (x10_2 + 1)) a0_0 a0_1 a0_2 a0_3 l0_4 l0_5) = some r:=H
            have A26:=Aside0.mk A260
            clear A260
            have H':=Aside0.mk H
            clear H
            have hcz27_0 : wc.cell? ⟨gb144,0,none⟩ = some (.int .i64 a0_0):=(blk_cell BK144.out 0).trans rfl
            have hcz27_1 : wc.cell? ⟨gb144,1,none⟩ = some (.bool a0_1):=(blk_cell BK144.out 1).trans rfl
            have hcz27_2 : wc.cell? ⟨gb144,2,none⟩ = some (.string a0_2):=(blk_cell BK144.out 2).trans rfl
            have hcz27_3 : wc.cell? ⟨gb144,3,none⟩ = some (.string a0_3):=(blk_cell BK144.out 3).trans rfl
            have hcz27_4 : wc.cell? ⟨gb144,4,none⟩ = some (.slice A0_4 l0_4.length c0_4):=(blk_cell BK144.out 4).trans rfl
            have hcz27_5 : wc.cell? ⟨gb144,5,none⟩ = some (.slice A0_5 l0_5.length c0_5):=(blk_cell BK144.out 5).trans rfl
            have hfz27_0:=blk_frozen BK144.out 0
            have hfz27_1:=blk_frozen BK144.out 1
            have hfz27_2:=blk_frozen BK144.out 2
            have hfz27_3:=blk_frozen BK144.out 3
            have hfz27_4:=blk_frozen BK144.out 4
            have hfz27_5:=blk_frozen BK144.out 5
            have p148 : 0 ≤ (x10_2 : Int):=of_decide_eq_true (by first|(with_reducible assumption)|assumption)
            have q148 : x10_2 < (l0_4.length : Int):=of_decide_eq_true (by first|(with_reducible assumption)|assumption)
            obtain ⟨ad148,e148,hx148_0⟩:=Kd.at_string HR0_4.out x10_2 p148 q148
            cases e148
            replace hx148_0:=(HB.out.cell (World.block_lt_of_cell? w _ hx148_0)).trans hx148_0
            replace p148:=eq_true p148
            replace q148:=eq_true q148
            have p149 : 0 ≤ (x10_2 : Int):=of_decide_eq_true (by first|(with_reducible assumption)|assumption)
            have q149 : x10_2 < (l0_5.length : Int):=of_decide_eq_true (by first|(with_reducible assumption)|assumption)
            obtain ⟨ad149,A149_4,c149_4,A149_5,c149_5,e149,hx149_0,hx149_1,hx149_2,hx149_3,hx149_4,hx149_5,hl149_4,hi149_4,hl149_5,hi149_5⟩:=at_T25 HR0_5.out x10_2 p149 q149
            cases e149
            replace hx149_0:=(HB.out.cell (World.block_lt_of_cell? w _ hx149_0)).trans hx149_0
            replace hx149_1:=(HB.out.cell (World.block_lt_of_cell? w _ hx149_1)).trans hx149_1
            replace hx149_2:=(HB.out.cell (World.block_lt_of_cell? w _ hx149_2)).trans hx149_2
            replace hx149_3:=(HB.out.cell (World.block_lt_of_cell? w _ hx149_3)).trans hx149_3
            replace hx149_4:=(HB.out.cell (World.block_lt_of_cell? w _ hx149_4)).trans hx149_4
            replace hx149_5:=(HB.out.cell (World.block_lt_of_cell? w _ hx149_5)).trans hx149_5
            have HR149_4:=Aside0.mk hi149_4
            have HC149_4:=Aside0.mk hl149_4
            clear hi149_4 hl149_4
            have HR149_5:=Aside0.mk hi149_5
            have HC149_5:=Aside0.mk hl149_5
            clear hi149_5 hl149_5
            replace p149:=eq_true p149
            replace q149:=eq_true q149
            go_wp2_with (first|((with_reducible refine gate_callee (f:=19) rfl ?_);refine goesL_ (some 83) rfl rfl Tryd.func19 (by kernel_rfl) rfl #[.agg #[.int .i64 ((rd_T25 l0_5 x10_2).f0),.bool ((rd_T25 l0_5 x10_2).f1),.string ((rd_T25 l0_5 x10_2).f2),.string ((rd_T25 l0_5 x10_2).f3),.slice A149_4 ((rd_T25 l0_5 x10_2).f4).length c149_4,.slice A149_5 ((rd_T25 l0_5 x10_2).f5).length c149_5],.int .i64 (wrap64 (a1 + 1)),.int .i64 (wrap64 ((wrap64 (a2 + 21)) + (wrap64 (2 * ((rdOf ByteArray.empty l0_4 x10_2).size : Int))))),.int .i64 x3_2] rfl (by (try simp only [List.map_toArray,List.map_cons,List.map_nil]);first|done|rfl|(simp only [List.length_drop,List.length_take];rfl)) ?_;(with_reducible refine (ih kj17 (by have:=HJ7.out;have:=HK2.out;have:=HJ17.out;omega) ((rd_T25 l0_5 x10_2).f0) ((rd_T25 l0_5 x10_2).f1) ((rd_T25 l0_5 x10_2).f2) ((rd_T25 l0_5 x10_2).f3) _ _ ((rd_T25 l0_5 x10_2).f4) _ _ ((rd_T25 l0_5 x10_2).f5) (wrap64 (a1 + 1)) (wrap64 ((wrap64 (a2 + 21)) + (wrap64 (2 * ((rdOf ByteArray.empty l0_4 x10_2).size : Int))))) x3_2 t150 _ ?side1 ?side2 ?side3 ?side4 A26.out).mono ?_);(case side1=>repeat (first|exact (Kd.C_below HR149_4.out HB.out)|(with_reducible refine Kd.C_alloc ?_ _)|(with_reducible refine Kd.C_drewN ?_ _)|(with_reducible refine Kd.C_drew ?_)));(case side2=>exact HC149_4.out);(case side3=>repeat (first|exact (Kd.C_below HR149_5.out HB.out)|(with_reducible refine Kd.C_alloc ?_ _)|(with_reducible refine Kd.C_drewN ?_ _)|(with_reducible refine Kd.C_drew ?_)));(case side4=>exact HC149_5.out);rintro e w28 ⟨rfl,hb⟩;refine ⟨_,rfl,?_⟩;have n0_:=Aside0.mk (blk_below (g:=gb144) (o:=.cells #[.int .i64 a0_0,.bool a0_1,.string a0_2,.string a0_3,.slice (some ad148) l0_4.length c0_4,.slice (some ad149) l0_5.length c0_5] 25 (0,0)) (by (with_reducible repeat (first|refine blk_drewN ?_ _|refine blk_drew ?_|refine blk_alloc ?_ _));exact BK144.out) hb);have n1_:=Aside0.mk (below_step (by repeat (first|(with_reducible first|exact HB.out|apply below_alloc|apply pw_below_drewN|apply below_drew1|refine below_set ?_ GE144.out)|exact HB.out)) hb);clear BK144;clear HB;have BK144:=n0_;have HB:=n1_;clear n0_ n1_;(try clear hb);(try clear hb2);(try clear hk);(try clear hi)))
            go_roundg kj17
            case measure=>have:=HJ7.out;have:=HK2.out;have:=HJ17.out;omega
            case rel=>exact ⟨(t150),(wrap64 (x10_2 + 1)),(by first|rfl|(simp;done)|(simp [*];done)),(by first|rfl|(simp;done)|(simp [*];done)),(by first|exact H'|(subst_vars;exact H')),⟨by have:=HJ7.out;have:=HK2.out;have:=HJ17.out;omega⟩,⟨by (with_reducible repeat (first|refine blk_drewN ?_ _|refine blk_drew ?_|refine blk_alloc ?_ _));exact BK144.out⟩,⟨by repeat (first|(with_reducible first|exact HB.out|apply below_alloc|apply pw_below_drewN|apply below_drew1|refine below_set ?_ GE144.out)|exact HB.out)⟩⟩
           ·rw [if_neg c25] at H
            exact absurd H (by simp)
          ·rw [if_neg c24] at H
           exact absurd H (by simp)
         ·rw [if_neg c23] at H
          have c23b0 : decide (x10_2 < (l0_4.length : Int)) = false:=decide_eq_false c23
          clear c23
          by_cases c29 : 0 ≤ x10_2
          ·rw [if_pos c29] at H
           have c29b0 : decide (0 ≤ x10_2) = true:=decide_eq_true c29
           clear c29
           by_cases c30 : x10_2 < (l0_5.length : Int)
           ·rw [if_pos c30] at H
            have c30b0 : decide (x10_2 < (l0_5.length : Int)) = true:=decide_eq_true c30
            clear c30
            replace H:=Option.bind_eq_some_iff.mp H
            obtain ⟨t152,A310,H⟩:=H
            replace H : (quarryref00_leftOfValue.l1 kj17 a1 a2 t152 (wrap64 (x10_2 + 1)) a0_0 a0_1 a0_2 a0_3 l0_4 l0_5) = some r:=H
            have A31:=Aside0.mk A310
            clear A310
            have H':=Aside0.mk H
            clear H
            have hcz32_0 : wc.cell? ⟨gb144,0,none⟩ = some (.int .i64 a0_0):=(blk_cell BK144.out 0).trans rfl
            have hcz32_1 : wc.cell? ⟨gb144,1,none⟩ = some (.bool a0_1):=(blk_cell BK144.out 1).trans rfl
            have hcz32_2 : wc.cell? ⟨gb144,2,none⟩ = some (.string a0_2):=(blk_cell BK144.out 2).trans rfl
            have hcz32_3 : wc.cell? ⟨gb144,3,none⟩ = some (.string a0_3):=(blk_cell BK144.out 3).trans rfl
            have hcz32_4 : wc.cell? ⟨gb144,4,none⟩ = some (.slice A0_4 l0_4.length c0_4):=(blk_cell BK144.out 4).trans rfl
            have hcz32_5 : wc.cell? ⟨gb144,5,none⟩ = some (.slice A0_5 l0_5.length c0_5):=(blk_cell BK144.out 5).trans rfl
            have hfz32_0:=blk_frozen BK144.out 0
            have hfz32_1:=blk_frozen BK144.out 1
            have hfz32_2:=blk_frozen BK144.out 2
            have hfz32_3:=blk_frozen BK144.out 3
            have hfz32_4:=blk_frozen BK144.out 4
            have hfz32_5:=blk_frozen BK144.out 5
            have p151 : 0 ≤ (x10_2 : Int):=of_decide_eq_true (by first|(with_reducible assumption)|assumption)
            have q151 : x10_2 < (l0_5.length : Int):=of_decide_eq_true (by first|(with_reducible assumption)|assumption)
            obtain ⟨ad151,A151_4,c151_4,A151_5,c151_5,e151,hx151_0,hx151_1,hx151_2,hx151_3,hx151_4,hx151_5,hl151_4,hi151_4,hl151_5,hi151_5⟩:=at_T25 HR0_5.out x10_2 p151 q151
            cases e151
            replace hx151_0:=(HB.out.cell (World.block_lt_of_cell? w _ hx151_0)).trans hx151_0
            replace hx151_1:=(HB.out.cell (World.block_lt_of_cell? w _ hx151_1)).trans hx151_1
            replace hx151_2:=(HB.out.cell (World.block_lt_of_cell? w _ hx151_2)).trans hx151_2
            replace hx151_3:=(HB.out.cell (World.block_lt_of_cell? w _ hx151_3)).trans hx151_3
            replace hx151_4:=(HB.out.cell (World.block_lt_of_cell? w _ hx151_4)).trans hx151_4
            replace hx151_5:=(HB.out.cell (World.block_lt_of_cell? w _ hx151_5)).trans hx151_5
            have HR151_4:=Aside0.mk hi151_4
            have HC151_4:=Aside0.mk hl151_4
            clear hi151_4 hl151_4
            have HR151_5:=Aside0.mk hi151_5
            have HC151_5:=Aside0.mk hl151_5
            clear hi151_5 hl151_5
            replace p151:=eq_true p151
            replace q151:=eq_true q151
            go_wp2_with (first|((with_reducible refine gate_callee (f:=19) rfl ?_);refine goesL_ (some 83) rfl rfl Tryd.func19 (by kernel_rfl) rfl #[.agg #[.int .i64 ((rd_T25 l0_5 x10_2).f0),.bool ((rd_T25 l0_5 x10_2).f1),.string ((rd_T25 l0_5 x10_2).f2),.string ((rd_T25 l0_5 x10_2).f3),.slice A151_4 ((rd_T25 l0_5 x10_2).f4).length c151_4,.slice A151_5 ((rd_T25 l0_5 x10_2).f5).length c151_5],.int .i64 (wrap64 (a1 + 1)),.int .i64 (wrap64 (a2 + 21)),.int .i64 x3_2] rfl (by (try simp only [List.map_toArray,List.map_cons,List.map_nil]);first|done|rfl|(simp only [List.length_drop,List.length_take];rfl)) ?_;(with_reducible refine (ih kj17 (by have:=HJ7.out;have:=HK2.out;have:=HJ17.out;omega) ((rd_T25 l0_5 x10_2).f0) ((rd_T25 l0_5 x10_2).f1) ((rd_T25 l0_5 x10_2).f2) ((rd_T25 l0_5 x10_2).f3) _ _ ((rd_T25 l0_5 x10_2).f4) _ _ ((rd_T25 l0_5 x10_2).f5) (wrap64 (a1 + 1)) (wrap64 (a2 + 21)) x3_2 t152 _ ?side1 ?side2 ?side3 ?side4 A31.out).mono ?_);(case side1=>repeat (first|exact (Kd.C_below HR151_4.out HB.out)|(with_reducible refine Kd.C_alloc ?_ _)|(with_reducible refine Kd.C_drewN ?_ _)|(with_reducible refine Kd.C_drew ?_)));(case side2=>exact HC151_4.out);(case side3=>repeat (first|exact (Kd.C_below HR151_5.out HB.out)|(with_reducible refine Kd.C_alloc ?_ _)|(with_reducible refine Kd.C_drewN ?_ _)|(with_reducible refine Kd.C_drew ?_)));(case side4=>exact HC151_5.out);rintro e w33 ⟨rfl,hb⟩;refine ⟨_,rfl,?_⟩;have n0_:=Aside0.mk (blk_below (g:=gb144) (o:=.cells #[.int .i64 a0_0,.bool a0_1,.string a0_2,.string a0_3,.slice A0_4 l0_4.length c0_4,.slice (some ad151) l0_5.length c0_5] 25 (0,0)) (by (with_reducible repeat (first|refine blk_drewN ?_ _|refine blk_drew ?_|refine blk_alloc ?_ _));exact BK144.out) hb);have n1_:=Aside0.mk (below_step (by repeat (first|(with_reducible first|exact HB.out|apply below_alloc|apply pw_below_drewN|apply below_drew1|refine below_set ?_ GE144.out)|exact HB.out)) hb);clear BK144;clear HB;have BK144:=n0_;have HB:=n1_;clear n0_ n1_;(try clear hb);(try clear hb2);(try clear hk);(try clear hi)))
            go_roundg kj17
            case measure=>have:=HJ7.out;have:=HK2.out;have:=HJ17.out;omega
            case rel=>exact ⟨(t152),(wrap64 (x10_2 + 1)),(by first|rfl|(simp;done)|(simp [*];done)),(by first|rfl|(simp;done)|(simp [*];done)),(by first|exact H'|(subst_vars;exact H')),⟨by have:=HJ7.out;have:=HK2.out;have:=HJ17.out;omega⟩,⟨by (with_reducible repeat (first|refine blk_drewN ?_ _|refine blk_drew ?_|refine blk_alloc ?_ _));exact BK144.out⟩,⟨by repeat (first|(with_reducible first|exact HB.out|apply below_alloc|apply pw_below_drewN|apply below_drew1|refine below_set ?_ GE144.out)|exact HB.out)⟩⟩
           ·rw [if_neg c30] at H
            exact absurd H (by simp)
          ·rw [if_neg c29] at H
           exact absurd H (by simp)
        ·replace c22:=Bool.eq_false_iff.mpr c22
         subst c22
         have H1 : (some x3_2) = some r:=by rw [if_neg (show ¬ (false = true) by decide)] at H;exact H
         clear H
         have H:=H1
         clear H1
         obtain rfl:=Option.some.inj H
         go_wp2
         go_ret
         exact ⟨by first|rfl|(simp [errW_none,errW_some] <;> rfl)|(simp [*,errW_none,errW_some] <;> rfl),by repeat (first|(with_reducible first|exact HB.out|apply below_alloc|apply pw_below_drewN|apply below_drew1|refine below_set ?_ GE144.out)|exact HB.out)⟩
def quarryref00_BeyondValue.f (k : Nat) (a0_0 : Int) (a0_1 : Bool) (a0_2 : ByteArray) (a0_3 : ByteArray) (l0_4 : List ByteArray) (l0_5 : List (S25)) : Option (Bool):=(quarryref00_leftOfValue.f k a0_0 a0_1 a0_2 a0_3 l0_4 l0_5 1 0 2147483647).bind fun t154=>(some (decide (t154 < 0)))
set_option maxHeartbeats 8000000 in
set_option maxRecDepth 100000 in
theorem quarryref00_BeyondValue.calls (k : Nat) (a0_0 : Int) (a0_1 : Bool) (a0_2 : ByteArray) (a0_3 : ByteArray) (A0_4 : Option Addr) (c0_4 : Nat) (l0_4 : List ByteArray) (A0_5 : Option Addr) (c0_5 : Nat) (l0_5 : List (S25)) (r : Bool) (w : World) (hr0_4 : Kd.C Kd.string w A0_4 l0_4.length l0_4) (hc0_4 : l0_4.length ≤ c0_4) (hr0_5 : Kd.C k25 w A0_5 l0_5.length l0_5) (hc0_5 : l0_5.length ≤ c0_5) (h : quarryref00_BeyondValue.f k a0_0 a0_1 a0_2 a0_3 l0_4 l0_5 = some r) :
  Calls Tryd.prog 9 #[.agg #[.int .i64 a0_0,.bool a0_1,.string a0_2,.string a0_3,.slice A0_4 l0_4.length c0_4,.slice A0_5 l0_5.length c0_5]] w fun e w'=>e = .returned (.bool r) ∧ Below w.heap.size w w':=by
 have hu25:=Tryd.underlying25
 have HR0_4:=Aside0.mk hr0_4
 have HC0_4:=Aside0.mk hc0_4
 clear hr0_4 hc0_4
 have HR0_5:=Aside0.mk hr0_5
 have HC0_5:=Aside0.mk hc0_5
 clear hr0_5 hc0_5
 have HB:=Aside0.mk (Below.refl w.heap.size w)
 have H : ((quarryref00_leftOfValue.f k a0_0 a0_1 a0_2 a0_3 l0_4 l0_5 1 0 2147483647).bind fun t154=>(some (decide (t154 < 0)))) = some r:=h
 clear h
 replace H:=Option.bind_eq_some_iff.mp H
 obtain ⟨t154,A20,H⟩:=H
 replace H : (some (decide (t154 < 0))) = some r:=H
 have A2:=Aside0.mk A20
 clear A20
 obtain rfl:=Option.some.inj H
 go_enter Tryd.func9,Tryd.ntmps9
 go_wp2_with (first|((with_reducible refine gate_dst (N:=1) rfl ?_);refine box_event ?hg (N:=1) ?hd (cs:=#[.int .i64 a0_0,.bool a0_1,.string a0_2,.string a0_3,.slice A0_4 l0_4.length c0_4,.slice A0_5 l0_5.length c0_5]) (t:=25) ?hr ?_;(case hd=>rfl);(case hg=>rfl);(case hr=>first|(go_simp;done)|(go_simp;rfl));intro gb153 hg w3 hbox hb;have n0_:=Aside0.mk (below_step (by repeat (first|(with_reducible first|exact HB.out|apply below_alloc|apply pw_below_drewN|apply below_drew1)|exact HB.out)) hb);have n1_:=Aside0.mk (hbox);have n2_:=Aside0.mk ((by rw [hg];exact (below_size (by repeat (first|(with_reducible first|exact HB.out|apply below_alloc|apply pw_below_drewN|apply below_drew1)|exact HB.out))) : w.heap.size ≤ gb153));have n3_:=Aside0.mk ((by rw [hg];exact (below_size (by repeat (first|(with_reducible first|exact HB.out|apply below_alloc|apply pw_below_drewN|apply below_drew1)|exact HB.out))) : w.heap.size ≤ gb153));clear HB;have HB:=n0_;have BK153:=n1_;have GW153:=n2_;have GE153:=n3_;clear n0_ n1_ n2_ n3_;clear hb hbox hg;have hcz4_0 : w3.cell? ⟨gb153,0,none⟩ = some (.int .i64 a0_0):=(blk_cell BK153.out 0).trans rfl;have hcz4_1 : w3.cell? ⟨gb153,1,none⟩ = some (.bool a0_1):=(blk_cell BK153.out 1).trans rfl;have hcz4_2 : w3.cell? ⟨gb153,2,none⟩ = some (.string a0_2):=(blk_cell BK153.out 2).trans rfl;have hcz4_3 : w3.cell? ⟨gb153,3,none⟩ = some (.string a0_3):=(blk_cell BK153.out 3).trans rfl;have hcz4_4 : w3.cell? ⟨gb153,4,none⟩ = some (.slice A0_4 l0_4.length c0_4):=(blk_cell BK153.out 4).trans rfl;have hcz4_5 : w3.cell? ⟨gb153,5,none⟩ = some (.slice A0_5 l0_5.length c0_5):=(blk_cell BK153.out 5).trans rfl;have hfz4_0:=blk_frozen BK153.out 0;have hfz4_1:=blk_frozen BK153.out 1;have hfz4_2:=blk_frozen BK153.out 2;have hfz4_3:=blk_frozen BK153.out 3;have hfz4_4:=blk_frozen BK153.out 4;have hfz4_5:=blk_frozen BK153.out 5)|((with_reducible refine gate_callee (f:=19) rfl ?_);refine goesL_ (some 4) rfl rfl Tryd.func19 (by kernel_rfl) rfl #[.agg #[.int .i64 a0_0,.bool a0_1,.string a0_2,.string a0_3,.slice A0_4 l0_4.length c0_4,.slice A0_5 l0_5.length c0_5],.int .i64 1,.int .i64 0,.int .i64 2147483647] rfl (by (try simp only [List.map_toArray,List.map_cons,List.map_nil]);first|done|rfl|(simp only [List.length_drop,List.length_take];rfl)) ?_;(with_reducible refine (quarryref00_leftOfValue.calls k a0_0 a0_1 a0_2 a0_3 _ _ l0_4 _ _ l0_5 1 0 2147483647 t154 _ ?side1 ?side2 ?side3 ?side4 A2.out).mono ?_);(case side1=>repeat (first|exact (Kd.C_below HR0_4.out HB.out)|(with_reducible refine Kd.C_alloc ?_ _)|(with_reducible refine Kd.C_drewN ?_ _)|(with_reducible refine Kd.C_drew ?_)));(case side2=>exact HC0_4.out);(case side3=>repeat (first|exact (Kd.C_below HR0_5.out HB.out)|(with_reducible refine Kd.C_alloc ?_ _)|(with_reducible refine Kd.C_drewN ?_ _)|(with_reducible refine Kd.C_drew ?_)));(case side4=>exact HC0_5.out);rintro e w5 ⟨rfl,hb⟩;refine ⟨_,rfl,?_⟩;have n0_:=Aside0.mk (blk_below (g:=gb153) (o:=.cells #[.int .i64 a0_0,.bool a0_1,.string a0_2,.string a0_3,.slice A0_4 l0_4.length c0_4,.slice A0_5 l0_5.length c0_5] 25 (0,0)) (by (with_reducible repeat (first|refine blk_drewN ?_ _|refine blk_drew ?_|refine blk_alloc ?_ _));exact BK153.out) hb);have n1_:=Aside0.mk (below_step (by repeat (first|(with_reducible first|exact HB.out|apply below_alloc|apply pw_below_drewN|apply below_drew1|refine below_set ?_ GE153.out)|exact HB.out)) hb);clear BK153;clear HB;have BK153:=n0_;have HB:=n1_;clear n0_ n1_;(try clear hb);(try clear hb2);(try clear hk);(try clear hi)))
 go_ret
 exact ⟨by first|rfl|(simp [errW_none,errW_some] <;> rfl)|(simp [*,errW_none,errW_some] <;> rfl),by repeat (first|(with_reducible first|exact HB.out|apply below_alloc|apply pw_below_drewN|apply below_drew1|refine below_set ?_ GE153.out)|exact HB.out)⟩
def quarryref11_digit.f (a0 : ByteArray) (a1 : Int) : Option (Bool):=if a1 < (a0.size : Int) then (if 0 ≤ a1 then (if (bt a0 a1) ≥ 48 then (some (decide ((bt a0 a1) ≤ 57))) else (some false)) else (none)) else (some false)
set_option maxHeartbeats 8000000 in
set_option maxRecDepth 100000 in
theorem quarryref11_digit.calls (a0 : ByteArray) (a1 : Int) (r : Bool) (w : World) (h : quarryref11_digit.f a0 a1 = some r) :
  Calls Tryd.prog 62 #[.string a0,.int .i64 a1] w fun e w'=>e = .returned (.bool r) ∧ Drawn0 w w':=by
 have H : (if a1 < (a0.size : Int) then (if 0 ≤ a1 then (if (bt a0 a1) ≥ 48 then (some (decide ((bt a0 a1) ≤ 57))) else (some false)) else (none)) else (some false)) = some r:=h
 clear h
 by_cases c3 : a1 < (a0.size : Int)
 ·rw [if_pos c3] at H
  have c3b0 : decide (a1 < (a0.size : Int)) = true:=decide_eq_true c3
  clear c3
  by_cases c4 : 0 ≤ a1
  ·rw [if_pos c4] at H
   have c4b0 : decide (0 ≤ a1) = true:=decide_eq_true c4
   clear c4
   by_cases c6 : (bt a0 a1) ≥ 48
   ·rw [if_pos c6] at H
    have c6b0 : decide (48 ≤ (bt a0 a1)) = true:=decide_eq_true c6
    clear c6
    obtain rfl:=Option.some.inj H
    have p5 : 0 ≤ (a1 : Int):=of_decide_eq_true (by first|(with_reducible assumption)|assumption)
    have q5 : a1 < (a0.size : Int):=of_decide_eq_true (by first|(with_reducible assumption)|assumption)
    have hx5:=bt_at a0 a1
    replace p5:=eq_true p5
    replace q5:=eq_true q5
    have p7 : 0 ≤ (a1 : Int):=of_decide_eq_true (by first|(with_reducible assumption)|assumption)
    have q7 : a1 < (a0.size : Int):=of_decide_eq_true (by first|(with_reducible assumption)|assumption)
    have hx7:=bt_at a0 a1
    replace p7:=eq_true p7
    replace q7:=eq_true q7
    go_enter Tryd.func62,Tryd.ntmps62
    go_wp2
    go_ret
    exact ⟨by first|rfl|(simp;done)|(simp [*];done),by repeat (first|exact Drawn0.refl _|apply Drawn0.step)⟩
   ·rw [if_neg c6] at H
    have c6b0 : decide (48 ≤ (bt a0 a1)) = false:=decide_eq_false c6
    clear c6
    obtain rfl:=Option.some.inj H
    have p5 : 0 ≤ (a1 : Int):=of_decide_eq_true (by first|(with_reducible assumption)|assumption)
    have q5 : a1 < (a0.size : Int):=of_decide_eq_true (by first|(with_reducible assumption)|assumption)
    have hx5:=bt_at a0 a1
    replace p5:=eq_true p5
    replace q5:=eq_true q5
    go_enter Tryd.func62,Tryd.ntmps62
    go_wp2
    go_ret
    exact ⟨by first|rfl|(simp;done)|(simp [*];done),by repeat (first|exact Drawn0.refl _|apply Drawn0.step)⟩
  ·rw [if_neg c4] at H
   exact absurd H (by simp)
 ·rw [if_neg c3] at H
  have c3b0 : decide (a1 < (a0.size : Int)) = false:=decide_eq_false c3
  clear c3
  obtain rfl:=Option.some.inj H
  go_enter Tryd.func62,Tryd.ntmps62
  go_wp2
  go_ret
  exact ⟨by first|rfl|(simp;done)|(simp [*];done),by repeat (first|exact Drawn0.refl _|apply Drawn0.step)⟩
end Go.Proofs.YtgbiobbhaejjlaaDoor.PTreeShapes
