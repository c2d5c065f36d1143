-- Written by shrink.py, a program of this session: what the law needs of the print and its words. Lean checks it.
import Derived.Test.YtgbiobbhaejjlaaDoorZPTreeShapesx0
import Derived.Test.YtgbiobbhaejjlaaDoorZPTreeShapesx17
import Derived.Test.YtgbiobbhaejjlaaDoorZPTreeShapesx20
namespace Go.Proofs.YtgbiobbhaejjlaaDoor.PTreeShapes
open Go.RowKit Go.Proofs.YtgbiobbhaejjlaaDoorW.PrintWords Go.Proofs.YtgbiobbhaejjlaaDoorW.PrintLast Go.Proofs.YtgbiobbhaejjlaaDoorW.PrintMore
attribute [local go_sem] max2_int min2_int max_two min_two max_three min_three max_four min_four
set_option linter.unusedVariables false
set_option linter.unusedSimpArgs false
mutual
def quarryref17_plain.j0 : Nat → Bool → Int → Bool → ByteArray → ByteArray → List ByteArray → List (S25) → Option (Bool)
 | 0,_,_,_,_,_,_,_=>none
 | k + 1,x3,x196000,x196001,x196002,x196003,x196004,x196005=>if x196000 = 1 then (if x3 = true then (if x196001 = true then (some false) else (if x196002.toList = ([] : List UInt8) then (some (x196003.toList == ([] : List UInt8))) else (some false))) else (some false)) else (if x196000 = 2 then (if x3 = true then (if x196002.toList = ([] : List UInt8) then (some (x196003.toList == ([] : List UInt8))) else (some false)) else (some false)) else (if x196000 = 3 then ((quarryref11_Of.f k x196002).bind fun bt196=>(if x3 = true then (if x196001 = true then (some false) else (if x196003.toList = ([] : List UInt8) then (if bt196.2.2.2 = 0 then (some true) else (some (bt196.2.2.2 == 111))) else (some false))) else (some false))) else (if x196000 = 4 then (if x3 = true then (if x196001 = true then (some false) else (if x196002.toList = ([] : List UInt8) then ((quarryref05_Bad.f k x196003).bind fun t201=>(some (t201 == (-1)))) else (some false))) else (some false)) else (if x196000 = 5 then (if x196001 = true then (some false) else (if x196002.toList = ([] : List UInt8) then (if x196003.toList = ([] : List UInt8) then (some ((x196004.length : Int) == 0)) else (some false)) else (some false))) else (if x196000 = 6 then (quarryref17_plain.l0 k 0 x196000 x196001 x196002 x196003 x196004 x196005) else (some false))))))
def quarryref17_plain.l0 : Nat → Int → Int → Bool → ByteArray → ByteArray → List ByteArray → List (S25) → Option (Bool)
 | 0,_,_,_,_,_,_,_=>none
 | k + 1,x6,x196000,x196001,x196002,x196003,x196004,x196005=>if x6 < (x196004.length : Int) then (if 0 ≤ x6 then ((quarryref05_Bad.f k (rdOf ByteArray.empty x196004 x6)).bind fun t203=>(if t203 = (-1) then (quarryref17_plain.l0 k (wrap64 (x6 + 1)) x196000 x196001 x196002 x196003 x196004 x196005) else (some false))) else (none)) else (if x196001 = true then (some false) else (if x196002.toList = ([] : List UInt8) then (if x196003.toList = ([] : List UInt8) then (some ((x196004.length : Int) == (x196005.length : Int))) else (some false)) else (some false)))
end
def quarryref17_plain.f (k : Nat) (a0_0 : Int) (a0_1 : Bool) (a0_2 : ByteArray) (a0_3 : ByteArray) (l0_4 : List ByteArray) (l0_5 : List (S25)) : Option (Bool):=if (l0_4.length : Int) = 0 then (quarryref17_plain.j0 k ((l0_5.length : Int) == 0) a0_0 a0_1 a0_2 a0_3 l0_4 l0_5) else (quarryref17_plain.j0 k false a0_0 a0_1 a0_2 a0_3 l0_4 l0_5)
set_option maxHeartbeats 8000000 in
set_option maxRecDepth 100000 in
theorem quarryref17_plain.calls (k : Nat) (a0_0 : Int) (a0_1 : Bool) (a0_2 : ByteArray) (a0_3 : ByteArray) (A0_4 : Option Addr) (c0_4 : Nat) (l0_4 : List ByteArray) (A0_5 : Option Addr) (c0_5 : Nat) (l0_5 : List (S25)) (r : Bool) (w : World) (hr0_4 : Kd.C Kd.string w A0_4 l0_4.length l0_4) (hc0_4 : l0_4.length ≤ c0_4) (hr0_5 : Kd.C k25 w A0_5 l0_5.length l0_5) (hc0_5 : l0_5.length ≤ c0_5) (h : quarryref17_plain.f k a0_0 a0_1 a0_2 a0_3 l0_4 l0_5 = some r) :
  Calls Tryd.prog 28 #[.agg #[.int .i64 a0_0,.bool a0_1,.string a0_2,.string a0_3,.slice A0_4 l0_4.length c0_4,.slice A0_5 l0_5.length c0_5]] w fun e w'=>e = .returned (.bool r) ∧ Below w.heap.size w w':=by
 have hu25:=Tryd.underlying25
 have hu40:=Tryd.underlying40
 have HR0_4:=Aside0.mk hr0_4
 have HC0_4:=Aside0.mk hc0_4
 clear hr0_4 hc0_4
 have HR0_5:=Aside0.mk hr0_5
 have HC0_5:=Aside0.mk hc0_5
 clear hr0_5 hc0_5
 have HB:=Aside0.mk (Below.refl w.heap.size w)
 have H : (if (l0_4.length : Int) = 0 then (quarryref17_plain.j0 k ((l0_5.length : Int) == 0) a0_0 a0_1 a0_2 a0_3 l0_4 l0_5) else (quarryref17_plain.j0 k false a0_0 a0_1 a0_2 a0_3 l0_4 l0_5)) = some r:=h
 clear h
 have HC2:=Aside0.mk H
 clear H
 go_enter Tryd.func28,Tryd.ntmps28
 go_upto_region 1 with (first|((with_reducible refine gate_dst (N:=1) rfl ?_);(try (refine gate_guard (by rfl) ?_;dsimp only));refine box_event ?hg (N:=1) ?hd (cs:=#[.int .i64 a0_0,.bool a0_1,.string a0_2,.string a0_3,.slice A0_4 l0_4.length c0_4,.slice A0_5 l0_5.length c0_5]) (t:=25) ?hr ?_;(case hd=>rfl);(case hg=>rfl);(case hr=>first|(go_simp;done)|(go_simp;rfl));intro gb195 hg w3 hbox hb;have n0_:=Aside0.mk (below_step (by repeat (first|(with_reducible first|exact HB.out|apply below_alloc|apply pw_below_drewN|apply below_drew1)|exact HB.out)) hb);have n1_:=Aside0.mk (hbox);have n2_:=Aside0.mk ((by rw [hg];exact (below_size (by repeat (first|(with_reducible first|exact HB.out|apply below_alloc|apply pw_below_drewN|apply below_drew1)|exact HB.out))) : w.heap.size ≤ gb195));have n3_:=Aside0.mk ((by rw [hg];exact (below_size (by repeat (first|(with_reducible first|exact HB.out|apply below_alloc|apply pw_below_drewN|apply below_drew1)|exact HB.out))) : w.heap.size ≤ gb195));clear HB;have HB:=n0_;have BK195:=n1_;have GW195:=n2_;have GE195:=n3_;clear n0_ n1_ n2_ n3_;clear hb hbox hg))
 (try simp only [Act.put,List.setIfInBounds_toArray,List.set_cons_zero,List.set_cons_succ])
 go_cut [3] (fun v3 wc=>∃ (kq : Nat) (x3_1 : Bool),v3 = .bool x3_1 ∧ Aside0 (quarryref17_plain.j0 kq x3_1 a0_0 a0_1 a0_2 a0_3 l0_4 l0_5 = some r) ∧ Aside0 (kq ≤ k) ∧ Aside0 (wc.heap[gb195]? = some (.cells #[.int .i64 a0_0,.bool a0_1,.string a0_2,.string a0_3,(.slice A0_4 l0_4.length c0_4),(.slice A0_5 l0_5.length c0_5)] 25 (0,0))) ∧ Aside0 (Below w.heap.size w wc))
 case first =>
  have H:=HC2.out
  clear HC2
  by_cases c4 : (l0_4.length : Int) = 0
  ·rw [if_pos c4] at H
   have c4b0 : ((l0_4.length : Int) == 0) = true:=beq_iff_eq.mpr c4
   have c4b1 : ((l0_4.length : Int) != 0) = false:=bne_eq_false_iff_eq.mpr c4
   clear c4
   (first|rw [c4b0]|(simp only [i64_w,i32_w];rw [c4b0])|skip)
   have H':=Aside0.mk H
   clear H
   have hcz5_0 : w3.cell? ⟨gb195,0,none⟩ = some (.int .i64 a0_0):=(blk_cell BK195.out 0).trans rfl
   have hcz5_1 : w3.cell? ⟨gb195,1,none⟩ = some (.bool a0_1):=(blk_cell BK195.out 1).trans rfl
   have hcz5_2 : w3.cell? ⟨gb195,2,none⟩ = some (.string a0_2):=(blk_cell BK195.out 2).trans rfl
   have hcz5_3 : w3.cell? ⟨gb195,3,none⟩ = some (.string a0_3):=(blk_cell BK195.out 3).trans rfl
   have hcz5_4 : w3.cell? ⟨gb195,4,none⟩ = some (.slice A0_4 l0_4.length c0_4):=(blk_cell BK195.out 4).trans rfl
   have hcz5_5 : w3.cell? ⟨gb195,5,none⟩ = some (.slice A0_5 l0_5.length c0_5):=(blk_cell BK195.out 5).trans rfl
   have hfz5_0:=blk_frozen BK195.out 0
   have hfz5_1:=blk_frozen BK195.out 1
   have hfz5_2:=blk_frozen BK195.out 2
   have hfz5_3:=blk_frozen BK195.out 3
   have hfz5_4:=blk_frozen BK195.out 4
   have hfz5_5:=blk_frozen BK195.out 5
   go_wp2
   go_meet
   case rel=>exact ⟨_,(((l0_5.length : Int) == 0)),(by first|rfl|(simp;done)|(simp [*];done)),(by first|exact H'|(subst_vars;exact H')),⟨by first|omega|exact Nat.le_refl _⟩,⟨by (with_reducible repeat (first|refine blk_drewN ?_ _|refine blk_drew ?_|refine blk_alloc ?_ _));exact BK195.out⟩,⟨by repeat (first|(with_reducible first|exact HB.out|apply below_alloc|apply pw_below_drewN|apply below_drew1|refine below_set ?_ GE195.out)|exact HB.out)⟩⟩
  ·rw [if_neg c4] at H
   have c4b0 : ((l0_4.length : Int) == 0) = false:=beq_eq_false_iff_ne.mpr c4
   have c4b1 : ((l0_4.length : Int) != 0) = true:=bne_iff_ne.mpr c4
   have c4b2 : ¬ (l0_4 = []):=fun h_=>c4 (by rw [h_];rfl)
   (first|rw [c4b0]|(simp only [i64_w,i32_w];rw [c4b0])|skip)
   have H':=Aside0.mk H
   clear H
   have hcz6_0 : w3.cell? ⟨gb195,0,none⟩ = some (.int .i64 a0_0):=(blk_cell BK195.out 0).trans rfl
   have hcz6_1 : w3.cell? ⟨gb195,1,none⟩ = some (.bool a0_1):=(blk_cell BK195.out 1).trans rfl
   have hcz6_2 : w3.cell? ⟨gb195,2,none⟩ = some (.string a0_2):=(blk_cell BK195.out 2).trans rfl
   have hcz6_3 : w3.cell? ⟨gb195,3,none⟩ = some (.string a0_3):=(blk_cell BK195.out 3).trans rfl
   have hcz6_4 : w3.cell? ⟨gb195,4,none⟩ = some (.slice A0_4 l0_4.length c0_4):=(blk_cell BK195.out 4).trans rfl
   have hcz6_5 : w3.cell? ⟨gb195,5,none⟩ = some (.slice A0_5 l0_5.length c0_5):=(blk_cell BK195.out 5).trans rfl
   have hfz6_0:=blk_frozen BK195.out 0
   have hfz6_1:=blk_frozen BK195.out 1
   have hfz6_2:=blk_frozen BK195.out 2
   have hfz6_3:=blk_frozen BK195.out 3
   have hfz6_4:=blk_frozen BK195.out 4
   have hfz6_5:=blk_frozen BK195.out 5
   go_wp2
   go_meet
   case rel=>exact ⟨_,(false),(by first|rfl|(simp;done)|(simp [*];done)),(by first|exact H'|(subst_vars;exact H')),⟨by first|omega|exact Nat.le_refl _⟩,⟨by (with_reducible repeat (first|refine blk_drewN ?_ _|refine blk_drew ?_|refine blk_alloc ?_ _));exact BK195.out⟩,⟨by repeat (first|(with_reducible first|exact HB.out|apply below_alloc|apply pw_below_drewN|apply below_drew1|refine below_set ?_ GE195.out)|exact HB.out)⟩⟩
 case rest =>
  clear HC2
  try clear c2
  try clear p2
  try clear c4
  try clear c4b0
  try clear c4b1
  try clear c4b2
  try clear hcz5_0
  try clear hcz5_1
  try clear hcz5_2
  try clear hcz5_3
  try clear hcz5_4
  try clear hcz5_5
  try clear hcz6_0
  try clear hcz6_1
  try clear hcz6_2
  try clear hcz6_3
  try clear hcz6_4
  try clear hcz6_5
  try clear hfz5_0
  try clear hfz5_1
  try clear hfz5_2
  try clear hfz5_3
  try clear hfz5_4
  try clear hfz5_5
  try clear hfz6_0
  try clear hfz6_1
  try clear hfz6_2
  try clear hfz6_3
  try clear hfz6_4
  try clear hfz6_5
  obtain ⟨kq,x3_1,rfl,HA,HJ1,BK195,HB⟩:=hcut
  cases kq with
  | zero=>exact absurd HA.out (by simp [quarryref17_plain.j0])
  | succ kj1 =>
   have H:=HA.out
   clear HA
   simp only [quarryref17_plain.j0] at H
   by_cases c7 : a0_0 = 1
   ·rw [if_pos c7] at H
    have c7b0 : (a0_0 == 1) = true:=beq_iff_eq.mpr c7
    have c7b1 : (a0_0 != 1) = false:=bne_eq_false_iff_eq.mpr c7
    clear c7
    by_cases c8 : x3_1 = true
    ·subst c8
     have H1 : (if a0_1 = true then (some false) else (if a0_2.toList = ([] : List UInt8) then (some (a0_3.toList == ([] : List UInt8))) else (some false))) = some r:=by rw [if_pos rfl] at H;exact H
     clear H
     have H:=H1
     clear H1
     by_cases c9 : a0_1 = true
     ·subst c9
      have H1 : (some false) = some r:=by rw [if_pos rfl] at H;exact H
      clear H
      have H:=H1
      clear H1
      obtain rfl:=Option.some.inj H
      have hcz10_0 : wc.cell? ⟨gb195,0,none⟩ = some (.int .i64 a0_0):=(blk_cell BK195.out 0).trans rfl
      have hcz10_1 : wc.cell? ⟨gb195,1,none⟩ = some (.bool true):=(blk_cell BK195.out 1).trans rfl
      have hcz10_2 : wc.cell? ⟨gb195,2,none⟩ = some (.string a0_2):=(blk_cell BK195.out 2).trans rfl
      have hcz10_3 : wc.cell? ⟨gb195,3,none⟩ = some (.string a0_3):=(blk_cell BK195.out 3).trans rfl
      have hcz10_4 : wc.cell? ⟨gb195,4,none⟩ = some (.slice A0_4 l0_4.length c0_4):=(blk_cell BK195.out 4).trans rfl
      have hcz10_5 : wc.cell? ⟨gb195,5,none⟩ = some (.slice A0_5 l0_5.length c0_5):=(blk_cell BK195.out 5).trans rfl
      have hfz10_0:=blk_frozen BK195.out 0
      have hfz10_1:=blk_frozen BK195.out 1
      have hfz10_2:=blk_frozen BK195.out 2
      have hfz10_3:=blk_frozen BK195.out 3
      have hfz10_4:=blk_frozen BK195.out 4
      have hfz10_5:=blk_frozen BK195.out 5
      go_wp2
      go_ret
      exact ⟨by first|rfl|(simp [errW_none,errW_some] <;> rfl)|(simp [*,errW_none,errW_some] <;> rfl),by repeat (first|(with_reducible first|exact HB.out|apply below_alloc|apply pw_below_drewN|apply below_drew1|refine below_set ?_ GE195.out)|exact HB.out)⟩
     ·replace c9:=Bool.eq_false_iff.mpr c9
      subst c9
      have H1 : (if a0_2.toList = ([] : List UInt8) then (some (a0_3.toList == ([] : List UInt8))) else (some false)) = some r:=by rw [if_neg (show ¬ (false = true) by decide)] at H;exact H
      clear H
      have H:=H1
      clear H1
      by_cases c11 : a0_2.toList = ([] : List UInt8)
      ·rw [if_pos c11] at H
       have c11b0 : (a0_2.toList == ([] : List UInt8)) = true:=beq_iff_eq.mpr c11
       have c11b1 : (a0_2.toList != ([] : List UInt8)) = false:=bne_eq_false_iff_eq.mpr c11
       clear c11
       obtain rfl:=Option.some.inj H
       have hcz12_0 : wc.cell? ⟨gb195,0,none⟩ = some (.int .i64 a0_0):=(blk_cell BK195.out 0).trans rfl
       have hcz12_1 : wc.cell? ⟨gb195,1,none⟩ = some (.bool false):=(blk_cell BK195.out 1).trans rfl
       have hcz12_2 : wc.cell? ⟨gb195,2,none⟩ = some (.string a0_2):=(blk_cell BK195.out 2).trans rfl
       have hcz12_3 : wc.cell? ⟨gb195,3,none⟩ = some (.string a0_3):=(blk_cell BK195.out 3).trans rfl
       have hcz12_4 : wc.cell? ⟨gb195,4,none⟩ = some (.slice A0_4 l0_4.length c0_4):=(blk_cell BK195.out 4).trans rfl
       have hcz12_5 : wc.cell? ⟨gb195,5,none⟩ = some (.slice A0_5 l0_5.length c0_5):=(blk_cell BK195.out 5).trans rfl
       have hfz12_0:=blk_frozen BK195.out 0
       have hfz12_1:=blk_frozen BK195.out 1
       have hfz12_2:=blk_frozen BK195.out 2
       have hfz12_3:=blk_frozen BK195.out 3
       have hfz12_4:=blk_frozen BK195.out 4
       have hfz12_5:=blk_frozen BK195.out 5
       go_wp2
       go_ret
       exact ⟨by first|rfl|(simp [errW_none,errW_some] <;> rfl)|(simp [*,errW_none,errW_some] <;> rfl),by repeat (first|(with_reducible first|exact HB.out|apply below_alloc|apply pw_below_drewN|apply below_drew1|refine below_set ?_ GE195.out)|exact HB.out)⟩
      ·rw [if_neg c11] at H
       have c11b0 : (a0_2.toList == ([] : List UInt8)) = false:=beq_eq_false_iff_ne.mpr c11
       have c11b1 : (a0_2.toList != ([] : List UInt8)) = true:=bne_iff_ne.mpr c11
       obtain rfl:=Option.some.inj H
       have hcz13_0 : wc.cell? ⟨gb195,0,none⟩ = some (.int .i64 a0_0):=(blk_cell BK195.out 0).trans rfl
       have hcz13_1 : wc.cell? ⟨gb195,1,none⟩ = some (.bool false):=(blk_cell BK195.out 1).trans rfl
       have hcz13_2 : wc.cell? ⟨gb195,2,none⟩ = some (.string a0_2):=(blk_cell BK195.out 2).trans rfl
       have hcz13_3 : wc.cell? ⟨gb195,3,none⟩ = some (.string a0_3):=(blk_cell BK195.out 3).trans rfl
       have hcz13_4 : wc.cell? ⟨gb195,4,none⟩ = some (.slice A0_4 l0_4.length c0_4):=(blk_cell BK195.out 4).trans rfl
       have hcz13_5 : wc.cell? ⟨gb195,5,none⟩ = some (.slice A0_5 l0_5.length c0_5):=(blk_cell BK195.out 5).trans rfl
       have hfz13_0:=blk_frozen BK195.out 0
       have hfz13_1:=blk_frozen BK195.out 1
       have hfz13_2:=blk_frozen BK195.out 2
       have hfz13_3:=blk_frozen BK195.out 3
       have hfz13_4:=blk_frozen BK195.out 4
       have hfz13_5:=blk_frozen BK195.out 5
       go_wp2
       go_ret
       exact ⟨by first|rfl|(simp [errW_none,errW_some] <;> rfl)|(simp [*,errW_none,errW_some] <;> rfl),by repeat (first|(with_reducible first|exact HB.out|apply below_alloc|apply pw_below_drewN|apply below_drew1|refine below_set ?_ GE195.out)|exact HB.out)⟩
    ·replace c8:=Bool.eq_false_iff.mpr c8
     subst c8
     have H1 : (some false) = some r:=by rw [if_neg (show ¬ (false = true) by decide)] at H;exact H
     clear H
     have H:=H1
     clear H1
     obtain rfl:=Option.some.inj H
     have hcz14_0 : wc.cell? ⟨gb195,0,none⟩ = some (.int .i64 a0_0):=(blk_cell BK195.out 0).trans rfl
     have hcz14_1 : wc.cell? ⟨gb195,1,none⟩ = some (.bool a0_1):=(blk_cell BK195.out 1).trans rfl
     have hcz14_2 : wc.cell? ⟨gb195,2,none⟩ = some (.string a0_2):=(blk_cell BK195.out 2).trans rfl
     have hcz14_3 : wc.cell? ⟨gb195,3,none⟩ = some (.string a0_3):=(blk_cell BK195.out 3).trans rfl
     have hcz14_4 : wc.cell? ⟨gb195,4,none⟩ = some (.slice A0_4 l0_4.length c0_4):=(blk_cell BK195.out 4).trans rfl
     have hcz14_5 : wc.cell? ⟨gb195,5,none⟩ = some (.slice A0_5 l0_5.length c0_5):=(blk_cell BK195.out 5).trans rfl
     have hfz14_0:=blk_frozen BK195.out 0
     have hfz14_1:=blk_frozen BK195.out 1
     have hfz14_2:=blk_frozen BK195.out 2
     have hfz14_3:=blk_frozen BK195.out 3
     have hfz14_4:=blk_frozen BK195.out 4
     have hfz14_5:=blk_frozen BK195.out 5
     go_wp2
     go_ret
     exact ⟨by first|rfl|(simp [errW_none,errW_some] <;> rfl)|(simp [*,errW_none,errW_some] <;> rfl),by repeat (first|(with_reducible first|exact HB.out|apply below_alloc|apply pw_below_drewN|apply below_drew1|refine below_set ?_ GE195.out)|exact HB.out)⟩
   ·rw [if_neg c7] at H
    have c7b0 : (a0_0 == 1) = false:=beq_eq_false_iff_ne.mpr c7
    have c7b1 : (a0_0 != 1) = true:=bne_iff_ne.mpr c7
    by_cases c15 : a0_0 = 2
    ·rw [if_pos c15] at H
     have c15b0 : (a0_0 == 2) = true:=beq_iff_eq.mpr c15
     have c15b1 : (a0_0 != 2) = false:=bne_eq_false_iff_eq.mpr c15
     clear c15
     by_cases c16 : x3_1 = true
     ·subst c16
      have H1 : (if a0_2.toList = ([] : List UInt8) then (some (a0_3.toList == ([] : List UInt8))) else (some false)) = some r:=by rw [if_pos rfl] at H;exact H
      clear H
      have H:=H1
      clear H1
      by_cases c17 : a0_2.toList = ([] : List UInt8)
      ·rw [if_pos c17] at H
       have c17b0 : (a0_2.toList == ([] : List UInt8)) = true:=beq_iff_eq.mpr c17
       have c17b1 : (a0_2.toList != ([] : List UInt8)) = false:=bne_eq_false_iff_eq.mpr c17
       clear c17
       obtain rfl:=Option.some.inj H
       have hcz18_0 : wc.cell? ⟨gb195,0,none⟩ = some (.int .i64 a0_0):=(blk_cell BK195.out 0).trans rfl
       have hcz18_1 : wc.cell? ⟨gb195,1,none⟩ = some (.bool a0_1):=(blk_cell BK195.out 1).trans rfl
       have hcz18_2 : wc.cell? ⟨gb195,2,none⟩ = some (.string a0_2):=(blk_cell BK195.out 2).trans rfl
       have hcz18_3 : wc.cell? ⟨gb195,3,none⟩ = some (.string a0_3):=(blk_cell BK195.out 3).trans rfl
       have hcz18_4 : wc.cell? ⟨gb195,4,none⟩ = some (.slice A0_4 l0_4.length c0_4):=(blk_cell BK195.out 4).trans rfl
       have hcz18_5 : wc.cell? ⟨gb195,5,none⟩ = some (.slice A0_5 l0_5.length c0_5):=(blk_cell BK195.out 5).trans rfl
       have hfz18_0:=blk_frozen BK195.out 0
       have hfz18_1:=blk_frozen BK195.out 1
       have hfz18_2:=blk_frozen BK195.out 2
       have hfz18_3:=blk_frozen BK195.out 3
       have hfz18_4:=blk_frozen BK195.out 4
       have hfz18_5:=blk_frozen BK195.out 5
       go_wp2
       go_ret
       exact ⟨by first|rfl|(simp [errW_none,errW_some] <;> rfl)|(simp [*,errW_none,errW_some] <;> rfl),by repeat (first|(with_reducible first|exact HB.out|apply below_alloc|apply pw_below_drewN|apply below_drew1|refine below_set ?_ GE195.out)|exact HB.out)⟩
      ·rw [if_neg c17] at H
       have c17b0 : (a0_2.toList == ([] : List UInt8)) = false:=beq_eq_false_iff_ne.mpr c17
       have c17b1 : (a0_2.toList != ([] : List UInt8)) = true:=bne_iff_ne.mpr c17
       obtain rfl:=Option.some.inj H
       have hcz19_0 : wc.cell? ⟨gb195,0,none⟩ = some (.int .i64 a0_0):=(blk_cell BK195.out 0).trans rfl
       have hcz19_1 : wc.cell? ⟨gb195,1,none⟩ = some (.bool a0_1):=(blk_cell BK195.out 1).trans rfl
       have hcz19_2 : wc.cell? ⟨gb195,2,none⟩ = some (.string a0_2):=(blk_cell BK195.out 2).trans rfl
       have hcz19_3 : wc.cell? ⟨gb195,3,none⟩ = some (.string a0_3):=(blk_cell BK195.out 3).trans rfl
       have hcz19_4 : wc.cell? ⟨gb195,4,none⟩ = some (.slice A0_4 l0_4.length c0_4):=(blk_cell BK195.out 4).trans rfl
       have hcz19_5 : wc.cell? ⟨gb195,5,none⟩ = some (.slice A0_5 l0_5.length c0_5):=(blk_cell BK195.out 5).trans rfl
       have hfz19_0:=blk_frozen BK195.out 0
       have hfz19_1:=blk_frozen BK195.out 1
       have hfz19_2:=blk_frozen BK195.out 2
       have hfz19_3:=blk_frozen BK195.out 3
       have hfz19_4:=blk_frozen BK195.out 4
       have hfz19_5:=blk_frozen BK195.out 5
       go_wp2
       go_ret
       exact ⟨by first|rfl|(simp [errW_none,errW_some] <;> rfl)|(simp [*,errW_none,errW_some] <;> rfl),by repeat (first|(with_reducible first|exact HB.out|apply below_alloc|apply pw_below_drewN|apply below_drew1|refine below_set ?_ GE195.out)|exact HB.out)⟩
     ·replace c16:=Bool.eq_false_iff.mpr c16
      subst c16
      have H1 : (some false) = some r:=by rw [if_neg (show ¬ (false = true) by decide)] at H;exact H
      clear H
      have H:=H1
      clear H1
      obtain rfl:=Option.some.inj H
      have hcz20_0 : wc.cell? ⟨gb195,0,none⟩ = some (.int .i64 a0_0):=(blk_cell BK195.out 0).trans rfl
      have hcz20_1 : wc.cell? ⟨gb195,1,none⟩ = some (.bool a0_1):=(blk_cell BK195.out 1).trans rfl
      have hcz20_2 : wc.cell? ⟨gb195,2,none⟩ = some (.string a0_2):=(blk_cell BK195.out 2).trans rfl
      have hcz20_3 : wc.cell? ⟨gb195,3,none⟩ = some (.string a0_3):=(blk_cell BK195.out 3).trans rfl
      have hcz20_4 : wc.cell? ⟨gb195,4,none⟩ = some (.slice A0_4 l0_4.length c0_4):=(blk_cell BK195.out 4).trans rfl
      have hcz20_5 : wc.cell? ⟨gb195,5,none⟩ = some (.slice A0_5 l0_5.length c0_5):=(blk_cell BK195.out 5).trans rfl
      have hfz20_0:=blk_frozen BK195.out 0
      have hfz20_1:=blk_frozen BK195.out 1
      have hfz20_2:=blk_frozen BK195.out 2
      have hfz20_3:=blk_frozen BK195.out 3
      have hfz20_4:=blk_frozen BK195.out 4
      have hfz20_5:=blk_frozen BK195.out 5
      go_wp2
      go_ret
      exact ⟨by first|rfl|(simp [errW_none,errW_some] <;> rfl)|(simp [*,errW_none,errW_some] <;> rfl),by repeat (first|(with_reducible first|exact HB.out|apply below_alloc|apply pw_below_drewN|apply below_drew1|refine below_set ?_ GE195.out)|exact HB.out)⟩
    ·rw [if_neg c15] at H
     have c15b0 : (a0_0 == 2) = false:=beq_eq_false_iff_ne.mpr c15
     have c15b1 : (a0_0 != 2) = true:=bne_iff_ne.mpr c15
     by_cases c21 : a0_0 = 3
     ·rw [if_pos c21] at H
      have c21b0 : (a0_0 == 3) = true:=beq_iff_eq.mpr c21
      have c21b1 : (a0_0 != 3) = false:=bne_eq_false_iff_eq.mpr c21
      clear c21
      replace H:=Option.bind_eq_some_iff.mp H
      obtain ⟨⟨t196,t197,t198,t199⟩,A220,H⟩:=H
      replace H : (if x3_1 = true then (if a0_1 = true then (some false) else (if a0_3.toList = ([] : List UInt8) then (if t199 = 0 then (some true) else (some (t199 == 111))) else (some false))) else (some false)) = some r:=H
      have A22:=Aside0.mk A220
      clear A220
      by_cases c23 : x3_1 = true
      ·subst c23
       have H1 : (if a0_1 = true then (some false) else (if a0_3.toList = ([] : List UInt8) then (if t199 = 0 then (some true) else (some (t199 == 111))) else (some false))) = some r:=by rw [if_pos rfl] at H;exact H
       clear H
       have H:=H1
       clear H1
       by_cases c24 : a0_1 = true
       ·subst c24
        have H1 : (some false) = some r:=by rw [if_pos rfl] at H;exact H
        clear H
        have H:=H1
        clear H1
        obtain rfl:=Option.some.inj H
        have hcz25_0 : wc.cell? ⟨gb195,0,none⟩ = some (.int .i64 a0_0):=(blk_cell BK195.out 0).trans rfl
        have hcz25_1 : wc.cell? ⟨gb195,1,none⟩ = some (.bool true):=(blk_cell BK195.out 1).trans rfl
        have hcz25_2 : wc.cell? ⟨gb195,2,none⟩ = some (.string a0_2):=(blk_cell BK195.out 2).trans rfl
        have hcz25_3 : wc.cell? ⟨gb195,3,none⟩ = some (.string a0_3):=(blk_cell BK195.out 3).trans rfl
        have hcz25_4 : wc.cell? ⟨gb195,4,none⟩ = some (.slice A0_4 l0_4.length c0_4):=(blk_cell BK195.out 4).trans rfl
        have hcz25_5 : wc.cell? ⟨gb195,5,none⟩ = some (.slice A0_5 l0_5.length c0_5):=(blk_cell BK195.out 5).trans rfl
        have hfz25_0:=blk_frozen BK195.out 0
        have hfz25_1:=blk_frozen BK195.out 1
        have hfz25_2:=blk_frozen BK195.out 2
        have hfz25_3:=blk_frozen BK195.out 3
        have hfz25_4:=blk_frozen BK195.out 4
        have hfz25_5:=blk_frozen BK195.out 5
        go_wp2_with (first|((with_reducible refine gate_callee (f:=32) rfl ?_);refine goesL_ (some 55) rfl rfl Tryd.func32 (by kernel_rfl) rfl #[.string a0_2] rfl (by (try simp only [List.map_toArray,List.map_cons,List.map_nil]);first|done|rfl|(simp only [List.length_drop,List.length_take];rfl)) ?_;(with_reducible refine (quarryref11_Of.calls kj1 a0_2 t196 t197 t198 t199 _ A22.out).mono ?_);rintro e w26 ⟨rfl,hb⟩;refine ⟨_,rfl,?_⟩;have n0_:=Aside0.mk (blk_below (g:=gb195) (o:=.cells #[.int .i64 a0_0,.bool true,.string a0_2,.string a0_3,.slice A0_4 l0_4.length c0_4,.slice A0_5 l0_5.length c0_5] 25 (0,0)) (by (with_reducible repeat (first|refine blk_drewN ?_ _|refine blk_drew ?_|refine blk_alloc ?_ _));exact BK195.out) hb);have n1_:=Aside0.mk (below_step (by repeat (first|(with_reducible first|exact HB.out|apply below_alloc|apply pw_below_drewN|apply below_drew1|refine below_set ?_ GE195.out)|exact HB.out)) hb);clear BK195;clear HB;have BK195:=n0_;have HB:=n1_;clear n0_ n1_;(try clear hb);(try clear hb2);(try clear hk);(try clear hi))|((with_reducible refine gate_dst (N:=4) rfl ?_);(try (refine gate_guard (by rfl) ?_;dsimp only));refine box_event ?hg (N:=4) ?hd (cs:=#[.bool false,.string (⟨#[]⟩ : ByteArray),.int .i64 0]) (t:=40) ?hr ?_;(case hd=>rfl);(case hg=>rfl);(case hr=>first|(go_simp;done)|(go_simp;rfl));intro gb200 hg w27 hbox hb;have n0_:=Aside0.mk (blk_below (g:=gb195) (o:=.cells #[.int .i64 a0_0,.bool true,.string a0_2,.string a0_3,.slice A0_4 l0_4.length c0_4,.slice A0_5 l0_5.length c0_5] 25 (0,0)) (by (with_reducible repeat (first|refine blk_drewN ?_ _|refine blk_drew ?_|refine blk_alloc ?_ _));exact BK195.out) hb);have n1_:=Aside0.mk (below_step (by repeat (first|(with_reducible first|exact HB.out|apply below_alloc|apply pw_below_drewN|apply below_drew1|refine below_set ?_ GE195.out)|exact HB.out)) hb);have n2_:=Aside0.mk (hbox);have n3_:=Aside0.mk ((by rw [hg];exact (below_size (by repeat (first|(with_reducible first|exact HB.out|apply below_alloc|apply pw_below_drewN|apply below_drew1|refine below_set ?_ GE195.out)|exact HB.out))) : w.heap.size ≤ gb200));have n4_:=Aside0.mk ((by rw [hg];exact (below_size (by repeat (first|(with_reducible first|exact HB.out|apply below_alloc|apply pw_below_drewN|apply below_drew1|refine below_set ?_ GE195.out)|exact HB.out))) : w.heap.size ≤ gb200));have n5_:=Aside0.mk ((by rw [hg];exact Nat.ne_of_lt (blk_lt (g:=gb195) (o:=.cells #[.int .i64 a0_0,.bool true,.string a0_2,.string a0_3,.slice A0_4 l0_4.length c0_4,.slice A0_5 l0_5.length c0_5] 25 (0,0)) (by (with_reducible repeat (first|refine blk_drewN ?_ _|refine blk_drew ?_|refine blk_alloc ?_ _));exact BK195.out)) : gb195 ≠ gb200));have n6_:=Aside0.mk ((by rw [hg];exact Nat.ne_of_gt (blk_lt (g:=gb195) (o:=.cells #[.int .i64 a0_0,.bool true,.string a0_2,.string a0_3,.slice A0_4 l0_4.length c0_4,.slice A0_5 l0_5.length c0_5] 25 (0,0)) (by (with_reducible repeat (first|refine blk_drewN ?_ _|refine blk_drew ?_|refine blk_alloc ?_ _));exact BK195.out)) : gb200 ≠ gb195));clear BK195;clear HB;have BK195:=n0_;have HB:=n1_;have BK200:=n2_;have GW200:=n3_;have GE200:=n4_;have NB195_200:=n5_;have NB200_195:=n6_;clear n0_ n1_ n2_ n3_ n4_ n5_ n6_;clear hb hbox hg;have hnb28:=NB200_195.out;have hnc28:=NB195_200.out;have hcz29_0 : w27.cell? ⟨gb200,0,none⟩ = some (.bool false):=(blk_cell BK200.out 0).trans rfl;have hcz29_1 : w27.cell? ⟨gb200,1,none⟩ = some (.string (⟨#[]⟩ : ByteArray)):=(blk_cell BK200.out 1).trans rfl;have hcz29_2 : w27.cell? ⟨gb200,2,none⟩ = some (.int .i64 0):=(blk_cell BK200.out 2).trans rfl;have hfz29_0:=blk_frozen BK200.out 0;have hfz29_1:=blk_frozen BK200.out 1;have hfz29_2:=blk_frozen BK200.out 2;have hcz30_0 : w27.cell? ⟨gb195,0,none⟩ = some (.int .i64 a0_0):=(blk_cell BK195.out 0).trans rfl;have hcz30_1 : w27.cell? ⟨gb195,1,none⟩ = some (.bool true):=(blk_cell BK195.out 1).trans rfl;have hcz30_2 : w27.cell? ⟨gb195,2,none⟩ = some (.string a0_2):=(blk_cell BK195.out 2).trans rfl;have hcz30_3 : w27.cell? ⟨gb195,3,none⟩ = some (.string a0_3):=(blk_cell BK195.out 3).trans rfl;have hcz30_4 : w27.cell? ⟨gb195,4,none⟩ = some (.slice A0_4 l0_4.length c0_4):=(blk_cell BK195.out 4).trans rfl;have hcz30_5 : w27.cell? ⟨gb195,5,none⟩ = some (.slice A0_5 l0_5.length c0_5):=(blk_cell BK195.out 5).trans rfl;have hfz30_0:=blk_frozen BK195.out 0;have hfz30_1:=blk_frozen BK195.out 1;have hfz30_2:=blk_frozen BK195.out 2;have hfz30_3:=blk_frozen BK195.out 3;have hfz30_4:=blk_frozen BK195.out 4;have hfz30_5:=blk_frozen BK195.out 5))
        go_ret
        exact ⟨by first|rfl|(simp [errW_none,errW_some] <;> rfl)|(simp [*,errW_none,errW_some] <;> rfl),by repeat (first|(with_reducible first|exact HB.out|apply below_alloc|apply pw_below_drewN|apply below_drew1|refine below_set ?_ GE195.out|refine below_set ?_ GE200.out)|exact HB.out)⟩
       ·replace c24:=Bool.eq_false_iff.mpr c24
        subst c24
        have H1 : (if a0_3.toList = ([] : List UInt8) then (if t199 = 0 then (some true) else (some (t199 == 111))) else (some false)) = some r:=by rw [if_neg (show ¬ (false = true) by decide)] at H;exact H
        clear H
        have H:=H1
        clear H1
        by_cases c31 : a0_3.toList = ([] : List UInt8)
        ·rw [if_pos c31] at H
         have c31b0 : (a0_3.toList == ([] : List UInt8)) = true:=beq_iff_eq.mpr c31
         have c31b1 : (a0_3.toList != ([] : List UInt8)) = false:=bne_eq_false_iff_eq.mpr c31
         clear c31
         by_cases c32 : t199 = 0
         ·rw [if_pos c32] at H
          have c32b0 : (t199 == 0) = true:=beq_iff_eq.mpr c32
          have c32b1 : (t199 != 0) = false:=bne_eq_false_iff_eq.mpr c32
          clear c32
          obtain rfl:=Option.some.inj H
          have hcz33_0 : wc.cell? ⟨gb195,0,none⟩ = some (.int .i64 a0_0):=(blk_cell BK195.out 0).trans rfl
          have hcz33_1 : wc.cell? ⟨gb195,1,none⟩ = some (.bool false):=(blk_cell BK195.out 1).trans rfl
          have hcz33_2 : wc.cell? ⟨gb195,2,none⟩ = some (.string a0_2):=(blk_cell BK195.out 2).trans rfl
          have hcz33_3 : wc.cell? ⟨gb195,3,none⟩ = some (.string a0_3):=(blk_cell BK195.out 3).trans rfl
          have hcz33_4 : wc.cell? ⟨gb195,4,none⟩ = some (.slice A0_4 l0_4.length c0_4):=(blk_cell BK195.out 4).trans rfl
          have hcz33_5 : wc.cell? ⟨gb195,5,none⟩ = some (.slice A0_5 l0_5.length c0_5):=(blk_cell BK195.out 5).trans rfl
          have hfz33_0:=blk_frozen BK195.out 0
          have hfz33_1:=blk_frozen BK195.out 1
          have hfz33_2:=blk_frozen BK195.out 2
          have hfz33_3:=blk_frozen BK195.out 3
          have hfz33_4:=blk_frozen BK195.out 4
          have hfz33_5:=blk_frozen BK195.out 5
          go_wp2_with (first|((with_reducible refine gate_callee (f:=32) rfl ?_);refine goesL_ (some 55) rfl rfl Tryd.func32 (by kernel_rfl) rfl #[.string a0_2] rfl (by (try simp only [List.map_toArray,List.map_cons,List.map_nil]);first|done|rfl|(simp only [List.length_drop,List.length_take];rfl)) ?_;(with_reducible refine (quarryref11_Of.calls kj1 a0_2 t196 t197 t198 t199 _ A22.out).mono ?_);rintro e w34 ⟨rfl,hb⟩;refine ⟨_,rfl,?_⟩;have n0_:=Aside0.mk (blk_below (g:=gb195) (o:=.cells #[.int .i64 a0_0,.bool false,.string a0_2,.string a0_3,.slice A0_4 l0_4.length c0_4,.slice A0_5 l0_5.length c0_5] 25 (0,0)) (by (with_reducible repeat (first|refine blk_drewN ?_ _|refine blk_drew ?_|refine blk_alloc ?_ _));exact BK195.out) hb);have n1_:=Aside0.mk (below_step (by repeat (first|(with_reducible first|exact HB.out|apply below_alloc|apply pw_below_drewN|apply below_drew1|refine below_set ?_ GE195.out)|exact HB.out)) hb);clear BK195;clear HB;have BK195:=n0_;have HB:=n1_;clear n0_ n1_;(try clear hb);(try clear hb2);(try clear hk);(try clear hi))|((with_reducible refine gate_dst (N:=4) rfl ?_);(try (refine gate_guard (by rfl) ?_;dsimp only));refine box_event ?hg (N:=4) ?hd (cs:=#[.bool false,.string (⟨#[]⟩ : ByteArray),.int .i64 0]) (t:=40) ?hr ?_;(case hd=>rfl);(case hg=>rfl);(case hr=>first|(go_simp;done)|(go_simp;rfl));intro gb200 hg w35 hbox hb;have n0_:=Aside0.mk (blk_below (g:=gb195) (o:=.cells #[.int .i64 a0_0,.bool false,.string a0_2,.string a0_3,.slice A0_4 l0_4.length c0_4,.slice A0_5 l0_5.length c0_5] 25 (0,0)) (by (with_reducible repeat (first|refine blk_drewN ?_ _|refine blk_drew ?_|refine blk_alloc ?_ _));exact BK195.out) hb);have n1_:=Aside0.mk (below_step (by repeat (first|(with_reducible first|exact HB.out|apply below_alloc|apply pw_below_drewN|apply below_drew1|refine below_set ?_ GE195.out)|exact HB.out)) hb);have n2_:=Aside0.mk (hbox);have n3_:=Aside0.mk ((by rw [hg];exact (below_size (by repeat (first|(with_reducible first|exact HB.out|apply below_alloc|apply pw_below_drewN|apply below_drew1|refine below_set ?_ GE195.out)|exact HB.out))) : w.heap.size ≤ gb200));have n4_:=Aside0.mk ((by rw [hg];exact (below_size (by repeat (first|(with_reducible first|exact HB.out|apply below_alloc|apply pw_below_drewN|apply below_drew1|refine below_set ?_ GE195.out)|exact HB.out))) : w.heap.size ≤ gb200));have n5_:=Aside0.mk ((by rw [hg];exact Nat.ne_of_lt (blk_lt (g:=gb195) (o:=.cells #[.int .i64 a0_0,.bool false,.string a0_2,.string a0_3,.slice A0_4 l0_4.length c0_4,.slice A0_5 l0_5.length c0_5] 25 (0,0)) (by (with_reducible repeat (first|refine blk_drewN ?_ _|refine blk_drew ?_|refine blk_alloc ?_ _));exact BK195.out)) : gb195 ≠ gb200));have n6_:=Aside0.mk ((by rw [hg];exact Nat.ne_of_gt (blk_lt (g:=gb195) (o:=.cells #[.int .i64 a0_0,.bool false,.string a0_2,.string a0_3,.slice A0_4 l0_4.length c0_4,.slice A0_5 l0_5.length c0_5] 25 (0,0)) (by (with_reducible repeat (first|refine blk_drewN ?_ _|refine blk_drew ?_|refine blk_alloc ?_ _));exact BK195.out)) : gb200 ≠ gb195));clear BK195;clear HB;have BK195:=n0_;have HB:=n1_;have BK200:=n2_;have GW200:=n3_;have GE200:=n4_;have NB195_200:=n5_;have NB200_195:=n6_;clear n0_ n1_ n2_ n3_ n4_ n5_ n6_;clear hb hbox hg;have hnb36:=NB200_195.out;have hnc36:=NB195_200.out;have hcz37_0 : w35.cell? ⟨gb200,0,none⟩ = some (.bool false):=(blk_cell BK200.out 0).trans rfl;have hcz37_1 : w35.cell? ⟨gb200,1,none⟩ = some (.string (⟨#[]⟩ : ByteArray)):=(blk_cell BK200.out 1).trans rfl;have hcz37_2 : w35.cell? ⟨gb200,2,none⟩ = some (.int .i64 0):=(blk_cell BK200.out 2).trans rfl;have hfz37_0:=blk_frozen BK200.out 0;have hfz37_1:=blk_frozen BK200.out 1;have hfz37_2:=blk_frozen BK200.out 2;have hcz38_0 : w35.cell? ⟨gb195,0,none⟩ = some (.int .i64 a0_0):=(blk_cell BK195.out 0).trans rfl;have hcz38_1 : w35.cell? ⟨gb195,1,none⟩ = some (.bool false):=(blk_cell BK195.out 1).trans rfl;have hcz38_2 : w35.cell? ⟨gb195,2,none⟩ = some (.string a0_2):=(blk_cell BK195.out 2).trans rfl;have hcz38_3 : w35.cell? ⟨gb195,3,none⟩ = some (.string a0_3):=(blk_cell BK195.out 3).trans rfl;have hcz38_4 : w35.cell? ⟨gb195,4,none⟩ = some (.slice A0_4 l0_4.length c0_4):=(blk_cell BK195.out 4).trans rfl;have hcz38_5 : w35.cell? ⟨gb195,5,none⟩ = some (.slice A0_5 l0_5.length c0_5):=(blk_cell BK195.out 5).trans rfl;have hfz38_0:=blk_frozen BK195.out 0;have hfz38_1:=blk_frozen BK195.out 1;have hfz38_2:=blk_frozen BK195.out 2;have hfz38_3:=blk_frozen BK195.out 3;have hfz38_4:=blk_frozen BK195.out 4;have hfz38_5:=blk_frozen BK195.out 5))
          go_ret
          exact ⟨by first|rfl|(simp [errW_none,errW_some] <;> rfl)|(simp [*,errW_none,errW_some] <;> rfl),by repeat (first|(with_reducible first|exact HB.out|apply below_alloc|apply pw_below_drewN|apply below_drew1|refine below_set ?_ GE195.out|refine below_set ?_ GE200.out)|exact HB.out)⟩
         ·rw [if_neg c32] at H
          have c32b0 : (t199 == 0) = false:=beq_eq_false_iff_ne.mpr c32
          have c32b1 : (t199 != 0) = true:=bne_iff_ne.mpr c32
          obtain rfl:=Option.some.inj H
          have hcz39_0 : wc.cell? ⟨gb195,0,none⟩ = some (.int .i64 a0_0):=(blk_cell BK195.out 0).trans rfl
          have hcz39_1 : wc.cell? ⟨gb195,1,none⟩ = some (.bool false):=(blk_cell BK195.out 1).trans rfl
          have hcz39_2 : wc.cell? ⟨gb195,2,none⟩ = some (.string a0_2):=(blk_cell BK195.out 2).trans rfl
          have hcz39_3 : wc.cell? ⟨gb195,3,none⟩ = some (.string a0_3):=(blk_cell BK195.out 3).trans rfl
          have hcz39_4 : wc.cell? ⟨gb195,4,none⟩ = some (.slice A0_4 l0_4.length c0_4):=(blk_cell BK195.out 4).trans rfl
          have hcz39_5 : wc.cell? ⟨gb195,5,none⟩ = some (.slice A0_5 l0_5.length c0_5):=(blk_cell BK195.out 5).trans rfl
          have hfz39_0:=blk_frozen BK195.out 0
          have hfz39_1:=blk_frozen BK195.out 1
          have hfz39_2:=blk_frozen BK195.out 2
          have hfz39_3:=blk_frozen BK195.out 3
          have hfz39_4:=blk_frozen BK195.out 4
          have hfz39_5:=blk_frozen BK195.out 5
          go_wp2_with (first|((with_reducible refine gate_callee (f:=32) rfl ?_);refine goesL_ (some 55) rfl rfl Tryd.func32 (by kernel_rfl) rfl #[.string a0_2] rfl (by (try simp only [List.map_toArray,List.map_cons,List.map_nil]);first|done|rfl|(simp only [List.length_drop,List.length_take];rfl)) ?_;(with_reducible refine (quarryref11_Of.calls kj1 a0_2 t196 t197 t198 t199 _ A22.out).mono ?_);rintro e w40 ⟨rfl,hb⟩;refine ⟨_,rfl,?_⟩;have n0_:=Aside0.mk (blk_below (g:=gb195) (o:=.cells #[.int .i64 a0_0,.bool false,.string a0_2,.string a0_3,.slice A0_4 l0_4.length c0_4,.slice A0_5 l0_5.length c0_5] 25 (0,0)) (by (with_reducible repeat (first|refine blk_drewN ?_ _|refine blk_drew ?_|refine blk_alloc ?_ _));exact BK195.out) hb);have n1_:=Aside0.mk (below_step (by repeat (first|(with_reducible first|exact HB.out|apply below_alloc|apply pw_below_drewN|apply below_drew1|refine below_set ?_ GE195.out)|exact HB.out)) hb);clear BK195;clear HB;have BK195:=n0_;have HB:=n1_;clear n0_ n1_;(try clear hb);(try clear hb2);(try clear hk);(try clear hi))|((with_reducible refine gate_dst (N:=4) rfl ?_);(try (refine gate_guard (by rfl) ?_;dsimp only));refine box_event ?hg (N:=4) ?hd (cs:=#[.bool false,.string (⟨#[]⟩ : ByteArray),.int .i64 0]) (t:=40) ?hr ?_;(case hd=>rfl);(case hg=>rfl);(case hr=>first|(go_simp;done)|(go_simp;rfl));intro gb200 hg w41 hbox hb;have n0_:=Aside0.mk (blk_below (g:=gb195) (o:=.cells #[.int .i64 a0_0,.bool false,.string a0_2,.string a0_3,.slice A0_4 l0_4.length c0_4,.slice A0_5 l0_5.length c0_5] 25 (0,0)) (by (with_reducible repeat (first|refine blk_drewN ?_ _|refine blk_drew ?_|refine blk_alloc ?_ _));exact BK195.out) hb);have n1_:=Aside0.mk (below_step (by repeat (first|(with_reducible first|exact HB.out|apply below_alloc|apply pw_below_drewN|apply below_drew1|refine below_set ?_ GE195.out)|exact HB.out)) hb);have n2_:=Aside0.mk (hbox);have n3_:=Aside0.mk ((by rw [hg];exact (below_size (by repeat (first|(with_reducible first|exact HB.out|apply below_alloc|apply pw_below_drewN|apply below_drew1|refine below_set ?_ GE195.out)|exact HB.out))) : w.heap.size ≤ gb200));have n4_:=Aside0.mk ((by rw [hg];exact (below_size (by repeat (first|(with_reducible first|exact HB.out|apply below_alloc|apply pw_below_drewN|apply below_drew1|refine below_set ?_ GE195.out)|exact HB.out))) : w.heap.size ≤ gb200));have n5_:=Aside0.mk ((by rw [hg];exact Nat.ne_of_lt (blk_lt (g:=gb195) (o:=.cells #[.int .i64 a0_0,.bool false,.string a0_2,.string a0_3,.slice A0_4 l0_4.length c0_4,.slice A0_5 l0_5.length c0_5] 25 (0,0)) (by (with_reducible repeat (first|refine blk_drewN ?_ _|refine blk_drew ?_|refine blk_alloc ?_ _));exact BK195.out)) : gb195 ≠ gb200));have n6_:=Aside0.mk ((by rw [hg];exact Nat.ne_of_gt (blk_lt (g:=gb195) (o:=.cells #[.int .i64 a0_0,.bool false,.string a0_2,.string a0_3,.slice A0_4 l0_4.length c0_4,.slice A0_5 l0_5.length c0_5] 25 (0,0)) (by (with_reducible repeat (first|refine blk_drewN ?_ _|refine blk_drew ?_|refine blk_alloc ?_ _));exact BK195.out)) : gb200 ≠ gb195));clear BK195;clear HB;have BK195:=n0_;have HB:=n1_;have BK200:=n2_;have GW200:=n3_;have GE200:=n4_;have NB195_200:=n5_;have NB200_195:=n6_;clear n0_ n1_ n2_ n3_ n4_ n5_ n6_;clear hb hbox hg;have hnb42:=NB200_195.out;have hnc42:=NB195_200.out;have hcz43_0 : w41.cell? ⟨gb200,0,none⟩ = some (.bool false):=(blk_cell BK200.out 0).trans rfl;have hcz43_1 : w41.cell? ⟨gb200,1,none⟩ = some (.string (⟨#[]⟩ : ByteArray)):=(blk_cell BK200.out 1).trans rfl;have hcz43_2 : w41.cell? ⟨gb200,2,none⟩ = some (.int .i64 0):=(blk_cell BK200.out 2).trans rfl;have hfz43_0:=blk_frozen BK200.out 0;have hfz43_1:=blk_frozen BK200.out 1;have hfz43_2:=blk_frozen BK200.out 2;have hcz44_0 : w41.cell? ⟨gb195,0,none⟩ = some (.int .i64 a0_0):=(blk_cell BK195.out 0).trans rfl;have hcz44_1 : w41.cell? ⟨gb195,1,none⟩ = some (.bool false):=(blk_cell BK195.out 1).trans rfl;have hcz44_2 : w41.cell? ⟨gb195,2,none⟩ = some (.string a0_2):=(blk_cell BK195.out 2).trans rfl;have hcz44_3 : w41.cell? ⟨gb195,3,none⟩ = some (.string a0_3):=(blk_cell BK195.out 3).trans rfl;have hcz44_4 : w41.cell? ⟨gb195,4,none⟩ = some (.slice A0_4 l0_4.length c0_4):=(blk_cell BK195.out 4).trans rfl;have hcz44_5 : w41.cell? ⟨gb195,5,none⟩ = some (.slice A0_5 l0_5.length c0_5):=(blk_cell BK195.out 5).trans rfl;have hfz44_0:=blk_frozen BK195.out 0;have hfz44_1:=blk_frozen BK195.out 1;have hfz44_2:=blk_frozen BK195.out 2;have hfz44_3:=blk_frozen BK195.out 3;have hfz44_4:=blk_frozen BK195.out 4;have hfz44_5:=blk_frozen BK195.out 5))
          go_ret
          exact ⟨by first|rfl|(simp [errW_none,errW_some] <;> rfl)|(simp [*,errW_none,errW_some] <;> rfl),by repeat (first|(with_reducible first|exact HB.out|apply below_alloc|apply pw_below_drewN|apply below_drew1|refine below_set ?_ GE195.out|refine below_set ?_ GE200.out)|exact HB.out)⟩
        ·rw [if_neg c31] at H
         have c31b0 : (a0_3.toList == ([] : List UInt8)) = false:=beq_eq_false_iff_ne.mpr c31
         have c31b1 : (a0_3.toList != ([] : List UInt8)) = true:=bne_iff_ne.mpr c31
         obtain rfl:=Option.some.inj H
         have hcz45_0 : wc.cell? ⟨gb195,0,none⟩ = some (.int .i64 a0_0):=(blk_cell BK195.out 0).trans rfl
         have hcz45_1 : wc.cell? ⟨gb195,1,none⟩ = some (.bool false):=(blk_cell BK195.out 1).trans rfl
         have hcz45_2 : wc.cell? ⟨gb195,2,none⟩ = some (.string a0_2):=(blk_cell BK195.out 2).trans rfl
         have hcz45_3 : wc.cell? ⟨gb195,3,none⟩ = some (.string a0_3):=(blk_cell BK195.out 3).trans rfl
         have hcz45_4 : wc.cell? ⟨gb195,4,none⟩ = some (.slice A0_4 l0_4.length c0_4):=(blk_cell BK195.out 4).trans rfl
         have hcz45_5 : wc.cell? ⟨gb195,5,none⟩ = some (.slice A0_5 l0_5.length c0_5):=(blk_cell BK195.out 5).trans rfl
         have hfz45_0:=blk_frozen BK195.out 0
         have hfz45_1:=blk_frozen BK195.out 1
         have hfz45_2:=blk_frozen BK195.out 2
         have hfz45_3:=blk_frozen BK195.out 3
         have hfz45_4:=blk_frozen BK195.out 4
         have hfz45_5:=blk_frozen BK195.out 5
         go_wp2_with (first|((with_reducible refine gate_callee (f:=32) rfl ?_);refine goesL_ (some 55) rfl rfl Tryd.func32 (by kernel_rfl) rfl #[.string a0_2] rfl (by (try simp only [List.map_toArray,List.map_cons,List.map_nil]);first|done|rfl|(simp only [List.length_drop,List.length_take];rfl)) ?_;(with_reducible refine (quarryref11_Of.calls kj1 a0_2 t196 t197 t198 t199 _ A22.out).mono ?_);rintro e w46 ⟨rfl,hb⟩;refine ⟨_,rfl,?_⟩;have n0_:=Aside0.mk (blk_below (g:=gb195) (o:=.cells #[.int .i64 a0_0,.bool false,.string a0_2,.string a0_3,.slice A0_4 l0_4.length c0_4,.slice A0_5 l0_5.length c0_5] 25 (0,0)) (by (with_reducible repeat (first|refine blk_drewN ?_ _|refine blk_drew ?_|refine blk_alloc ?_ _));exact BK195.out) hb);have n1_:=Aside0.mk (below_step (by repeat (first|(with_reducible first|exact HB.out|apply below_alloc|apply pw_below_drewN|apply below_drew1|refine below_set ?_ GE195.out)|exact HB.out)) hb);clear BK195;clear HB;have BK195:=n0_;have HB:=n1_;clear n0_ n1_;(try clear hb);(try clear hb2);(try clear hk);(try clear hi))|((with_reducible refine gate_dst (N:=4) rfl ?_);(try (refine gate_guard (by rfl) ?_;dsimp only));refine box_event ?hg (N:=4) ?hd (cs:=#[.bool false,.string (⟨#[]⟩ : ByteArray),.int .i64 0]) (t:=40) ?hr ?_;(case hd=>rfl);(case hg=>rfl);(case hr=>first|(go_simp;done)|(go_simp;rfl));intro gb200 hg w47 hbox hb;have n0_:=Aside0.mk (blk_below (g:=gb195) (o:=.cells #[.int .i64 a0_0,.bool false,.string a0_2,.string a0_3,.slice A0_4 l0_4.length c0_4,.slice A0_5 l0_5.length c0_5] 25 (0,0)) (by (with_reducible repeat (first|refine blk_drewN ?_ _|refine blk_drew ?_|refine blk_alloc ?_ _));exact BK195.out) hb);have n1_:=Aside0.mk (below_step (by repeat (first|(with_reducible first|exact HB.out|apply below_alloc|apply pw_below_drewN|apply below_drew1|refine below_set ?_ GE195.out)|exact HB.out)) hb);have n2_:=Aside0.mk (hbox);have n3_:=Aside0.mk ((by rw [hg];exact (below_size (by repeat (first|(with_reducible first|exact HB.out|apply below_alloc|apply pw_below_drewN|apply below_drew1|refine below_set ?_ GE195.out)|exact HB.out))) : w.heap.size ≤ gb200));have n4_:=Aside0.mk ((by rw [hg];exact (below_size (by repeat (first|(with_reducible first|exact HB.out|apply below_alloc|apply pw_below_drewN|apply below_drew1|refine below_set ?_ GE195.out)|exact HB.out))) : w.heap.size ≤ gb200));have n5_:=Aside0.mk ((by rw [hg];exact Nat.ne_of_lt (blk_lt (g:=gb195) (o:=.cells #[.int .i64 a0_0,.bool false,.string a0_2,.string a0_3,.slice A0_4 l0_4.length c0_4,.slice A0_5 l0_5.length c0_5] 25 (0,0)) (by (with_reducible repeat (first|refine blk_drewN ?_ _|refine blk_drew ?_|refine blk_alloc ?_ _));exact BK195.out)) : gb195 ≠ gb200));have n6_:=Aside0.mk ((by rw [hg];exact Nat.ne_of_gt (blk_lt (g:=gb195) (o:=.cells #[.int .i64 a0_0,.bool false,.string a0_2,.string a0_3,.slice A0_4 l0_4.length c0_4,.slice A0_5 l0_5.length c0_5] 25 (0,0)) (by (with_reducible repeat (first|refine blk_drewN ?_ _|refine blk_drew ?_|refine blk_alloc ?_ _));exact BK195.out)) : gb200 ≠ gb195));clear BK195;clear HB;have BK195:=n0_;have HB:=n1_;have BK200:=n2_;have GW200:=n3_;have GE200:=n4_;have NB195_200:=n5_;have NB200_195:=n6_;clear n0_ n1_ n2_ n3_ n4_ n5_ n6_;clear hb hbox hg;have hnb48:=NB200_195.out;have hnc48:=NB195_200.out;have hcz49_0 : w47.cell? ⟨gb200,0,none⟩ = some (.bool false):=(blk_cell BK200.out 0).trans rfl;have hcz49_1 : w47.cell? ⟨gb200,1,none⟩ = some (.string (⟨#[]⟩ : ByteArray)):=(blk_cell BK200.out 1).trans rfl;have hcz49_2 : w47.cell? ⟨gb200,2,none⟩ = some (.int .i64 0):=(blk_cell BK200.out 2).trans rfl;have hfz49_0:=blk_frozen BK200.out 0;have hfz49_1:=blk_frozen BK200.out 1;have hfz49_2:=blk_frozen BK200.out 2;have hcz50_0 : w47.cell? ⟨gb195,0,none⟩ = some (.int .i64 a0_0):=(blk_cell BK195.out 0).trans rfl;have hcz50_1 : w47.cell? ⟨gb195,1,none⟩ = some (.bool false):=(blk_cell BK195.out 1).trans rfl;have hcz50_2 : w47.cell? ⟨gb195,2,none⟩ = some (.string a0_2):=(blk_cell BK195.out 2).trans rfl;have hcz50_3 : w47.cell? ⟨gb195,3,none⟩ = some (.string a0_3):=(blk_cell BK195.out 3).trans rfl;have hcz50_4 : w47.cell? ⟨gb195,4,none⟩ = some (.slice A0_4 l0_4.length c0_4):=(blk_cell BK195.out 4).trans rfl;have hcz50_5 : w47.cell? ⟨gb195,5,none⟩ = some (.slice A0_5 l0_5.length c0_5):=(blk_cell BK195.out 5).trans rfl;have hfz50_0:=blk_frozen BK195.out 0;have hfz50_1:=blk_frozen BK195.out 1;have hfz50_2:=blk_frozen BK195.out 2;have hfz50_3:=blk_frozen BK195.out 3;have hfz50_4:=blk_frozen BK195.out 4;have hfz50_5:=blk_frozen BK195.out 5))
         go_ret
         exact ⟨by first|rfl|(simp [errW_none,errW_some] <;> rfl)|(simp [*,errW_none,errW_some] <;> rfl),by repeat (first|(with_reducible first|exact HB.out|apply below_alloc|apply pw_below_drewN|apply below_drew1|refine below_set ?_ GE195.out|refine below_set ?_ GE200.out)|exact HB.out)⟩
      ·replace c23:=Bool.eq_false_iff.mpr c23
       subst c23
       have H1 : (some false) = some r:=by rw [if_neg (show ¬ (false = true) by decide)] at H;exact H
       clear H
       have H:=H1
       clear H1
       obtain rfl:=Option.some.inj H
       have hcz51_0 : wc.cell? ⟨gb195,0,none⟩ = some (.int .i64 a0_0):=(blk_cell BK195.out 0).trans rfl
       have hcz51_1 : wc.cell? ⟨gb195,1,none⟩ = some (.bool a0_1):=(blk_cell BK195.out 1).trans rfl
       have hcz51_2 : wc.cell? ⟨gb195,2,none⟩ = some (.string a0_2):=(blk_cell BK195.out 2).trans rfl
       have hcz51_3 : wc.cell? ⟨gb195,3,none⟩ = some (.string a0_3):=(blk_cell BK195.out 3).trans rfl
       have hcz51_4 : wc.cell? ⟨gb195,4,none⟩ = some (.slice A0_4 l0_4.length c0_4):=(blk_cell BK195.out 4).trans rfl
       have hcz51_5 : wc.cell? ⟨gb195,5,none⟩ = some (.slice A0_5 l0_5.length c0_5):=(blk_cell BK195.out 5).trans rfl
       have hfz51_0:=blk_frozen BK195.out 0
       have hfz51_1:=blk_frozen BK195.out 1
       have hfz51_2:=blk_frozen BK195.out 2
       have hfz51_3:=blk_frozen BK195.out 3
       have hfz51_4:=blk_frozen BK195.out 4
       have hfz51_5:=blk_frozen BK195.out 5
       go_wp2_with (first|((with_reducible refine gate_callee (f:=32) rfl ?_);refine goesL_ (some 55) rfl rfl Tryd.func32 (by kernel_rfl) rfl #[.string a0_2] rfl (by (try simp only [List.map_toArray,List.map_cons,List.map_nil]);first|done|rfl|(simp only [List.length_drop,List.length_take];rfl)) ?_;(with_reducible refine (quarryref11_Of.calls kj1 a0_2 t196 t197 t198 t199 _ A22.out).mono ?_);rintro e w52 ⟨rfl,hb⟩;refine ⟨_,rfl,?_⟩;have n0_:=Aside0.mk (blk_below (g:=gb195) (o:=.cells #[.int .i64 a0_0,.bool a0_1,.string a0_2,.string a0_3,.slice A0_4 l0_4.length c0_4,.slice A0_5 l0_5.length c0_5] 25 (0,0)) (by (with_reducible repeat (first|refine blk_drewN ?_ _|refine blk_drew ?_|refine blk_alloc ?_ _));exact BK195.out) hb);have n1_:=Aside0.mk (below_step (by repeat (first|(with_reducible first|exact HB.out|apply below_alloc|apply pw_below_drewN|apply below_drew1|refine below_set ?_ GE195.out)|exact HB.out)) hb);clear BK195;clear HB;have BK195:=n0_;have HB:=n1_;clear n0_ n1_;(try clear hb);(try clear hb2);(try clear hk);(try clear hi))|((with_reducible refine gate_dst (N:=4) rfl ?_);(try (refine gate_guard (by rfl) ?_;dsimp only));refine box_event ?hg (N:=4) ?hd (cs:=#[.bool false,.string (⟨#[]⟩ : ByteArray),.int .i64 0]) (t:=40) ?hr ?_;(case hd=>rfl);(case hg=>rfl);(case hr=>first|(go_simp;done)|(go_simp;rfl));intro gb200 hg w53 hbox hb;have n0_:=Aside0.mk (blk_below (g:=gb195) (o:=.cells #[.int .i64 a0_0,.bool a0_1,.string a0_2,.string a0_3,.slice A0_4 l0_4.length c0_4,.slice A0_5 l0_5.length c0_5] 25 (0,0)) (by (with_reducible repeat (first|refine blk_drewN ?_ _|refine blk_drew ?_|refine blk_alloc ?_ _));exact BK195.out) hb);have n1_:=Aside0.mk (below_step (by repeat (first|(with_reducible first|exact HB.out|apply below_alloc|apply pw_below_drewN|apply below_drew1|refine below_set ?_ GE195.out)|exact HB.out)) hb);have n2_:=Aside0.mk (hbox);have n3_:=Aside0.mk ((by rw [hg];exact (below_size (by repeat (first|(with_reducible first|exact HB.out|apply below_alloc|apply pw_below_drewN|apply below_drew1|refine below_set ?_ GE195.out)|exact HB.out))) : w.heap.size ≤ gb200));have n4_:=Aside0.mk ((by rw [hg];exact (below_size (by repeat (first|(with_reducible first|exact HB.out|apply below_alloc|apply pw_below_drewN|apply below_drew1|refine below_set ?_ GE195.out)|exact HB.out))) : w.heap.size ≤ gb200));have n5_:=Aside0.mk ((by rw [hg];exact Nat.ne_of_lt (blk_lt (g:=gb195) (o:=.cells #[.int .i64 a0_0,.bool a0_1,.string a0_2,.string a0_3,.slice A0_4 l0_4.length c0_4,.slice A0_5 l0_5.length c0_5] 25 (0,0)) (by (with_reducible repeat (first|refine blk_drewN ?_ _|refine blk_drew ?_|refine blk_alloc ?_ _));exact BK195.out)) : gb195 ≠ gb200));have n6_:=Aside0.mk ((by rw [hg];exact Nat.ne_of_gt (blk_lt (g:=gb195) (o:=.cells #[.int .i64 a0_0,.bool a0_1,.string a0_2,.string a0_3,.slice A0_4 l0_4.length c0_4,.slice A0_5 l0_5.length c0_5] 25 (0,0)) (by (with_reducible repeat (first|refine blk_drewN ?_ _|refine blk_drew ?_|refine blk_alloc ?_ _));exact BK195.out)) : gb200 ≠ gb195));clear BK195;clear HB;have BK195:=n0_;have HB:=n1_;have BK200:=n2_;have GW200:=n3_;have GE200:=n4_;have NB195_200:=n5_;have NB200_195:=n6_;clear n0_ n1_ n2_ n3_ n4_ n5_ n6_;clear hb hbox hg;have hnb54:=NB200_195.out;have hnc54:=NB195_200.out;have hcz55_0 : w53.cell? ⟨gb200,0,none⟩ = some (.bool false):=(blk_cell BK200.out 0).trans rfl;have hcz55_1 : w53.cell? ⟨gb200,1,none⟩ = some (.string (⟨#[]⟩ : ByteArray)):=(blk_cell BK200.out 1).trans rfl;have hcz55_2 : w53.cell? ⟨gb200,2,none⟩ = some (.int .i64 0):=(blk_cell BK200.out 2).trans rfl;have hfz55_0:=blk_frozen BK200.out 0;have hfz55_1:=blk_frozen BK200.out 1;have hfz55_2:=blk_frozen BK200.out 2))
       go_ret
       exact ⟨by first|rfl|(simp [errW_none,errW_some] <;> rfl)|(simp [*,errW_none,errW_some] <;> rfl),by repeat (first|(with_reducible first|exact HB.out|apply below_alloc|apply pw_below_drewN|apply below_drew1|refine below_set ?_ GE195.out|refine below_set ?_ GE200.out)|exact HB.out)⟩
     ·rw [if_neg c21] at H
      have c21b0 : (a0_0 == 3) = false:=beq_eq_false_iff_ne.mpr c21
      have c21b1 : (a0_0 != 3) = true:=bne_iff_ne.mpr c21
      by_cases c56 : a0_0 = 4
      ·rw [if_pos c56] at H
       have c56b0 : (a0_0 == 4) = true:=beq_iff_eq.mpr c56
       have c56b1 : (a0_0 != 4) = false:=bne_eq_false_iff_eq.mpr c56
       clear c56
       by_cases c57 : x3_1 = true
       ·subst c57
        have H1 : (if a0_1 = true then (some false) else (if a0_2.toList = ([] : List UInt8) then ((quarryref05_Bad.f kj1 a0_3).bind fun t201=>(some (t201 == (-1)))) else (some false))) = some r:=by rw [if_pos rfl] at H;exact H
        clear H
        have H:=H1
        clear H1
        by_cases c58 : a0_1 = true
        ·subst c58
         have H1 : (some false) = some r:=by rw [if_pos rfl] at H;exact H
         clear H
         have H:=H1
         clear H1
         obtain rfl:=Option.some.inj H
         have hcz59_0 : wc.cell? ⟨gb195,0,none⟩ = some (.int .i64 a0_0):=(blk_cell BK195.out 0).trans rfl
         have hcz59_1 : wc.cell? ⟨gb195,1,none⟩ = some (.bool true):=(blk_cell BK195.out 1).trans rfl
         have hcz59_2 : wc.cell? ⟨gb195,2,none⟩ = some (.string a0_2):=(blk_cell BK195.out 2).trans rfl
         have hcz59_3 : wc.cell? ⟨gb195,3,none⟩ = some (.string a0_3):=(blk_cell BK195.out 3).trans rfl
         have hcz59_4 : wc.cell? ⟨gb195,4,none⟩ = some (.slice A0_4 l0_4.length c0_4):=(blk_cell BK195.out 4).trans rfl
         have hcz59_5 : wc.cell? ⟨gb195,5,none⟩ = some (.slice A0_5 l0_5.length c0_5):=(blk_cell BK195.out 5).trans rfl
         have hfz59_0:=blk_frozen BK195.out 0
         have hfz59_1:=blk_frozen BK195.out 1
         have hfz59_2:=blk_frozen BK195.out 2
         have hfz59_3:=blk_frozen BK195.out 3
         have hfz59_4:=blk_frozen BK195.out 4
         have hfz59_5:=blk_frozen BK195.out 5
         go_wp2
         go_ret
         exact ⟨by first|rfl|(simp [errW_none,errW_some] <;> rfl)|(simp [*,errW_none,errW_some] <;> rfl),by repeat (first|(with_reducible first|exact HB.out|apply below_alloc|apply pw_below_drewN|apply below_drew1|refine below_set ?_ GE195.out)|exact HB.out)⟩
        ·replace c58:=Bool.eq_false_iff.mpr c58
         subst c58
         have H1 : (if a0_2.toList = ([] : List UInt8) then ((quarryref05_Bad.f kj1 a0_3).bind fun t201=>(some (t201 == (-1)))) else (some false)) = some r:=by rw [if_neg (show ¬ (false = true) by decide)] at H;exact H
         clear H
         have H:=H1
         clear H1
         by_cases c60 : a0_2.toList = ([] : List UInt8)
         ·rw [if_pos c60] at H
          have c60b0 : (a0_2.toList == ([] : List UInt8)) = true:=beq_iff_eq.mpr c60
          have c60b1 : (a0_2.toList != ([] : List UInt8)) = false:=bne_eq_false_iff_eq.mpr c60
          clear c60
          replace H:=Option.bind_eq_some_iff.mp H
          obtain ⟨t201,A610,H⟩:=H
          replace H : (some (t201 == (-1))) = some r:=H
          have A61:=Aside0.mk A610
          clear A610
          obtain rfl:=Option.some.inj H
          have hcz62_0 : wc.cell? ⟨gb195,0,none⟩ = some (.int .i64 a0_0):=(blk_cell BK195.out 0).trans rfl
          have hcz62_1 : wc.cell? ⟨gb195,1,none⟩ = some (.bool false):=(blk_cell BK195.out 1).trans rfl
          have hcz62_2 : wc.cell? ⟨gb195,2,none⟩ = some (.string a0_2):=(blk_cell BK195.out 2).trans rfl
          have hcz62_3 : wc.cell? ⟨gb195,3,none⟩ = some (.string a0_3):=(blk_cell BK195.out 3).trans rfl
          have hcz62_4 : wc.cell? ⟨gb195,4,none⟩ = some (.slice A0_4 l0_4.length c0_4):=(blk_cell BK195.out 4).trans rfl
          have hcz62_5 : wc.cell? ⟨gb195,5,none⟩ = some (.slice A0_5 l0_5.length c0_5):=(blk_cell BK195.out 5).trans rfl
          have hfz62_0:=blk_frozen BK195.out 0
          have hfz62_1:=blk_frozen BK195.out 1
          have hfz62_2:=blk_frozen BK195.out 2
          have hfz62_3:=blk_frozen BK195.out 3
          have hfz62_4:=blk_frozen BK195.out 4
          have hfz62_5:=blk_frozen BK195.out 5
          go_wp2_with (first|(go_at_call 41;(with_reducible refine (quarryref05_Bad.calls kj1 a0_3 t201 _ A61.out).mono ?_);rintro e w63 ⟨rfl,hb⟩;have n0_:=Aside0.mk (blk_below (g:=gb195) (o:=.cells #[.int .i64 a0_0,.bool false,.string a0_2,.string a0_3,.slice A0_4 l0_4.length c0_4,.slice A0_5 l0_5.length c0_5] 25 (0,0)) (by (with_reducible repeat (first|refine blk_drewN ?_ _|refine blk_drew ?_|refine blk_alloc ?_ _));exact BK195.out) hb);have n1_:=Aside0.mk (below_step (by repeat (first|(with_reducible first|exact HB.out|apply below_alloc|apply pw_below_drewN|apply below_drew1|refine below_set ?_ GE195.out)|exact HB.out)) hb);clear BK195;clear HB;have BK195:=n0_;have HB:=n1_;clear n0_ n1_;(try clear hb);(try clear hb2);(try clear hk);(try clear hi)))
          go_ret
          exact ⟨by first|rfl|(simp [errW_none,errW_some] <;> rfl)|(simp [*,errW_none,errW_some] <;> rfl),by repeat (first|(with_reducible first|exact HB.out|apply below_alloc|apply pw_below_drewN|apply below_drew1|refine below_set ?_ GE195.out)|exact HB.out)⟩
         ·rw [if_neg c60] at H
          have c60b0 : (a0_2.toList == ([] : List UInt8)) = false:=beq_eq_false_iff_ne.mpr c60
          have c60b1 : (a0_2.toList != ([] : List UInt8)) = true:=bne_iff_ne.mpr c60
          obtain rfl:=Option.some.inj H
          have hcz64_0 : wc.cell? ⟨gb195,0,none⟩ = some (.int .i64 a0_0):=(blk_cell BK195.out 0).trans rfl
          have hcz64_1 : wc.cell? ⟨gb195,1,none⟩ = some (.bool false):=(blk_cell BK195.out 1).trans rfl
          have hcz64_2 : wc.cell? ⟨gb195,2,none⟩ = some (.string a0_2):=(blk_cell BK195.out 2).trans rfl
          have hcz64_3 : wc.cell? ⟨gb195,3,none⟩ = some (.string a0_3):=(blk_cell BK195.out 3).trans rfl
          have hcz64_4 : wc.cell? ⟨gb195,4,none⟩ = some (.slice A0_4 l0_4.length c0_4):=(blk_cell BK195.out 4).trans rfl
          have hcz64_5 : wc.cell? ⟨gb195,5,none⟩ = some (.slice A0_5 l0_5.length c0_5):=(blk_cell BK195.out 5).trans rfl
          have hfz64_0:=blk_frozen BK195.out 0
          have hfz64_1:=blk_frozen BK195.out 1
          have hfz64_2:=blk_frozen BK195.out 2
          have hfz64_3:=blk_frozen BK195.out 3
          have hfz64_4:=blk_frozen BK195.out 4
          have hfz64_5:=blk_frozen BK195.out 5
          go_wp2
          go_ret
          exact ⟨by first|rfl|(simp [errW_none,errW_some] <;> rfl)|(simp [*,errW_none,errW_some] <;> rfl),by repeat (first|(with_reducible first|exact HB.out|apply below_alloc|apply pw_below_drewN|apply below_drew1|refine below_set ?_ GE195.out)|exact HB.out)⟩
       ·replace c57:=Bool.eq_false_iff.mpr c57
        subst c57
        have H1 : (some false) = some r:=by rw [if_neg (show ¬ (false = true) by decide)] at H;exact H
        clear H
        have H:=H1
        clear H1
        obtain rfl:=Option.some.inj H
        have hcz65_0 : wc.cell? ⟨gb195,0,none⟩ = some (.int .i64 a0_0):=(blk_cell BK195.out 0).trans rfl
        have hcz65_1 : wc.cell? ⟨gb195,1,none⟩ = some (.bool a0_1):=(blk_cell BK195.out 1).trans rfl
        have hcz65_2 : wc.cell? ⟨gb195,2,none⟩ = some (.string a0_2):=(blk_cell BK195.out 2).trans rfl
        have hcz65_3 : wc.cell? ⟨gb195,3,none⟩ = some (.string a0_3):=(blk_cell BK195.out 3).trans rfl
        have hcz65_4 : wc.cell? ⟨gb195,4,none⟩ = some (.slice A0_4 l0_4.length c0_4):=(blk_cell BK195.out 4).trans rfl
        have hcz65_5 : wc.cell? ⟨gb195,5,none⟩ = some (.slice A0_5 l0_5.length c0_5):=(blk_cell BK195.out 5).trans rfl
        have hfz65_0:=blk_frozen BK195.out 0
        have hfz65_1:=blk_frozen BK195.out 1
        have hfz65_2:=blk_frozen BK195.out 2
        have hfz65_3:=blk_frozen BK195.out 3
        have hfz65_4:=blk_frozen BK195.out 4
        have hfz65_5:=blk_frozen BK195.out 5
        go_wp2
        go_ret
        exact ⟨by first|rfl|(simp [errW_none,errW_some] <;> rfl)|(simp [*,errW_none,errW_some] <;> rfl),by repeat (first|(with_reducible first|exact HB.out|apply below_alloc|apply pw_below_drewN|apply below_drew1|refine below_set ?_ GE195.out)|exact HB.out)⟩
      ·rw [if_neg c56] at H
       have c56b0 : (a0_0 == 4) = false:=beq_eq_false_iff_ne.mpr c56
       have c56b1 : (a0_0 != 4) = true:=bne_iff_ne.mpr c56
       by_cases c66 : a0_0 = 5
       ·rw [if_pos c66] at H
        have c66b0 : (a0_0 == 5) = true:=beq_iff_eq.mpr c66
        have c66b1 : (a0_0 != 5) = false:=bne_eq_false_iff_eq.mpr c66
        clear c66
        by_cases c67 : a0_1 = true
        ·subst c67
         have H1 : (some false) = some r:=by rw [if_pos rfl] at H;exact H
         clear H
         have H:=H1
         clear H1
         obtain rfl:=Option.some.inj H
         have hcz68_0 : wc.cell? ⟨gb195,0,none⟩ = some (.int .i64 a0_0):=(blk_cell BK195.out 0).trans rfl
         have hcz68_1 : wc.cell? ⟨gb195,1,none⟩ = some (.bool true):=(blk_cell BK195.out 1).trans rfl
         have hcz68_2 : wc.cell? ⟨gb195,2,none⟩ = some (.string a0_2):=(blk_cell BK195.out 2).trans rfl
         have hcz68_3 : wc.cell? ⟨gb195,3,none⟩ = some (.string a0_3):=(blk_cell BK195.out 3).trans rfl
         have hcz68_4 : wc.cell? ⟨gb195,4,none⟩ = some (.slice A0_4 l0_4.length c0_4):=(blk_cell BK195.out 4).trans rfl
         have hcz68_5 : wc.cell? ⟨gb195,5,none⟩ = some (.slice A0_5 l0_5.length c0_5):=(blk_cell BK195.out 5).trans rfl
         have hfz68_0:=blk_frozen BK195.out 0
         have hfz68_1:=blk_frozen BK195.out 1
         have hfz68_2:=blk_frozen BK195.out 2
         have hfz68_3:=blk_frozen BK195.out 3
         have hfz68_4:=blk_frozen BK195.out 4
         have hfz68_5:=blk_frozen BK195.out 5
         go_wp2
         go_ret
         exact ⟨by first|rfl|(simp [errW_none,errW_some] <;> rfl)|(simp [*,errW_none,errW_some] <;> rfl),by repeat (first|(with_reducible first|exact HB.out|apply below_alloc|apply pw_below_drewN|apply below_drew1|refine below_set ?_ GE195.out)|exact HB.out)⟩
        ·replace c67:=Bool.eq_false_iff.mpr c67
         subst c67
         have H1 : (if a0_2.toList = ([] : List UInt8) then (if a0_3.toList = ([] : List UInt8) then (some ((l0_4.length : Int) == 0)) else (some false)) else (some false)) = some r:=by rw [if_neg (show ¬ (false = true) by decide)] at H;exact H
         clear H
         have H:=H1
         clear H1
         by_cases c69 : a0_2.toList = ([] : List UInt8)
         ·rw [if_pos c69] at H
          have c69b0 : (a0_2.toList == ([] : List UInt8)) = true:=beq_iff_eq.mpr c69
          have c69b1 : (a0_2.toList != ([] : List UInt8)) = false:=bne_eq_false_iff_eq.mpr c69
          clear c69
          by_cases c70 : a0_3.toList = ([] : List UInt8)
          ·rw [if_pos c70] at H
           have c70b0 : (a0_3.toList == ([] : List UInt8)) = true:=beq_iff_eq.mpr c70
           have c70b1 : (a0_3.toList != ([] : List UInt8)) = false:=bne_eq_false_iff_eq.mpr c70
           clear c70
           obtain rfl:=Option.some.inj H
           have hcz71_0 : wc.cell? ⟨gb195,0,none⟩ = some (.int .i64 a0_0):=(blk_cell BK195.out 0).trans rfl
           have hcz71_1 : wc.cell? ⟨gb195,1,none⟩ = some (.bool false):=(blk_cell BK195.out 1).trans rfl
           have hcz71_2 : wc.cell? ⟨gb195,2,none⟩ = some (.string a0_2):=(blk_cell BK195.out 2).trans rfl
           have hcz71_3 : wc.cell? ⟨gb195,3,none⟩ = some (.string a0_3):=(blk_cell BK195.out 3).trans rfl
           have hcz71_4 : wc.cell? ⟨gb195,4,none⟩ = some (.slice A0_4 l0_4.length c0_4):=(blk_cell BK195.out 4).trans rfl
           have hcz71_5 : wc.cell? ⟨gb195,5,none⟩ = some (.slice A0_5 l0_5.length c0_5):=(blk_cell BK195.out 5).trans rfl
           have hfz71_0:=blk_frozen BK195.out 0
           have hfz71_1:=blk_frozen BK195.out 1
           have hfz71_2:=blk_frozen BK195.out 2
           have hfz71_3:=blk_frozen BK195.out 3
           have hfz71_4:=blk_frozen BK195.out 4
           have hfz71_5:=blk_frozen BK195.out 5
           go_wp2
           go_ret
           exact ⟨by first|rfl|(simp [errW_none,errW_some] <;> rfl)|(simp [*,errW_none,errW_some] <;> rfl),by repeat (first|(with_reducible first|exact HB.out|apply below_alloc|apply pw_below_drewN|apply below_drew1|refine below_set ?_ GE195.out)|exact HB.out)⟩
          ·rw [if_neg c70] at H
           have c70b0 : (a0_3.toList == ([] : List UInt8)) = false:=beq_eq_false_iff_ne.mpr c70
           have c70b1 : (a0_3.toList != ([] : List UInt8)) = true:=bne_iff_ne.mpr c70
           obtain rfl:=Option.some.inj H
           have hcz72_0 : wc.cell? ⟨gb195,0,none⟩ = some (.int .i64 a0_0):=(blk_cell BK195.out 0).trans rfl
           have hcz72_1 : wc.cell? ⟨gb195,1,none⟩ = some (.bool false):=(blk_cell BK195.out 1).trans rfl
           have hcz72_2 : wc.cell? ⟨gb195,2,none⟩ = some (.string a0_2):=(blk_cell BK195.out 2).trans rfl
           have hcz72_3 : wc.cell? ⟨gb195,3,none⟩ = some (.string a0_3):=(blk_cell BK195.out 3).trans rfl
           have hcz72_4 : wc.cell? ⟨gb195,4,none⟩ = some (.slice A0_4 l0_4.length c0_4):=(blk_cell BK195.out 4).trans rfl
           have hcz72_5 : wc.cell? ⟨gb195,5,none⟩ = some (.slice A0_5 l0_5.length c0_5):=(blk_cell BK195.out 5).trans rfl
           have hfz72_0:=blk_frozen BK195.out 0
           have hfz72_1:=blk_frozen BK195.out 1
           have hfz72_2:=blk_frozen BK195.out 2
           have hfz72_3:=blk_frozen BK195.out 3
           have hfz72_4:=blk_frozen BK195.out 4
           have hfz72_5:=blk_frozen BK195.out 5
           go_wp2
           go_ret
           exact ⟨by first|rfl|(simp [errW_none,errW_some] <;> rfl)|(simp [*,errW_none,errW_some] <;> rfl),by repeat (first|(with_reducible first|exact HB.out|apply below_alloc|apply pw_below_drewN|apply below_drew1|refine below_set ?_ GE195.out)|exact HB.out)⟩
         ·rw [if_neg c69] at H
          have c69b0 : (a0_2.toList == ([] : List UInt8)) = false:=beq_eq_false_iff_ne.mpr c69
          have c69b1 : (a0_2.toList != ([] : List UInt8)) = true:=bne_iff_ne.mpr c69
          obtain rfl:=Option.some.inj H
          have hcz73_0 : wc.cell? ⟨gb195,0,none⟩ = some (.int .i64 a0_0):=(blk_cell BK195.out 0).trans rfl
          have hcz73_1 : wc.cell? ⟨gb195,1,none⟩ = some (.bool false):=(blk_cell BK195.out 1).trans rfl
          have hcz73_2 : wc.cell? ⟨gb195,2,none⟩ = some (.string a0_2):=(blk_cell BK195.out 2).trans rfl
          have hcz73_3 : wc.cell? ⟨gb195,3,none⟩ = some (.string a0_3):=(blk_cell BK195.out 3).trans rfl
          have hcz73_4 : wc.cell? ⟨gb195,4,none⟩ = some (.slice A0_4 l0_4.length c0_4):=(blk_cell BK195.out 4).trans rfl
          have hcz73_5 : wc.cell? ⟨gb195,5,none⟩ = some (.slice A0_5 l0_5.length c0_5):=(blk_cell BK195.out 5).trans rfl
          have hfz73_0:=blk_frozen BK195.out 0
          have hfz73_1:=blk_frozen BK195.out 1
          have hfz73_2:=blk_frozen BK195.out 2
          have hfz73_3:=blk_frozen BK195.out 3
          have hfz73_4:=blk_frozen BK195.out 4
          have hfz73_5:=blk_frozen BK195.out 5
          go_wp2
          go_ret
          exact ⟨by first|rfl|(simp [errW_none,errW_some] <;> rfl)|(simp [*,errW_none,errW_some] <;> rfl),by repeat (first|(with_reducible first|exact HB.out|apply below_alloc|apply pw_below_drewN|apply below_drew1|refine below_set ?_ GE195.out)|exact HB.out)⟩
       ·rw [if_neg c66] at H
        have c66b0 : (a0_0 == 5) = false:=beq_eq_false_iff_ne.mpr c66
        have c66b1 : (a0_0 != 5) = true:=bne_iff_ne.mpr c66
        by_cases c74 : a0_0 = 6
        ·rw [if_pos c74] at H
         have c74b0 : (a0_0 == 6) = true:=beq_iff_eq.mpr c74
         have c74b1 : (a0_0 != 6) = false:=bne_eq_false_iff_eq.mpr c74
         clear c74
         have H':=Aside0.mk H
         clear H
         have hcz75_0 : wc.cell? ⟨gb195,0,none⟩ = some (.int .i64 a0_0):=(blk_cell BK195.out 0).trans rfl
         have hcz75_1 : wc.cell? ⟨gb195,1,none⟩ = some (.bool a0_1):=(blk_cell BK195.out 1).trans rfl
         have hcz75_2 : wc.cell? ⟨gb195,2,none⟩ = some (.string a0_2):=(blk_cell BK195.out 2).trans rfl
         have hcz75_3 : wc.cell? ⟨gb195,3,none⟩ = some (.string a0_3):=(blk_cell BK195.out 3).trans rfl
         have hcz75_4 : wc.cell? ⟨gb195,4,none⟩ = some (.slice A0_4 l0_4.length c0_4):=(blk_cell BK195.out 4).trans rfl
         have hcz75_5 : wc.cell? ⟨gb195,5,none⟩ = some (.slice A0_5 l0_5.length c0_5):=(blk_cell BK195.out 5).trans rfl
         have hfz75_0:=blk_frozen BK195.out 0
         have hfz75_1:=blk_frozen BK195.out 1
         have hfz75_2:=blk_frozen BK195.out 2
         have hfz75_3:=blk_frozen BK195.out 3
         have hfz75_4:=blk_frozen BK195.out 4
         have hfz75_5:=blk_frozen BK195.out 5
         go_wp2
         go_loopg [6] kj1 (fun kq v6 w'=>∃ (x6_2 : Int),v6 = .int .i64 x6_2 ∧ Aside0 (quarryref17_plain.l0 kq x6_2 a0_0 a0_1 a0_2 a0_3 l0_4 l0_5 = some r) ∧ Aside0 (kq ≤ kj1) ∧ Aside0 (w'.heap[gb195]? = some (.cells #[.int .i64 a0_0,.bool a0_1,.string a0_2,.string a0_3,(.slice A0_4 l0_4.length c0_4),(.slice A0_5 l0_5.length c0_5)] 25 (0,0))) ∧ Aside0 (Below w.heap.size w w'))
         case atStart=>exact ⟨(0),(by first|rfl|(simp;done)|(simp [*];done)),H',⟨Nat.le_refl _⟩,⟨by (with_reducible repeat (first|refine blk_drewN ?_ _|refine blk_drew ?_|refine blk_alloc ?_ _));exact BK195.out⟩,⟨by repeat (first|(with_reducible first|exact HB.out|apply below_alloc|apply pw_below_drewN|apply below_drew1|refine below_set ?_ GE195.out)|exact HB.out)⟩⟩
         case round =>
          clear H'
          try clear c1
          try clear c2
          try clear p2
          try clear c3
          try clear c4
          try clear c4b0
          try clear c4b1
          try clear c4b2
          try clear c5
          try clear c6
          try clear c7
          try clear c7b0
          try clear c7b1
          try clear c8
          try clear c9
          try clear c11
          try clear c11b0
          try clear c11b1
          try clear c15
          try clear c15b0
          try clear c15b1
          try clear c16
          try clear c17
          try clear c17b0
          try clear c17b1
          try clear c21
          try clear c21b0
          try clear c21b1
          try clear c23
          try clear c24
          try clear c28
          try clear c31
          try clear c31b0
          try clear c31b1
          try clear c32
          try clear c32b0
          try clear c32b1
          try clear c36
          try clear c42
          try clear c48
          try clear c54
          try clear c56
          try clear c56b0
          try clear c56b1
          try clear c57
          try clear c58
          try clear c60
          try clear c60b0
          try clear c60b1
          try clear c66
          try clear c66b0
          try clear c66b1
          try clear c67
          try clear c69
          try clear c69b0
          try clear c69b1
          try clear c70
          try clear c70b0
          try clear c70b1
          try clear c74
          try clear c74b0
          try clear c74b1
          try clear hcz10_0
          try clear hcz10_1
          try clear hcz10_2
          try clear hcz10_3
          try clear hcz10_4
          try clear hcz10_5
          try clear hcz12_0
          try clear hcz12_1
          try clear hcz12_2
          try clear hcz12_3
          try clear hcz12_4
          try clear hcz12_5
          try clear hcz13_0
          try clear hcz13_1
          try clear hcz13_2
          try clear hcz13_3
          try clear hcz13_4
          try clear hcz13_5
          try clear hcz14_0
          try clear hcz14_1
          try clear hcz14_2
          try clear hcz14_3
          try clear hcz14_4
          try clear hcz14_5
          try clear hcz18_0
          try clear hcz18_1
          try clear hcz18_2
          try clear hcz18_3
          try clear hcz18_4
          try clear hcz18_5
          try clear hcz19_0
          try clear hcz19_1
          try clear hcz19_2
          try clear hcz19_3
          try clear hcz19_4
          try clear hcz19_5
          try clear hcz20_0
          try clear hcz20_1
          try clear hcz20_2
          try clear hcz20_3
          try clear hcz20_4
          try clear hcz20_5
          try clear hcz25_0
          try clear hcz25_1
          try clear hcz25_2
          try clear hcz25_3
          try clear hcz25_4
          try clear hcz25_5
          try clear hcz29_0
          try clear hcz29_1
          try clear hcz29_2
          try clear hcz30_0
          try clear hcz30_1
          try clear hcz30_2
          try clear hcz30_3
          try clear hcz30_4
          try clear hcz30_5
          try clear hcz33_0
          try clear hcz33_1
          try clear hcz33_2
          try clear hcz33_3
          try clear hcz33_4
          try clear hcz33_5
          try clear hcz37_0
          try clear hcz37_1
          try clear hcz37_2
          try clear hcz38_0
          try clear hcz38_1
          try clear hcz38_2
          try clear hcz38_3
          try clear hcz38_4
          try clear hcz38_5
          try clear hcz39_0
          try clear hcz39_1
          try clear hcz39_2
          try clear hcz39_3
          try clear hcz39_4
          try clear hcz39_5
          try clear hcz43_0
          try clear hcz43_1
          try clear hcz43_2
          try clear hcz44_0
          try clear hcz44_1
          try clear hcz44_2
          try clear hcz44_3
          try clear hcz44_4
          try clear hcz44_5
          try clear hcz45_0
          try clear hcz45_1
          try clear hcz45_2
          try clear hcz45_3
          try clear hcz45_4
          try clear hcz45_5
          try clear hcz49_0
          try clear hcz49_1
          try clear hcz49_2
          try clear hcz50_0
          try clear hcz50_1
          try clear hcz50_2
          try clear hcz50_3
          try clear hcz50_4
          try clear hcz50_5
          try clear hcz51_0
          try clear hcz51_1
          try clear hcz51_2
          try clear hcz51_3
          try clear hcz51_4
          try clear hcz51_5
          try clear hcz55_0
          try clear hcz55_1
          try clear hcz55_2
          try clear hcz59_0
          try clear hcz59_1
          try clear hcz59_2
          try clear hcz59_3
          try clear hcz59_4
          try clear hcz59_5
          try clear hcz5_0
          try clear hcz5_1
          try clear hcz5_2
          try clear hcz5_3
          try clear hcz5_4
          try clear hcz5_5
          try clear hcz62_0
          try clear hcz62_1
          try clear hcz62_2
          try clear hcz62_3
          try clear hcz62_4
          try clear hcz62_5
          try clear hcz64_0
          try clear hcz64_1
          try clear hcz64_2
          try clear hcz64_3
          try clear hcz64_4
          try clear hcz64_5
          try clear hcz65_0
          try clear hcz65_1
          try clear hcz65_2
          try clear hcz65_3
          try clear hcz65_4
          try clear hcz65_5
          try clear hcz68_0
          try clear hcz68_1
          try clear hcz68_2
          try clear hcz68_3
          try clear hcz68_4
          try clear hcz68_5
          try clear hcz6_0
          try clear hcz6_1
          try clear hcz6_2
          try clear hcz6_3
          try clear hcz6_4
          try clear hcz6_5
          try clear hcz71_0
          try clear hcz71_1
          try clear hcz71_2
          try clear hcz71_3
          try clear hcz71_4
          try clear hcz71_5
          try clear hcz72_0
          try clear hcz72_1
          try clear hcz72_2
          try clear hcz72_3
          try clear hcz72_4
          try clear hcz72_5
          try clear hcz73_0
          try clear hcz73_1
          try clear hcz73_2
          try clear hcz73_3
          try clear hcz73_4
          try clear hcz73_5
          try clear hcz75_0
          try clear hcz75_1
          try clear hcz75_2
          try clear hcz75_3
          try clear hcz75_4
          try clear hcz75_5
          try clear hfz10_0
          try clear hfz10_1
          try clear hfz10_2
          try clear hfz10_3
          try clear hfz10_4
          try clear hfz10_5
          try clear hfz12_0
          try clear hfz12_1
          try clear hfz12_2
          try clear hfz12_3
          try clear hfz12_4
          try clear hfz12_5
          try clear hfz13_0
          try clear hfz13_1
          try clear hfz13_2
          try clear hfz13_3
          try clear hfz13_4
          try clear hfz13_5
          try clear hfz14_0
          try clear hfz14_1
          try clear hfz14_2
          try clear hfz14_3
          try clear hfz14_4
          try clear hfz14_5
          try clear hfz18_0
          try clear hfz18_1
          try clear hfz18_2
          try clear hfz18_3
          try clear hfz18_4
          try clear hfz18_5
          try clear hfz19_0
          try clear hfz19_1
          try clear hfz19_2
          try clear hfz19_3
          try clear hfz19_4
          try clear hfz19_5
          try clear hfz20_0
          try clear hfz20_1
          try clear hfz20_2
          try clear hfz20_3
          try clear hfz20_4
          try clear hfz20_5
          try clear hfz25_0
          try clear hfz25_1
          try clear hfz25_2
          try clear hfz25_3
          try clear hfz25_4
          try clear hfz25_5
          try clear hfz29_0
          try clear hfz29_1
          try clear hfz29_2
          try clear hfz30_0
          try clear hfz30_1
          try clear hfz30_2
          try clear hfz30_3
          try clear hfz30_4
          try clear hfz30_5
          try clear hfz33_0
          try clear hfz33_1
          try clear hfz33_2
          try clear hfz33_3
          try clear hfz33_4
          try clear hfz33_5
          try clear hfz37_0
          try clear hfz37_1
          try clear hfz37_2
          try clear hfz38_0
          try clear hfz38_1
          try clear hfz38_2
          try clear hfz38_3
          try clear hfz38_4
          try clear hfz38_5
          try clear hfz39_0
          try clear hfz39_1
          try clear hfz39_2
          try clear hfz39_3
          try clear hfz39_4
          try clear hfz39_5
          try clear hfz43_0
          try clear hfz43_1
          try clear hfz43_2
          try clear hfz44_0
          try clear hfz44_1
          try clear hfz44_2
          try clear hfz44_3
          try clear hfz44_4
          try clear hfz44_5
          try clear hfz45_0
          try clear hfz45_1
          try clear hfz45_2
          try clear hfz45_3
          try clear hfz45_4
          try clear hfz45_5
          try clear hfz49_0
          try clear hfz49_1
          try clear hfz49_2
          try clear hfz50_0
          try clear hfz50_1
          try clear hfz50_2
          try clear hfz50_3
          try clear hfz50_4
          try clear hfz50_5
          try clear hfz51_0
          try clear hfz51_1
          try clear hfz51_2
          try clear hfz51_3
          try clear hfz51_4
          try clear hfz51_5
          try clear hfz55_0
          try clear hfz55_1
          try clear hfz55_2
          try clear hfz59_0
          try clear hfz59_1
          try clear hfz59_2
          try clear hfz59_3
          try clear hfz59_4
          try clear hfz59_5
          try clear hfz5_0
          try clear hfz5_1
          try clear hfz5_2
          try clear hfz5_3
          try clear hfz5_4
          try clear hfz5_5
          try clear hfz62_0
          try clear hfz62_1
          try clear hfz62_2
          try clear hfz62_3
          try clear hfz62_4
          try clear hfz62_5
          try clear hfz64_0
          try clear hfz64_1
          try clear hfz64_2
          try clear hfz64_3
          try clear hfz64_4
          try clear hfz64_5
          try clear hfz65_0
          try clear hfz65_1
          try clear hfz65_2
          try clear hfz65_3
          try clear hfz65_4
          try clear hfz65_5
          try clear hfz68_0
          try clear hfz68_1
          try clear hfz68_2
          try clear hfz68_3
          try clear hfz68_4
          try clear hfz68_5
          try clear hfz6_0
          try clear hfz6_1
          try clear hfz6_2
          try clear hfz6_3
          try clear hfz6_4
          try clear hfz6_5
          try clear hfz71_0
          try clear hfz71_1
          try clear hfz71_2
          try clear hfz71_3
          try clear hfz71_4
          try clear hfz71_5
          try clear hfz72_0
          try clear hfz72_1
          try clear hfz72_2
          try clear hfz72_3
          try clear hfz72_4
          try clear hfz72_5
          try clear hfz73_0
          try clear hfz73_1
          try clear hfz73_2
          try clear hfz73_3
          try clear hfz73_4
          try clear hfz73_5
          try clear hfz75_0
          try clear hfz75_1
          try clear hfz75_2
          try clear hfz75_3
          try clear hfz75_4
          try clear hfz75_5
          try clear p2
          try clear HK2
          try clear BK195
          try clear HB
          obtain ⟨x6_2,rfl,HA,HK2,BK195,HB⟩:=hrel
          cases gk with
          | zero=>exact absurd HA.out (by simp [quarryref17_plain.l0])
          | succ k2 =>
           have H:=HA.out
           clear HA
           simp only [quarryref17_plain.l0] at H
           by_cases c76 : x6_2 < (l0_4.length : Int)
           ·rw [if_pos c76] at H
            have c76b0 : decide (x6_2 < (l0_4.length : Int)) = true:=decide_eq_true c76
            clear c76
            by_cases c77 : 0 ≤ x6_2
            ·rw [if_pos c77] at H
             have c77b0 : decide (0 ≤ x6_2) = true:=decide_eq_true c77
             clear c77
             replace H:=Option.bind_eq_some_iff.mp H
             obtain ⟨t203,A780,H⟩:=H
             replace H : (if t203 = (-1) then (quarryref17_plain.l0 k2 (wrap64 (x6_2 + 1)) a0_0 a0_1 a0_2 a0_3 l0_4 l0_5) else (some false)) = some r:=H
             have A78:=Aside0.mk A780
             clear A780
             by_cases c79 : t203 = (-1)
             ·rw [if_pos c79] at H
              have c79b0 : (t203 == (-1)) = true:=beq_iff_eq.mpr c79
              have c79b1 : (t203 != (-1)) = false:=bne_eq_false_iff_eq.mpr c79
              clear c79
              have H':=Aside0.mk H
              clear H
              have hcz80_0 : wr.cell? ⟨gb195,0,none⟩ = some (.int .i64 a0_0):=(blk_cell BK195.out 0).trans rfl
              have hcz80_1 : wr.cell? ⟨gb195,1,none⟩ = some (.bool a0_1):=(blk_cell BK195.out 1).trans rfl
              have hcz80_2 : wr.cell? ⟨gb195,2,none⟩ = some (.string a0_2):=(blk_cell BK195.out 2).trans rfl
              have hcz80_3 : wr.cell? ⟨gb195,3,none⟩ = some (.string a0_3):=(blk_cell BK195.out 3).trans rfl
              have hcz80_4 : wr.cell? ⟨gb195,4,none⟩ = some (.slice A0_4 l0_4.length c0_4):=(blk_cell BK195.out 4).trans rfl
              have hcz80_5 : wr.cell? ⟨gb195,5,none⟩ = some (.slice A0_5 l0_5.length c0_5):=(blk_cell BK195.out 5).trans rfl
              have hfz80_0:=blk_frozen BK195.out 0
              have hfz80_1:=blk_frozen BK195.out 1
              have hfz80_2:=blk_frozen BK195.out 2
              have hfz80_3:=blk_frozen BK195.out 3
              have hfz80_4:=blk_frozen BK195.out 4
              have hfz80_5:=blk_frozen BK195.out 5
              have p202 : 0 ≤ (x6_2 : Int):=of_decide_eq_true (by first|(with_reducible assumption)|assumption)
              have q202 : x6_2 < (l0_4.length : Int):=of_decide_eq_true (by first|(with_reducible assumption)|assumption)
              obtain ⟨ad202,e202,hx202_0⟩:=Kd.at_string HR0_4.out x6_2 p202 q202
              cases e202
              replace hx202_0:=(HB.out.cell (World.block_lt_of_cell? w _ hx202_0)).trans hx202_0
              replace p202:=eq_true p202
              replace q202:=eq_true q202
              go_wp2_with (first|((with_reducible refine gate_callee (f:=41) rfl ?_);refine goesL_ (some 131) rfl rfl Tryd.func41 (by kernel_rfl) rfl #[.string (rdOf ByteArray.empty l0_4 x6_2)] rfl (by (try simp only [List.map_toArray,List.map_cons,List.map_nil]);first|done|rfl|(simp only [List.length_drop,List.length_take];rfl)) ?_;(with_reducible refine (quarryref05_Bad.calls k2 (rdOf ByteArray.empty l0_4 x6_2) t203 _ A78.out).mono ?_);rintro e w81 ⟨rfl,hb⟩;refine ⟨_,rfl,?_⟩;have n0_:=Aside0.mk (blk_below (g:=gb195) (o:=.cells #[.int .i64 a0_0,.bool a0_1,.string a0_2,.string a0_3,.slice (some ad202) l0_4.length c0_4,.slice A0_5 l0_5.length c0_5] 25 (0,0)) (by (with_reducible repeat (first|refine blk_drewN ?_ _|refine blk_drew ?_|refine blk_alloc ?_ _));exact BK195.out) hb);have n1_:=Aside0.mk (below_step (by repeat (first|(with_reducible first|exact HB.out|apply below_alloc|apply pw_below_drewN|apply below_drew1|refine below_set ?_ GE195.out)|exact HB.out)) hb);clear BK195;clear HB;have BK195:=n0_;have HB:=n1_;clear n0_ n1_;(try clear hb);(try clear hb2);(try clear hk);(try clear hi)))
              go_roundg k2
              case measure=>have:=HJ1.out;have:=HK2.out;omega
              case rel=>exact ⟨(wrap64 (x6_2 + 1)),(by first|rfl|(simp;done)|(simp [*];done)),(by first|exact H'|(subst_vars;exact H')),⟨by have:=HJ1.out;have:=HK2.out;omega⟩,⟨by (with_reducible repeat (first|refine blk_drewN ?_ _|refine blk_drew ?_|refine blk_alloc ?_ _));exact BK195.out⟩,⟨by repeat (first|(with_reducible first|exact HB.out|apply below_alloc|apply pw_below_drewN|apply below_drew1|refine below_set ?_ GE195.out)|exact HB.out)⟩⟩
             ·rw [if_neg c79] at H
              have c79b0 : (t203 == (-1)) = false:=beq_eq_false_iff_ne.mpr c79
              have c79b1 : (t203 != (-1)) = true:=bne_iff_ne.mpr c79
              obtain rfl:=Option.some.inj H
              have hcz82_0 : wr.cell? ⟨gb195,0,none⟩ = some (.int .i64 a0_0):=(blk_cell BK195.out 0).trans rfl
              have hcz82_1 : wr.cell? ⟨gb195,1,none⟩ = some (.bool a0_1):=(blk_cell BK195.out 1).trans rfl
              have hcz82_2 : wr.cell? ⟨gb195,2,none⟩ = some (.string a0_2):=(blk_cell BK195.out 2).trans rfl
              have hcz82_3 : wr.cell? ⟨gb195,3,none⟩ = some (.string a0_3):=(blk_cell BK195.out 3).trans rfl
              have hcz82_4 : wr.cell? ⟨gb195,4,none⟩ = some (.slice A0_4 l0_4.length c0_4):=(blk_cell BK195.out 4).trans rfl
              have hcz82_5 : wr.cell? ⟨gb195,5,none⟩ = some (.slice A0_5 l0_5.length c0_5):=(blk_cell BK195.out 5).trans rfl
              have hfz82_0:=blk_frozen BK195.out 0
              have hfz82_1:=blk_frozen BK195.out 1
              have hfz82_2:=blk_frozen BK195.out 2
              have hfz82_3:=blk_frozen BK195.out 3
              have hfz82_4:=blk_frozen BK195.out 4
              have hfz82_5:=blk_frozen BK195.out 5
              have p202 : 0 ≤ (x6_2 : Int):=of_decide_eq_true (by first|(with_reducible assumption)|assumption)
              have q202 : x6_2 < (l0_4.length : Int):=of_decide_eq_true (by first|(with_reducible assumption)|assumption)
              obtain ⟨ad202,e202,hx202_0⟩:=Kd.at_string HR0_4.out x6_2 p202 q202
              cases e202
              replace hx202_0:=(HB.out.cell (World.block_lt_of_cell? w _ hx202_0)).trans hx202_0
              replace p202:=eq_true p202
              replace q202:=eq_true q202
              go_wp2_with (first|((with_reducible refine gate_callee (f:=41) rfl ?_);refine goesL_ (some 131) rfl rfl Tryd.func41 (by kernel_rfl) rfl #[.string (rdOf ByteArray.empty l0_4 x6_2)] rfl (by (try simp only [List.map_toArray,List.map_cons,List.map_nil]);first|done|rfl|(simp only [List.length_drop,List.length_take];rfl)) ?_;(with_reducible refine (quarryref05_Bad.calls k2 (rdOf ByteArray.empty l0_4 x6_2) t203 _ A78.out).mono ?_);rintro e w83 ⟨rfl,hb⟩;refine ⟨_,rfl,?_⟩;have n0_:=Aside0.mk (blk_below (g:=gb195) (o:=.cells #[.int .i64 a0_0,.bool a0_1,.string a0_2,.string a0_3,.slice (some ad202) l0_4.length c0_4,.slice A0_5 l0_5.length c0_5] 25 (0,0)) (by (with_reducible repeat (first|refine blk_drewN ?_ _|refine blk_drew ?_|refine blk_alloc ?_ _));exact BK195.out) hb);have n1_:=Aside0.mk (below_step (by repeat (first|(with_reducible first|exact HB.out|apply below_alloc|apply pw_below_drewN|apply below_drew1|refine below_set ?_ GE195.out)|exact HB.out)) hb);clear BK195;clear HB;have BK195:=n0_;have HB:=n1_;clear n0_ n1_;(try clear hb);(try clear hb2);(try clear hk);(try clear hi)))
              go_ret
              exact ⟨by first|rfl|(simp [errW_none,errW_some] <;> rfl)|(simp [*,errW_none,errW_some] <;> rfl),by repeat (first|(with_reducible first|exact HB.out|apply below_alloc|apply pw_below_drewN|apply below_drew1|refine below_set ?_ GE195.out)|exact HB.out)⟩
            ·rw [if_neg c77] at H
             exact absurd H (by simp)
           ·rw [if_neg c76] at H
            have c76b0 : decide (x6_2 < (l0_4.length : Int)) = false:=decide_eq_false c76
            clear c76
            by_cases c84 : a0_1 = true
            ·subst c84
             have H1 : (some false) = some r:=by rw [if_pos rfl] at H;exact H
             clear H
             have H:=H1
             clear H1
             obtain rfl:=Option.some.inj H
             have hcz85_0 : wr.cell? ⟨gb195,0,none⟩ = some (.int .i64 a0_0):=(blk_cell BK195.out 0).trans rfl
             have hcz85_1 : wr.cell? ⟨gb195,1,none⟩ = some (.bool true):=(blk_cell BK195.out 1).trans rfl
             have hcz85_2 : wr.cell? ⟨gb195,2,none⟩ = some (.string a0_2):=(blk_cell BK195.out 2).trans rfl
             have hcz85_3 : wr.cell? ⟨gb195,3,none⟩ = some (.string a0_3):=(blk_cell BK195.out 3).trans rfl
             have hcz85_4 : wr.cell? ⟨gb195,4,none⟩ = some (.slice A0_4 l0_4.length c0_4):=(blk_cell BK195.out 4).trans rfl
             have hcz85_5 : wr.cell? ⟨gb195,5,none⟩ = some (.slice A0_5 l0_5.length c0_5):=(blk_cell BK195.out 5).trans rfl
             have hfz85_0:=blk_frozen BK195.out 0
             have hfz85_1:=blk_frozen BK195.out 1
             have hfz85_2:=blk_frozen BK195.out 2
             have hfz85_3:=blk_frozen BK195.out 3
             have hfz85_4:=blk_frozen BK195.out 4
             have hfz85_5:=blk_frozen BK195.out 5
             go_wp2
             go_ret
             exact ⟨by first|rfl|(simp [errW_none,errW_some] <;> rfl)|(simp [*,errW_none,errW_some] <;> rfl),by repeat (first|(with_reducible first|exact HB.out|apply below_alloc|apply pw_below_drewN|apply below_drew1|refine below_set ?_ GE195.out)|exact HB.out)⟩
            ·replace c84:=Bool.eq_false_iff.mpr c84
             subst c84
             have H1 : (if a0_2.toList = ([] : List UInt8) then (if a0_3.toList = ([] : List UInt8) then (some ((l0_4.length : Int) == (l0_5.length : Int))) else (some false)) else (some false)) = some r:=by rw [if_neg (show ¬ (false = true) by decide)] at H;exact H
             clear H
             have H:=H1
             clear H1
             by_cases c86 : a0_2.toList = ([] : List UInt8)
             ·rw [if_pos c86] at H
              have c86b0 : (a0_2.toList == ([] : List UInt8)) = true:=beq_iff_eq.mpr c86
              have c86b1 : (a0_2.toList != ([] : List UInt8)) = false:=bne_eq_false_iff_eq.mpr c86
              clear c86
              by_cases c87 : a0_3.toList = ([] : List UInt8)
              ·rw [if_pos c87] at H
               have c87b0 : (a0_3.toList == ([] : List UInt8)) = true:=beq_iff_eq.mpr c87
               have c87b1 : (a0_3.toList != ([] : List UInt8)) = false:=bne_eq_false_iff_eq.mpr c87
               clear c87
               obtain rfl:=Option.some.inj H
               have hcz88_0 : wr.cell? ⟨gb195,0,none⟩ = some (.int .i64 a0_0):=(blk_cell BK195.out 0).trans rfl
               have hcz88_1 : wr.cell? ⟨gb195,1,none⟩ = some (.bool false):=(blk_cell BK195.out 1).trans rfl
               have hcz88_2 : wr.cell? ⟨gb195,2,none⟩ = some (.string a0_2):=(blk_cell BK195.out 2).trans rfl
               have hcz88_3 : wr.cell? ⟨gb195,3,none⟩ = some (.string a0_3):=(blk_cell BK195.out 3).trans rfl
               have hcz88_4 : wr.cell? ⟨gb195,4,none⟩ = some (.slice A0_4 l0_4.length c0_4):=(blk_cell BK195.out 4).trans rfl
               have hcz88_5 : wr.cell? ⟨gb195,5,none⟩ = some (.slice A0_5 l0_5.length c0_5):=(blk_cell BK195.out 5).trans rfl
               have hfz88_0:=blk_frozen BK195.out 0
               have hfz88_1:=blk_frozen BK195.out 1
               have hfz88_2:=blk_frozen BK195.out 2
               have hfz88_3:=blk_frozen BK195.out 3
               have hfz88_4:=blk_frozen BK195.out 4
               have hfz88_5:=blk_frozen BK195.out 5
               go_wp2
               go_ret
               exact ⟨by first|rfl|(simp [errW_none,errW_some] <;> rfl)|(simp [*,errW_none,errW_some] <;> rfl),by repeat (first|(with_reducible first|exact HB.out|apply below_alloc|apply pw_below_drewN|apply below_drew1|refine below_set ?_ GE195.out)|exact HB.out)⟩
              ·rw [if_neg c87] at H
               have c87b0 : (a0_3.toList == ([] : List UInt8)) = false:=beq_eq_false_iff_ne.mpr c87
               have c87b1 : (a0_3.toList != ([] : List UInt8)) = true:=bne_iff_ne.mpr c87
               obtain rfl:=Option.some.inj H
               have hcz89_0 : wr.cell? ⟨gb195,0,none⟩ = some (.int .i64 a0_0):=(blk_cell BK195.out 0).trans rfl
               have hcz89_1 : wr.cell? ⟨gb195,1,none⟩ = some (.bool false):=(blk_cell BK195.out 1).trans rfl
               have hcz89_2 : wr.cell? ⟨gb195,2,none⟩ = some (.string a0_2):=(blk_cell BK195.out 2).trans rfl
               have hcz89_3 : wr.cell? ⟨gb195,3,none⟩ = some (.string a0_3):=(blk_cell BK195.out 3).trans rfl
               have hcz89_4 : wr.cell? ⟨gb195,4,none⟩ = some (.slice A0_4 l0_4.length c0_4):=(blk_cell BK195.out 4).trans rfl
               have hcz89_5 : wr.cell? ⟨gb195,5,none⟩ = some (.slice A0_5 l0_5.length c0_5):=(blk_cell BK195.out 5).trans rfl
               have hfz89_0:=blk_frozen BK195.out 0
               have hfz89_1:=blk_frozen BK195.out 1
               have hfz89_2:=blk_frozen BK195.out 2
               have hfz89_3:=blk_frozen BK195.out 3
               have hfz89_4:=blk_frozen BK195.out 4
               have hfz89_5:=blk_frozen BK195.out 5
               go_wp2
               go_ret
               exact ⟨by first|rfl|(simp [errW_none,errW_some] <;> rfl)|(simp [*,errW_none,errW_some] <;> rfl),by repeat (first|(with_reducible first|exact HB.out|apply below_alloc|apply pw_below_drewN|apply below_drew1|refine below_set ?_ GE195.out)|exact HB.out)⟩
             ·rw [if_neg c86] at H
              have c86b0 : (a0_2.toList == ([] : List UInt8)) = false:=beq_eq_false_iff_ne.mpr c86
              have c86b1 : (a0_2.toList != ([] : List UInt8)) = true:=bne_iff_ne.mpr c86
              obtain rfl:=Option.some.inj H
              have hcz90_0 : wr.cell? ⟨gb195,0,none⟩ = some (.int .i64 a0_0):=(blk_cell BK195.out 0).trans rfl
              have hcz90_1 : wr.cell? ⟨gb195,1,none⟩ = some (.bool false):=(blk_cell BK195.out 1).trans rfl
              have hcz90_2 : wr.cell? ⟨gb195,2,none⟩ = some (.string a0_2):=(blk_cell BK195.out 2).trans rfl
              have hcz90_3 : wr.cell? ⟨gb195,3,none⟩ = some (.string a0_3):=(blk_cell BK195.out 3).trans rfl
              have hcz90_4 : wr.cell? ⟨gb195,4,none⟩ = some (.slice A0_4 l0_4.length c0_4):=(blk_cell BK195.out 4).trans rfl
              have hcz90_5 : wr.cell? ⟨gb195,5,none⟩ = some (.slice A0_5 l0_5.length c0_5):=(blk_cell BK195.out 5).trans rfl
              have hfz90_0:=blk_frozen BK195.out 0
              have hfz90_1:=blk_frozen BK195.out 1
              have hfz90_2:=blk_frozen BK195.out 2
              have hfz90_3:=blk_frozen BK195.out 3
              have hfz90_4:=blk_frozen BK195.out 4
              have hfz90_5:=blk_frozen BK195.out 5
              go_wp2
              go_ret
              exact ⟨by first|rfl|(simp [errW_none,errW_some] <;> rfl)|(simp [*,errW_none,errW_some] <;> rfl),by repeat (first|(with_reducible first|exact HB.out|apply below_alloc|apply pw_below_drewN|apply below_drew1|refine below_set ?_ GE195.out)|exact HB.out)⟩
        ·rw [if_neg c74] at H
         have c74b0 : (a0_0 == 6) = false:=beq_eq_false_iff_ne.mpr c74
         have c74b1 : (a0_0 != 6) = true:=bne_iff_ne.mpr c74
         obtain rfl:=Option.some.inj H
         have hcz91_0 : wc.cell? ⟨gb195,0,none⟩ = some (.int .i64 a0_0):=(blk_cell BK195.out 0).trans rfl
         have hcz91_1 : wc.cell? ⟨gb195,1,none⟩ = some (.bool a0_1):=(blk_cell BK195.out 1).trans rfl
         have hcz91_2 : wc.cell? ⟨gb195,2,none⟩ = some (.string a0_2):=(blk_cell BK195.out 2).trans rfl
         have hcz91_3 : wc.cell? ⟨gb195,3,none⟩ = some (.string a0_3):=(blk_cell BK195.out 3).trans rfl
         have hcz91_4 : wc.cell? ⟨gb195,4,none⟩ = some (.slice A0_4 l0_4.length c0_4):=(blk_cell BK195.out 4).trans rfl
         have hcz91_5 : wc.cell? ⟨gb195,5,none⟩ = some (.slice A0_5 l0_5.length c0_5):=(blk_cell BK195.out 5).trans rfl
         have hfz91_0:=blk_frozen BK195.out 0
         have hfz91_1:=blk_frozen BK195.out 1
         have hfz91_2:=blk_frozen BK195.out 2
         have hfz91_3:=blk_frozen BK195.out 3
         have hfz91_4:=blk_frozen BK195.out 4
         have hfz91_5:=blk_frozen BK195.out 5
         go_wp2
         go_ret
         exact ⟨by first|rfl|(simp [errW_none,errW_some] <;> rfl)|(simp [*,errW_none,errW_some] <;> rfl),by repeat (first|(with_reducible first|exact HB.out|apply below_alloc|apply pw_below_drewN|apply below_drew1|refine below_set ?_ GE195.out)|exact HB.out)⟩
end Go.Proofs.YtgbiobbhaejjlaaDoor.PTreeShapes
