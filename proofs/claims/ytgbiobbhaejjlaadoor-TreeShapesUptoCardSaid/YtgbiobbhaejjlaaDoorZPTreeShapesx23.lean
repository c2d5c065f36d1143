-- Written by shrink.py, a program of this session: what the law needs of the print and its words. Lean checks it.
import Derived.Test.YtgbiobbhaejjlaaDoorZPTreeShapesx0
namespace Go.Proofs.YtgbiobbhaejjlaaDoor.PTreeShapes
open Go.RowKit Go.Proofs.YtgbiobbhaejjlaaDoorW.PrintWords Go.Proofs.YtgbiobbhaejjlaaDoorW.PrintLast Go.Proofs.YtgbiobbhaejjlaaDoorW.PrintMore
attribute [local go_sem] max2_int min2_int max_two min_two max_three min_three max_four min_four
set_option linter.unusedVariables false
set_option linter.unusedSimpArgs false
mutual
def quarryref17_Count.l0 : Nat → Int → Int → Int → Bool → ByteArray → ByteArray → List ByteArray → List (S25) → Option (Int)
 | 0,_,_,_,_,_,_,_,_=>none
 | k + 1,x3,x4,x214000,x214001,x214002,x214003,x214004,x214005=>if x4 < (x214005.length : Int) then (if 0 ≤ x4 then ((quarryref17_Count.f k ((rd_T25 x214005 x4).f0) ((rd_T25 x214005 x4).f1) ((rd_T25 x214005 x4).f2) ((rd_T25 x214005 x4).f3) ((rd_T25 x214005 x4).f4) ((rd_T25 x214005 x4).f5)).bind fun t215=>(quarryref17_Count.l0 k (wrap64 (x3 + t215)) (wrap64 (x4 + 1)) x214000 x214001 x214002 x214003 x214004 x214005)) else (none)) else (some x3)
def quarryref17_Count.f : Nat → Int → Bool → ByteArray → ByteArray → List ByteArray → List (S25) → Option (Int)
 | 0,_,_,_,_,_,_=>none
 | k + 1,a0_0,a0_1,a0_2,a0_3,l0_4,l0_5=>quarryref17_Count.l0 k 1 0 a0_0 a0_1 a0_2 a0_3 l0_4 l0_5
end
set_option maxHeartbeats 8000000 in
set_option maxRecDepth 100000 in
theorem quarryref17_Count.calls (k : Nat) : ∀ (a0_0 : Int) (a0_1 : Bool) (a0_2 : ByteArray) (a0_3 : ByteArray) (A0_4 : Option Addr) (c0_4 : Nat) (l0_4 : List ByteArray) (A0_5 : Option Addr) (c0_5 : Nat) (l0_5 : List (S25)) (r : Int) (w : World) (hr0_4 : Kd.C Kd.string w A0_4 l0_4.length l0_4) (hc0_4 : l0_4.length ≤ c0_4) (hr0_5 : Kd.C k25 w A0_5 l0_5.length l0_5) (hc0_5 : l0_5.length ≤ c0_5) (h : quarryref17_Count.f k a0_0 a0_1 a0_2 a0_3 l0_4 l0_5 = some r),
  Calls Tryd.prog 12 #[.agg #[.int .i64 a0_0,.bool a0_1,.string a0_2,.string a0_3,.slice A0_4 l0_4.length c0_4,.slice A0_5 l0_5.length c0_5]] w fun e w'=>e = .returned (.int .i64 r) ∧ Below w.heap.size w w':=by
 induction k using Nat.strongRecOn with
 | _ k ih =>
 intro a0_0 a0_1 a0_2 a0_3 A0_4 c0_4 l0_4 A0_5 c0_5 l0_5 r w hr0_4 hc0_4 hr0_5 hc0_5 h
 cases k with
 | zero=>exact absurd h (by simp [quarryref17_Count.f])
 | succ k =>
 simp only [quarryref17_Count.f] at h
 have hu25:=Tryd.underlying25
 have HR0_4:=Aside0.mk hr0_4
 have HC0_4:=Aside0.mk hc0_4
 clear hr0_4 hc0_4
 have HR0_5:=Aside0.mk hr0_5
 have HC0_5:=Aside0.mk hc0_5
 clear hr0_5 hc0_5
 have HB:=Aside0.mk (Below.refl w.heap.size w)
 have H : (quarryref17_Count.l0 k 1 0 a0_0 a0_1 a0_2 a0_3 l0_4 l0_5) = some r:=h
 clear h
 have H':=Aside0.mk H
 clear H
 go_enter Tryd.func12,Tryd.ntmps12
 go_wp2_with (first|((with_reducible refine gate_dst (N:=1) rfl ?_);refine box_event ?hg (N:=1) ?hd (cs:=#[.int .i64 a0_0,.bool a0_1,.string a0_2,.string a0_3,.slice A0_4 l0_4.length c0_4,.slice A0_5 l0_5.length c0_5]) (t:=25) ?hr ?_;(case hd=>rfl);(case hg=>rfl);(case hr=>first|(go_simp;done)|(go_simp;rfl));intro gb213 hg w2 hbox hb;have n0_:=Aside0.mk (below_step (by repeat (first|(with_reducible first|exact HB.out|apply below_alloc|apply pw_below_drewN|apply below_drew1)|exact HB.out)) hb);have n1_:=Aside0.mk (hbox);have n2_:=Aside0.mk ((by rw [hg];exact (below_size (by repeat (first|(with_reducible first|exact HB.out|apply below_alloc|apply pw_below_drewN|apply below_drew1)|exact HB.out))) : w.heap.size ≤ gb213));have n3_:=Aside0.mk ((by rw [hg];exact (below_size (by repeat (first|(with_reducible first|exact HB.out|apply below_alloc|apply pw_below_drewN|apply below_drew1)|exact HB.out))) : w.heap.size ≤ gb213));clear HB;have HB:=n0_;have BK213:=n1_;have GW213:=n2_;have GE213:=n3_;clear n0_ n1_ n2_ n3_;clear hb hbox hg))
 go_loopg [3,4] k (fun kq v3 v4 w'=>∃ (x3_1 : Int) (x4_1 : Int),v3 = .int .i64 x3_1 ∧ v4 = .int .i64 x4_1 ∧ Aside0 (quarryref17_Count.l0 kq x3_1 x4_1 a0_0 a0_1 a0_2 a0_3 l0_4 l0_5 = some r) ∧ Aside0 (kq ≤ k) ∧ Aside0 (w'.heap[gb213]? = some (.cells #[.int .i64 a0_0,.bool a0_1,.string a0_2,.string a0_3,(.slice A0_4 l0_4.length c0_4),(.slice A0_5 l0_5.length c0_5)] 25 (0,0))) ∧ Aside0 (Below w.heap.size w w'))
 case atStart=>exact ⟨(1),(0),(by first|rfl|(simp;done)|(simp [*];done)),(by first|rfl|(simp;done)|(simp [*];done)),H',⟨Nat.le_refl _⟩,⟨by (with_reducible repeat (first|refine blk_drewN ?_ _|refine blk_drew ?_|refine blk_alloc ?_ _));exact BK213.out⟩,⟨by repeat (first|(with_reducible first|exact HB.out|apply below_alloc|apply pw_below_drewN|apply below_drew1|refine below_set ?_ GE213.out)|exact HB.out)⟩⟩
 case round =>
  clear H'
  try clear c1
  try clear p2
  try clear HK1
  try clear BK213
  try clear HB
  obtain ⟨x3_1,x4_1,rfl,rfl,HA,HK1,BK213,HB⟩:=hrel
  cases gk with
  | zero=>exact absurd HA.out (by simp [quarryref17_Count.l0])
  | succ k1 =>
   have H:=HA.out
   clear HA
   simp only [quarryref17_Count.l0] at H
   by_cases c3 : x4_1 < (l0_5.length : Int)
   ·rw [if_pos c3] at H
    have c3b0 : decide (x4_1 < (l0_5.length : Int)) = true:=decide_eq_true c3
    clear c3
    by_cases c4 : 0 ≤ x4_1
    ·rw [if_pos c4] at H
     have c4b0 : decide (0 ≤ x4_1) = true:=decide_eq_true c4
     clear c4
     replace H:=Option.bind_eq_some_iff.mp H
     obtain ⟨t215,A50,H⟩:=H
     replace H : (quarryref17_Count.l0 k1 (wrap64 (x3_1 + t215)) (wrap64 (x4_1 + 1)) a0_0 a0_1 a0_2 a0_3 l0_4 l0_5) = some r:=H
     have A5:=Aside0.mk A50
     clear A50
     have H':=Aside0.mk H
     clear H
     have hcz6_0 : wr.cell? ⟨gb213,0,none⟩ = some (.int .i64 a0_0):=(blk_cell BK213.out 0).trans rfl
     have hcz6_1 : wr.cell? ⟨gb213,1,none⟩ = some (.bool a0_1):=(blk_cell BK213.out 1).trans rfl
     have hcz6_2 : wr.cell? ⟨gb213,2,none⟩ = some (.string a0_2):=(blk_cell BK213.out 2).trans rfl
     have hcz6_3 : wr.cell? ⟨gb213,3,none⟩ = some (.string a0_3):=(blk_cell BK213.out 3).trans rfl
     have hcz6_4 : wr.cell? ⟨gb213,4,none⟩ = some (.slice A0_4 l0_4.length c0_4):=(blk_cell BK213.out 4).trans rfl
     have hcz6_5 : wr.cell? ⟨gb213,5,none⟩ = some (.slice A0_5 l0_5.length c0_5):=(blk_cell BK213.out 5).trans rfl
     have hfz6_0:=blk_frozen BK213.out 0
     have hfz6_1:=blk_frozen BK213.out 1
     have hfz6_2:=blk_frozen BK213.out 2
     have hfz6_3:=blk_frozen BK213.out 3
     have hfz6_4:=blk_frozen BK213.out 4
     have hfz6_5:=blk_frozen BK213.out 5
     have p214 : 0 ≤ (x4_1 : Int):=of_decide_eq_true (by first|(with_reducible assumption)|assumption)
     have q214 : x4_1 < (l0_5.length : Int):=of_decide_eq_true (by first|(with_reducible assumption)|assumption)
     obtain ⟨ad214,A214_4,c214_4,A214_5,c214_5,e214,hx214_0,hx214_1,hx214_2,hx214_3,hx214_4,hx214_5,hl214_4,hi214_4,hl214_5,hi214_5⟩:=at_T25 HR0_5.out x4_1 p214 q214
     cases e214
     replace hx214_0:=(HB.out.cell (World.block_lt_of_cell? w _ hx214_0)).trans hx214_0
     replace hx214_1:=(HB.out.cell (World.block_lt_of_cell? w _ hx214_1)).trans hx214_1
     replace hx214_2:=(HB.out.cell (World.block_lt_of_cell? w _ hx214_2)).trans hx214_2
     replace hx214_3:=(HB.out.cell (World.block_lt_of_cell? w _ hx214_3)).trans hx214_3
     replace hx214_4:=(HB.out.cell (World.block_lt_of_cell? w _ hx214_4)).trans hx214_4
     replace hx214_5:=(HB.out.cell (World.block_lt_of_cell? w _ hx214_5)).trans hx214_5
     have HR214_4:=Aside0.mk hi214_4
     have HC214_4:=Aside0.mk hl214_4
     clear hi214_4 hl214_4
     have HR214_5:=Aside0.mk hi214_5
     have HC214_5:=Aside0.mk hl214_5
     clear hi214_5 hl214_5
     replace p214:=eq_true p214
     replace q214:=eq_true q214
     go_wp2_with (first|((with_reducible refine gate_callee (f:=12) rfl ?_);refine goesL_ (some 18) rfl rfl Tryd.func12 (by kernel_rfl) rfl #[.agg #[.int .i64 ((rd_T25 l0_5 x4_1).f0),.bool ((rd_T25 l0_5 x4_1).f1),.string ((rd_T25 l0_5 x4_1).f2),.string ((rd_T25 l0_5 x4_1).f3),.slice A214_4 ((rd_T25 l0_5 x4_1).f4).length c214_4,.slice A214_5 ((rd_T25 l0_5 x4_1).f5).length c214_5]] rfl (by (try simp only [List.map_toArray,List.map_cons,List.map_nil]);first|done|rfl|(simp only [List.length_drop,List.length_take];rfl)) ?_;(with_reducible refine (ih k1 (by have:=HK1.out;omega) ((rd_T25 l0_5 x4_1).f0) ((rd_T25 l0_5 x4_1).f1) ((rd_T25 l0_5 x4_1).f2) ((rd_T25 l0_5 x4_1).f3) _ _ ((rd_T25 l0_5 x4_1).f4) _ _ ((rd_T25 l0_5 x4_1).f5) t215 _ ?side1 ?side2 ?side3 ?side4 A5.out).mono ?_);(case side1=>repeat (first|exact (Kd.C_below HR214_4.out HB.out)|(with_reducible refine Kd.C_alloc ?_ _)|(with_reducible refine Kd.C_drewN ?_ _)|(with_reducible refine Kd.C_drew ?_)));(case side2=>exact HC214_4.out);(case side3=>repeat (first|exact (Kd.C_below HR214_5.out HB.out)|(with_reducible refine Kd.C_alloc ?_ _)|(with_reducible refine Kd.C_drewN ?_ _)|(with_reducible refine Kd.C_drew ?_)));(case side4=>exact HC214_5.out);rintro e w7 ⟨rfl,hb⟩;refine ⟨_,rfl,?_⟩;have n0_:=Aside0.mk (blk_below (g:=gb213) (o:=.cells #[.int .i64 a0_0,.bool a0_1,.string a0_2,.string a0_3,.slice A0_4 l0_4.length c0_4,.slice (some ad214) l0_5.length c0_5] 25 (0,0)) (by (with_reducible repeat (first|refine blk_drewN ?_ _|refine blk_drew ?_|refine blk_alloc ?_ _));exact BK213.out) hb);have n1_:=Aside0.mk (below_step (by repeat (first|(with_reducible first|exact HB.out|apply below_alloc|apply pw_below_drewN|apply below_drew1|refine below_set ?_ GE213.out)|exact HB.out)) hb);clear BK213;clear HB;have BK213:=n0_;have HB:=n1_;clear n0_ n1_;(try clear hb);(try clear hb2);(try clear hk);(try clear hi)))
     go_roundg k1
     case measure=>have:=HK1.out;omega
     case rel=>exact ⟨(wrap64 (x3_1 + t215)),(wrap64 (x4_1 + 1)),(by first|rfl|(simp;done)|(simp [*];done)),(by first|rfl|(simp;done)|(simp [*];done)),(by first|exact H'|(subst_vars;exact H')),⟨by have:=HK1.out;omega⟩,⟨by (with_reducible repeat (first|refine blk_drewN ?_ _|refine blk_drew ?_|refine blk_alloc ?_ _));exact BK213.out⟩,⟨by repeat (first|(with_reducible first|exact HB.out|apply below_alloc|apply pw_below_drewN|apply below_drew1|refine below_set ?_ GE213.out)|exact HB.out)⟩⟩
    ·rw [if_neg c4] at H
     exact absurd H (by simp)
   ·rw [if_neg c3] at H
    have c3b0 : decide (x4_1 < (l0_5.length : Int)) = false:=decide_eq_false c3
    clear c3
    obtain rfl:=Option.some.inj H
    have hcz8_0 : wr.cell? ⟨gb213,0,none⟩ = some (.int .i64 a0_0):=(blk_cell BK213.out 0).trans rfl
    have hcz8_1 : wr.cell? ⟨gb213,1,none⟩ = some (.bool a0_1):=(blk_cell BK213.out 1).trans rfl
    have hcz8_2 : wr.cell? ⟨gb213,2,none⟩ = some (.string a0_2):=(blk_cell BK213.out 2).trans rfl
    have hcz8_3 : wr.cell? ⟨gb213,3,none⟩ = some (.string a0_3):=(blk_cell BK213.out 3).trans rfl
    have hcz8_4 : wr.cell? ⟨gb213,4,none⟩ = some (.slice A0_4 l0_4.length c0_4):=(blk_cell BK213.out 4).trans rfl
    have hcz8_5 : wr.cell? ⟨gb213,5,none⟩ = some (.slice A0_5 l0_5.length c0_5):=(blk_cell BK213.out 5).trans rfl
    have hfz8_0:=blk_frozen BK213.out 0
    have hfz8_1:=blk_frozen BK213.out 1
    have hfz8_2:=blk_frozen BK213.out 2
    have hfz8_3:=blk_frozen BK213.out 3
    have hfz8_4:=blk_frozen BK213.out 4
    have hfz8_5:=blk_frozen BK213.out 5
    go_wp2
    go_ret
    exact ⟨by first|rfl|(simp [errW_none,errW_some] <;> rfl)|(simp [*,errW_none,errW_some] <;> rfl),by repeat (first|(with_reducible first|exact HB.out|apply below_alloc|apply pw_below_drewN|apply below_drew1|refine below_set ?_ GE213.out)|exact HB.out)⟩
end Go.Proofs.YtgbiobbhaejjlaaDoor.PTreeShapes
