-- Written by shrink.py, a program of this session: what the law needs of the print and its words. Lean checks it.
import Derived.Test.YtppenppagkfigaaDoorZPPointerBackx0
namespace Go.Proofs.YtppenppagkfigaaDoor.PPointerBack
open Go.RowKit Go.Proofs.YtppenppagkfigaaDoorW.PrintWords Go.Proofs.YtppenppagkfigaaDoorW.PrintLast Go.Proofs.YtppenppagkfigaaDoorW.PrintMore
attribute [local go_sem] max2_int min2_int max_two min_two max_three min_three max_four min_four
set_option linter.unusedVariables false
set_option linter.unusedSimpArgs false
mutual
def tree_copied.l0 : Nat → List (S25) → Int → Int → Int → Bool → ByteArray → ByteArray → List ByteArray → List (S25) → Option (Int × Bool × ByteArray × ByteArray × List ByteArray × (List (S25)))
 | 0,_,_,_,_,_,_,_,_,_=>none
 | k + 1,x13,x14,x15,x126000,x126001,x126002,x126003,x126004,x126005=>if x15 < x14 then (if 0 ≤ x15 then (if x15 < (x13.length : Int) then ((tree_copied.f k ((rd_T25 x13 x15).f0) ((rd_T25 x13 x15).f1) ((rd_T25 x13 x15).f2) ((rd_T25 x13 x15).f3) ((rd_T25 x13 x15).f4) ((rd_T25 x13 x15).f5)).bind fun bt132=>(if x126005.length < 1466015503701 then (tree_copied.l0 k x13 x14 (wrap64 (x15 + 1)) x126000 x126001 x126002 x126003 x126004 (x126005 ++ [(⟨bt132.1,bt132.2.1,bt132.2.2.1,bt132.2.2.2.1,bt132.2.2.2.2.1,bt132.2.2.2.2.2⟩ : S25)])) else (none))) else (none)) else (none)) else (some (x126000,x126001,x126002,x126003,x126004,x126005))
def tree_copied.f : Nat → Int → Bool → ByteArray → ByteArray → List ByteArray → List (S25) → Option (Int × Bool × ByteArray × ByteArray × List ByteArray × (List (S25)))
 | 0,_,_,_,_,_,_=>none
 | k + 1,a0_0,a0_1,a0_2,a0_3,l0_4,l0_5=>if ([] : List ByteArray).length + l0_4.length < 8796093022208 then (tree_copied.l0 k l0_5 (l0_5.length : Int) 0 a0_0 a0_1 a0_2 a0_3 (([] : List ByteArray) ++ l0_4) ([] : List (S25))) else (none)
end
theorem tree_copied.mono_l : ∀ k,(∀ y0 y1 y2 y3 y4 y5,LeO (tree_copied.f k y0 y1 y2 y3 y4 y5) (tree_copied.f (k + 1) y0 y1 y2 y3 y4 y5)) ∧ (∀ y0 y1 y2 y3 y4 y5 y6 y7 y8,LeO (tree_copied.l0 k y0 y1 y2 y3 y4 y5 y6 y7 y8) (tree_copied.l0 (k + 1) y0 y1 y2 y3 y4 y5 y6 y7 y8))
 | 0=>⟨fun _ _ _ _ _ _ r h=>by simp [tree_copied.f] at h,fun _ _ _ _ _ _ _ _ _ r h=>by simp [tree_copied.l0] at h⟩
 | k + 1=>by
  obtain ⟨ih0,ih1⟩:=tree_copied.mono_l k
  refine ⟨?_,?_⟩
  ·intro y0 y1 y2 y3 y4 y5
   unfold tree_copied.f
   repeat' first
   | (with_reducible exact ih0 _ _ _ _ _ _)
   | (with_reducible exact ih1 _ _ _ _ _ _ _ _ _)
   | (with_reducible exact LeO.refl _)
   | (with_reducible exact LeO.none _)
   | (with_reducible refine LeO.ite ?_ ?_)
   | (with_reducible refine LeO.bind ?_ (fun _=>?_))
   | exact ih0 _ _ _ _ _ _
   | exact ih1 _ _ _ _ _ _ _ _ _
   | exact LeO.none _
   | refine LeO.ite ?_ ?_
   | refine LeO.bind ?_ (fun _=>?_)
  ·intro y0 y1 y2 y3 y4 y5 y6 y7 y8
   unfold tree_copied.l0
   repeat' first
   | (with_reducible exact ih0 _ _ _ _ _ _)
   | (with_reducible exact ih1 _ _ _ _ _ _ _ _ _)
   | (with_reducible exact LeO.refl _)
   | (with_reducible exact LeO.none _)
   | (with_reducible refine LeO.ite ?_ ?_)
   | (with_reducible refine LeO.bind ?_ (fun _=>?_))
   | exact ih0 _ _ _ _ _ _
   | exact ih1 _ _ _ _ _ _ _ _ _
   | exact LeO.none _
   | refine LeO.ite ?_ ?_
   | refine LeO.bind ?_ (fun _=>?_)
theorem tree_copied.mono : ∀ a0 a1 a2 a3 a4 a5 k,LeO (tree_copied.f k a0 a1 a2 a3 a4 a5) (tree_copied.f (k + 1) a0 a1 a2 a3 a4 a5):=by
 intro a0 a1 a2 a3 a4 a5 k
 obtain ⟨ih0,ih1⟩:=tree_copied.mono_l k
 exact ih0 a0 a1 a2 a3 a4 a5
def tree_copied.T7 : Bool × List (List Nat × List Nat):=(true,[([],[]),([0],[0]),([],[]),([2],[2]),([3],[3]),([1,4,3],[1,4]),([0,1,2,3,4,5],[]),([6,5,5,0,1,2,3,4,5],[5,6])])
def tree_copied.B7 : List Nat:=[0,1,0,4,12,31,63,127]
theorem tree_copied.tab7 : rtab .any (opsOf Tryd.f56 7) = tree_copied.T7:=by kernel_rfl
theorem tree_copied.bits7 : waitsOk tree_copied.T7.2 tree_copied.B7 = true:=by kernel_rfl
set_option maxHeartbeats 8000000 in
set_option maxRecDepth 100000 in
theorem tree_copied.calls (k : Nat) : ∀ (a0_0 : Int) (a0_1 : Bool) (a0_2 : ByteArray) (a0_3 : ByteArray) (A0_4 : Option Addr) (c0_4 : Nat) (l0_4 : List ByteArray) (A0_5 : Option Addr) (c0_5 : Nat) (l0_5 : List (S25)) (r1 : Int) (r2 : Bool) (r3 : ByteArray) (r4 : ByteArray) (r5 : List ByteArray) (r6 : List (S25)) (w : World) (hr0_4 : Kd.C Kd.string w A0_4 l0_4.length l0_4) (hc0_4 : l0_4.length ≤ c0_4) (hr0_5 : Kd.C k25 w A0_5 l0_5.length l0_5) (hc0_5 : l0_5.length ≤ c0_5) (h : tree_copied.f k a0_0 a0_1 a0_2 a0_3 l0_4 l0_5 = some (r1,r2,r3,r4,r5,r6)),
  Calls Tryd.prog 56 #[.agg #[.int .i64 a0_0,.bool a0_1,.string a0_2,.string a0_3,.slice A0_4 l0_4.length c0_4,.slice A0_5 l0_5.length c0_5]] w fun e w'=>∃ v4_ v5_ : Value,e = .returned (.agg #[.int .i64 r1,.bool r2,.string r3,.string r4,v4_,v5_]) ∧ Kd.R Kd.string 9 w' w.heap.size (fun _=>True) v4_ r5 ∧ Kd.R k25 25 w' w.heap.size (fun k_=>some k_ ≠ (v4_ : Value).ownBlock) v5_ r6 ∧ Below w.heap.size w w':=by
 induction k using Nat.strongRecOn with
 | _ k ih =>
 intro a0_0 a0_1 a0_2 a0_3 A0_4 c0_4 l0_4 A0_5 c0_5 l0_5 r1 r2 r3 r4 r5 r6 w hr0_4 hc0_4 hr0_5 hc0_5 h
 cases k with
 | zero=>exact absurd h (by simp [tree_copied.f])
 | succ k =>
 simp only [tree_copied.f] at h
 have hu25:=Tryd.underlying25
 have HR0_4:=Aside0.mk hr0_4
 have HC0_4:=Aside0.mk hc0_4
 clear hr0_4 hc0_4
 have HR0_5:=Aside0.mk hr0_5
 have HC0_5:=Aside0.mk hc0_5
 clear hr0_5 hc0_5
 have HB:=Aside0.mk (Below.refl w.heap.size w)
 have H : (if ([] : List ByteArray).length + l0_4.length < 8796093022208 then (tree_copied.l0 k l0_5 (l0_5.length : Int) 0 a0_0 a0_1 a0_2 a0_3 (([] : List ByteArray) ++ l0_4) ([] : List (S25))) else (none)) = some (r1,r2,r3,r4,r5,r6):=h
 clear h
 by_cases c2 : ([] : List ByteArray).length + l0_4.length < 8796093022208
 ·rw [if_pos c2] at H
  have LMc2:=Aside0.mk c2
  clear c2
  obtain ⟨y127,hy127⟩ : ∃ y_ : List ByteArray,y_ = (([] : List ByteArray) ++ l0_4):=⟨_,rfl⟩
  replace H : (tree_copied.l0 k l0_5 (l0_5.length : Int) 0 a0_0 a0_1 a0_2 a0_3 y127 ([] : List (S25))) = some (r1,r2,r3,r4,r5,r6):=by first|(rw [hy127];with_reducible exact H)|(have H2_:=(Option.bind_some _ _).symm.trans H;rw [hy127];with_reducible exact H2_)|(have H2_:=(Option.bind_some _ _).symm.trans H;with_reducible exact H2_)|with_reducible exact H|(rw [hy127];exact H)|exact H
  have Ny127:=Aside0.mk hy127
  clear hy127
  have H':=Aside0.mk H
  clear H
  go_enter Tryd.func56,Tryd.ntmps56
  go_wp2_with (first|((with_reducible refine gate_dst (N:=1) rfl ?_);refine box_event ?hg (N:=1) ?hd (cs:=#[.int .i64 a0_0,.bool a0_1,.string a0_2,.string a0_3,.slice A0_4 l0_4.length c0_4,.slice A0_5 l0_5.length c0_5]) (t:=25) ?hr ?_;(case hd=>rfl);(case hg=>rfl);(case hr=>first|(go_simp;done)|(go_simp;rfl));intro gb125 hg w3 hbox hb;have n_:=J_ (below_step (hb_ HB) hb) (J_ (hbox) (J_ (bs_ hg HB) (Aside0.mk (bs_ hg HB))));clear HB;obtain ⟨HB,BK125,GW125,GE125⟩:=n_;clear hb hbox hg)|((with_reducible refine gate_dst (N:=2) rfl ?_);refine box_event ?hg (N:=2) ?hd (cs:=#[.int .i64 0,.bool false,.string (⟨#[]⟩ : ByteArray),.string (⟨#[]⟩ : ByteArray),.slice none 0 0,.slice none 0 0]) (t:=25) ?hr ?_;(case hd=>rfl);(case hg=>rfl);(case hr=>first|(go_simp;done)|(go_simp;rfl));intro gb126 hg w4 hbox hb;have n_:=J_ (bkb_ BK125 hb) (J_ (below_step (hb_ HB) hb) (J_ (hbox) (J_ (bs_ hg HB) (J_ (bs_ hg HB) (J_ ((by rw [hg];exact Nat.ne_of_lt (bkl_ BK125) : gb125 ≠ gb126)) (Aside0.mk ((by rw [hg];exact Nat.ne_of_gt (bkl_ BK125) : gb126 ≠ gb125))))))));clear BK125 HB;obtain ⟨BK125,HB,BK126,GW126,GE126,NB125_126,NB126_125⟩:=n_;clear hb hbox hg;have hnb5:=NB125_126.out;have hnc5:=NB126_125.out;obtain ⟨hcz6_0,hcz6_1,hcz6_2,hcz6_3,hcz6_4,hcz6_5,hfz6_0,hfz6_1,hfz6_2,hfz6_3,hfz6_4,hfz6_5⟩:=cf6_ BK125)|((with_reducible refine gate_builtin (b:=.append) (xs:=#[.const (.slice none 0 0),.tmp 7]) rfl ?_);at_builtin;refine Kd.R_append_rows Kd.string (w0:=w) w.heap.size rfl (.const (.slice none 0 0)) (.tmp 7) 22 9 (.string ⟨#[]⟩) 16 rfl Tryd.underlying22 info9 rfl (by decide) (by omega) (.slice none 0 0) ([] : List ByteArray) l0_4 _ _ _ (fun _=>True) (fun _=>False) rfl rfl ?aO ?aR (fun _ _ h=>h) (fun _ h=>h.elim) ?aF ?aB ?aS ?aL ?_;(case aR=>repeat (first|exact (Kd.C_below HR0_4.out HB.out)|(with_reducible refine Kd.C_alloc ?_ _)|(with_reducible refine Kd.C_drewN ?_ _)|(with_reducible refine Kd.C_drew ?_)));(case aB=>exact (hb_ HB));(case aF=>exact (fun _ _=>trivial));(case aO=>exact ((Kd.R_nil _ _ _ _ (fun _=>True))));(case aS=>exact (below_size (hb_ HB)));(case aL=>have:=LMc2.out;first|omega|exact Nat.le_of_lt this);intro v128 w7 ho hb hg hat;rw [← Ny127.out] at ho;have n_:=J_ (blk_grown (g:=gb125) (o:=.cells #[.int .i64 a0_0,.bool a0_1,.string a0_2,.string a0_3,.slice A0_4 l0_4.length c0_4,.slice A0_5 l0_5.length c0_5] 25 (0,0)) (bk_ BK125) hg (by simp [Value.ownBlock])) (J_ (blk_grown (g:=gb126) (o:=.cells #[.int .i64 0,.bool false,.string (⟨#[]⟩ : ByteArray),.string (⟨#[]⟩ : ByteArray),.slice none 0 0,.slice none 0 0] 25 (0,0)) (bk_ BK126) hg (by simp [Value.ownBlock])) (J_ (hb) (Aside0.mk (ho))));clear BK125 BK126 HB;obtain ⟨BK125,BK126,HB,HO129⟩:=n_;clear ho hb hg hat;obtain ⟨Ao8,co8,eo8⟩:=Kd.R_slice HO129.out;subst eo8;obtain ⟨hcz9_0,hcz9_1,hcz9_2,hcz9_3,hcz9_4,hcz9_5,hfz9_0,hfz9_1,hfz9_2,hfz9_3,hfz9_4,hfz9_5⟩:=cf6_ BK125))
  go_loopg [15] k (fun kq v15 w'=>∃ (x15_1 : Int) (x126005_1 : List (S25)) (u126005 : Value),v15 = .int .i64 x15_1 ∧ Aside0 (tree_copied.l0 kq l0_5 (l0_5.length : Int) x15_1 a0_0 a0_1 a0_2 a0_3 y127 x126005_1 = some (r1,r2,r3,r4,r5,r6)) ∧ Aside0 (kq ≤ k) ∧ Aside0 (Kd.R Kd.string 9 w' w.heap.size (fun _=>True) (.slice Ao8 y127.length co8) y127) ∧ Aside0 (Kd.R k25 25 w' w.heap.size (fun k_=>some k_ ≠ ((.slice Ao8 y127.length co8) : Value).ownBlock ∧ k_ ≠ gb125 ∧ k_ ≠ gb126) u126005 x126005_1) ∧ Aside0 (w'.heap[gb125]? = some (.cells #[.int .i64 a0_0,.bool a0_1,.string a0_2,.string a0_3,(.slice Ao8 y127.length co8),u126005] 25 (0,0))) ∧ Aside0 (w'.heap[gb126]? = some (.cells #[.int .i64 0,.bool false,.string (⟨#[]⟩ : ByteArray),.string (⟨#[]⟩ : ByteArray),(.slice none 0 0),(.slice none 0 0)] 25 (0,0))) ∧ Aside0 (Below w.heap.size w w'))
  case atStart=>exact ⟨(0),(([] : List (S25))),(.slice none 0 0),rr_,H',⟨Nat.le_refl _⟩,⟨by (with_reducible repeat (first|apply Kd.R_alloc|apply Kd.R_drewN|apply Kd.R_drew));exact Kd.R_mono (Kd.R_far (p:=⟨gb125,5,none⟩) (Kd.R_far (p:=⟨gb125,4,none⟩) (Kd.R_types HO129.out BK125.out (by decide)) (fun _ hk=>hk.2) (.slice Ao8 y127.length co8)) (fun _ hk=>hk.2) (.slice none 0 0)) (fun _ hk=>trivial)⟩,⟨by first|exact Kd.R_nil _ _ _ _ _|exact Kd.N_nil _ _ _ _ _|exact Kd.V_nil _ _ _ _ _|exact Kd.Q_nil _ _ _ _ _|exact Kd.S_nil _ _ _ _ _⟩,⟨by (with_reducible repeat (first|refine blk_drewN ?_ _|refine blk_drew ?_|refine blk_alloc ?_ _));refine bp_ (cs:=#[.int .i64 a0_0,.bool a0_1,.string a0_2,.string a0_3,.slice Ao8 y127.length co8,.slice A0_5 l0_5.length c0_5]) ?_ 5 _;refine bp_ (cs:=#[.int .i64 a0_0,.bool a0_1,.string a0_2,.string a0_3,.slice A0_4 l0_4.length c0_4,.slice A0_5 l0_5.length c0_5]) ?_ 4 _;(with_reducible repeat (first|refine blk_drewN ?_ _|refine blk_drew ?_|refine blk_alloc ?_ _));exact BK125.out⟩,⟨(bf_ NB126_125 BK126)⟩,⟨(hb_ HB)⟩⟩
  case round =>
   clear H'
   try clear BK125
   try clear BK126
   try clear HB
   obtain ⟨x15_1,x126005_1,u126005,rfl,HA,HK1,HO_126004,HO_126005,BK125,BK126,HB⟩:=hrel
   cases gk with
   | zero=>exact absurd HA.out (by simp [tree_copied.l0])
   | succ k1 =>
    have H:=HA.out
    clear HA
    simp only [tree_copied.l0] at H
    by_cases c10 : x15_1 < (l0_5.length : Int)
    ·rw [if_pos c10] at H
     have c10b0 : decide (x15_1 < (l0_5.length : Int)) = true:=decide_eq_true c10
     clear c10
     by_cases c11 : 0 ≤ x15_1
     ·rw [if_pos c11] at H
      have c11b0 : decide (0 ≤ x15_1) = true:=decide_eq_true c11
      clear c11
      by_cases c12 : x15_1 < (l0_5.length : Int)
      ·rw [if_pos c12] at H
       have c12b0 : decide (x15_1 < (l0_5.length : Int)) = true:=decide_eq_true c12
       clear c12
       replace H:=Option.bind_eq_some_iff.mp H
       obtain ⟨⟨t132,t133,t134,t135,t136,t139⟩,A130,H⟩:=H
       replace H : (if x126005_1.length < 1466015503701 then (tree_copied.l0 k1 l0_5 (l0_5.length : Int) (wrap64 (x15_1 + 1)) a0_0 a0_1 a0_2 a0_3 y127 (x126005_1 ++ [(⟨t132,t133,t134,t135,t136,t139⟩ : S25)])) else (none)) = some (r1,r2,r3,r4,r5,r6):=H
       have A13:=Aside0.mk A130
       clear A130
       by_cases c14 : x126005_1.length < 1466015503701
       ·rw [if_pos c14] at H
        have LMc14:=Aside0.mk c14
        clear c14
        obtain ⟨y142,hy142⟩ : ∃ y_ : List (S25),y_ = (x126005_1 ++ [(⟨t132,t133,t134,t135,t136,t139⟩ : S25)]):=⟨_,rfl⟩
        replace H : (tree_copied.l0 k1 l0_5 (l0_5.length : Int) (wrap64 (x15_1 + 1)) a0_0 a0_1 a0_2 a0_3 y127 y142) = some (r1,r2,r3,r4,r5,r6):=by first|(rw [hy142];with_reducible exact H)|(have H2_:=(Option.bind_some _ _).symm.trans H;rw [hy142];with_reducible exact H2_)|(have H2_:=(Option.bind_some _ _).symm.trans H;with_reducible exact H2_)|with_reducible exact H|(rw [hy142];exact H)|exact H
        have Ny142:=Aside0.mk hy142
        clear hy142
        have H':=Aside0.mk H
        clear H
        have p130 : 0 ≤ (x15_1 : Int):=of_decide_eq_true aa_
        have q130 : x15_1 < (l0_5.length : Int):=of_decide_eq_true aa_
        obtain ⟨ad130,A130_4,c130_4,A130_5,c130_5,e130,hx130_0,hx130_1,hx130_2,hx130_3,hx130_4,hx130_5,hl130_4,hi130_4,hl130_5,hi130_5⟩:=at_T25 HR0_5.out x15_1 p130 q130
        cases e130
        replace hx130_0:=(HB.out.cell (World.block_lt_of_cell? w _ hx130_0)).trans hx130_0
        replace hx130_1:=(HB.out.cell (World.block_lt_of_cell? w _ hx130_1)).trans hx130_1
        replace hx130_2:=(HB.out.cell (World.block_lt_of_cell? w _ hx130_2)).trans hx130_2
        replace hx130_3:=(HB.out.cell (World.block_lt_of_cell? w _ hx130_3)).trans hx130_3
        replace hx130_4:=(HB.out.cell (World.block_lt_of_cell? w _ hx130_4)).trans hx130_4
        replace hx130_5:=(HB.out.cell (World.block_lt_of_cell? w _ hx130_5)).trans hx130_5
        have HR130_4:=Aside0.mk hi130_4
        have HC130_4:=Aside0.mk hl130_4
        clear hi130_4 hl130_4
        have HR130_5:=Aside0.mk hi130_5
        have HC130_5:=Aside0.mk hl130_5
        clear hi130_5 hl130_5
        replace p130:=eq_true p130
        replace q130:=eq_true q130
        try go_wp2_with (first|((with_reducible refine gate_dst (N:=5) rfl ?_);refine box_event ?hg (N:=5) ?hd (cs:=#[.int .i64 0,.bool false,.string (⟨#[]⟩ : ByteArray),.string (⟨#[]⟩ : ByteArray),.slice none 0 0,.slice none 0 0]) (t:=25) ?hr ?_;(case hd=>rfl);(case hg=>rfl);(case hr=>first|(go_simp;done)|(go_simp;rfl));intro gb131 hg w15 hbox hb;have n_:=J_ (Kd.R_below (rk_ HO_126004) hb) (J_ (Kd.R_below (Kd.R_elderB (rk_ HO_126005) gb131 (Nat.le_of_eq hg.symm)) hb) (J_ (bkb_ BK125 hb) (J_ (bkb_ BK126 hb) (J_ (below_step (hb_ HB) hb) (J_ (hbox) (J_ (bs_ hg HB) (J_ (bs_ hg HB) (J_ ((by rw [hg];exact Nat.ne_of_lt (bkl_ BK125) : gb125 ≠ gb131)) (J_ ((by rw [hg];exact Nat.ne_of_gt (bkl_ BK125) : gb131 ≠ gb125)) (J_ ((by rw [hg];exact Nat.ne_of_lt (bkl_ BK126) : gb126 ≠ gb131)) (Aside0.mk ((by rw [hg];exact Nat.ne_of_gt (bkl_ BK126) : gb131 ≠ gb126)))))))))))));clear HO_126004 HO_126005 BK125 BK126 HB;obtain ⟨HO_126004,HO_126005,BK125,BK126,HB,BK131,GW131,GE131,NB125_131,NB131_125,NB126_131,NB131_126⟩:=n_;clear hb hbox hg;have hnb16:=NB131_125.out;have hnc16:=NB125_131.out;have hnb17:=NB131_126.out;have hnc17:=NB126_131.out;obtain ⟨hcz18_0,hcz18_1,hcz18_2,hcz18_3,hcz18_4,hcz18_5,hfz18_0,hfz18_1,hfz18_2,hfz18_3,hfz18_4,hfz18_5⟩:=cf6_ BK131))
        have n0_ : Aside0 (Kd.R Kd.string 9 ((((((w15.setCell ⟨gb131,0,none⟩ (.int .i64 ((rd_T25 l0_5 x15_1).f0))).setCell ⟨gb131,1,none⟩ (.bool ((rd_T25 l0_5 x15_1).f1))).setCell ⟨gb131,2,none⟩ (.string ((rd_T25 l0_5 x15_1).f2))).setCell ⟨gb131,3,none⟩ (.string ((rd_T25 l0_5 x15_1).f3))).setCell ⟨gb131,4,none⟩ (.slice A130_4 ((rd_T25 l0_5 x15_1).f4).length c130_4)).setCell ⟨gb131,5,none⟩ (.slice A130_5 ((rd_T25 l0_5 x15_1).f5).length c130_5)) w.heap.size (fun _=>True) (.slice Ao8 y127.length co8) y127):=⟨by (with_reducible repeat (first|apply Kd.R_alloc|apply Kd.R_drewN|apply Kd.R_drew));exact Kd.R_mono (Kd.R_far (p:=⟨gb131,5,none⟩) (Kd.R_far (p:=⟨gb131,4,none⟩) (Kd.R_far (p:=⟨gb131,3,none⟩) (Kd.R_far (p:=⟨gb131,2,none⟩) (Kd.R_far (p:=⟨gb131,1,none⟩) (Kd.R_far (p:=⟨gb131,0,none⟩) (Kd.R_types HO_126004.out BK131.out (by decide)) (fun _ hk=>hk.2) (.int .i64 ((rd_T25 l0_5 x15_1).f0))) (fun _ hk=>hk.2) (.bool ((rd_T25 l0_5 x15_1).f1))) (fun _ hk=>hk.2) (.string ((rd_T25 l0_5 x15_1).f2))) (fun _ hk=>hk.2) (.string ((rd_T25 l0_5 x15_1).f3))) (fun _ hk=>hk.2) (.slice A130_4 ((rd_T25 l0_5 x15_1).f4).length c130_4)) (fun _ hk=>hk.2) (.slice A130_5 ((rd_T25 l0_5 x15_1).f5).length c130_5)) (fun _ hk=>trivial)⟩
        have n1_ : Aside0 (Kd.R k25 25 ((((((w15.setCell ⟨gb131,0,none⟩ (.int .i64 ((rd_T25 l0_5 x15_1).f0))).setCell ⟨gb131,1,none⟩ (.bool ((rd_T25 l0_5 x15_1).f1))).setCell ⟨gb131,2,none⟩ (.string ((rd_T25 l0_5 x15_1).f2))).setCell ⟨gb131,3,none⟩ (.string ((rd_T25 l0_5 x15_1).f3))).setCell ⟨gb131,4,none⟩ (.slice A130_4 ((rd_T25 l0_5 x15_1).f4).length c130_4)).setCell ⟨gb131,5,none⟩ (.slice A130_5 ((rd_T25 l0_5 x15_1).f5).length c130_5)) w.heap.size (fun k_=>some k_ ≠ (.slice Ao8 y127.length co8 : Value).ownBlock ∧ k_ ≠ gb125 ∧ k_ ≠ gb126 ∧ k_ ≠ gb131) u126005 x126005_1):=⟨by (with_reducible repeat (first|apply Kd.R_alloc|apply Kd.R_drewN|apply Kd.R_drew));exact Kd.R_mono (Kd.R_far (p:=⟨gb131,5,none⟩) (Kd.R_far (p:=⟨gb131,4,none⟩) (Kd.R_far (p:=⟨gb131,3,none⟩) (Kd.R_far (p:=⟨gb131,2,none⟩) (Kd.R_far (p:=⟨gb131,1,none⟩) (Kd.R_far (p:=⟨gb131,0,none⟩) (Kd.R_mono HO_126005.out (fun k_ hk=>(⟨hk,hk.2⟩ : _ ∧ k_ ≠ gb131))) (fun _ hk=>hk.2) (.int .i64 ((rd_T25 l0_5 x15_1).f0))) (fun _ hk=>hk.2) (.bool ((rd_T25 l0_5 x15_1).f1))) (fun _ hk=>hk.2) (.string ((rd_T25 l0_5 x15_1).f2))) (fun _ hk=>hk.2) (.string ((rd_T25 l0_5 x15_1).f3))) (fun _ hk=>hk.2) (.slice A130_4 ((rd_T25 l0_5 x15_1).f4).length c130_4)) (fun _ hk=>hk.2) (.slice A130_5 ((rd_T25 l0_5 x15_1).f5).length c130_5)) (fun _ hk=>⟨hk.1.1.1,⟨hk.1.1.2.1,⟨hk.1.1.2.2,hk.1.2⟩⟩⟩)⟩
        have n2_ : Aside0 (((((((w15.setCell ⟨gb131,0,none⟩ (.int .i64 ((rd_T25 l0_5 x15_1).f0))).setCell ⟨gb131,1,none⟩ (.bool ((rd_T25 l0_5 x15_1).f1))).setCell ⟨gb131,2,none⟩ (.string ((rd_T25 l0_5 x15_1).f2))).setCell ⟨gb131,3,none⟩ (.string ((rd_T25 l0_5 x15_1).f3))).setCell ⟨gb131,4,none⟩ (.slice A130_4 ((rd_T25 l0_5 x15_1).f4).length c130_4)).setCell ⟨gb131,5,none⟩ (.slice A130_5 ((rd_T25 l0_5 x15_1).f5).length c130_5)).heap[gb125]? = some (.cells #[.int .i64 a0_0,.bool a0_1,.string a0_2,.string a0_3,.slice Ao8 y127.length co8,u126005] 25 (0,0))):=⟨(bf_ NB125_131 BK125)⟩
        have n3_ : Aside0 (((((((w15.setCell ⟨gb131,0,none⟩ (.int .i64 ((rd_T25 l0_5 x15_1).f0))).setCell ⟨gb131,1,none⟩ (.bool ((rd_T25 l0_5 x15_1).f1))).setCell ⟨gb131,2,none⟩ (.string ((rd_T25 l0_5 x15_1).f2))).setCell ⟨gb131,3,none⟩ (.string ((rd_T25 l0_5 x15_1).f3))).setCell ⟨gb131,4,none⟩ (.slice A130_4 ((rd_T25 l0_5 x15_1).f4).length c130_4)).setCell ⟨gb131,5,none⟩ (.slice A130_5 ((rd_T25 l0_5 x15_1).f5).length c130_5)).heap[gb126]? = some (.cells #[.int .i64 0,.bool false,.string (⟨#[]⟩ : ByteArray),.string (⟨#[]⟩ : ByteArray),.slice none 0 0,.slice none 0 0] 25 (0,0))):=⟨(bf_ NB126_131 BK126)⟩
        have n4_ : Aside0 (((((((w15.setCell ⟨gb131,0,none⟩ (.int .i64 ((rd_T25 l0_5 x15_1).f0))).setCell ⟨gb131,1,none⟩ (.bool ((rd_T25 l0_5 x15_1).f1))).setCell ⟨gb131,2,none⟩ (.string ((rd_T25 l0_5 x15_1).f2))).setCell ⟨gb131,3,none⟩ (.string ((rd_T25 l0_5 x15_1).f3))).setCell ⟨gb131,4,none⟩ (.slice A130_4 ((rd_T25 l0_5 x15_1).f4).length c130_4)).setCell ⟨gb131,5,none⟩ (.slice A130_5 ((rd_T25 l0_5 x15_1).f5).length c130_5)).heap[gb131]? = some (.cells #[.int .i64 ((rd_T25 l0_5 x15_1).f0),.bool ((rd_T25 l0_5 x15_1).f1),.string ((rd_T25 l0_5 x15_1).f2),.string ((rd_T25 l0_5 x15_1).f3),.slice A130_4 ((rd_T25 l0_5 x15_1).f4).length c130_4,.slice A130_5 ((rd_T25 l0_5 x15_1).f5).length c130_5] 25 (0,0))):=⟨by (with_reducible repeat (first|refine blk_drewN ?_ _|refine blk_drew ?_|refine blk_alloc ?_ _));refine bp_ (cs:=#[.int .i64 ((rd_T25 l0_5 x15_1).f0),.bool ((rd_T25 l0_5 x15_1).f1),.string ((rd_T25 l0_5 x15_1).f2),.string ((rd_T25 l0_5 x15_1).f3),.slice A130_4 ((rd_T25 l0_5 x15_1).f4).length c130_4,.slice none 0 0]) ?_ 5 _;refine bp_ (cs:=#[.int .i64 ((rd_T25 l0_5 x15_1).f0),.bool ((rd_T25 l0_5 x15_1).f1),.string ((rd_T25 l0_5 x15_1).f2),.string ((rd_T25 l0_5 x15_1).f3),.slice none 0 0,.slice none 0 0]) ?_ 4 _;refine bp_ (cs:=#[.int .i64 ((rd_T25 l0_5 x15_1).f0),.bool ((rd_T25 l0_5 x15_1).f1),.string ((rd_T25 l0_5 x15_1).f2),.string (⟨#[]⟩ : ByteArray),.slice none 0 0,.slice none 0 0]) ?_ 3 _;refine bp_ (cs:=#[.int .i64 ((rd_T25 l0_5 x15_1).f0),.bool ((rd_T25 l0_5 x15_1).f1),.string (⟨#[]⟩ : ByteArray),.string (⟨#[]⟩ : ByteArray),.slice none 0 0,.slice none 0 0]) ?_ 2 _;refine bp_ (cs:=#[.int .i64 ((rd_T25 l0_5 x15_1).f0),.bool false,.string (⟨#[]⟩ : ByteArray),.string (⟨#[]⟩ : ByteArray),.slice none 0 0,.slice none 0 0]) ?_ 1 _;refine bp_ (cs:=#[.int .i64 0,.bool false,.string (⟨#[]⟩ : ByteArray),.string (⟨#[]⟩ : ByteArray),.slice none 0 0,.slice none 0 0]) ?_ 0 _;(with_reducible repeat (first|refine blk_drewN ?_ _|refine blk_drew ?_|refine blk_alloc ?_ _));exact BK131.out⟩
        have n5_ : Aside0 (Below w.heap.size w ((((((w15.setCell ⟨gb131,0,none⟩ (.int .i64 ((rd_T25 l0_5 x15_1).f0))).setCell ⟨gb131,1,none⟩ (.bool ((rd_T25 l0_5 x15_1).f1))).setCell ⟨gb131,2,none⟩ (.string ((rd_T25 l0_5 x15_1).f2))).setCell ⟨gb131,3,none⟩ (.string ((rd_T25 l0_5 x15_1).f3))).setCell ⟨gb131,4,none⟩ (.slice A130_4 ((rd_T25 l0_5 x15_1).f4).length c130_4)).setCell ⟨gb131,5,none⟩ (.slice A130_5 ((rd_T25 l0_5 x15_1).f5).length c130_5))):=⟨(hb_ HB)⟩
        (try clear HO_126004)
        (try clear HO_126005)
        (try clear BK125)
        (try clear BK126)
        (try clear BK131)
        (try clear HB)
        generalize ((((((w15.setCell ⟨gb131,0,none⟩ (.int .i64 ((rd_T25 l0_5 x15_1).f0))).setCell ⟨gb131,1,none⟩ (.bool ((rd_T25 l0_5 x15_1).f1))).setCell ⟨gb131,2,none⟩ (.string ((rd_T25 l0_5 x15_1).f2))).setCell ⟨gb131,3,none⟩ (.string ((rd_T25 l0_5 x15_1).f3))).setCell ⟨gb131,4,none⟩ (.slice A130_4 ((rd_T25 l0_5 x15_1).f4).length c130_4)).setCell ⟨gb131,5,none⟩ (.slice A130_5 ((rd_T25 l0_5 x15_1).f5).length c130_5)) = w19 at n0_ n1_ n2_ n3_ n4_ n5_ ⊢
        have HO_126004:=n0_
        have HO_126005:=n1_
        have BK125:=n2_
        have BK126:=n3_
        have BK131:=n4_
        have HB:=n5_
        clear n0_ n1_ n2_ n3_ n4_ n5_
        have n0_:=Aside0.mk (Kd.R_drew HO_126004.out)
        have n1_:=Aside0.mk (Kd.R_drew HO_126005.out)
        have n2_:=Aside0.mk (blk_drew BK125.out)
        have n3_:=Aside0.mk (blk_drew BK126.out)
        have n4_:=Aside0.mk (blk_drew BK131.out)
        have n5_:=Aside0.mk (below_drew1 HB.out)
        clear HO_126004
        clear HO_126005
        clear BK125
        clear BK126
        clear BK131
        clear HB
        have HO_126004:=n0_
        have HO_126005:=n1_
        have BK125:=n2_
        have BK126:=n3_
        have BK131:=n4_
        have HB:=n5_
        clear n0_ n1_ n2_ n3_ n4_ n5_
        refine start_ (n:=8) (S:=fun w'=>w'.cell? ⟨gb125,0,none⟩ = some (.int .i64 a0_0) ∧ w'.cell? ⟨gb125,1,none⟩ = some (.bool a0_1) ∧ w'.cell? ⟨gb125,2,none⟩ = some (.string a0_2) ∧ w'.cell? ⟨gb125,3,none⟩ = some (.string a0_3) ∧ w'.cell? ⟨gb125,4,none⟩ = some (.slice Ao8 y127.length co8) ∧ w'.cell? ⟨gb125,5,none⟩ = some (u126005) ∧ w'.cell? ⟨gb131,0,none⟩ = some (.int .i64 ((rd_T25 l0_5 x15_1).f0)) ∧ w'.cell? ⟨gb131,1,none⟩ = some (.bool ((rd_T25 l0_5 x15_1).f1)) ∧ w'.cell? ⟨gb131,2,none⟩ = some (.string ((rd_T25 l0_5 x15_1).f2)) ∧ w'.cell? ⟨gb131,3,none⟩ = some (.string ((rd_T25 l0_5 x15_1).f3)) ∧ w'.cell? ⟨gb131,4,none⟩ = some (.slice A130_4 ((rd_T25 l0_5 x15_1).f4).length c130_4) ∧ w'.cell? ⟨gb131,5,none⟩ = some (.slice A130_5 ((rd_T25 l0_5 x15_1).f5).length c130_5)) (ds:=[7]) #[false,false,false,false,false,false,false,false] (by kernel_rfl) rfl rfl ⟨(blk_cell BK125.out 0).trans rfl,(blk_cell BK125.out 1).trans rfl,(blk_cell BK125.out 2).trans rfl,(blk_cell BK125.out 3).trans rfl,(blk_cell BK125.out 4).trans rfl,(blk_cell BK125.out 5).trans rfl,(blk_cell BK131.out 0).trans rfl,(blk_cell BK131.out 1).trans rfl,(blk_cell BK131.out 2).trans rfl,(blk_cell BK131.out 3).trans rfl,(blk_cell BK131.out 4).trans rfl,(blk_cell BK131.out 5).trans rfl⟩ (fun hHeld=>?_);refine with_tabW tree_copied.tab7 tree_copied.bits7 (fun HT_ HW_=>?_)
        generalize w19.drew = w20 at HO_126004 HO_126005 BK125 BK126 BK131 HB hHeld ⊢
        refine pure_ (i:=0) (N:=some 19) (v:=?_) (a':=?_) #[true,false,false,false,false,false,false,false] rfl rfl (any_of HT_.out (by kernel_rfl)) (fun _ _ _ h=>h) (Or.inl ⟨by rfl,?_⟩) ?_ ?_
        rotate_left
        ·intro w'
         go_simp
         with_reducible rfl
        rotate_left
        ·simp only [Act.put,List.setIfInBounds_toArray,List.set_cons_zero,List.set_cons_succ,i64_w,i32_w]
         rfl
        refine take_ (i:=1) (N:=some 20) (v:=?_) (a':=?_) #[true,true,false,false,false,false,false,false] rfl rfl (take_ofW HT_.out HW_.out (by kernel_rfl)) (fun _ _ _ h=>h) (Or.inl ⟨by rfl,?_⟩) hHeld ?_ ?_
        rotate_left
        ·rintro w' ⟨s0,s1,s2,s3,s4,s5,s6,s7,s8,s9,s10,s11⟩
         go_simp
         with_reducible rfl
        rotate_left
        ·simp only [Act.put,List.setIfInBounds_toArray,List.set_cons_zero,List.set_cons_succ,i64_w,i32_w]
         rfl
        refine take_ (i:=2) (N:=some 21) (v:=?_) (a':=?_) #[true,true,true,false,false,false,false,false] rfl rfl (take_ofW HT_.out HW_.out (by kernel_rfl)) (fun _ _ _ h=>h) (Or.inl ⟨by rfl,?_⟩) hHeld ?_ ?_
        rotate_left
        ·rintro w' ⟨s0,s1,s2,s3,s4,s5,s6,s7,s8,s9,s10,s11⟩
         go_simp
         with_reducible rfl
        rotate_left
        ·simp only [Act.put,List.setIfInBounds_toArray,List.set_cons_zero,List.set_cons_succ,i64_w,i32_w]
         rfl
        refine one_ (i:=3) (N:=some 22) #[true,true,true,true,false,false,false,false] rfl rfl (one_of HT_.out (by kernel_rfl)) (by decide) (fun K hK=>?_)
        refine goes_ Tryd.func56 (by kernel_rfl) rfl #[.agg #[.int .i64 ((rd_T25 l0_5 x15_1).f0),.bool ((rd_T25 l0_5 x15_1).f1),.string ((rd_T25 l0_5 x15_1).f2),.string ((rd_T25 l0_5 x15_1).f3),.slice A130_4 ((rd_T25 l0_5 x15_1).f4).length c130_4,.slice A130_5 ((rd_T25 l0_5 x15_1).f5).length c130_5]] (by rfl) rfl rfl am_ ?_
        with_reducible refine (ih k1 (by have:=HK1.out;omega) ((rd_T25 l0_5 x15_1).f0) ((rd_T25 l0_5 x15_1).f1) ((rd_T25 l0_5 x15_1).f2) ((rd_T25 l0_5 x15_1).f3) _ _ ((rd_T25 l0_5 x15_1).f4) _ _ ((rd_T25 l0_5 x15_1).f5) t132 t133 t134 t135 t136 t139 _ ?side1 ?side2 ?side3 ?side4 A13.out).mono ?_
        (case side1=>repeat (first|exact (Kd.C_below HR130_4.out HB.out)|(with_reducible refine Kd.C_alloc ?_ _)|(with_reducible refine Kd.C_drewN ?_ _)|(with_reducible refine Kd.C_drew ?_)))
        (case side2=>exact HC130_4.out)
        (case side3=>repeat (first|exact (Kd.C_below HR130_5.out HB.out)|(with_reducible refine Kd.C_alloc ?_ _)|(with_reducible refine Kd.C_drewN ?_ _)|(with_reducible refine Kd.C_drew ?_)))
        (case side4=>exact HC130_5.out)
        rintro e w21 ⟨v137,v140,rfl,ho0,ho1,hb⟩
        refine ⟨_,rfl,?_⟩
        have n0_:=Aside0.mk (Kd.R_elder' (rk_ HO_126004) (Kd.R_base ho0) hb)
        have n1_:=Aside0.mk (Kd.R_mono (Kd.R_told (Kd.R_told (Kd.R_old (rk_ HO_126005) hb) (Kd.R_base ho0)) (Kd.R_base ho1)) (fun _ h_=>h_.1))
        have n2_:=Aside0.mk (Kd.R_lower (Kd.R_new' ho0 (Kd.R_lt (rk_ HO_126004))) (below_size (hb_ HB)))
        have n3_:=Aside0.mk (Kd.R_lower (Kd.R_newB (Kd.R_newB (Kd.R_newB (Kd.R_new' (Kd.R_new' ho1 (Kd.R_lt (rk_ HO_126004))) (Kd.R_lt (rk_ HO_126005))) (g:=gb125) (o:=.cells #[.int .i64 a0_0,.bool a0_1,.string a0_2,.string a0_3,.slice Ao8 y127.length co8,u126005] 25 (0,0)) (bk_ BK125)) (g:=gb126) (o:=.cells #[.int .i64 0,.bool false,.string (⟨#[]⟩ : ByteArray),.string (⟨#[]⟩ : ByteArray),.slice none 0 0,.slice none 0 0] 25 (0,0)) (bk_ BK126)) (g:=gb131) (o:=.cells #[.int .i64 ((rd_T25 l0_5 x15_1).f0),.bool ((rd_T25 l0_5 x15_1).f1),.string ((rd_T25 l0_5 x15_1).f2),.string ((rd_T25 l0_5 x15_1).f3),.slice A130_4 ((rd_T25 l0_5 x15_1).f4).length c130_4,.slice A130_5 ((rd_T25 l0_5 x15_1).f5).length c130_5] 25 (0,0)) (bk_ BK131)) (below_size (hb_ HB)))
        have n4_:=Aside0.mk (bkb_ BK125 hb)
        have n5_:=Aside0.mk (bkb_ BK126 hb)
        have n6_:=Aside0.mk (bkb_ BK131 hb)
        have n7_:=Aside0.mk (below_step (hb_ HB) hb)
        clear HO_126004
        clear HO_126005
        clear BK125
        clear BK126
        clear BK131
        clear HB
        have HO_126004:=n0_
        have HO_126005:=n1_
        have HO138:=n2_
        have HO141:=n3_
        have BK125:=n4_
        have BK126:=n5_
        have BK131:=n6_
        have HB:=n7_
        clear n0_ n1_ n2_ n3_ n4_ n5_ n6_ n7_
        (try clear hb)
        (try clear hb2)
        (try clear hk)
        (try clear hi)
        (try clear ho0)
        (try clear ho1)
        obtain ⟨Ao23,co23,eo23⟩:=Kd.R_slice HO138.out
        (first|subst eo23|(injection eo23 with f1_ f2_ f3_;have f4_:=f1_.symm;have f5_:=f3_.symm;clear f1_ f2_ f3_;subst f4_;subst f5_))
        obtain ⟨Ao24,co24,eo24⟩:=Kd.R_slice HO141.out
        (first|subst eo24|(injection eo24 with f1_ f2_ f3_;have f4_:=f1_.symm;have f5_:=f3_.symm;clear f1_ f2_ f3_;subst f4_;subst f5_))
        refine hK.out _ _ ⟨(blk_cell BK125.out 0).trans rfl,(blk_cell BK125.out 1).trans rfl,(blk_cell BK125.out 2).trans rfl,(blk_cell BK125.out 3).trans rfl,(blk_cell BK125.out 4).trans rfl,(blk_cell BK125.out 5).trans rfl,(blk_cell BK131.out 0).trans rfl,(blk_cell BK131.out 1).trans rfl,(blk_cell BK131.out 2).trans rfl,(blk_cell BK131.out 3).trans rfl,(blk_cell BK131.out 4).trans rfl,(blk_cell BK131.out 5).trans rfl⟩ (fun hHeld=>?_)
        clear hK K
        refine norm_ (a':=?_) ?_ ?_
        rotate_left
        ·show Act.put _ (some 22) _ = _
         simp only [Act.put,List.setIfInBounds_toArray,List.set_cons_zero,List.set_cons_succ,i64_w,i32_w]
         rfl
        refine one_ (i:=4) (N:=some 23) #[true,true,true,true,true,false,false,false] rfl rfl (one_of HT_.out (by kernel_rfl)) (by decide) (fun K hK=>?_)
        refine value_ (w1:=?_) (v:=?_) (by rfl) rfl ?_ ?_
        rotate_left 2
        ·go_simp
         constructor
         ·rfl
         ·rfl
        refine hK.out _ _ ⟨(blk_cell (blk_alloc BK125.out _) 0).trans rfl,(blk_cell (blk_alloc BK125.out _) 1).trans rfl,(blk_cell (blk_alloc BK125.out _) 2).trans rfl,(blk_cell (blk_alloc BK125.out _) 3).trans rfl,(blk_cell (blk_alloc BK125.out _) 4).trans rfl,(blk_cell (blk_alloc BK125.out _) 5).trans rfl,(blk_cell (blk_alloc BK131.out _) 0).trans rfl,(blk_cell (blk_alloc BK131.out _) 1).trans rfl,(blk_cell (blk_alloc BK131.out _) 2).trans rfl,(blk_cell (blk_alloc BK131.out _) 3).trans rfl,(blk_cell (blk_alloc BK131.out _) 4).trans rfl,(blk_cell (blk_alloc BK131.out _) 5).trans rfl⟩ (fun hHeld=>?_)
        clear hK K
        refine norm_ (a':=?_) ?_ ?_
        rotate_left
        ·show Act.put _ (some 23) _ = _
         simp only [Act.put,List.setIfInBounds_toArray,List.set_cons_zero,List.set_cons_succ,i64_w,i32_w]
         rfl
        refine one_ (i:=5) (N:=some 24) #[true,true,true,true,true,true,false,false] rfl rfl (one_of HT_.out (by kernel_rfl)) (by decide) (fun K hK=>?_)
        refine Kd.R_append_step k25 (w0:=w) w.heap.size (by rfl) (.tmp 20) (.tmp 23) 23 25 (.agg #[(.int .i64 0),(.bool false),(.string ⟨#[]⟩),(.string ⟨#[]⟩),(.slice none 0 0),(.slice none 0 0)]) 96 rfl Tryd.underlying23 info25 rfl (by decide) (by omega) u126005 x126005_1 (⟨t132,t133,t134,t135,t136,t139⟩ : S25) [.int .i64 t132,.bool t133,.string t134,.string t135,.slice Ao23 t136.length co23,.slice Ao24 t139.length co24] (fun k_=>some k_ ≠ (.slice Ao8 y127.length co8 : Value).ownBlock ∧ k_ ≠ gb125 ∧ k_ ≠ gb126 ∧ k_ ≠ gb131) (fun k_=>((fun k_=>some k_ ≠ (.slice Ao8 y127.length co8 : Value).ownBlock ∧ k_ ≠ gb125 ∧ k_ ≠ gb126 ∧ k_ ≠ gb131)) k_ ∧ some k_ ≠ (u126005 : Value).ownBlock) rfl rfl ?aP (fun _ hk=>hk) ?aF ?aO ?aB ?aS ?aL ?_
        (case aP=>exact k25_mkM _ _ _ (⟨t132,t133,t134,t135,t136,t139⟩ : S25) (Kd.R_mono (Kd.R_types (Kd.R_types (Kd.R_types (Kd.R_apart' (HO138.out) (Kd.R_typed HO_126005.out) (by decide)) BK125.out (by decide)) BK126.out (by decide)) BK131.out (by decide)) (fun k_ hk=>⟨⟨hk.1.1.1.1.2,⟨hk.1.1.2,⟨hk.1.2,hk.2⟩⟩⟩,hk.1.1.1.2⟩)) (Kd.R_mono (HO141.out) (fun k_ hk=>⟨⟨hk.1.1.1.1.2,⟨hk.1.1.2,⟨hk.1.2,hk.2⟩⟩⟩,hk.1.1.1.2⟩)))
        (case aB=>exact (hb_ HB))
        (case aF=>exact (fun k_ hk=>⟨Kd.fresh' (Kd.R_lt (rk_ HO_126004)) k_ hk,Kd.freshB (g:=gb125) (o:=.cells #[.int .i64 a0_0,.bool a0_1,.string a0_2,.string a0_3,.slice Ao8 y127.length co8,u126005] 25 (0,0)) (bk_ BK125) k_ hk,Kd.freshB (g:=gb126) (o:=.cells #[.int .i64 0,.bool false,.string (⟨#[]⟩ : ByteArray),.string (⟨#[]⟩ : ByteArray),.slice none 0 0,.slice none 0 0] 25 (0,0)) (bk_ BK126) k_ hk,Kd.freshB (g:=gb131) (o:=.cells #[.int .i64 ((rd_T25 l0_5 x15_1).f0),.bool ((rd_T25 l0_5 x15_1).f1),.string ((rd_T25 l0_5 x15_1).f2),.string ((rd_T25 l0_5 x15_1).f3),.slice A130_4 ((rd_T25 l0_5 x15_1).f4).length c130_4,.slice A130_5 ((rd_T25 l0_5 x15_1).f5).length c130_5] 25 (0,0)) (bk_ BK131) k_ hk⟩))
        (case aO=>exact (by (with_reducible repeat (first|apply Kd.R_alloc|apply Kd.R_drewN|apply Kd.R_drew));exact Kd.R_mono HO_126005.out (fun _ hk=>⟨hk.1.1.1,⟨hk.1.1.2.1,⟨hk.1.1.2.2.1,hk.1.1.2.2.2⟩⟩⟩)))
        (case aS=>exact (below_size (hb_ HB)))
        (case aL=>have:=LMc14.out;first|omega|exact Nat.le_of_lt this)
        intro v143 w22 ho hb hg hat
        rw [← Ny142.out] at ho
        have n0_:=Aside0.mk (Kd.R_over' (rk_ HO_126004) (Kd.R_typed (rk_ HO_126005)) (by decide) hg)
        have n1_:=Aside0.mk (blk_grown (g:=gb125) (o:=.cells #[.int .i64 a0_0,.bool a0_1,.string a0_2,.string a0_3,.slice Ao8 y127.length co8,u126005] 25 (0,0)) (bk_ BK125) hg (Kd.R_away HO_126005.out (fun _ hk=>hk.1.1.2.1)))
        have n2_:=Aside0.mk (blk_grown (g:=gb126) (o:=.cells #[.int .i64 0,.bool false,.string (⟨#[]⟩ : ByteArray),.string (⟨#[]⟩ : ByteArray),.slice none 0 0,.slice none 0 0] 25 (0,0)) (bk_ BK126) hg (Kd.R_away HO_126005.out (fun _ hk=>hk.1.1.2.2.1)))
        have n3_:=Aside0.mk (blk_grown (g:=gb131) (o:=.cells #[.int .i64 ((rd_T25 l0_5 x15_1).f0),.bool ((rd_T25 l0_5 x15_1).f1),.string ((rd_T25 l0_5 x15_1).f2),.string ((rd_T25 l0_5 x15_1).f3),.slice A130_4 ((rd_T25 l0_5 x15_1).f4).length c130_4,.slice A130_5 ((rd_T25 l0_5 x15_1).f5).length c130_5] 25 (0,0)) (bk_ BK131) hg (Kd.R_away HO_126005.out (fun _ hk=>hk.1.1.2.2.2)))
        have n4_:=Aside0.mk (hb)
        have n5_:=Aside0.mk (ho)
        clear HO_126004
        clear BK125
        clear BK126
        clear BK131
        clear HB
        clear HO_126005
        clear HO138
        clear HO141
        have HO_126004:=n0_
        have BK125:=n1_
        have BK126:=n2_
        have BK131:=n3_
        have HB:=n4_
        have HO144:=n5_
        clear n0_ n1_ n2_ n3_ n4_ n5_
        clear ho hb hg hat
        obtain ⟨Ao25,co25,eo25⟩:=Kd.R_slice HO144.out
        (first|subst eo25|(injection eo25 with f1_ f2_ f3_;have f4_:=f1_.symm;have f5_:=f3_.symm;clear f1_ f2_ f3_;subst f4_;subst f5_))
        refine hK.out _ _ ⟨(blk_cell BK125.out 0).trans rfl,(blk_cell BK125.out 1).trans rfl,(blk_cell BK125.out 2).trans rfl,(blk_cell BK125.out 3).trans rfl,(blk_cell BK125.out 4).trans rfl,(blk_cell BK125.out 5).trans rfl,(blk_cell BK131.out 0).trans rfl,(blk_cell BK131.out 1).trans rfl,(blk_cell BK131.out 2).trans rfl,(blk_cell BK131.out 3).trans rfl,(blk_cell BK131.out 4).trans rfl,(blk_cell BK131.out 5).trans rfl⟩ (fun hHeld=>?_)
        clear hK K
        refine norm_ (a':=?_) ?_ ?_
        rotate_left
        ·show Act.put _ (some 24) _ = _
         simp only [Act.put,List.setIfInBounds_toArray,List.set_cons_zero,List.set_cons_succ,i64_w,i32_w]
         rfl
        refine pure_ (i:=6) (N:=some 25) (v:=?_) (a':=?_) #[true,true,true,true,true,true,true,false] rfl rfl (any_of HT_.out (by kernel_rfl)) (fun _ _ _ h=>h) (Or.inl ⟨by rfl,?_⟩) ?_ ?_
        rotate_left
        ·intro w'
         go_simp
         with_reducible rfl
        rotate_left
        ·simp only [Act.put,List.setIfInBounds_toArray,List.set_cons_zero,List.set_cons_succ,i64_w,i32_w]
         rfl
        refine last_ (i:=7) (N:=none) #[true,true,true,true,true,true,true,true] rfl rfl (one_of HT_.out (by kernel_rfl)) (by decide) (fun K hK=>?_)
        have hs26 : w22.cell? ⟨gb125,5,none⟩ = some (u126005):=(blk_cell BK125.out 5).trans rfl
        have hfs26:=blk_frozen BK125.out 5
        have hns26_1:=NB126_125.out
        have hns26_2:=NB131_125.out
        have hms26_1:=NB125_126.out
        have hms26_2:=NB125_131.out
        refine skip_ (w1:=?_) (by rfl) rfl ?_ ?_
        rotate_left
        ·go_simp
         rfl
        refine hK.out _ _ ?_
        clear hK K
        refine done_ (done_of HT_.out (by kernel_rfl)) ?_
        try go_wp2
        go_roundg k1
        case measure=>have:=HK1.out;omega
        case rel=>exact ⟨(wrap64 (x15_1 + 1)),(y142),(.slice Ao25 y142.length co25),rr_,(by first|exact H'|(subst_vars;exact H')),⟨by have:=HK1.out;omega⟩,⟨by (with_reducible repeat (first|apply Kd.R_alloc|apply Kd.R_drewN|apply Kd.R_drew));exact Kd.R_mono (Kd.R_far (p:=⟨gb125,5,none⟩) (Kd.R_types HO_126004.out BK125.out (by decide)) (fun _ hk=>hk.2) (.slice Ao25 y142.length co25)) (fun _ hk=>trivial)⟩,⟨by (with_reducible repeat (first|apply Kd.R_alloc|apply Kd.R_drewN|apply Kd.R_drew));exact Kd.R_mono (Kd.R_far (p:=⟨gb125,5,none⟩) (Kd.R_mono HO144.out (fun k_ hk=>(⟨hk,hk.2.1⟩ : _ ∧ k_ ≠ gb125))) (fun _ hk=>hk.2) (.slice Ao25 y142.length co25)) (fun _ hk=>⟨hk.1.1,⟨hk.1.2.1,hk.1.2.2.1⟩⟩)⟩,⟨by (with_reducible repeat (first|refine blk_drewN ?_ _|refine blk_drew ?_|refine blk_alloc ?_ _));refine bp_ (cs:=#[.int .i64 a0_0,.bool a0_1,.string a0_2,.string a0_3,.slice Ao8 y127.length co8,u126005]) ?_ 5 _;(with_reducible repeat (first|refine blk_drewN ?_ _|refine blk_drew ?_|refine blk_alloc ?_ _));exact BK125.out⟩,⟨(bf_ NB126_125 BK126)⟩,⟨(hb_ HB)⟩⟩
       ·rw [if_neg c14] at H
        exact absurd H (by simp)
      ·rw [if_neg c12] at H
       exact absurd H (by simp)
     ·rw [if_neg c11] at H
      exact absurd H (by simp)
    ·rw [if_neg c10] at H
     have c10b0 : decide (x15_1 < (l0_5.length : Int)) = false:=decide_eq_false c10
     clear c10
     simp only [Option.some.injEq,Prod.mk.injEq] at H
     obtain ⟨rfl,rfl,rfl,rfl,rfl,rfl⟩:=H
     have hnb27:=NB125_126.out
     have hnc27:=NB126_125.out
     obtain ⟨hcz28_0,hcz28_1,hcz28_2,hcz28_3,hcz28_4,hcz28_5,hfz28_0,hfz28_1,hfz28_2,hfz28_3,hfz28_4,hfz28_5⟩:=cf6_ BK125
     obtain ⟨hcz29_0,hcz29_1,hcz29_2,hcz29_3,hcz29_4,hcz29_5,hfz29_0,hfz29_1,hfz29_2,hfz29_3,hfz29_4,hfz29_5⟩:=cf6_ BK126
     obtain ⟨Ao30,co30,eo30⟩:=Kd.R_slice HO_126005.out
     subst eo30
     go_wp2
     refine bodyPost_ret (results_cell_row rfl _ _ gb126 25 #[.int .i64 a0_0,.bool a0_1,.string a0_2,.string a0_3,.slice Ao8 y127.length co8,.slice Ao30 x126005_1.length co30] (0,0) _ rfl (by (with_reducible repeat (first|refine blk_drewN ?_ _|refine blk_drew ?_|refine blk_alloc ?_ _));refine bp_ (cs:=#[.int .i64 a0_0,.bool a0_1,.string a0_2,.string a0_3,.slice Ao8 y127.length co8,.slice none 0 0]) ?_ 5 _;refine bp_ (cs:=#[.int .i64 a0_0,.bool a0_1,.string a0_2,.string a0_3,.slice none 0 0,.slice none 0 0]) ?_ 4 _;refine bp_ (cs:=#[.int .i64 a0_0,.bool a0_1,.string a0_2,.string (⟨#[]⟩ : ByteArray),.slice none 0 0,.slice none 0 0]) ?_ 3 _;refine bp_ (cs:=#[.int .i64 a0_0,.bool a0_1,.string (⟨#[]⟩ : ByteArray),.string (⟨#[]⟩ : ByteArray),.slice none 0 0,.slice none 0 0]) ?_ 2 _;refine bp_ (cs:=#[.int .i64 a0_0,.bool false,.string (⟨#[]⟩ : ByteArray),.string (⟨#[]⟩ : ByteArray),.slice none 0 0,.slice none 0 0]) ?_ 1 _;refine bp_ (cs:=#[.int .i64 0,.bool false,.string (⟨#[]⟩ : ByteArray),.string (⟨#[]⟩ : ByteArray),.slice none 0 0,.slice none 0 0]) ?_ 0 _;(with_reducible repeat (first|refine blk_drewN ?_ _|refine blk_drew ?_|refine blk_alloc ?_ _));exact BK126.out) Tryd.underlying25 rfl (by kernel_rfl)) rfl ?_
     exact ⟨_,_,er_,by (with_reducible repeat (first|apply Kd.R_alloc|apply Kd.R_drewN|apply Kd.R_drew));exact Kd.R_mono (Kd.R_far (p:=⟨gb126,5,none⟩) (Kd.R_far (p:=⟨gb126,4,none⟩) (Kd.R_far (p:=⟨gb126,3,none⟩) (Kd.R_far (p:=⟨gb126,2,none⟩) (Kd.R_far (p:=⟨gb126,1,none⟩) (Kd.R_far (p:=⟨gb126,0,none⟩) (Kd.R_types HO_126004.out BK126.out (by decide)) (fun _ hk=>hk.2) (.int .i64 a0_0)) (fun _ hk=>hk.2) (.bool a0_1)) (fun _ hk=>hk.2) (.string a0_2)) (fun _ hk=>hk.2) (.string a0_3)) (fun _ hk=>hk.2) (.slice Ao8 y127.length co8)) (fun _ hk=>hk.2) (.slice Ao30 x126005_1.length co30)) (fun _ hk=>trivial),by (with_reducible repeat (first|apply Kd.R_alloc|apply Kd.R_drewN|apply Kd.R_drew));exact Kd.R_mono (Kd.R_far (p:=⟨gb126,5,none⟩) (Kd.R_far (p:=⟨gb126,4,none⟩) (Kd.R_far (p:=⟨gb126,3,none⟩) (Kd.R_far (p:=⟨gb126,2,none⟩) (Kd.R_far (p:=⟨gb126,1,none⟩) (Kd.R_far (p:=⟨gb126,0,none⟩) (Kd.R_mono HO_126005.out (fun k_ hk=>(⟨hk,hk.2.2⟩ : _ ∧ k_ ≠ gb126))) (fun _ hk=>hk.2) (.int .i64 a0_0)) (fun _ hk=>hk.2) (.bool a0_1)) (fun _ hk=>hk.2) (.string a0_2)) (fun _ hk=>hk.2) (.string a0_3)) (fun _ hk=>hk.2) (.slice Ao8 y127.length co8)) (fun _ hk=>hk.2) (.slice Ao30 x126005_1.length co30)) (fun _ hk=>hk.1.1),(hb_ HB)⟩
 ·rw [if_neg c2] at H
  exact absurd H (by simp)
end Go.Proofs.YtppenppagkfigaaDoor.PPointerBack
