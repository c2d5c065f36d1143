-- Written by shrink.py, a program of this session: what the law needs of the print and its words. Lean checks it.
import Derived.Test.YtfaegleohhemkaaDoorZPPointerLikesx0
namespace Go.Proofs.YtfaegleohhemkaaDoor.PPointerLikes
open Go.RowKit Go.Proofs.YtfaegleohhemkaaDoorW.PrintWords Go.Proofs.YtfaegleohhemkaaDoorW.PrintLast Go.Proofs.YtfaegleohhemkaaDoorW.PrintMore
attribute [local go_sem] max2_int min2_int max_two min_two max_three min_three max_four min_four
set_option linter.unusedVariables false
set_option linter.unusedSimpArgs false
def slices_Index_string_string.l0 : Nat → List ByteArray → ByteArray → Int → Int → Option (Int)
 | 0,_,_,_,_=>none
 | k + 1,x0,x1,x7,x8=>if x8 < x7 then (if 0 ≤ x8 then (if x8 < (x0.length : Int) then (if x1.toList = (rdOf ByteArray.empty x0 x8).toList then (some x8) else (slices_Index_string_string.l0 k x0 x1 x7 (wrap64 (x8 + 1)))) else (none)) else (none)) else (some (-1))
def slices_Index_string_string.f (k : Nat) (l0 : List ByteArray) (a1 : ByteArray) : Option (Int):=slices_Index_string_string.l0 k l0 a1 (l0.length : Int) 0
theorem slices_Index_string_string.mono_l : ∀ k,(∀ y0 y1 y2 y3,LeO (slices_Index_string_string.l0 k y0 y1 y2 y3) (slices_Index_string_string.l0 (k + 1) y0 y1 y2 y3))
 | 0=>fun _ _ _ _ r h=>by simp [slices_Index_string_string.l0] at h
 | k + 1=>by
  have ih0:=slices_Index_string_string.mono_l k;intro y0 y1 y2 y3
  unfold slices_Index_string_string.l0
  repeat' first
  | (with_reducible exact ih0 _ _ _ _)
  | (with_reducible exact LeO.refl _)
  | (with_reducible exact LeO.none _)
  | (with_reducible refine LeO.ite ?_ ?_)
  | (with_reducible refine LeO.bind ?_ (fun _=>?_))
  | exact ih0 _ _ _ _
  | exact LeO.none _
  | refine LeO.ite ?_ ?_
  | refine LeO.bind ?_ (fun _=>?_)
theorem slices_Index_string_string.mono : ∀ a0 a1 k,LeO (slices_Index_string_string.f k a0 a1) (slices_Index_string_string.f (k + 1) a0 a1):=by
 intro a0 a1 k;have ih0:=slices_Index_string_string.mono_l k
 unfold slices_Index_string_string.f
 repeat' first
   | (with_reducible exact ih0 _ _ _ _)
   | (with_reducible exact LeO.refl _)
   | (with_reducible exact LeO.none _)
   | (with_reducible refine LeO.ite ?_ ?_)
   | (with_reducible refine LeO.bind ?_ (fun _=>?_))
   | exact ih0 _ _ _ _
   | exact LeO.none _
   | refine LeO.ite ?_ ?_
   | refine LeO.bind ?_ (fun _=>?_)
set_option maxHeartbeats 8000000 in
set_option maxRecDepth 100000 in
theorem slices_Index_string_string.calls (k : Nat) (A0 : Option Addr) (c0 : Nat) (l0 : List ByteArray) (a1 : ByteArray) (r : Int) (w : World) (hr0 : Kd.C Kd.string w A0 l0.length l0) (hc0 : l0.length ≤ c0) (h : slices_Index_string_string.f k l0 a1 = some r) :
  Calls Tryd.prog 48 #[.slice A0 l0.length c0,.string a1] w fun e w'=>e = .returned (.int .i64 r) ∧ Drawn0 w w':=by
 have HR0:=Aside0.mk hr0;have HC0:=Aside0.mk hc0;clear hr0 hc0;have H : (slices_Index_string_string.l0 k l0 a1 (l0.length : Int) 0) = some r:=h;clear h;have H':=Aside0.mk H;clear H;go_enter Tryd.func48,Tryd.ntmps48;go_wp2
 go_loopg [8] k (fun kq v8 w'=>∃ (x8_1 : Int),v8 = .int .i64 x8_1 ∧ Aside0 (slices_Index_string_string.l0 kq l0 a1 (l0.length : Int) x8_1 = some r) ∧ Aside0 (kq ≤ k) ∧ Drawn0 w w')
 case atStart=>exact ⟨(0),rr_,H',⟨Nat.le_refl _⟩,by repeat (first|exact Drawn0.refl _|apply Drawn0.step)⟩
 case round =>
  clear H';obtain ⟨x8_1,rfl,HA,HK1,⟨m1,rfl⟩⟩:=hrel
  cases gk with
  | zero=>exact absurd HA.out (by simp [slices_Index_string_string.l0])
  | succ k1 =>
   have H:=HA.out;clear HA
   simp only [slices_Index_string_string.l0] at H
   by_cases c3 : x8_1 < (l0.length : Int)
   ·rw [if_pos c3] at H
    have c3b0 : decide (x8_1 < (l0.length : Int)) = true:=decide_eq_true c3;clear c3
    by_cases c4 : 0 ≤ x8_1
    ·rw [if_pos c4] at H
     have c4b0 : decide (0 ≤ x8_1) = true:=decide_eq_true c4;clear c4
     by_cases c5 : x8_1 < (l0.length : Int)
     ·rw [if_pos c5] at H
      have c5b0 : decide (x8_1 < (l0.length : Int)) = true:=decide_eq_true c5;clear c5
      by_cases c6 : a1.toList = (rdOf ByteArray.empty l0 x8_1).toList
      ·rw [if_pos c6] at H
       have c6b0 : (a1.toList == (rdOf ByteArray.empty l0 x8_1).toList) = true:=beq_iff_eq.mpr c6;have c6b1 : (a1.toList != (rdOf ByteArray.empty l0 x8_1).toList) = false:=bne_eq_false_iff_eq.mpr c6;clear c6;obtain rfl:=Option.some.inj H;have p171 : 0 ≤ (x8_1 : Int):=of_decide_eq_true aa_;have q171 : x8_1 < (l0.length : Int):=of_decide_eq_true aa_;obtain ⟨ad171,e171,hx171_0⟩:=Kd.at_string HR0.out x8_1 p171 q171;cases e171;replace p171:=eq_true p171;replace q171:=eq_true q171;go_wp2
       go_ret;exact ⟨by first|rfl|(simp;done)|(simp [*];done),by repeat (first|exact Drawn0.refl _|apply Drawn0.step)⟩
      rw [if_neg c6] at H
      have c6b0 : (a1.toList == (rdOf ByteArray.empty l0 x8_1).toList) = false:=beq_eq_false_iff_ne.mpr c6;have c6b1 : (a1.toList != (rdOf ByteArray.empty l0 x8_1).toList) = true:=bne_iff_ne.mpr c6;have H':=Aside0.mk H;clear H;have p171 : 0 ≤ (x8_1 : Int):=of_decide_eq_true aa_;have q171 : x8_1 < (l0.length : Int):=of_decide_eq_true aa_;obtain ⟨ad171,e171,hx171_0⟩:=Kd.at_string HR0.out x8_1 p171 q171;cases e171;replace p171:=eq_true p171;replace q171:=eq_true q171;go_wp2
      go_roundg k1
      case measure=>have:=HK1.out;omega
      case rel=>exact ⟨(wrap64 (x8_1 + 1)),rr_,(by first|exact H'|(subst_vars;exact H')),⟨by have:=HK1.out;omega⟩,by repeat (first|exact Drawn0.refl _|apply Drawn0.step)⟩
     rw [if_neg c5] at H
     exact absurd H (by simp)
    rw [if_neg c4] at H
    exact absurd H (by simp)
   rw [if_neg c3] at H
   have c3b0 : decide (x8_1 < (l0.length : Int)) = false:=decide_eq_false c3;clear c3;obtain rfl:=Option.some.inj H;go_wp2
   go_ret;exact ⟨by first|rfl|(simp;done)|(simp [*];done),by repeat (first|exact Drawn0.refl _|apply Drawn0.step)⟩
mutual
def tree_copied.l0 : Nat → List (S25) → Int → Int → Int → Bool → ByteArray → ByteArray → List ByteArray → List (S25) → Option (Int × Bool × ByteArray × ByteArray × List ByteArray × (List (S25)))
 | 0,_,_,_,_,_,_,_,_,_=>none
 | k + 1,x13,x14,x15,x173000,x173001,x173002,x173003,x173004,x173005=>if x15 < x14 then (if 0 ≤ x15 then (if x15 < (x13.length : Int) then ((tree_copied.f k ((rd_T25 x13 x15).f0) ((rd_T25 x13 x15).f1) ((rd_T25 x13 x15).f2) ((rd_T25 x13 x15).f3) ((rd_T25 x13 x15).f4) ((rd_T25 x13 x15).f5)).bind fun bt179=>(if x173005.length < 1466015503701 then (tree_copied.l0 k x13 x14 (wrap64 (x15 + 1)) x173000 x173001 x173002 x173003 x173004 (x173005 ++ [(⟨bt179.1,bt179.2.1,bt179.2.2.1,bt179.2.2.2.1,bt179.2.2.2.2.1,bt179.2.2.2.2.2⟩ : S25)])) else (none))) else (none)) else (none)) else (some (x173000,x173001,x173002,x173003,x173004,x173005))
def tree_copied.f : Nat → Int → Bool → ByteArray → ByteArray → List ByteArray → List (S25) → Option (Int × Bool × ByteArray × ByteArray × List ByteArray × (List (S25)))
 | 0,_,_,_,_,_,_=>none
 | k + 1,a0_0,a0_1,a0_2,a0_3,l0_4,l0_5=>if ([] : List ByteArray).length + l0_4.length < 8796093022208 then (tree_copied.l0 k l0_5 (l0_5.length : Int) 0 a0_0 a0_1 a0_2 a0_3 (([] : List ByteArray) ++ l0_4) ([] : List (S25))) else (none)
end
theorem tree_copied.mono_l : ∀ k,(∀ y0 y1 y2 y3 y4 y5,LeO (tree_copied.f k y0 y1 y2 y3 y4 y5) (tree_copied.f (k + 1) y0 y1 y2 y3 y4 y5)) ∧ (∀ y0 y1 y2 y3 y4 y5 y6 y7 y8,LeO (tree_copied.l0 k y0 y1 y2 y3 y4 y5 y6 y7 y8) (tree_copied.l0 (k + 1) y0 y1 y2 y3 y4 y5 y6 y7 y8))
 | 0=>⟨fun _ _ _ _ _ _ r h=>by simp [tree_copied.f] at h,fun _ _ _ _ _ _ _ _ _ r h=>by simp [tree_copied.l0] at h⟩
 | k + 1=>by
  obtain ⟨ih0,ih1⟩:=tree_copied.mono_l k;refine ⟨?_,?_⟩
  ·intro y0 y1 y2 y3 y4 y5
   unfold tree_copied.f
   repeat' first
   | (with_reducible exact ih0 _ _ _ _ _ _)
   | (with_reducible exact ih1 _ _ _ _ _ _ _ _ _)
   | (with_reducible exact LeO.refl _)
   | (with_reducible exact LeO.none _)
   | (with_reducible refine LeO.ite ?_ ?_)
   | (with_reducible refine LeO.bind ?_ (fun _=>?_))
   | exact ih0 _ _ _ _ _ _
   | exact ih1 _ _ _ _ _ _ _ _ _
   | exact LeO.none _
   | refine LeO.ite ?_ ?_
   | refine LeO.bind ?_ (fun _=>?_)
  intro y0 y1 y2 y3 y4 y5 y6 y7 y8
  unfold tree_copied.l0
  repeat' first
  | (with_reducible exact ih0 _ _ _ _ _ _)
  | (with_reducible exact ih1 _ _ _ _ _ _ _ _ _)
  | (with_reducible exact LeO.refl _)
  | (with_reducible exact LeO.none _)
  | (with_reducible refine LeO.ite ?_ ?_)
  | (with_reducible refine LeO.bind ?_ (fun _=>?_))
  | exact ih0 _ _ _ _ _ _
  | exact ih1 _ _ _ _ _ _ _ _ _
  | exact LeO.none _
  | refine LeO.ite ?_ ?_
  | refine LeO.bind ?_ (fun _=>?_)
theorem tree_copied.mono : ∀ a0 a1 a2 a3 a4 a5 k,LeO (tree_copied.f k a0 a1 a2 a3 a4 a5) (tree_copied.f (k + 1) a0 a1 a2 a3 a4 a5):=by
 intro a0 a1 a2 a3 a4 a5 k;obtain ⟨ih0,ih1⟩:=tree_copied.mono_l k;exact ih0 a0 a1 a2 a3 a4 a5
def tree_copied.T7 : Bool × List (List Nat × List Nat):=(true,[([],[]),([0],[0]),([],[]),([2],[2]),([3],[3]),([1,4,3],[1,4]),([0,1,2,3,4,5],[]),([6,5,5,0,1,2,3,4,5],[5,6])])
def tree_copied.B7 : List Nat:=[0,1,0,4,12,31,63,127]
theorem tree_copied.tab7 : rtab .any (opsOf Tryd.f49 7) = tree_copied.T7:=by kernel_rfl
theorem tree_copied.bits7 : waitsOk tree_copied.T7.2 tree_copied.B7 = true:=by kernel_rfl
set_option maxHeartbeats 8000000 in
set_option maxRecDepth 100000 in
theorem tree_copied.calls (k : Nat) : ∀ (a0_0 : Int) (a0_1 : Bool) (a0_2 : ByteArray) (a0_3 : ByteArray) (A0_4 : Option Addr) (c0_4 : Nat) (l0_4 : List ByteArray) (A0_5 : Option Addr) (c0_5 : Nat) (l0_5 : List (S25)) (r1 : Int) (r2 : Bool) (r3 : ByteArray) (r4 : ByteArray) (r5 : List ByteArray) (r6 : List (S25)) (w : World) (hr0_4 : Kd.C Kd.string w A0_4 l0_4.length l0_4) (hc0_4 : l0_4.length ≤ c0_4) (hr0_5 : Kd.C k25 w A0_5 l0_5.length l0_5) (hc0_5 : l0_5.length ≤ c0_5) (h : tree_copied.f k a0_0 a0_1 a0_2 a0_3 l0_4 l0_5 = some (r1,r2,r3,r4,r5,r6)),
  Calls Tryd.prog 49 #[.agg #[.int .i64 a0_0,.bool a0_1,.string a0_2,.string a0_3,.slice A0_4 l0_4.length c0_4,.slice A0_5 l0_5.length c0_5]] w fun e w'=>∃ v4_ v5_ : Value,e = .returned (.agg #[.int .i64 r1,.bool r2,.string r3,.string r4,v4_,v5_]) ∧ Kd.R Kd.string 9 w' w.heap.size (fun _=>True) v4_ r5 ∧ Kd.R k25 25 w' w.heap.size (fun k_=>some k_ ≠ (v4_ : Value).ownBlock) v5_ r6 ∧ Below w.heap.size w w':=by
 induction k using Nat.strongRecOn with
 | _ k ih =>
 intro a0_0 a0_1 a0_2 a0_3 A0_4 c0_4 l0_4 A0_5 c0_5 l0_5 r1 r2 r3 r4 r5 r6 w hr0_4 hc0_4 hr0_5 hc0_5 h
 cases k with
 | zero=>exact absurd h (by simp [tree_copied.f])
 | succ k =>
 simp only [tree_copied.f] at h
 have hu25:=Tryd.underlying25;have HR0_4:=Aside0.mk hr0_4;have HC0_4:=Aside0.mk hc0_4;clear hr0_4 hc0_4;have HR0_5:=Aside0.mk hr0_5;have HC0_5:=Aside0.mk hc0_5;clear hr0_5 hc0_5;have HB:=Aside0.mk (Below.refl w.heap.size w);have H : (if ([] : List ByteArray).length + l0_4.length < 8796093022208 then (tree_copied.l0 k l0_5 (l0_5.length : Int) 0 a0_0 a0_1 a0_2 a0_3 (([] : List ByteArray) ++ l0_4) ([] : List (S25))) else (none)) = some (r1,r2,r3,r4,r5,r6):=h;clear h
 by_cases c2 : ([] : List ByteArray).length + l0_4.length < 8796093022208
 ·rw [if_pos c2] at H
  have LMc2:=Aside0.mk c2;clear c2
  obtain ⟨y174,hy174⟩ : ∃ y_ : List ByteArray,y_ = (([] : List ByteArray) ++ l0_4):=⟨_,rfl⟩
  replace H : (tree_copied.l0 k l0_5 (l0_5.length : Int) 0 a0_0 a0_1 a0_2 a0_3 y174 ([] : List (S25))) = some (r1,r2,r3,r4,r5,r6):=by first|(rw [hy174];with_reducible exact H)|(have H2_:=(Option.bind_some _ _).symm.trans H;rw [hy174];with_reducible exact H2_)|(have H2_:=(Option.bind_some _ _).symm.trans H;with_reducible exact H2_)|with_reducible exact H|(rw [hy174];exact H)|exact H
  have Ny174:=Aside0.mk hy174;clear hy174;have H':=Aside0.mk H;clear H;go_enter Tryd.func49,Tryd.ntmps49
  go_wp2_with (first|((with_reducible refine gate_dst (N:=1) rfl ?_);refine box_event ?hg (N:=1) ?hd (cs:=#[.int .i64 a0_0,.bool a0_1,.string a0_2,.string a0_3,.slice A0_4 l0_4.length c0_4,.slice A0_5 l0_5.length c0_5]) (t:=25) ?hr ?_;(case hd=>rfl);(case hg=>rfl);(case hr=>first|(go_simp;done)|(go_simp;rfl));intro gb172 hg w3 hbox hb;have n_:=J_ (below_step (hb_ HB) hb) (J_ (hbox) (J_ (bs_ hg HB) (Aside0.mk (bs_ hg HB))));clear HB;obtain ⟨HB,BK172,GW172,GE172⟩:=n_;clear hb hbox hg)|((with_reducible refine gate_dst (N:=2) rfl ?_);refine box_event ?hg (N:=2) ?hd (cs:=#[.int .i64 0,.bool false,.string (⟨#[]⟩ : ByteArray),.string (⟨#[]⟩ : ByteArray),.slice none 0 0,.slice none 0 0]) (t:=25) ?hr ?_;(case hd=>rfl);(case hg=>rfl);(case hr=>first|(go_simp;done)|(go_simp;rfl));intro gb173 hg w4 hbox hb;have n_:=J_ (bkb_ BK172 hb) (J_ (below_step (hb_ HB) hb) (J_ (hbox) (J_ (bs_ hg HB) (J_ (bs_ hg HB) (J_ ((by rw [hg];exact Nat.ne_of_lt (bkl_ BK172) : gb172 ≠ gb173)) (Aside0.mk ((by rw [hg];exact Nat.ne_of_gt (bkl_ BK172) : gb173 ≠ gb172))))))));clear BK172 HB;obtain ⟨BK172,HB,BK173,GW173,GE173,NB172_173,NB173_172⟩:=n_;clear hb hbox hg;have hnb5:=NB172_173.out;have hnc5:=NB173_172.out;obtain ⟨hcz6_0,hcz6_1,hcz6_2,hcz6_3,hcz6_4,hcz6_5,hfz6_0,hfz6_1,hfz6_2,hfz6_3,hfz6_4,hfz6_5⟩:=cf6_ BK172)|((with_reducible refine gate_builtin (b:=.append) (xs:=#[.const (.slice none 0 0),.tmp 7]) rfl ?_);at_builtin;refine Kd.R_append_rows Kd.string (w0:=w) w.heap.size rfl (.const (.slice none 0 0)) (.tmp 7) 22 9 (.string ⟨#[]⟩) 16 rfl Tryd.underlying22 info9 rfl (by decide) (by omega) (.slice none 0 0) ([] : List ByteArray) l0_4 _ _ _ (fun _=>True) (fun _=>False) rfl rfl ?aO ?aR (fun _ _ h=>h) (fun _ h=>h.elim) ?aF ?aB ?aS ?aL ?_;(case aR=>repeat (first|exact (Kd.C_below HR0_4.out HB.out)|(with_reducible refine Kd.C_alloc ?_ _)|(with_reducible refine Kd.C_drewN ?_ _)|(with_reducible refine Kd.C_drew ?_)));(case aB=>exact (hb_ HB));(case aF=>exact (fun _ _=>trivial));(case aO=>exact ((Kd.R_nil _ _ _ _ (fun _=>True))));(case aS=>exact (below_size (hb_ HB)));(case aL=>have:=LMc2.out;first|omega|exact Nat.le_of_lt this);intro v175 w7 ho hb hg hat;rw [← Ny174.out] at ho;have n_:=J_ (blk_grown (g:=gb172) (o:=.cells #[.int .i64 a0_0,.bool a0_1,.string a0_2,.string a0_3,.slice A0_4 l0_4.length c0_4,.slice A0_5 l0_5.length c0_5] 25 (0,0)) (bk_ BK172) hg (by simp [Value.ownBlock])) (J_ (blk_grown (g:=gb173) (o:=.cells #[.int .i64 0,.bool false,.string (⟨#[]⟩ : ByteArray),.string (⟨#[]⟩ : ByteArray),.slice none 0 0,.slice none 0 0] 25 (0,0)) (bk_ BK173) hg (by simp [Value.ownBlock])) (J_ (hb) (Aside0.mk (ho))));clear BK172 BK173 HB;obtain ⟨BK172,BK173,HB,HO176⟩:=n_;clear ho hb hg hat;obtain ⟨Ao8,co8,eo8⟩:=Kd.R_slice HO176.out;subst eo8;obtain ⟨hcz9_0,hcz9_1,hcz9_2,hcz9_3,hcz9_4,hcz9_5,hfz9_0,hfz9_1,hfz9_2,hfz9_3,hfz9_4,hfz9_5⟩:=cf6_ BK172))
  go_loopg [15] k (fun kq v15 w'=>∃ (x15_1 : Int) (x173005_1 : List (S25)) (u173005 : Value),v15 = .int .i64 x15_1 ∧ Aside0 (tree_copied.l0 kq l0_5 (l0_5.length : Int) x15_1 a0_0 a0_1 a0_2 a0_3 y174 x173005_1 = some (r1,r2,r3,r4,r5,r6)) ∧ Aside0 (kq ≤ k) ∧ Aside0 (Kd.R Kd.string 9 w' w.heap.size (fun _=>True) (.slice Ao8 y174.length co8) y174) ∧ Aside0 (Kd.R k25 25 w' w.heap.size (fun k_=>some k_ ≠ ((.slice Ao8 y174.length co8) : Value).ownBlock ∧ k_ ≠ gb172 ∧ k_ ≠ gb173) u173005 x173005_1) ∧ Aside0 (w'.heap[gb172]? = some (.cells #[.int .i64 a0_0,.bool a0_1,.string a0_2,.string a0_3,(.slice Ao8 y174.length co8),u173005] 25 (0,0))) ∧ Aside0 (w'.heap[gb173]? = some (.cells #[.int .i64 0,.bool false,.string (⟨#[]⟩ : ByteArray),.string (⟨#[]⟩ : ByteArray),(.slice none 0 0),(.slice none 0 0)] 25 (0,0))) ∧ Aside0 (Below w.heap.size w w'))
  case atStart=>exact ⟨(0),(([] : List (S25))),(.slice none 0 0),rr_,H',⟨Nat.le_refl _⟩,⟨by (with_reducible repeat (first|apply Kd.R_alloc|apply Kd.R_drewN|apply Kd.R_drew));exact Kd.R_mono (Kd.R_far (p:=⟨gb172,5,none⟩) (Kd.R_far (p:=⟨gb172,4,none⟩) (Kd.R_types HO176.out BK172.out (by decide)) (fun _ hk=>hk.2) (.slice Ao8 y174.length co8)) (fun _ hk=>hk.2) (.slice none 0 0)) (fun _ hk=>trivial)⟩,⟨by first|exact Kd.R_nil _ _ _ _ _|exact Kd.N_nil _ _ _ _ _|exact Kd.V_nil _ _ _ _ _|exact Kd.Q_nil _ _ _ _ _|exact Kd.S_nil _ _ _ _ _⟩,⟨by (with_reducible repeat (first|refine blk_drewN ?_ _|refine blk_drew ?_|refine blk_alloc ?_ _));refine bp_ (cs:=#[.int .i64 a0_0,.bool a0_1,.string a0_2,.string a0_3,.slice Ao8 y174.length co8,.slice A0_5 l0_5.length c0_5]) ?_ 5 _;refine bp_ (cs:=#[.int .i64 a0_0,.bool a0_1,.string a0_2,.string a0_3,.slice A0_4 l0_4.length c0_4,.slice A0_5 l0_5.length c0_5]) ?_ 4 _;(with_reducible repeat (first|refine blk_drewN ?_ _|refine blk_drew ?_|refine blk_alloc ?_ _));exact BK172.out⟩,⟨(bf_ NB173_172 BK173)⟩,⟨(hb_ HB)⟩⟩
  case round =>
   clear H'
   try clear BK172
   try clear BK173
   try clear HB
   obtain ⟨x15_1,x173005_1,u173005,rfl,HA,HK1,HO_173004,HO_173005,BK172,BK173,HB⟩:=hrel
   cases gk with
   | zero=>exact absurd HA.out (by simp [tree_copied.l0])
   | succ k1 =>
    have H:=HA.out;clear HA
    simp only [tree_copied.l0] at H
    by_cases c10 : x15_1 < (l0_5.length : Int)
    ·rw [if_pos c10] at H
     have c10b0 : decide (x15_1 < (l0_5.length : Int)) = true:=decide_eq_true c10;clear c10
     by_cases c11 : 0 ≤ x15_1
     ·rw [if_pos c11] at H
      have c11b0 : decide (0 ≤ x15_1) = true:=decide_eq_true c11;clear c11
      by_cases c12 : x15_1 < (l0_5.length : Int)
      ·rw [if_pos c12] at H
       have c12b0 : decide (x15_1 < (l0_5.length : Int)) = true:=decide_eq_true c12;clear c12;replace H:=Option.bind_eq_some_iff.mp H;obtain ⟨⟨t179,t180,t181,t182,t183,t186⟩,A130,H⟩:=H;replace H : (if x173005_1.length < 1466015503701 then (tree_copied.l0 k1 l0_5 (l0_5.length : Int) (wrap64 (x15_1 + 1)) a0_0 a0_1 a0_2 a0_3 y174 (x173005_1 ++ [(⟨t179,t180,t181,t182,t183,t186⟩ : S25)])) else (none)) = some (r1,r2,r3,r4,r5,r6):=H;have A13:=Aside0.mk A130;clear A130
       by_cases c14 : x173005_1.length < 1466015503701
       ·rw [if_pos c14] at H
        have LMc14:=Aside0.mk c14;clear c14
        obtain ⟨y189,hy189⟩ : ∃ y_ : List (S25),y_ = (x173005_1 ++ [(⟨t179,t180,t181,t182,t183,t186⟩ : S25)]):=⟨_,rfl⟩
        replace H : (tree_copied.l0 k1 l0_5 (l0_5.length : Int) (wrap64 (x15_1 + 1)) a0_0 a0_1 a0_2 a0_3 y174 y189) = some (r1,r2,r3,r4,r5,r6):=by first|(rw [hy189];with_reducible exact H)|(have H2_:=(Option.bind_some _ _).symm.trans H;rw [hy189];with_reducible exact H2_)|(have H2_:=(Option.bind_some _ _).symm.trans H;with_reducible exact H2_)|with_reducible exact H|(rw [hy189];exact H)|exact H
        have Ny189:=Aside0.mk hy189;clear hy189;have H':=Aside0.mk H;clear H;have p177 : 0 ≤ (x15_1 : Int):=of_decide_eq_true aa_;have q177 : x15_1 < (l0_5.length : Int):=of_decide_eq_true aa_;obtain ⟨ad177,A177_4,c177_4,A177_5,c177_5,e177,hx177_0,hx177_1,hx177_2,hx177_3,hx177_4,hx177_5,hl177_4,hi177_4,hl177_5,hi177_5⟩:=at_T25 HR0_5.out x15_1 p177 q177;cases e177;replace hx177_0:=(HB.out.cell (World.block_lt_of_cell? w _ hx177_0)).trans hx177_0;replace hx177_1:=(HB.out.cell (World.block_lt_of_cell? w _ hx177_1)).trans hx177_1;replace hx177_2:=(HB.out.cell (World.block_lt_of_cell? w _ hx177_2)).trans hx177_2;replace hx177_3:=(HB.out.cell (World.block_lt_of_cell? w _ hx177_3)).trans hx177_3;replace hx177_4:=(HB.out.cell (World.block_lt_of_cell? w _ hx177_4)).trans hx177_4;replace hx177_5:=(HB.out.cell (World.block_lt_of_cell? w _ hx177_5)).trans hx177_5;have HR177_4:=Aside0.mk hi177_4;have HC177_4:=Aside0.mk hl177_4;clear hi177_4 hl177_4;have HR177_5:=Aside0.mk hi177_5;have HC177_5:=Aside0.mk hl177_5;clear hi177_5 hl177_5;replace p177:=eq_true p177;replace q177:=eq_true q177
        try go_wp2_with (first|((with_reducible refine gate_dst (N:=5) rfl ?_);refine box_event ?hg (N:=5) ?hd (cs:=#[.int .i64 0,.bool false,.string (⟨#[]⟩ : ByteArray),.string (⟨#[]⟩ : ByteArray),.slice none 0 0,.slice none 0 0]) (t:=25) ?hr ?_;(case hd=>rfl);(case hg=>rfl);(case hr=>first|(go_simp;done)|(go_simp;rfl));intro gb178 hg w15 hbox hb;have n_:=J_ (Kd.R_below (rk_ HO_173004) hb) (J_ (Kd.R_below (Kd.R_elderB (rk_ HO_173005) gb178 (Nat.le_of_eq hg.symm)) hb) (J_ (bkb_ BK172 hb) (J_ (bkb_ BK173 hb) (J_ (below_step (hb_ HB) hb) (J_ (hbox) (J_ (bs_ hg HB) (J_ (bs_ hg HB) (J_ ((by rw [hg];exact Nat.ne_of_lt (bkl_ BK172) : gb172 ≠ gb178)) (J_ ((by rw [hg];exact Nat.ne_of_gt (bkl_ BK172) : gb178 ≠ gb172)) (J_ ((by rw [hg];exact Nat.ne_of_lt (bkl_ BK173) : gb173 ≠ gb178)) (Aside0.mk ((by rw [hg];exact Nat.ne_of_gt (bkl_ BK173) : gb178 ≠ gb173)))))))))))));clear HO_173004 HO_173005 BK172 BK173 HB;obtain ⟨HO_173004,HO_173005,BK172,BK173,HB,BK178,GW178,GE178,NB172_178,NB178_172,NB173_178,NB178_173⟩:=n_;clear hb hbox hg;have hnb16:=NB178_172.out;have hnc16:=NB172_178.out;have hnb17:=NB178_173.out;have hnc17:=NB173_178.out;obtain ⟨hcz18_0,hcz18_1,hcz18_2,hcz18_3,hcz18_4,hcz18_5,hfz18_0,hfz18_1,hfz18_2,hfz18_3,hfz18_4,hfz18_5⟩:=cf6_ BK178))
        have n0_ : Aside0 (Kd.R Kd.string 9 ((((((w15.setCell ⟨gb178,0,none⟩ (.int .i64 ((rd_T25 l0_5 x15_1).f0))).setCell ⟨gb178,1,none⟩ (.bool ((rd_T25 l0_5 x15_1).f1))).setCell ⟨gb178,2,none⟩ (.string ((rd_T25 l0_5 x15_1).f2))).setCell ⟨gb178,3,none⟩ (.string ((rd_T25 l0_5 x15_1).f3))).setCell ⟨gb178,4,none⟩ (.slice A177_4 ((rd_T25 l0_5 x15_1).f4).length c177_4)).setCell ⟨gb178,5,none⟩ (.slice A177_5 ((rd_T25 l0_5 x15_1).f5).length c177_5)) w.heap.size (fun _=>True) (.slice Ao8 y174.length co8) y174):=⟨by (with_reducible repeat (first|apply Kd.R_alloc|apply Kd.R_drewN|apply Kd.R_drew));exact Kd.R_mono (Kd.R_far (p:=⟨gb178,5,none⟩) (Kd.R_far (p:=⟨gb178,4,none⟩) (Kd.R_far (p:=⟨gb178,3,none⟩) (Kd.R_far (p:=⟨gb178,2,none⟩) (Kd.R_far (p:=⟨gb178,1,none⟩) (Kd.R_far (p:=⟨gb178,0,none⟩) (Kd.R_types HO_173004.out BK178.out (by decide)) (fun _ hk=>hk.2) (.int .i64 ((rd_T25 l0_5 x15_1).f0))) (fun _ hk=>hk.2) (.bool ((rd_T25 l0_5 x15_1).f1))) (fun _ hk=>hk.2) (.string ((rd_T25 l0_5 x15_1).f2))) (fun _ hk=>hk.2) (.string ((rd_T25 l0_5 x15_1).f3))) (fun _ hk=>hk.2) (.slice A177_4 ((rd_T25 l0_5 x15_1).f4).length c177_4)) (fun _ hk=>hk.2) (.slice A177_5 ((rd_T25 l0_5 x15_1).f5).length c177_5)) (fun _ hk=>trivial)⟩;have n1_ : Aside0 (Kd.R k25 25 ((((((w15.setCell ⟨gb178,0,none⟩ (.int .i64 ((rd_T25 l0_5 x15_1).f0))).setCell ⟨gb178,1,none⟩ (.bool ((rd_T25 l0_5 x15_1).f1))).setCell ⟨gb178,2,none⟩ (.string ((rd_T25 l0_5 x15_1).f2))).setCell ⟨gb178,3,none⟩ (.string ((rd_T25 l0_5 x15_1).f3))).setCell ⟨gb178,4,none⟩ (.slice A177_4 ((rd_T25 l0_5 x15_1).f4).length c177_4)).setCell ⟨gb178,5,none⟩ (.slice A177_5 ((rd_T25 l0_5 x15_1).f5).length c177_5)) w.heap.size (fun k_=>some k_ ≠ (.slice Ao8 y174.length co8 : Value).ownBlock ∧ k_ ≠ gb172 ∧ k_ ≠ gb173 ∧ k_ ≠ gb178) u173005 x173005_1):=⟨by (with_reducible repeat (first|apply Kd.R_alloc|apply Kd.R_drewN|apply Kd.R_drew));exact Kd.R_mono (Kd.R_far (p:=⟨gb178,5,none⟩) (Kd.R_far (p:=⟨gb178,4,none⟩) (Kd.R_far (p:=⟨gb178,3,none⟩) (Kd.R_far (p:=⟨gb178,2,none⟩) (Kd.R_far (p:=⟨gb178,1,none⟩) (Kd.R_far (p:=⟨gb178,0,none⟩) (Kd.R_mono HO_173005.out (fun k_ hk=>(⟨hk,hk.2⟩ : _ ∧ k_ ≠ gb178))) (fun _ hk=>hk.2) (.int .i64 ((rd_T25 l0_5 x15_1).f0))) (fun _ hk=>hk.2) (.bool ((rd_T25 l0_5 x15_1).f1))) (fun _ hk=>hk.2) (.string ((rd_T25 l0_5 x15_1).f2))) (fun _ hk=>hk.2) (.string ((rd_T25 l0_5 x15_1).f3))) (fun _ hk=>hk.2) (.slice A177_4 ((rd_T25 l0_5 x15_1).f4).length c177_4)) (fun _ hk=>hk.2) (.slice A177_5 ((rd_T25 l0_5 x15_1).f5).length c177_5)) (fun _ hk=>⟨hk.1.1.1,⟨hk.1.1.2.1,⟨hk.1.1.2.2,hk.1.2⟩⟩⟩)⟩
        have n2_ : Aside0 (((((((w15.setCell ⟨gb178,0,none⟩ (.int .i64 ((rd_T25 l0_5 x15_1).f0))).setCell ⟨gb178,1,none⟩ (.bool ((rd_T25 l0_5 x15_1).f1))).setCell ⟨gb178,2,none⟩ (.string ((rd_T25 l0_5 x15_1).f2))).setCell ⟨gb178,3,none⟩ (.string ((rd_T25 l0_5 x15_1).f3))).setCell ⟨gb178,4,none⟩ (.slice A177_4 ((rd_T25 l0_5 x15_1).f4).length c177_4)).setCell ⟨gb178,5,none⟩ (.slice A177_5 ((rd_T25 l0_5 x15_1).f5).length c177_5)).heap[gb172]? = some (.cells #[.int .i64 a0_0,.bool a0_1,.string a0_2,.string a0_3,.slice Ao8 y174.length co8,u173005] 25 (0,0))):=⟨(bf_ NB172_178 BK172)⟩;have n3_ : Aside0 (((((((w15.setCell ⟨gb178,0,none⟩ (.int .i64 ((rd_T25 l0_5 x15_1).f0))).setCell ⟨gb178,1,none⟩ (.bool ((rd_T25 l0_5 x15_1).f1))).setCell ⟨gb178,2,none⟩ (.string ((rd_T25 l0_5 x15_1).f2))).setCell ⟨gb178,3,none⟩ (.string ((rd_T25 l0_5 x15_1).f3))).setCell ⟨gb178,4,none⟩ (.slice A177_4 ((rd_T25 l0_5 x15_1).f4).length c177_4)).setCell ⟨gb178,5,none⟩ (.slice A177_5 ((rd_T25 l0_5 x15_1).f5).length c177_5)).heap[gb173]? = some (.cells #[.int .i64 0,.bool false,.string (⟨#[]⟩ : ByteArray),.string (⟨#[]⟩ : ByteArray),.slice none 0 0,.slice none 0 0] 25 (0,0))):=⟨(bf_ NB173_178 BK173)⟩;have n4_ : Aside0 (((((((w15.setCell ⟨gb178,0,none⟩ (.int .i64 ((rd_T25 l0_5 x15_1).f0))).setCell ⟨gb178,1,none⟩ (.bool ((rd_T25 l0_5 x15_1).f1))).setCell ⟨gb178,2,none⟩ (.string ((rd_T25 l0_5 x15_1).f2))).setCell ⟨gb178,3,none⟩ (.string ((rd_T25 l0_5 x15_1).f3))).setCell ⟨gb178,4,none⟩ (.slice A177_4 ((rd_T25 l0_5 x15_1).f4).length c177_4)).setCell ⟨gb178,5,none⟩ (.slice A177_5 ((rd_T25 l0_5 x15_1).f5).length c177_5)).heap[gb178]? = some (.cells #[.int .i64 ((rd_T25 l0_5 x15_1).f0),.bool ((rd_T25 l0_5 x15_1).f1),.string ((rd_T25 l0_5 x15_1).f2),.string ((rd_T25 l0_5 x15_1).f3),.slice A177_4 ((rd_T25 l0_5 x15_1).f4).length c177_4,.slice A177_5 ((rd_T25 l0_5 x15_1).f5).length c177_5] 25 (0,0))):=⟨by (with_reducible repeat (first|refine blk_drewN ?_ _|refine blk_drew ?_|refine blk_alloc ?_ _));refine bp_ (cs:=#[.int .i64 ((rd_T25 l0_5 x15_1).f0),.bool ((rd_T25 l0_5 x15_1).f1),.string ((rd_T25 l0_5 x15_1).f2),.string ((rd_T25 l0_5 x15_1).f3),.slice A177_4 ((rd_T25 l0_5 x15_1).f4).length c177_4,.slice none 0 0]) ?_ 5 _;refine bp_ (cs:=#[.int .i64 ((rd_T25 l0_5 x15_1).f0),.bool ((rd_T25 l0_5 x15_1).f1),.string ((rd_T25 l0_5 x15_1).f2),.string ((rd_T25 l0_5 x15_1).f3),.slice none 0 0,.slice none 0 0]) ?_ 4 _;refine bp_ (cs:=#[.int .i64 ((rd_T25 l0_5 x15_1).f0),.bool ((rd_T25 l0_5 x15_1).f1),.string ((rd_T25 l0_5 x15_1).f2),.string (⟨#[]⟩ : ByteArray),.slice none 0 0,.slice none 0 0]) ?_ 3 _;refine bp_ (cs:=#[.int .i64 ((rd_T25 l0_5 x15_1).f0),.bool ((rd_T25 l0_5 x15_1).f1),.string (⟨#[]⟩ : ByteArray),.string (⟨#[]⟩ : ByteArray),.slice none 0 0,.slice none 0 0]) ?_ 2 _;refine bp_ (cs:=#[.int .i64 ((rd_T25 l0_5 x15_1).f0),.bool false,.string (⟨#[]⟩ : ByteArray),.string (⟨#[]⟩ : ByteArray),.slice none 0 0,.slice none 0 0]) ?_ 1 _;refine bp_ (cs:=#[.int .i64 0,.bool false,.string (⟨#[]⟩ : ByteArray),.string (⟨#[]⟩ : ByteArray),.slice none 0 0,.slice none 0 0]) ?_ 0 _;(with_reducible repeat (first|refine blk_drewN ?_ _|refine blk_drew ?_|refine blk_alloc ?_ _));exact BK178.out⟩
        have n5_ : Aside0 (Below w.heap.size w ((((((w15.setCell ⟨gb178,0,none⟩ (.int .i64 ((rd_T25 l0_5 x15_1).f0))).setCell ⟨gb178,1,none⟩ (.bool ((rd_T25 l0_5 x15_1).f1))).setCell ⟨gb178,2,none⟩ (.string ((rd_T25 l0_5 x15_1).f2))).setCell ⟨gb178,3,none⟩ (.string ((rd_T25 l0_5 x15_1).f3))).setCell ⟨gb178,4,none⟩ (.slice A177_4 ((rd_T25 l0_5 x15_1).f4).length c177_4)).setCell ⟨gb178,5,none⟩ (.slice A177_5 ((rd_T25 l0_5 x15_1).f5).length c177_5))):=⟨(hb_ HB)⟩
        (try clear HO_173004)
        (try clear HO_173005)
        (try clear BK172)
        (try clear BK173)
        (try clear BK178)
        (try clear HB)
        generalize ((((((w15.setCell ⟨gb178,0,none⟩ (.int .i64 ((rd_T25 l0_5 x15_1).f0))).setCell ⟨gb178,1,none⟩ (.bool ((rd_T25 l0_5 x15_1).f1))).setCell ⟨gb178,2,none⟩ (.string ((rd_T25 l0_5 x15_1).f2))).setCell ⟨gb178,3,none⟩ (.string ((rd_T25 l0_5 x15_1).f3))).setCell ⟨gb178,4,none⟩ (.slice A177_4 ((rd_T25 l0_5 x15_1).f4).length c177_4)).setCell ⟨gb178,5,none⟩ (.slice A177_5 ((rd_T25 l0_5 x15_1).f5).length c177_5)) = w19 at n0_ n1_ n2_ n3_ n4_ n5_ ⊢
        have HO_173004:=n0_;have HO_173005:=n1_;have BK172:=n2_;have BK173:=n3_;have BK178:=n4_;have HB:=n5_;clear n0_ n1_ n2_ n3_ n4_ n5_;have n0_:=Aside0.mk (Kd.R_drew HO_173004.out);have n1_:=Aside0.mk (Kd.R_drew HO_173005.out);have n2_:=Aside0.mk (blk_drew BK172.out);have n3_:=Aside0.mk (blk_drew BK173.out);have n4_:=Aside0.mk (blk_drew BK178.out);have n5_:=Aside0.mk (below_drew1 HB.out);clear HO_173004;clear HO_173005;clear BK172;clear BK173;clear BK178;clear HB;have HO_173004:=n0_;have HO_173005:=n1_;have BK172:=n2_;have BK173:=n3_;have BK178:=n4_;have HB:=n5_;clear n0_ n1_ n2_ n3_ n4_ n5_;refine start_ (n:=8) (S:=fun w'=>w'.cell? ⟨gb172,0,none⟩ = some (.int .i64 a0_0) ∧ w'.cell? ⟨gb172,1,none⟩ = some (.bool a0_1) ∧ w'.cell? ⟨gb172,2,none⟩ = some (.string a0_2) ∧ w'.cell? ⟨gb172,3,none⟩ = some (.string a0_3) ∧ w'.cell? ⟨gb172,4,none⟩ = some (.slice Ao8 y174.length co8) ∧ w'.cell? ⟨gb172,5,none⟩ = some (u173005) ∧ w'.cell? ⟨gb178,0,none⟩ = some (.int .i64 ((rd_T25 l0_5 x15_1).f0)) ∧ w'.cell? ⟨gb178,1,none⟩ = some (.bool ((rd_T25 l0_5 x15_1).f1)) ∧ w'.cell? ⟨gb178,2,none⟩ = some (.string ((rd_T25 l0_5 x15_1).f2)) ∧ w'.cell? ⟨gb178,3,none⟩ = some (.string ((rd_T25 l0_5 x15_1).f3)) ∧ w'.cell? ⟨gb178,4,none⟩ = some (.slice A177_4 ((rd_T25 l0_5 x15_1).f4).length c177_4) ∧ w'.cell? ⟨gb178,5,none⟩ = some (.slice A177_5 ((rd_T25 l0_5 x15_1).f5).length c177_5)) (ds:=[7]) #[false,false,false,false,false,false,false,false] (by kernel_rfl) rfl rfl ⟨(blk_cell BK172.out 0).trans rfl,(blk_cell BK172.out 1).trans rfl,(blk_cell BK172.out 2).trans rfl,(blk_cell BK172.out 3).trans rfl,(blk_cell BK172.out 4).trans rfl,(blk_cell BK172.out 5).trans rfl,(blk_cell BK178.out 0).trans rfl,(blk_cell BK178.out 1).trans rfl,(blk_cell BK178.out 2).trans rfl,(blk_cell BK178.out 3).trans rfl,(blk_cell BK178.out 4).trans rfl,(blk_cell BK178.out 5).trans rfl⟩ (fun hHeld=>?_);refine with_tabW tree_copied.tab7 tree_copied.bits7 (fun HT_ HW_=>?_)
        generalize w19.drew = w20 at HO_173004 HO_173005 BK172 BK173 BK178 HB hHeld ⊢
        refine pure_ (i:=0) (N:=some 19) (v:=?_) (a':=?_) #[true,false,false,false,false,false,false,false] rfl rfl (any_of HT_.out (by kernel_rfl)) (fun _ _ _ h=>h) (Or.inl ⟨by rfl,?_⟩) ?_ ?_;rotate_left
        ·intro w';go_simp;with_reducible rfl
        rotate_left
        ·simp only [Act.put,List.setIfInBounds_toArray,List.set_cons_zero,List.set_cons_succ,i64_w,i32_w];rfl
        refine take_ (i:=1) (N:=some 20) (v:=?_) (a':=?_) #[true,true,false,false,false,false,false,false] rfl rfl (take_ofW HT_.out HW_.out (by kernel_rfl)) (fun _ _ _ h=>h) (Or.inl ⟨by rfl,?_⟩) hHeld ?_ ?_;rotate_left
        ·rintro w' ⟨s0,s1,s2,s3,s4,s5,s6,s7,s8,s9,s10,s11⟩;go_simp;with_reducible rfl
        rotate_left
        ·simp only [Act.put,List.setIfInBounds_toArray,List.set_cons_zero,List.set_cons_succ,i64_w,i32_w];rfl
        refine take_ (i:=2) (N:=some 21) (v:=?_) (a':=?_) #[true,true,true,false,false,false,false,false] rfl rfl (take_ofW HT_.out HW_.out (by kernel_rfl)) (fun _ _ _ h=>h) (Or.inl ⟨by rfl,?_⟩) hHeld ?_ ?_;rotate_left
        ·rintro w' ⟨s0,s1,s2,s3,s4,s5,s6,s7,s8,s9,s10,s11⟩;go_simp;with_reducible rfl
        rotate_left
        ·simp only [Act.put,List.setIfInBounds_toArray,List.set_cons_zero,List.set_cons_succ,i64_w,i32_w];rfl
        refine one_ (i:=3) (N:=some 22) #[true,true,true,true,false,false,false,false] rfl rfl (one_of HT_.out (by kernel_rfl)) (by decide) (fun K hK=>?_);refine goes_ Tryd.func49 (by kernel_rfl) rfl #[.agg #[.int .i64 ((rd_T25 l0_5 x15_1).f0),.bool ((rd_T25 l0_5 x15_1).f1),.string ((rd_T25 l0_5 x15_1).f2),.string ((rd_T25 l0_5 x15_1).f3),.slice A177_4 ((rd_T25 l0_5 x15_1).f4).length c177_4,.slice A177_5 ((rd_T25 l0_5 x15_1).f5).length c177_5]] (by rfl) rfl rfl am_ ?_
        with_reducible refine (ih k1 (by have:=HK1.out;omega) ((rd_T25 l0_5 x15_1).f0) ((rd_T25 l0_5 x15_1).f1) ((rd_T25 l0_5 x15_1).f2) ((rd_T25 l0_5 x15_1).f3) _ _ ((rd_T25 l0_5 x15_1).f4) _ _ ((rd_T25 l0_5 x15_1).f5) t179 t180 t181 t182 t183 t186 _ ?side1 ?side2 ?side3 ?side4 A13.out).mono ?_
        (case side1=>repeat (first|exact (Kd.C_below HR177_4.out HB.out)|(with_reducible refine Kd.C_alloc ?_ _)|(with_reducible refine Kd.C_drewN ?_ _)|(with_reducible refine Kd.C_drew ?_)))
        (case side2=>exact HC177_4.out)
        (case side3=>repeat (first|exact (Kd.C_below HR177_5.out HB.out)|(with_reducible refine Kd.C_alloc ?_ _)|(with_reducible refine Kd.C_drewN ?_ _)|(with_reducible refine Kd.C_drew ?_)))
        (case side4=>exact HC177_5.out)
        rintro e w21 ⟨v184,v187,rfl,ho0,ho1,hb⟩;refine ⟨_,rfl,?_⟩;have n0_:=Aside0.mk (Kd.R_elder' (rk_ HO_173004) (Kd.R_base ho0) hb);have n1_:=Aside0.mk (Kd.R_mono (Kd.R_told (Kd.R_told (Kd.R_old (rk_ HO_173005) hb) (Kd.R_base ho0)) (Kd.R_base ho1)) (fun _ h_=>h_.1));have n2_:=Aside0.mk (Kd.R_lower (Kd.R_new' ho0 (Kd.R_lt (rk_ HO_173004))) (below_size (hb_ HB)));have n3_:=Aside0.mk (Kd.R_lower (Kd.R_newB (Kd.R_newB (Kd.R_newB (Kd.R_new' (Kd.R_new' ho1 (Kd.R_lt (rk_ HO_173004))) (Kd.R_lt (rk_ HO_173005))) (g:=gb172) (o:=.cells #[.int .i64 a0_0,.bool a0_1,.string a0_2,.string a0_3,.slice Ao8 y174.length co8,u173005] 25 (0,0)) (bk_ BK172)) (g:=gb173) (o:=.cells #[.int .i64 0,.bool false,.string (⟨#[]⟩ : ByteArray),.string (⟨#[]⟩ : ByteArray),.slice none 0 0,.slice none 0 0] 25 (0,0)) (bk_ BK173)) (g:=gb178) (o:=.cells #[.int .i64 ((rd_T25 l0_5 x15_1).f0),.bool ((rd_T25 l0_5 x15_1).f1),.string ((rd_T25 l0_5 x15_1).f2),.string ((rd_T25 l0_5 x15_1).f3),.slice A177_4 ((rd_T25 l0_5 x15_1).f4).length c177_4,.slice A177_5 ((rd_T25 l0_5 x15_1).f5).length c177_5] 25 (0,0)) (bk_ BK178)) (below_size (hb_ HB)));have n4_:=Aside0.mk (bkb_ BK172 hb);have n5_:=Aside0.mk (bkb_ BK173 hb);have n6_:=Aside0.mk (bkb_ BK178 hb);have n7_:=Aside0.mk (below_step (hb_ HB) hb);clear HO_173004;clear HO_173005;clear BK172;clear BK173;clear BK178;clear HB;have HO_173004:=n0_;have HO_173005:=n1_;have HO185:=n2_;have HO188:=n3_;have BK172:=n4_;have BK173:=n5_;have BK178:=n6_;have HB:=n7_;clear n0_ n1_ n2_ n3_ n4_ n5_ n6_ n7_
        (try clear hb)
        (try clear hb2)
        (try clear hk)
        (try clear hi)
        (try clear ho0)
        (try clear ho1)
        obtain ⟨Ao23,co23,eo23⟩:=Kd.R_slice HO185.out
        (first|subst eo23|(injection eo23 with f1_ f2_ f3_;have f4_:=f1_.symm;have f5_:=f3_.symm;clear f1_ f2_ f3_;subst f4_;subst f5_))
        obtain ⟨Ao24,co24,eo24⟩:=Kd.R_slice HO188.out
        (first|subst eo24|(injection eo24 with f1_ f2_ f3_;have f4_:=f1_.symm;have f5_:=f3_.symm;clear f1_ f2_ f3_;subst f4_;subst f5_))
        refine hK.out _ _ ⟨(blk_cell BK172.out 0).trans rfl,(blk_cell BK172.out 1).trans rfl,(blk_cell BK172.out 2).trans rfl,(blk_cell BK172.out 3).trans rfl,(blk_cell BK172.out 4).trans rfl,(blk_cell BK172.out 5).trans rfl,(blk_cell BK178.out 0).trans rfl,(blk_cell BK178.out 1).trans rfl,(blk_cell BK178.out 2).trans rfl,(blk_cell BK178.out 3).trans rfl,(blk_cell BK178.out 4).trans rfl,(blk_cell BK178.out 5).trans rfl⟩ (fun hHeld=>?_);clear hK K;refine norm_ (a':=?_) ?_ ?_;rotate_left
        ·show Act.put _ (some 22) _ = _
         simp only [Act.put,List.setIfInBounds_toArray,List.set_cons_zero,List.set_cons_succ,i64_w,i32_w];rfl
        refine one_ (i:=4) (N:=some 23) #[true,true,true,true,true,false,false,false] rfl rfl (one_of HT_.out (by kernel_rfl)) (by decide) (fun K hK=>?_);refine value_ (w1:=?_) (v:=?_) (by rfl) rfl ?_ ?_;rotate_left 2
        ·go_simp
         constructor
         ·rfl
         rfl
        refine hK.out _ _ ⟨(blk_cell (blk_alloc BK172.out _) 0).trans rfl,(blk_cell (blk_alloc BK172.out _) 1).trans rfl,(blk_cell (blk_alloc BK172.out _) 2).trans rfl,(blk_cell (blk_alloc BK172.out _) 3).trans rfl,(blk_cell (blk_alloc BK172.out _) 4).trans rfl,(blk_cell (blk_alloc BK172.out _) 5).trans rfl,(blk_cell (blk_alloc BK178.out _) 0).trans rfl,(blk_cell (blk_alloc BK178.out _) 1).trans rfl,(blk_cell (blk_alloc BK178.out _) 2).trans rfl,(blk_cell (blk_alloc BK178.out _) 3).trans rfl,(blk_cell (blk_alloc BK178.out _) 4).trans rfl,(blk_cell (blk_alloc BK178.out _) 5).trans rfl⟩ (fun hHeld=>?_);clear hK K;refine norm_ (a':=?_) ?_ ?_;rotate_left
        ·show Act.put _ (some 23) _ = _
         simp only [Act.put,List.setIfInBounds_toArray,List.set_cons_zero,List.set_cons_succ,i64_w,i32_w];rfl
        refine one_ (i:=5) (N:=some 24) #[true,true,true,true,true,true,false,false] rfl rfl (one_of HT_.out (by kernel_rfl)) (by decide) (fun K hK=>?_);refine Kd.R_append_step k25 (w0:=w) w.heap.size (by rfl) (.tmp 20) (.tmp 23) 23 25 (.agg #[(.int .i64 0),(.bool false),(.string ⟨#[]⟩),(.string ⟨#[]⟩),(.slice none 0 0),(.slice none 0 0)]) 96 rfl Tryd.underlying23 info25 rfl (by decide) (by omega) u173005 x173005_1 (⟨t179,t180,t181,t182,t183,t186⟩ : S25) [.int .i64 t179,.bool t180,.string t181,.string t182,.slice Ao23 t183.length co23,.slice Ao24 t186.length co24] (fun k_=>some k_ ≠ (.slice Ao8 y174.length co8 : Value).ownBlock ∧ k_ ≠ gb172 ∧ k_ ≠ gb173 ∧ k_ ≠ gb178) (fun k_=>((fun k_=>some k_ ≠ (.slice Ao8 y174.length co8 : Value).ownBlock ∧ k_ ≠ gb172 ∧ k_ ≠ gb173 ∧ k_ ≠ gb178)) k_ ∧ some k_ ≠ (u173005 : Value).ownBlock) rfl rfl ?aP (fun _ hk=>hk) ?aF ?aO ?aB ?aS ?aL ?_
        (case aP=>exact k25_mkM _ _ _ (⟨t179,t180,t181,t182,t183,t186⟩ : S25) (Kd.R_mono (Kd.R_types (Kd.R_types (Kd.R_types (Kd.R_apart' (HO185.out) (Kd.R_typed HO_173005.out) (by decide)) BK172.out (by decide)) BK173.out (by decide)) BK178.out (by decide)) (fun k_ hk=>⟨⟨hk.1.1.1.1.2,⟨hk.1.1.2,⟨hk.1.2,hk.2⟩⟩⟩,hk.1.1.1.2⟩)) (Kd.R_mono (HO188.out) (fun k_ hk=>⟨⟨hk.1.1.1.1.2,⟨hk.1.1.2,⟨hk.1.2,hk.2⟩⟩⟩,hk.1.1.1.2⟩)))
        (case aB=>exact (hb_ HB))
        (case aF=>exact (fun k_ hk=>⟨Kd.fresh' (Kd.R_lt (rk_ HO_173004)) k_ hk,Kd.freshB (g:=gb172) (o:=.cells #[.int .i64 a0_0,.bool a0_1,.string a0_2,.string a0_3,.slice Ao8 y174.length co8,u173005] 25 (0,0)) (bk_ BK172) k_ hk,Kd.freshB (g:=gb173) (o:=.cells #[.int .i64 0,.bool false,.string (⟨#[]⟩ : ByteArray),.string (⟨#[]⟩ : ByteArray),.slice none 0 0,.slice none 0 0] 25 (0,0)) (bk_ BK173) k_ hk,Kd.freshB (g:=gb178) (o:=.cells #[.int .i64 ((rd_T25 l0_5 x15_1).f0),.bool ((rd_T25 l0_5 x15_1).f1),.string ((rd_T25 l0_5 x15_1).f2),.string ((rd_T25 l0_5 x15_1).f3),.slice A177_4 ((rd_T25 l0_5 x15_1).f4).length c177_4,.slice A177_5 ((rd_T25 l0_5 x15_1).f5).length c177_5] 25 (0,0)) (bk_ BK178) k_ hk⟩))
        (case aO=>exact (by (with_reducible repeat (first|apply Kd.R_alloc|apply Kd.R_drewN|apply Kd.R_drew));exact Kd.R_mono HO_173005.out (fun _ hk=>⟨hk.1.1.1,⟨hk.1.1.2.1,⟨hk.1.1.2.2.1,hk.1.1.2.2.2⟩⟩⟩)))
        (case aS=>exact (below_size (hb_ HB)))
        (case aL=>have:=LMc14.out;first|omega|exact Nat.le_of_lt this)
        intro v190 w22 ho hb hg hat
        rw [← Ny189.out] at ho
        have n0_:=Aside0.mk (Kd.R_over' (rk_ HO_173004) (Kd.R_typed (rk_ HO_173005)) (by decide) hg);have n1_:=Aside0.mk (blk_grown (g:=gb172) (o:=.cells #[.int .i64 a0_0,.bool a0_1,.string a0_2,.string a0_3,.slice Ao8 y174.length co8,u173005] 25 (0,0)) (bk_ BK172) hg (Kd.R_away HO_173005.out (fun _ hk=>hk.1.1.2.1)));have n2_:=Aside0.mk (blk_grown (g:=gb173) (o:=.cells #[.int .i64 0,.bool false,.string (⟨#[]⟩ : ByteArray),.string (⟨#[]⟩ : ByteArray),.slice none 0 0,.slice none 0 0] 25 (0,0)) (bk_ BK173) hg (Kd.R_away HO_173005.out (fun _ hk=>hk.1.1.2.2.1)));have n3_:=Aside0.mk (blk_grown (g:=gb178) (o:=.cells #[.int .i64 ((rd_T25 l0_5 x15_1).f0),.bool ((rd_T25 l0_5 x15_1).f1),.string ((rd_T25 l0_5 x15_1).f2),.string ((rd_T25 l0_5 x15_1).f3),.slice A177_4 ((rd_T25 l0_5 x15_1).f4).length c177_4,.slice A177_5 ((rd_T25 l0_5 x15_1).f5).length c177_5] 25 (0,0)) (bk_ BK178) hg (Kd.R_away HO_173005.out (fun _ hk=>hk.1.1.2.2.2)));have n4_:=Aside0.mk (hb);have n5_:=Aside0.mk (ho);clear HO_173004;clear BK172;clear BK173;clear BK178;clear HB;clear HO_173005;clear HO185;clear HO188;have HO_173004:=n0_;have BK172:=n1_;have BK173:=n2_;have BK178:=n3_;have HB:=n4_;have HO191:=n5_;clear n0_ n1_ n2_ n3_ n4_ n5_;clear ho hb hg hat;obtain ⟨Ao25,co25,eo25⟩:=Kd.R_slice HO191.out
        (first|subst eo25|(injection eo25 with f1_ f2_ f3_;have f4_:=f1_.symm;have f5_:=f3_.symm;clear f1_ f2_ f3_;subst f4_;subst f5_))
        refine hK.out _ _ ⟨(blk_cell BK172.out 0).trans rfl,(blk_cell BK172.out 1).trans rfl,(blk_cell BK172.out 2).trans rfl,(blk_cell BK172.out 3).trans rfl,(blk_cell BK172.out 4).trans rfl,(blk_cell BK172.out 5).trans rfl,(blk_cell BK178.out 0).trans rfl,(blk_cell BK178.out 1).trans rfl,(blk_cell BK178.out 2).trans rfl,(blk_cell BK178.out 3).trans rfl,(blk_cell BK178.out 4).trans rfl,(blk_cell BK178.out 5).trans rfl⟩ (fun hHeld=>?_);clear hK K;refine norm_ (a':=?_) ?_ ?_;rotate_left
        ·show Act.put _ (some 24) _ = _
         simp only [Act.put,List.setIfInBounds_toArray,List.set_cons_zero,List.set_cons_succ,i64_w,i32_w];rfl
        refine pure_ (i:=6) (N:=some 25) (v:=?_) (a':=?_) #[true,true,true,true,true,true,true,false] rfl rfl (any_of HT_.out (by kernel_rfl)) (fun _ _ _ h=>h) (Or.inl ⟨by rfl,?_⟩) ?_ ?_;rotate_left
        ·intro w';go_simp;with_reducible rfl
        rotate_left
        ·simp only [Act.put,List.setIfInBounds_toArray,List.set_cons_zero,List.set_cons_succ,i64_w,i32_w];rfl
        refine last_ (i:=7) (N:=none) #[true,true,true,true,true,true,true,true] rfl rfl (one_of HT_.out (by kernel_rfl)) (by decide) (fun K hK=>?_);have hs26 : w22.cell? ⟨gb172,5,none⟩ = some (u173005):=(blk_cell BK172.out 5).trans rfl;have hfs26:=blk_frozen BK172.out 5;have hns26_1:=NB173_172.out;have hns26_2:=NB178_172.out;have hms26_1:=NB172_173.out;have hms26_2:=NB172_178.out;refine skip_ (w1:=?_) (by rfl) rfl ?_ ?_;rotate_left
        ·go_simp;rfl
        refine hK.out _ _ ?_;clear hK K;refine done_ (done_of HT_.out (by kernel_rfl)) ?_
        try go_wp2
        go_roundg k1
        case measure=>have:=HK1.out;omega
        case rel=>exact ⟨(wrap64 (x15_1 + 1)),(y189),(.slice Ao25 y189.length co25),rr_,(by first|exact H'|(subst_vars;exact H')),⟨by have:=HK1.out;omega⟩,⟨by (with_reducible repeat (first|apply Kd.R_alloc|apply Kd.R_drewN|apply Kd.R_drew));exact Kd.R_mono (Kd.R_far (p:=⟨gb172,5,none⟩) (Kd.R_types HO_173004.out BK172.out (by decide)) (fun _ hk=>hk.2) (.slice Ao25 y189.length co25)) (fun _ hk=>trivial)⟩,⟨by (with_reducible repeat (first|apply Kd.R_alloc|apply Kd.R_drewN|apply Kd.R_drew));exact Kd.R_mono (Kd.R_far (p:=⟨gb172,5,none⟩) (Kd.R_mono HO191.out (fun k_ hk=>(⟨hk,hk.2.1⟩ : _ ∧ k_ ≠ gb172))) (fun _ hk=>hk.2) (.slice Ao25 y189.length co25)) (fun _ hk=>⟨hk.1.1,⟨hk.1.2.1,hk.1.2.2.1⟩⟩)⟩,⟨by (with_reducible repeat (first|refine blk_drewN ?_ _|refine blk_drew ?_|refine blk_alloc ?_ _));refine bp_ (cs:=#[.int .i64 a0_0,.bool a0_1,.string a0_2,.string a0_3,.slice Ao8 y174.length co8,u173005]) ?_ 5 _;(with_reducible repeat (first|refine blk_drewN ?_ _|refine blk_drew ?_|refine blk_alloc ?_ _));exact BK172.out⟩,⟨(bf_ NB173_172 BK173)⟩,⟨(hb_ HB)⟩⟩
       rw [if_neg c14] at H
       exact absurd H (by simp)
      rw [if_neg c12] at H
      exact absurd H (by simp)
     rw [if_neg c11] at H
     exact absurd H (by simp)
    rw [if_neg c10] at H
    have c10b0 : decide (x15_1 < (l0_5.length : Int)) = false:=decide_eq_false c10;clear c10
    simp only [Option.some.injEq,Prod.mk.injEq] at H
    obtain ⟨rfl,rfl,rfl,rfl,rfl,rfl⟩:=H;have hnb27:=NB172_173.out;have hnc27:=NB173_172.out;obtain ⟨hcz28_0,hcz28_1,hcz28_2,hcz28_3,hcz28_4,hcz28_5,hfz28_0,hfz28_1,hfz28_2,hfz28_3,hfz28_4,hfz28_5⟩:=cf6_ BK172;obtain ⟨hcz29_0,hcz29_1,hcz29_2,hcz29_3,hcz29_4,hcz29_5,hfz29_0,hfz29_1,hfz29_2,hfz29_3,hfz29_4,hfz29_5⟩:=cf6_ BK173;obtain ⟨Ao30,co30,eo30⟩:=Kd.R_slice HO_173005.out;subst eo30;go_wp2
    refine bodyPost_ret (results_cell_row rfl _ _ gb173 25 #[.int .i64 a0_0,.bool a0_1,.string a0_2,.string a0_3,.slice Ao8 y174.length co8,.slice Ao30 x173005_1.length co30] (0,0) _ rfl (by (with_reducible repeat (first|refine blk_drewN ?_ _|refine blk_drew ?_|refine blk_alloc ?_ _));refine bp_ (cs:=#[.int .i64 a0_0,.bool a0_1,.string a0_2,.string a0_3,.slice Ao8 y174.length co8,.slice none 0 0]) ?_ 5 _;refine bp_ (cs:=#[.int .i64 a0_0,.bool a0_1,.string a0_2,.string a0_3,.slice none 0 0,.slice none 0 0]) ?_ 4 _;refine bp_ (cs:=#[.int .i64 a0_0,.bool a0_1,.string a0_2,.string (⟨#[]⟩ : ByteArray),.slice none 0 0,.slice none 0 0]) ?_ 3 _;refine bp_ (cs:=#[.int .i64 a0_0,.bool a0_1,.string (⟨#[]⟩ : ByteArray),.string (⟨#[]⟩ : ByteArray),.slice none 0 0,.slice none 0 0]) ?_ 2 _;refine bp_ (cs:=#[.int .i64 a0_0,.bool false,.string (⟨#[]⟩ : ByteArray),.string (⟨#[]⟩ : ByteArray),.slice none 0 0,.slice none 0 0]) ?_ 1 _;refine bp_ (cs:=#[.int .i64 0,.bool false,.string (⟨#[]⟩ : ByteArray),.string (⟨#[]⟩ : ByteArray),.slice none 0 0,.slice none 0 0]) ?_ 0 _;(with_reducible repeat (first|refine blk_drewN ?_ _|refine blk_drew ?_|refine blk_alloc ?_ _));exact BK173.out) Tryd.underlying25 rfl (by kernel_rfl)) rfl ?_;exact ⟨_,_,er_,by (with_reducible repeat (first|apply Kd.R_alloc|apply Kd.R_drewN|apply Kd.R_drew));exact Kd.R_mono (Kd.R_far (p:=⟨gb173,5,none⟩) (Kd.R_far (p:=⟨gb173,4,none⟩) (Kd.R_far (p:=⟨gb173,3,none⟩) (Kd.R_far (p:=⟨gb173,2,none⟩) (Kd.R_far (p:=⟨gb173,1,none⟩) (Kd.R_far (p:=⟨gb173,0,none⟩) (Kd.R_types HO_173004.out BK173.out (by decide)) (fun _ hk=>hk.2) (.int .i64 a0_0)) (fun _ hk=>hk.2) (.bool a0_1)) (fun _ hk=>hk.2) (.string a0_2)) (fun _ hk=>hk.2) (.string a0_3)) (fun _ hk=>hk.2) (.slice Ao8 y174.length co8)) (fun _ hk=>hk.2) (.slice Ao30 x173005_1.length co30)) (fun _ hk=>trivial),by (with_reducible repeat (first|apply Kd.R_alloc|apply Kd.R_drewN|apply Kd.R_drew));exact Kd.R_mono (Kd.R_far (p:=⟨gb173,5,none⟩) (Kd.R_far (p:=⟨gb173,4,none⟩) (Kd.R_far (p:=⟨gb173,3,none⟩) (Kd.R_far (p:=⟨gb173,2,none⟩) (Kd.R_far (p:=⟨gb173,1,none⟩) (Kd.R_far (p:=⟨gb173,0,none⟩) (Kd.R_mono HO_173005.out (fun k_ hk=>(⟨hk,hk.2.2⟩ : _ ∧ k_ ≠ gb173))) (fun _ hk=>hk.2) (.int .i64 a0_0)) (fun _ hk=>hk.2) (.bool a0_1)) (fun _ hk=>hk.2) (.string a0_2)) (fun _ hk=>hk.2) (.string a0_3)) (fun _ hk=>hk.2) (.slice Ao8 y174.length co8)) (fun _ hk=>hk.2) (.slice Ao30 x173005_1.length co30)) (fun _ hk=>hk.1.1),(hb_ HB)⟩
 rw [if_neg c2] at H
 exact absurd H (by simp)
end Go.Proofs.YtfaegleohhemkaaDoor.PPointerLikes
