-- Written by shrink.py, a program of this session: what the law needs of the print and its words. Lean checks it.
import Derived.Test.YtlgamjgdkljfiacGreatDoorZPWritePrettiesx0
import Derived.Test.YtlgamjgdkljfiacGreatDoorZPWritePrettiesx14
namespace Go.Proofs.YtlgamjgdkljfiacGreatDoor.PWritePretties
open Go.RowKit Go.Proofs.YtlgamjgdkljfiacGreatDoorW.PrintWords Go.Proofs.YtlgamjgdkljfiacGreatDoorW.PrintLast Go.Proofs.YtlgamjgdkljfiacGreatDoorW.PrintMore
attribute [local go_sem] max2_int min2_int max_two min_two max_three min_three max_four min_four
set_option linter.unusedVariables false
set_option linter.unusedSimpArgs false
def tree_holds.f (a0_0 : Int) (a0_1 : Bool) (a0_2 : ByteArray) (a0_3 : ByteArray) (l0_4 : List ByteArray) (l0_5 : List (S25)) : Option (Bool):=if a0_0 = 5 then (some true) else (some (a0_0 == 6))
set_option maxHeartbeats 8000000 in
set_option maxRecDepth 100000 in
theorem tree_holds.calls (a0_0 : Int) (a0_1 : Bool) (a0_2 : ByteArray) (a0_3 : ByteArray) (A0_4 : Option Addr) (c0_4 : Nat) (l0_4 : List ByteArray) (A0_5 : Option Addr) (c0_5 : Nat) (l0_5 : List (S25)) (r : Bool) (w : World) (hr0_4 : Kd.C Kd.string w A0_4 l0_4.length l0_4) (hc0_4 : l0_4.length ≤ c0_4) (hr0_5 : Kd.C k25 w A0_5 l0_5.length l0_5) (hc0_5 : l0_5.length ≤ c0_5) (h : tree_holds.f a0_0 a0_1 a0_2 a0_3 l0_4 l0_5 = some r) :
  Calls Tryz.prog 48 #[.agg #[.int .i64 a0_0,.bool a0_1,.string a0_2,.string a0_3,.slice A0_4 l0_4.length c0_4,.slice A0_5 l0_5.length c0_5]] w fun e w'=>e = .returned (.bool r) ∧ Below w.heap.size w w':=by
 have hu25:=Tryz.underlying25;have HR0_4:=Aside0.mk hr0_4;have HC0_4:=Aside0.mk hc0_4;clear hr0_4 hc0_4;have HR0_5:=Aside0.mk hr0_5;have HC0_5:=Aside0.mk hc0_5;clear hr0_5 hc0_5;have HB:=Aside0.mk (Below.refl w.heap.size w);have H : (if a0_0 = 5 then (some true) else (some (a0_0 == 6))) = some r:=h;clear h
 by_cases c2 : a0_0 = 5
 ·rw [if_pos c2] at H
  have c2b0 : (a0_0 == 5) = true:=beq_iff_eq.mpr c2;have c2b1 : (a0_0 != 5) = false:=bne_eq_false_iff_eq.mpr c2;clear c2;obtain rfl:=Option.some.inj H;go_enter Tryz.func48,Tryz.ntmps48
  go_wp2_with (first|((with_reducible refine gate_dst (N:=1) rfl ?_);refine box_event ?hg (N:=1) ?hd (cs:=#[.int .i64 a0_0,.bool a0_1,.string a0_2,.string a0_3,.slice A0_4 l0_4.length c0_4,.slice A0_5 l0_5.length c0_5]) (t:=25) ?hr ?_;(case hd=>rfl);(case hg=>rfl);(case hr=>first|(go_simp;done)|(go_simp;rfl));intro gb207 hg w3 hbox hb;have n_:=J_ (below_step (hb_ HB) hb) (J_ (hbox) (J_ (bs_ hg HB) (Aside0.mk (bs_ hg HB))));clear HB;obtain ⟨HB,BK207,GW207,GE207⟩:=n_;clear hb hbox hg;obtain ⟨hcz4_0,hcz4_1,hcz4_2,hcz4_3,hcz4_4,hcz4_5,hfz4_0,hfz4_1,hfz4_2,hfz4_3,hfz4_4,hfz4_5⟩:=cf6_ BK207))
  go_ret;exact ⟨er_,(hb_ HB)⟩
 rw [if_neg c2] at H
 have c2b0 : (a0_0 == 5) = false:=beq_eq_false_iff_ne.mpr c2;have c2b1 : (a0_0 != 5) = true:=bne_iff_ne.mpr c2;obtain rfl:=Option.some.inj H;go_enter Tryz.func48,Tryz.ntmps48
 go_wp2_with (first|((with_reducible refine gate_dst (N:=1) rfl ?_);refine box_event ?hg (N:=1) ?hd (cs:=#[.int .i64 a0_0,.bool a0_1,.string a0_2,.string a0_3,.slice A0_4 l0_4.length c0_4,.slice A0_5 l0_5.length c0_5]) (t:=25) ?hr ?_;(case hd=>rfl);(case hg=>rfl);(case hr=>first|(go_simp;done)|(go_simp;rfl));intro gb207 hg w5 hbox hb;have n_:=J_ (below_step (hb_ HB) hb) (J_ (hbox) (J_ (bs_ hg HB) (Aside0.mk (bs_ hg HB))));clear HB;obtain ⟨HB,BK207,GW207,GE207⟩:=n_;clear hb hbox hg;obtain ⟨hcz6_0,hcz6_1,hcz6_2,hcz6_3,hcz6_4,hcz6_5,hfz6_0,hfz6_1,hfz6_2,hfz6_3,hfz6_4,hfz6_5⟩:=cf6_ BK207))
 go_ret;exact ⟨er_,(hb_ HB)⟩
mutual
def tree_formed.j0 : Nat → Int → Bool → Int → Bool → ByteArray → ByteArray → List ByteArray → List (S25) → Option (Bool)
 | 0,_,_,_,_,_,_,_,_=>none
 | k + 1,x1,x17,x209000,x209001,x209002,x209003,x209004,x209005=>if x17 = true then (some false) else (tree_formed.l0 k x1 x209005 (x209005.length : Int) 0)
def tree_formed.l0 : Nat → Int → List (S25) → Int → Int → Option (Bool)
 | 0,_,_,_,_=>none
 | k + 1,x1,x19,x20,x21=>if x21 < x20 then (if 0 ≤ x21 then (if x21 < (x19.length : Int) then ((tree_formed.f k ((rd_T25 x19 x21).f0) ((rd_T25 x19 x21).f1) ((rd_T25 x19 x21).f2) ((rd_T25 x19 x21).f3) ((rd_T25 x19 x21).f4) ((rd_T25 x19 x21).f5) (wrap64 (x1 - 1))).bind fun t213=>(if t213 = true then (tree_formed.l0 k x1 x19 x20 (wrap64 (x21 + 1))) else (some false))) else (none)) else (none)) else (some true)
def tree_formed.f : Nat → Int → Bool → ByteArray → ByteArray → List ByteArray → List (S25) → Int → Option (Bool)
 | 0,_,_,_,_,_,_,_=>none
 | k + 1,a0_0,a0_1,a0_2,a0_3,l0_4,l0_5,a1=>(tree_plain.f a0_0 a0_1 a0_2 a0_3 l0_4 l0_5).bind fun t209=>(if t209 = true then ((tree_holds.f a0_0 a0_1 a0_2 a0_3 l0_4 l0_5).bind fun t210=>(if t210 = true then (tree_formed.j0 k a1 (a1 == 0) a0_0 a0_1 a0_2 a0_3 l0_4 l0_5) else (tree_formed.j0 k a1 false a0_0 a0_1 a0_2 a0_3 l0_4 l0_5))) else (tree_formed.j0 k a1 true a0_0 a0_1 a0_2 a0_3 l0_4 l0_5))
end
theorem tree_formed.mono_l : ∀ k,(∀ y0 y1 y2 y3 y4 y5 y6,LeO (tree_formed.f k y0 y1 y2 y3 y4 y5 y6) (tree_formed.f (k + 1) y0 y1 y2 y3 y4 y5 y6)) ∧ (∀ y0 y1 y2 y3 y4 y5 y6 y7,LeO (tree_formed.j0 k y0 y1 y2 y3 y4 y5 y6 y7) (tree_formed.j0 (k + 1) y0 y1 y2 y3 y4 y5 y6 y7)) ∧ (∀ y0 y1 y2 y3,LeO (tree_formed.l0 k y0 y1 y2 y3) (tree_formed.l0 (k + 1) y0 y1 y2 y3))
 | 0=>⟨fun _ _ _ _ _ _ _ r h=>by simp [tree_formed.f] at h,fun _ _ _ _ _ _ _ _ r h=>by simp [tree_formed.j0] at h,fun _ _ _ _ r h=>by simp [tree_formed.l0] at h⟩
 | k + 1=>by
  obtain ⟨ih0,ih1,ih2⟩:=tree_formed.mono_l k;refine ⟨?_,?_,?_⟩
  ·intro y0 y1 y2 y3 y4 y5 y6
   unfold tree_formed.f
   repeat' first
   | (with_reducible exact ih0 _ _ _ _ _ _ _)
   | (with_reducible exact ih1 _ _ _ _ _ _ _ _)
   | (with_reducible exact ih2 _ _ _ _)
   | (with_reducible exact LeO.refl _)
   | (with_reducible exact LeO.none _)
   | (with_reducible refine LeO.ite ?_ ?_)
   | (with_reducible refine LeO.bind ?_ (fun _=>?_))
   | exact ih0 _ _ _ _ _ _ _
   | exact ih1 _ _ _ _ _ _ _ _
   | exact ih2 _ _ _ _
   | exact LeO.none _
   | refine LeO.ite ?_ ?_
   | refine LeO.bind ?_ (fun _=>?_)
  ·intro y0 y1 y2 y3 y4 y5 y6 y7
   unfold tree_formed.j0
   repeat' first
   | (with_reducible exact ih0 _ _ _ _ _ _ _)
   | (with_reducible exact ih1 _ _ _ _ _ _ _ _)
   | (with_reducible exact ih2 _ _ _ _)
   | (with_reducible exact LeO.refl _)
   | (with_reducible exact LeO.none _)
   | (with_reducible refine LeO.ite ?_ ?_)
   | (with_reducible refine LeO.bind ?_ (fun _=>?_))
   | exact ih0 _ _ _ _ _ _ _
   | exact ih1 _ _ _ _ _ _ _ _
   | exact ih2 _ _ _ _
   | exact LeO.none _
   | refine LeO.ite ?_ ?_
   | refine LeO.bind ?_ (fun _=>?_)
  intro y0 y1 y2 y3
  unfold tree_formed.l0
  repeat' first
  | (with_reducible exact ih0 _ _ _ _ _ _ _)
  | (with_reducible exact ih1 _ _ _ _ _ _ _ _)
  | (with_reducible exact ih2 _ _ _ _)
  | (with_reducible exact LeO.refl _)
  | (with_reducible exact LeO.none _)
  | (with_reducible refine LeO.ite ?_ ?_)
  | (with_reducible refine LeO.bind ?_ (fun _=>?_))
  | exact ih0 _ _ _ _ _ _ _
  | exact ih1 _ _ _ _ _ _ _ _
  | exact ih2 _ _ _ _
  | exact LeO.none _
  | refine LeO.ite ?_ ?_
  | refine LeO.bind ?_ (fun _=>?_)
theorem tree_formed.mono : ∀ a0 a1 a2 a3 a4 a5 a6 k,LeO (tree_formed.f k a0 a1 a2 a3 a4 a5 a6) (tree_formed.f (k + 1) a0 a1 a2 a3 a4 a5 a6):=by
 intro a0 a1 a2 a3 a4 a5 a6 k;obtain ⟨ih0,ih1,ih2⟩:=tree_formed.mono_l k;exact ih0 a0 a1 a2 a3 a4 a5 a6
set_option maxHeartbeats 8000000 in
set_option maxRecDepth 100000 in
theorem tree_formed.calls (k : Nat) : ∀ (a0_0 : Int) (a0_1 : Bool) (a0_2 : ByteArray) (a0_3 : ByteArray) (A0_4 : Option Addr) (c0_4 : Nat) (l0_4 : List ByteArray) (A0_5 : Option Addr) (c0_5 : Nat) (l0_5 : List (S25)) (a1 : Int) (r : Bool) (w : World) (hr0_4 : Kd.C Kd.string w A0_4 l0_4.length l0_4) (hc0_4 : l0_4.length ≤ c0_4) (hr0_5 : Kd.C k25 w A0_5 l0_5.length l0_5) (hc0_5 : l0_5.length ≤ c0_5) (h : tree_formed.f k a0_0 a0_1 a0_2 a0_3 l0_4 l0_5 a1 = some r),
  Calls Tryz.prog 27 #[.agg #[.int .i64 a0_0,.bool a0_1,.string a0_2,.string a0_3,.slice A0_4 l0_4.length c0_4,.slice A0_5 l0_5.length c0_5],.int .i64 a1] w fun e w'=>e = .returned (.bool r) ∧ Below w.heap.size w w':=by
 induction k using Nat.strongRecOn with
 | _ k ih =>
 intro a0_0 a0_1 a0_2 a0_3 A0_4 c0_4 l0_4 A0_5 c0_5 l0_5 a1 r w hr0_4 hc0_4 hr0_5 hc0_5 h
 cases k with
 | zero=>exact absurd h (by simp [tree_formed.f])
 | succ k =>
 simp only [tree_formed.f] at h
 have hu25:=Tryz.underlying25;have HR0_4:=Aside0.mk hr0_4;have HC0_4:=Aside0.mk hc0_4;clear hr0_4 hc0_4;have HR0_5:=Aside0.mk hr0_5;have HC0_5:=Aside0.mk hc0_5;clear hr0_5 hc0_5;have HB:=Aside0.mk (Below.refl w.heap.size w);have H : ((tree_plain.f a0_0 a0_1 a0_2 a0_3 l0_4 l0_5).bind fun t209=>(if t209 = true then ((tree_holds.f a0_0 a0_1 a0_2 a0_3 l0_4 l0_5).bind fun t210=>(if t210 = true then (tree_formed.j0 k a1 (a1 == 0) a0_0 a0_1 a0_2 a0_3 l0_4 l0_5) else (tree_formed.j0 k a1 false a0_0 a0_1 a0_2 a0_3 l0_4 l0_5))) else (tree_formed.j0 k a1 true a0_0 a0_1 a0_2 a0_3 l0_4 l0_5))) = some r:=h;clear h;have HC3:=Aside0.mk H;clear H;go_enter Tryz.func27,Tryz.ntmps27
 go_upto_region 1 with (first|((with_reducible refine gate_dst (N:=2) rfl ?_);refine box_event ?hg (N:=2) ?hd (cs:=#[.int .i64 a0_0,.bool a0_1,.string a0_2,.string a0_3,.slice A0_4 l0_4.length c0_4,.slice A0_5 l0_5.length c0_5]) (t:=25) ?hr ?_;(case hd=>rfl);(case hg=>rfl);(case hr=>first|(go_simp;done)|(go_simp;rfl));intro gb208 hg w4 hbox hb;have n_:=J_ (below_step (hb_ HB) hb) (J_ (hbox) (J_ (bs_ hg HB) (Aside0.mk (bs_ hg HB))));clear HB;obtain ⟨HB,BK208,GW208,GE208⟩:=n_;clear hb hbox hg))
 (try simp only [Act.put,List.setIfInBounds_toArray,List.set_cons_zero,List.set_cons_succ])
 go_cut [17] (fun v17 wc=>∃ (kq : Nat) (x17_2 : Bool),v17 = .bool x17_2 ∧ Aside0 (tree_formed.j0 kq a1 x17_2 a0_0 a0_1 a0_2 a0_3 l0_4 l0_5 = some r) ∧ Aside0 (kq ≤ k) ∧ Aside0 (wc.heap[gb208]? = some (.cells #[.int .i64 a0_0,.bool a0_1,.string a0_2,.string a0_3,(.slice A0_4 l0_4.length c0_4),(.slice A0_5 l0_5.length c0_5)] 25 (0,0))) ∧ Aside0 (Below w.heap.size w wc))
 case first =>
  have H:=HC3.out;clear HC3;replace H:=Option.bind_eq_some_iff.mp H;obtain ⟨t209,A50,H⟩:=H;replace H : (if t209 = true then ((tree_holds.f a0_0 a0_1 a0_2 a0_3 l0_4 l0_5).bind fun t210=>(if t210 = true then (tree_formed.j0 k a1 (a1 == 0) a0_0 a0_1 a0_2 a0_3 l0_4 l0_5) else (tree_formed.j0 k a1 false a0_0 a0_1 a0_2 a0_3 l0_4 l0_5))) else (tree_formed.j0 k a1 true a0_0 a0_1 a0_2 a0_3 l0_4 l0_5)) = some r:=H;have A5:=Aside0.mk A50;clear A50
  by_cases c6 : t209 = true
  ·subst c6
   have H1 : ((tree_holds.f a0_0 a0_1 a0_2 a0_3 l0_4 l0_5).bind fun t210=>(if t210 = true then (tree_formed.j0 k a1 (a1 == 0) a0_0 a0_1 a0_2 a0_3 l0_4 l0_5) else (tree_formed.j0 k a1 false a0_0 a0_1 a0_2 a0_3 l0_4 l0_5))) = some r:=by rw [if_pos rfl] at H;exact H
   clear H;have H:=H1;clear H1;replace H:=Option.bind_eq_some_iff.mp H;obtain ⟨t210,A70,H⟩:=H;replace H : (if t210 = true then (tree_formed.j0 k a1 (a1 == 0) a0_0 a0_1 a0_2 a0_3 l0_4 l0_5) else (tree_formed.j0 k a1 false a0_0 a0_1 a0_2 a0_3 l0_4 l0_5)) = some r:=H;have A7:=Aside0.mk A70;clear A70
   by_cases c8 : t210 = true
   ·subst c8
    have H1 : (tree_formed.j0 k a1 (a1 == 0) a0_0 a0_1 a0_2 a0_3 l0_4 l0_5) = some r:=by rw [if_pos rfl] at H;exact H
    clear H;have H:=H1;clear H1;have H':=Aside0.mk H;clear H;obtain ⟨hcz9_0,hcz9_1,hcz9_2,hcz9_3,hcz9_4,hcz9_5,hfz9_0,hfz9_1,hfz9_2,hfz9_3,hfz9_4,hfz9_5⟩:=cf6_ BK208
    go_wp2_with (first|((with_reducible refine gate_callee (f:=47) rfl ?_);refine goesL_ (some 8) rfl rfl Tryz.func47 (by kernel_rfl) rfl #[.agg #[.int .i64 a0_0,.bool a0_1,.string a0_2,.string a0_3,.slice A0_4 l0_4.length c0_4,.slice A0_5 l0_5.length c0_5]] rfl am_ ?_;(with_reducible refine (tree_plain.calls a0_0 a0_1 a0_2 a0_3 _ _ l0_4 _ _ l0_5 true _ ?side1 ?side2 ?side3 ?side4 A5.out).mono ?_);(case side1=>repeat (first|exact (Kd.C_below HR0_4.out HB.out)|(with_reducible refine Kd.C_alloc ?_ _)|(with_reducible refine Kd.C_drewN ?_ _)|(with_reducible refine Kd.C_drew ?_)));(case side2=>exact HC0_4.out);(case side3=>repeat (first|exact (Kd.C_below HR0_5.out HB.out)|(with_reducible refine Kd.C_alloc ?_ _)|(with_reducible refine Kd.C_drewN ?_ _)|(with_reducible refine Kd.C_drew ?_)));(case side4=>exact HC0_5.out);rintro e w10 ⟨rfl,hb⟩;refine ⟨_,rfl,?_⟩;have n_:=J_ (bkb_ BK208 hb) (Aside0.mk (below_step (hb_ HB) hb));clear BK208 HB;obtain ⟨BK208,HB⟩:=n_;(try clear hb);(try clear hb2);(try clear hk);(try clear hi);obtain ⟨hcz11_0,hcz11_1,hcz11_2,hcz11_3,hcz11_4,hcz11_5,hfz11_0,hfz11_1,hfz11_2,hfz11_3,hfz11_4,hfz11_5⟩:=cf6_ BK208)|(go_at_call 48;(with_reducible refine (tree_holds.calls a0_0 a0_1 a0_2 a0_3 _ _ l0_4 _ _ l0_5 true _ ?side1 ?side2 ?side3 ?side4 A7.out).mono ?_);(case side1=>repeat (first|exact (Kd.C_below HR0_4.out HB.out)|(with_reducible refine Kd.C_alloc ?_ _)|(with_reducible refine Kd.C_drewN ?_ _)|(with_reducible refine Kd.C_drew ?_)));(case side2=>exact HC0_4.out);(case side3=>repeat (first|exact (Kd.C_below HR0_5.out HB.out)|(with_reducible refine Kd.C_alloc ?_ _)|(with_reducible refine Kd.C_drewN ?_ _)|(with_reducible refine Kd.C_drew ?_)));(case side4=>exact HC0_5.out);rintro e w12 ⟨rfl,hb⟩;have n_:=J_ (bkb_ BK208 hb) (Aside0.mk (below_step (hb_ HB) hb));clear BK208 HB;obtain ⟨BK208,HB⟩:=n_;(try clear hb);(try clear hb2);(try clear hk);(try clear hi)))
    go_meet
    case rel=>exact ⟨_,((a1 == 0)),rr_,(by first|exact H'|(subst_vars;exact H')),⟨by first|omega|exact Nat.le_refl _⟩,⟨(bk_ BK208)⟩,⟨(hb_ HB)⟩⟩
   replace c8:=Bool.eq_false_iff.mpr c8;subst c8
   have H1 : (tree_formed.j0 k a1 false a0_0 a0_1 a0_2 a0_3 l0_4 l0_5) = some r:=by rw [if_neg (show ¬ (false = true) by decide)] at H;exact H
   clear H;have H:=H1;clear H1;have H':=Aside0.mk H;clear H;obtain ⟨hcz13_0,hcz13_1,hcz13_2,hcz13_3,hcz13_4,hcz13_5,hfz13_0,hfz13_1,hfz13_2,hfz13_3,hfz13_4,hfz13_5⟩:=cf6_ BK208
   go_wp2_with (first|((with_reducible refine gate_callee (f:=47) rfl ?_);refine goesL_ (some 8) rfl rfl Tryz.func47 (by kernel_rfl) rfl #[.agg #[.int .i64 a0_0,.bool a0_1,.string a0_2,.string a0_3,.slice A0_4 l0_4.length c0_4,.slice A0_5 l0_5.length c0_5]] rfl am_ ?_;(with_reducible refine (tree_plain.calls a0_0 a0_1 a0_2 a0_3 _ _ l0_4 _ _ l0_5 true _ ?side1 ?side2 ?side3 ?side4 A5.out).mono ?_);(case side1=>repeat (first|exact (Kd.C_below HR0_4.out HB.out)|(with_reducible refine Kd.C_alloc ?_ _)|(with_reducible refine Kd.C_drewN ?_ _)|(with_reducible refine Kd.C_drew ?_)));(case side2=>exact HC0_4.out);(case side3=>repeat (first|exact (Kd.C_below HR0_5.out HB.out)|(with_reducible refine Kd.C_alloc ?_ _)|(with_reducible refine Kd.C_drewN ?_ _)|(with_reducible refine Kd.C_drew ?_)));(case side4=>exact HC0_5.out);rintro e w14 ⟨rfl,hb⟩;refine ⟨_,rfl,?_⟩;have n_:=J_ (bkb_ BK208 hb) (Aside0.mk (below_step (hb_ HB) hb));clear BK208 HB;obtain ⟨BK208,HB⟩:=n_;(try clear hb);(try clear hb2);(try clear hk);(try clear hi);obtain ⟨hcz15_0,hcz15_1,hcz15_2,hcz15_3,hcz15_4,hcz15_5,hfz15_0,hfz15_1,hfz15_2,hfz15_3,hfz15_4,hfz15_5⟩:=cf6_ BK208)|(go_at_call 48;(with_reducible refine (tree_holds.calls a0_0 a0_1 a0_2 a0_3 _ _ l0_4 _ _ l0_5 false _ ?side1 ?side2 ?side3 ?side4 A7.out).mono ?_);(case side1=>repeat (first|exact (Kd.C_below HR0_4.out HB.out)|(with_reducible refine Kd.C_alloc ?_ _)|(with_reducible refine Kd.C_drewN ?_ _)|(with_reducible refine Kd.C_drew ?_)));(case side2=>exact HC0_4.out);(case side3=>repeat (first|exact (Kd.C_below HR0_5.out HB.out)|(with_reducible refine Kd.C_alloc ?_ _)|(with_reducible refine Kd.C_drewN ?_ _)|(with_reducible refine Kd.C_drew ?_)));(case side4=>exact HC0_5.out);rintro e w16 ⟨rfl,hb⟩;have n_:=J_ (bkb_ BK208 hb) (Aside0.mk (below_step (hb_ HB) hb));clear BK208 HB;obtain ⟨BK208,HB⟩:=n_;(try clear hb);(try clear hb2);(try clear hk);(try clear hi)))
   go_meet
   case rel=>exact ⟨_,(false),rr_,(by first|exact H'|(subst_vars;exact H')),⟨by first|omega|exact Nat.le_refl _⟩,⟨(bk_ BK208)⟩,⟨(hb_ HB)⟩⟩
  replace c6:=Bool.eq_false_iff.mpr c6;subst c6
  have H1 : (tree_formed.j0 k a1 true a0_0 a0_1 a0_2 a0_3 l0_4 l0_5) = some r:=by rw [if_neg (show ¬ (false = true) by decide)] at H;exact H
  clear H;have H:=H1;clear H1;have H':=Aside0.mk H;clear H;obtain ⟨hcz17_0,hcz17_1,hcz17_2,hcz17_3,hcz17_4,hcz17_5,hfz17_0,hfz17_1,hfz17_2,hfz17_3,hfz17_4,hfz17_5⟩:=cf6_ BK208
  go_wp2_with (first|((with_reducible refine gate_callee (f:=47) rfl ?_);refine goesL_ (some 8) rfl rfl Tryz.func47 (by kernel_rfl) rfl #[.agg #[.int .i64 a0_0,.bool a0_1,.string a0_2,.string a0_3,.slice A0_4 l0_4.length c0_4,.slice A0_5 l0_5.length c0_5]] rfl am_ ?_;(with_reducible refine (tree_plain.calls a0_0 a0_1 a0_2 a0_3 _ _ l0_4 _ _ l0_5 false _ ?side1 ?side2 ?side3 ?side4 A5.out).mono ?_);(case side1=>repeat (first|exact (Kd.C_below HR0_4.out HB.out)|(with_reducible refine Kd.C_alloc ?_ _)|(with_reducible refine Kd.C_drewN ?_ _)|(with_reducible refine Kd.C_drew ?_)));(case side2=>exact HC0_4.out);(case side3=>repeat (first|exact (Kd.C_below HR0_5.out HB.out)|(with_reducible refine Kd.C_alloc ?_ _)|(with_reducible refine Kd.C_drewN ?_ _)|(with_reducible refine Kd.C_drew ?_)));(case side4=>exact HC0_5.out);rintro e w18 ⟨rfl,hb⟩;refine ⟨_,rfl,?_⟩;have n_:=J_ (bkb_ BK208 hb) (Aside0.mk (below_step (hb_ HB) hb));clear BK208 HB;obtain ⟨BK208,HB⟩:=n_;(try clear hb);(try clear hb2);(try clear hk);(try clear hi)))
  go_meet
  case rel=>exact ⟨_,(true),rr_,(by first|exact H'|(subst_vars;exact H')),⟨by first|omega|exact Nat.le_refl _⟩,⟨(bk_ BK208)⟩,⟨(hb_ HB)⟩⟩
 case rest =>
  clear HC3;obtain ⟨kq,x17_2,rfl,HA,HJ2,BK208,HB⟩:=hcut
  cases kq with
  | zero=>exact absurd HA.out (by simp [tree_formed.j0])
  | succ kj2 =>
   have H:=HA.out;clear HA
   simp only [tree_formed.j0] at H
   by_cases c19 : x17_2 = true
   ·subst c19
    have H1 : (some false) = some r:=by rw [if_pos rfl] at H;exact H
    clear H;have H:=H1;clear H1;obtain rfl:=Option.some.inj H;go_wp2
    go_ret;exact ⟨er_,(hb_ HB)⟩
   replace c19:=Bool.eq_false_iff.mpr c19;subst c19
   have H1 : (tree_formed.l0 kj2 a1 l0_5 (l0_5.length : Int) 0) = some r:=by rw [if_neg (show ¬ (false = true) by decide)] at H;exact H
   clear H;have H:=H1;clear H1;have H':=Aside0.mk H;clear H;obtain ⟨hcz20_0,hcz20_1,hcz20_2,hcz20_3,hcz20_4,hcz20_5,hfz20_0,hfz20_1,hfz20_2,hfz20_3,hfz20_4,hfz20_5⟩:=cf6_ BK208;go_wp2
   go_loopg [21] kj2 (fun kq v21 w'=>∃ (x21_2 : Int),v21 = .int .i64 x21_2 ∧ Aside0 (tree_formed.l0 kq a1 l0_5 (l0_5.length : Int) x21_2 = some r) ∧ Aside0 (kq ≤ kj2) ∧ Aside0 (w'.heap[gb208]? = some (.cells #[.int .i64 a0_0,.bool a0_1,.string a0_2,.string a0_3,(.slice A0_4 l0_4.length c0_4),(.slice A0_5 l0_5.length c0_5)] 25 (0,0))) ∧ Aside0 (Below w.heap.size w w'))
   case atStart=>exact ⟨(0),rr_,H',⟨Nat.le_refl _⟩,⟨(bk_ BK208)⟩,⟨(hb_ HB)⟩⟩
   case round =>
    clear H'
    try clear BK208
    try clear HB
    obtain ⟨x21_2,rfl,HA,HK2,BK208,HB⟩:=hrel
    cases gk with
    | zero=>exact absurd HA.out (by simp [tree_formed.l0])
    | succ k2 =>
     have H:=HA.out;clear HA
     simp only [tree_formed.l0] at H
     by_cases c21 : x21_2 < (l0_5.length : Int)
     ·rw [if_pos c21] at H
      have c21b0 : decide (x21_2 < (l0_5.length : Int)) = true:=decide_eq_true c21;clear c21
      by_cases c22 : 0 ≤ x21_2
      ·rw [if_pos c22] at H
       have c22b0 : decide (0 ≤ x21_2) = true:=decide_eq_true c22;clear c22
       by_cases c23 : x21_2 < (l0_5.length : Int)
       ·rw [if_pos c23] at H
        have c23b0 : decide (x21_2 < (l0_5.length : Int)) = true:=decide_eq_true c23;clear c23;replace H:=Option.bind_eq_some_iff.mp H;obtain ⟨t213,A240,H⟩:=H;replace H : (if t213 = true then (tree_formed.l0 k2 a1 l0_5 (l0_5.length : Int) (wrap64 (x21_2 + 1))) else (some false)) = some r:=H;have A24:=Aside0.mk A240;clear A240
        by_cases c25 : t213 = true
        ·subst c25
         have H1 : (tree_formed.l0 k2 a1 l0_5 (l0_5.length : Int) (wrap64 (x21_2 + 1))) = some r:=by rw [if_pos rfl] at H;exact H
         clear H;have H:=H1;clear H1;have H':=Aside0.mk H;clear H;have p211 : 0 ≤ (x21_2 : Int):=of_decide_eq_true aa_;have q211 : x21_2 < (l0_5.length : Int):=of_decide_eq_true aa_;obtain ⟨ad211,A211_4,c211_4,A211_5,c211_5,e211,hx211_0,hx211_1,hx211_2,hx211_3,hx211_4,hx211_5,hl211_4,hi211_4,hl211_5,hi211_5⟩:=at_T25 HR0_5.out x21_2 p211 q211;cases e211;replace hx211_0:=(HB.out.cell (World.block_lt_of_cell? w _ hx211_0)).trans hx211_0;replace hx211_1:=(HB.out.cell (World.block_lt_of_cell? w _ hx211_1)).trans hx211_1;replace hx211_2:=(HB.out.cell (World.block_lt_of_cell? w _ hx211_2)).trans hx211_2;replace hx211_3:=(HB.out.cell (World.block_lt_of_cell? w _ hx211_3)).trans hx211_3;replace hx211_4:=(HB.out.cell (World.block_lt_of_cell? w _ hx211_4)).trans hx211_4;replace hx211_5:=(HB.out.cell (World.block_lt_of_cell? w _ hx211_5)).trans hx211_5;have HR211_4:=Aside0.mk hi211_4;have HC211_4:=Aside0.mk hl211_4;clear hi211_4 hl211_4;have HR211_5:=Aside0.mk hi211_5;have HC211_5:=Aside0.mk hl211_5;clear hi211_5 hl211_5;replace p211:=eq_true p211;replace q211:=eq_true q211
         go_wp2_with (first|((with_reducible refine gate_dst (N:=6) rfl ?_);refine box_event ?hg (N:=6) ?hd (cs:=#[.int .i64 0,.bool false,.string (⟨#[]⟩ : ByteArray),.string (⟨#[]⟩ : ByteArray),.slice none 0 0,.slice none 0 0]) (t:=25) ?hr ?_;(case hd=>rfl);(case hg=>rfl);(case hr=>first|(go_simp;done)|(go_simp;rfl));intro gb212 hg w26 hbox hb;have n_:=J_ (bkb_ BK208 hb) (J_ (below_step (hb_ HB) hb) (J_ (hbox) (J_ (bs_ hg HB) (J_ (bs_ hg HB) (J_ ((by rw [hg];exact Nat.ne_of_lt (bkl_ BK208) : gb208 ≠ gb212)) (Aside0.mk ((by rw [hg];exact Nat.ne_of_gt (bkl_ BK208) : gb212 ≠ gb208))))))));clear BK208 HB;obtain ⟨BK208,HB,BK212,GW212,GE212,NB208_212,NB212_208⟩:=n_;clear hb hbox hg;have hnb27:=NB212_208.out;have hnc27:=NB208_212.out;obtain ⟨hcz28_0,hcz28_1,hcz28_2,hcz28_3,hcz28_4,hcz28_5,hfz28_0,hfz28_1,hfz28_2,hfz28_3,hfz28_4,hfz28_5⟩:=cf6_ BK212)|((with_reducible refine gate_callee (f:=27) rfl ?_);refine goesL_ (some 28) rfl rfl Tryz.func27 (by kernel_rfl) rfl #[.agg #[.int .i64 ((rd_T25 l0_5 x21_2).f0),.bool ((rd_T25 l0_5 x21_2).f1),.string ((rd_T25 l0_5 x21_2).f2),.string ((rd_T25 l0_5 x21_2).f3),.slice A211_4 ((rd_T25 l0_5 x21_2).f4).length c211_4,.slice A211_5 ((rd_T25 l0_5 x21_2).f5).length c211_5],.int .i64 (wrap64 (a1 - 1))] rfl am_ ?_;(with_reducible refine (ih k2 (by have:=HJ2.out;have:=HK2.out;omega) ((rd_T25 l0_5 x21_2).f0) ((rd_T25 l0_5 x21_2).f1) ((rd_T25 l0_5 x21_2).f2) ((rd_T25 l0_5 x21_2).f3) _ _ ((rd_T25 l0_5 x21_2).f4) _ _ ((rd_T25 l0_5 x21_2).f5) (wrap64 (a1 - 1)) true _ ?side1 ?side2 ?side3 ?side4 A24.out).mono ?_);(case side1=>exact Kd.C_below HR211_4.out (hb_ HB));(case side2=>exact HC211_4.out);(case side3=>exact Kd.C_below HR211_5.out (hb_ HB));(case side4=>exact HC211_5.out);rintro e w29 ⟨rfl,hb⟩;refine ⟨_,rfl,?_⟩;have n_:=J_ (blk_below (g:=gb208) (o:=.cells #[.int .i64 a0_0,.bool a0_1,.string a0_2,.string a0_3,.slice A0_4 l0_4.length c0_4,.slice (some ad211) l0_5.length c0_5] 25 (0,0)) ((bf_ NB208_212 BK208)) hb) (J_ (blk_below (g:=gb212) (o:=.cells #[.int .i64 ((rd_T25 l0_5 x21_2).f0),.bool ((rd_T25 l0_5 x21_2).f1),.string ((rd_T25 l0_5 x21_2).f2),.string ((rd_T25 l0_5 x21_2).f3),.slice A211_4 ((rd_T25 l0_5 x21_2).f4).length c211_4,.slice A211_5 ((rd_T25 l0_5 x21_2).f5).length c211_5] 25 (0,0)) (by (with_reducible repeat (first|refine blk_drewN ?_ _|refine blk_drew ?_|refine blk_alloc ?_ _));refine bp_ (cs:=#[.int .i64 ((rd_T25 l0_5 x21_2).f0),.bool ((rd_T25 l0_5 x21_2).f1),.string ((rd_T25 l0_5 x21_2).f2),.string ((rd_T25 l0_5 x21_2).f3),.slice A211_4 ((rd_T25 l0_5 x21_2).f4).length c211_4,.slice none 0 0]) ?_ 5 _;refine bp_ (cs:=#[.int .i64 ((rd_T25 l0_5 x21_2).f0),.bool ((rd_T25 l0_5 x21_2).f1),.string ((rd_T25 l0_5 x21_2).f2),.string ((rd_T25 l0_5 x21_2).f3),.slice none 0 0,.slice none 0 0]) ?_ 4 _;refine bp_ (cs:=#[.int .i64 ((rd_T25 l0_5 x21_2).f0),.bool ((rd_T25 l0_5 x21_2).f1),.string ((rd_T25 l0_5 x21_2).f2),.string (⟨#[]⟩ : ByteArray),.slice none 0 0,.slice none 0 0]) ?_ 3 _;refine bp_ (cs:=#[.int .i64 ((rd_T25 l0_5 x21_2).f0),.bool ((rd_T25 l0_5 x21_2).f1),.string (⟨#[]⟩ : ByteArray),.string (⟨#[]⟩ : ByteArray),.slice none 0 0,.slice none 0 0]) ?_ 2 _;refine bp_ (cs:=#[.int .i64 ((rd_T25 l0_5 x21_2).f0),.bool false,.string (⟨#[]⟩ : ByteArray),.string (⟨#[]⟩ : ByteArray),.slice none 0 0,.slice none 0 0]) ?_ 1 _;refine bp_ (cs:=#[.int .i64 0,.bool false,.string (⟨#[]⟩ : ByteArray),.string (⟨#[]⟩ : ByteArray),.slice none 0 0,.slice none 0 0]) ?_ 0 _;(with_reducible repeat (first|refine blk_drewN ?_ _|refine blk_drew ?_|refine blk_alloc ?_ _));exact BK212.out) hb) (Aside0.mk (below_step (hb_ HB) hb)));clear BK208 BK212 HB;obtain ⟨BK208,BK212,HB⟩:=n_;(try clear hb);(try clear hb2);(try clear hk);(try clear hi)))
         go_roundg k2
         case measure=>have:=HJ2.out;have:=HK2.out;omega
         case rel=>exact ⟨(wrap64 (x21_2 + 1)),rr_,(by first|exact H'|(subst_vars;exact H')),⟨by have:=HJ2.out;have:=HK2.out;omega⟩,⟨(bk_ BK208)⟩,⟨(hb_ HB)⟩⟩
        replace c25:=Bool.eq_false_iff.mpr c25;subst c25
        have H1 : (some false) = some r:=by rw [if_neg (show ¬ (false = true) by decide)] at H;exact H
        clear H;have H:=H1;clear H1;obtain rfl:=Option.some.inj H;have p211 : 0 ≤ (x21_2 : Int):=of_decide_eq_true aa_;have q211 : x21_2 < (l0_5.length : Int):=of_decide_eq_true aa_;obtain ⟨ad211,A211_4,c211_4,A211_5,c211_5,e211,hx211_0,hx211_1,hx211_2,hx211_3,hx211_4,hx211_5,hl211_4,hi211_4,hl211_5,hi211_5⟩:=at_T25 HR0_5.out x21_2 p211 q211;cases e211;replace hx211_0:=(HB.out.cell (World.block_lt_of_cell? w _ hx211_0)).trans hx211_0;replace hx211_1:=(HB.out.cell (World.block_lt_of_cell? w _ hx211_1)).trans hx211_1;replace hx211_2:=(HB.out.cell (World.block_lt_of_cell? w _ hx211_2)).trans hx211_2;replace hx211_3:=(HB.out.cell (World.block_lt_of_cell? w _ hx211_3)).trans hx211_3;replace hx211_4:=(HB.out.cell (World.block_lt_of_cell? w _ hx211_4)).trans hx211_4;replace hx211_5:=(HB.out.cell (World.block_lt_of_cell? w _ hx211_5)).trans hx211_5;have HR211_4:=Aside0.mk hi211_4;have HC211_4:=Aside0.mk hl211_4;clear hi211_4 hl211_4;have HR211_5:=Aside0.mk hi211_5;have HC211_5:=Aside0.mk hl211_5;clear hi211_5 hl211_5;replace p211:=eq_true p211;replace q211:=eq_true q211
        go_wp2_with (first|((with_reducible refine gate_dst (N:=6) rfl ?_);refine box_event ?hg (N:=6) ?hd (cs:=#[.int .i64 0,.bool false,.string (⟨#[]⟩ : ByteArray),.string (⟨#[]⟩ : ByteArray),.slice none 0 0,.slice none 0 0]) (t:=25) ?hr ?_;(case hd=>rfl);(case hg=>rfl);(case hr=>first|(go_simp;done)|(go_simp;rfl));intro gb212 hg w30 hbox hb;have n_:=J_ (bkb_ BK208 hb) (J_ (below_step (hb_ HB) hb) (J_ (hbox) (J_ (bs_ hg HB) (J_ (bs_ hg HB) (J_ ((by rw [hg];exact Nat.ne_of_lt (bkl_ BK208) : gb208 ≠ gb212)) (Aside0.mk ((by rw [hg];exact Nat.ne_of_gt (bkl_ BK208) : gb212 ≠ gb208))))))));clear BK208 HB;obtain ⟨BK208,HB,BK212,GW212,GE212,NB208_212,NB212_208⟩:=n_;clear hb hbox hg;have hnb31:=NB212_208.out;have hnc31:=NB208_212.out;obtain ⟨hcz32_0,hcz32_1,hcz32_2,hcz32_3,hcz32_4,hcz32_5,hfz32_0,hfz32_1,hfz32_2,hfz32_3,hfz32_4,hfz32_5⟩:=cf6_ BK212)|((with_reducible refine gate_callee (f:=27) rfl ?_);refine goesL_ (some 28) rfl rfl Tryz.func27 (by kernel_rfl) rfl #[.agg #[.int .i64 ((rd_T25 l0_5 x21_2).f0),.bool ((rd_T25 l0_5 x21_2).f1),.string ((rd_T25 l0_5 x21_2).f2),.string ((rd_T25 l0_5 x21_2).f3),.slice A211_4 ((rd_T25 l0_5 x21_2).f4).length c211_4,.slice A211_5 ((rd_T25 l0_5 x21_2).f5).length c211_5],.int .i64 (wrap64 (a1 - 1))] rfl am_ ?_;(with_reducible refine (ih k2 (by have:=HJ2.out;have:=HK2.out;omega) ((rd_T25 l0_5 x21_2).f0) ((rd_T25 l0_5 x21_2).f1) ((rd_T25 l0_5 x21_2).f2) ((rd_T25 l0_5 x21_2).f3) _ _ ((rd_T25 l0_5 x21_2).f4) _ _ ((rd_T25 l0_5 x21_2).f5) (wrap64 (a1 - 1)) false _ ?side1 ?side2 ?side3 ?side4 A24.out).mono ?_);(case side1=>exact Kd.C_below HR211_4.out (hb_ HB));(case side2=>exact HC211_4.out);(case side3=>exact Kd.C_below HR211_5.out (hb_ HB));(case side4=>exact HC211_5.out);rintro e w33 ⟨rfl,hb⟩;refine ⟨_,rfl,?_⟩;have n_:=J_ (blk_below (g:=gb208) (o:=.cells #[.int .i64 a0_0,.bool a0_1,.string a0_2,.string a0_3,.slice A0_4 l0_4.length c0_4,.slice (some ad211) l0_5.length c0_5] 25 (0,0)) ((bf_ NB208_212 BK208)) hb) (J_ (blk_below (g:=gb212) (o:=.cells #[.int .i64 ((rd_T25 l0_5 x21_2).f0),.bool ((rd_T25 l0_5 x21_2).f1),.string ((rd_T25 l0_5 x21_2).f2),.string ((rd_T25 l0_5 x21_2).f3),.slice A211_4 ((rd_T25 l0_5 x21_2).f4).length c211_4,.slice A211_5 ((rd_T25 l0_5 x21_2).f5).length c211_5] 25 (0,0)) (by (with_reducible repeat (first|refine blk_drewN ?_ _|refine blk_drew ?_|refine blk_alloc ?_ _));refine bp_ (cs:=#[.int .i64 ((rd_T25 l0_5 x21_2).f0),.bool ((rd_T25 l0_5 x21_2).f1),.string ((rd_T25 l0_5 x21_2).f2),.string ((rd_T25 l0_5 x21_2).f3),.slice A211_4 ((rd_T25 l0_5 x21_2).f4).length c211_4,.slice none 0 0]) ?_ 5 _;refine bp_ (cs:=#[.int .i64 ((rd_T25 l0_5 x21_2).f0),.bool ((rd_T25 l0_5 x21_2).f1),.string ((rd_T25 l0_5 x21_2).f2),.string ((rd_T25 l0_5 x21_2).f3),.slice none 0 0,.slice none 0 0]) ?_ 4 _;refine bp_ (cs:=#[.int .i64 ((rd_T25 l0_5 x21_2).f0),.bool ((rd_T25 l0_5 x21_2).f1),.string ((rd_T25 l0_5 x21_2).f2),.string (⟨#[]⟩ : ByteArray),.slice none 0 0,.slice none 0 0]) ?_ 3 _;refine bp_ (cs:=#[.int .i64 ((rd_T25 l0_5 x21_2).f0),.bool ((rd_T25 l0_5 x21_2).f1),.string (⟨#[]⟩ : ByteArray),.string (⟨#[]⟩ : ByteArray),.slice none 0 0,.slice none 0 0]) ?_ 2 _;refine bp_ (cs:=#[.int .i64 ((rd_T25 l0_5 x21_2).f0),.bool false,.string (⟨#[]⟩ : ByteArray),.string (⟨#[]⟩ : ByteArray),.slice none 0 0,.slice none 0 0]) ?_ 1 _;refine bp_ (cs:=#[.int .i64 0,.bool false,.string (⟨#[]⟩ : ByteArray),.string (⟨#[]⟩ : ByteArray),.slice none 0 0,.slice none 0 0]) ?_ 0 _;(with_reducible repeat (first|refine blk_drewN ?_ _|refine blk_drew ?_|refine blk_alloc ?_ _));exact BK212.out) hb) (Aside0.mk (below_step (hb_ HB) hb)));clear BK208 BK212 HB;obtain ⟨BK208,BK212,HB⟩:=n_;(try clear hb);(try clear hb2);(try clear hk);(try clear hi)))
        go_ret;exact ⟨er_,(hb_ HB)⟩
       rw [if_neg c23] at H
       exact absurd H (by simp)
      rw [if_neg c22] at H
      exact absurd H (by simp)
     rw [if_neg c21] at H
     have c21b0 : decide (x21_2 < (l0_5.length : Int)) = false:=decide_eq_false c21;clear c21;obtain rfl:=Option.some.inj H;go_wp2
     go_ret;exact ⟨er_,(hb_ HB)⟩
def tree_Formed.f (k : Nat) (a0_0 : Int) (a0_1 : Bool) (a0_2 : ByteArray) (a0_3 : ByteArray) (l0_4 : List ByteArray) (l0_5 : List (S25)) : Option (Bool):=(tree_formed.f k a0_0 a0_1 a0_2 a0_3 l0_4 l0_5 1024).bind fun t215=>(some t215)
theorem tree_Formed.mono : ∀ a0 a1 a2 a3 a4 a5 k,LeO (tree_Formed.f k a0 a1 a2 a3 a4 a5) (tree_Formed.f (k + 1) a0 a1 a2 a3 a4 a5):=by
 intro a0 a1 a2 a3 a4 a5 k
 unfold tree_Formed.f
 repeat' first
   | (with_reducible exact tree_formed.mono _ _ _ _ _ _ _ _)
   | (with_reducible exact LeO.refl _)
   | (with_reducible exact LeO.none _)
   | (with_reducible refine LeO.ite ?_ ?_)
   | (with_reducible refine LeO.bind ?_ (fun _=>?_))
   | exact LeO.none _
   | refine LeO.ite ?_ ?_
   | refine LeO.bind ?_ (fun _=>?_)
set_option maxHeartbeats 8000000 in
set_option maxRecDepth 100000 in
theorem tree_Formed.calls (k : Nat) (a0_0 : Int) (a0_1 : Bool) (a0_2 : ByteArray) (a0_3 : ByteArray) (A0_4 : Option Addr) (c0_4 : Nat) (l0_4 : List ByteArray) (A0_5 : Option Addr) (c0_5 : Nat) (l0_5 : List (S25)) (r : Bool) (w : World) (hr0_4 : Kd.C Kd.string w A0_4 l0_4.length l0_4) (hc0_4 : l0_4.length ≤ c0_4) (hr0_5 : Kd.C k25 w A0_5 l0_5.length l0_5) (hc0_5 : l0_5.length ≤ c0_5) (h : tree_Formed.f k a0_0 a0_1 a0_2 a0_3 l0_4 l0_5 = some r) :
  Calls Tryz.prog 19 #[.agg #[.int .i64 a0_0,.bool a0_1,.string a0_2,.string a0_3,.slice A0_4 l0_4.length c0_4,.slice A0_5 l0_5.length c0_5]] w fun e w'=>e = .returned (.bool r) ∧ Below w.heap.size w w':=by
 have hu25:=Tryz.underlying25;have HR0_4:=Aside0.mk hr0_4;have HC0_4:=Aside0.mk hc0_4;clear hr0_4 hc0_4;have HR0_5:=Aside0.mk hr0_5;have HC0_5:=Aside0.mk hc0_5;clear hr0_5 hc0_5;have HB:=Aside0.mk (Below.refl w.heap.size w);have H : ((tree_formed.f k a0_0 a0_1 a0_2 a0_3 l0_4 l0_5 1024).bind fun t215=>(some t215)) = some r:=h;clear h;replace H:=Option.bind_eq_some_iff.mp H;obtain ⟨t215,A20,H⟩:=H;replace H : (some t215) = some r:=H;have A2:=Aside0.mk A20;clear A20;obtain rfl:=Option.some.inj H;go_enter Tryz.func19,Tryz.ntmps19
 go_wp2_with (first|((with_reducible refine gate_dst (N:=1) rfl ?_);refine box_event ?hg (N:=1) ?hd (cs:=#[.int .i64 a0_0,.bool a0_1,.string a0_2,.string a0_3,.slice A0_4 l0_4.length c0_4,.slice A0_5 l0_5.length c0_5]) (t:=25) ?hr ?_;(case hd=>rfl);(case hg=>rfl);(case hr=>first|(go_simp;done)|(go_simp;rfl));intro gb214 hg w3 hbox hb;have n_:=J_ (below_step (hb_ HB) hb) (J_ (hbox) (J_ (bs_ hg HB) (Aside0.mk (bs_ hg HB))));clear HB;obtain ⟨HB,BK214,GW214,GE214⟩:=n_;clear hb hbox hg;obtain ⟨hcz4_0,hcz4_1,hcz4_2,hcz4_3,hcz4_4,hcz4_5,hfz4_0,hfz4_1,hfz4_2,hfz4_3,hfz4_4,hfz4_5⟩:=cf6_ BK214)|((with_reducible refine gate_callee (f:=27) rfl ?_);refine goesL_ (some 4) rfl rfl Tryz.func27 (by kernel_rfl) rfl #[.agg #[.int .i64 a0_0,.bool a0_1,.string a0_2,.string a0_3,.slice A0_4 l0_4.length c0_4,.slice A0_5 l0_5.length c0_5],.int .i64 1024] rfl am_ ?_;(with_reducible refine (tree_formed.calls k a0_0 a0_1 a0_2 a0_3 _ _ l0_4 _ _ l0_5 1024 t215 _ ?side1 ?side2 ?side3 ?side4 A2.out).mono ?_);(case side1=>repeat (first|exact (Kd.C_below HR0_4.out HB.out)|(with_reducible refine Kd.C_alloc ?_ _)|(with_reducible refine Kd.C_drewN ?_ _)|(with_reducible refine Kd.C_drew ?_)));(case side2=>exact HC0_4.out);(case side3=>repeat (first|exact (Kd.C_below HR0_5.out HB.out)|(with_reducible refine Kd.C_alloc ?_ _)|(with_reducible refine Kd.C_drewN ?_ _)|(with_reducible refine Kd.C_drew ?_)));(case side4=>exact HC0_5.out);rintro e w5 ⟨rfl,hb⟩;refine ⟨_,rfl,?_⟩;have n_:=J_ (bkb_ BK214 hb) (Aside0.mk (below_step (hb_ HB) hb));clear BK214 HB;obtain ⟨BK214,HB⟩:=n_;(try clear hb);(try clear hb2);(try clear hk);(try clear hi)))
 go_ret;exact ⟨er_,(hb_ HB)⟩
def decimal_Formed.l0 : Nat → Int → Int → Bool → ByteArray → Int → Option (Bool)
 | 0,_,_,_,_,_=>none
 | k + 1,x12,x13,x217000,x217001,x217002=>if x13 < x12 then (if 0 ≤ x13 then (if x13 < (x217001.size : Int) then (if (((bt x217001 x13) - 48) % 256) > 9 then (some false) else (decimal_Formed.l0 k x12 (wrap64 (x13 + 1)) x217000 x217001 x217002)) else (none)) else (none)) else (if 0 < (x217001.size : Int) then (if (bt x217001 0) = 48 then (some false) else (if 0 ≤ (wrap64 ((x217001.size : Int) - 1)) then (if (wrap64 ((x217001.size : Int) - 1)) < (x217001.size : Int) then (if (bt x217001 (wrap64 ((x217001.size : Int) - 1))) = 48 then (some false) else (if (-1073741824) ≤ x217002 then (some (decide (x217002 ≤ 1073741824))) else (some false))) else (none)) else (none))) else (none))
def decimal_Formed.f (k : Nat) (a0_0 : Bool) (a0_1 : ByteArray) (a0_2 : Int) : Option (Bool):=if a0_1.toList = ([] : List UInt8) then (some (a0_2 == 0)) else (decimal_Formed.l0 k (a0_1.size : Int) 0 a0_0 a0_1 a0_2)
theorem decimal_Formed.mono_l : ∀ k,(∀ y0 y1 y2 y3 y4,LeO (decimal_Formed.l0 k y0 y1 y2 y3 y4) (decimal_Formed.l0 (k + 1) y0 y1 y2 y3 y4))
 | 0=>fun _ _ _ _ _ r h=>by simp [decimal_Formed.l0] at h
 | k + 1=>by
  have ih0:=decimal_Formed.mono_l k;intro y0 y1 y2 y3 y4
  unfold decimal_Formed.l0
  repeat' first
  | (with_reducible exact ih0 _ _ _ _ _)
  | (with_reducible exact LeO.refl _)
  | (with_reducible exact LeO.none _)
  | (with_reducible refine LeO.ite ?_ ?_)
  | (with_reducible refine LeO.bind ?_ (fun _=>?_))
  | exact ih0 _ _ _ _ _
  | exact LeO.none _
  | refine LeO.ite ?_ ?_
  | refine LeO.bind ?_ (fun _=>?_)
theorem decimal_Formed.mono : ∀ a0 a1 a2 k,LeO (decimal_Formed.f k a0 a1 a2) (decimal_Formed.f (k + 1) a0 a1 a2):=by
 intro a0 a1 a2 k;have ih0:=decimal_Formed.mono_l k
 unfold decimal_Formed.f
 repeat' first
   | (with_reducible exact ih0 _ _ _ _ _)
   | (with_reducible exact LeO.refl _)
   | (with_reducible exact LeO.none _)
   | (with_reducible refine LeO.ite ?_ ?_)
   | (with_reducible refine LeO.bind ?_ (fun _=>?_))
   | exact ih0 _ _ _ _ _
   | exact LeO.none _
   | refine LeO.ite ?_ ?_
   | refine LeO.bind ?_ (fun _=>?_)
set_option maxHeartbeats 8000000 in
set_option maxRecDepth 100000 in
theorem decimal_Formed.calls (k : Nat) (a0_0 : Bool) (a0_1 : ByteArray) (a0_2 : Int) (r : Bool) (w : World) (h : decimal_Formed.f k a0_0 a0_1 a0_2 = some r) :
  Calls Tryz.prog 60 #[.agg #[.bool a0_0,.string a0_1,.int .i64 a0_2]] w fun e w'=>e = .returned (.bool r) ∧ Below w.heap.size w w':=by
 have hu81:=Tryz.underlying81;have HB:=Aside0.mk (Below.refl w.heap.size w);have H : (if a0_1.toList = ([] : List UInt8) then (some (a0_2 == 0)) else (decimal_Formed.l0 k (a0_1.size : Int) 0 a0_0 a0_1 a0_2)) = some r:=h;clear h
 by_cases c2 : a0_1.toList = ([] : List UInt8)
 ·rw [if_pos c2] at H
  have c2b0 : (a0_1.toList == ([] : List UInt8)) = true:=beq_iff_eq.mpr c2;have c2b1 : (a0_1.toList != ([] : List UInt8)) = false:=bne_eq_false_iff_eq.mpr c2;clear c2;obtain rfl:=Option.some.inj H;go_enter Tryz.func60,Tryz.ntmps60
  go_wp2_with (first|((with_reducible refine gate_dst (N:=1) rfl ?_);(try (refine gate_guard (by rfl) ?_;dsimp only));refine box_event ?hg (N:=1) ?hd (cs:=#[.bool a0_0,.string a0_1,.int .i64 a0_2]) (t:=81) ?hr ?_;(case hd=>rfl);(case hg=>rfl);(case hr=>first|(go_simp;done)|(go_simp;rfl));intro gb216 hg w3 hbox hb;have n_:=J_ (below_step (hb_ HB) hb) (J_ (hbox) (J_ (bs_ hg HB) (Aside0.mk (bs_ hg HB))));clear HB;obtain ⟨HB,BK216,GW216,GE216⟩:=n_;clear hb hbox hg;obtain ⟨hcz4_0,hcz4_1,hcz4_2,hfz4_0,hfz4_1,hfz4_2⟩:=cf3_ BK216))
  go_ret;exact ⟨er_,(hb_ HB)⟩
 rw [if_neg c2] at H
 have c2b0 : (a0_1.toList == ([] : List UInt8)) = false:=beq_eq_false_iff_ne.mpr c2;have c2b1 : (a0_1.toList != ([] : List UInt8)) = true:=bne_iff_ne.mpr c2;have H':=Aside0.mk H;clear H;go_enter Tryz.func60,Tryz.ntmps60
 go_wp2_with (first|((with_reducible refine gate_dst (N:=1) rfl ?_);(try (refine gate_guard (by rfl) ?_;dsimp only));refine box_event ?hg (N:=1) ?hd (cs:=#[.bool a0_0,.string a0_1,.int .i64 a0_2]) (t:=81) ?hr ?_;(case hd=>rfl);(case hg=>rfl);(case hr=>first|(go_simp;done)|(go_simp;rfl));intro gb216 hg w5 hbox hb;have n_:=J_ (below_step (hb_ HB) hb) (J_ (hbox) (J_ (bs_ hg HB) (Aside0.mk (bs_ hg HB))));clear HB;obtain ⟨HB,BK216,GW216,GE216⟩:=n_;clear hb hbox hg;obtain ⟨hcz6_0,hcz6_1,hcz6_2,hfz6_0,hfz6_1,hfz6_2⟩:=cf3_ BK216))
 go_loopg [13] k (fun kq v13 w'=>∃ (x13_1 : Int),v13 = .int .i64 x13_1 ∧ Aside0 (decimal_Formed.l0 kq (a0_1.size : Int) x13_1 a0_0 a0_1 a0_2 = some r) ∧ Aside0 (kq ≤ k) ∧ Aside0 (w'.heap[gb216]? = some (.cells #[.bool a0_0,.string a0_1,.int .i64 a0_2] 81 (0,0))) ∧ Aside0 (Below w.heap.size w w'))
 case atStart=>exact ⟨(0),rr_,H',⟨Nat.le_refl _⟩,⟨(bk_ BK216)⟩,⟨(hb_ HB)⟩⟩
 case round =>
  clear H'
  try clear BK216
  try clear HB
  obtain ⟨x13_1,rfl,HA,HK1,BK216,HB⟩:=hrel
  cases gk with
  | zero=>exact absurd HA.out (by simp [decimal_Formed.l0])
  | succ k1 =>
   have H:=HA.out;clear HA
   simp only [decimal_Formed.l0] at H
   by_cases c7 : x13_1 < (a0_1.size : Int)
   ·rw [if_pos c7] at H
    have c7b0 : decide (x13_1 < (a0_1.size : Int)) = true:=decide_eq_true c7;clear c7
    by_cases c8 : 0 ≤ x13_1
    ·rw [if_pos c8] at H
     have c8b0 : decide (0 ≤ x13_1) = true:=decide_eq_true c8;clear c8
     by_cases c9 : x13_1 < (a0_1.size : Int)
     ·rw [if_pos c9] at H
      have c9b0 : decide (x13_1 < (a0_1.size : Int)) = true:=decide_eq_true c9;clear c9
      by_cases c11 : (((bt a0_1 x13_1) - 48) % 256) > 9
      ·rw [if_pos c11] at H
       have c11b0 : decide (9 < (((bt a0_1 x13_1) - 48) % 256)) = true:=decide_eq_true c11;clear c11;obtain rfl:=Option.some.inj H;obtain ⟨hcz12_0,hcz12_1,hcz12_2,hfz12_0,hfz12_1,hfz12_2⟩:=cf3_ BK216;have p10 : 0 ≤ (x13_1 : Int):=of_decide_eq_true aa_;have q10 : x13_1 < (a0_1.size : Int):=of_decide_eq_true aa_;have hx10:=bt_at a0_1 x13_1;replace p10:=eq_true p10;replace q10:=eq_true q10;go_wp2
       go_ret;exact ⟨er_,(hb_ HB)⟩
      rw [if_neg c11] at H
      have c11b0 : decide (9 < (((bt a0_1 x13_1) - 48) % 256)) = false:=decide_eq_false c11;clear c11;have H':=Aside0.mk H;clear H;obtain ⟨hcz13_0,hcz13_1,hcz13_2,hfz13_0,hfz13_1,hfz13_2⟩:=cf3_ BK216;have p10 : 0 ≤ (x13_1 : Int):=of_decide_eq_true aa_;have q10 : x13_1 < (a0_1.size : Int):=of_decide_eq_true aa_;have hx10:=bt_at a0_1 x13_1;replace p10:=eq_true p10;replace q10:=eq_true q10;go_wp2
      go_roundg k1
      case measure=>have:=HK1.out;omega
      case rel=>exact ⟨(wrap64 (x13_1 + 1)),rr_,(by first|exact H'|(subst_vars;exact H')),⟨by have:=HK1.out;omega⟩,⟨(bk_ BK216)⟩,⟨(hb_ HB)⟩⟩
     rw [if_neg c9] at H
     exact absurd H (by simp)
    rw [if_neg c8] at H
    exact absurd H (by simp)
   rw [if_neg c7] at H
   have c7b0 : decide (x13_1 < (a0_1.size : Int)) = false:=decide_eq_false c7;clear c7
   by_cases c14 : 0 < (a0_1.size : Int)
   ·rw [if_pos c14] at H
    have c14b0 : decide (0 < (a0_1.size : Int)) = true:=decide_eq_true c14;have c14b1 : decide (0 < a0_1.size) = true:=decide_eq_true (by omega);clear c14
    by_cases c16 : (bt a0_1 0) = 48
    ·rw [if_pos c16] at H
     have c16b0 : ((bt a0_1 0) == 48) = true:=beq_iff_eq.mpr c16;have c16b1 : ((bt a0_1 0) != 48) = false:=bne_eq_false_iff_eq.mpr c16;clear c16;obtain rfl:=Option.some.inj H;obtain ⟨hcz17_0,hcz17_1,hcz17_2,hfz17_0,hfz17_1,hfz17_2⟩:=cf3_ BK216;have p15 : 0 ≤ (0 : Int):=(by omega);have q15 : 0 < a0_1.size:=(by have : (0 : Int) < (a0_1.size : Int):=(by first|exact of_decide_eq_true aa_|exact of_eq_true aa_|omega);omega)
     have hx15 : ∀ h : 0 < a0_1.size,((a0_1[0]'h).toNat : Int) = bt a0_1 0:=bt_at a0_1 0
     clear p15;have qi15 : (0 < (a0_1.size : Int)) = True:=eq_true (of_decide_eq_true aa_);replace q15:=eq_true q15;go_wp2
     go_ret;exact ⟨er_,(hb_ HB)⟩
    rw [if_neg c16] at H
    have c16b0 : ((bt a0_1 0) == 48) = false:=beq_eq_false_iff_ne.mpr c16;have c16b1 : ((bt a0_1 0) != 48) = true:=bne_iff_ne.mpr c16
    obtain ⟨ji18,hji18⟩ : ∃ j_ : Int,(wrap64 ((a0_1.size : Int) - 1)) = j_:=⟨_,rfl⟩
    replace H : (if 0 ≤ (ji18) then (if (ji18) < (a0_1.size : Int) then (if (bt a0_1 (ji18)) = 48 then (some false) else (if (-1073741824) ≤ a0_2 then (some (decide (a0_2 ≤ 1073741824))) else (some false))) else (none)) else (none)) = some r:=by first|(rw [hji18] at H;exact H)|(simp only [hji18] at H ⊢;exact H)
    have hji18w : (IntKind.i64.wrap ((a0_1.size : Int) - 1)) = ji18:=(i64_w _).trans hji18
    by_cases c19 : 0 ≤ (ji18)
    ·rw [if_pos c19] at H
     have c19b0 : decide (0 ≤ (ji18)) = true:=decide_eq_true c19;clear c19
     by_cases c20 : (ji18) < (a0_1.size : Int)
     ·rw [if_pos c20] at H
      have c20b0 : decide ((ji18) < (a0_1.size : Int)) = true:=decide_eq_true c20;clear c20
      by_cases c22 : (bt a0_1 (ji18)) = 48
      ·rw [if_pos c22] at H
       have c22b0 : ((bt a0_1 (ji18)) == 48) = true:=beq_iff_eq.mpr c22;have c22b1 : ((bt a0_1 (ji18)) != 48) = false:=bne_eq_false_iff_eq.mpr c22;clear c22;obtain rfl:=Option.some.inj H;obtain ⟨hcz23_0,hcz23_1,hcz23_2,hfz23_0,hfz23_1,hfz23_2⟩:=cf3_ BK216;have p15 : 0 ≤ (0 : Int):=(by omega);have q15 : 0 < a0_1.size:=(by have : (0 : Int) < (a0_1.size : Int):=(by first|exact of_decide_eq_true aa_|exact of_eq_true aa_|omega);omega)
       have hx15 : ∀ h : 0 < a0_1.size,((a0_1[0]'h).toNat : Int) = bt a0_1 0:=bt_at a0_1 0
       clear p15;have qi15 : (0 < (a0_1.size : Int)) = True:=eq_true (of_decide_eq_true aa_);replace q15:=eq_true q15;have p21 : 0 ≤ ((ji18) : Int):=of_decide_eq_true aa_;have q21 : (ji18) < (a0_1.size : Int):=of_decide_eq_true aa_;have hx21:=bt_at a0_1 (ji18);replace p21:=eq_true p21;replace q21:=eq_true q21;go_wp2
       go_ret;exact ⟨by first|rfl|(simp [errW_none,errW_some] <;> rfl)|(simp only [← hji18];first|rfl|(simp [errW_none,errW_some] <;> rfl))|(simp [*,errW_none,errW_some] <;> rfl),(hb_ HB)⟩
      rw [if_neg c22] at H
      have c22b0 : ((bt a0_1 (ji18)) == 48) = false:=beq_eq_false_iff_ne.mpr c22;have c22b1 : ((bt a0_1 (ji18)) != 48) = true:=bne_iff_ne.mpr c22
      by_cases c24 : (-1073741824) ≤ a0_2
      ·rw [if_pos c24] at H
       have c24b0 : decide ((-1073741824) ≤ a0_2) = true:=decide_eq_true c24;clear c24;obtain rfl:=Option.some.inj H;obtain ⟨hcz25_0,hcz25_1,hcz25_2,hfz25_0,hfz25_1,hfz25_2⟩:=cf3_ BK216;have p15 : 0 ≤ (0 : Int):=(by omega);have q15 : 0 < a0_1.size:=(by have : (0 : Int) < (a0_1.size : Int):=(by first|exact of_decide_eq_true aa_|exact of_eq_true aa_|omega);omega)
       have hx15 : ∀ h : 0 < a0_1.size,((a0_1[0]'h).toNat : Int) = bt a0_1 0:=bt_at a0_1 0
       clear p15;have qi15 : (0 < (a0_1.size : Int)) = True:=eq_true (of_decide_eq_true aa_);replace q15:=eq_true q15;have p21 : 0 ≤ ((ji18) : Int):=of_decide_eq_true aa_;have q21 : (ji18) < (a0_1.size : Int):=of_decide_eq_true aa_;have hx21:=bt_at a0_1 (ji18);replace p21:=eq_true p21;replace q21:=eq_true q21;go_wp2
       go_ret;exact ⟨by first|rfl|(simp [errW_none,errW_some] <;> rfl)|(simp only [← hji18];first|rfl|(simp [errW_none,errW_some] <;> rfl))|(simp [*,errW_none,errW_some] <;> rfl),(hb_ HB)⟩
      rw [if_neg c24] at H
      have c24b0 : decide ((-1073741824) ≤ a0_2) = false:=decide_eq_false c24;clear c24;obtain rfl:=Option.some.inj H;obtain ⟨hcz26_0,hcz26_1,hcz26_2,hfz26_0,hfz26_1,hfz26_2⟩:=cf3_ BK216;have p15 : 0 ≤ (0 : Int):=(by omega);have q15 : 0 < a0_1.size:=(by have : (0 : Int) < (a0_1.size : Int):=(by first|exact of_decide_eq_true aa_|exact of_eq_true aa_|omega);omega)
      have hx15 : ∀ h : 0 < a0_1.size,((a0_1[0]'h).toNat : Int) = bt a0_1 0:=bt_at a0_1 0
      clear p15;have qi15 : (0 < (a0_1.size : Int)) = True:=eq_true (of_decide_eq_true aa_);replace q15:=eq_true q15;have p21 : 0 ≤ ((ji18) : Int):=of_decide_eq_true aa_;have q21 : (ji18) < (a0_1.size : Int):=of_decide_eq_true aa_;have hx21:=bt_at a0_1 (ji18);replace p21:=eq_true p21;replace q21:=eq_true q21;go_wp2
      go_ret;exact ⟨by first|rfl|(simp [errW_none,errW_some] <;> rfl)|(simp only [← hji18];first|rfl|(simp [errW_none,errW_some] <;> rfl))|(simp [*,errW_none,errW_some] <;> rfl),(hb_ HB)⟩
     rw [if_neg c20] at H
     exact absurd H (by simp)
    rw [if_neg c19] at H
    exact absurd H (by simp)
   rw [if_neg c14] at H
   exact absurd H (by simp)
end Go.Proofs.YtlgamjgdkljfiacGreatDoor.PWritePretties
