-- Written by shrink.py, a program of this session: what the law needs of the print and its words. Lean checks it.
import Derived.Test.YtfaegleohhemkaaDoorZPPointerLikesx0
import Derived.Test.YtfaegleohhemkaaDoorZPPointerLikesx13
import Derived.Test.YtfaegleohhemkaaDoorZPPointerLikesx17
namespace Go.Proofs.YtfaegleohhemkaaDoor.PPointerLikes
open Go.RowKit Go.Proofs.YtfaegleohhemkaaDoorW.PrintWords Go.Proofs.YtfaegleohhemkaaDoorW.PrintLast Go.Proofs.YtfaegleohhemkaaDoorW.PrintMore
attribute [local go_sem] max2_int min2_int max_two min_two max_three min_three max_four min_four
set_option linter.unusedVariables false
set_option linter.unusedSimpArgs false
def tree_Alike.f (k : Nat) (a0_0 : Int) (a0_1 : Bool) (a0_2 : ByteArray) (a0_3 : ByteArray) (l0_4 : List ByteArray) (l0_5 : List (S25)) (a1_0 : Int) (a1_1 : Bool) (a1_2 : ByteArray) (a1_3 : ByteArray) (l1_4 : List ByteArray) (l1_5 : List (S25)) : Option (Bool):=(tree_Formed.f k a0_0 a0_1 a0_2 a0_3 l0_4 l0_5).bind fun t157=>(if t157 = true then ((tree_Formed.f k a1_0 a1_1 a1_2 a1_3 l1_4 l1_5).bind fun t158=>(if t158 = true then ((tree_alike.f k a0_0 a0_1 a0_2 a0_3 l0_4 l0_5 a1_0 a1_1 a1_2 a1_3 l1_4 l1_5).bind fun t159=>(some t159)) else (some false))) else (some false))
set_option maxHeartbeats 8000000 in
set_option maxRecDepth 100000 in
theorem tree_Alike.calls (k : Nat) (a0_0 : Int) (a0_1 : Bool) (a0_2 : ByteArray) (a0_3 : ByteArray) (A0_4 : Option Addr) (c0_4 : Nat) (l0_4 : List ByteArray) (A0_5 : Option Addr) (c0_5 : Nat) (l0_5 : List (S25)) (a1_0 : Int) (a1_1 : Bool) (a1_2 : ByteArray) (a1_3 : ByteArray) (A1_4 : Option Addr) (c1_4 : Nat) (l1_4 : List ByteArray) (A1_5 : Option Addr) (c1_5 : Nat) (l1_5 : List (S25)) (r : Bool) (w : World) (hr0_4 : Kd.C Kd.string w A0_4 l0_4.length l0_4) (hc0_4 : l0_4.length ≤ c0_4) (hr0_5 : Kd.C k25 w A0_5 l0_5.length l0_5) (hc0_5 : l0_5.length ≤ c0_5) (hr1_4 : Kd.C Kd.string w A1_4 l1_4.length l1_4) (hc1_4 : l1_4.length ≤ c1_4) (hr1_5 : Kd.C k25 w A1_5 l1_5.length l1_5) (hc1_5 : l1_5.length ≤ c1_5) (h : tree_Alike.f k a0_0 a0_1 a0_2 a0_3 l0_4 l0_5 a1_0 a1_1 a1_2 a1_3 l1_4 l1_5 = some r) :
  Calls Tryd.prog 7 #[.agg #[.int .i64 a0_0,.bool a0_1,.string a0_2,.string a0_3,.slice A0_4 l0_4.length c0_4,.slice A0_5 l0_5.length c0_5],.agg #[.int .i64 a1_0,.bool a1_1,.string a1_2,.string a1_3,.slice A1_4 l1_4.length c1_4,.slice A1_5 l1_5.length c1_5]] w fun e w'=>e = .returned (.bool r) ∧ Below w.heap.size w w':=by
 have hu25:=Tryd.underlying25;have HR0_4:=Aside0.mk hr0_4;have HC0_4:=Aside0.mk hc0_4;clear hr0_4 hc0_4;have HR0_5:=Aside0.mk hr0_5;have HC0_5:=Aside0.mk hc0_5;clear hr0_5 hc0_5;have HR1_4:=Aside0.mk hr1_4;have HC1_4:=Aside0.mk hc1_4;clear hr1_4 hc1_4;have HR1_5:=Aside0.mk hr1_5;have HC1_5:=Aside0.mk hc1_5;clear hr1_5 hc1_5;have HB:=Aside0.mk (Below.refl w.heap.size w);have H : ((tree_Formed.f k a0_0 a0_1 a0_2 a0_3 l0_4 l0_5).bind fun t157=>(if t157 = true then ((tree_Formed.f k a1_0 a1_1 a1_2 a1_3 l1_4 l1_5).bind fun t158=>(if t158 = true then ((tree_alike.f k a0_0 a0_1 a0_2 a0_3 l0_4 l0_5 a1_0 a1_1 a1_2 a1_3 l1_4 l1_5).bind fun t159=>(some t159)) else (some false))) else (some false))) = some r:=h;clear h;replace H:=Option.bind_eq_some_iff.mp H;obtain ⟨t157,A30,H⟩:=H;replace H : (if t157 = true then ((tree_Formed.f k a1_0 a1_1 a1_2 a1_3 l1_4 l1_5).bind fun t158=>(if t158 = true then ((tree_alike.f k a0_0 a0_1 a0_2 a0_3 l0_4 l0_5 a1_0 a1_1 a1_2 a1_3 l1_4 l1_5).bind fun t159=>(some t159)) else (some false))) else (some false)) = some r:=H;have A3:=Aside0.mk A30;clear A30
 by_cases c4 : t157 = true
 ·subst c4
  have H1 : ((tree_Formed.f k a1_0 a1_1 a1_2 a1_3 l1_4 l1_5).bind fun t158=>(if t158 = true then ((tree_alike.f k a0_0 a0_1 a0_2 a0_3 l0_4 l0_5 a1_0 a1_1 a1_2 a1_3 l1_4 l1_5).bind fun t159=>(some t159)) else (some false))) = some r:=by rw [if_pos rfl] at H;exact H
  clear H;have H:=H1;clear H1;replace H:=Option.bind_eq_some_iff.mp H;obtain ⟨t158,A50,H⟩:=H;replace H : (if t158 = true then ((tree_alike.f k a0_0 a0_1 a0_2 a0_3 l0_4 l0_5 a1_0 a1_1 a1_2 a1_3 l1_4 l1_5).bind fun t159=>(some t159)) else (some false)) = some r:=H;have A5:=Aside0.mk A50;clear A50
  by_cases c6 : t158 = true
  ·subst c6
   have H1 : ((tree_alike.f k a0_0 a0_1 a0_2 a0_3 l0_4 l0_5 a1_0 a1_1 a1_2 a1_3 l1_4 l1_5).bind fun t159=>(some t159)) = some r:=by rw [if_pos rfl] at H;exact H
   clear H;have H:=H1;clear H1;replace H:=Option.bind_eq_some_iff.mp H;obtain ⟨t159,A70,H⟩:=H;replace H : (some t159) = some r:=H;have A7:=Aside0.mk A70;clear A70;obtain rfl:=Option.some.inj H;go_enter Tryd.func7,Tryd.ntmps7
   go_wp2_with (first|((with_reducible refine gate_dst (N:=2) rfl ?_);refine box_event ?hg (N:=2) ?hd (cs:=#[.int .i64 a0_0,.bool a0_1,.string a0_2,.string a0_3,.slice A0_4 l0_4.length c0_4,.slice A0_5 l0_5.length c0_5]) (t:=25) ?hr ?_;(case hd=>rfl);(case hg=>rfl);(case hr=>first|(go_simp;done)|(go_simp;rfl));intro gb155 hg w8 hbox hb;have n_:=J_ (below_step (hb_ HB) hb) (J_ (hbox) (J_ (bs_ hg HB) (Aside0.mk (bs_ hg HB))));clear HB;obtain ⟨HB,BK155,GW155,GE155⟩:=n_;clear hb hbox hg)|((with_reducible refine gate_dst (N:=3) rfl ?_);refine box_event ?hg (N:=3) ?hd (cs:=#[.int .i64 a1_0,.bool a1_1,.string a1_2,.string a1_3,.slice A1_4 l1_4.length c1_4,.slice A1_5 l1_5.length c1_5]) (t:=25) ?hr ?_;(case hd=>rfl);(case hg=>rfl);(case hr=>first|(go_simp;done)|(go_simp;rfl));intro gb156 hg w9 hbox hb;have n_:=J_ (bkb_ BK155 hb) (J_ (below_step (hb_ HB) hb) (J_ (hbox) (J_ (bs_ hg HB) (J_ (bs_ hg HB) (J_ ((by rw [hg];exact Nat.ne_of_lt (bkl_ BK155) : gb155 ≠ gb156)) (Aside0.mk ((by rw [hg];exact Nat.ne_of_gt (bkl_ BK155) : gb156 ≠ gb155))))))));clear BK155 HB;obtain ⟨BK155,HB,BK156,GW156,GE156,NB155_156,NB156_155⟩:=n_;clear hb hbox hg;have hnb10:=NB155_156.out;have hnc10:=NB156_155.out;obtain ⟨hcz11_0,hcz11_1,hcz11_2,hcz11_3,hcz11_4,hcz11_5,hfz11_0,hfz11_1,hfz11_2,hfz11_3,hfz11_4,hfz11_5⟩:=cf6_ BK155)|((with_reducible refine gate_callee (f:=15) rfl ?_);refine goesL_ (some 6) rfl rfl Tryd.func15 (by kernel_rfl) rfl #[.agg #[.int .i64 a0_0,.bool a0_1,.string a0_2,.string a0_3,.slice A0_4 l0_4.length c0_4,.slice A0_5 l0_5.length c0_5]] rfl am_ ?_;(with_reducible refine (tree_Formed.calls k a0_0 a0_1 a0_2 a0_3 _ _ l0_4 _ _ l0_5 true _ ?side1 ?side2 ?side3 ?side4 A3.out).mono ?_);(case side1=>repeat (first|exact (Kd.C_below HR0_4.out HB.out)|(with_reducible refine Kd.C_alloc ?_ _)|(with_reducible refine Kd.C_drewN ?_ _)|(with_reducible refine Kd.C_drew ?_)));(case side2=>exact HC0_4.out);(case side3=>repeat (first|exact (Kd.C_below HR0_5.out HB.out)|(with_reducible refine Kd.C_alloc ?_ _)|(with_reducible refine Kd.C_drewN ?_ _)|(with_reducible refine Kd.C_drew ?_)));(case side4=>exact HC0_5.out);rintro e w12 ⟨rfl,hb⟩;refine ⟨_,rfl,?_⟩;have n_:=J_ (bkb_ BK155 hb) (J_ (bkb_ BK156 hb) (Aside0.mk (below_step (hb_ HB) hb)));clear BK155 BK156 HB;obtain ⟨BK155,BK156,HB⟩:=n_;(try clear hb);(try clear hb2);(try clear hk);(try clear hi);obtain ⟨hcz13_0,hcz13_1,hcz13_2,hcz13_3,hcz13_4,hcz13_5,hfz13_0,hfz13_1,hfz13_2,hfz13_3,hfz13_4,hfz13_5⟩:=cf6_ BK156)|(go_at_call 15;(with_reducible refine (tree_Formed.calls k a1_0 a1_1 a1_2 a1_3 _ _ l1_4 _ _ l1_5 true _ ?side1 ?side2 ?side3 ?side4 A5.out).mono ?_);(case side1=>repeat (first|exact (Kd.C_below HR1_4.out HB.out)|(with_reducible refine Kd.C_alloc ?_ _)|(with_reducible refine Kd.C_drewN ?_ _)|(with_reducible refine Kd.C_drew ?_)));(case side2=>exact HC1_4.out);(case side3=>repeat (first|exact (Kd.C_below HR1_5.out HB.out)|(with_reducible refine Kd.C_alloc ?_ _)|(with_reducible refine Kd.C_drewN ?_ _)|(with_reducible refine Kd.C_drew ?_)));(case side4=>exact HC1_5.out);rintro e w14 ⟨rfl,hb⟩;have n_:=J_ (bkb_ BK155 hb) (J_ (bkb_ BK156 hb) (Aside0.mk (below_step (hb_ HB) hb)));clear BK155 BK156 HB;obtain ⟨BK155,BK156,HB⟩:=n_;(try clear hb);(try clear hb2);(try clear hk);(try clear hi);obtain ⟨hcz15_0,hcz15_1,hcz15_2,hcz15_3,hcz15_4,hcz15_5,hfz15_0,hfz15_1,hfz15_2,hfz15_3,hfz15_4,hfz15_5⟩:=cf6_ BK155;obtain ⟨hcz16_0,hcz16_1,hcz16_2,hcz16_3,hcz16_4,hcz16_5,hfz16_0,hfz16_1,hfz16_2,hfz16_3,hfz16_4,hfz16_5⟩:=cf6_ BK156)|(go_at_call 16;(with_reducible refine (tree_alike.calls k a0_0 a0_1 a0_2 a0_3 _ _ l0_4 _ _ l0_5 a1_0 a1_1 a1_2 a1_3 _ _ l1_4 _ _ l1_5 t159 _ ?side1 ?side2 ?side3 ?side4 ?side5 ?side6 ?side7 ?side8 A7.out).mono ?_);(case side1=>repeat (first|exact (Kd.C_below HR0_4.out HB.out)|(with_reducible refine Kd.C_alloc ?_ _)|(with_reducible refine Kd.C_drewN ?_ _)|(with_reducible refine Kd.C_drew ?_)));(case side2=>exact HC0_4.out);(case side3=>repeat (first|exact (Kd.C_below HR0_5.out HB.out)|(with_reducible refine Kd.C_alloc ?_ _)|(with_reducible refine Kd.C_drewN ?_ _)|(with_reducible refine Kd.C_drew ?_)));(case side4=>exact HC0_5.out);(case side5=>repeat (first|exact (Kd.C_below HR1_4.out HB.out)|(with_reducible refine Kd.C_alloc ?_ _)|(with_reducible refine Kd.C_drewN ?_ _)|(with_reducible refine Kd.C_drew ?_)));(case side6=>exact HC1_4.out);(case side7=>repeat (first|exact (Kd.C_below HR1_5.out HB.out)|(with_reducible refine Kd.C_alloc ?_ _)|(with_reducible refine Kd.C_drewN ?_ _)|(with_reducible refine Kd.C_drew ?_)));(case side8=>exact HC1_5.out);rintro e w17 ⟨rfl,hb⟩;have n_:=J_ (bkb_ BK155 hb) (J_ (bkb_ BK156 hb) (Aside0.mk (below_step (hb_ HB) hb)));clear BK155 BK156 HB;obtain ⟨BK155,BK156,HB⟩:=n_;(try clear hb);(try clear hb2);(try clear hk);(try clear hi)))
   go_ret;exact ⟨er_,(hb_ HB)⟩
  replace c6:=Bool.eq_false_iff.mpr c6;subst c6
  have H1 : (some false) = some r:=by rw [if_neg (show ¬ (false = true) by decide)] at H;exact H
  clear H;have H:=H1;clear H1;obtain rfl:=Option.some.inj H;go_enter Tryd.func7,Tryd.ntmps7
  go_wp2_with (first|((with_reducible refine gate_dst (N:=2) rfl ?_);refine box_event ?hg (N:=2) ?hd (cs:=#[.int .i64 a0_0,.bool a0_1,.string a0_2,.string a0_3,.slice A0_4 l0_4.length c0_4,.slice A0_5 l0_5.length c0_5]) (t:=25) ?hr ?_;(case hd=>rfl);(case hg=>rfl);(case hr=>first|(go_simp;done)|(go_simp;rfl));intro gb155 hg w18 hbox hb;have n_:=J_ (below_step (hb_ HB) hb) (J_ (hbox) (J_ (bs_ hg HB) (Aside0.mk (bs_ hg HB))));clear HB;obtain ⟨HB,BK155,GW155,GE155⟩:=n_;clear hb hbox hg)|((with_reducible refine gate_dst (N:=3) rfl ?_);refine box_event ?hg (N:=3) ?hd (cs:=#[.int .i64 a1_0,.bool a1_1,.string a1_2,.string a1_3,.slice A1_4 l1_4.length c1_4,.slice A1_5 l1_5.length c1_5]) (t:=25) ?hr ?_;(case hd=>rfl);(case hg=>rfl);(case hr=>first|(go_simp;done)|(go_simp;rfl));intro gb156 hg w19 hbox hb;have n_:=J_ (bkb_ BK155 hb) (J_ (below_step (hb_ HB) hb) (J_ (hbox) (J_ (bs_ hg HB) (J_ (bs_ hg HB) (J_ ((by rw [hg];exact Nat.ne_of_lt (bkl_ BK155) : gb155 ≠ gb156)) (Aside0.mk ((by rw [hg];exact Nat.ne_of_gt (bkl_ BK155) : gb156 ≠ gb155))))))));clear BK155 HB;obtain ⟨BK155,HB,BK156,GW156,GE156,NB155_156,NB156_155⟩:=n_;clear hb hbox hg;have hnb20:=NB155_156.out;have hnc20:=NB156_155.out;obtain ⟨hcz21_0,hcz21_1,hcz21_2,hcz21_3,hcz21_4,hcz21_5,hfz21_0,hfz21_1,hfz21_2,hfz21_3,hfz21_4,hfz21_5⟩:=cf6_ BK155)|((with_reducible refine gate_callee (f:=15) rfl ?_);refine goesL_ (some 6) rfl rfl Tryd.func15 (by kernel_rfl) rfl #[.agg #[.int .i64 a0_0,.bool a0_1,.string a0_2,.string a0_3,.slice A0_4 l0_4.length c0_4,.slice A0_5 l0_5.length c0_5]] rfl am_ ?_;(with_reducible refine (tree_Formed.calls k a0_0 a0_1 a0_2 a0_3 _ _ l0_4 _ _ l0_5 true _ ?side1 ?side2 ?side3 ?side4 A3.out).mono ?_);(case side1=>repeat (first|exact (Kd.C_below HR0_4.out HB.out)|(with_reducible refine Kd.C_alloc ?_ _)|(with_reducible refine Kd.C_drewN ?_ _)|(with_reducible refine Kd.C_drew ?_)));(case side2=>exact HC0_4.out);(case side3=>repeat (first|exact (Kd.C_below HR0_5.out HB.out)|(with_reducible refine Kd.C_alloc ?_ _)|(with_reducible refine Kd.C_drewN ?_ _)|(with_reducible refine Kd.C_drew ?_)));(case side4=>exact HC0_5.out);rintro e w22 ⟨rfl,hb⟩;refine ⟨_,rfl,?_⟩;have n_:=J_ (bkb_ BK155 hb) (J_ (bkb_ BK156 hb) (Aside0.mk (below_step (hb_ HB) hb)));clear BK155 BK156 HB;obtain ⟨BK155,BK156,HB⟩:=n_;(try clear hb);(try clear hb2);(try clear hk);(try clear hi);obtain ⟨hcz23_0,hcz23_1,hcz23_2,hcz23_3,hcz23_4,hcz23_5,hfz23_0,hfz23_1,hfz23_2,hfz23_3,hfz23_4,hfz23_5⟩:=cf6_ BK156)|(go_at_call 15;(with_reducible refine (tree_Formed.calls k a1_0 a1_1 a1_2 a1_3 _ _ l1_4 _ _ l1_5 false _ ?side1 ?side2 ?side3 ?side4 A5.out).mono ?_);(case side1=>repeat (first|exact (Kd.C_below HR1_4.out HB.out)|(with_reducible refine Kd.C_alloc ?_ _)|(with_reducible refine Kd.C_drewN ?_ _)|(with_reducible refine Kd.C_drew ?_)));(case side2=>exact HC1_4.out);(case side3=>repeat (first|exact (Kd.C_below HR1_5.out HB.out)|(with_reducible refine Kd.C_alloc ?_ _)|(with_reducible refine Kd.C_drewN ?_ _)|(with_reducible refine Kd.C_drew ?_)));(case side4=>exact HC1_5.out);rintro e w24 ⟨rfl,hb⟩;have n_:=J_ (bkb_ BK155 hb) (J_ (bkb_ BK156 hb) (Aside0.mk (below_step (hb_ HB) hb)));clear BK155 BK156 HB;obtain ⟨BK155,BK156,HB⟩:=n_;(try clear hb);(try clear hb2);(try clear hk);(try clear hi)))
  go_ret;exact ⟨er_,(hb_ HB)⟩
 replace c4:=Bool.eq_false_iff.mpr c4;subst c4
 have H1 : (some false) = some r:=by rw [if_neg (show ¬ (false = true) by decide)] at H;exact H
 clear H;have H:=H1;clear H1;obtain rfl:=Option.some.inj H;go_enter Tryd.func7,Tryd.ntmps7
 go_wp2_with (first|((with_reducible refine gate_dst (N:=2) rfl ?_);refine box_event ?hg (N:=2) ?hd (cs:=#[.int .i64 a0_0,.bool a0_1,.string a0_2,.string a0_3,.slice A0_4 l0_4.length c0_4,.slice A0_5 l0_5.length c0_5]) (t:=25) ?hr ?_;(case hd=>rfl);(case hg=>rfl);(case hr=>first|(go_simp;done)|(go_simp;rfl));intro gb155 hg w25 hbox hb;have n_:=J_ (below_step (hb_ HB) hb) (J_ (hbox) (J_ (bs_ hg HB) (Aside0.mk (bs_ hg HB))));clear HB;obtain ⟨HB,BK155,GW155,GE155⟩:=n_;clear hb hbox hg)|((with_reducible refine gate_dst (N:=3) rfl ?_);refine box_event ?hg (N:=3) ?hd (cs:=#[.int .i64 a1_0,.bool a1_1,.string a1_2,.string a1_3,.slice A1_4 l1_4.length c1_4,.slice A1_5 l1_5.length c1_5]) (t:=25) ?hr ?_;(case hd=>rfl);(case hg=>rfl);(case hr=>first|(go_simp;done)|(go_simp;rfl));intro gb156 hg w26 hbox hb;have n_:=J_ (bkb_ BK155 hb) (J_ (below_step (hb_ HB) hb) (J_ (hbox) (J_ (bs_ hg HB) (J_ (bs_ hg HB) (J_ ((by rw [hg];exact Nat.ne_of_lt (bkl_ BK155) : gb155 ≠ gb156)) (Aside0.mk ((by rw [hg];exact Nat.ne_of_gt (bkl_ BK155) : gb156 ≠ gb155))))))));clear BK155 HB;obtain ⟨BK155,HB,BK156,GW156,GE156,NB155_156,NB156_155⟩:=n_;clear hb hbox hg;have hnb27:=NB155_156.out;have hnc27:=NB156_155.out;obtain ⟨hcz28_0,hcz28_1,hcz28_2,hcz28_3,hcz28_4,hcz28_5,hfz28_0,hfz28_1,hfz28_2,hfz28_3,hfz28_4,hfz28_5⟩:=cf6_ BK155)|((with_reducible refine gate_callee (f:=15) rfl ?_);refine goesL_ (some 6) rfl rfl Tryd.func15 (by kernel_rfl) rfl #[.agg #[.int .i64 a0_0,.bool a0_1,.string a0_2,.string a0_3,.slice A0_4 l0_4.length c0_4,.slice A0_5 l0_5.length c0_5]] rfl am_ ?_;(with_reducible refine (tree_Formed.calls k a0_0 a0_1 a0_2 a0_3 _ _ l0_4 _ _ l0_5 false _ ?side1 ?side2 ?side3 ?side4 A3.out).mono ?_);(case side1=>repeat (first|exact (Kd.C_below HR0_4.out HB.out)|(with_reducible refine Kd.C_alloc ?_ _)|(with_reducible refine Kd.C_drewN ?_ _)|(with_reducible refine Kd.C_drew ?_)));(case side2=>exact HC0_4.out);(case side3=>repeat (first|exact (Kd.C_below HR0_5.out HB.out)|(with_reducible refine Kd.C_alloc ?_ _)|(with_reducible refine Kd.C_drewN ?_ _)|(with_reducible refine Kd.C_drew ?_)));(case side4=>exact HC0_5.out);rintro e w29 ⟨rfl,hb⟩;refine ⟨_,rfl,?_⟩;have n_:=J_ (bkb_ BK155 hb) (J_ (bkb_ BK156 hb) (Aside0.mk (below_step (hb_ HB) hb)));clear BK155 BK156 HB;obtain ⟨BK155,BK156,HB⟩:=n_;(try clear hb);(try clear hb2);(try clear hk);(try clear hi)))
 go_ret;exact ⟨er_,(hb_ HB)⟩
def quarryref00_told.f (a0 : Int) (a1 : Int) (a2 : Int) : Option (Int):=if a1 > 1025 then (some (wrap64 (1 + a0))) else (some (wrap64 ((wrap64 ((wrap64 (16 + (wrap64 (6 * a0)))) + (wrap64 (16 * a1)))) + a2)))
set_option maxHeartbeats 8000000 in
set_option maxRecDepth 100000 in
theorem quarryref00_told.calls (a0 : Int) (a1 : Int) (a2 : Int) (r : Int) (w : World) (h : quarryref00_told.f a0 a1 a2 = some r) :
  Calls Tryd.prog 28 #[.int .i64 a0,.int .i64 a1,.int .i64 a2] w fun e w'=>e = .returned (.int .i64 r) ∧ Drawn0 w w':=by
 have H : (if a1 > 1025 then (some (wrap64 (1 + a0))) else (some (wrap64 ((wrap64 ((wrap64 (16 + (wrap64 (6 * a0)))) + (wrap64 (16 * a1)))) + a2)))) = some r:=h;clear h
 by_cases c4 : a1 > 1025
 ·rw [if_pos c4] at H
  have c4b0 : decide (1025 < a1) = true:=decide_eq_true c4;clear c4;obtain rfl:=Option.some.inj H;go_enter Tryd.func28,Tryd.ntmps28;go_wp2
  go_ret;exact ⟨by first|rfl|(simp;done)|(simp [*];done),by repeat (first|exact Drawn0.refl _|apply Drawn0.step)⟩
 rw [if_neg c4] at H
 have c4b0 : decide (1025 < a1) = false:=decide_eq_false c4;clear c4;obtain rfl:=Option.some.inj H;go_enter Tryd.func28,Tryd.ntmps28;go_wp2
 go_ret;exact ⟨by first|rfl|(simp;done)|(simp [*];done),by repeat (first|exact Drawn0.refl _|apply Drawn0.step)⟩
mutual
def quarryref00_leftOfValue.j1 : Nat → Int → Int → Int → Int → Bool → ByteArray → ByteArray → List ByteArray → List (S25) → Option (Int)
 | 0,_,_,_,_,_,_,_,_,_=>none
 | k + 1,x1,x2,x3,x161000,x161001,x161002,x161003,x161004,x161005=>quarryref00_leftOfValue.l1 k x1 x2 x3 0 x161000 x161001 x161002 x161003 x161004 x161005
def quarryref00_leftOfValue.l1 : Nat → Int → Int → Int → Int → Int → Bool → ByteArray → ByteArray → List ByteArray → List (S25) → Option (Int)
 | 0,_,_,_,_,_,_,_,_,_,_=>none
 | k + 1,x1,x2,x3,x10,x161000,x161001,x161002,x161003,x161004,x161005=>if x10 < (x161005.length : Int) then (quarryref00_leftOfValue.j3 k x1 x2 x3 x10 (decide (x3 ≥ 0)) x161000 x161001 x161002 x161003 x161004 x161005) else (quarryref00_leftOfValue.j3 k x1 x2 x3 x10 false x161000 x161001 x161002 x161003 x161004 x161005)
def quarryref00_leftOfValue.j3 : Nat → Int → Int → Int → Int → Bool → Int → Bool → ByteArray → ByteArray → List ByteArray → List (S25) → Option (Int)
 | 0,_,_,_,_,_,_,_,_,_,_,_=>none
 | k + 1,x1,x2,x3,x10,x55,x161000,x161001,x161002,x161003,x161004,x161005=>if x55 = true then (if x10 < (x161004.length : Int) then (if 0 ≤ x10 then (if x10 < (x161005.length : Int) then ((quarryref00_leftOfValue.f k ((rd_T25 x161005 x10).f0) ((rd_T25 x161005 x10).f1) ((rd_T25 x161005 x10).f2) ((rd_T25 x161005 x10).f3) ((rd_T25 x161005 x10).f4) ((rd_T25 x161005 x10).f5) (wrap64 (x1 + 1)) (wrap64 ((wrap64 (x2 + 21)) + (wrap64 (2 * ((rdOf ByteArray.empty x161004 x10).size : Int))))) x3).bind fun t166=>(quarryref00_leftOfValue.l1 k x1 x2 t166 (wrap64 (x10 + 1)) x161000 x161001 x161002 x161003 x161004 x161005)) else (none)) else (none)) else (if 0 ≤ x10 then (if x10 < (x161005.length : Int) then ((quarryref00_leftOfValue.f k ((rd_T25 x161005 x10).f0) ((rd_T25 x161005 x10).f1) ((rd_T25 x161005 x10).f2) ((rd_T25 x161005 x10).f3) ((rd_T25 x161005 x10).f4) ((rd_T25 x161005 x10).f5) (wrap64 (x1 + 1)) (wrap64 (x2 + 21)) x3).bind fun t168=>(quarryref00_leftOfValue.l1 k x1 x2 t168 (wrap64 (x10 + 1)) x161000 x161001 x161002 x161003 x161004 x161005)) else (none)) else (none))) else (some x3)
def quarryref00_leftOfValue.l0 : Nat → Int → Int → Int → Int → Int → Bool → ByteArray → ByteArray → List ByteArray → List (S25) → Option (Int)
 | 0,_,_,_,_,_,_,_,_,_,_=>none
 | k + 1,x1,x2,x3,x9,x161000,x161001,x161002,x161003,x161004,x161005=>if x9 < (x161004.length : Int) then (if x3 ≥ 0 then (if 0 ≤ x9 then ((quarryref00_told.f ((rdOf ByteArray.empty x161004 x9).size : Int) x1 0).bind fun t163=>(quarryref00_leftOfValue.l0 k x1 x2 (wrap64 (x3 - t163)) (wrap64 (x9 + 1)) x161000 x161001 x161002 x161003 x161004 x161005)) else (none)) else (quarryref00_leftOfValue.j1 k x1 x2 x3 x161000 x161001 x161002 x161003 x161004 x161005)) else (quarryref00_leftOfValue.j1 k x1 x2 x3 x161000 x161001 x161002 x161003 x161004 x161005)
def quarryref00_leftOfValue.f : Nat → Int → Bool → ByteArray → ByteArray → List ByteArray → List (S25) → Int → Int → Int → Option (Int)
 | 0,_,_,_,_,_,_,_,_,_=>none
 | k + 1,a0_0,a0_1,a0_2,a0_3,l0_4,l0_5,a1,a2,a3=>if a1 > 65536 then (some (-1)) else ((quarryref00_told.f (wrap64 ((a0_2.size : Int) + (a0_3.size : Int))) a1 a2).bind fun t161=>(quarryref00_leftOfValue.l0 k a1 a2 (wrap64 (a3 - t161)) 0 a0_0 a0_1 a0_2 a0_3 l0_4 l0_5))
end
set_option maxHeartbeats 8000000 in
set_option maxRecDepth 100000 in
theorem quarryref00_leftOfValue.calls (k : Nat) : ∀ (a0_0 : Int) (a0_1 : Bool) (a0_2 : ByteArray) (a0_3 : ByteArray) (A0_4 : Option Addr) (c0_4 : Nat) (l0_4 : List ByteArray) (A0_5 : Option Addr) (c0_5 : Nat) (l0_5 : List (S25)) (a1 : Int) (a2 : Int) (a3 : Int) (r : Int) (w : World) (hr0_4 : Kd.C Kd.string w A0_4 l0_4.length l0_4) (hc0_4 : l0_4.length ≤ c0_4) (hr0_5 : Kd.C k25 w A0_5 l0_5.length l0_5) (hc0_5 : l0_5.length ≤ c0_5) (h : quarryref00_leftOfValue.f k a0_0 a0_1 a0_2 a0_3 l0_4 l0_5 a1 a2 a3 = some r),
  Calls Tryd.prog 17 #[.agg #[.int .i64 a0_0,.bool a0_1,.string a0_2,.string a0_3,.slice A0_4 l0_4.length c0_4,.slice A0_5 l0_5.length c0_5],.int .i64 a1,.int .i64 a2,.int .i64 a3] w fun e w'=>e = .returned (.int .i64 r) ∧ Below w.heap.size w w':=by
 induction k using Nat.strongRecOn with
 | _ k ih =>
 intro a0_0 a0_1 a0_2 a0_3 A0_4 c0_4 l0_4 A0_5 c0_5 l0_5 a1 a2 a3 r w hr0_4 hc0_4 hr0_5 hc0_5 h
 cases k with
 | zero=>exact absurd h (by simp [quarryref00_leftOfValue.f])
 | succ k =>
 simp only [quarryref00_leftOfValue.f] at h
 have hu25:=Tryd.underlying25;have HR0_4:=Aside0.mk hr0_4;have HC0_4:=Aside0.mk hc0_4;clear hr0_4 hc0_4;have HR0_5:=Aside0.mk hr0_5;have HC0_5:=Aside0.mk hc0_5;clear hr0_5 hc0_5;have HB:=Aside0.mk (Below.refl w.heap.size w);have H : (if a1 > 65536 then (some (-1)) else ((quarryref00_told.f (wrap64 ((a0_2.size : Int) + (a0_3.size : Int))) a1 a2).bind fun t161=>(quarryref00_leftOfValue.l0 k a1 a2 (wrap64 (a3 - t161)) 0 a0_0 a0_1 a0_2 a0_3 l0_4 l0_5))) = some r:=h;clear h
 by_cases c5 : a1 > 65536
 ·rw [if_pos c5] at H
  have c5b0 : decide (65536 < a1) = true:=decide_eq_true c5;clear c5;obtain rfl:=Option.some.inj H;go_enter Tryd.func17,Tryd.ntmps17
  go_wp2_with (first|((with_reducible refine gate_dst (N:=4) rfl ?_);refine box_event ?hg (N:=4) ?hd (cs:=#[.int .i64 a0_0,.bool a0_1,.string a0_2,.string a0_3,.slice A0_4 l0_4.length c0_4,.slice A0_5 l0_5.length c0_5]) (t:=25) ?hr ?_;(case hd=>rfl);(case hg=>rfl);(case hr=>first|(go_simp;done)|(go_simp;rfl));intro gb160 hg w6 hbox hb;have n_:=J_ (below_step (hb_ HB) hb) (J_ (hbox) (J_ (bs_ hg HB) (Aside0.mk (bs_ hg HB))));clear HB;obtain ⟨HB,BK160,GW160,GE160⟩:=n_;clear hb hbox hg))
  go_ret;exact ⟨er_,(hb_ HB)⟩
 rw [if_neg c5] at H
 have c5b0 : decide (65536 < a1) = false:=decide_eq_false c5;clear c5;replace H:=Option.bind_eq_some_iff.mp H;obtain ⟨t161,A70,H⟩:=H;replace H : (quarryref00_leftOfValue.l0 k a1 a2 (wrap64 (a3 - t161)) 0 a0_0 a0_1 a0_2 a0_3 l0_4 l0_5) = some r:=H;have A7:=Aside0.mk A70;clear A70;have HC8:=Aside0.mk H;clear H;go_enter Tryd.func17,Tryd.ntmps17
 go_upto_block 0 with (first|((with_reducible refine gate_dst (N:=4) rfl ?_);refine box_event ?hg (N:=4) ?hd (cs:=#[.int .i64 a0_0,.bool a0_1,.string a0_2,.string a0_3,.slice A0_4 l0_4.length c0_4,.slice A0_5 l0_5.length c0_5]) (t:=25) ?hr ?_;(case hd=>rfl);(case hg=>rfl);(case hr=>first|(go_simp;done)|(go_simp;rfl));intro gb160 hg w9 hbox hb;have n_:=J_ (below_step (hb_ HB) hb) (J_ (hbox) (J_ (bs_ hg HB) (Aside0.mk (bs_ hg HB))));clear HB;obtain ⟨HB,BK160,GW160,GE160⟩:=n_;clear hb hbox hg;obtain ⟨hcz10_0,hcz10_1,hcz10_2,hcz10_3,hcz10_4,hcz10_5,hfz10_0,hfz10_1,hfz10_2,hfz10_3,hfz10_4,hfz10_5⟩:=cf6_ BK160)|((with_reducible refine gate_callee (f:=28) rfl ?_);refine goesL_ (some 24) rfl rfl Tryd.func28 (by kernel_rfl) rfl #[.int .i64 (wrap64 ((a0_2.size : Int) + (a0_3.size : Int))),.int .i64 a1,.int .i64 a2] rfl am_ ?_;(with_reducible refine (quarryref00_told.calls (wrap64 ((a0_2.size : Int) + (a0_3.size : Int))) a1 a2 t161 _ A7.out).mono ?_);rintro e w' ⟨rfl,⟨nd,rfl⟩⟩;refine ⟨_,rfl,?_⟩))
 (try simp only [Act.put,List.setIfInBounds_toArray,List.set_cons_zero,List.set_cons_succ])
 go_cut [3] (fun v3 wc=>∃ (kq : Nat) (x3_7 : Int),v3 = .int .i64 x3_7 ∧ Aside0 (quarryref00_leftOfValue.j1 kq a1 a2 x3_7 a0_0 a0_1 a0_2 a0_3 l0_4 l0_5 = some r) ∧ Aside0 (kq ≤ k) ∧ Aside0 (wc.heap[gb160]? = some (.cells #[.int .i64 a0_0,.bool a0_1,.string a0_2,.string a0_3,(.slice A0_4 l0_4.length c0_4),(.slice A0_5 l0_5.length c0_5)] 25 (0,0))) ∧ Aside0 (Below w.heap.size w wc))
 case first =>
  have H:=HC8.out;clear HC8;have H':=Aside0.mk H;clear H;go_wp2
  go_loopg [3,9] k (fun kq v3 v9 w'=>∃ (x3_1 : Int) (x9_1 : Int),v3 = .int .i64 x3_1 ∧ v9 = .int .i64 x9_1 ∧ Aside0 (quarryref00_leftOfValue.l0 kq a1 a2 x3_1 x9_1 a0_0 a0_1 a0_2 a0_3 l0_4 l0_5 = some r) ∧ Aside0 (kq ≤ k) ∧ Aside0 (w'.heap[gb160]? = some (.cells #[.int .i64 a0_0,.bool a0_1,.string a0_2,.string a0_3,(.slice A0_4 l0_4.length c0_4),(.slice A0_5 l0_5.length c0_5)] 25 (0,0))) ∧ Aside0 (Below w.heap.size w w'))
  case atStart=>exact ⟨(wrap64 (a3 - t161)),(0),rr_,rr_,H',⟨Nat.le_refl _⟩,⟨(bk_ BK160)⟩,⟨(hb_ HB)⟩⟩
  case round =>
   clear H'
   try clear BK160
   try clear HB
   obtain ⟨x3_1,x9_1,rfl,rfl,HA,HK1,BK160,HB⟩:=hrel
   cases gk with
   | zero=>exact absurd HA.out (by simp [quarryref00_leftOfValue.l0])
   | succ k1 =>
    have H:=HA.out;clear HA
    simp only [quarryref00_leftOfValue.l0] at H
    by_cases c11 : x9_1 < (l0_4.length : Int)
    ·rw [if_pos c11] at H
     have c11b0 : decide (x9_1 < (l0_4.length : Int)) = true:=decide_eq_true c11;clear c11
     (first|rw [c11b0]|(simp only [i64_w,i32_w];rw [c11b0])|skip)
     by_cases c12 : x3_1 ≥ 0
     ·rw [if_pos c12] at H
      have c12b0 : decide (0 ≤ x3_1) = true:=decide_eq_true c12;clear c12
      by_cases c13 : 0 ≤ x9_1
      ·rw [if_pos c13] at H
       have c13b0 : decide (0 ≤ x9_1) = true:=decide_eq_true c13;clear c13;replace H:=Option.bind_eq_some_iff.mp H;obtain ⟨t163,A140,H⟩:=H;replace H : (quarryref00_leftOfValue.l0 k1 a1 a2 (wrap64 (x3_1 - t163)) (wrap64 (x9_1 + 1)) a0_0 a0_1 a0_2 a0_3 l0_4 l0_5) = some r:=H;have A14:=Aside0.mk A140;clear A140;have H':=Aside0.mk H;clear H;obtain ⟨hcz15_0,hcz15_1,hcz15_2,hcz15_3,hcz15_4,hcz15_5,hfz15_0,hfz15_1,hfz15_2,hfz15_3,hfz15_4,hfz15_5⟩:=cf6_ BK160;have p162 : 0 ≤ (x9_1 : Int):=of_decide_eq_true aa_;have q162 : x9_1 < (l0_4.length : Int):=of_decide_eq_true aa_;obtain ⟨ad162,e162,hx162_0⟩:=Kd.at_string HR0_4.out x9_1 p162 q162;cases e162;replace hx162_0:=(HB.out.cell (World.block_lt_of_cell? w _ hx162_0)).trans hx162_0;replace p162:=eq_true p162;replace q162:=eq_true q162
       go_wp2_with (first|((with_reducible refine gate_callee (f:=28) rfl ?_);refine goesL_ (some 45) rfl rfl Tryd.func28 (by kernel_rfl) rfl #[.int .i64 ((rdOf ByteArray.empty l0_4 x9_1).size : Int),.int .i64 a1,.int .i64 0] rfl am_ ?_;(with_reducible refine (quarryref00_told.calls ((rdOf ByteArray.empty l0_4 x9_1).size : Int) a1 0 t163 _ A14.out).mono ?_);rintro e w' ⟨rfl,⟨nd,rfl⟩⟩;refine ⟨_,rfl,?_⟩))
       go_roundg k1
       case measure=>have:=HK1.out;omega
       case rel=>exact ⟨(wrap64 (x3_1 - t163)),(wrap64 (x9_1 + 1)),rr_,rr_,(by first|exact H'|(subst_vars;exact H')),⟨by have:=HK1.out;omega⟩,⟨(bk_ BK160)⟩,⟨(hb_ HB)⟩⟩
      rw [if_neg c13] at H
      exact absurd H (by simp)
     rw [if_neg c12] at H
     have c12b0 : decide (0 ≤ x3_1) = false:=decide_eq_false c12;clear c12;have H':=Aside0.mk H;clear H;obtain ⟨hcz16_0,hcz16_1,hcz16_2,hcz16_3,hcz16_4,hcz16_5,hfz16_0,hfz16_1,hfz16_2,hfz16_3,hfz16_4,hfz16_5⟩:=cf6_ BK160;go_wp2
     go_meet
     case rel=>exact ⟨_,(x3_1),rr_,(by first|exact H'|(subst_vars;exact H')),⟨by have:=HK1.out;first|omega|exact Nat.le_refl _⟩,⟨(bk_ BK160)⟩,⟨(hb_ HB)⟩⟩
    rw [if_neg c11] at H
    have c11b0 : decide (x9_1 < (l0_4.length : Int)) = false:=decide_eq_false c11;clear c11
    (first|rw [c11b0]|(simp only [i64_w,i32_w];rw [c11b0])|skip)
    have H':=Aside0.mk H;clear H;obtain ⟨hcz17_0,hcz17_1,hcz17_2,hcz17_3,hcz17_4,hcz17_5,hfz17_0,hfz17_1,hfz17_2,hfz17_3,hfz17_4,hfz17_5⟩:=cf6_ BK160;go_wp2
    go_meet
    case rel=>exact ⟨_,(x3_1),rr_,(by first|exact H'|(subst_vars;exact H')),⟨by have:=HK1.out;first|omega|exact Nat.le_refl _⟩,⟨(bk_ BK160)⟩,⟨(hb_ HB)⟩⟩
 case rest =>
  clear HC8;obtain ⟨kq,x3_7,rfl,HA,HJ7,BK160,HB⟩:=hcut
  cases kq with
  | zero=>exact absurd HA.out (by simp [quarryref00_leftOfValue.j1])
  | succ kj7 =>
   have H:=HA.out;clear HA
   simp only [quarryref00_leftOfValue.j1] at H
   have H':=Aside0.mk H;clear H;go_wp2
   go_loopg [3,10] kj7 (fun kq v3 v10 w'=>∃ (x3_2 : Int) (x10_2 : Int),v3 = .int .i64 x3_2 ∧ v10 = .int .i64 x10_2 ∧ Aside0 (quarryref00_leftOfValue.l1 kq a1 a2 x3_2 x10_2 a0_0 a0_1 a0_2 a0_3 l0_4 l0_5 = some r) ∧ Aside0 (kq ≤ kj7) ∧ Aside0 (w'.heap[gb160]? = some (.cells #[.int .i64 a0_0,.bool a0_1,.string a0_2,.string a0_3,(.slice A0_4 l0_4.length c0_4),(.slice A0_5 l0_5.length c0_5)] 25 (0,0))) ∧ Aside0 (Below w.heap.size w w'))
   case atStart=>exact ⟨(x3_7),(0),rr_,rr_,H',⟨Nat.le_refl _⟩,⟨(bk_ BK160)⟩,⟨(hb_ HB)⟩⟩
   case round =>
    clear H'
    try clear BK160
    try clear HB
    obtain ⟨x3_2,x10_2,rfl,rfl,HA,HK2,BK160,HB⟩:=hrel
    cases gk with
    | zero=>exact absurd HA.out (by simp [quarryref00_leftOfValue.l1])
    | succ k2 =>
     have H:=HA.out;clear HA
     simp only [quarryref00_leftOfValue.l1] at H
     have HC18:=Aside0.mk H;clear H
     go_upto_region 9 with (fail)
     go_cut [55] (fun v55 wc=>∃ (kq : Nat) (x55_17 : Bool),v55 = .bool x55_17 ∧ Aside0 (quarryref00_leftOfValue.j3 kq a1 a2 x3_2 x10_2 x55_17 a0_0 a0_1 a0_2 a0_3 l0_4 l0_5 = some r) ∧ Aside0 (kq ≤ k2) ∧ Aside0 (wc.heap[gb160]? = some (.cells #[.int .i64 a0_0,.bool a0_1,.string a0_2,.string a0_3,(.slice A0_4 l0_4.length c0_4),(.slice A0_5 l0_5.length c0_5)] 25 (0,0))) ∧ Aside0 (Below w.heap.size w wc))
     case first =>
      have H:=HC18.out;clear HC18
      by_cases c19 : x10_2 < (l0_5.length : Int)
      ·rw [if_pos c19] at H
       have c19b0 : decide (x10_2 < (l0_5.length : Int)) = true:=decide_eq_true c19;clear c19
       (first|rw [c19b0]|(simp only [i64_w,i32_w];rw [c19b0])|skip)
       have H':=Aside0.mk H;clear H;obtain ⟨hcz20_0,hcz20_1,hcz20_2,hcz20_3,hcz20_4,hcz20_5,hfz20_0,hfz20_1,hfz20_2,hfz20_3,hfz20_4,hfz20_5⟩:=cf6_ BK160;go_wp2
       go_meet
       case rel=>exact ⟨_,(decide (x3_2 ≥ 0)),rr_,(by first|exact H'|(subst_vars;exact H')),⟨by have:=HJ7.out;have:=HK2.out;first|omega|exact Nat.le_refl _⟩,⟨(bk_ BK160)⟩,⟨(hb_ HB)⟩⟩
      rw [if_neg c19] at H
      have c19b0 : decide (x10_2 < (l0_5.length : Int)) = false:=decide_eq_false c19;clear c19
      (first|rw [c19b0]|(simp only [i64_w,i32_w];rw [c19b0])|skip)
      have H':=Aside0.mk H;clear H;obtain ⟨hcz21_0,hcz21_1,hcz21_2,hcz21_3,hcz21_4,hcz21_5,hfz21_0,hfz21_1,hfz21_2,hfz21_3,hfz21_4,hfz21_5⟩:=cf6_ BK160;go_wp2
      go_meet
      case rel=>exact ⟨_,(false),rr_,(by first|exact H'|(subst_vars;exact H')),⟨by have:=HJ7.out;have:=HK2.out;first|omega|exact Nat.le_refl _⟩,⟨(bk_ BK160)⟩,⟨(hb_ HB)⟩⟩
     case rest =>
      clear HC18;obtain ⟨kq,x55_17,rfl,HA,HJ17,BK160,HB⟩:=hcut
      cases kq with
      | zero=>exact absurd HA.out (by simp [quarryref00_leftOfValue.j3])
      | succ kj17 =>
       have H:=HA.out;clear HA
       simp only [quarryref00_leftOfValue.j3] at H
       by_cases c22 : x55_17 = true
       ·subst c22
        have H1 : (if x10_2 < (l0_4.length : Int) then (if 0 ≤ x10_2 then (if x10_2 < (l0_5.length : Int) then ((quarryref00_leftOfValue.f kj17 ((rd_T25 l0_5 x10_2).f0) ((rd_T25 l0_5 x10_2).f1) ((rd_T25 l0_5 x10_2).f2) ((rd_T25 l0_5 x10_2).f3) ((rd_T25 l0_5 x10_2).f4) ((rd_T25 l0_5 x10_2).f5) (wrap64 (a1 + 1)) (wrap64 ((wrap64 (a2 + 21)) + (wrap64 (2 * ((rdOf ByteArray.empty l0_4 x10_2).size : Int))))) x3_2).bind fun t166=>(quarryref00_leftOfValue.l1 kj17 a1 a2 t166 (wrap64 (x10_2 + 1)) a0_0 a0_1 a0_2 a0_3 l0_4 l0_5)) else (none)) else (none)) else (if 0 ≤ x10_2 then (if x10_2 < (l0_5.length : Int) then ((quarryref00_leftOfValue.f kj17 ((rd_T25 l0_5 x10_2).f0) ((rd_T25 l0_5 x10_2).f1) ((rd_T25 l0_5 x10_2).f2) ((rd_T25 l0_5 x10_2).f3) ((rd_T25 l0_5 x10_2).f4) ((rd_T25 l0_5 x10_2).f5) (wrap64 (a1 + 1)) (wrap64 (a2 + 21)) x3_2).bind fun t168=>(quarryref00_leftOfValue.l1 kj17 a1 a2 t168 (wrap64 (x10_2 + 1)) a0_0 a0_1 a0_2 a0_3 l0_4 l0_5)) else (none)) else (none))) = some r:=by rw [if_pos rfl] at H;exact H
        clear H;have H:=H1;clear H1
        by_cases c23 : x10_2 < (l0_4.length : Int)
        ·rw [if_pos c23] at H
         have c23b0 : decide (x10_2 < (l0_4.length : Int)) = true:=decide_eq_true c23;clear c23
         by_cases c24 : 0 ≤ x10_2
         ·rw [if_pos c24] at H
          have c24b0 : decide (0 ≤ x10_2) = true:=decide_eq_true c24;clear c24
          by_cases c25 : x10_2 < (l0_5.length : Int)
          ·rw [if_pos c25] at H
           have c25b0 : decide (x10_2 < (l0_5.length : Int)) = true:=decide_eq_true c25;clear c25;replace H:=Option.bind_eq_some_iff.mp H;obtain ⟨t166,A260,H⟩:=H;replace H : (quarryref00_leftOfValue.l1 kj17 a1 a2 t166 (wrap64 (x10_2 + 1)) a0_0 a0_1 a0_2 a0_3 l0_4 l0_5) = some r:=H;have A26:=Aside0.mk A260;clear A260;have H':=Aside0.mk H;clear H;obtain ⟨hcz27_0,hcz27_1,hcz27_2,hcz27_3,hcz27_4,hcz27_5,hfz27_0,hfz27_1,hfz27_2,hfz27_3,hfz27_4,hfz27_5⟩:=cf6_ BK160;have p164 : 0 ≤ (x10_2 : Int):=of_decide_eq_true aa_;have q164 : x10_2 < (l0_4.length : Int):=of_decide_eq_true aa_;obtain ⟨ad164,e164,hx164_0⟩:=Kd.at_string HR0_4.out x10_2 p164 q164;cases e164;replace hx164_0:=(HB.out.cell (World.block_lt_of_cell? w _ hx164_0)).trans hx164_0;replace p164:=eq_true p164;replace q164:=eq_true q164;have p165 : 0 ≤ (x10_2 : Int):=of_decide_eq_true aa_;have q165 : x10_2 < (l0_5.length : Int):=of_decide_eq_true aa_;obtain ⟨ad165,A165_4,c165_4,A165_5,c165_5,e165,hx165_0,hx165_1,hx165_2,hx165_3,hx165_4,hx165_5,hl165_4,hi165_4,hl165_5,hi165_5⟩:=at_T25 HR0_5.out x10_2 p165 q165;cases e165;replace hx165_0:=(HB.out.cell (World.block_lt_of_cell? w _ hx165_0)).trans hx165_0;replace hx165_1:=(HB.out.cell (World.block_lt_of_cell? w _ hx165_1)).trans hx165_1;replace hx165_2:=(HB.out.cell (World.block_lt_of_cell? w _ hx165_2)).trans hx165_2;replace hx165_3:=(HB.out.cell (World.block_lt_of_cell? w _ hx165_3)).trans hx165_3;replace hx165_4:=(HB.out.cell (World.block_lt_of_cell? w _ hx165_4)).trans hx165_4;replace hx165_5:=(HB.out.cell (World.block_lt_of_cell? w _ hx165_5)).trans hx165_5
           have HR165_4:=Aside0.mk hi165_4;have HC165_4:=Aside0.mk hl165_4;clear hi165_4 hl165_4;have HR165_5:=Aside0.mk hi165_5;have HC165_5:=Aside0.mk hl165_5;clear hi165_5 hl165_5;replace p165:=eq_true p165;replace q165:=eq_true q165
           go_wp2_with (first|((with_reducible refine gate_callee (f:=17) rfl ?_);refine goesL_ (some 83) rfl rfl Tryd.func17 (by kernel_rfl) rfl #[.agg #[.int .i64 ((rd_T25 l0_5 x10_2).f0),.bool ((rd_T25 l0_5 x10_2).f1),.string ((rd_T25 l0_5 x10_2).f2),.string ((rd_T25 l0_5 x10_2).f3),.slice A165_4 ((rd_T25 l0_5 x10_2).f4).length c165_4,.slice A165_5 ((rd_T25 l0_5 x10_2).f5).length c165_5],.int .i64 (wrap64 (a1 + 1)),.int .i64 (wrap64 ((wrap64 (a2 + 21)) + (wrap64 (2 * ((rdOf ByteArray.empty l0_4 x10_2).size : Int))))),.int .i64 x3_2] rfl am_ ?_;(with_reducible refine (ih kj17 (by have:=HJ7.out;have:=HK2.out;have:=HJ17.out;omega) ((rd_T25 l0_5 x10_2).f0) ((rd_T25 l0_5 x10_2).f1) ((rd_T25 l0_5 x10_2).f2) ((rd_T25 l0_5 x10_2).f3) _ _ ((rd_T25 l0_5 x10_2).f4) _ _ ((rd_T25 l0_5 x10_2).f5) (wrap64 (a1 + 1)) (wrap64 ((wrap64 (a2 + 21)) + (wrap64 (2 * ((rdOf ByteArray.empty l0_4 x10_2).size : Int))))) x3_2 t166 _ ?side1 ?side2 ?side3 ?side4 A26.out).mono ?_);(case side1=>repeat (first|exact (Kd.C_below HR165_4.out HB.out)|(with_reducible refine Kd.C_alloc ?_ _)|(with_reducible refine Kd.C_drewN ?_ _)|(with_reducible refine Kd.C_drew ?_)));(case side2=>exact HC165_4.out);(case side3=>repeat (first|exact (Kd.C_below HR165_5.out HB.out)|(with_reducible refine Kd.C_alloc ?_ _)|(with_reducible refine Kd.C_drewN ?_ _)|(with_reducible refine Kd.C_drew ?_)));(case side4=>exact HC165_5.out);rintro e w28 ⟨rfl,hb⟩;refine ⟨_,rfl,?_⟩;have n_:=J_ (bkb_ BK160 hb) (Aside0.mk (below_step (hb_ HB) hb));clear BK160 HB;obtain ⟨BK160,HB⟩:=n_;(try clear hb);(try clear hb2);(try clear hk);(try clear hi)))
           go_roundg kj17
           case measure=>have:=HJ7.out;have:=HK2.out;have:=HJ17.out;omega
           case rel=>exact ⟨(t166),(wrap64 (x10_2 + 1)),rr_,rr_,(by first|exact H'|(subst_vars;exact H')),⟨by have:=HJ7.out;have:=HK2.out;have:=HJ17.out;omega⟩,⟨(bk_ BK160)⟩,⟨(hb_ HB)⟩⟩
          rw [if_neg c25] at H
          exact absurd H (by simp)
         rw [if_neg c24] at H
         exact absurd H (by simp)
        rw [if_neg c23] at H
        have c23b0 : decide (x10_2 < (l0_4.length : Int)) = false:=decide_eq_false c23;clear c23
        by_cases c29 : 0 ≤ x10_2
        ·rw [if_pos c29] at H
         have c29b0 : decide (0 ≤ x10_2) = true:=decide_eq_true c29;clear c29
         by_cases c30 : x10_2 < (l0_5.length : Int)
         ·rw [if_pos c30] at H
          have c30b0 : decide (x10_2 < (l0_5.length : Int)) = true:=decide_eq_true c30;clear c30;replace H:=Option.bind_eq_some_iff.mp H;obtain ⟨t168,A310,H⟩:=H;replace H : (quarryref00_leftOfValue.l1 kj17 a1 a2 t168 (wrap64 (x10_2 + 1)) a0_0 a0_1 a0_2 a0_3 l0_4 l0_5) = some r:=H;have A31:=Aside0.mk A310;clear A310;have H':=Aside0.mk H;clear H;obtain ⟨hcz32_0,hcz32_1,hcz32_2,hcz32_3,hcz32_4,hcz32_5,hfz32_0,hfz32_1,hfz32_2,hfz32_3,hfz32_4,hfz32_5⟩:=cf6_ BK160;have p167 : 0 ≤ (x10_2 : Int):=of_decide_eq_true aa_;have q167 : x10_2 < (l0_5.length : Int):=of_decide_eq_true aa_;obtain ⟨ad167,A167_4,c167_4,A167_5,c167_5,e167,hx167_0,hx167_1,hx167_2,hx167_3,hx167_4,hx167_5,hl167_4,hi167_4,hl167_5,hi167_5⟩:=at_T25 HR0_5.out x10_2 p167 q167;cases e167;replace hx167_0:=(HB.out.cell (World.block_lt_of_cell? w _ hx167_0)).trans hx167_0;replace hx167_1:=(HB.out.cell (World.block_lt_of_cell? w _ hx167_1)).trans hx167_1;replace hx167_2:=(HB.out.cell (World.block_lt_of_cell? w _ hx167_2)).trans hx167_2;replace hx167_3:=(HB.out.cell (World.block_lt_of_cell? w _ hx167_3)).trans hx167_3;replace hx167_4:=(HB.out.cell (World.block_lt_of_cell? w _ hx167_4)).trans hx167_4;replace hx167_5:=(HB.out.cell (World.block_lt_of_cell? w _ hx167_5)).trans hx167_5;have HR167_4:=Aside0.mk hi167_4;have HC167_4:=Aside0.mk hl167_4;clear hi167_4 hl167_4;have HR167_5:=Aside0.mk hi167_5;have HC167_5:=Aside0.mk hl167_5;clear hi167_5 hl167_5;replace p167:=eq_true p167;replace q167:=eq_true q167
          go_wp2_with (first|((with_reducible refine gate_callee (f:=17) rfl ?_);refine goesL_ (some 83) rfl rfl Tryd.func17 (by kernel_rfl) rfl #[.agg #[.int .i64 ((rd_T25 l0_5 x10_2).f0),.bool ((rd_T25 l0_5 x10_2).f1),.string ((rd_T25 l0_5 x10_2).f2),.string ((rd_T25 l0_5 x10_2).f3),.slice A167_4 ((rd_T25 l0_5 x10_2).f4).length c167_4,.slice A167_5 ((rd_T25 l0_5 x10_2).f5).length c167_5],.int .i64 (wrap64 (a1 + 1)),.int .i64 (wrap64 (a2 + 21)),.int .i64 x3_2] rfl am_ ?_;(with_reducible refine (ih kj17 (by have:=HJ7.out;have:=HK2.out;have:=HJ17.out;omega) ((rd_T25 l0_5 x10_2).f0) ((rd_T25 l0_5 x10_2).f1) ((rd_T25 l0_5 x10_2).f2) ((rd_T25 l0_5 x10_2).f3) _ _ ((rd_T25 l0_5 x10_2).f4) _ _ ((rd_T25 l0_5 x10_2).f5) (wrap64 (a1 + 1)) (wrap64 (a2 + 21)) x3_2 t168 _ ?side1 ?side2 ?side3 ?side4 A31.out).mono ?_);(case side1=>repeat (first|exact (Kd.C_below HR167_4.out HB.out)|(with_reducible refine Kd.C_alloc ?_ _)|(with_reducible refine Kd.C_drewN ?_ _)|(with_reducible refine Kd.C_drew ?_)));(case side2=>exact HC167_4.out);(case side3=>repeat (first|exact (Kd.C_below HR167_5.out HB.out)|(with_reducible refine Kd.C_alloc ?_ _)|(with_reducible refine Kd.C_drewN ?_ _)|(with_reducible refine Kd.C_drew ?_)));(case side4=>exact HC167_5.out);rintro e w33 ⟨rfl,hb⟩;refine ⟨_,rfl,?_⟩;have n_:=J_ (bkb_ BK160 hb) (Aside0.mk (below_step (hb_ HB) hb));clear BK160 HB;obtain ⟨BK160,HB⟩:=n_;(try clear hb);(try clear hb2);(try clear hk);(try clear hi)))
          go_roundg kj17
          case measure=>have:=HJ7.out;have:=HK2.out;have:=HJ17.out;omega
          case rel=>exact ⟨(t168),(wrap64 (x10_2 + 1)),rr_,rr_,(by first|exact H'|(subst_vars;exact H')),⟨by have:=HJ7.out;have:=HK2.out;have:=HJ17.out;omega⟩,⟨(bk_ BK160)⟩,⟨(hb_ HB)⟩⟩
         rw [if_neg c30] at H
         exact absurd H (by simp)
        rw [if_neg c29] at H
        exact absurd H (by simp)
       replace c22:=Bool.eq_false_iff.mpr c22;subst c22
       have H1 : (some x3_2) = some r:=by rw [if_neg (show ¬ (false = true) by decide)] at H;exact H
       clear H;have H:=H1;clear H1;obtain rfl:=Option.some.inj H;go_wp2
       go_ret;exact ⟨er_,(hb_ HB)⟩
end Go.Proofs.YtfaegleohhemkaaDoor.PPointerLikes
