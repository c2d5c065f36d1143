-- By shrink.py.
import Derived.Test.YtfaegleohhemkaaDoorZPTreeLikesx0
import Derived.Test.YtfaegleohhemkaaDoorZPTreeLikesx15
import Derived.Test.YtfaegleohhemkaaDoorZPTreeLikesx19
namespace Go.Proofs.YtfaegleohhemkaaDoor.PTreeLikes
open Go.RowKit Go.Proofs.YtfaegleohhemkaaDoorW.PrintWords Go.Proofs.YtfaegleohhemkaaDoorW.PrintLast Go.Proofs.YtfaegleohhemkaaDoorW.PrintMore
attribute [local go_sem] max2_int min2_int max_two min_two max_three min_three max_four min_four
set_option linter.unusedVariables false
set_option linter.unusedSimpArgs false
def tree_Alike.f (k : Nat) (a0_0 : Int) (a0_1 : Bool) (a0_2 : ByteArray) (a0_3 : ByteArray) (l0_4 : List ByteArray) (l0_5 : List (S25)) (a1_0 : Int) (a1_1 : Bool) (a1_2 : ByteArray) (a1_3 : ByteArray) (l1_4 : List ByteArray) (l1_5 : List (S25)) : Option (Bool):=(tree_Formed.f k a0_0 a0_1 a0_2 a0_3 l0_4 l0_5).bind fun t170=>(if t170 = true then ((tree_Formed.f k a1_0 a1_1 a1_2 a1_3 l1_4 l1_5).bind fun t171=>(if t171 = true then ((tree_alike.f k a0_0 a0_1 a0_2 a0_3 l0_4 l0_5 a1_0 a1_1 a1_2 a1_3 l1_4 l1_5).bind fun t172=>(some t172)) else (some false))) else (some false))
theorem tree_Alike.mono : ∀ a0 a1 a2 a3 a4 a5 a6 a7 a8 a9 a10 a11 k,LeO (tree_Alike.f k a0 a1 a2 a3 a4 a5 a6 a7 a8 a9 a10 a11) (tree_Alike.f (k + 1) a0 a1 a2 a3 a4 a5 a6 a7 a8 a9 a10 a11):=by
 intro a0 a1 a2 a3 a4 a5 a6 a7 a8 a9 a10 a11 k
 unfold tree_Alike.f
 repeat' first
   | (with_reducible exact tree_Formed.mono _ _ _ _ _ _ _)
   | (with_reducible exact tree_alike.mono _ _ _ _ _ _ _ _ _ _ _ _ _)
   | (with_reducible exact LeO.refl _)
   | (with_reducible exact LeO.none _)
   | (with_reducible refine LeO.ite ?_ ?_)
   | (with_reducible refine LeO.bind ?_ (fun _=>?_))
   | exact LeO.none _
   | refine LeO.ite ?_ ?_
   | refine LeO.bind ?_ (fun _=>?_)
set_option maxHeartbeats 8000000 in
set_option maxRecDepth 100000 in
theorem tree_Alike.calls (k : Nat) (a0_0 : Int) (a0_1 : Bool) (a0_2 : ByteArray) (a0_3 : ByteArray) (A0_4 : Option Addr) (c0_4 : Nat) (l0_4 : List ByteArray) (A0_5 : Option Addr) (c0_5 : Nat) (l0_5 : List (S25)) (a1_0 : Int) (a1_1 : Bool) (a1_2 : ByteArray) (a1_3 : ByteArray) (A1_4 : Option Addr) (c1_4 : Nat) (l1_4 : List ByteArray) (A1_5 : Option Addr) (c1_5 : Nat) (l1_5 : List (S25)) (r : Bool) (w : World) (hr0_4 : Kd.C Kd.string w A0_4 l0_4.length l0_4) (hc0_4 : l0_4.length ≤ c0_4) (hr0_5 : Kd.C k25 w A0_5 l0_5.length l0_5) (hc0_5 : l0_5.length ≤ c0_5) (hr1_4 : Kd.C Kd.string w A1_4 l1_4.length l1_4) (hc1_4 : l1_4.length ≤ c1_4) (hr1_5 : Kd.C k25 w A1_5 l1_5.length l1_5) (hc1_5 : l1_5.length ≤ c1_5) (h : tree_Alike.f k a0_0 a0_1 a0_2 a0_3 l0_4 l0_5 a1_0 a1_1 a1_2 a1_3 l1_4 l1_5 = some r) :
  Calls Tryd.prog 7 #[.agg #[.int .i64 a0_0,.bool a0_1,.string a0_2,.string a0_3,.slice A0_4 l0_4.length c0_4,.slice A0_5 l0_5.length c0_5],.agg #[.int .i64 a1_0,.bool a1_1,.string a1_2,.string a1_3,.slice A1_4 l1_4.length c1_4,.slice A1_5 l1_5.length c1_5]] w fun e w'=>e = .returned (.bool r) ∧ Below w.heap.size w w':=by
 have hu25:=Tryd.underlying25;have HR0_4:=ad_ hr0_4;have HC0_4:=ad_ hc0_4;clear hr0_4 hc0_4;have HR0_5:=ad_ hr0_5;have HC0_5:=ad_ hc0_5;clear hr0_5 hc0_5;have HR1_4:=ad_ hr1_4;have HC1_4:=ad_ hc1_4;clear hr1_4 hc1_4;have HR1_5:=ad_ hr1_5;have HC1_5:=ad_ hc1_5;clear hr1_5 hc1_5;have HB:=ad_ (Below.refl w.heap.size w);have H : ((tree_Formed.f k a0_0 a0_1 a0_2 a0_3 l0_4 l0_5).bind fun t170=>(if t170 = true then ((tree_Formed.f k a1_0 a1_1 a1_2 a1_3 l1_4 l1_5).bind fun t171=>(if t171 = true then ((tree_alike.f k a0_0 a0_1 a0_2 a0_3 l0_4 l0_5 a1_0 a1_1 a1_2 a1_3 l1_4 l1_5).bind fun t172=>(some t172)) else (some false))) else (some false))) = some r:=h;clear h;replace H:=Option.bind_eq_some_iff.mp H;obtain ⟨t170,A30,H⟩:=H
 try dsimp only at H
 have A3:=ad_ A30;clear A30
 by_cases c4 : t170 = true
 ·subst c4
  rw [if_pos rfl] at H
  replace H:=Option.bind_eq_some_iff.mp H;obtain ⟨t171,A50,H⟩:=H
  try dsimp only at H
  have A5:=ad_ A50;clear A50
  by_cases c6 : t171 = true
  ·subst c6
   rw [if_pos rfl] at H
   replace H:=Option.bind_eq_some_iff.mp H;obtain ⟨t172,A70,H⟩:=H
   try dsimp only at H
   have A7:=ad_ A70;clear A70;obtain rfl:=si_ H;go_enter Tryd.func7,Tryd.ntmps7
   go_wp2_with (first|((with_reducible refine gate_dst (N:=2) rfl ?_);refine box_event ?hg (N:=2) ?hd (cs:=#[.int .i64 a0_0,.bool a0_1,.string a0_2,.string a0_3,.slice A0_4 l0_4.length c0_4,.slice A0_5 l0_5.length c0_5]) (t:=25) ?hr ?_;(case hd=>rfl);(case hg=>rfl);(case hr=>first|(go_simp;done)|(go_simp;rfl));intro gb168 hg w8 hbox hb;have n_:=J_ (bw_ (hb_ HB) hb) (J_ (hbox) (J_ (bs_ hg HB) (ad_ (bs_ hg HB))));clear HB;obtain ⟨HB,BK168,GW168,GE168⟩:=n_;clear hb hbox hg)|((with_reducible refine gate_dst (N:=3) rfl ?_);refine box_event ?hg (N:=3) ?hd (cs:=#[.int .i64 a1_0,.bool a1_1,.string a1_2,.string a1_3,.slice A1_4 l1_4.length c1_4,.slice A1_5 l1_5.length c1_5]) (t:=25) ?hr ?_;(case hd=>rfl);(case hg=>rfl);(case hr=>first|(go_simp;done)|(go_simp;rfl));intro gb169 hg w9 hbox hb;have n_:=J_ (bkb_ BK168 hb) (J_ (bw_ (hb_ HB) hb) (J_ (hbox) (J_ (bs_ hg HB) (J_ (bs_ hg HB) (J_ ((by rw [hg];exact Nat.ne_of_lt (bkl_ BK168) : gb168 ≠ gb169)) (ad_ ((by rw [hg];exact Nat.ne_of_gt (bkl_ BK168) : gb169 ≠ gb168))))))));clear BK168 HB;obtain ⟨BK168,HB,BK169,GW169,GE169,NB168_169,NB169_168⟩:=n_;clear hb hbox hg;have hnb10:=NB168_169.out;have hnc10:=NB169_168.out;obtain ⟨hcz11_0,hcz11_1,hcz11_2,hcz11_3,hcz11_4,hcz11_5,hfz11_0,hfz11_1,hfz11_2,hfz11_3,hfz11_4,hfz11_5⟩:=cf6_ BK168)|((with_reducible refine gate_callee (f:=15) rfl ?_);refine goesL_ (some 6) rfl rfl Tryd.func15 (by kernel_rfl) rfl #[.agg #[.int .i64 a0_0,.bool a0_1,.string a0_2,.string a0_3,.slice A0_4 l0_4.length c0_4,.slice A0_5 l0_5.length c0_5]] rfl am_ ?_;(with_reducible refine (tree_Formed.calls k a0_0 a0_1 a0_2 a0_3 _ _ l0_4 _ _ l0_5 true _ ?side1 ?side2 ?side3 ?side4 A3.out).mono ?_);(case side1=>repeat (first|exact (cb_ HR0_4.out HB.out)|(with_reducible refine ca_ ?_ _)|(with_reducible refine kd_ ?_ _)|(with_reducible refine ke_ ?_)));(case side2=>exact HC0_4.out);(case side3=>repeat (first|exact (cb_ HR0_5.out HB.out)|(with_reducible refine ca_ ?_ _)|(with_reducible refine kd_ ?_ _)|(with_reducible refine ke_ ?_)));(case side4=>exact HC0_5.out);rintro e w12 ⟨rfl,hb⟩;refine ⟨_,rfl,?_⟩;have n_:=J_ (bkb_ BK168 hb) (J_ (bkb_ BK169 hb) (ad_ (bw_ (hb_ HB) hb)));clear BK168 BK169 HB;obtain ⟨BK168,BK169,HB⟩:=n_;(try clear hb);(try clear hb2);(try clear hk);(try clear hi);obtain ⟨hcz13_0,hcz13_1,hcz13_2,hcz13_3,hcz13_4,hcz13_5,hfz13_0,hfz13_1,hfz13_2,hfz13_3,hfz13_4,hfz13_5⟩:=cf6_ BK169)|(go_at_call 15;(with_reducible refine (tree_Formed.calls k a1_0 a1_1 a1_2 a1_3 _ _ l1_4 _ _ l1_5 true _ ?side1 ?side2 ?side3 ?side4 A5.out).mono ?_);(case side1=>repeat (first|exact (cb_ HR1_4.out HB.out)|(with_reducible refine ca_ ?_ _)|(with_reducible refine kd_ ?_ _)|(with_reducible refine ke_ ?_)));(case side2=>exact HC1_4.out);(case side3=>repeat (first|exact (cb_ HR1_5.out HB.out)|(with_reducible refine ca_ ?_ _)|(with_reducible refine kd_ ?_ _)|(with_reducible refine ke_ ?_)));(case side4=>exact HC1_5.out);rintro e w14 ⟨rfl,hb⟩;have n_:=J_ (bkb_ BK168 hb) (J_ (bkb_ BK169 hb) (ad_ (bw_ (hb_ HB) hb)));clear BK168 BK169 HB;obtain ⟨BK168,BK169,HB⟩:=n_;(try clear hb);(try clear hb2);(try clear hk);(try clear hi);obtain ⟨hcz15_0,hcz15_1,hcz15_2,hcz15_3,hcz15_4,hcz15_5,hfz15_0,hfz15_1,hfz15_2,hfz15_3,hfz15_4,hfz15_5⟩:=cf6_ BK168;obtain ⟨hcz16_0,hcz16_1,hcz16_2,hcz16_3,hcz16_4,hcz16_5,hfz16_0,hfz16_1,hfz16_2,hfz16_3,hfz16_4,hfz16_5⟩:=cf6_ BK169)|(go_at_call 16;(with_reducible refine (tree_alike.calls k a0_0 a0_1 a0_2 a0_3 _ _ l0_4 _ _ l0_5 a1_0 a1_1 a1_2 a1_3 _ _ l1_4 _ _ l1_5 t172 _ ?side1 ?side2 ?side3 ?side4 ?side5 ?side6 ?side7 ?side8 A7.out).mono ?_);(case side1=>repeat (first|exact (cb_ HR0_4.out HB.out)|(with_reducible refine ca_ ?_ _)|(with_reducible refine kd_ ?_ _)|(with_reducible refine ke_ ?_)));(case side2=>exact HC0_4.out);(case side3=>repeat (first|exact (cb_ HR0_5.out HB.out)|(with_reducible refine ca_ ?_ _)|(with_reducible refine kd_ ?_ _)|(with_reducible refine ke_ ?_)));(case side4=>exact HC0_5.out);(case side5=>repeat (first|exact (cb_ HR1_4.out HB.out)|(with_reducible refine ca_ ?_ _)|(with_reducible refine kd_ ?_ _)|(with_reducible refine ke_ ?_)));(case side6=>exact HC1_4.out);(case side7=>repeat (first|exact (cb_ HR1_5.out HB.out)|(with_reducible refine ca_ ?_ _)|(with_reducible refine kd_ ?_ _)|(with_reducible refine ke_ ?_)));(case side8=>exact HC1_5.out);rintro e w17 ⟨rfl,hb⟩;have n_:=J_ (bkb_ BK168 hb) (J_ (bkb_ BK169 hb) (ad_ (bw_ (hb_ HB) hb)));clear BK168 BK169 HB;obtain ⟨BK168,BK169,HB⟩:=n_;(try clear hb);(try clear hb2);(try clear hk);(try clear hi)))
   go_ret;exact ⟨er_,(hb_ HB)⟩
  replace c6:=Bool.eq_false_iff.mpr c6;subst c6
  rw [if_neg (show ¬ (false = true) by decide)] at H
  obtain rfl:=si_ H;go_enter Tryd.func7,Tryd.ntmps7
  go_wp2_with (first|((with_reducible refine gate_dst (N:=2) rfl ?_);refine box_event ?hg (N:=2) ?hd (cs:=#[.int .i64 a0_0,.bool a0_1,.string a0_2,.string a0_3,.slice A0_4 l0_4.length c0_4,.slice A0_5 l0_5.length c0_5]) (t:=25) ?hr ?_;(case hd=>rfl);(case hg=>rfl);(case hr=>first|(go_simp;done)|(go_simp;rfl));intro gb168 hg w18 hbox hb;have n_:=J_ (bw_ (hb_ HB) hb) (J_ (hbox) (J_ (bs_ hg HB) (ad_ (bs_ hg HB))));clear HB;obtain ⟨HB,BK168,GW168,GE168⟩:=n_;clear hb hbox hg)|((with_reducible refine gate_dst (N:=3) rfl ?_);refine box_event ?hg (N:=3) ?hd (cs:=#[.int .i64 a1_0,.bool a1_1,.string a1_2,.string a1_3,.slice A1_4 l1_4.length c1_4,.slice A1_5 l1_5.length c1_5]) (t:=25) ?hr ?_;(case hd=>rfl);(case hg=>rfl);(case hr=>first|(go_simp;done)|(go_simp;rfl));intro gb169 hg w19 hbox hb;have n_:=J_ (bkb_ BK168 hb) (J_ (bw_ (hb_ HB) hb) (J_ (hbox) (J_ (bs_ hg HB) (J_ (bs_ hg HB) (J_ ((by rw [hg];exact Nat.ne_of_lt (bkl_ BK168) : gb168 ≠ gb169)) (ad_ ((by rw [hg];exact Nat.ne_of_gt (bkl_ BK168) : gb169 ≠ gb168))))))));clear BK168 HB;obtain ⟨BK168,HB,BK169,GW169,GE169,NB168_169,NB169_168⟩:=n_;clear hb hbox hg;have hnb20:=NB168_169.out;have hnc20:=NB169_168.out;obtain ⟨hcz21_0,hcz21_1,hcz21_2,hcz21_3,hcz21_4,hcz21_5,hfz21_0,hfz21_1,hfz21_2,hfz21_3,hfz21_4,hfz21_5⟩:=cf6_ BK168)|((with_reducible refine gate_callee (f:=15) rfl ?_);refine goesL_ (some 6) rfl rfl Tryd.func15 (by kernel_rfl) rfl #[.agg #[.int .i64 a0_0,.bool a0_1,.string a0_2,.string a0_3,.slice A0_4 l0_4.length c0_4,.slice A0_5 l0_5.length c0_5]] rfl am_ ?_;(with_reducible refine (tree_Formed.calls k a0_0 a0_1 a0_2 a0_3 _ _ l0_4 _ _ l0_5 true _ ?side1 ?side2 ?side3 ?side4 A3.out).mono ?_);(case side1=>repeat (first|exact (cb_ HR0_4.out HB.out)|(with_reducible refine ca_ ?_ _)|(with_reducible refine kd_ ?_ _)|(with_reducible refine ke_ ?_)));(case side2=>exact HC0_4.out);(case side3=>repeat (first|exact (cb_ HR0_5.out HB.out)|(with_reducible refine ca_ ?_ _)|(with_reducible refine kd_ ?_ _)|(with_reducible refine ke_ ?_)));(case side4=>exact HC0_5.out);rintro e w22 ⟨rfl,hb⟩;refine ⟨_,rfl,?_⟩;have n_:=J_ (bkb_ BK168 hb) (J_ (bkb_ BK169 hb) (ad_ (bw_ (hb_ HB) hb)));clear BK168 BK169 HB;obtain ⟨BK168,BK169,HB⟩:=n_;(try clear hb);(try clear hb2);(try clear hk);(try clear hi);obtain ⟨hcz23_0,hcz23_1,hcz23_2,hcz23_3,hcz23_4,hcz23_5,hfz23_0,hfz23_1,hfz23_2,hfz23_3,hfz23_4,hfz23_5⟩:=cf6_ BK169)|(go_at_call 15;(with_reducible refine (tree_Formed.calls k a1_0 a1_1 a1_2 a1_3 _ _ l1_4 _ _ l1_5 false _ ?side1 ?side2 ?side3 ?side4 A5.out).mono ?_);(case side1=>repeat (first|exact (cb_ HR1_4.out HB.out)|(with_reducible refine ca_ ?_ _)|(with_reducible refine kd_ ?_ _)|(with_reducible refine ke_ ?_)));(case side2=>exact HC1_4.out);(case side3=>repeat (first|exact (cb_ HR1_5.out HB.out)|(with_reducible refine ca_ ?_ _)|(with_reducible refine kd_ ?_ _)|(with_reducible refine ke_ ?_)));(case side4=>exact HC1_5.out);rintro e w24 ⟨rfl,hb⟩;have n_:=J_ (bkb_ BK168 hb) (J_ (bkb_ BK169 hb) (ad_ (bw_ (hb_ HB) hb)));clear BK168 BK169 HB;obtain ⟨BK168,BK169,HB⟩:=n_;(try clear hb);(try clear hb2);(try clear hk);(try clear hi)))
  go_ret;exact ⟨er_,(hb_ HB)⟩
 replace c4:=Bool.eq_false_iff.mpr c4;subst c4
 rw [if_neg (show ¬ (false = true) by decide)] at H
 obtain rfl:=si_ H;go_enter Tryd.func7,Tryd.ntmps7
 go_wp2_with (first|((with_reducible refine gate_dst (N:=2) rfl ?_);refine box_event ?hg (N:=2) ?hd (cs:=#[.int .i64 a0_0,.bool a0_1,.string a0_2,.string a0_3,.slice A0_4 l0_4.length c0_4,.slice A0_5 l0_5.length c0_5]) (t:=25) ?hr ?_;(case hd=>rfl);(case hg=>rfl);(case hr=>first|(go_simp;done)|(go_simp;rfl));intro gb168 hg w25 hbox hb;have n_:=J_ (bw_ (hb_ HB) hb) (J_ (hbox) (J_ (bs_ hg HB) (ad_ (bs_ hg HB))));clear HB;obtain ⟨HB,BK168,GW168,GE168⟩:=n_;clear hb hbox hg)|((with_reducible refine gate_dst (N:=3) rfl ?_);refine box_event ?hg (N:=3) ?hd (cs:=#[.int .i64 a1_0,.bool a1_1,.string a1_2,.string a1_3,.slice A1_4 l1_4.length c1_4,.slice A1_5 l1_5.length c1_5]) (t:=25) ?hr ?_;(case hd=>rfl);(case hg=>rfl);(case hr=>first|(go_simp;done)|(go_simp;rfl));intro gb169 hg w26 hbox hb;have n_:=J_ (bkb_ BK168 hb) (J_ (bw_ (hb_ HB) hb) (J_ (hbox) (J_ (bs_ hg HB) (J_ (bs_ hg HB) (J_ ((by rw [hg];exact Nat.ne_of_lt (bkl_ BK168) : gb168 ≠ gb169)) (ad_ ((by rw [hg];exact Nat.ne_of_gt (bkl_ BK168) : gb169 ≠ gb168))))))));clear BK168 HB;obtain ⟨BK168,HB,BK169,GW169,GE169,NB168_169,NB169_168⟩:=n_;clear hb hbox hg;have hnb27:=NB168_169.out;have hnc27:=NB169_168.out;obtain ⟨hcz28_0,hcz28_1,hcz28_2,hcz28_3,hcz28_4,hcz28_5,hfz28_0,hfz28_1,hfz28_2,hfz28_3,hfz28_4,hfz28_5⟩:=cf6_ BK168)|((with_reducible refine gate_callee (f:=15) rfl ?_);refine goesL_ (some 6) rfl rfl Tryd.func15 (by kernel_rfl) rfl #[.agg #[.int .i64 a0_0,.bool a0_1,.string a0_2,.string a0_3,.slice A0_4 l0_4.length c0_4,.slice A0_5 l0_5.length c0_5]] rfl am_ ?_;(with_reducible refine (tree_Formed.calls k a0_0 a0_1 a0_2 a0_3 _ _ l0_4 _ _ l0_5 false _ ?side1 ?side2 ?side3 ?side4 A3.out).mono ?_);(case side1=>repeat (first|exact (cb_ HR0_4.out HB.out)|(with_reducible refine ca_ ?_ _)|(with_reducible refine kd_ ?_ _)|(with_reducible refine ke_ ?_)));(case side2=>exact HC0_4.out);(case side3=>repeat (first|exact (cb_ HR0_5.out HB.out)|(with_reducible refine ca_ ?_ _)|(with_reducible refine kd_ ?_ _)|(with_reducible refine ke_ ?_)));(case side4=>exact HC0_5.out);rintro e w29 ⟨rfl,hb⟩;refine ⟨_,rfl,?_⟩;have n_:=J_ (bkb_ BK168 hb) (J_ (bkb_ BK169 hb) (ad_ (bw_ (hb_ HB) hb)));clear BK168 BK169 HB;obtain ⟨BK168,BK169,HB⟩:=n_;(try clear hb);(try clear hb2);(try clear hk);(try clear hi)))
 go_ret;exact ⟨er_,(hb_ HB)⟩
def quarryref00_told.f (a0 : Int) (a1 : Int) (a2 : Int) : Option (Int):=if a1 > 1025 then (some (wrap64 (1 + a0))) else (some (wrap64 ((wrap64 ((wrap64 (16 + (wrap64 (6 * a0)))) + (wrap64 (16 * a1)))) + a2)))
set_option maxHeartbeats 8000000 in
set_option maxRecDepth 100000 in
theorem quarryref00_told.calls (a0 : Int) (a1 : Int) (a2 : Int) (r : Int) (w : World) (h : quarryref00_told.f a0 a1 a2 = some r) :
  Calls Tryd.prog 28 #[.int .i64 a0,.int .i64 a1,.int .i64 a2] w fun e w'=>e = .returned (.int .i64 r) ∧ Drawn0 w w':=by
 have H : (if a1 > 1025 then (some (wrap64 (1 + a0))) else (some (wrap64 ((wrap64 ((wrap64 (16 + (wrap64 (6 * a0)))) + (wrap64 (16 * a1)))) + a2)))) = some r:=h;clear h
 by_cases c4 : a1 > 1025
 ·rw [if_pos c4] at H
  have c4b0 : decide (1025 < a1) = true:=dt_ c4;clear c4;obtain rfl:=si_ H;go_enter Tryd.func28,Tryd.ntmps28;go_wp2
  go_ret;exact ⟨by first|rfl|(simp;done)|(simp [*];done),by repeat (first|exact Drawn0.refl _|apply Drawn0.step)⟩
 rw [if_neg c4] at H
 have c4b0 : decide (1025 < a1) = false:=df_ c4;clear c4;obtain rfl:=si_ H;go_enter Tryd.func28,Tryd.ntmps28;go_wp2
 go_ret;exact ⟨by first|rfl|(simp;done)|(simp [*];done),by repeat (first|exact Drawn0.refl _|apply Drawn0.step)⟩
mutual
def quarryref00_leftOfValue.j1 : Nat → Int → Int → Int → Int → Bool → ByteArray → ByteArray → List ByteArray → List (S25) → Option (Int)
 | 0,_,_,_,_,_,_,_,_,_=>none
 | k + 1,x1,x2,x3,x174000,x174001,x174002,x174003,x174004,x174005=>quarryref00_leftOfValue.l1 k x1 x2 x3 0 x174000 x174001 x174002 x174003 x174004 x174005
def quarryref00_leftOfValue.l1 : Nat → Int → Int → Int → Int → Int → Bool → ByteArray → ByteArray → List ByteArray → List (S25) → Option (Int)
 | 0,_,_,_,_,_,_,_,_,_,_=>none
 | k + 1,x1,x2,x3,x10,x174000,x174001,x174002,x174003,x174004,x174005=>if x10 < (x174005.length : Int) then (quarryref00_leftOfValue.j3 k x1 x2 x3 x10 (decide (x3 ≥ 0)) x174000 x174001 x174002 x174003 x174004 x174005) else (quarryref00_leftOfValue.j3 k x1 x2 x3 x10 false x174000 x174001 x174002 x174003 x174004 x174005)
def quarryref00_leftOfValue.j3 : Nat → Int → Int → Int → Int → Bool → Int → Bool → ByteArray → ByteArray → List ByteArray → List (S25) → Option (Int)
 | 0,_,_,_,_,_,_,_,_,_,_,_=>none
 | k + 1,x1,x2,x3,x10,x55,x174000,x174001,x174002,x174003,x174004,x174005=>if x55 = true then (if x10 < (x174004.length : Int) then (if 0 ≤ x10 then (if x10 < (x174005.length : Int) then ((quarryref00_leftOfValue.f k ((rd_T25 x174005 x10).f0) ((rd_T25 x174005 x10).f1) ((rd_T25 x174005 x10).f2) ((rd_T25 x174005 x10).f3) ((rd_T25 x174005 x10).f4) ((rd_T25 x174005 x10).f5) (wrap64 (x1 + 1)) (wrap64 ((wrap64 (x2 + 21)) + (wrap64 (2 * ((rdOf ByteArray.empty x174004 x10).size : Int))))) x3).bind fun t179=>(quarryref00_leftOfValue.l1 k x1 x2 t179 (wrap64 (x10 + 1)) x174000 x174001 x174002 x174003 x174004 x174005)) else (none)) else (none)) else (if 0 ≤ x10 then (if x10 < (x174005.length : Int) then ((quarryref00_leftOfValue.f k ((rd_T25 x174005 x10).f0) ((rd_T25 x174005 x10).f1) ((rd_T25 x174005 x10).f2) ((rd_T25 x174005 x10).f3) ((rd_T25 x174005 x10).f4) ((rd_T25 x174005 x10).f5) (wrap64 (x1 + 1)) (wrap64 (x2 + 21)) x3).bind fun t181=>(quarryref00_leftOfValue.l1 k x1 x2 t181 (wrap64 (x10 + 1)) x174000 x174001 x174002 x174003 x174004 x174005)) else (none)) else (none))) else (some x3)
def quarryref00_leftOfValue.l0 : Nat → Int → Int → Int → Int → Int → Bool → ByteArray → ByteArray → List ByteArray → List (S25) → Option (Int)
 | 0,_,_,_,_,_,_,_,_,_,_=>none
 | k + 1,x1,x2,x3,x9,x174000,x174001,x174002,x174003,x174004,x174005=>if x9 < (x174004.length : Int) then (if x3 ≥ 0 then (if 0 ≤ x9 then ((quarryref00_told.f ((rdOf ByteArray.empty x174004 x9).size : Int) x1 0).bind fun t176=>(quarryref00_leftOfValue.l0 k x1 x2 (wrap64 (x3 - t176)) (wrap64 (x9 + 1)) x174000 x174001 x174002 x174003 x174004 x174005)) else (none)) else (quarryref00_leftOfValue.j1 k x1 x2 x3 x174000 x174001 x174002 x174003 x174004 x174005)) else (quarryref00_leftOfValue.j1 k x1 x2 x3 x174000 x174001 x174002 x174003 x174004 x174005)
def quarryref00_leftOfValue.f : Nat → Int → Bool → ByteArray → ByteArray → List ByteArray → List (S25) → Int → Int → Int → Option (Int)
 | 0,_,_,_,_,_,_,_,_,_=>none
 | k + 1,a0_0,a0_1,a0_2,a0_3,l0_4,l0_5,a1,a2,a3=>if a1 > 65536 then (some (-1)) else ((quarryref00_told.f (wrap64 ((a0_2.size : Int) + (a0_3.size : Int))) a1 a2).bind fun t174=>(quarryref00_leftOfValue.l0 k a1 a2 (wrap64 (a3 - t174)) 0 a0_0 a0_1 a0_2 a0_3 l0_4 l0_5))
end
set_option maxHeartbeats 8000000 in
set_option maxRecDepth 100000 in
theorem quarryref00_leftOfValue.calls (k : Nat) : ∀ (a0_0 : Int) (a0_1 : Bool) (a0_2 : ByteArray) (a0_3 : ByteArray) (A0_4 : Option Addr) (c0_4 : Nat) (l0_4 : List ByteArray) (A0_5 : Option Addr) (c0_5 : Nat) (l0_5 : List (S25)) (a1 : Int) (a2 : Int) (a3 : Int) (r : Int) (w : World) (hr0_4 : Kd.C Kd.string w A0_4 l0_4.length l0_4) (hc0_4 : l0_4.length ≤ c0_4) (hr0_5 : Kd.C k25 w A0_5 l0_5.length l0_5) (hc0_5 : l0_5.length ≤ c0_5) (h : quarryref00_leftOfValue.f k a0_0 a0_1 a0_2 a0_3 l0_4 l0_5 a1 a2 a3 = some r),
  Calls Tryd.prog 17 #[.agg #[.int .i64 a0_0,.bool a0_1,.string a0_2,.string a0_3,.slice A0_4 l0_4.length c0_4,.slice A0_5 l0_5.length c0_5],.int .i64 a1,.int .i64 a2,.int .i64 a3] w fun e w'=>e = .returned (.int .i64 r) ∧ Below w.heap.size w w':=by
 induction k using Nat.strongRecOn with
 | _ k ih =>
 intro a0_0 a0_1 a0_2 a0_3 A0_4 c0_4 l0_4 A0_5 c0_5 l0_5 a1 a2 a3 r w hr0_4 hc0_4 hr0_5 hc0_5 h
 cases k with
 | zero=>exact absurd h (by simp [quarryref00_leftOfValue.f])
 | succ k =>
 simp only [quarryref00_leftOfValue.f] at h
 have hu25:=Tryd.underlying25;have HR0_4:=ad_ hr0_4;have HC0_4:=ad_ hc0_4;clear hr0_4 hc0_4;have HR0_5:=ad_ hr0_5;have HC0_5:=ad_ hc0_5;clear hr0_5 hc0_5;have HB:=ad_ (Below.refl w.heap.size w);have H : (if a1 > 65536 then (some (-1)) else ((quarryref00_told.f (wrap64 ((a0_2.size : Int) + (a0_3.size : Int))) a1 a2).bind fun t174=>(quarryref00_leftOfValue.l0 k a1 a2 (wrap64 (a3 - t174)) 0 a0_0 a0_1 a0_2 a0_3 l0_4 l0_5))) = some r:=h;clear h
 by_cases c5 : a1 > 65536
 ·rw [if_pos c5] at H
  have c5b0 : decide (65536 < a1) = true:=dt_ c5;clear c5;obtain rfl:=si_ H;go_enter Tryd.func17,Tryd.ntmps17
  go_wp2_with (first|((with_reducible refine gate_dst (N:=4) rfl ?_);refine box_event ?hg (N:=4) ?hd (cs:=#[.int .i64 a0_0,.bool a0_1,.string a0_2,.string a0_3,.slice A0_4 l0_4.length c0_4,.slice A0_5 l0_5.length c0_5]) (t:=25) ?hr ?_;(case hd=>rfl);(case hg=>rfl);(case hr=>first|(go_simp;done)|(go_simp;rfl));intro gb173 hg w6 hbox hb;have n_:=J_ (bw_ (hb_ HB) hb) (J_ (hbox) (J_ (bs_ hg HB) (ad_ (bs_ hg HB))));clear HB;obtain ⟨HB,BK173,GW173,GE173⟩:=n_;clear hb hbox hg))
  go_ret;exact ⟨er_,(hb_ HB)⟩
 rw [if_neg c5] at H
 have c5b0 : decide (65536 < a1) = false:=df_ c5;clear c5;replace H:=Option.bind_eq_some_iff.mp H;obtain ⟨t174,A70,H⟩:=H
 try dsimp only at H
 have A7:=ad_ A70;clear A70;have HC8:=ad_ H;clear H;go_enter Tryd.func17,Tryd.ntmps17
 go_upto_block 0 with (first|((with_reducible refine gate_dst (N:=4) rfl ?_);refine box_event ?hg (N:=4) ?hd (cs:=#[.int .i64 a0_0,.bool a0_1,.string a0_2,.string a0_3,.slice A0_4 l0_4.length c0_4,.slice A0_5 l0_5.length c0_5]) (t:=25) ?hr ?_;(case hd=>rfl);(case hg=>rfl);(case hr=>first|(go_simp;done)|(go_simp;rfl));intro gb173 hg w9 hbox hb;have n_:=J_ (bw_ (hb_ HB) hb) (J_ (hbox) (J_ (bs_ hg HB) (ad_ (bs_ hg HB))));clear HB;obtain ⟨HB,BK173,GW173,GE173⟩:=n_;clear hb hbox hg;obtain ⟨hcz10_0,hcz10_1,hcz10_2,hcz10_3,hcz10_4,hcz10_5,hfz10_0,hfz10_1,hfz10_2,hfz10_3,hfz10_4,hfz10_5⟩:=cf6_ BK173)|((with_reducible refine gate_callee (f:=28) rfl ?_);refine goesL_ (some 24) rfl rfl Tryd.func28 (by kernel_rfl) rfl #[.int .i64 (wrap64 ((a0_2.size : Int) + (a0_3.size : Int))),.int .i64 a1,.int .i64 a2] rfl am_ ?_;(with_reducible refine (quarryref00_told.calls (wrap64 ((a0_2.size : Int) + (a0_3.size : Int))) a1 a2 t174 _ A7.out).mono ?_);rintro e w' ⟨rfl,⟨nd,rfl⟩⟩;refine ⟨_,rfl,?_⟩))
 (try simp only [Act.put,List.setIfInBounds_toArray,List.set_cons_zero,List.set_cons_succ])
 go_cut [3] (fun v3 wc=>∃ (kq : Nat) (x3_7 : Int),v3 = .int .i64 x3_7 ∧ Aside0 (quarryref00_leftOfValue.j1 kq a1 a2 x3_7 a0_0 a0_1 a0_2 a0_3 l0_4 l0_5 = some r) ∧ Aside0 (kq ≤ k) ∧ Aside0 (wc.heap[gb173]? = some (.cells #[.int .i64 a0_0,.bool a0_1,.string a0_2,.string a0_3,(.slice A0_4 l0_4.length c0_4),(.slice A0_5 l0_5.length c0_5)] 25 (0,0))) ∧ Aside0 (Below w.heap.size w wc))
 case first =>
  have H:=HC8.out;clear HC8;have H':=ad_ H;clear H;go_wp2
  go_loopg [3,9] k (fun kq v3 v9 w'=>∃ (x3_1 : Int) (x9_1 : Int),v3 = .int .i64 x3_1 ∧ v9 = .int .i64 x9_1 ∧ Aside0 (quarryref00_leftOfValue.l0 kq a1 a2 x3_1 x9_1 a0_0 a0_1 a0_2 a0_3 l0_4 l0_5 = some r) ∧ Aside0 (kq ≤ k) ∧ Aside0 (w'.heap[gb173]? = some (.cells #[.int .i64 a0_0,.bool a0_1,.string a0_2,.string a0_3,(.slice A0_4 l0_4.length c0_4),(.slice A0_5 l0_5.length c0_5)] 25 (0,0))) ∧ Aside0 (Below w.heap.size w w'))
  case atStart=>exact ⟨(wrap64 (a3 - t174)),(0),rr_,rr_,H',⟨Nat.le_refl _⟩,⟨(bk_ BK173)⟩,⟨(hb_ HB)⟩⟩
  case round =>
   clear H'
   try clear BK173
   try clear HB
   obtain ⟨x3_1,x9_1,rfl,rfl,HA,HK1,BK173,HB⟩:=hrel
   cases gk with
   | zero=>exact absurd HA.out (by simp [quarryref00_leftOfValue.l0])
   | succ k1 =>
    have H:=HA.out;clear HA
    simp only [quarryref00_leftOfValue.l0] at H
    by_cases c11 : x9_1 < (l0_4.length : Int)
    ·rw [if_pos c11] at H
     have c11b0 : decide (x9_1 < (l0_4.length : Int)) = true:=dt_ c11;clear c11
     (first|rw [c11b0]|(simp only [i64_w,i32_w];rw [c11b0])|skip)
     by_cases c12 : x3_1 ≥ 0
     ·rw [if_pos c12] at H
      have c12b0 : decide (0 ≤ x3_1) = true:=dt_ c12;clear c12
      by_cases c13 : 0 ≤ x9_1
      ·rw [if_pos c13] at H
       have c13b0 : decide (0 ≤ x9_1) = true:=dt_ c13;clear c13;replace H:=Option.bind_eq_some_iff.mp H;obtain ⟨t176,A140,H⟩:=H
       try dsimp only at H
       have A14:=ad_ A140;clear A140;have H':=ad_ H;clear H;obtain ⟨hcz15_0,hcz15_1,hcz15_2,hcz15_3,hcz15_4,hcz15_5,hfz15_0,hfz15_1,hfz15_2,hfz15_3,hfz15_4,hfz15_5⟩:=cf6_ BK173;have p175 : 0 ≤ (x9_1 : Int):=od_ aa_;have q175 : x9_1 < (l0_4.length : Int):=od_ aa_;obtain ⟨ad175,e175,hx175_0⟩:=Kd.at_string HR0_4.out x9_1 p175 q175;cases e175;replace hx175_0:=(HB.out.cell (wb_ w _ hx175_0)).trans hx175_0;replace p175:=eq_true p175;replace q175:=eq_true q175
       go_wp2_with (first|((with_reducible refine gate_callee (f:=28) rfl ?_);refine goesL_ (some 45) rfl rfl Tryd.func28 (by kernel_rfl) rfl #[.int .i64 ((rdOf ByteArray.empty l0_4 x9_1).size : Int),.int .i64 a1,.int .i64 0] rfl am_ ?_;(with_reducible refine (quarryref00_told.calls ((rdOf ByteArray.empty l0_4 x9_1).size : Int) a1 0 t176 _ A14.out).mono ?_);rintro e w' ⟨rfl,⟨nd,rfl⟩⟩;refine ⟨_,rfl,?_⟩))
       go_roundg k1
       case measure=>have:=HK1.out;omega
       case rel=>exact ⟨(wrap64 (x3_1 - t176)),(wrap64 (x9_1 + 1)),rr_,rr_,(by first|exact H'|(subst_vars;exact H')),⟨by have:=HK1.out;omega⟩,⟨(bk_ BK173)⟩,⟨(hb_ HB)⟩⟩
      rw [if_neg c13] at H
      exact absurd H (by simp)
     rw [if_neg c12] at H
     have c12b0 : decide (0 ≤ x3_1) = false:=df_ c12;clear c12;have H':=ad_ H;clear H;obtain ⟨hcz16_0,hcz16_1,hcz16_2,hcz16_3,hcz16_4,hcz16_5,hfz16_0,hfz16_1,hfz16_2,hfz16_3,hfz16_4,hfz16_5⟩:=cf6_ BK173;go_wp2
     go_meet
     case rel=>exact ⟨_,(x3_1),rr_,(by first|exact H'|(subst_vars;exact H')),⟨by have:=HK1.out;first|omega|exact Nat.le_refl _⟩,⟨(bk_ BK173)⟩,⟨(hb_ HB)⟩⟩
    rw [if_neg c11] at H
    have c11b0 : decide (x9_1 < (l0_4.length : Int)) = false:=df_ c11;clear c11
    (first|rw [c11b0]|(simp only [i64_w,i32_w];rw [c11b0])|skip)
    have H':=ad_ H;clear H;obtain ⟨hcz17_0,hcz17_1,hcz17_2,hcz17_3,hcz17_4,hcz17_5,hfz17_0,hfz17_1,hfz17_2,hfz17_3,hfz17_4,hfz17_5⟩:=cf6_ BK173;go_wp2
    go_meet
    case rel=>exact ⟨_,(x3_1),rr_,(by first|exact H'|(subst_vars;exact H')),⟨by have:=HK1.out;first|omega|exact Nat.le_refl _⟩,⟨(bk_ BK173)⟩,⟨(hb_ HB)⟩⟩
 case rest =>
  clear HC8;obtain ⟨kq,x3_7,rfl,HA,HJ7,BK173,HB⟩:=hcut
  cases kq with
  | zero=>exact absurd HA.out (by simp [quarryref00_leftOfValue.j1])
  | succ kj7 =>
   have H:=HA.out;clear HA
   simp only [quarryref00_leftOfValue.j1] at H
   have H':=ad_ H;clear H;go_wp2
   go_loopg [3,10] kj7 (fun kq v3 v10 w'=>∃ (x3_2 : Int) (x10_2 : Int),v3 = .int .i64 x3_2 ∧ v10 = .int .i64 x10_2 ∧ Aside0 (quarryref00_leftOfValue.l1 kq a1 a2 x3_2 x10_2 a0_0 a0_1 a0_2 a0_3 l0_4 l0_5 = some r) ∧ Aside0 (kq ≤ kj7) ∧ Aside0 (w'.heap[gb173]? = some (.cells #[.int .i64 a0_0,.bool a0_1,.string a0_2,.string a0_3,(.slice A0_4 l0_4.length c0_4),(.slice A0_5 l0_5.length c0_5)] 25 (0,0))) ∧ Aside0 (Below w.heap.size w w'))
   case atStart=>exact ⟨(x3_7),(0),rr_,rr_,H',⟨Nat.le_refl _⟩,⟨(bk_ BK173)⟩,⟨(hb_ HB)⟩⟩
   case round =>
    clear H'
    try clear BK173
    try clear HB
    obtain ⟨x3_2,x10_2,rfl,rfl,HA,HK2,BK173,HB⟩:=hrel
    cases gk with
    | zero=>exact absurd HA.out (by simp [quarryref00_leftOfValue.l1])
    | succ k2 =>
     have H:=HA.out;clear HA
     simp only [quarryref00_leftOfValue.l1] at H
     have HC18:=ad_ H;clear H
     go_upto_region 9 with (fail)
     go_cut [55] (fun v55 wc=>∃ (kq : Nat) (x55_17 : Bool),v55 = .bool x55_17 ∧ Aside0 (quarryref00_leftOfValue.j3 kq a1 a2 x3_2 x10_2 x55_17 a0_0 a0_1 a0_2 a0_3 l0_4 l0_5 = some r) ∧ Aside0 (kq ≤ k2) ∧ Aside0 (wc.heap[gb173]? = some (.cells #[.int .i64 a0_0,.bool a0_1,.string a0_2,.string a0_3,(.slice A0_4 l0_4.length c0_4),(.slice A0_5 l0_5.length c0_5)] 25 (0,0))) ∧ Aside0 (Below w.heap.size w wc))
     case first =>
      have H:=HC18.out;clear HC18
      by_cases c19 : x10_2 < (l0_5.length : Int)
      ·rw [if_pos c19] at H
       have c19b0 : decide (x10_2 < (l0_5.length : Int)) = true:=dt_ c19;clear c19
       (first|rw [c19b0]|(simp only [i64_w,i32_w];rw [c19b0])|skip)
       have H':=ad_ H;clear H;obtain ⟨hcz20_0,hcz20_1,hcz20_2,hcz20_3,hcz20_4,hcz20_5,hfz20_0,hfz20_1,hfz20_2,hfz20_3,hfz20_4,hfz20_5⟩:=cf6_ BK173;go_wp2
       go_meet
       case rel=>exact ⟨_,(decide (x3_2 ≥ 0)),rr_,(by first|exact H'|(subst_vars;exact H')),⟨by have:=HJ7.out;have:=HK2.out;first|omega|exact Nat.le_refl _⟩,⟨(bk_ BK173)⟩,⟨(hb_ HB)⟩⟩
      rw [if_neg c19] at H
      have c19b0 : decide (x10_2 < (l0_5.length : Int)) = false:=df_ c19;clear c19
      (first|rw [c19b0]|(simp only [i64_w,i32_w];rw [c19b0])|skip)
      have H':=ad_ H;clear H;obtain ⟨hcz21_0,hcz21_1,hcz21_2,hcz21_3,hcz21_4,hcz21_5,hfz21_0,hfz21_1,hfz21_2,hfz21_3,hfz21_4,hfz21_5⟩:=cf6_ BK173;go_wp2
      go_meet
      case rel=>exact ⟨_,(false),rr_,(by first|exact H'|(subst_vars;exact H')),⟨by have:=HJ7.out;have:=HK2.out;first|omega|exact Nat.le_refl _⟩,⟨(bk_ BK173)⟩,⟨(hb_ HB)⟩⟩
     case rest =>
      clear HC18;obtain ⟨kq,x55_17,rfl,HA,HJ17,BK173,HB⟩:=hcut
      cases kq with
      | zero=>exact absurd HA.out (by simp [quarryref00_leftOfValue.j3])
      | succ kj17 =>
       have H:=HA.out;clear HA
       simp only [quarryref00_leftOfValue.j3] at H
       by_cases c22 : x55_17 = true
       ·subst c22
        rw [if_pos rfl] at H
        by_cases c23 : x10_2 < (l0_4.length : Int)
        ·rw [if_pos c23] at H
         have c23b0 : decide (x10_2 < (l0_4.length : Int)) = true:=dt_ c23;clear c23
         by_cases c24 : 0 ≤ x10_2
         ·rw [if_pos c24] at H
          have c24b0 : decide (0 ≤ x10_2) = true:=dt_ c24;clear c24
          by_cases c25 : x10_2 < (l0_5.length : Int)
          ·rw [if_pos c25] at H
           have c25b0 : decide (x10_2 < (l0_5.length : Int)) = true:=dt_ c25;clear c25;replace H:=Option.bind_eq_some_iff.mp H;obtain ⟨t179,A260,H⟩:=H
           try dsimp only at H
           have A26:=ad_ A260;clear A260;have H':=ad_ H;clear H;obtain ⟨hcz27_0,hcz27_1,hcz27_2,hcz27_3,hcz27_4,hcz27_5,hfz27_0,hfz27_1,hfz27_2,hfz27_3,hfz27_4,hfz27_5⟩:=cf6_ BK173;have p177 : 0 ≤ (x10_2 : Int):=od_ aa_;have q177 : x10_2 < (l0_4.length : Int):=od_ aa_;obtain ⟨ad177,e177,hx177_0⟩:=Kd.at_string HR0_4.out x10_2 p177 q177;cases e177;replace hx177_0:=(HB.out.cell (wb_ w _ hx177_0)).trans hx177_0;replace p177:=eq_true p177;replace q177:=eq_true q177;have p178 : 0 ≤ (x10_2 : Int):=od_ aa_;have q178 : x10_2 < (l0_5.length : Int):=od_ aa_;obtain ⟨ad178,A178_4,c178_4,A178_5,c178_5,e178,hx178_0,hx178_1,hx178_2,hx178_3,hx178_4,hx178_5,hl178_4,hi178_4,hl178_5,hi178_5⟩:=at_T25 HR0_5.out x10_2 p178 q178;cases e178;replace hx178_0:=(HB.out.cell (wb_ w _ hx178_0)).trans hx178_0;replace hx178_1:=(HB.out.cell (wb_ w _ hx178_1)).trans hx178_1;replace hx178_2:=(HB.out.cell (wb_ w _ hx178_2)).trans hx178_2;replace hx178_3:=(HB.out.cell (wb_ w _ hx178_3)).trans hx178_3;replace hx178_4:=(HB.out.cell (wb_ w _ hx178_4)).trans hx178_4;replace hx178_5:=(HB.out.cell (wb_ w _ hx178_5)).trans hx178_5;have HR178_4:=ad_ hi178_4;have HC178_4:=ad_ hl178_4;clear hi178_4 hl178_4;have HR178_5:=ad_ hi178_5;have HC178_5:=ad_ hl178_5;clear hi178_5 hl178_5;replace p178:=eq_true p178;replace q178:=eq_true q178
           go_wp2_with (first|((with_reducible refine gate_callee (f:=17) rfl ?_);refine goesL_ (some 83) rfl rfl Tryd.func17 (by kernel_rfl) rfl #[.agg #[.int .i64 ((rd_T25 l0_5 x10_2).f0),.bool ((rd_T25 l0_5 x10_2).f1),.string ((rd_T25 l0_5 x10_2).f2),.string ((rd_T25 l0_5 x10_2).f3),.slice A178_4 ((rd_T25 l0_5 x10_2).f4).length c178_4,.slice A178_5 ((rd_T25 l0_5 x10_2).f5).length c178_5],.int .i64 (wrap64 (a1 + 1)),.int .i64 (wrap64 ((wrap64 (a2 + 21)) + (wrap64 (2 * ((rdOf ByteArray.empty l0_4 x10_2).size : Int))))),.int .i64 x3_2] rfl am_ ?_;(with_reducible refine (ih kj17 (by have:=HJ7.out;have:=HK2.out;have:=HJ17.out;omega) ((rd_T25 l0_5 x10_2).f0) ((rd_T25 l0_5 x10_2).f1) ((rd_T25 l0_5 x10_2).f2) ((rd_T25 l0_5 x10_2).f3) _ _ ((rd_T25 l0_5 x10_2).f4) _ _ ((rd_T25 l0_5 x10_2).f5) (wrap64 (a1 + 1)) (wrap64 ((wrap64 (a2 + 21)) + (wrap64 (2 * ((rdOf ByteArray.empty l0_4 x10_2).size : Int))))) x3_2 t179 _ ?side1 ?side2 ?side3 ?side4 A26.out).mono ?_);(case side1=>repeat (first|exact (cb_ HR178_4.out HB.out)|(with_reducible refine ca_ ?_ _)|(with_reducible refine kd_ ?_ _)|(with_reducible refine ke_ ?_)));(case side2=>exact HC178_4.out);(case side3=>repeat (first|exact (cb_ HR178_5.out HB.out)|(with_reducible refine ca_ ?_ _)|(with_reducible refine kd_ ?_ _)|(with_reducible refine ke_ ?_)));(case side4=>exact HC178_5.out);rintro e w28 ⟨rfl,hb⟩;refine ⟨_,rfl,?_⟩;have n_:=J_ (bkb_ BK173 hb) (ad_ (bw_ (hb_ HB) hb));clear BK173 HB;obtain ⟨BK173,HB⟩:=n_;(try clear hb);(try clear hb2);(try clear hk);(try clear hi)))
           go_roundg kj17
           case measure=>have:=HJ7.out;have:=HK2.out;have:=HJ17.out;omega
           case rel=>exact ⟨(t179),(wrap64 (x10_2 + 1)),rr_,rr_,(by first|exact H'|(subst_vars;exact H')),⟨by have:=HJ7.out;have:=HK2.out;have:=HJ17.out;omega⟩,⟨(bk_ BK173)⟩,⟨(hb_ HB)⟩⟩
          rw [if_neg c25] at H
          exact absurd H (by simp)
         rw [if_neg c24] at H
         exact absurd H (by simp)
        rw [if_neg c23] at H
        have c23b0 : decide (x10_2 < (l0_4.length : Int)) = false:=df_ c23;clear c23
        by_cases c29 : 0 ≤ x10_2
        ·rw [if_pos c29] at H
         have c29b0 : decide (0 ≤ x10_2) = true:=dt_ c29;clear c29
         by_cases c30 : x10_2 < (l0_5.length : Int)
         ·rw [if_pos c30] at H
          have c30b0 : decide (x10_2 < (l0_5.length : Int)) = true:=dt_ c30;clear c30;replace H:=Option.bind_eq_some_iff.mp H;obtain ⟨t181,A310,H⟩:=H
          try dsimp only at H
          have A31:=ad_ A310;clear A310;have H':=ad_ H;clear H;obtain ⟨hcz32_0,hcz32_1,hcz32_2,hcz32_3,hcz32_4,hcz32_5,hfz32_0,hfz32_1,hfz32_2,hfz32_3,hfz32_4,hfz32_5⟩:=cf6_ BK173;have p180 : 0 ≤ (x10_2 : Int):=od_ aa_;have q180 : x10_2 < (l0_5.length : Int):=od_ aa_;obtain ⟨ad180,A180_4,c180_4,A180_5,c180_5,e180,hx180_0,hx180_1,hx180_2,hx180_3,hx180_4,hx180_5,hl180_4,hi180_4,hl180_5,hi180_5⟩:=at_T25 HR0_5.out x10_2 p180 q180;cases e180;replace hx180_0:=(HB.out.cell (wb_ w _ hx180_0)).trans hx180_0;replace hx180_1:=(HB.out.cell (wb_ w _ hx180_1)).trans hx180_1;replace hx180_2:=(HB.out.cell (wb_ w _ hx180_2)).trans hx180_2;replace hx180_3:=(HB.out.cell (wb_ w _ hx180_3)).trans hx180_3;replace hx180_4:=(HB.out.cell (wb_ w _ hx180_4)).trans hx180_4;replace hx180_5:=(HB.out.cell (wb_ w _ hx180_5)).trans hx180_5;have HR180_4:=ad_ hi180_4;have HC180_4:=ad_ hl180_4;clear hi180_4 hl180_4;have HR180_5:=ad_ hi180_5;have HC180_5:=ad_ hl180_5;clear hi180_5 hl180_5;replace p180:=eq_true p180;replace q180:=eq_true q180
          go_wp2_with (first|((with_reducible refine gate_callee (f:=17) rfl ?_);refine goesL_ (some 83) rfl rfl Tryd.func17 (by kernel_rfl) rfl #[.agg #[.int .i64 ((rd_T25 l0_5 x10_2).f0),.bool ((rd_T25 l0_5 x10_2).f1),.string ((rd_T25 l0_5 x10_2).f2),.string ((rd_T25 l0_5 x10_2).f3),.slice A180_4 ((rd_T25 l0_5 x10_2).f4).length c180_4,.slice A180_5 ((rd_T25 l0_5 x10_2).f5).length c180_5],.int .i64 (wrap64 (a1 + 1)),.int .i64 (wrap64 (a2 + 21)),.int .i64 x3_2] rfl am_ ?_;(with_reducible refine (ih kj17 (by have:=HJ7.out;have:=HK2.out;have:=HJ17.out;omega) ((rd_T25 l0_5 x10_2).f0) ((rd_T25 l0_5 x10_2).f1) ((rd_T25 l0_5 x10_2).f2) ((rd_T25 l0_5 x10_2).f3) _ _ ((rd_T25 l0_5 x10_2).f4) _ _ ((rd_T25 l0_5 x10_2).f5) (wrap64 (a1 + 1)) (wrap64 (a2 + 21)) x3_2 t181 _ ?side1 ?side2 ?side3 ?side4 A31.out).mono ?_);(case side1=>repeat (first|exact (cb_ HR180_4.out HB.out)|(with_reducible refine ca_ ?_ _)|(with_reducible refine kd_ ?_ _)|(with_reducible refine ke_ ?_)));(case side2=>exact HC180_4.out);(case side3=>repeat (first|exact (cb_ HR180_5.out HB.out)|(with_reducible refine ca_ ?_ _)|(with_reducible refine kd_ ?_ _)|(with_reducible refine ke_ ?_)));(case side4=>exact HC180_5.out);rintro e w33 ⟨rfl,hb⟩;refine ⟨_,rfl,?_⟩;have n_:=J_ (bkb_ BK173 hb) (ad_ (bw_ (hb_ HB) hb));clear BK173 HB;obtain ⟨BK173,HB⟩:=n_;(try clear hb);(try clear hb2);(try clear hk);(try clear hi)))
          go_roundg kj17
          case measure=>have:=HJ7.out;have:=HK2.out;have:=HJ17.out;omega
          case rel=>exact ⟨(t181),(wrap64 (x10_2 + 1)),rr_,rr_,(by first|exact H'|(subst_vars;exact H')),⟨by have:=HJ7.out;have:=HK2.out;have:=HJ17.out;omega⟩,⟨(bk_ BK173)⟩,⟨(hb_ HB)⟩⟩
         rw [if_neg c30] at H
         exact absurd H (by simp)
        rw [if_neg c29] at H
        exact absurd H (by simp)
       replace c22:=Bool.eq_false_iff.mpr c22;subst c22
       rw [if_neg (show ¬ (false = true) by decide)] at H
       obtain rfl:=si_ H;go_wp2
       go_ret;exact ⟨er_,(hb_ HB)⟩
end Go.Proofs.YtfaegleohhemkaaDoor.PTreeLikes
