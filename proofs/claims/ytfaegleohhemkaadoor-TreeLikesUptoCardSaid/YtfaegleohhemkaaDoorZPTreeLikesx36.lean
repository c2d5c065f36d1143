-- By shrink.py.
import Derived.Test.YtfaegleohhemkaaDoorZPTreeLikesx0
import Derived.Test.YtfaegleohhemkaaDoorZPTreeLikesx2
import Derived.Test.YtfaegleohhemkaaDoorZPTreeLikesx3
import Derived.Test.YtfaegleohhemkaaDoorZPTreeLikesx20
import Derived.Test.YtfaegleohhemkaaDoorZPTreeLikesx21
import Derived.Test.YtfaegleohhemkaaDoorZPTreeLikesx23
import Derived.Test.YtfaegleohhemkaaDoorZPTreeLikesx30
import Derived.Test.YtfaegleohhemkaaDoorZPTreeLikesx35
namespace Go.Proofs.YtfaegleohhemkaaDoor.PTreeLikes
open Go.RowKit Go.Proofs.YtfaegleohhemkaaDoorW.PrintWords Go.Proofs.YtfaegleohhemkaaDoorW.PrintLast Go.Proofs.YtfaegleohhemkaaDoorW.PrintMore
attribute [local go_sem] max2_int min2_int max_two min_two max_three min_three max_four min_four
set_option linter.unusedVariables false
set_option linter.unusedSimpArgs false
def quarryref17_Alike.f (k : Nat) (a0_0 : Int) (a0_1 : Bool) (a0_2 : ByteArray) (a0_3 : ByteArray) (l0_4 : List ByteArray) (l0_5 : List (S25)) (a1_0 : Int) (a1_1 : Bool) (a1_2 : ByteArray) (a1_3 : ByteArray) (l1_4 : List ByteArray) (l1_5 : List (S25)) : Option (Bool):=(quarryref17_Formed.f k a0_0 a0_1 a0_2 a0_3 l0_4 l0_5).bind fun t300=>(if t300 = true then ((quarryref17_Formed.f k a1_0 a1_1 a1_2 a1_3 l1_4 l1_5).bind fun t301=>(if t301 = true then ((quarryref17_alike.f k a0_0 a0_1 a0_2 a0_3 l0_4 l0_5 a1_0 a1_1 a1_2 a1_3 l1_4 l1_5).bind fun t302=>(some t302)) else (some false))) else (some false))
set_option maxHeartbeats 8000000 in
set_option maxRecDepth 100000 in
theorem quarryref17_Alike.calls (k : Nat) (a0_0 : Int) (a0_1 : Bool) (a0_2 : ByteArray) (a0_3 : ByteArray) (A0_4 : Option Addr) (c0_4 : Nat) (l0_4 : List ByteArray) (A0_5 : Option Addr) (c0_5 : Nat) (l0_5 : List (S25)) (a1_0 : Int) (a1_1 : Bool) (a1_2 : ByteArray) (a1_3 : ByteArray) (A1_4 : Option Addr) (c1_4 : Nat) (l1_4 : List ByteArray) (A1_5 : Option Addr) (c1_5 : Nat) (l1_5 : List (S25)) (r : Bool) (w : World) (hr0_4 : Kd.C Kd.string w A0_4 l0_4.length l0_4) (hc0_4 : l0_4.length ≤ c0_4) (hr0_5 : Kd.C k25 w A0_5 l0_5.length l0_5) (hc0_5 : l0_5.length ≤ c0_5) (hr1_4 : Kd.C Kd.string w A1_4 l1_4.length l1_4) (hc1_4 : l1_4.length ≤ c1_4) (hr1_5 : Kd.C k25 w A1_5 l1_5.length l1_5) (hc1_5 : l1_5.length ≤ c1_5) (h : quarryref17_Alike.f k a0_0 a0_1 a0_2 a0_3 l0_4 l0_5 a1_0 a1_1 a1_2 a1_3 l1_4 l1_5 = some r) :
  Calls Tryd.prog 10 #[.agg #[.int .i64 a0_0,.bool a0_1,.string a0_2,.string a0_3,.slice A0_4 l0_4.length c0_4,.slice A0_5 l0_5.length c0_5],.agg #[.int .i64 a1_0,.bool a1_1,.string a1_2,.string a1_3,.slice A1_4 l1_4.length c1_4,.slice A1_5 l1_5.length c1_5]] w fun e w'=>e = .returned (.bool r) ∧ Below w.heap.size w w':=by
 have hu25:=Tryd.underlying25;have HR0_4:=ad_ hr0_4;have HC0_4:=ad_ hc0_4;clear hr0_4 hc0_4;have HR0_5:=ad_ hr0_5;have HC0_5:=ad_ hc0_5;clear hr0_5 hc0_5;have HR1_4:=ad_ hr1_4;have HC1_4:=ad_ hc1_4;clear hr1_4 hc1_4;have HR1_5:=ad_ hr1_5;have HC1_5:=ad_ hc1_5;clear hr1_5 hc1_5;have HB:=ad_ (Below.refl w.heap.size w);have H : ((quarryref17_Formed.f k a0_0 a0_1 a0_2 a0_3 l0_4 l0_5).bind fun t300=>(if t300 = true then ((quarryref17_Formed.f k a1_0 a1_1 a1_2 a1_3 l1_4 l1_5).bind fun t301=>(if t301 = true then ((quarryref17_alike.f k a0_0 a0_1 a0_2 a0_3 l0_4 l0_5 a1_0 a1_1 a1_2 a1_3 l1_4 l1_5).bind fun t302=>(some t302)) else (some false))) else (some false))) = some r:=h;clear h;replace H:=Option.bind_eq_some_iff.mp H;obtain ⟨t300,A30,H⟩:=H
 try dsimp only at H
 have A3:=ad_ A30;clear A30
 by_cases c4 : t300 = true
 ·subst c4
  rw [if_pos rfl] at H
  replace H:=Option.bind_eq_some_iff.mp H;obtain ⟨t301,A50,H⟩:=H
  try dsimp only at H
  have A5:=ad_ A50;clear A50
  by_cases c6 : t301 = true
  ·subst c6
   rw [if_pos rfl] at H
   replace H:=Option.bind_eq_some_iff.mp H;obtain ⟨t302,A70,H⟩:=H
   try dsimp only at H
   have A7:=ad_ A70;clear A70;obtain rfl:=si_ H;go_enter Tryd.func10,Tryd.ntmps10
   go_wp2_with (first|((with_reducible refine gate_dst (N:=2) rfl ?_);refine box_event ?hg (N:=2) ?hd (cs:=#[.int .i64 a0_0,.bool a0_1,.string a0_2,.string a0_3,.slice A0_4 l0_4.length c0_4,.slice A0_5 l0_5.length c0_5]) (t:=25) ?hr ?_;(case hd=>rfl);(case hg=>rfl);(case hr=>first|(go_simp;done)|(go_simp;rfl));intro gb298 hg w8 hbox hb;have n_:=J_ (bw_ (hb_ HB) hb) (J_ (hbox) (J_ (bs_ hg HB) (ad_ (bs_ hg HB))));clear HB;obtain ⟨HB,BK298,GW298,GE298⟩:=n_;clear hb hbox hg)|((with_reducible refine gate_dst (N:=3) rfl ?_);refine box_event ?hg (N:=3) ?hd (cs:=#[.int .i64 a1_0,.bool a1_1,.string a1_2,.string a1_3,.slice A1_4 l1_4.length c1_4,.slice A1_5 l1_5.length c1_5]) (t:=25) ?hr ?_;(case hd=>rfl);(case hg=>rfl);(case hr=>first|(go_simp;done)|(go_simp;rfl));intro gb299 hg w9 hbox hb;have n_:=J_ (bkb_ BK298 hb) (J_ (bw_ (hb_ HB) hb) (J_ (hbox) (J_ (bs_ hg HB) (J_ (bs_ hg HB) (J_ ((by rw [hg];exact Nat.ne_of_lt (bkl_ BK298) : gb298 ≠ gb299)) (ad_ ((by rw [hg];exact Nat.ne_of_gt (bkl_ BK298) : gb299 ≠ gb298))))))));clear BK298 HB;obtain ⟨BK298,HB,BK299,GW299,GE299,NB298_299,NB299_298⟩:=n_;clear hb hbox hg;have hnb10:=NB298_299.out;have hnc10:=NB299_298.out;obtain ⟨hcz11_0,hcz11_1,hcz11_2,hcz11_3,hcz11_4,hcz11_5,hfz11_0,hfz11_1,hfz11_2,hfz11_3,hfz11_4,hfz11_5⟩:=cf6_ BK298)|((with_reducible refine gate_callee (f:=19) rfl ?_);refine goesL_ (some 6) rfl rfl Tryd.func19 (by kernel_rfl) rfl #[.agg #[.int .i64 a0_0,.bool a0_1,.string a0_2,.string a0_3,.slice A0_4 l0_4.length c0_4,.slice A0_5 l0_5.length c0_5]] rfl am_ ?_;(with_reducible refine (quarryref17_Formed.calls k a0_0 a0_1 a0_2 a0_3 _ _ l0_4 _ _ l0_5 true _ ?side1 ?side2 ?side3 ?side4 A3.out).mono ?_);(case side1=>repeat (first|exact (cb_ HR0_4.out HB.out)|(with_reducible refine ca_ ?_ _)|(with_reducible refine kd_ ?_ _)|(with_reducible refine ke_ ?_)));(case side2=>exact HC0_4.out);(case side3=>repeat (first|exact (cb_ HR0_5.out HB.out)|(with_reducible refine ca_ ?_ _)|(with_reducible refine kd_ ?_ _)|(with_reducible refine ke_ ?_)));(case side4=>exact HC0_5.out);rintro e w12 ⟨rfl,hb⟩;refine ⟨_,rfl,?_⟩;have n_:=J_ (bkb_ BK298 hb) (J_ (bkb_ BK299 hb) (ad_ (bw_ (hb_ HB) hb)));clear BK298 BK299 HB;obtain ⟨BK298,BK299,HB⟩:=n_;(try clear hb);(try clear hb2);(try clear hk);(try clear hi);obtain ⟨hcz13_0,hcz13_1,hcz13_2,hcz13_3,hcz13_4,hcz13_5,hfz13_0,hfz13_1,hfz13_2,hfz13_3,hfz13_4,hfz13_5⟩:=cf6_ BK299)|(go_at_call 19;(with_reducible refine (quarryref17_Formed.calls k a1_0 a1_1 a1_2 a1_3 _ _ l1_4 _ _ l1_5 true _ ?side1 ?side2 ?side3 ?side4 A5.out).mono ?_);(case side1=>repeat (first|exact (cb_ HR1_4.out HB.out)|(with_reducible refine ca_ ?_ _)|(with_reducible refine kd_ ?_ _)|(with_reducible refine ke_ ?_)));(case side2=>exact HC1_4.out);(case side3=>repeat (first|exact (cb_ HR1_5.out HB.out)|(with_reducible refine ca_ ?_ _)|(with_reducible refine kd_ ?_ _)|(with_reducible refine ke_ ?_)));(case side4=>exact HC1_5.out);rintro e w14 ⟨rfl,hb⟩;have n_:=J_ (bkb_ BK298 hb) (J_ (bkb_ BK299 hb) (ad_ (bw_ (hb_ HB) hb)));clear BK298 BK299 HB;obtain ⟨BK298,BK299,HB⟩:=n_;(try clear hb);(try clear hb2);(try clear hk);(try clear hi);obtain ⟨hcz15_0,hcz15_1,hcz15_2,hcz15_3,hcz15_4,hcz15_5,hfz15_0,hfz15_1,hfz15_2,hfz15_3,hfz15_4,hfz15_5⟩:=cf6_ BK298;obtain ⟨hcz16_0,hcz16_1,hcz16_2,hcz16_3,hcz16_4,hcz16_5,hfz16_0,hfz16_1,hfz16_2,hfz16_3,hfz16_4,hfz16_5⟩:=cf6_ BK299)|(go_at_call 20;(with_reducible refine (quarryref17_alike.calls k a0_0 a0_1 a0_2 a0_3 _ _ l0_4 _ _ l0_5 a1_0 a1_1 a1_2 a1_3 _ _ l1_4 _ _ l1_5 t302 _ ?side1 ?side2 ?side3 ?side4 ?side5 ?side6 ?side7 ?side8 A7.out).mono ?_);(case side1=>repeat (first|exact (cb_ HR0_4.out HB.out)|(with_reducible refine ca_ ?_ _)|(with_reducible refine kd_ ?_ _)|(with_reducible refine ke_ ?_)));(case side2=>exact HC0_4.out);(case side3=>repeat (first|exact (cb_ HR0_5.out HB.out)|(with_reducible refine ca_ ?_ _)|(with_reducible refine kd_ ?_ _)|(with_reducible refine ke_ ?_)));(case side4=>exact HC0_5.out);(case side5=>repeat (first|exact (cb_ HR1_4.out HB.out)|(with_reducible refine ca_ ?_ _)|(with_reducible refine kd_ ?_ _)|(with_reducible refine ke_ ?_)));(case side6=>exact HC1_4.out);(case side7=>repeat (first|exact (cb_ HR1_5.out HB.out)|(with_reducible refine ca_ ?_ _)|(with_reducible refine kd_ ?_ _)|(with_reducible refine ke_ ?_)));(case side8=>exact HC1_5.out);rintro e w17 ⟨rfl,hb⟩;have n_:=J_ (bkb_ BK298 hb) (J_ (bkb_ BK299 hb) (ad_ (bw_ (hb_ HB) hb)));clear BK298 BK299 HB;obtain ⟨BK298,BK299,HB⟩:=n_;(try clear hb);(try clear hb2);(try clear hk);(try clear hi)))
   go_ret;exact ⟨er_,(hb_ HB)⟩
  replace c6:=Bool.eq_false_iff.mpr c6;subst c6
  rw [if_neg (show ¬ (false = true) by decide)] at H
  obtain rfl:=si_ H;go_enter Tryd.func10,Tryd.ntmps10
  go_wp2_with (first|((with_reducible refine gate_dst (N:=2) rfl ?_);refine box_event ?hg (N:=2) ?hd (cs:=#[.int .i64 a0_0,.bool a0_1,.string a0_2,.string a0_3,.slice A0_4 l0_4.length c0_4,.slice A0_5 l0_5.length c0_5]) (t:=25) ?hr ?_;(case hd=>rfl);(case hg=>rfl);(case hr=>first|(go_simp;done)|(go_simp;rfl));intro gb298 hg w18 hbox hb;have n_:=J_ (bw_ (hb_ HB) hb) (J_ (hbox) (J_ (bs_ hg HB) (ad_ (bs_ hg HB))));clear HB;obtain ⟨HB,BK298,GW298,GE298⟩:=n_;clear hb hbox hg)|((with_reducible refine gate_dst (N:=3) rfl ?_);refine box_event ?hg (N:=3) ?hd (cs:=#[.int .i64 a1_0,.bool a1_1,.string a1_2,.string a1_3,.slice A1_4 l1_4.length c1_4,.slice A1_5 l1_5.length c1_5]) (t:=25) ?hr ?_;(case hd=>rfl);(case hg=>rfl);(case hr=>first|(go_simp;done)|(go_simp;rfl));intro gb299 hg w19 hbox hb;have n_:=J_ (bkb_ BK298 hb) (J_ (bw_ (hb_ HB) hb) (J_ (hbox) (J_ (bs_ hg HB) (J_ (bs_ hg HB) (J_ ((by rw [hg];exact Nat.ne_of_lt (bkl_ BK298) : gb298 ≠ gb299)) (ad_ ((by rw [hg];exact Nat.ne_of_gt (bkl_ BK298) : gb299 ≠ gb298))))))));clear BK298 HB;obtain ⟨BK298,HB,BK299,GW299,GE299,NB298_299,NB299_298⟩:=n_;clear hb hbox hg;have hnb20:=NB298_299.out;have hnc20:=NB299_298.out;obtain ⟨hcz21_0,hcz21_1,hcz21_2,hcz21_3,hcz21_4,hcz21_5,hfz21_0,hfz21_1,hfz21_2,hfz21_3,hfz21_4,hfz21_5⟩:=cf6_ BK298)|((with_reducible refine gate_callee (f:=19) rfl ?_);refine goesL_ (some 6) rfl rfl Tryd.func19 (by kernel_rfl) rfl #[.agg #[.int .i64 a0_0,.bool a0_1,.string a0_2,.string a0_3,.slice A0_4 l0_4.length c0_4,.slice A0_5 l0_5.length c0_5]] rfl am_ ?_;(with_reducible refine (quarryref17_Formed.calls k a0_0 a0_1 a0_2 a0_3 _ _ l0_4 _ _ l0_5 true _ ?side1 ?side2 ?side3 ?side4 A3.out).mono ?_);(case side1=>repeat (first|exact (cb_ HR0_4.out HB.out)|(with_reducible refine ca_ ?_ _)|(with_reducible refine kd_ ?_ _)|(with_reducible refine ke_ ?_)));(case side2=>exact HC0_4.out);(case side3=>repeat (first|exact (cb_ HR0_5.out HB.out)|(with_reducible refine ca_ ?_ _)|(with_reducible refine kd_ ?_ _)|(with_reducible refine ke_ ?_)));(case side4=>exact HC0_5.out);rintro e w22 ⟨rfl,hb⟩;refine ⟨_,rfl,?_⟩;have n_:=J_ (bkb_ BK298 hb) (J_ (bkb_ BK299 hb) (ad_ (bw_ (hb_ HB) hb)));clear BK298 BK299 HB;obtain ⟨BK298,BK299,HB⟩:=n_;(try clear hb);(try clear hb2);(try clear hk);(try clear hi);obtain ⟨hcz23_0,hcz23_1,hcz23_2,hcz23_3,hcz23_4,hcz23_5,hfz23_0,hfz23_1,hfz23_2,hfz23_3,hfz23_4,hfz23_5⟩:=cf6_ BK299)|(go_at_call 19;(with_reducible refine (quarryref17_Formed.calls k a1_0 a1_1 a1_2 a1_3 _ _ l1_4 _ _ l1_5 false _ ?side1 ?side2 ?side3 ?side4 A5.out).mono ?_);(case side1=>repeat (first|exact (cb_ HR1_4.out HB.out)|(with_reducible refine ca_ ?_ _)|(with_reducible refine kd_ ?_ _)|(with_reducible refine ke_ ?_)));(case side2=>exact HC1_4.out);(case side3=>repeat (first|exact (cb_ HR1_5.out HB.out)|(with_reducible refine ca_ ?_ _)|(with_reducible refine kd_ ?_ _)|(with_reducible refine ke_ ?_)));(case side4=>exact HC1_5.out);rintro e w24 ⟨rfl,hb⟩;have n_:=J_ (bkb_ BK298 hb) (J_ (bkb_ BK299 hb) (ad_ (bw_ (hb_ HB) hb)));clear BK298 BK299 HB;obtain ⟨BK298,BK299,HB⟩:=n_;(try clear hb);(try clear hb2);(try clear hk);(try clear hi)))
  go_ret;exact ⟨er_,(hb_ HB)⟩
 replace c4:=Bool.eq_false_iff.mpr c4;subst c4
 rw [if_neg (show ¬ (false = true) by decide)] at H
 obtain rfl:=si_ H;go_enter Tryd.func10,Tryd.ntmps10
 go_wp2_with (first|((with_reducible refine gate_dst (N:=2) rfl ?_);refine box_event ?hg (N:=2) ?hd (cs:=#[.int .i64 a0_0,.bool a0_1,.string a0_2,.string a0_3,.slice A0_4 l0_4.length c0_4,.slice A0_5 l0_5.length c0_5]) (t:=25) ?hr ?_;(case hd=>rfl);(case hg=>rfl);(case hr=>first|(go_simp;done)|(go_simp;rfl));intro gb298 hg w25 hbox hb;have n_:=J_ (bw_ (hb_ HB) hb) (J_ (hbox) (J_ (bs_ hg HB) (ad_ (bs_ hg HB))));clear HB;obtain ⟨HB,BK298,GW298,GE298⟩:=n_;clear hb hbox hg)|((with_reducible refine gate_dst (N:=3) rfl ?_);refine box_event ?hg (N:=3) ?hd (cs:=#[.int .i64 a1_0,.bool a1_1,.string a1_2,.string a1_3,.slice A1_4 l1_4.length c1_4,.slice A1_5 l1_5.length c1_5]) (t:=25) ?hr ?_;(case hd=>rfl);(case hg=>rfl);(case hr=>first|(go_simp;done)|(go_simp;rfl));intro gb299 hg w26 hbox hb;have n_:=J_ (bkb_ BK298 hb) (J_ (bw_ (hb_ HB) hb) (J_ (hbox) (J_ (bs_ hg HB) (J_ (bs_ hg HB) (J_ ((by rw [hg];exact Nat.ne_of_lt (bkl_ BK298) : gb298 ≠ gb299)) (ad_ ((by rw [hg];exact Nat.ne_of_gt (bkl_ BK298) : gb299 ≠ gb298))))))));clear BK298 HB;obtain ⟨BK298,HB,BK299,GW299,GE299,NB298_299,NB299_298⟩:=n_;clear hb hbox hg;have hnb27:=NB298_299.out;have hnc27:=NB299_298.out;obtain ⟨hcz28_0,hcz28_1,hcz28_2,hcz28_3,hcz28_4,hcz28_5,hfz28_0,hfz28_1,hfz28_2,hfz28_3,hfz28_4,hfz28_5⟩:=cf6_ BK298)|((with_reducible refine gate_callee (f:=19) rfl ?_);refine goesL_ (some 6) rfl rfl Tryd.func19 (by kernel_rfl) rfl #[.agg #[.int .i64 a0_0,.bool a0_1,.string a0_2,.string a0_3,.slice A0_4 l0_4.length c0_4,.slice A0_5 l0_5.length c0_5]] rfl am_ ?_;(with_reducible refine (quarryref17_Formed.calls k a0_0 a0_1 a0_2 a0_3 _ _ l0_4 _ _ l0_5 false _ ?side1 ?side2 ?side3 ?side4 A3.out).mono ?_);(case side1=>repeat (first|exact (cb_ HR0_4.out HB.out)|(with_reducible refine ca_ ?_ _)|(with_reducible refine kd_ ?_ _)|(with_reducible refine ke_ ?_)));(case side2=>exact HC0_4.out);(case side3=>repeat (first|exact (cb_ HR0_5.out HB.out)|(with_reducible refine ca_ ?_ _)|(with_reducible refine kd_ ?_ _)|(with_reducible refine ke_ ?_)));(case side4=>exact HC0_5.out);rintro e w29 ⟨rfl,hb⟩;refine ⟨_,rfl,?_⟩;have n_:=J_ (bkb_ BK298 hb) (J_ (bkb_ BK299 hb) (ad_ (bw_ (hb_ HB) hb)));clear BK298 BK299 HB;obtain ⟨BK298,BK299,HB⟩:=n_;(try clear hb);(try clear hb2);(try clear hk);(try clear hi)))
 go_ret;exact ⟨er_,(hb_ HB)⟩
mutual
def quarrylaw17_TreeLikes.j0 : Nat → Bool → Int → Bool → ByteArray → ByteArray → List ByteArray → List (S25) → Int → Bool → ByteArray → ByteArray → List ByteArray → List (S25) → Option (Bool)
 | 0,_,_,_,_,_,_,_,_,_,_,_,_,_=>none
 | k + 1,x14,x304000,x304001,x304002,x304003,x304004,x304005,x305000,x305001,x305002,x305003,x305004,x305005=>if x14 = true then (none) else ((quarryref00_BeyondValue.f k x304000 x304001 x304002 x304003 x304004 x304005).bind fun t327=>(if t327 = true then (quarrylaw17_TreeLikes.j1 k true x304000 x304001 x304002 x304003 x304004 x304005 x305000 x305001 x305002 x305003 x305004 x305005) else ((quarryref00_BeyondValue.f k x305000 x305001 x305002 x305003 x305004 x305005).bind fun t328=>(quarrylaw17_TreeLikes.j1 k t328 x304000 x304001 x304002 x304003 x304004 x304005 x305000 x305001 x305002 x305003 x305004 x305005))))
def quarrylaw17_TreeLikes.j1 : Nat → Bool → Int → Bool → ByteArray → ByteArray → List ByteArray → List (S25) → Int → Bool → ByteArray → ByteArray → List ByteArray → List (S25) → Option (Bool)
 | 0,_,_,_,_,_,_,_,_,_,_,_,_,_=>none
 | k + 1,x20,x304000,x304001,x304002,x304003,x304004,x304005,x305000,x305001,x305002,x305003,x305004,x305005=>if x20 = true then (some true) else ((tree_Same.f k x304000 x304001 x304002 x304003 x304004 x304005 x305000 x305001 x305002 x305003 x305004 x305005).bind fun t329=>((quarryref17_Same.f k x304000 x304001 x304002 x304003 x304004 x304005 x305000 x305001 x305002 x305003 x305004 x305005).bind fun t330=>(if (t329 == t330) = true then ((tree_Alike.f k x304000 x304001 x304002 x304003 x304004 x304005 x305000 x305001 x305002 x305003 x305004 x305005).bind fun t331=>((quarryref17_Alike.f k x304000 x304001 x304002 x304003 x304004 x304005 x305000 x305001 x305002 x305003 x305004 x305005).bind fun t332=>(some (t331 == t332)))) else (none))))
end
def quarrylaw17_TreeLikes.f (k : Nat) (a0_0 : Int) (a0_1 : Bool) (a0_2 : ByteArray) (a0_3 : ByteArray) (l0_4 : List ByteArray) (l0_5 : List (S25)) (a1_0 : Int) (a1_1 : Bool) (a1_2 : ByteArray) (a1_3 : ByteArray) (l1_4 : List ByteArray) (l1_5 : List (S25)) : Option (Bool):=(quarrylaw17_smallValue.f).bind fun bt305=>((quarrylaw17_smallValue.f).bind fun bt315=>((tree_Same.f k bt305.1 bt305.2.1 bt305.2.2.1 bt305.2.2.2.1 bt305.2.2.2.2.1 bt305.2.2.2.2.2 bt315.1 bt315.2.1 bt315.2.2.1 bt315.2.2.2.1 bt315.2.2.2.2.1 bt315.2.2.2.2.2).bind fun t325=>(if t325 = true then ((tree_Alike.f k 3 false (⟨#[49,46,48]⟩ : ByteArray) (⟨#[]⟩ : ByteArray) ([] : List ByteArray) ([] : List (S25)) 3 false (⟨#[49,48,101,45,49]⟩ : ByteArray) (⟨#[]⟩ : ByteArray) ([] : List ByteArray) ([] : List (S25))).bind fun t326=>(quarrylaw17_TreeLikes.j0 k (!t326) a0_0 a0_1 a0_2 a0_3 l0_4 l0_5 a1_0 a1_1 a1_2 a1_3 l1_4 l1_5)) else (quarrylaw17_TreeLikes.j0 k true a0_0 a0_1 a0_2 a0_3 l0_4 l0_5 a1_0 a1_1 a1_2 a1_3 l1_4 l1_5))))
def quarrylaw17_TreeLikes.T5 : Bool × List (List Nat × List Nat):=(true,[([],[]),([],[]),([0,1],[0,1]),([],[]),([],[]),([3,4,2],[3,4]),([2,5],[2,5]),([6,5],[6]),([7],[7]),([7],[7]),([8,9,7,7],[7,8,9]),([7],[7]),([7],[7]),([11,12,10,7],[7,11,12]),([10,13,7],[7,10,13]),([7,14],[7,14]),([15,13,0,1,2,3,4,5,6,7,8,9,10,11,12,13,14,15],[15])])
def quarrylaw17_TreeLikes.B5 : List Nat:=[0,0,3,0,0,31,63,127,255,255,1023,255,255,8191,16383,32767,65535]
theorem quarrylaw17_TreeLikes.tab5 : rtab .any (opsOf Tryd.f3 5) = quarrylaw17_TreeLikes.T5:=by kernel_rfl
theorem quarrylaw17_TreeLikes.bits5 : waitsOk quarrylaw17_TreeLikes.T5.2 quarrylaw17_TreeLikes.B5 = true:=by kernel_rfl
set_option maxHeartbeats 8000000 in
set_option maxRecDepth 100000 in
theorem quarrylaw17_TreeLikes.calls (k : Nat) (a0_0 : Int) (a0_1 : Bool) (a0_2 : ByteArray) (a0_3 : ByteArray) (A0_4 : Option Addr) (c0_4 : Nat) (l0_4 : List ByteArray) (A0_5 : Option Addr) (c0_5 : Nat) (l0_5 : List (S25)) (a1_0 : Int) (a1_1 : Bool) (a1_2 : ByteArray) (a1_3 : ByteArray) (A1_4 : Option Addr) (c1_4 : Nat) (l1_4 : List ByteArray) (A1_5 : Option Addr) (c1_5 : Nat) (l1_5 : List (S25)) (r : Bool) (w : World) (hr0_4 : Kd.C Kd.string w A0_4 l0_4.length l0_4) (hc0_4 : l0_4.length ≤ c0_4) (hr0_5 : Kd.C k25 w A0_5 l0_5.length l0_5) (hc0_5 : l0_5.length ≤ c0_5) (hr1_4 : Kd.C Kd.string w A1_4 l1_4.length l1_4) (hc1_4 : l1_4.length ≤ c1_4) (hr1_5 : Kd.C k25 w A1_5 l1_5.length l1_5) (hc1_5 : l1_5.length ≤ c1_5) (h : quarrylaw17_TreeLikes.f k a0_0 a0_1 a0_2 a0_3 l0_4 l0_5 a1_0 a1_1 a1_2 a1_3 l1_4 l1_5 = some r) :
  Calls Tryd.prog 3 #[.agg #[.int .i64 a0_0,.bool a0_1,.string a0_2,.string a0_3,.slice A0_4 l0_4.length c0_4,.slice A0_5 l0_5.length c0_5],.agg #[.int .i64 a1_0,.bool a1_1,.string a1_2,.string a1_3,.slice A1_4 l1_4.length c1_4,.slice A1_5 l1_5.length c1_5]] w fun e w'=>e = .returned (.bool r) ∧ Below w.heap.size w w':=by
 have hu25:=Tryd.underlying25;have HR0_4:=ad_ hr0_4;have HC0_4:=ad_ hc0_4;clear hr0_4 hc0_4;have HR0_5:=ad_ hr0_5;have HC0_5:=ad_ hc0_5;clear hr0_5 hc0_5;have HR1_4:=ad_ hr1_4;have HC1_4:=ad_ hc1_4;clear hr1_4 hc1_4;have HR1_5:=ad_ hr1_5;have HC1_5:=ad_ hc1_5;clear hr1_5 hc1_5;have HB:=ad_ (Below.refl w.heap.size w);have H : ((quarrylaw17_smallValue.f).bind fun bt305=>((quarrylaw17_smallValue.f).bind fun bt315=>((tree_Same.f k bt305.1 bt305.2.1 bt305.2.2.1 bt305.2.2.2.1 bt305.2.2.2.2.1 bt305.2.2.2.2.2 bt315.1 bt315.2.1 bt315.2.2.1 bt315.2.2.2.1 bt315.2.2.2.2.1 bt315.2.2.2.2.2).bind fun t325=>(if t325 = true then ((tree_Alike.f k 3 false (⟨#[49,46,48]⟩ : ByteArray) (⟨#[]⟩ : ByteArray) ([] : List ByteArray) ([] : List (S25)) 3 false (⟨#[49,48,101,45,49]⟩ : ByteArray) (⟨#[]⟩ : ByteArray) ([] : List ByteArray) ([] : List (S25))).bind fun t326=>(quarrylaw17_TreeLikes.j0 k (!t326) a0_0 a0_1 a0_2 a0_3 l0_4 l0_5 a1_0 a1_1 a1_2 a1_3 l1_4 l1_5)) else (quarrylaw17_TreeLikes.j0 k true a0_0 a0_1 a0_2 a0_3 l0_4 l0_5 a1_0 a1_1 a1_2 a1_3 l1_4 l1_5))))) = some r:=h;clear h;have HC3:=ad_ H;clear H;go_enter Tryd.func3,Tryd.ntmps3
 go_upto_region 1 with (first|((with_reducible refine gate_dst (N:=2) rfl ?_);refine box_event ?hg (N:=2) ?hd (cs:=#[.int .i64 a0_0,.bool a0_1,.string a0_2,.string a0_3,.slice A0_4 l0_4.length c0_4,.slice A0_5 l0_5.length c0_5]) (t:=25) ?hr ?_;(case hd=>rfl);(case hg=>rfl);(case hr=>first|(go_simp;done)|(go_simp;rfl));intro gb303 hg w4 hbox hb;have n_:=J_ (bw_ (hb_ HB) hb) (J_ (hbox) (J_ (bs_ hg HB) (ad_ (bs_ hg HB))));clear HB;obtain ⟨HB,BK303,GW303,GE303⟩:=n_;clear hb hbox hg)|((with_reducible refine gate_dst (N:=3) rfl ?_);refine box_event ?hg (N:=3) ?hd (cs:=#[.int .i64 a1_0,.bool a1_1,.string a1_2,.string a1_3,.slice A1_4 l1_4.length c1_4,.slice A1_5 l1_5.length c1_5]) (t:=25) ?hr ?_;(case hd=>rfl);(case hg=>rfl);(case hr=>first|(go_simp;done)|(go_simp;rfl));intro gb304 hg w5 hbox hb;have n_:=J_ (bkb_ BK303 hb) (J_ (bw_ (hb_ HB) hb) (J_ (hbox) (J_ (bs_ hg HB) (J_ (bs_ hg HB) (J_ ((by rw [hg];exact Nat.ne_of_lt (bkl_ BK303) : gb303 ≠ gb304)) (ad_ ((by rw [hg];exact Nat.ne_of_gt (bkl_ BK303) : gb304 ≠ gb303))))))));clear BK303 HB;obtain ⟨BK303,HB,BK304,GW304,GE304,NB303_304,NB304_303⟩:=n_;clear hb hbox hg))
 (try simp only [Act.put,List.setIfInBounds_toArray,List.set_cons_zero,List.set_cons_succ])
 go_cut [14] (fun v14 wc=>∃ (kq : Nat) (x14_2 : Bool),v14 = .bool x14_2 ∧ Aside0 (quarrylaw17_TreeLikes.j0 kq x14_2 a0_0 a0_1 a0_2 a0_3 l0_4 l0_5 a1_0 a1_1 a1_2 a1_3 l1_4 l1_5 = some r) ∧ Aside0 (kq ≤ k) ∧ Aside0 (wc.heap[gb303]? = some (.cells #[.int .i64 a0_0,.bool a0_1,.string a0_2,.string a0_3,(.slice A0_4 l0_4.length c0_4),(.slice A0_5 l0_5.length c0_5)] 25 (0,0))) ∧ Aside0 (wc.heap[gb304]? = some (.cells #[.int .i64 a1_0,.bool a1_1,.string a1_2,.string a1_3,(.slice A1_4 l1_4.length c1_4),(.slice A1_5 l1_5.length c1_5)] 25 (0,0))) ∧ Aside0 (Below w.heap.size w wc))
 case first =>
  have H:=HC3.out;clear HC3;replace H:=Option.bind_eq_some_iff.mp H;obtain ⟨⟨t305,t306,t307,t308,t309,t312⟩,A60,H⟩:=H
  try dsimp only at H
  have A6:=ad_ A60;clear A60;replace H:=Option.bind_eq_some_iff.mp H;obtain ⟨⟨t315,t316,t317,t318,t319,t322⟩,A70,H⟩:=H
  try dsimp only at H
  have A7:=ad_ A70;clear A70;replace H:=Option.bind_eq_some_iff.mp H;obtain ⟨t325,A80,H⟩:=H
  try dsimp only at H
  have A8:=ad_ A80;clear A80
  by_cases c9 : t325 = true
  ·subst c9
   rw [if_pos rfl] at H
   replace H:=Option.bind_eq_some_iff.mp H;obtain ⟨t326,A100,H⟩:=H
   try dsimp only at H
   have A10:=ad_ A100;clear A100;have H':=ad_ H;clear H
   go_wp2_with (first|((with_reducible refine gate_callee (f:=6) rfl ?_);refine goesL_ (some 5) rfl rfl Tryd.func6 (by kernel_rfl) rfl #[] rfl am_ ?_;(with_reducible refine (quarrylaw17_smallValue.calls  t305 t306 t307 t308 t309 t312 _ A6.out).mono ?_);rintro e w11 ⟨v310,v313,rfl,ho0,ho1,hb⟩;refine ⟨_,rfl,?_⟩;have n_:=J_ (Kd.R_lower (Kd.R_mono (ok':=fun k_=>True) ho0 (fun _ hk_=>trivial)) (below_size (hb_ HB))) (J_ (Kd.N_lower (Kd.N_mono (ok':=fun k_=>some k_ ≠ (v310 : Value).ownBlock ∧ k_ ≠ gb303 ∧ k_ ≠ gb304) ho1 (fun k_ hk_=>⟨hk_.2,(Kd.freshB (g:=gb303) (o:=.cells #[.int .i64 a0_0,.bool a0_1,.string a0_2,.string a0_3,.slice A0_4 l0_4.length c0_4,.slice A0_5 l0_5.length c0_5] 25 (0,0)) (bk_ BK303) k_ hk_.1),(Kd.freshB (g:=gb304) (o:=.cells #[.int .i64 a1_0,.bool a1_1,.string a1_2,.string a1_3,.slice A1_4 l1_4.length c1_4,.slice A1_5 l1_5.length c1_5] 25 (0,0)) (bk_ BK304) k_ hk_.1)⟩)) (below_size (hb_ HB))) (J_ (bkb_ BK303 hb) (J_ (bkb_ BK304 hb) (ad_ (bw_ (hb_ HB) hb)))));clear BK303 BK304 HB;obtain ⟨HO311,HO314,BK303,BK304,HB⟩:=n_;(try clear hb);(try clear hb2);(try clear hk);(try clear hi);(try clear ho0);(try clear ho1))|((with_reducible refine gate_callee (f:=6) rfl ?_);refine goesL_ (some 6) rfl rfl Tryd.func6 (by kernel_rfl) rfl #[] rfl am_ ?_;(with_reducible refine (quarrylaw17_smallValue.calls  t315 t316 t317 t318 t319 t322 _ A7.out).mono ?_);rintro e w12 ⟨v320,v323,rfl,ho0,ho1,hb⟩;refine ⟨_,rfl,?_⟩;have n_:=J_ (Kd.R_elder' (rk_ HO311) (Kd.R_base ho0) hb) (J_ (Kd.N_mono (Kd.N_told (Kd.N_told (Kd.N_old (by (with_reducible repeat (first|apply Kd.N_alloc|apply Kd.N_drewN|apply Kd.N_drew));exact HO314.out) hb) (Kd.R_base ho0)) (Kd.N_base ho1)) (fun _ h_=>h_.1)) (J_ (Kd.R_lower (Kd.R_new' (Kd.R_mono (ok':=fun k_=>True) ho0 (fun _ hk_=>trivial)) (Kd.R_lt (rk_ HO311))) (below_size (hb_ HB))) (J_ (Kd.N_lower (Kd.N_mono (ok':=fun k_=>some k_ ≠ (v320 : Value).ownBlock ∧ some k_ ≠ (v310 : Value).ownBlock ∧ some k_ ≠ (v313 : Value).ownBlock ∧ k_ ≠ gb303 ∧ k_ ≠ gb304) ho1 (fun k_ hk_=>⟨hk_.2,(Kd.fresh' (Kd.R_lt (rk_ HO311)) k_ hk_.1),(Kd.fresh' (Kd.N_lt (by (with_reducible repeat (first|apply Kd.N_alloc|apply Kd.N_drewN|apply Kd.N_drew));exact HO314.out)) k_ hk_.1),(Kd.freshB (g:=gb303) (o:=.cells #[.int .i64 a0_0,.bool a0_1,.string a0_2,.string a0_3,.slice A0_4 l0_4.length c0_4,.slice A0_5 l0_5.length c0_5] 25 (0,0)) (bk_ BK303) k_ hk_.1),(Kd.freshB (g:=gb304) (o:=.cells #[.int .i64 a1_0,.bool a1_1,.string a1_2,.string a1_3,.slice A1_4 l1_4.length c1_4,.slice A1_5 l1_5.length c1_5] 25 (0,0)) (bk_ BK304) k_ hk_.1)⟩)) (below_size (hb_ HB))) (J_ (bkb_ BK303 hb) (J_ (bkb_ BK304 hb) (ad_ (bw_ (hb_ HB) hb)))))));clear HO311 HO314 BK303 BK304 HB;obtain ⟨HO311,HO314,HO321,HO324,BK303,BK304,HB⟩:=n_;(try clear hb);(try clear hb2);(try clear hk);(try clear hi);(try clear ho0);(try clear ho1);obtain ⟨Ao13,co13,eo13⟩:=Kd.R_slice HO311.out;subst eo13;obtain ⟨Ao14,co14,eo14⟩:=Kd.N_slice HO314.out;subst eo14;obtain ⟨Ao15,co15,eo15⟩:=Kd.R_slice HO321.out;subst eo15;obtain ⟨Ao16,co16,eo16⟩:=Kd.N_slice HO324.out;subst eo16)|((with_reducible refine gate_callee (f:=5) rfl ?_);refine goesL_ (some 7) rfl rfl Tryd.func5 (by kernel_rfl) rfl #[.agg #[.int .i64 t305,.bool t306,.string t307,.string t308,.slice Ao13 t309.length co13,.slice Ao14 t312.length co14],.agg #[.int .i64 t315,.bool t316,.string t317,.string t318,.slice Ao15 t319.length co15,.slice Ao16 t322.length co16]] rfl am_ ?_;(with_reducible refine (tree_Same.calls k t305 t306 t307 t308 _ _ t309 _ _ t312 t315 t316 t317 t318 _ _ t319 _ _ t322 true _ ?side1 ?side2 ?side3 ?side4 ?side5 ?side6 ?side7 ?side8 A8.out).mono ?_);(case side1=>repeat (first|exact (Kd.R_reads' HO311.out).2.2|(with_reducible refine ca_ ?_ _)|(with_reducible refine kd_ ?_ _)|(with_reducible refine ke_ ?_)));(case side2=>exact (Kd.R_reads' HO311.out).2.1);(case side3=>repeat (first|exact (Kd.N_reads' HO314.out).2.2|(with_reducible refine ca_ ?_ _)|(with_reducible refine kd_ ?_ _)|(with_reducible refine ke_ ?_)));(case side4=>exact (Kd.N_reads' HO314.out).2.1);(case side5=>repeat (first|exact (Kd.R_reads' HO321.out).2.2|(with_reducible refine ca_ ?_ _)|(with_reducible refine kd_ ?_ _)|(with_reducible refine ke_ ?_)));(case side6=>exact (Kd.R_reads' HO321.out).2.1);(case side7=>repeat (first|exact (Kd.N_reads' HO324.out).2.2|(with_reducible refine ca_ ?_ _)|(with_reducible refine kd_ ?_ _)|(with_reducible refine ke_ ?_)));(case side8=>exact (Kd.N_reads' HO324.out).2.1);rintro e w17 ⟨rfl,hb⟩;refine ⟨_,rfl,?_⟩;have n_:=J_ (Kd.R_below (rk_ HO311) hb) (J_ (Kd.N_below (by (with_reducible repeat (first|apply Kd.N_alloc|apply Kd.N_drewN|apply Kd.N_drew));exact HO314.out) hb) (J_ (Kd.R_below (rk_ HO321) hb) (J_ (Kd.N_below (by (with_reducible repeat (first|apply Kd.N_alloc|apply Kd.N_drewN|apply Kd.N_drew));exact HO324.out) hb) (J_ (bkb_ BK303 hb) (J_ (bkb_ BK304 hb) (ad_ (bw_ (hb_ HB) hb)))))));clear HO311 HO314 HO321 HO324 BK303 BK304 HB;obtain ⟨HO311,HO314,HO321,HO324,BK303,BK304,HB⟩:=n_;(try clear hb);(try clear hb2);(try clear hk);(try clear hi))|(go_at_call 7;(refine (tree_Alike.calls k 3 false (⟨#[49,46,48]⟩ : ByteArray) (⟨#[]⟩ : ByteArray) _ _ ([] : List ByteArray) _ _ ([] : List (S25)) 3 false (⟨#[49,48,101,45,49]⟩ : ByteArray) (⟨#[]⟩ : ByteArray) _ _ ([] : List ByteArray) _ _ ([] : List (S25)) t326 _ ?side1 ?side2 ?side3 ?side4 ?side5 ?side6 ?side7 ?side8 A10.out).mono ?_);(case side1=>exact Kd.C_nil _ _);(case side2=>exact Nat.le_refl _);(case side3=>exact Kd.C_nil _ _);(case side4=>exact Nat.le_refl _);(case side5=>exact Kd.C_nil _ _);(case side6=>exact Nat.le_refl _);(case side7=>exact Kd.C_nil _ _);(case side8=>exact Nat.le_refl _);rintro e w18 ⟨rfl,hb⟩;have n_:=J_ (Kd.R_below (rk_ HO311) hb) (J_ (Kd.N_below (by (with_reducible repeat (first|apply Kd.N_alloc|apply Kd.N_drewN|apply Kd.N_drew));exact HO314.out) hb) (J_ (Kd.R_below (rk_ HO321) hb) (J_ (Kd.N_below (by (with_reducible repeat (first|apply Kd.N_alloc|apply Kd.N_drewN|apply Kd.N_drew));exact HO324.out) hb) (J_ (bkb_ BK303 hb) (J_ (bkb_ BK304 hb) (ad_ (bw_ (hb_ HB) hb)))))));clear HO311 HO314 HO321 HO324 BK303 BK304 HB;obtain ⟨HO311,HO314,HO321,HO324,BK303,BK304,HB⟩:=n_;(try clear hb);(try clear hb2);(try clear hk);(try clear hi)))
   go_meet
   case rel=>exact ⟨_,(!t326),rr_,(by first|exact H'|(subst_vars;exact H')),⟨by first|omega|exact Nat.le_refl _⟩,⟨(bk_ BK303)⟩,⟨(bk_ BK304)⟩,⟨(hb_ HB)⟩⟩
  replace c9:=Bool.eq_false_iff.mpr c9;subst c9
  rw [if_neg (show ¬ (false = true) by decide)] at H
  have H':=ad_ H;clear H
  go_wp2_with (first|((with_reducible refine gate_callee (f:=6) rfl ?_);refine goesL_ (some 5) rfl rfl Tryd.func6 (by kernel_rfl) rfl #[] rfl am_ ?_;(with_reducible refine (quarrylaw17_smallValue.calls  t305 t306 t307 t308 t309 t312 _ A6.out).mono ?_);rintro e w19 ⟨v310,v313,rfl,ho0,ho1,hb⟩;refine ⟨_,rfl,?_⟩;have n_:=J_ (Kd.R_lower (Kd.R_mono (ok':=fun k_=>True) ho0 (fun _ hk_=>trivial)) (below_size (hb_ HB))) (J_ (Kd.N_lower (Kd.N_mono (ok':=fun k_=>some k_ ≠ (v310 : Value).ownBlock ∧ k_ ≠ gb303 ∧ k_ ≠ gb304) ho1 (fun k_ hk_=>⟨hk_.2,(Kd.freshB (g:=gb303) (o:=.cells #[.int .i64 a0_0,.bool a0_1,.string a0_2,.string a0_3,.slice A0_4 l0_4.length c0_4,.slice A0_5 l0_5.length c0_5] 25 (0,0)) (bk_ BK303) k_ hk_.1),(Kd.freshB (g:=gb304) (o:=.cells #[.int .i64 a1_0,.bool a1_1,.string a1_2,.string a1_3,.slice A1_4 l1_4.length c1_4,.slice A1_5 l1_5.length c1_5] 25 (0,0)) (bk_ BK304) k_ hk_.1)⟩)) (below_size (hb_ HB))) (J_ (bkb_ BK303 hb) (J_ (bkb_ BK304 hb) (ad_ (bw_ (hb_ HB) hb)))));clear BK303 BK304 HB;obtain ⟨HO311,HO314,BK303,BK304,HB⟩:=n_;(try clear hb);(try clear hb2);(try clear hk);(try clear hi);(try clear ho0);(try clear ho1))|((with_reducible refine gate_callee (f:=6) rfl ?_);refine goesL_ (some 6) rfl rfl Tryd.func6 (by kernel_rfl) rfl #[] rfl am_ ?_;(with_reducible refine (quarrylaw17_smallValue.calls  t315 t316 t317 t318 t319 t322 _ A7.out).mono ?_);rintro e w20 ⟨v320,v323,rfl,ho0,ho1,hb⟩;refine ⟨_,rfl,?_⟩;have n_:=J_ (Kd.R_elder' (rk_ HO311) (Kd.R_base ho0) hb) (J_ (Kd.N_mono (Kd.N_told (Kd.N_told (Kd.N_old (by (with_reducible repeat (first|apply Kd.N_alloc|apply Kd.N_drewN|apply Kd.N_drew));exact HO314.out) hb) (Kd.R_base ho0)) (Kd.N_base ho1)) (fun _ h_=>h_.1)) (J_ (Kd.R_lower (Kd.R_new' (Kd.R_mono (ok':=fun k_=>True) ho0 (fun _ hk_=>trivial)) (Kd.R_lt (rk_ HO311))) (below_size (hb_ HB))) (J_ (Kd.N_lower (Kd.N_mono (ok':=fun k_=>some k_ ≠ (v320 : Value).ownBlock ∧ some k_ ≠ (v310 : Value).ownBlock ∧ some k_ ≠ (v313 : Value).ownBlock ∧ k_ ≠ gb303 ∧ k_ ≠ gb304) ho1 (fun k_ hk_=>⟨hk_.2,(Kd.fresh' (Kd.R_lt (rk_ HO311)) k_ hk_.1),(Kd.fresh' (Kd.N_lt (by (with_reducible repeat (first|apply Kd.N_alloc|apply Kd.N_drewN|apply Kd.N_drew));exact HO314.out)) k_ hk_.1),(Kd.freshB (g:=gb303) (o:=.cells #[.int .i64 a0_0,.bool a0_1,.string a0_2,.string a0_3,.slice A0_4 l0_4.length c0_4,.slice A0_5 l0_5.length c0_5] 25 (0,0)) (bk_ BK303) k_ hk_.1),(Kd.freshB (g:=gb304) (o:=.cells #[.int .i64 a1_0,.bool a1_1,.string a1_2,.string a1_3,.slice A1_4 l1_4.length c1_4,.slice A1_5 l1_5.length c1_5] 25 (0,0)) (bk_ BK304) k_ hk_.1)⟩)) (below_size (hb_ HB))) (J_ (bkb_ BK303 hb) (J_ (bkb_ BK304 hb) (ad_ (bw_ (hb_ HB) hb)))))));clear HO311 HO314 BK303 BK304 HB;obtain ⟨HO311,HO314,HO321,HO324,BK303,BK304,HB⟩:=n_;(try clear hb);(try clear hb2);(try clear hk);(try clear hi);(try clear ho0);(try clear ho1);obtain ⟨Ao21,co21,eo21⟩:=Kd.R_slice HO311.out;subst eo21;obtain ⟨Ao22,co22,eo22⟩:=Kd.N_slice HO314.out;subst eo22;obtain ⟨Ao23,co23,eo23⟩:=Kd.R_slice HO321.out;subst eo23;obtain ⟨Ao24,co24,eo24⟩:=Kd.N_slice HO324.out;subst eo24)|((with_reducible refine gate_callee (f:=5) rfl ?_);refine goesL_ (some 7) rfl rfl Tryd.func5 (by kernel_rfl) rfl #[.agg #[.int .i64 t305,.bool t306,.string t307,.string t308,.slice Ao21 t309.length co21,.slice Ao22 t312.length co22],.agg #[.int .i64 t315,.bool t316,.string t317,.string t318,.slice Ao23 t319.length co23,.slice Ao24 t322.length co24]] rfl am_ ?_;(with_reducible refine (tree_Same.calls k t305 t306 t307 t308 _ _ t309 _ _ t312 t315 t316 t317 t318 _ _ t319 _ _ t322 false _ ?side1 ?side2 ?side3 ?side4 ?side5 ?side6 ?side7 ?side8 A8.out).mono ?_);(case side1=>repeat (first|exact (Kd.R_reads' HO311.out).2.2|(with_reducible refine ca_ ?_ _)|(with_reducible refine kd_ ?_ _)|(with_reducible refine ke_ ?_)));(case side2=>exact (Kd.R_reads' HO311.out).2.1);(case side3=>repeat (first|exact (Kd.N_reads' HO314.out).2.2|(with_reducible refine ca_ ?_ _)|(with_reducible refine kd_ ?_ _)|(with_reducible refine ke_ ?_)));(case side4=>exact (Kd.N_reads' HO314.out).2.1);(case side5=>repeat (first|exact (Kd.R_reads' HO321.out).2.2|(with_reducible refine ca_ ?_ _)|(with_reducible refine kd_ ?_ _)|(with_reducible refine ke_ ?_)));(case side6=>exact (Kd.R_reads' HO321.out).2.1);(case side7=>repeat (first|exact (Kd.N_reads' HO324.out).2.2|(with_reducible refine ca_ ?_ _)|(with_reducible refine kd_ ?_ _)|(with_reducible refine ke_ ?_)));(case side8=>exact (Kd.N_reads' HO324.out).2.1);rintro e w25 ⟨rfl,hb⟩;refine ⟨_,rfl,?_⟩;have n_:=J_ (Kd.R_below (rk_ HO311) hb) (J_ (Kd.N_below (by (with_reducible repeat (first|apply Kd.N_alloc|apply Kd.N_drewN|apply Kd.N_drew));exact HO314.out) hb) (J_ (Kd.R_below (rk_ HO321) hb) (J_ (Kd.N_below (by (with_reducible repeat (first|apply Kd.N_alloc|apply Kd.N_drewN|apply Kd.N_drew));exact HO324.out) hb) (J_ (bkb_ BK303 hb) (J_ (bkb_ BK304 hb) (ad_ (bw_ (hb_ HB) hb)))))));clear HO311 HO314 HO321 HO324 BK303 BK304 HB;obtain ⟨HO311,HO314,HO321,HO324,BK303,BK304,HB⟩:=n_;(try clear hb);(try clear hb2);(try clear hk);(try clear hi)))
  go_meet
  case rel=>exact ⟨_,(true),rr_,(by first|exact H'|(subst_vars;exact H')),⟨by first|omega|exact Nat.le_refl _⟩,⟨(bk_ BK303)⟩,⟨(bk_ BK304)⟩,⟨(hb_ HB)⟩⟩
 case rest =>
  clear HC3;obtain ⟨kq,x14_2,rfl,HA,HJ2,BK303,BK304,HB⟩:=hcut
  cases kq with
  | zero=>exact absurd HA.out (by simp [quarrylaw17_TreeLikes.j0])
  | succ kj2 =>
   have H:=HA.out;clear HA
   simp only [quarrylaw17_TreeLikes.j0] at H
   by_cases c26 : x14_2 = true
   ·subst c26
    rw [if_pos rfl] at H
    exact absurd H (by simp)
   replace c26:=Bool.eq_false_iff.mpr c26;subst c26
   rw [if_neg (show ¬ (false = true) by decide)] at H
   have HC27:=ad_ H;clear H
   go_upto_region 3 with (fail)
   go_cut [20] (fun v20 wc=>∃ (kq : Nat) (x20_26 : Bool),v20 = .bool x20_26 ∧ Aside0 (quarrylaw17_TreeLikes.j1 kq x20_26 a0_0 a0_1 a0_2 a0_3 l0_4 l0_5 a1_0 a1_1 a1_2 a1_3 l1_4 l1_5 = some r) ∧ Aside0 (kq ≤ kj2) ∧ Aside0 (wc.heap[gb303]? = some (.cells #[.int .i64 a0_0,.bool a0_1,.string a0_2,.string a0_3,(.slice A0_4 l0_4.length c0_4),(.slice A0_5 l0_5.length c0_5)] 25 (0,0))) ∧ Aside0 (wc.heap[gb304]? = some (.cells #[.int .i64 a1_0,.bool a1_1,.string a1_2,.string a1_3,(.slice A1_4 l1_4.length c1_4),(.slice A1_5 l1_5.length c1_5)] 25 (0,0))) ∧ Aside0 (Below w.heap.size w wc))
   case first =>
    have H:=HC27.out;clear HC27;replace H:=Option.bind_eq_some_iff.mp H;obtain ⟨t327,A280,H⟩:=H
    try dsimp only at H
    have A28:=ad_ A280;clear A280
    by_cases c29 : t327 = true
    ·subst c29
     rw [if_pos rfl] at H
     have H':=ad_ H;clear H;have hnb30:=NB303_304.out;have hnc30:=NB304_303.out;obtain ⟨hcz31_0,hcz31_1,hcz31_2,hcz31_3,hcz31_4,hcz31_5,hfz31_0,hfz31_1,hfz31_2,hfz31_3,hfz31_4,hfz31_5⟩:=cf6_ BK303
     go_wp2_with (first|((with_reducible refine gate_callee (f:=8) rfl ?_);refine goesL_ (some 16) rfl rfl Tryd.func8 (by kernel_rfl) rfl #[.agg #[.int .i64 a0_0,.bool a0_1,.string a0_2,.string a0_3,.slice A0_4 l0_4.length c0_4,.slice A0_5 l0_5.length c0_5]] rfl am_ ?_;(with_reducible refine (quarryref00_BeyondValue.calls kj2 a0_0 a0_1 a0_2 a0_3 _ _ l0_4 _ _ l0_5 true _ ?side1 ?side2 ?side3 ?side4 A28.out).mono ?_);(case side1=>repeat (first|exact (cb_ HR0_4.out HB.out)|(with_reducible refine ca_ ?_ _)|(with_reducible refine kd_ ?_ _)|(with_reducible refine ke_ ?_)));(case side2=>exact HC0_4.out);(case side3=>repeat (first|exact (cb_ HR0_5.out HB.out)|(with_reducible refine ca_ ?_ _)|(with_reducible refine kd_ ?_ _)|(with_reducible refine ke_ ?_)));(case side4=>exact HC0_5.out);rintro e w32 ⟨rfl,hb⟩;refine ⟨_,rfl,?_⟩;have n_:=J_ (bkb_ BK303 hb) (J_ (bkb_ BK304 hb) (ad_ (bw_ (hb_ HB) hb)));clear BK303 BK304 HB;obtain ⟨BK303,BK304,HB⟩:=n_;(try clear hb);(try clear hb2);(try clear hk);(try clear hi)))
     go_meet
     case rel=>exact ⟨_,(true),rr_,(by first|exact H'|(subst_vars;exact H')),⟨by have:=HJ2.out;first|omega|exact Nat.le_refl _⟩,⟨(bk_ BK303)⟩,⟨(bk_ BK304)⟩,⟨(hb_ HB)⟩⟩
    replace c29:=Bool.eq_false_iff.mpr c29;subst c29
    rw [if_neg (show ¬ (false = true) by decide)] at H
    replace H:=Option.bind_eq_some_iff.mp H;obtain ⟨t328,A330,H⟩:=H
    try dsimp only at H
    have A33:=ad_ A330;clear A330;have H':=ad_ H;clear H;have hnb34:=NB303_304.out;have hnc34:=NB304_303.out;obtain ⟨hcz35_0,hcz35_1,hcz35_2,hcz35_3,hcz35_4,hcz35_5,hfz35_0,hfz35_1,hfz35_2,hfz35_3,hfz35_4,hfz35_5⟩:=cf6_ BK303
    go_wp2_with (first|((with_reducible refine gate_callee (f:=8) rfl ?_);refine goesL_ (some 16) rfl rfl Tryd.func8 (by kernel_rfl) rfl #[.agg #[.int .i64 a0_0,.bool a0_1,.string a0_2,.string a0_3,.slice A0_4 l0_4.length c0_4,.slice A0_5 l0_5.length c0_5]] rfl am_ ?_;(with_reducible refine (quarryref00_BeyondValue.calls kj2 a0_0 a0_1 a0_2 a0_3 _ _ l0_4 _ _ l0_5 false _ ?side1 ?side2 ?side3 ?side4 A28.out).mono ?_);(case side1=>repeat (first|exact (cb_ HR0_4.out HB.out)|(with_reducible refine ca_ ?_ _)|(with_reducible refine kd_ ?_ _)|(with_reducible refine ke_ ?_)));(case side2=>exact HC0_4.out);(case side3=>repeat (first|exact (cb_ HR0_5.out HB.out)|(with_reducible refine ca_ ?_ _)|(with_reducible refine kd_ ?_ _)|(with_reducible refine ke_ ?_)));(case side4=>exact HC0_5.out);rintro e w36 ⟨rfl,hb⟩;refine ⟨_,rfl,?_⟩;have n_:=J_ (bkb_ BK303 hb) (J_ (bkb_ BK304 hb) (ad_ (bw_ (hb_ HB) hb)));clear BK303 BK304 HB;obtain ⟨BK303,BK304,HB⟩:=n_;(try clear hb);(try clear hb2);(try clear hk);(try clear hi);obtain ⟨hcz37_0,hcz37_1,hcz37_2,hcz37_3,hcz37_4,hcz37_5,hfz37_0,hfz37_1,hfz37_2,hfz37_3,hfz37_4,hfz37_5⟩:=cf6_ BK304)|(go_at_call 8;(with_reducible refine (quarryref00_BeyondValue.calls kj2 a1_0 a1_1 a1_2 a1_3 _ _ l1_4 _ _ l1_5 t328 _ ?side1 ?side2 ?side3 ?side4 A33.out).mono ?_);(case side1=>repeat (first|exact (cb_ HR1_4.out HB.out)|(with_reducible refine ca_ ?_ _)|(with_reducible refine kd_ ?_ _)|(with_reducible refine ke_ ?_)));(case side2=>exact HC1_4.out);(case side3=>repeat (first|exact (cb_ HR1_5.out HB.out)|(with_reducible refine ca_ ?_ _)|(with_reducible refine kd_ ?_ _)|(with_reducible refine ke_ ?_)));(case side4=>exact HC1_5.out);rintro e w38 ⟨rfl,hb⟩;have n_:=J_ (bkb_ BK303 hb) (J_ (bkb_ BK304 hb) (ad_ (bw_ (hb_ HB) hb)));clear BK303 BK304 HB;obtain ⟨BK303,BK304,HB⟩:=n_;(try clear hb);(try clear hb2);(try clear hk);(try clear hi)))
    go_meet
    case rel=>exact ⟨_,(t328),rr_,(by first|exact H'|(subst_vars;exact H')),⟨by have:=HJ2.out;first|omega|exact Nat.le_refl _⟩,⟨(bk_ BK303)⟩,⟨(bk_ BK304)⟩,⟨(hb_ HB)⟩⟩
   case rest =>
    clear HC27;obtain ⟨kq,x20_26,rfl,HA,HJ26,BK303,BK304,HB⟩:=hcut
    cases kq with
    | zero=>exact absurd HA.out (by simp [quarrylaw17_TreeLikes.j1])
    | succ kj26 =>
     have H:=HA.out;clear HA
     simp only [quarrylaw17_TreeLikes.j1] at H
     by_cases c39 : x20_26 = true
     ·subst c39
      rw [if_pos rfl] at H
      obtain rfl:=si_ H;go_wp2
      go_ret;exact ⟨er_,(hb_ HB)⟩
     replace c39:=Bool.eq_false_iff.mpr c39;subst c39
     rw [if_neg (show ¬ (false = true) by decide)] at H
     replace H:=Option.bind_eq_some_iff.mp H;obtain ⟨t329,A400,H⟩:=H
     try dsimp only at H
     have A40:=ad_ A400;clear A400;replace H:=Option.bind_eq_some_iff.mp H;obtain ⟨t330,A410,H⟩:=H
     try dsimp only at H
     have A41:=ad_ A410;clear A410
     by_cases c42 : (t329 == t330) = true
     ·rw [if_pos c42] at H
      have c42b0 : (t329 == t330) = true:=c42
      (try (have c42b1 : decide (t329 = t330) = true:=by simpa using c42))
      (try (have c42b2 : (t329 == t330) = true:=by simpa using c42))
      clear c42;replace H:=Option.bind_eq_some_iff.mp H;obtain ⟨t331,A430,H⟩:=H
      try dsimp only at H
      have A43:=ad_ A430;clear A430;replace H:=Option.bind_eq_some_iff.mp H;obtain ⟨t332,A440,H⟩:=H
      try dsimp only at H
      have A44:=ad_ A440;clear A440;obtain rfl:=si_ H
      try go_wp2
      have n0_:=ad_ (blk_drew BK303.out);have n1_:=ad_ (blk_drew BK304.out);have n2_:=ad_ (below_drew1 HB.out);clear BK303;clear BK304;clear HB;have BK303:=n0_;have BK304:=n1_;have HB:=n2_;clear n0_ n1_ n2_;refine start_ (n:=17) (S:=fun w'=>w'.cell? ⟨gb303,0,none⟩ = some (.int .i64 a0_0) ∧ w'.cell? ⟨gb303,1,none⟩ = some (.bool a0_1) ∧ w'.cell? ⟨gb303,2,none⟩ = some (.string a0_2) ∧ w'.cell? ⟨gb303,3,none⟩ = some (.string a0_3) ∧ w'.cell? ⟨gb303,4,none⟩ = some (.slice A0_4 l0_4.length c0_4) ∧ w'.cell? ⟨gb303,5,none⟩ = some (.slice A0_5 l0_5.length c0_5) ∧ w'.cell? ⟨gb304,0,none⟩ = some (.int .i64 a1_0) ∧ w'.cell? ⟨gb304,1,none⟩ = some (.bool a1_1) ∧ w'.cell? ⟨gb304,2,none⟩ = some (.string a1_2) ∧ w'.cell? ⟨gb304,3,none⟩ = some (.string a1_3) ∧ w'.cell? ⟨gb304,4,none⟩ = some (.slice A1_4 l1_4.length c1_4) ∧ w'.cell? ⟨gb304,5,none⟩ = some (.slice A1_5 l1_5.length c1_5)) (ds:=[]) #[false,false,false,false,false,false,false,false,false,false,false,false,false,false,false,false,false] (by kernel_rfl) rfl rfl ⟨(bc_ BK303.out 0).trans rfl,(bc_ BK303.out 1).trans rfl,(bc_ BK303.out 2).trans rfl,(bc_ BK303.out 3).trans rfl,(bc_ BK303.out 4).trans rfl,(bc_ BK303.out 5).trans rfl,(bc_ BK304.out 0).trans rfl,(bc_ BK304.out 1).trans rfl,(bc_ BK304.out 2).trans rfl,(bc_ BK304.out 3).trans rfl,(bc_ BK304.out 4).trans rfl,(bc_ BK304.out 5).trans rfl⟩ (fun hHeld=>?_);refine with_tabW quarrylaw17_TreeLikes.tab5 quarrylaw17_TreeLikes.bits5 (fun HT_ HW_=>?_)
      generalize wc.drew = w45 at BK303 BK304 HB hHeld ⊢
      refine take_ (i:=0) (N:=some 21) (v:=?_) (a':=?_) #[true,false,false,false,false,false,false,false,false,false,false,false,false,false,false,false,false] rfl rfl (take_ofW HT_.out HW_.out (by kernel_rfl)) (fun _ _ _ h=>h) (Or.inl ⟨by rfl,?_⟩) hHeld ?_ ?_;rotate_left
      ·rintro w' ⟨s0,s1,s2,s3,s4,s5,s6,s7,s8,s9,s10,s11⟩;go_simp;with_reducible rfl
      rotate_left
      ·simp only [Act.put,se1_,se2_,se3_,i64_w,i32_w];rfl
      refine take_ (i:=1) (N:=some 22) (v:=?_) (a':=?_) #[true,true,false,false,false,false,false,false,false,false,false,false,false,false,false,false,false] rfl rfl (take_ofW HT_.out HW_.out (by kernel_rfl)) (fun _ _ _ h=>h) (Or.inl ⟨by rfl,?_⟩) hHeld ?_ ?_;rotate_left
      ·rintro w' ⟨s0,s1,s2,s3,s4,s5,s6,s7,s8,s9,s10,s11⟩;go_simp;with_reducible rfl
      rotate_left
      ·simp only [Act.put,se1_,se2_,se3_,i64_w,i32_w];rfl
      refine take_ (i:=3) (N:=some 24) (v:=?_) (a':=?_) #[true,true,false,true,false,false,false,false,false,false,false,false,false,false,false,false,false] rfl rfl (take_ofW HT_.out HW_.out (by kernel_rfl)) (fun _ _ _ h=>h) (Or.inl ⟨by rfl,?_⟩) hHeld ?_ ?_;rotate_left
      ·rintro w' ⟨s0,s1,s2,s3,s4,s5,s6,s7,s8,s9,s10,s11⟩;go_simp;with_reducible rfl
      rotate_left
      ·simp only [Act.put,se1_,se2_,se3_,i64_w,i32_w];rfl
      refine take_ (i:=4) (N:=some 25) (v:=?_) (a':=?_) #[true,true,false,true,true,false,false,false,false,false,false,false,false,false,false,false,false] rfl rfl (take_ofW HT_.out HW_.out (by kernel_rfl)) (fun _ _ _ h=>h) (Or.inl ⟨by rfl,?_⟩) hHeld ?_ ?_;rotate_left
      ·rintro w' ⟨s0,s1,s2,s3,s4,s5,s6,s7,s8,s9,s10,s11⟩;go_simp;with_reducible rfl
      rotate_left
      ·simp only [Act.put,se1_,se2_,se3_,i64_w,i32_w];rfl
      refine one_ (i:=2) (N:=some 23) #[true,true,true,true,true,false,false,false,false,false,false,false,false,false,false,false,false] rfl rfl (one_of HT_.out (by kernel_rfl)) (by decide) (fun K hK=>?_);refine goes_ Tryd.func5 (by kernel_rfl) rfl #[.agg #[.int .i64 a0_0,.bool a0_1,.string a0_2,.string a0_3,.slice A0_4 l0_4.length c0_4,.slice A0_5 l0_5.length c0_5],.agg #[.int .i64 a1_0,.bool a1_1,.string a1_2,.string a1_3,.slice A1_4 l1_4.length c1_4,.slice A1_5 l1_5.length c1_5]] (by rfl) rfl rfl am_ ?_
      with_reducible refine (tree_Same.calls kj26 a0_0 a0_1 a0_2 a0_3 _ _ l0_4 _ _ l0_5 a1_0 a1_1 a1_2 a1_3 _ _ l1_4 _ _ l1_5 t329 _ ?side1 ?side2 ?side3 ?side4 ?side5 ?side6 ?side7 ?side8 A40.out).mono ?_
      (case side1=>repeat (first|exact (cb_ HR0_4.out HB.out)|(with_reducible refine ca_ ?_ _)|(with_reducible refine kd_ ?_ _)|(with_reducible refine ke_ ?_)))
      (case side2=>exact HC0_4.out)
      (case side3=>repeat (first|exact (cb_ HR0_5.out HB.out)|(with_reducible refine ca_ ?_ _)|(with_reducible refine kd_ ?_ _)|(with_reducible refine ke_ ?_)))
      (case side4=>exact HC0_5.out)
      (case side5=>repeat (first|exact (cb_ HR1_4.out HB.out)|(with_reducible refine ca_ ?_ _)|(with_reducible refine kd_ ?_ _)|(with_reducible refine ke_ ?_)))
      (case side6=>exact HC1_4.out)
      (case side7=>repeat (first|exact (cb_ HR1_5.out HB.out)|(with_reducible refine ca_ ?_ _)|(with_reducible refine kd_ ?_ _)|(with_reducible refine ke_ ?_)))
      (case side8=>exact HC1_5.out)
      rintro e w46 ⟨rfl,hb⟩;refine ⟨_,rfl,?_⟩;have n0_:=ad_ (bkb_ BK303 hb);have n1_:=ad_ (bkb_ BK304 hb);have n2_:=ad_ (bw_ (hb_ HB) hb);clear BK303;clear BK304;clear HB;have BK303:=n0_;have BK304:=n1_;have HB:=n2_;clear n0_ n1_ n2_
      (try clear hb)
      (try clear hb2)
      (try clear hk)
      (try clear hi)
      refine hK.out _ _ ⟨(bc_ BK303.out 0).trans rfl,(bc_ BK303.out 1).trans rfl,(bc_ BK303.out 2).trans rfl,(bc_ BK303.out 3).trans rfl,(bc_ BK303.out 4).trans rfl,(bc_ BK303.out 5).trans rfl,(bc_ BK304.out 0).trans rfl,(bc_ BK304.out 1).trans rfl,(bc_ BK304.out 2).trans rfl,(bc_ BK304.out 3).trans rfl,(bc_ BK304.out 4).trans rfl,(bc_ BK304.out 5).trans rfl⟩ (fun hHeld=>?_);clear hK K;refine norm_ (a':=?_) ?_ ?_;rotate_left
      ·show Act.put _ (some 23) _ = _
       simp only [Act.put,se1_,se2_,se3_,i64_w,i32_w];rfl
      refine one_ (i:=5) (N:=some 26) #[true,true,true,true,true,true,false,false,false,false,false,false,false,false,false,false,false] rfl rfl (one_of HT_.out (by kernel_rfl)) (by decide) (fun K hK=>?_);refine goes_ Tryd.func9 (by kernel_rfl) rfl #[.agg #[.int .i64 a0_0,.bool a0_1,.string a0_2,.string a0_3,.slice A0_4 l0_4.length c0_4,.slice A0_5 l0_5.length c0_5],.agg #[.int .i64 a1_0,.bool a1_1,.string a1_2,.string a1_3,.slice A1_4 l1_4.length c1_4,.slice A1_5 l1_5.length c1_5]] (by rfl) rfl rfl am_ ?_
      with_reducible refine (quarryref17_Same.calls kj26 a0_0 a0_1 a0_2 a0_3 _ _ l0_4 _ _ l0_5 a1_0 a1_1 a1_2 a1_3 _ _ l1_4 _ _ l1_5 t330 _ ?side1 ?side2 ?side3 ?side4 ?side5 ?side6 ?side7 ?side8 A41.out).mono ?_
      (case side1=>repeat (first|exact (cb_ HR0_4.out HB.out)|(with_reducible refine ca_ ?_ _)|(with_reducible refine kd_ ?_ _)|(with_reducible refine ke_ ?_)))
      (case side2=>exact HC0_4.out)
      (case side3=>repeat (first|exact (cb_ HR0_5.out HB.out)|(with_reducible refine ca_ ?_ _)|(with_reducible refine kd_ ?_ _)|(with_reducible refine ke_ ?_)))
      (case side4=>exact HC0_5.out)
      (case side5=>repeat (first|exact (cb_ HR1_4.out HB.out)|(with_reducible refine ca_ ?_ _)|(with_reducible refine kd_ ?_ _)|(with_reducible refine ke_ ?_)))
      (case side6=>exact HC1_4.out)
      (case side7=>repeat (first|exact (cb_ HR1_5.out HB.out)|(with_reducible refine ca_ ?_ _)|(with_reducible refine kd_ ?_ _)|(with_reducible refine ke_ ?_)))
      (case side8=>exact HC1_5.out)
      rintro e w47 ⟨rfl,hb⟩;refine ⟨_,rfl,?_⟩;have n0_:=ad_ (bkb_ BK303 hb);have n1_:=ad_ (bkb_ BK304 hb);have n2_:=ad_ (bw_ (hb_ HB) hb);clear BK303;clear BK304;clear HB;have BK303:=n0_;have BK304:=n1_;have HB:=n2_;clear n0_ n1_ n2_
      (try clear hb)
      (try clear hb2)
      (try clear hk)
      (try clear hi)
      refine hK.out _ _ ⟨(bc_ BK303.out 0).trans rfl,(bc_ BK303.out 1).trans rfl,(bc_ BK303.out 2).trans rfl,(bc_ BK303.out 3).trans rfl,(bc_ BK303.out 4).trans rfl,(bc_ BK303.out 5).trans rfl,(bc_ BK304.out 0).trans rfl,(bc_ BK304.out 1).trans rfl,(bc_ BK304.out 2).trans rfl,(bc_ BK304.out 3).trans rfl,(bc_ BK304.out 4).trans rfl,(bc_ BK304.out 5).trans rfl⟩ (fun hHeld=>?_);clear hK K;refine norm_ (a':=?_) ?_ ?_;rotate_left
      ·show Act.put _ (some 26) _ = _
       simp only [Act.put,se1_,se2_,se3_,i64_w,i32_w];rfl
      refine pure_ (i:=6) (N:=some 27) (v:=?_) (a':=?_) #[true,true,true,true,true,true,true,false,false,false,false,false,false,false,false,false,false] rfl rfl (any_of HT_.out (by kernel_rfl)) (fun _ _ _ h=>h) (Or.inl ⟨by rfl,?_⟩) ?_ ?_;rotate_left
      ·intro w';go_simp;with_reducible rfl
      rotate_left
      ·simp only [Act.put,se1_,se2_,se3_,i64_w,i32_w];rfl
      refine pure_ (i:=7) (N:=some 28) (v:=?_) (a':=?_) #[true,true,true,true,true,true,true,true,false,false,false,false,false,false,false,false,false] rfl rfl (any_of HT_.out (by kernel_rfl)) (fun _ _ _ h=>h) (Or.inl ⟨by rfl,?_⟩) ?_ ?_;rotate_left
      ·intro w';go_simp;with_reducible rfl
      rotate_left
      ·simp only [Act.put,se1_,se2_,se3_,i64_w,i32_w];rfl
      refine take_ (i:=8) (N:=some 29) (v:=?_) (a':=?_) #[true,true,true,true,true,true,true,true,true,false,false,false,false,false,false,false,false] rfl rfl (take_ofW HT_.out HW_.out (by kernel_rfl)) (fun _ _ _ h=>h) (Or.inl ⟨by rfl,?_⟩) hHeld ?_ ?_;rotate_left
      ·rintro w' ⟨s0,s1,s2,s3,s4,s5,s6,s7,s8,s9,s10,s11⟩;go_simp;with_reducible rfl
      rotate_left
      ·simp only [Act.put,se1_,se2_,se3_,i64_w,i32_w];rfl
      refine take_ (i:=9) (N:=some 30) (v:=?_) (a':=?_) #[true,true,true,true,true,true,true,true,true,true,false,false,false,false,false,false,false] rfl rfl (take_ofW HT_.out HW_.out (by kernel_rfl)) (fun _ _ _ h=>h) (Or.inl ⟨by rfl,?_⟩) hHeld ?_ ?_;rotate_left
      ·rintro w' ⟨s0,s1,s2,s3,s4,s5,s6,s7,s8,s9,s10,s11⟩;go_simp;with_reducible rfl
      rotate_left
      ·simp only [Act.put,se1_,se2_,se3_,i64_w,i32_w];rfl
      refine take_ (i:=11) (N:=some 32) (v:=?_) (a':=?_) #[true,true,true,true,true,true,true,true,true,true,false,true,false,false,false,false,false] rfl rfl (take_ofW HT_.out HW_.out (by kernel_rfl)) (fun _ _ _ h=>h) (Or.inl ⟨by rfl,?_⟩) hHeld ?_ ?_;rotate_left
      ·rintro w' ⟨s0,s1,s2,s3,s4,s5,s6,s7,s8,s9,s10,s11⟩;go_simp;with_reducible rfl
      rotate_left
      ·simp only [Act.put,se1_,se2_,se3_,i64_w,i32_w];rfl
      refine take_ (i:=12) (N:=some 33) (v:=?_) (a':=?_) #[true,true,true,true,true,true,true,true,true,true,false,true,true,false,false,false,false] rfl rfl (take_ofW HT_.out HW_.out (by kernel_rfl)) (fun _ _ _ h=>h) (Or.inl ⟨by rfl,?_⟩) hHeld ?_ ?_;rotate_left
      ·rintro w' ⟨s0,s1,s2,s3,s4,s5,s6,s7,s8,s9,s10,s11⟩;go_simp;with_reducible rfl
      rotate_left
      ·simp only [Act.put,se1_,se2_,se3_,i64_w,i32_w];rfl
      refine one_ (i:=10) (N:=some 31) #[true,true,true,true,true,true,true,true,true,true,true,true,true,false,false,false,false] rfl rfl (one_of HT_.out (by kernel_rfl)) (by decide) (fun K hK=>?_);refine goes_ Tryd.func7 (by kernel_rfl) rfl #[.agg #[.int .i64 a0_0,.bool a0_1,.string a0_2,.string a0_3,.slice A0_4 l0_4.length c0_4,.slice A0_5 l0_5.length c0_5],.agg #[.int .i64 a1_0,.bool a1_1,.string a1_2,.string a1_3,.slice A1_4 l1_4.length c1_4,.slice A1_5 l1_5.length c1_5]] (by rfl) rfl rfl am_ ?_
      with_reducible refine (tree_Alike.calls kj26 a0_0 a0_1 a0_2 a0_3 _ _ l0_4 _ _ l0_5 a1_0 a1_1 a1_2 a1_3 _ _ l1_4 _ _ l1_5 t331 _ ?side1 ?side2 ?side3 ?side4 ?side5 ?side6 ?side7 ?side8 A43.out).mono ?_
      (case side1=>repeat (first|exact (cb_ HR0_4.out HB.out)|(with_reducible refine ca_ ?_ _)|(with_reducible refine kd_ ?_ _)|(with_reducible refine ke_ ?_)))
      (case side2=>exact HC0_4.out)
      (case side3=>repeat (first|exact (cb_ HR0_5.out HB.out)|(with_reducible refine ca_ ?_ _)|(with_reducible refine kd_ ?_ _)|(with_reducible refine ke_ ?_)))
      (case side4=>exact HC0_5.out)
      (case side5=>repeat (first|exact (cb_ HR1_4.out HB.out)|(with_reducible refine ca_ ?_ _)|(with_reducible refine kd_ ?_ _)|(with_reducible refine ke_ ?_)))
      (case side6=>exact HC1_4.out)
      (case side7=>repeat (first|exact (cb_ HR1_5.out HB.out)|(with_reducible refine ca_ ?_ _)|(with_reducible refine kd_ ?_ _)|(with_reducible refine ke_ ?_)))
      (case side8=>exact HC1_5.out)
      rintro e w48 ⟨rfl,hb⟩;refine ⟨_,rfl,?_⟩;have n0_:=ad_ (bkb_ BK303 hb);have n1_:=ad_ (bkb_ BK304 hb);have n2_:=ad_ (bw_ (hb_ HB) hb);clear BK303;clear BK304;clear HB;have BK303:=n0_;have BK304:=n1_;have HB:=n2_;clear n0_ n1_ n2_
      (try clear hb)
      (try clear hb2)
      (try clear hk)
      (try clear hi)
      refine hK.out _ _ ⟨(bc_ BK303.out 0).trans rfl,(bc_ BK303.out 1).trans rfl,(bc_ BK303.out 2).trans rfl,(bc_ BK303.out 3).trans rfl,(bc_ BK303.out 4).trans rfl,(bc_ BK303.out 5).trans rfl,(bc_ BK304.out 0).trans rfl,(bc_ BK304.out 1).trans rfl,(bc_ BK304.out 2).trans rfl,(bc_ BK304.out 3).trans rfl,(bc_ BK304.out 4).trans rfl,(bc_ BK304.out 5).trans rfl⟩ (fun hHeld=>?_);clear hK K;refine norm_ (a':=?_) ?_ ?_;rotate_left
      ·show Act.put _ (some 31) _ = _
       simp only [Act.put,se1_,se2_,se3_,i64_w,i32_w];rfl
      refine one_ (i:=13) (N:=some 34) #[true,true,true,true,true,true,true,true,true,true,true,true,true,true,false,false,false] rfl rfl (one_of HT_.out (by kernel_rfl)) (by decide) (fun K hK=>?_);refine goes_ Tryd.func10 (by kernel_rfl) rfl #[.agg #[.int .i64 a0_0,.bool a0_1,.string a0_2,.string a0_3,.slice A0_4 l0_4.length c0_4,.slice A0_5 l0_5.length c0_5],.agg #[.int .i64 a1_0,.bool a1_1,.string a1_2,.string a1_3,.slice A1_4 l1_4.length c1_4,.slice A1_5 l1_5.length c1_5]] (by rfl) rfl rfl am_ ?_
      with_reducible refine (quarryref17_Alike.calls kj26 a0_0 a0_1 a0_2 a0_3 _ _ l0_4 _ _ l0_5 a1_0 a1_1 a1_2 a1_3 _ _ l1_4 _ _ l1_5 t332 _ ?side1 ?side2 ?side3 ?side4 ?side5 ?side6 ?side7 ?side8 A44.out).mono ?_
      (case side1=>repeat (first|exact (cb_ HR0_4.out HB.out)|(with_reducible refine ca_ ?_ _)|(with_reducible refine kd_ ?_ _)|(with_reducible refine ke_ ?_)))
      (case side2=>exact HC0_4.out)
      (case side3=>repeat (first|exact (cb_ HR0_5.out HB.out)|(with_reducible refine ca_ ?_ _)|(with_reducible refine kd_ ?_ _)|(with_reducible refine ke_ ?_)))
      (case side4=>exact HC0_5.out)
      (case side5=>repeat (first|exact (cb_ HR1_4.out HB.out)|(with_reducible refine ca_ ?_ _)|(with_reducible refine kd_ ?_ _)|(with_reducible refine ke_ ?_)))
      (case side6=>exact HC1_4.out)
      (case side7=>repeat (first|exact (cb_ HR1_5.out HB.out)|(with_reducible refine ca_ ?_ _)|(with_reducible refine kd_ ?_ _)|(with_reducible refine ke_ ?_)))
      (case side8=>exact HC1_5.out)
      rintro e w49 ⟨rfl,hb⟩;refine ⟨_,rfl,?_⟩;have n0_:=ad_ (bkb_ BK303 hb);have n1_:=ad_ (bkb_ BK304 hb);have n2_:=ad_ (bw_ (hb_ HB) hb);clear BK303;clear BK304;clear HB;have BK303:=n0_;have BK304:=n1_;have HB:=n2_;clear n0_ n1_ n2_
      (try clear hb)
      (try clear hb2)
      (try clear hk)
      (try clear hi)
      refine hK.out _ _ ⟨(bc_ BK303.out 0).trans rfl,(bc_ BK303.out 1).trans rfl,(bc_ BK303.out 2).trans rfl,(bc_ BK303.out 3).trans rfl,(bc_ BK303.out 4).trans rfl,(bc_ BK303.out 5).trans rfl,(bc_ BK304.out 0).trans rfl,(bc_ BK304.out 1).trans rfl,(bc_ BK304.out 2).trans rfl,(bc_ BK304.out 3).trans rfl,(bc_ BK304.out 4).trans rfl,(bc_ BK304.out 5).trans rfl⟩ (fun hHeld=>?_);clear hK K;refine norm_ (a':=?_) ?_ ?_;rotate_left
      ·show Act.put _ (some 34) _ = _
       simp only [Act.put,se1_,se2_,se3_,i64_w,i32_w];rfl
      refine pure_ (i:=14) (N:=some 35) (v:=?_) (a':=?_) #[true,true,true,true,true,true,true,true,true,true,true,true,true,true,true,false,false] rfl rfl (any_of HT_.out (by kernel_rfl)) (fun _ _ _ h=>h) (Or.inl ⟨by rfl,?_⟩) ?_ ?_;rotate_left
      ·intro w';go_simp;with_reducible rfl
      rotate_left
      ·simp only [Act.put,se1_,se2_,se3_,i64_w,i32_w];rfl
      refine pure_ (i:=15) (N:=some 36) (v:=?_) (a':=?_) #[true,true,true,true,true,true,true,true,true,true,true,true,true,true,true,true,false] rfl rfl (any_of HT_.out (by kernel_rfl)) (fun _ _ _ h=>h) (Or.inl ⟨by rfl,?_⟩) ?_ ?_;rotate_left
      ·intro w';go_simp;with_reducible rfl
      rotate_left
      ·simp only [Act.put,se1_,se2_,se3_,i64_w,i32_w];rfl
      refine pure_ (i:=16) (N:=some 4) (v:=?_) (a':=?_) #[true,true,true,true,true,true,true,true,true,true,true,true,true,true,true,true,true] rfl rfl (any_of HT_.out (by kernel_rfl)) (fun _ _ _ h=>h) (Or.inl ⟨by rfl,?_⟩) ?_ ?_;rotate_left
      ·intro w';go_simp;with_reducible rfl
      rotate_left
      ·simp only [Act.put,se1_,se2_,se3_,i64_w,i32_w];rfl
      refine done_ (done_of HT_.out (by kernel_rfl)) ?_
      try go_wp2
      go_ret;exact ⟨er_,(hb_ HB)⟩
     rw [if_neg c42] at H
     have c42b0 : (t329 == t330) = false:=by simpa using c42
     (try (have c42b1 : decide (t329 = t330) = false:=by simpa using c42))
     (try (have c42b2 : (t329 == t330) = false:=by simpa using c42))
     (try (have c42b3 : ¬ (t329 = t330):=by simpa using c42))
     clear c42;exact absurd H (by simp)
end Go.Proofs.YtfaegleohhemkaaDoor.PTreeLikes
