-- Written by shrink.py, a program of this session: what the law needs of the print and its words. Lean checks it.
import Derived.Test.YtppenppagkfigaaDoorZPPointerBackx0
import Derived.Test.YtppenppagkfigaaDoorZPPointerBackx5
import Derived.Test.YtppenppagkfigaaDoorZPPointerBackx8
namespace Go.Proofs.YtppenppagkfigaaDoor.PPointerBack
open Go.RowKit Go.Proofs.YtppenppagkfigaaDoorW.PrintWords Go.Proofs.YtppenppagkfigaaDoorW.PrintLast Go.Proofs.YtppenppagkfigaaDoorW.PrintMore
attribute [local go_sem] max2_int min2_int max_two min_two max_three min_three max_four min_four
set_option linter.unusedVariables false
set_option linter.unusedSimpArgs false
def decimal_Of.f (a0 : ByteArray) : Option (Bool × ByteArray × Int × Int):=(decimal_Read.f a0 0).bind fun bt107=>(if bt107.2.2.2.2 = 110 then (some (false,(⟨#[]⟩ : ByteArray),0,110)) else (if bt107.2.2.2.1 < (a0.size : Int) then (some (false,(⟨#[]⟩ : ByteArray),0,110)) else (some (bt107.1,bt107.2.1,bt107.2.2.1,bt107.2.2.2.2))))
set_option maxHeartbeats 8000000 in
set_option maxRecDepth 100000 in
theorem decimal_Of.calls (a0 : ByteArray) (r1 : Bool) (r2 : ByteArray) (r3 : Int) (r4 : Int) (w : World) (h : decimal_Of.f a0 = some (r1,r2,r3,r4)) :
  Calls Tryd.prog 60 #[.string a0] w fun e w'=>e = .returned (.tuple #[.agg #[.bool r1,.string r2,.int .i64 r3],.int .i64 r4]) ∧ Below w.heap.size w w':=by
 have hu85:=Tryd.underlying85
 have HB:=Aside0.mk (Below.refl w.heap.size w)
 have H : ((decimal_Read.f a0 0).bind fun bt107=>(if bt107.2.2.2.2 = 110 then (some (false,(⟨#[]⟩ : ByteArray),0,110)) else (if bt107.2.2.2.1 < (a0.size : Int) then (some (false,(⟨#[]⟩ : ByteArray),0,110)) else (some (bt107.1,bt107.2.1,bt107.2.2.1,bt107.2.2.2.2))))) = some (r1,r2,r3,r4):=h
 clear h
 replace H:=Option.bind_eq_some_iff.mp H
 obtain ⟨⟨t107,t108,t109,t110,t111⟩,A20,H⟩:=H
 replace H : (if t111 = 110 then (some (false,(⟨#[]⟩ : ByteArray),0,110)) else (if t110 < (a0.size : Int) then (some (false,(⟨#[]⟩ : ByteArray),0,110)) else (some (t107,t108,t109,t111)))) = some (r1,r2,r3,r4):=H
 have A2:=Aside0.mk A20
 clear A20
 by_cases c3 : t111 = 110
 ·rw [if_pos c3] at H
  have c3b0 : (t111 == 110) = true:=beq_iff_eq.mpr c3
  have c3b1 : (t111 != 110) = false:=bne_eq_false_iff_eq.mpr c3
  clear c3
  simp only [Option.some.injEq,Prod.mk.injEq] at H
  obtain ⟨rfl,rfl,rfl,rfl⟩:=H
  go_enter Tryd.func60,Tryd.ntmps60
  go_wp2_with (first|((with_reducible refine gate_dst (N:=2) rfl ?_);(try (refine gate_guard (by rfl) ?_;dsimp only));refine box_event ?hg (N:=2) ?hd (cs:=#[.bool false,.string (⟨#[]⟩ : ByteArray),.int .i64 0]) (t:=85) ?hr ?_;(case hd=>rfl);(case hg=>rfl);(case hr=>first|(go_simp;done)|(go_simp;rfl));intro gb106 hg w4 hbox hb;have n_:=J_ (below_step (hb_ HB) hb) (J_ (hbox) (J_ (bs_ hg HB) (Aside0.mk (bs_ hg HB))));clear HB;obtain ⟨HB,BK106,GW106,GE106⟩:=n_;clear hb hbox hg)|((with_reducible refine gate_callee (f:=68) rfl ?_);refine goesL_ (some 9) rfl rfl Tryd.func68 (by kernel_rfl) rfl #[.string a0,.int .i64 0] rfl am_ ?_;(with_reducible refine (decimal_Read.calls a0 0 t107 t108 t109 t110 t111 _ A2.out).mono ?_);rintro e w5 ⟨rfl,hb⟩;refine ⟨_,rfl,?_⟩;have n_:=J_ (bkb_ BK106 hb) (Aside0.mk (below_step (hb_ HB) hb));clear BK106 HB;obtain ⟨BK106,HB⟩:=n_;(try clear hb);(try clear hb2);(try clear hk);(try clear hi))|((with_reducible refine gate_dst (N:=4) rfl ?_);(try (refine gate_guard (by rfl) ?_;dsimp only));refine box_event ?hg (N:=4) ?hd (cs:=#[.bool false,.string (⟨#[]⟩ : ByteArray),.int .i64 0]) (t:=85) ?hr ?_;(case hd=>rfl);(case hg=>rfl);(case hr=>first|(go_simp;done)|(go_simp;rfl));intro gb112 hg w6 hbox hb;have n_:=J_ (bkb_ BK106 hb) (J_ (below_step (hb_ HB) hb) (J_ (hbox) (J_ (bs_ hg HB) (J_ (bs_ hg HB) (J_ ((by rw [hg];exact Nat.ne_of_lt (bkl_ BK106) : gb106 ≠ gb112)) (Aside0.mk ((by rw [hg];exact Nat.ne_of_gt (bkl_ BK106) : gb112 ≠ gb106))))))));clear BK106 HB;obtain ⟨BK106,HB,BK112,GW112,GE112,NB106_112,NB112_106⟩:=n_;clear hb hbox hg;have hnb7:=NB112_106.out;have hnc7:=NB106_112.out;obtain ⟨hcz8_0,hcz8_1,hcz8_2,hfz8_0,hfz8_1,hfz8_2⟩:=cf3_ BK112;obtain ⟨hcz9_0,hcz9_1,hcz9_2,hfz9_0,hfz9_1,hfz9_2⟩:=cf3_ BK106))
  refine bodyPost_ret (results_ct rfl _ _ gb106 85 #[.bool false,.string (⟨#[]⟩ : ByteArray),.int .i64 0] (0,0) _ rfl (by (with_reducible repeat (first|refine blk_drewN ?_ _|refine blk_drew ?_|refine blk_alloc ?_ _));refine bp_ (cs:=#[.bool false,.string (⟨#[]⟩ : ByteArray),.int .i64 0]) ?_ 2 _;refine bp_ (cs:=#[.bool false,.string (⟨#[]⟩ : ByteArray),.int .i64 0]) ?_ 1 _;refine bp_ (cs:=#[.bool false,.string (⟨#[]⟩ : ByteArray),.int .i64 0]) ?_ 0 _;(with_reducible repeat (first|refine blk_drewN ?_ _|refine blk_drew ?_|refine blk_alloc ?_ _));refine blk_far ?_ NB106_112.out _;(with_reducible repeat (first|refine blk_drewN ?_ _|refine blk_drew ?_|refine blk_alloc ?_ _));refine blk_far ?_ NB106_112.out _;(with_reducible repeat (first|refine blk_drewN ?_ _|refine blk_drew ?_|refine blk_alloc ?_ _));refine blk_far ?_ NB106_112.out _;(with_reducible repeat (first|refine blk_drewN ?_ _|refine blk_drew ?_|refine blk_alloc ?_ _));exact BK106.out) Tryd.underlying85 rfl (by kernel_rfl)) rfl ?_
  exact ⟨er_,(hb_ HB)⟩
 ·rw [if_neg c3] at H
  have c3b0 : (t111 == 110) = false:=beq_eq_false_iff_ne.mpr c3
  have c3b1 : (t111 != 110) = true:=bne_iff_ne.mpr c3
  by_cases c10 : t110 < (a0.size : Int)
  ·rw [if_pos c10] at H
   have c10b0 : decide (t110 < (a0.size : Int)) = true:=decide_eq_true c10
   clear c10
   simp only [Option.some.injEq,Prod.mk.injEq] at H
   obtain ⟨rfl,rfl,rfl,rfl⟩:=H
   go_enter Tryd.func60,Tryd.ntmps60
   go_wp2_with (first|((with_reducible refine gate_dst (N:=2) rfl ?_);(try (refine gate_guard (by rfl) ?_;dsimp only));refine box_event ?hg (N:=2) ?hd (cs:=#[.bool false,.string (⟨#[]⟩ : ByteArray),.int .i64 0]) (t:=85) ?hr ?_;(case hd=>rfl);(case hg=>rfl);(case hr=>first|(go_simp;done)|(go_simp;rfl));intro gb106 hg w11 hbox hb;have n_:=J_ (below_step (hb_ HB) hb) (J_ (hbox) (J_ (bs_ hg HB) (Aside0.mk (bs_ hg HB))));clear HB;obtain ⟨HB,BK106,GW106,GE106⟩:=n_;clear hb hbox hg)|((with_reducible refine gate_callee (f:=68) rfl ?_);refine goesL_ (some 9) rfl rfl Tryd.func68 (by kernel_rfl) rfl #[.string a0,.int .i64 0] rfl am_ ?_;(with_reducible refine (decimal_Read.calls a0 0 t107 t108 t109 t110 t111 _ A2.out).mono ?_);rintro e w12 ⟨rfl,hb⟩;refine ⟨_,rfl,?_⟩;have n_:=J_ (bkb_ BK106 hb) (Aside0.mk (below_step (hb_ HB) hb));clear BK106 HB;obtain ⟨BK106,HB⟩:=n_;(try clear hb);(try clear hb2);(try clear hk);(try clear hi))|((with_reducible refine gate_dst (N:=4) rfl ?_);(try (refine gate_guard (by rfl) ?_;dsimp only));refine box_event ?hg (N:=4) ?hd (cs:=#[.bool false,.string (⟨#[]⟩ : ByteArray),.int .i64 0]) (t:=85) ?hr ?_;(case hd=>rfl);(case hg=>rfl);(case hr=>first|(go_simp;done)|(go_simp;rfl));intro gb112 hg w13 hbox hb;have n_:=J_ (bkb_ BK106 hb) (J_ (below_step (hb_ HB) hb) (J_ (hbox) (J_ (bs_ hg HB) (J_ (bs_ hg HB) (J_ ((by rw [hg];exact Nat.ne_of_lt (bkl_ BK106) : gb106 ≠ gb112)) (Aside0.mk ((by rw [hg];exact Nat.ne_of_gt (bkl_ BK106) : gb112 ≠ gb106))))))));clear BK106 HB;obtain ⟨BK106,HB,BK112,GW112,GE112,NB106_112,NB112_106⟩:=n_;clear hb hbox hg;have hnb14:=NB112_106.out;have hnc14:=NB106_112.out;obtain ⟨hcz15_0,hcz15_1,hcz15_2,hfz15_0,hfz15_1,hfz15_2⟩:=cf3_ BK112;obtain ⟨hcz16_0,hcz16_1,hcz16_2,hfz16_0,hfz16_1,hfz16_2⟩:=cf3_ BK106))
   refine bodyPost_ret (results_ct rfl _ _ gb106 85 #[.bool false,.string (⟨#[]⟩ : ByteArray),.int .i64 0] (0,0) _ rfl (by (with_reducible repeat (first|refine blk_drewN ?_ _|refine blk_drew ?_|refine blk_alloc ?_ _));refine bp_ (cs:=#[.bool false,.string (⟨#[]⟩ : ByteArray),.int .i64 0]) ?_ 2 _;refine bp_ (cs:=#[.bool false,.string (⟨#[]⟩ : ByteArray),.int .i64 0]) ?_ 1 _;refine bp_ (cs:=#[.bool false,.string (⟨#[]⟩ : ByteArray),.int .i64 0]) ?_ 0 _;(with_reducible repeat (first|refine blk_drewN ?_ _|refine blk_drew ?_|refine blk_alloc ?_ _));refine blk_far ?_ NB106_112.out _;(with_reducible repeat (first|refine blk_drewN ?_ _|refine blk_drew ?_|refine blk_alloc ?_ _));refine blk_far ?_ NB106_112.out _;(with_reducible repeat (first|refine blk_drewN ?_ _|refine blk_drew ?_|refine blk_alloc ?_ _));refine blk_far ?_ NB106_112.out _;(with_reducible repeat (first|refine blk_drewN ?_ _|refine blk_drew ?_|refine blk_alloc ?_ _));exact BK106.out) Tryd.underlying85 rfl (by kernel_rfl)) rfl ?_
   exact ⟨er_,(hb_ HB)⟩
  ·rw [if_neg c10] at H
   have c10b0 : decide (t110 < (a0.size : Int)) = false:=decide_eq_false c10
   clear c10
   simp only [Option.some.injEq,Prod.mk.injEq] at H
   obtain ⟨rfl,rfl,rfl,rfl⟩:=H
   go_enter Tryd.func60,Tryd.ntmps60
   go_wp2_with (first|((with_reducible refine gate_dst (N:=2) rfl ?_);(try (refine gate_guard (by rfl) ?_;dsimp only));refine box_event ?hg (N:=2) ?hd (cs:=#[.bool false,.string (⟨#[]⟩ : ByteArray),.int .i64 0]) (t:=85) ?hr ?_;(case hd=>rfl);(case hg=>rfl);(case hr=>first|(go_simp;done)|(go_simp;rfl));intro gb106 hg w17 hbox hb;have n_:=J_ (below_step (hb_ HB) hb) (J_ (hbox) (J_ (bs_ hg HB) (Aside0.mk (bs_ hg HB))));clear HB;obtain ⟨HB,BK106,GW106,GE106⟩:=n_;clear hb hbox hg)|((with_reducible refine gate_callee (f:=68) rfl ?_);refine goesL_ (some 9) rfl rfl Tryd.func68 (by kernel_rfl) rfl #[.string a0,.int .i64 0] rfl am_ ?_;(with_reducible refine (decimal_Read.calls a0 0 t107 t108 t109 t110 t111 _ A2.out).mono ?_);rintro e w18 ⟨rfl,hb⟩;refine ⟨_,rfl,?_⟩;have n_:=J_ (bkb_ BK106 hb) (Aside0.mk (below_step (hb_ HB) hb));clear BK106 HB;obtain ⟨BK106,HB⟩:=n_;(try clear hb);(try clear hb2);(try clear hk);(try clear hi))|((with_reducible refine gate_dst (N:=4) rfl ?_);(try (refine gate_guard (by rfl) ?_;dsimp only));refine box_event ?hg (N:=4) ?hd (cs:=#[.bool false,.string (⟨#[]⟩ : ByteArray),.int .i64 0]) (t:=85) ?hr ?_;(case hd=>rfl);(case hg=>rfl);(case hr=>first|(go_simp;done)|(go_simp;rfl));intro gb112 hg w19 hbox hb;have n_:=J_ (bkb_ BK106 hb) (J_ (below_step (hb_ HB) hb) (J_ (hbox) (J_ (bs_ hg HB) (J_ (bs_ hg HB) (J_ ((by rw [hg];exact Nat.ne_of_lt (bkl_ BK106) : gb106 ≠ gb112)) (Aside0.mk ((by rw [hg];exact Nat.ne_of_gt (bkl_ BK106) : gb112 ≠ gb106))))))));clear BK106 HB;obtain ⟨BK106,HB,BK112,GW112,GE112,NB106_112,NB112_106⟩:=n_;clear hb hbox hg;have hnb20:=NB112_106.out;have hnc20:=NB106_112.out;obtain ⟨hcz21_0,hcz21_1,hcz21_2,hfz21_0,hfz21_1,hfz21_2⟩:=cf3_ BK112;obtain ⟨hcz22_0,hcz22_1,hcz22_2,hfz22_0,hfz22_1,hfz22_2⟩:=cf3_ BK106))
   refine bodyPost_ret (results_ct rfl _ _ gb106 85 #[.bool t107,.string t108,.int .i64 t109] (0,0) _ rfl (by (with_reducible repeat (first|refine blk_drewN ?_ _|refine blk_drew ?_|refine blk_alloc ?_ _));refine bp_ (cs:=#[.bool t107,.string t108,.int .i64 0]) ?_ 2 _;refine bp_ (cs:=#[.bool t107,.string (⟨#[]⟩ : ByteArray),.int .i64 0]) ?_ 1 _;refine bp_ (cs:=#[.bool false,.string (⟨#[]⟩ : ByteArray),.int .i64 0]) ?_ 0 _;(with_reducible repeat (first|refine blk_drewN ?_ _|refine blk_drew ?_|refine blk_alloc ?_ _));refine blk_far ?_ NB106_112.out _;(with_reducible repeat (first|refine blk_drewN ?_ _|refine blk_drew ?_|refine blk_alloc ?_ _));refine blk_far ?_ NB106_112.out _;(with_reducible repeat (first|refine blk_drewN ?_ _|refine blk_drew ?_|refine blk_alloc ?_ _));refine blk_far ?_ NB106_112.out _;(with_reducible repeat (first|refine blk_drewN ?_ _|refine blk_drew ?_|refine blk_alloc ?_ _));exact BK106.out) Tryd.underlying85 rfl (by kernel_rfl)) rfl ?_
   exact ⟨er_,(hb_ HB)⟩
def tree_used.f (a0_0 : Int) (a0_1 : Bool) (a0_2 : ByteArray) (a0_3 : ByteArray) (l0_4 : List ByteArray) (l0_5 : List (S25)) : Option (Bool × Bool × Bool × Bool × Bool):=some (a0_1,(a0_2.toList != ([] : List UInt8)),(a0_3.toList != ([] : List UInt8)),decide ((l0_4.length : Int) > 0),decide ((l0_5.length : Int) > 0))
set_option maxHeartbeats 8000000 in
set_option maxRecDepth 100000 in
theorem tree_used.calls (a0_0 : Int) (a0_1 : Bool) (a0_2 : ByteArray) (a0_3 : ByteArray) (A0_4 : Option Addr) (c0_4 : Nat) (l0_4 : List ByteArray) (A0_5 : Option Addr) (c0_5 : Nat) (l0_5 : List (S25)) (r1 : Bool) (r2 : Bool) (r3 : Bool) (r4 : Bool) (r5 : Bool) (w : World) (hr0_4 : Kd.C Kd.string w A0_4 l0_4.length l0_4) (hc0_4 : l0_4.length ≤ c0_4) (hr0_5 : Kd.C k25 w A0_5 l0_5.length l0_5) (hc0_5 : l0_5.length ≤ c0_5) (h : tree_used.f a0_0 a0_1 a0_2 a0_3 l0_4 l0_5 = some (r1,r2,r3,r4,r5)) :
  Calls Tryd.prog 62 #[.agg #[.int .i64 a0_0,.bool a0_1,.string a0_2,.string a0_3,.slice A0_4 l0_4.length c0_4,.slice A0_5 l0_5.length c0_5]] w fun e w'=>e = .returned (.agg #[.bool r1,.bool r2,.bool r3,.bool r4,.bool r5]) ∧ Below w.heap.size w w':=by
 have hu25:=Tryd.underlying25
 have hu91:=Tryd.underlying91
 have HR0_4:=Aside0.mk hr0_4
 have HC0_4:=Aside0.mk hc0_4
 clear hr0_4 hc0_4
 have HR0_5:=Aside0.mk hr0_5
 have HC0_5:=Aside0.mk hc0_5
 clear hr0_5 hc0_5
 have HB:=Aside0.mk (Below.refl w.heap.size w)
 have H : (some (a0_1,(a0_2.toList != ([] : List UInt8)),(a0_3.toList != ([] : List UInt8)),decide ((l0_4.length : Int) > 0),decide ((l0_5.length : Int) > 0))) = some (r1,r2,r3,r4,r5):=h
 clear h
 simp only [Option.some.injEq,Prod.mk.injEq] at H
 obtain ⟨rfl,rfl,rfl,rfl,rfl⟩:=H
 go_enter Tryd.func62,Tryd.ntmps62
 go_wp2_with (first|((with_reducible refine gate_dst (N:=1) rfl ?_);refine box_event ?hg (N:=1) ?hd (cs:=#[.int .i64 a0_0,.bool a0_1,.string a0_2,.string a0_3,.slice A0_4 l0_4.length c0_4,.slice A0_5 l0_5.length c0_5]) (t:=25) ?hr ?_;(case hd=>rfl);(case hg=>rfl);(case hr=>first|(go_simp;done)|(go_simp;rfl));intro gb113 hg w2 hbox hb;have n_:=J_ (below_step (hb_ HB) hb) (J_ (hbox) (J_ (bs_ hg HB) (Aside0.mk (bs_ hg HB))));clear HB;obtain ⟨HB,BK113,GW113,GE113⟩:=n_;clear hb hbox hg)|((with_reducible refine gate_dst (N:=2) rfl ?_);refine box_event ?hg (N:=2) ?hd (cs:=#[.bool false,.bool false,.bool false,.bool false,.bool false]) (t:=91) ?hr ?_;(case hd=>rfl);(case hg=>rfl);(case hr=>first|(go_simp;done)|(go_simp;rfl));intro gb114 hg w3 hbox hb;have n_:=J_ (bkb_ BK113 hb) (J_ (below_step (hb_ HB) hb) (J_ (hbox) (J_ (bs_ hg HB) (J_ (bs_ hg HB) (J_ ((by rw [hg];exact Nat.ne_of_lt (bkl_ BK113) : gb113 ≠ gb114)) (Aside0.mk ((by rw [hg];exact Nat.ne_of_gt (bkl_ BK113) : gb114 ≠ gb113))))))));clear BK113 HB;obtain ⟨BK113,HB,BK114,GW114,GE114,NB113_114,NB114_113⟩:=n_;clear hb hbox hg;have hnb4:=NB113_114.out;have hnc4:=NB114_113.out;obtain ⟨hcz5_0,hcz5_1,hcz5_2,hcz5_3,hcz5_4,hcz5_5,hfz5_0,hfz5_1,hfz5_2,hfz5_3,hfz5_4,hfz5_5⟩:=cf6_ BK113;obtain ⟨hcz6_0,hcz6_1,hcz6_2,hcz6_3,hcz6_4,hfz6_0,hfz6_1,hfz6_2,hfz6_3,hfz6_4⟩:=cf5_ BK114))
 refine bodyPost_ret (results_cell_row rfl _ _ gb114 91 #[.bool a0_1,.bool (a0_2.toList != ([] : List UInt8)),.bool (a0_3.toList != ([] : List UInt8)),.bool (decide ((l0_4.length : Int) > 0)),.bool (decide ((l0_5.length : Int) > 0))] (0,0) _ rfl (by (with_reducible repeat (first|refine blk_drewN ?_ _|refine blk_drew ?_|refine blk_alloc ?_ _));refine bp_ (cs:=#[.bool a0_1,.bool (a0_2.toList != ([] : List UInt8)),.bool (a0_3.toList != ([] : List UInt8)),.bool (decide ((l0_4.length : Int) > 0)),.bool false]) ?_ 4 _;refine bp_ (cs:=#[.bool a0_1,.bool (a0_2.toList != ([] : List UInt8)),.bool (a0_3.toList != ([] : List UInt8)),.bool false,.bool false]) ?_ 3 _;refine bp_ (cs:=#[.bool a0_1,.bool (a0_2.toList != ([] : List UInt8)),.bool false,.bool false,.bool false]) ?_ 2 _;refine bp_ (cs:=#[.bool a0_1,.bool false,.bool false,.bool false,.bool false]) ?_ 1 _;refine bp_ (cs:=#[.bool false,.bool false,.bool false,.bool false,.bool false]) ?_ 0 _;(with_reducible repeat (first|refine blk_drewN ?_ _|refine blk_drew ?_|refine blk_alloc ?_ _));exact BK114.out) Tryd.underlying91 rfl (by kernel_rfl)) rfl ?_
 exact ⟨er_,(hb_ HB)⟩
def IsS106 (w0 W : World) (g : Nat) (f0 : Int) (f1 : Int) (f2 : Int) (f3 : Int) (f4 : Int) (f5 : Bool) : Prop:=W.heap[g]? = some (.cells #[.int .i64 f0,.int .u8 f1,.int .u8 f2,.int .i32 f3,.int .i64 f4,.bool f5] 106 (0,0)) ∧ w0.heap.size ≤ g
theorem IsS106.grown {w0 W : World} {g : Nat} {f0 : Int} {f1 : Int} {f2 : Int} {f3 : Int} {f4 : Int} {f5 : Bool} {W1 : World} {row : Option Nat} (h : IsS106 w0 W g f0 f1 f2 f3 f4 f5) (hw : W.grownBy W1 row) (hne : some g ≠ row) : IsS106 w0 W1 g f0 f1 f2 f3 f4 f5:=by
 obtain ⟨hb,hg⟩:=h
 exact ⟨blk_grown hb hw hne,hg⟩
theorem IsS106.kept {w0 W : World} {g : Nat} {f0 : Int} {f1 : Int} {f2 : Int} {f3 : Int} {f4 : Int} {f5 : Bool} {W1 : World} {S : Nat → Prop} (h : IsS106 w0 W g f0 f1 f2 f3 f4 f5) (hk : Kept W W1 S) (hne : ¬ S g) : IsS106 w0 W1 g f0 f1 f2 f3 f4 f5:=by
 obtain ⟨hb,hg⟩:=h
 exact ⟨blk_kept hb hk hne,hg⟩
theorem IsS106.below {w0 W : World} {g : Nat} {f0 : Int} {f1 : Int} {f2 : Int} {f3 : Int} {f4 : Int} {f5 : Bool} {W1 : World} (h : IsS106 w0 W g f0 f1 f2 f3 f4 f5) (hw : Below W.heap.size W W1) : IsS106 w0 W1 g f0 f1 f2 f3 f4 f5:=h.grown (grown_of_below hw none) (by simp)
theorem IsS106.alloc {w0 W : World} {g : Nat} {f0 : Int} {f1 : Int} {f2 : Int} {f3 : Int} {f4 : Int} {f5 : Bool} (h : IsS106 w0 W g f0 f1 f2 f3 f4 f5) (o : Obj) : IsS106 w0 (W.alloc o) g f0 f1 f2 f3 f4 f5:=h.below (below_alloc (Below.refl _ _) o)
theorem IsS106.drewN {w0 W : World} {g : Nat} {f0 : Int} {f1 : Int} {f2 : Int} {f3 : Int} {f4 : Int} {f5 : Bool} (h : IsS106 w0 W g f0 f1 f2 f3 f4 f5) (m : Nat) : IsS106 w0 (W.drewN m) g f0 f1 f2 f3 f4 f5:=h
theorem IsS106.drew {w0 W : World} {g : Nat} {f0 : Int} {f1 : Int} {f2 : Int} {f3 : Int} {f4 : Int} {f5 : Bool} (h : IsS106 w0 W g f0 f1 f2 f3 f4 f5) : IsS106 w0 W.drew g f0 f1 f2 f3 f4 f5:=h
theorem IsS106.at_ {w0 W : World} {g : Nat} {f0 : Int} {f1 : Int} {f2 : Int} {f3 : Int} {f4 : Int} {f5 : Bool} {w' : World} {m : Nat} (hq : W.drewN m = w') (h : IsS106 w0 W g f0 f1 f2 f3 f4 f5) : IsS106 w0 w' g f0 f1 f2 f3 f4 f5:=by subst hq;exact IsS106.drewN h m
theorem IsS106.apart {w0 W : World} {g : Nat} {f0 : Int} {f1 : Int} {f2 : Int} {f3 : Int} {f4 : Int} {f5 : Bool} {α : Type} {d : Kd α} {e : Nat} {base : Nat} {ok : Nat → Prop} {v : Value} {xs : List α} (h : IsS106 w0 W g f0 f1 f2 f3 f4 f5) (ho : d.R e W base ok v xs) (ht : ∀ q,q ∈ e :: d.E → q ≠ 106) : d.R e W base (fun k=>ok k ∧ k ≠ g) v xs:=by
 obtain ⟨hb,hg⟩:=h
 exact Kd.R_types ho hb ht
theorem IsS106.own_ne {w0 W : World} {g : Nat} {f0 : Int} {f1 : Int} {f2 : Int} {f3 : Int} {f4 : Int} {f5 : Bool} {α : Type} {d : Kd α} {e : Nat} {base : Nat} {ok : Nat → Prop} {v : Value} {xs : List α} (h : IsS106 w0 W g f0 f1 f2 f3 f4 f5) (ho : d.R e W base ok v xs) (ht : e ≠ 106) : some g ≠ v.ownBlock:=by
 obtain ⟨hb,hg⟩:=h
 exact Kd.R_ne ho hb ht
theorem IsS106.lt {w0 W : World} {g : Nat} {f0 : Int} {f1 : Int} {f2 : Int} {f3 : Int} {f4 : Int} {f5 : Bool} (h : IsS106 w0 W g f0 f1 f2 f3 f4 f5) : g < W.heap.size:=by
 obtain ⟨hb,hg⟩:=h
 exact blk_lt hb
end Go.Proofs.YtppenppagkfigaaDoor.PPointerBack
