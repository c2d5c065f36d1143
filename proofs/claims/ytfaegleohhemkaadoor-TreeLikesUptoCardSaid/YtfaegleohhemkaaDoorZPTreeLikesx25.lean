-- By shrink.py.
import Derived.Test.YtfaegleohhemkaaDoorZPTreeLikesx0
import Derived.Test.YtfaegleohhemkaaDoorZPTreeLikesx23
import Derived.Test.YtfaegleohhemkaaDoorZPTreeLikesx24
namespace Go.Proofs.YtfaegleohhemkaaDoor.PTreeLikes
open Go.RowKit Go.Proofs.YtfaegleohhemkaaDoorW.PrintWords Go.Proofs.YtfaegleohhemkaaDoorW.PrintLast Go.Proofs.YtfaegleohhemkaaDoorW.PrintMore
attribute [local go_sem] max2_int min2_int max_two min_two max_three min_three max_four min_four
set_option linter.unusedVariables false
set_option linter.unusedSimpArgs false
def quarryref11_Read.j0 : Nat → ByteArray → Int → Bool → Option (Bool × ByteArray × Int × Int × Int)
 | 0,_,_,_=>none
 | k + 1,x0,x1,x19=>if x19 = true then (some (false,(⟨#[]⟩ : ByteArray),0,0,2)) else ((quarryref11_scan.f k x0 x1).bind fun bt209=>(if bt209.2.2.2.2.2 = true then ((quarryref11_number.f k bt209.2.2.2.1 1000000000000000).bind fun t216=>(if bt209.2.1.size + bt209.2.2.1.size ≤ 9223372036854775807 then ((quarryref11_Make.f k bt209.1 (bt209.2.1 ++ bt209.2.2.1) (wrap64 (t216 - (bt209.2.2.1.size : Int)))).bind fun bt217=>(if bt217.2.2.2 = true then (some (bt217.1,bt217.2.1,bt217.2.2.1,bt209.2.2.2.2.1,0)) else (some (false,(⟨#[]⟩ : ByteArray),0,bt209.2.2.2.2.1,111)))) else (none))) else (some (false,(⟨#[]⟩ : ByteArray),0,bt209.2.2.2.2.1,110))))
def quarryref11_Read.f (k : Nat) (a0 : ByteArray) (a1 : Int) : Option (Bool × ByteArray × Int × Int × Int):=if a1 < 0 then (quarryref11_Read.j0 k a0 a1 true) else (quarryref11_Read.j0 k a0 a1 (decide (a1 > (a0.size : Int))))
theorem quarryref11_Read.mono_l : ∀ k,(∀ y0 y1 y2,LeO (quarryref11_Read.j0 k y0 y1 y2) (quarryref11_Read.j0 (k + 1) y0 y1 y2))
 | 0=>fun _ _ _ r h=>by simp [quarryref11_Read.j0] at h
 | k + 1=>by
  have ih0:=quarryref11_Read.mono_l k;intro y0 y1 y2
  unfold quarryref11_Read.j0
  repeat' first
  | (with_reducible exact ih0 _ _ _)
  | (with_reducible exact quarryref11_Make.mono _ _ _ _)
  | (with_reducible exact quarryref11_number.mono _ _ _)
  | (with_reducible exact quarryref11_scan.mono _ _ _)
  | (with_reducible exact LeO.refl _)
  | (with_reducible exact LeO.none _)
  | (with_reducible refine LeO.ite ?_ ?_)
  | (with_reducible refine LeO.bind ?_ (fun _=>?_))
  | exact ih0 _ _ _
  | exact LeO.none _
  | refine LeO.ite ?_ ?_
  | refine LeO.bind ?_ (fun _=>?_)
theorem quarryref11_Read.mono : ∀ a0 a1 k,LeO (quarryref11_Read.f k a0 a1) (quarryref11_Read.f (k + 1) a0 a1):=by
 intro a0 a1 k;have ih0:=quarryref11_Read.mono_l k
 unfold quarryref11_Read.f
 repeat' first
   | (with_reducible exact ih0 _ _ _)
   | (with_reducible exact quarryref11_Make.mono _ _ _ _)
   | (with_reducible exact quarryref11_number.mono _ _ _)
   | (with_reducible exact quarryref11_scan.mono _ _ _)
   | (with_reducible exact LeO.refl _)
   | (with_reducible exact LeO.none _)
   | (with_reducible refine LeO.ite ?_ ?_)
   | (with_reducible refine LeO.bind ?_ (fun _=>?_))
   | exact ih0 _ _ _
   | exact LeO.none _
   | refine LeO.ite ?_ ?_
   | refine LeO.bind ?_ (fun _=>?_)
set_option maxHeartbeats 8000000 in
set_option maxRecDepth 100000 in
theorem quarryref11_Read.calls (k : Nat) (a0 : ByteArray) (a1 : Int) (r1 : Bool) (r2 : ByteArray) (r3 : Int) (r4 : Int) (r5 : Int) (w : World) (h : quarryref11_Read.f k a0 a1 = some (r1,r2,r3,r4,r5)) :
  Calls Tryd.prog 42 #[.string a0,.int .i64 a1] w fun e w'=>e = .returned (.tuple #[.agg #[.bool r1,.string r2,.int .i64 r3],.int .i64 r4,.int .i64 r5]) ∧ Below w.heap.size w w':=by
 have hu48:=Tryd.underlying48;have hu75:=Tryd.underlying75;have HB:=ad_ (Below.refl w.heap.size w);have H : (if a1 < 0 then (quarryref11_Read.j0 k a0 a1 true) else (quarryref11_Read.j0 k a0 a1 (decide (a1 > (a0.size : Int))))) = some (r1,r2,r3,r4,r5):=h;clear h;have HC3:=ad_ H;clear H;go_enter Tryd.func42,Tryd.ntmps42
 go_upto_region 1 with (first|((with_reducible refine gate_dst (N:=4) rfl ?_);(try (refine gate_guard (by rfl) ?_;dsimp only));refine box_event ?hg (N:=4) ?hd (cs:=#[.bool false,.string (⟨#[]⟩ : ByteArray),.int .i64 0]) (t:=48) ?hr ?_;(case hd=>rfl);(case hg=>rfl);(case hr=>first|(go_simp;done)|(go_simp;rfl));intro gb208 hg w4 hbox hb;have n_:=J_ (bw_ (hb_ HB) hb) (J_ (hbox) (J_ (bs_ hg HB) (ad_ (bs_ hg HB))));clear HB;obtain ⟨HB,BK208,GW208,GE208⟩:=n_;clear hb hbox hg))
 (try simp only [Act.put,List.setIfInBounds_toArray,List.set_cons_zero,List.set_cons_succ])
 go_cut [19] (fun v19 wc=>∃ (kq : Nat) (x19_2 : Bool),v19 = .bool x19_2 ∧ Aside0 (quarryref11_Read.j0 kq a0 a1 x19_2 = some (r1,r2,r3,r4,r5)) ∧ Aside0 (kq ≤ k) ∧ Aside0 (wc.heap[gb208]? = some (.cells #[.bool false,.string (⟨#[]⟩ : ByteArray),.int .i64 0] 48 (0,0))) ∧ Aside0 (Below w.heap.size w wc))
 case first =>
  have H:=HC3.out;clear HC3
  by_cases c5 : a1 < 0
  ·rw [if_pos c5] at H
   have c5b0 : decide (a1 < 0) = true:=dt_ c5;clear c5
   (first|rw [c5b0]|(simp only [i64_w,i32_w];rw [c5b0])|skip)
   have H':=ad_ H;clear H;go_wp2
   go_meet
   case rel=>exact ⟨_,(true),rr_,(by first|exact H'|(subst_vars;exact H')),⟨by first|omega|exact Nat.le_refl _⟩,⟨(bk_ BK208)⟩,⟨(hb_ HB)⟩⟩
  rw [if_neg c5] at H
  have c5b0 : decide (a1 < 0) = false:=df_ c5;clear c5
  (first|rw [c5b0]|(simp only [i64_w,i32_w];rw [c5b0])|skip)
  have H':=ad_ H;clear H;go_wp2
  go_meet
  case rel=>exact ⟨_,(decide (a1 > (a0.size : Int))),rr_,(by first|exact H'|(subst_vars;exact H')),⟨by first|omega|exact Nat.le_refl _⟩,⟨(bk_ BK208)⟩,⟨(hb_ HB)⟩⟩
 case rest =>
  clear HC3;obtain ⟨kq,x19_2,rfl,HA,HJ2,BK208,HB⟩:=hcut
  cases kq with
  | zero=>exact absurd HA.out (by simp [quarryref11_Read.j0])
  | succ kj2 =>
   have H:=HA.out;clear HA
   simp only [quarryref11_Read.j0] at H
   by_cases c6 : x19_2 = true
   ·subst c6
    rw [if_pos rfl] at H
    simp only [Option.some.injEq,Prod.mk.injEq] at H
    obtain ⟨rfl,rfl,rfl,rfl,rfl⟩:=H;obtain ⟨hcz7_0,hcz7_1,hcz7_2,hfz7_0,hfz7_1,hfz7_2⟩:=cf3_ BK208;go_wp2
    refine bodyPost_ret (results_ctt rfl _ _ gb208 48 #[.bool false,.string (⟨#[]⟩ : ByteArray),.int .i64 0] (0,0) _ rfl (by (with_reducible repeat (first|refine blk_drewN ?_ _|refine blk_drew ?_|refine blk_alloc ?_ _));refine bp_ (cs:=#[.bool false,.string (⟨#[]⟩ : ByteArray),.int .i64 0]) ?_ 2 _;refine bp_ (cs:=#[.bool false,.string (⟨#[]⟩ : ByteArray),.int .i64 0]) ?_ 1 _;refine bp_ (cs:=#[.bool false,.string (⟨#[]⟩ : ByteArray),.int .i64 0]) ?_ 0 _;(with_reducible repeat (first|refine blk_drewN ?_ _|refine blk_drew ?_|refine blk_alloc ?_ _));exact BK208.out) Tryd.underlying48 rfl (by kernel_rfl)) rfl ?_;exact ⟨er_,(hb_ HB)⟩
   replace c6:=Bool.eq_false_iff.mpr c6;subst c6
   rw [if_neg (show ¬ (false = true) by decide)] at H
   replace H:=Option.bind_eq_some_iff.mp H;obtain ⟨⟨t209,t210,t211,t212,t213,t214⟩,A80,H⟩:=H
   try dsimp only at H
   have A8:=ad_ A80;clear A80
   by_cases c9 : t214 = true
   ·subst c9
    rw [if_pos rfl] at H
    replace H:=Option.bind_eq_some_iff.mp H;obtain ⟨t216,A100,H⟩:=H
    try dsimp only at H
    have A10:=ad_ A100;clear A100
    by_cases c11 : t210.size + t211.size ≤ 9223372036854775807
    ·rw [if_pos c11] at H
     have c11b0:=eq_true c11;have c11b1 : decide (t210.size + t211.size ≤ 9223372036854775807) = true:=dt_ c11
     try have c11b2 : (9223372036854775807 < t210.size + t211.size) = False:=eq_false (Nat.not_lt.2 c11)
     replace H:=Option.bind_eq_some_iff.mp H;obtain ⟨⟨t217,t218,t219,t220⟩,A120,H⟩:=H
     try dsimp only at H
     have A12:=ad_ A120;clear A120
     by_cases c13 : t220 = true
     ·subst c13
      rw [if_pos rfl] at H
      simp only [Option.some.injEq,Prod.mk.injEq] at H
      obtain ⟨rfl,rfl,rfl,rfl,rfl⟩:=H
      go_wp2_with (first|((with_reducible refine gate_callee (f:=61) rfl ?_);refine goesL_ (some 24) rfl rfl Tryd.func61 (by kernel_rfl) rfl #[.string a0,.int .i64 a1] rfl am_ ?_;(with_reducible refine (quarryref11_scan.calls kj2 a0 a1 t209 t210 t211 t212 t213 true _ A8.out).mono ?_);rintro e w14 ⟨rfl,hb⟩;refine ⟨_,rfl,?_⟩;have n_:=J_ (bkb_ BK208 hb) (ad_ (bw_ (hb_ HB) hb));clear BK208 HB;obtain ⟨BK208,HB⟩:=n_;(try clear hb);(try clear hb2);(try clear hk);(try clear hi))|((with_reducible refine gate_dst (N:=7) rfl ?_);(try (refine gate_guard (by rfl) ?_;dsimp only));refine box_event ?hg (N:=7) ?hd (cs:=#[.bool false,.string (⟨#[]⟩ : ByteArray),.string (⟨#[]⟩ : ByteArray),.string (⟨#[]⟩ : ByteArray)]) (t:=75) ?hr ?_;(case hd=>rfl);(case hg=>rfl);(case hr=>first|(go_simp;done)|(go_simp;rfl));intro gb215 hg w15 hbox hb;have n_:=J_ (bkb_ BK208 hb) (J_ (bw_ (hb_ HB) hb) (J_ (hbox) (J_ (bs_ hg HB) (J_ (bs_ hg HB) (J_ ((by rw [hg];exact Nat.ne_of_lt (bkl_ BK208) : gb208 ≠ gb215)) (ad_ ((by rw [hg];exact Nat.ne_of_gt (bkl_ BK208) : gb215 ≠ gb208))))))));clear BK208 HB;obtain ⟨BK208,HB,BK215,GW215,GE215,NB208_215,NB215_208⟩:=n_;clear hb hbox hg;have hnb16:=NB215_208.out;have hnc16:=NB208_215.out;obtain ⟨hcz17_0,hcz17_1,hcz17_2,hcz17_3,hfz17_0,hfz17_1,hfz17_2,hfz17_3⟩:=cf4_ BK215)|((with_reducible refine gate_callee (f:=62) rfl ?_);refine goesL_ (some 34) rfl rfl Tryd.func62 (by kernel_rfl) rfl #[.string t212,.int .i64 1000000000000000] rfl am_ ?_;(with_reducible refine (quarryref11_number.calls kj2 t212 1000000000000000 t216 _ A10.out).mono ?_);rintro e w' ⟨rfl,⟨nd,rfl⟩⟩;refine ⟨_,rfl,?_⟩)|((with_reducible refine gate_callee (f:=63) rfl ?_);refine goesL_ (some 48) rfl rfl Tryd.func63 (by kernel_rfl) rfl #[.bool t209,.string (t210 ++ t211),.int .i64 (wrap64 (t216 - (t211.size : Int)))] rfl am_ ?_;(with_reducible refine (quarryref11_Make.calls kj2 t209 (t210 ++ t211) (wrap64 (t216 - (t211.size : Int))) t217 t218 t219 true _ A12.out).mono ?_);rintro e w18 ⟨rfl,hb⟩;refine ⟨_,rfl,?_⟩;have n_:=J_ (blk_below (g:=gb208) (o:=.cells #[.bool false,.string (⟨#[]⟩ : ByteArray),.int .i64 0] 48 (0,0)) ((bf_ NB208_215 BK208)) hb) (J_ (blk_below (g:=gb215) (o:=.cells #[.bool t209,.string t210,.string t211,.string t212] 75 (0,0)) (by (with_reducible repeat (first|refine blk_drewN ?_ _|refine blk_drew ?_|refine blk_alloc ?_ _));refine bp_ (cs:=#[.bool t209,.string t210,.string t211,.string (⟨#[]⟩ : ByteArray)]) ?_ 3 _;refine bp_ (cs:=#[.bool t209,.string t210,.string (⟨#[]⟩ : ByteArray),.string (⟨#[]⟩ : ByteArray)]) ?_ 2 _;refine bp_ (cs:=#[.bool t209,.string (⟨#[]⟩ : ByteArray),.string (⟨#[]⟩ : ByteArray),.string (⟨#[]⟩ : ByteArray)]) ?_ 1 _;refine bp_ (cs:=#[.bool false,.string (⟨#[]⟩ : ByteArray),.string (⟨#[]⟩ : ByteArray),.string (⟨#[]⟩ : ByteArray)]) ?_ 0 _;(with_reducible repeat (first|refine blk_drewN ?_ _|refine blk_drew ?_|refine blk_alloc ?_ _));exact BK215.out) hb) (ad_ (bw_ (hb_ HB) hb)));clear BK208 BK215 HB;obtain ⟨BK208,BK215,HB⟩:=n_;(try clear hb);(try clear hb2);(try clear hk);(try clear hi))|((with_reducible refine gate_dst (N:=11) rfl ?_);(try (refine gate_guard (by rfl) ?_;dsimp only));refine box_event ?hg (N:=11) ?hd (cs:=#[.bool false,.string (⟨#[]⟩ : ByteArray),.int .i64 0]) (t:=48) ?hr ?_;(case hd=>rfl);(case hg=>rfl);(case hr=>first|(go_simp;done)|(go_simp;rfl));intro gb221 hg w19 hbox hb;have n_:=J_ (bkb_ BK208 hb) (J_ (bkb_ BK215 hb) (J_ (bw_ (hb_ HB) hb) (J_ (hbox) (J_ (bs_ hg HB) (J_ (bs_ hg HB) (J_ ((by rw [hg];exact Nat.ne_of_lt (bkl_ BK208) : gb208 ≠ gb221)) (J_ ((by rw [hg];exact Nat.ne_of_gt (bkl_ BK208) : gb221 ≠ gb208)) (J_ ((by rw [hg];exact Nat.ne_of_lt (bkl_ BK215) : gb215 ≠ gb221)) (ad_ ((by rw [hg];exact Nat.ne_of_gt (bkl_ BK215) : gb221 ≠ gb215)))))))))));clear BK208 BK215 HB;obtain ⟨BK208,BK215,HB,BK221,GW221,GE221,NB208_221,NB221_208,NB215_221,NB221_215⟩:=n_;clear hb hbox hg;have hnb20:=NB221_208.out;have hnc20:=NB208_221.out;have hnb21:=NB221_215.out;have hnc21:=NB215_221.out;obtain ⟨hcz22_0,hcz22_1,hcz22_2,hfz22_0,hfz22_1,hfz22_2⟩:=cf3_ BK221;obtain ⟨hcz23_0,hcz23_1,hcz23_2,hfz23_0,hfz23_1,hfz23_2⟩:=cf3_ BK208))
      refine bodyPost_ret (results_ctt rfl _ _ gb208 48 #[.bool t217,.string t218,.int .i64 t219] (0,0) _ rfl (by (with_reducible repeat (first|refine blk_drewN ?_ _|refine blk_drew ?_|refine blk_alloc ?_ _));refine bp_ (cs:=#[.bool t217,.string t218,.int .i64 0]) ?_ 2 _;refine bp_ (cs:=#[.bool t217,.string (⟨#[]⟩ : ByteArray),.int .i64 0]) ?_ 1 _;refine bp_ (cs:=#[.bool false,.string (⟨#[]⟩ : ByteArray),.int .i64 0]) ?_ 0 _;(with_reducible repeat (first|refine blk_drewN ?_ _|refine blk_drew ?_|refine blk_alloc ?_ _));refine blk_far ?_ NB208_221.out _;(with_reducible repeat (first|refine blk_drewN ?_ _|refine blk_drew ?_|refine blk_alloc ?_ _));refine blk_far ?_ NB208_221.out _;(with_reducible repeat (first|refine blk_drewN ?_ _|refine blk_drew ?_|refine blk_alloc ?_ _));refine blk_far ?_ NB208_221.out _;(with_reducible repeat (first|refine blk_drewN ?_ _|refine blk_drew ?_|refine blk_alloc ?_ _));exact BK208.out) Tryd.underlying48 rfl (by kernel_rfl)) rfl ?_;exact ⟨er_,(hb_ HB)⟩
     replace c13:=Bool.eq_false_iff.mpr c13;subst c13
     rw [if_neg (show ¬ (false = true) by decide)] at H
     simp only [Option.some.injEq,Prod.mk.injEq] at H
     obtain ⟨rfl,rfl,rfl,rfl,rfl⟩:=H
     go_wp2_with (first|((with_reducible refine gate_callee (f:=61) rfl ?_);refine goesL_ (some 24) rfl rfl Tryd.func61 (by kernel_rfl) rfl #[.string a0,.int .i64 a1] rfl am_ ?_;(with_reducible refine (quarryref11_scan.calls kj2 a0 a1 t209 t210 t211 t212 t213 true _ A8.out).mono ?_);rintro e w24 ⟨rfl,hb⟩;refine ⟨_,rfl,?_⟩;have n_:=J_ (bkb_ BK208 hb) (ad_ (bw_ (hb_ HB) hb));clear BK208 HB;obtain ⟨BK208,HB⟩:=n_;(try clear hb);(try clear hb2);(try clear hk);(try clear hi))|((with_reducible refine gate_dst (N:=7) rfl ?_);(try (refine gate_guard (by rfl) ?_;dsimp only));refine box_event ?hg (N:=7) ?hd (cs:=#[.bool false,.string (⟨#[]⟩ : ByteArray),.string (⟨#[]⟩ : ByteArray),.string (⟨#[]⟩ : ByteArray)]) (t:=75) ?hr ?_;(case hd=>rfl);(case hg=>rfl);(case hr=>first|(go_simp;done)|(go_simp;rfl));intro gb215 hg w25 hbox hb;have n_:=J_ (bkb_ BK208 hb) (J_ (bw_ (hb_ HB) hb) (J_ (hbox) (J_ (bs_ hg HB) (J_ (bs_ hg HB) (J_ ((by rw [hg];exact Nat.ne_of_lt (bkl_ BK208) : gb208 ≠ gb215)) (ad_ ((by rw [hg];exact Nat.ne_of_gt (bkl_ BK208) : gb215 ≠ gb208))))))));clear BK208 HB;obtain ⟨BK208,HB,BK215,GW215,GE215,NB208_215,NB215_208⟩:=n_;clear hb hbox hg;have hnb26:=NB215_208.out;have hnc26:=NB208_215.out;obtain ⟨hcz27_0,hcz27_1,hcz27_2,hcz27_3,hfz27_0,hfz27_1,hfz27_2,hfz27_3⟩:=cf4_ BK215)|((with_reducible refine gate_callee (f:=62) rfl ?_);refine goesL_ (some 34) rfl rfl Tryd.func62 (by kernel_rfl) rfl #[.string t212,.int .i64 1000000000000000] rfl am_ ?_;(with_reducible refine (quarryref11_number.calls kj2 t212 1000000000000000 t216 _ A10.out).mono ?_);rintro e w' ⟨rfl,⟨nd,rfl⟩⟩;refine ⟨_,rfl,?_⟩)|((with_reducible refine gate_callee (f:=63) rfl ?_);refine goesL_ (some 48) rfl rfl Tryd.func63 (by kernel_rfl) rfl #[.bool t209,.string (t210 ++ t211),.int .i64 (wrap64 (t216 - (t211.size : Int)))] rfl am_ ?_;(with_reducible refine (quarryref11_Make.calls kj2 t209 (t210 ++ t211) (wrap64 (t216 - (t211.size : Int))) t217 t218 t219 false _ A12.out).mono ?_);rintro e w28 ⟨rfl,hb⟩;refine ⟨_,rfl,?_⟩;have n_:=J_ (blk_below (g:=gb208) (o:=.cells #[.bool false,.string (⟨#[]⟩ : ByteArray),.int .i64 0] 48 (0,0)) ((bf_ NB208_215 BK208)) hb) (J_ (blk_below (g:=gb215) (o:=.cells #[.bool t209,.string t210,.string t211,.string t212] 75 (0,0)) (by (with_reducible repeat (first|refine blk_drewN ?_ _|refine blk_drew ?_|refine blk_alloc ?_ _));refine bp_ (cs:=#[.bool t209,.string t210,.string t211,.string (⟨#[]⟩ : ByteArray)]) ?_ 3 _;refine bp_ (cs:=#[.bool t209,.string t210,.string (⟨#[]⟩ : ByteArray),.string (⟨#[]⟩ : ByteArray)]) ?_ 2 _;refine bp_ (cs:=#[.bool t209,.string (⟨#[]⟩ : ByteArray),.string (⟨#[]⟩ : ByteArray),.string (⟨#[]⟩ : ByteArray)]) ?_ 1 _;refine bp_ (cs:=#[.bool false,.string (⟨#[]⟩ : ByteArray),.string (⟨#[]⟩ : ByteArray),.string (⟨#[]⟩ : ByteArray)]) ?_ 0 _;(with_reducible repeat (first|refine blk_drewN ?_ _|refine blk_drew ?_|refine blk_alloc ?_ _));exact BK215.out) hb) (ad_ (bw_ (hb_ HB) hb)));clear BK208 BK215 HB;obtain ⟨BK208,BK215,HB⟩:=n_;(try clear hb);(try clear hb2);(try clear hk);(try clear hi))|((with_reducible refine gate_dst (N:=11) rfl ?_);(try (refine gate_guard (by rfl) ?_;dsimp only));refine box_event ?hg (N:=11) ?hd (cs:=#[.bool false,.string (⟨#[]⟩ : ByteArray),.int .i64 0]) (t:=48) ?hr ?_;(case hd=>rfl);(case hg=>rfl);(case hr=>first|(go_simp;done)|(go_simp;rfl));intro gb221 hg w29 hbox hb;have n_:=J_ (bkb_ BK208 hb) (J_ (bkb_ BK215 hb) (J_ (bw_ (hb_ HB) hb) (J_ (hbox) (J_ (bs_ hg HB) (J_ (bs_ hg HB) (J_ ((by rw [hg];exact Nat.ne_of_lt (bkl_ BK208) : gb208 ≠ gb221)) (J_ ((by rw [hg];exact Nat.ne_of_gt (bkl_ BK208) : gb221 ≠ gb208)) (J_ ((by rw [hg];exact Nat.ne_of_lt (bkl_ BK215) : gb215 ≠ gb221)) (ad_ ((by rw [hg];exact Nat.ne_of_gt (bkl_ BK215) : gb221 ≠ gb215)))))))))));clear BK208 BK215 HB;obtain ⟨BK208,BK215,HB,BK221,GW221,GE221,NB208_221,NB221_208,NB215_221,NB221_215⟩:=n_;clear hb hbox hg;have hnb30:=NB221_208.out;have hnc30:=NB208_221.out;have hnb31:=NB221_215.out;have hnc31:=NB215_221.out;obtain ⟨hcz32_0,hcz32_1,hcz32_2,hfz32_0,hfz32_1,hfz32_2⟩:=cf3_ BK221;obtain ⟨hcz33_0,hcz33_1,hcz33_2,hfz33_0,hfz33_1,hfz33_2⟩:=cf3_ BK208))
     refine bodyPost_ret (results_ctt rfl _ _ gb208 48 #[.bool false,.string (⟨#[]⟩ : ByteArray),.int .i64 0] (0,0) _ rfl (by (with_reducible repeat (first|refine blk_drewN ?_ _|refine blk_drew ?_|refine blk_alloc ?_ _));refine bp_ (cs:=#[.bool false,.string (⟨#[]⟩ : ByteArray),.int .i64 0]) ?_ 2 _;refine bp_ (cs:=#[.bool false,.string (⟨#[]⟩ : ByteArray),.int .i64 0]) ?_ 1 _;refine bp_ (cs:=#[.bool false,.string (⟨#[]⟩ : ByteArray),.int .i64 0]) ?_ 0 _;(with_reducible repeat (first|refine blk_drewN ?_ _|refine blk_drew ?_|refine blk_alloc ?_ _));refine blk_far ?_ NB208_221.out _;(with_reducible repeat (first|refine blk_drewN ?_ _|refine blk_drew ?_|refine blk_alloc ?_ _));refine blk_far ?_ NB208_221.out _;(with_reducible repeat (first|refine blk_drewN ?_ _|refine blk_drew ?_|refine blk_alloc ?_ _));refine blk_far ?_ NB208_221.out _;(with_reducible repeat (first|refine blk_drewN ?_ _|refine blk_drew ?_|refine blk_alloc ?_ _));exact BK208.out) Tryd.underlying48 rfl (by kernel_rfl)) rfl ?_;exact ⟨er_,(hb_ HB)⟩
    rw [if_neg c11] at H
    exact absurd H (by simp)
   replace c9:=Bool.eq_false_iff.mpr c9;subst c9
   rw [if_neg (show ¬ (false = true) by decide)] at H
   simp only [Option.some.injEq,Prod.mk.injEq] at H
   obtain ⟨rfl,rfl,rfl,rfl,rfl⟩:=H
   go_wp2_with (first|((with_reducible refine gate_callee (f:=61) rfl ?_);refine goesL_ (some 24) rfl rfl Tryd.func61 (by kernel_rfl) rfl #[.string a0,.int .i64 a1] rfl am_ ?_;(with_reducible refine (quarryref11_scan.calls kj2 a0 a1 t209 t210 t211 t212 t213 false _ A8.out).mono ?_);rintro e w34 ⟨rfl,hb⟩;refine ⟨_,rfl,?_⟩;have n_:=J_ (bkb_ BK208 hb) (ad_ (bw_ (hb_ HB) hb));clear BK208 HB;obtain ⟨BK208,HB⟩:=n_;(try clear hb);(try clear hb2);(try clear hk);(try clear hi))|((with_reducible refine gate_dst (N:=7) rfl ?_);(try (refine gate_guard (by rfl) ?_;dsimp only));refine box_event ?hg (N:=7) ?hd (cs:=#[.bool false,.string (⟨#[]⟩ : ByteArray),.string (⟨#[]⟩ : ByteArray),.string (⟨#[]⟩ : ByteArray)]) (t:=75) ?hr ?_;(case hd=>rfl);(case hg=>rfl);(case hr=>first|(go_simp;done)|(go_simp;rfl));intro gb215 hg w35 hbox hb;have n_:=J_ (bkb_ BK208 hb) (J_ (bw_ (hb_ HB) hb) (J_ (hbox) (J_ (bs_ hg HB) (J_ (bs_ hg HB) (J_ ((by rw [hg];exact Nat.ne_of_lt (bkl_ BK208) : gb208 ≠ gb215)) (ad_ ((by rw [hg];exact Nat.ne_of_gt (bkl_ BK208) : gb215 ≠ gb208))))))));clear BK208 HB;obtain ⟨BK208,HB,BK215,GW215,GE215,NB208_215,NB215_208⟩:=n_;clear hb hbox hg;have hnb36:=NB215_208.out;have hnc36:=NB208_215.out;obtain ⟨hcz37_0,hcz37_1,hcz37_2,hcz37_3,hfz37_0,hfz37_1,hfz37_2,hfz37_3⟩:=cf4_ BK215;obtain ⟨hcz38_0,hcz38_1,hcz38_2,hfz38_0,hfz38_1,hfz38_2⟩:=cf3_ BK208))
   refine bodyPost_ret (results_ctt rfl _ _ gb208 48 #[.bool false,.string (⟨#[]⟩ : ByteArray),.int .i64 0] (0,0) _ rfl (by (with_reducible repeat (first|refine blk_drewN ?_ _|refine blk_drew ?_|refine blk_alloc ?_ _));refine bp_ (cs:=#[.bool false,.string (⟨#[]⟩ : ByteArray),.int .i64 0]) ?_ 2 _;refine bp_ (cs:=#[.bool false,.string (⟨#[]⟩ : ByteArray),.int .i64 0]) ?_ 1 _;refine bp_ (cs:=#[.bool false,.string (⟨#[]⟩ : ByteArray),.int .i64 0]) ?_ 0 _;(with_reducible repeat (first|refine blk_drewN ?_ _|refine blk_drew ?_|refine blk_alloc ?_ _));refine blk_far ?_ NB208_215.out _;(with_reducible repeat (first|refine blk_drewN ?_ _|refine blk_drew ?_|refine blk_alloc ?_ _));refine blk_far ?_ NB208_215.out _;(with_reducible repeat (first|refine blk_drewN ?_ _|refine blk_drew ?_|refine blk_alloc ?_ _));refine blk_far ?_ NB208_215.out _;(with_reducible repeat (first|refine blk_drewN ?_ _|refine blk_drew ?_|refine blk_alloc ?_ _));refine blk_far ?_ NB208_215.out _;(with_reducible repeat (first|refine blk_drewN ?_ _|refine blk_drew ?_|refine blk_alloc ?_ _));exact BK208.out) Tryd.underlying48 rfl (by kernel_rfl)) rfl ?_;exact ⟨er_,(hb_ HB)⟩
def quarryref11_Of.f (k : Nat) (a0 : ByteArray) : Option (Bool × ByteArray × Int × Int):=(quarryref11_Read.f k a0 0).bind fun bt223=>(if bt223.2.2.2.2 = 110 then (some (false,(⟨#[]⟩ : ByteArray),0,110)) else (if bt223.2.2.2.1 = (a0.size : Int) then (some (bt223.1,bt223.2.1,bt223.2.2.1,bt223.2.2.2.2)) else (some (false,(⟨#[]⟩ : ByteArray),0,110))))
theorem quarryref11_Of.mono : ∀ a0 k,LeO (quarryref11_Of.f k a0) (quarryref11_Of.f (k + 1) a0):=by
 intro a0 k
 unfold quarryref11_Of.f
 repeat' first
   | (with_reducible exact quarryref11_Read.mono _ _ _)
   | (with_reducible exact LeO.refl _)
   | (with_reducible exact LeO.none _)
   | (with_reducible refine LeO.ite ?_ ?_)
   | (with_reducible refine LeO.bind ?_ (fun _=>?_))
   | exact LeO.none _
   | refine LeO.ite ?_ ?_
   | refine LeO.bind ?_ (fun _=>?_)
set_option maxHeartbeats 8000000 in
set_option maxRecDepth 100000 in
theorem quarryref11_Of.calls (k : Nat) (a0 : ByteArray) (r1 : Bool) (r2 : ByteArray) (r3 : Int) (r4 : Int) (w : World) (h : quarryref11_Of.f k a0 = some (r1,r2,r3,r4)) :
  Calls Tryd.prog 31 #[.string a0] w fun e w'=>e = .returned (.tuple #[.agg #[.bool r1,.string r2,.int .i64 r3],.int .i64 r4]) ∧ Below w.heap.size w w':=by
 have hu48:=Tryd.underlying48;have HB:=ad_ (Below.refl w.heap.size w);have H : ((quarryref11_Read.f k a0 0).bind fun bt223=>(if bt223.2.2.2.2 = 110 then (some (false,(⟨#[]⟩ : ByteArray),0,110)) else (if bt223.2.2.2.1 = (a0.size : Int) then (some (bt223.1,bt223.2.1,bt223.2.2.1,bt223.2.2.2.2)) else (some (false,(⟨#[]⟩ : ByteArray),0,110))))) = some (r1,r2,r3,r4):=h;clear h;replace H:=Option.bind_eq_some_iff.mp H;obtain ⟨⟨t223,t224,t225,t226,t227⟩,A20,H⟩:=H
 try dsimp only at H
 have A2:=ad_ A20;clear A20
 by_cases c3 : t227 = 110
 ·rw [if_pos c3] at H
  have c3b0 : (t227 == 110) = true:=beq_iff_eq.mpr c3;have c3b1 : (t227 != 110) = false:=bne_eq_false_iff_eq.mpr c3;clear c3
  simp only [Option.some.injEq,Prod.mk.injEq] at H
  obtain ⟨rfl,rfl,rfl,rfl⟩:=H;go_enter Tryd.func31,Tryd.ntmps31
  go_wp2_with (first|((with_reducible refine gate_dst (N:=2) rfl ?_);(try (refine gate_guard (by rfl) ?_;dsimp only));refine box_event ?hg (N:=2) ?hd (cs:=#[.bool false,.string (⟨#[]⟩ : ByteArray),.int .i64 0]) (t:=48) ?hr ?_;(case hd=>rfl);(case hg=>rfl);(case hr=>first|(go_simp;done)|(go_simp;rfl));intro gb222 hg w4 hbox hb;have n_:=J_ (bw_ (hb_ HB) hb) (J_ (hbox) (J_ (bs_ hg HB) (ad_ (bs_ hg HB))));clear HB;obtain ⟨HB,BK222,GW222,GE222⟩:=n_;clear hb hbox hg)|((with_reducible refine gate_callee (f:=42) rfl ?_);refine goesL_ (some 9) rfl rfl Tryd.func42 (by kernel_rfl) rfl #[.string a0,.int .i64 0] rfl am_ ?_;(with_reducible refine (quarryref11_Read.calls k a0 0 t223 t224 t225 t226 t227 _ A2.out).mono ?_);rintro e w5 ⟨rfl,hb⟩;refine ⟨_,rfl,?_⟩;have n_:=J_ (bkb_ BK222 hb) (ad_ (bw_ (hb_ HB) hb));clear BK222 HB;obtain ⟨BK222,HB⟩:=n_;(try clear hb);(try clear hb2);(try clear hk);(try clear hi))|((with_reducible refine gate_dst (N:=4) rfl ?_);(try (refine gate_guard (by rfl) ?_;dsimp only));refine box_event ?hg (N:=4) ?hd (cs:=#[.bool false,.string (⟨#[]⟩ : ByteArray),.int .i64 0]) (t:=48) ?hr ?_;(case hd=>rfl);(case hg=>rfl);(case hr=>first|(go_simp;done)|(go_simp;rfl));intro gb228 hg w6 hbox hb;have n_:=J_ (bkb_ BK222 hb) (J_ (bw_ (hb_ HB) hb) (J_ (hbox) (J_ (bs_ hg HB) (J_ (bs_ hg HB) (J_ ((by rw [hg];exact Nat.ne_of_lt (bkl_ BK222) : gb222 ≠ gb228)) (ad_ ((by rw [hg];exact Nat.ne_of_gt (bkl_ BK222) : gb228 ≠ gb222))))))));clear BK222 HB;obtain ⟨BK222,HB,BK228,GW228,GE228,NB222_228,NB228_222⟩:=n_;clear hb hbox hg;have hnb7:=NB228_222.out;have hnc7:=NB222_228.out;obtain ⟨hcz8_0,hcz8_1,hcz8_2,hfz8_0,hfz8_1,hfz8_2⟩:=cf3_ BK228;obtain ⟨hcz9_0,hcz9_1,hcz9_2,hfz9_0,hfz9_1,hfz9_2⟩:=cf3_ BK222))
  refine bodyPost_ret (results_ct rfl _ _ gb222 48 #[.bool false,.string (⟨#[]⟩ : ByteArray),.int .i64 0] (0,0) _ rfl (by (with_reducible repeat (first|refine blk_drewN ?_ _|refine blk_drew ?_|refine blk_alloc ?_ _));refine bp_ (cs:=#[.bool false,.string (⟨#[]⟩ : ByteArray),.int .i64 0]) ?_ 2 _;refine bp_ (cs:=#[.bool false,.string (⟨#[]⟩ : ByteArray),.int .i64 0]) ?_ 1 _;refine bp_ (cs:=#[.bool false,.string (⟨#[]⟩ : ByteArray),.int .i64 0]) ?_ 0 _;(with_reducible repeat (first|refine blk_drewN ?_ _|refine blk_drew ?_|refine blk_alloc ?_ _));refine blk_far ?_ NB222_228.out _;(with_reducible repeat (first|refine blk_drewN ?_ _|refine blk_drew ?_|refine blk_alloc ?_ _));refine blk_far ?_ NB222_228.out _;(with_reducible repeat (first|refine blk_drewN ?_ _|refine blk_drew ?_|refine blk_alloc ?_ _));refine blk_far ?_ NB222_228.out _;(with_reducible repeat (first|refine blk_drewN ?_ _|refine blk_drew ?_|refine blk_alloc ?_ _));exact BK222.out) Tryd.underlying48 rfl (by kernel_rfl)) rfl ?_;exact ⟨er_,(hb_ HB)⟩
 rw [if_neg c3] at H
 have c3b0 : (t227 == 110) = false:=be_ c3;have c3b1 : (t227 != 110) = true:=bne_iff_ne.mpr c3
 by_cases c10 : t226 = (a0.size : Int)
 ·rw [if_pos c10] at H
  have c10b0 : (t226 == (a0.size : Int)) = true:=beq_iff_eq.mpr c10;have c10b1 : (t226 != (a0.size : Int)) = false:=bne_eq_false_iff_eq.mpr c10;clear c10
  simp only [Option.some.injEq,Prod.mk.injEq] at H
  obtain ⟨rfl,rfl,rfl,rfl⟩:=H;go_enter Tryd.func31,Tryd.ntmps31
  go_wp2_with (first|((with_reducible refine gate_dst (N:=2) rfl ?_);(try (refine gate_guard (by rfl) ?_;dsimp only));refine box_event ?hg (N:=2) ?hd (cs:=#[.bool false,.string (⟨#[]⟩ : ByteArray),.int .i64 0]) (t:=48) ?hr ?_;(case hd=>rfl);(case hg=>rfl);(case hr=>first|(go_simp;done)|(go_simp;rfl));intro gb222 hg w11 hbox hb;have n_:=J_ (bw_ (hb_ HB) hb) (J_ (hbox) (J_ (bs_ hg HB) (ad_ (bs_ hg HB))));clear HB;obtain ⟨HB,BK222,GW222,GE222⟩:=n_;clear hb hbox hg)|((with_reducible refine gate_callee (f:=42) rfl ?_);refine goesL_ (some 9) rfl rfl Tryd.func42 (by kernel_rfl) rfl #[.string a0,.int .i64 0] rfl am_ ?_;(with_reducible refine (quarryref11_Read.calls k a0 0 t223 t224 t225 t226 t227 _ A2.out).mono ?_);rintro e w12 ⟨rfl,hb⟩;refine ⟨_,rfl,?_⟩;have n_:=J_ (bkb_ BK222 hb) (ad_ (bw_ (hb_ HB) hb));clear BK222 HB;obtain ⟨BK222,HB⟩:=n_;(try clear hb);(try clear hb2);(try clear hk);(try clear hi))|((with_reducible refine gate_dst (N:=4) rfl ?_);(try (refine gate_guard (by rfl) ?_;dsimp only));refine box_event ?hg (N:=4) ?hd (cs:=#[.bool false,.string (⟨#[]⟩ : ByteArray),.int .i64 0]) (t:=48) ?hr ?_;(case hd=>rfl);(case hg=>rfl);(case hr=>first|(go_simp;done)|(go_simp;rfl));intro gb228 hg w13 hbox hb;have n_:=J_ (bkb_ BK222 hb) (J_ (bw_ (hb_ HB) hb) (J_ (hbox) (J_ (bs_ hg HB) (J_ (bs_ hg HB) (J_ ((by rw [hg];exact Nat.ne_of_lt (bkl_ BK222) : gb222 ≠ gb228)) (ad_ ((by rw [hg];exact Nat.ne_of_gt (bkl_ BK222) : gb228 ≠ gb222))))))));clear BK222 HB;obtain ⟨BK222,HB,BK228,GW228,GE228,NB222_228,NB228_222⟩:=n_;clear hb hbox hg;have hnb14:=NB228_222.out;have hnc14:=NB222_228.out;obtain ⟨hcz15_0,hcz15_1,hcz15_2,hfz15_0,hfz15_1,hfz15_2⟩:=cf3_ BK228;obtain ⟨hcz16_0,hcz16_1,hcz16_2,hfz16_0,hfz16_1,hfz16_2⟩:=cf3_ BK222))
  refine bodyPost_ret (results_ct rfl _ _ gb222 48 #[.bool t223,.string t224,.int .i64 t225] (0,0) _ rfl (by (with_reducible repeat (first|refine blk_drewN ?_ _|refine blk_drew ?_|refine blk_alloc ?_ _));refine bp_ (cs:=#[.bool t223,.string t224,.int .i64 0]) ?_ 2 _;refine bp_ (cs:=#[.bool t223,.string (⟨#[]⟩ : ByteArray),.int .i64 0]) ?_ 1 _;refine bp_ (cs:=#[.bool false,.string (⟨#[]⟩ : ByteArray),.int .i64 0]) ?_ 0 _;(with_reducible repeat (first|refine blk_drewN ?_ _|refine blk_drew ?_|refine blk_alloc ?_ _));refine blk_far ?_ NB222_228.out _;(with_reducible repeat (first|refine blk_drewN ?_ _|refine blk_drew ?_|refine blk_alloc ?_ _));refine blk_far ?_ NB222_228.out _;(with_reducible repeat (first|refine blk_drewN ?_ _|refine blk_drew ?_|refine blk_alloc ?_ _));refine blk_far ?_ NB222_228.out _;(with_reducible repeat (first|refine blk_drewN ?_ _|refine blk_drew ?_|refine blk_alloc ?_ _));exact BK222.out) Tryd.underlying48 rfl (by kernel_rfl)) rfl ?_;exact ⟨er_,(hb_ HB)⟩
 rw [if_neg c10] at H
 have c10b0 : (t226 == (a0.size : Int)) = false:=be_ c10;have c10b1 : (t226 != (a0.size : Int)) = true:=bne_iff_ne.mpr c10
 simp only [Option.some.injEq,Prod.mk.injEq] at H
 obtain ⟨rfl,rfl,rfl,rfl⟩:=H;go_enter Tryd.func31,Tryd.ntmps31
 go_wp2_with (first|((with_reducible refine gate_dst (N:=2) rfl ?_);(try (refine gate_guard (by rfl) ?_;dsimp only));refine box_event ?hg (N:=2) ?hd (cs:=#[.bool false,.string (⟨#[]⟩ : ByteArray),.int .i64 0]) (t:=48) ?hr ?_;(case hd=>rfl);(case hg=>rfl);(case hr=>first|(go_simp;done)|(go_simp;rfl));intro gb222 hg w17 hbox hb;have n_:=J_ (bw_ (hb_ HB) hb) (J_ (hbox) (J_ (bs_ hg HB) (ad_ (bs_ hg HB))));clear HB;obtain ⟨HB,BK222,GW222,GE222⟩:=n_;clear hb hbox hg)|((with_reducible refine gate_callee (f:=42) rfl ?_);refine goesL_ (some 9) rfl rfl Tryd.func42 (by kernel_rfl) rfl #[.string a0,.int .i64 0] rfl am_ ?_;(with_reducible refine (quarryref11_Read.calls k a0 0 t223 t224 t225 t226 t227 _ A2.out).mono ?_);rintro e w18 ⟨rfl,hb⟩;refine ⟨_,rfl,?_⟩;have n_:=J_ (bkb_ BK222 hb) (ad_ (bw_ (hb_ HB) hb));clear BK222 HB;obtain ⟨BK222,HB⟩:=n_;(try clear hb);(try clear hb2);(try clear hk);(try clear hi))|((with_reducible refine gate_dst (N:=4) rfl ?_);(try (refine gate_guard (by rfl) ?_;dsimp only));refine box_event ?hg (N:=4) ?hd (cs:=#[.bool false,.string (⟨#[]⟩ : ByteArray),.int .i64 0]) (t:=48) ?hr ?_;(case hd=>rfl);(case hg=>rfl);(case hr=>first|(go_simp;done)|(go_simp;rfl));intro gb228 hg w19 hbox hb;have n_:=J_ (bkb_ BK222 hb) (J_ (bw_ (hb_ HB) hb) (J_ (hbox) (J_ (bs_ hg HB) (J_ (bs_ hg HB) (J_ ((by rw [hg];exact Nat.ne_of_lt (bkl_ BK222) : gb222 ≠ gb228)) (ad_ ((by rw [hg];exact Nat.ne_of_gt (bkl_ BK222) : gb228 ≠ gb222))))))));clear BK222 HB;obtain ⟨BK222,HB,BK228,GW228,GE228,NB222_228,NB228_222⟩:=n_;clear hb hbox hg;have hnb20:=NB228_222.out;have hnc20:=NB222_228.out;obtain ⟨hcz21_0,hcz21_1,hcz21_2,hfz21_0,hfz21_1,hfz21_2⟩:=cf3_ BK228;obtain ⟨hcz22_0,hcz22_1,hcz22_2,hfz22_0,hfz22_1,hfz22_2⟩:=cf3_ BK222))
 refine bodyPost_ret (results_ct rfl _ _ gb222 48 #[.bool false,.string (⟨#[]⟩ : ByteArray),.int .i64 0] (0,0) _ rfl (by (with_reducible repeat (first|refine blk_drewN ?_ _|refine blk_drew ?_|refine blk_alloc ?_ _));refine bp_ (cs:=#[.bool false,.string (⟨#[]⟩ : ByteArray),.int .i64 0]) ?_ 2 _;refine bp_ (cs:=#[.bool false,.string (⟨#[]⟩ : ByteArray),.int .i64 0]) ?_ 1 _;refine bp_ (cs:=#[.bool false,.string (⟨#[]⟩ : ByteArray),.int .i64 0]) ?_ 0 _;(with_reducible repeat (first|refine blk_drewN ?_ _|refine blk_drew ?_|refine blk_alloc ?_ _));refine blk_far ?_ NB222_228.out _;(with_reducible repeat (first|refine blk_drewN ?_ _|refine blk_drew ?_|refine blk_alloc ?_ _));refine blk_far ?_ NB222_228.out _;(with_reducible repeat (first|refine blk_drewN ?_ _|refine blk_drew ?_|refine blk_alloc ?_ _));refine blk_far ?_ NB222_228.out _;(with_reducible repeat (first|refine blk_drewN ?_ _|refine blk_drew ?_|refine blk_alloc ?_ _));exact BK222.out) Tryd.underlying48 rfl (by kernel_rfl)) rfl ?_;exact ⟨er_,(hb_ HB)⟩
end Go.Proofs.YtfaegleohhemkaaDoor.PTreeLikes
