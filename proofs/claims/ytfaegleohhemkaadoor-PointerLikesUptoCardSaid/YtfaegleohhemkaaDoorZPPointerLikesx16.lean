-- Written by shrink.py, a program of this session: what the law needs of the print and its words. Lean checks it.
import Derived.Test.YtfaegleohhemkaaDoorZPPointerLikesx0
import Derived.Test.YtfaegleohhemkaaDoorZPPointerLikesx8
import Derived.Test.YtfaegleohhemkaaDoorZPPointerLikesx13
import Derived.Test.YtfaegleohhemkaaDoorZPPointerLikesx14
import Derived.Test.YtfaegleohhemkaaDoorZPPointerLikesx15
namespace Go.Proofs.YtfaegleohhemkaaDoor.PPointerLikes
open Go.RowKit Go.Proofs.YtfaegleohhemkaaDoorW.PrintWords Go.Proofs.YtfaegleohhemkaaDoorW.PrintLast Go.Proofs.YtfaegleohhemkaaDoorW.PrintMore
attribute [local go_sem] max2_int min2_int max_two min_two max_three min_three max_four min_four
set_option linter.unusedVariables false
set_option linter.unusedSimpArgs false
mutual
def decimal_Cmp.j0 : Nat → Bool → Bool → ByteArray → Int → Bool → ByteArray → Int → Option (Int × Int)
 | 0,_,_,_,_,_,_,_=>none
 | k + 1,x15,x130000,x130001,x130002,x131000,x131001,x131002=>if x15 = true then (some (0,1)) else ((decimal_sign.f x130000 x130001 x130002).bind fun t133=>((decimal_sign.f x131000 x131001 x131002).bind fun t134=>(if t133 = t134 then (decimal_Cmp.j1 k t133 (t133 == 0) x130000 x130001 x130002 x131000 x131001 x131002) else (decimal_Cmp.j1 k t133 true x130000 x130001 x130002 x131000 x131001 x131002))))
def decimal_Cmp.j1 : Nat → Int → Bool → Bool → ByteArray → Int → Bool → ByteArray → Int → Option (Int × Int)
 | 0,_,_,_,_,_,_,_,_=>none
 | k + 1,x6,x25,x130000,x130001,x130002,x131000,x131001,x131002=>if x25 = true then ((decimal_sign.f x131000 x131001 x131002).bind fun t135=>((cmp_Compare_int.f x6 t135).bind fun t136=>(some (t136,0)))) else ((cmp_Compare_int.f (wrap64 ((x130001.size : Int) + x130002)) (wrap64 ((x131001.size : Int) + x131002))).bind fun t137=>((strings_Compare.f x130001 x131001).bind fun t138=>((cmp_Or_int.f k (([t137,t138] : List Int))).bind fun t142=>(some (wrap64 (x6 * t142),0)))))
end
def decimal_Cmp.f (k : Nat) (a0_0 : Bool) (a0_1 : ByteArray) (a0_2 : Int) (a1_0 : Bool) (a1_1 : ByteArray) (a1_2 : Int) : Option (Int × Int):=(decimal_Formed.f k a0_0 a0_1 a0_2).bind fun t131=>(if t131 = true then ((decimal_Formed.f k a1_0 a1_1 a1_2).bind fun t132=>(decimal_Cmp.j0 k (!t132) a0_0 a0_1 a0_2 a1_0 a1_1 a1_2)) else (decimal_Cmp.j0 k true a0_0 a0_1 a0_2 a1_0 a1_1 a1_2))
theorem decimal_Cmp.mono_l : ∀ k,(∀ y0 y1 y2 y3 y4 y5 y6,LeO (decimal_Cmp.j0 k y0 y1 y2 y3 y4 y5 y6) (decimal_Cmp.j0 (k + 1) y0 y1 y2 y3 y4 y5 y6)) ∧ (∀ y0 y1 y2 y3 y4 y5 y6 y7,LeO (decimal_Cmp.j1 k y0 y1 y2 y3 y4 y5 y6 y7) (decimal_Cmp.j1 (k + 1) y0 y1 y2 y3 y4 y5 y6 y7))
 | 0=>⟨fun _ _ _ _ _ _ _ r h=>by simp [decimal_Cmp.j0] at h,fun _ _ _ _ _ _ _ _ r h=>by simp [decimal_Cmp.j1] at h⟩
 | k + 1=>by
  obtain ⟨ih0,ih1⟩:=decimal_Cmp.mono_l k;refine ⟨?_,?_⟩
  ·intro y0 y1 y2 y3 y4 y5 y6
   unfold decimal_Cmp.j0
   repeat' first
   | (with_reducible exact ih0 _ _ _ _ _ _ _)
   | (with_reducible exact ih1 _ _ _ _ _ _ _ _)
   | (with_reducible exact cmp_Or_int.mono _ _)
   | (with_reducible exact decimal_Formed.mono _ _ _ _)
   | (with_reducible exact LeO.refl _)
   | (with_reducible exact LeO.none _)
   | (with_reducible refine LeO.ite ?_ ?_)
   | (with_reducible refine LeO.bind ?_ (fun _=>?_))
   | exact ih0 _ _ _ _ _ _ _
   | exact ih1 _ _ _ _ _ _ _ _
   | exact LeO.none _
   | refine LeO.ite ?_ ?_
   | refine LeO.bind ?_ (fun _=>?_)
  intro y0 y1 y2 y3 y4 y5 y6 y7
  unfold decimal_Cmp.j1
  repeat' first
  | (with_reducible exact ih0 _ _ _ _ _ _ _)
  | (with_reducible exact ih1 _ _ _ _ _ _ _ _)
  | (with_reducible exact cmp_Or_int.mono _ _)
  | (with_reducible exact decimal_Formed.mono _ _ _ _)
  | (with_reducible exact LeO.refl _)
  | (with_reducible exact LeO.none _)
  | (with_reducible refine LeO.ite ?_ ?_)
  | (with_reducible refine LeO.bind ?_ (fun _=>?_))
  | exact ih0 _ _ _ _ _ _ _
  | exact ih1 _ _ _ _ _ _ _ _
  | exact LeO.none _
  | refine LeO.ite ?_ ?_
  | refine LeO.bind ?_ (fun _=>?_)
theorem decimal_Cmp.mono : ∀ a0 a1 a2 a3 a4 a5 k,LeO (decimal_Cmp.f k a0 a1 a2 a3 a4 a5) (decimal_Cmp.f (k + 1) a0 a1 a2 a3 a4 a5):=by
 intro a0 a1 a2 a3 a4 a5 k;obtain ⟨ih0,ih1⟩:=decimal_Cmp.mono_l k
 unfold decimal_Cmp.f
 repeat' first
   | (with_reducible exact ih0 _ _ _ _ _ _ _)
   | (with_reducible exact ih1 _ _ _ _ _ _ _ _)
   | (with_reducible exact cmp_Or_int.mono _ _)
   | (with_reducible exact decimal_Formed.mono _ _ _ _)
   | (with_reducible exact LeO.refl _)
   | (with_reducible exact LeO.none _)
   | (with_reducible refine LeO.ite ?_ ?_)
   | (with_reducible refine LeO.bind ?_ (fun _=>?_))
   | exact ih0 _ _ _ _ _ _ _
   | exact ih1 _ _ _ _ _ _ _ _
   | exact LeO.none _
   | refine LeO.ite ?_ ?_
   | refine LeO.bind ?_ (fun _=>?_)
set_option maxHeartbeats 8000000 in
set_option maxRecDepth 100000 in
theorem decimal_Cmp.calls (k : Nat) (a0_0 : Bool) (a0_1 : ByteArray) (a0_2 : Int) (a1_0 : Bool) (a1_1 : ByteArray) (a1_2 : Int) (r1 : Int) (r2 : Int) (w : World) (h : decimal_Cmp.f k a0_0 a0_1 a0_2 a1_0 a1_1 a1_2 = some (r1,r2)) :
  Calls Tryd.prog 40 #[.agg #[.bool a0_0,.string a0_1,.int .i64 a0_2],.agg #[.bool a1_0,.string a1_1,.int .i64 a1_2]] w fun e w'=>e = .returned (.tuple #[.int .i64 r1,.int .i64 r2]) ∧ Below w.heap.size w w':=by
 have hu48:=Tryd.underlying48;have HB:=Aside0.mk (Below.refl w.heap.size w);have H : ((decimal_Formed.f k a0_0 a0_1 a0_2).bind fun t131=>(if t131 = true then ((decimal_Formed.f k a1_0 a1_1 a1_2).bind fun t132=>(decimal_Cmp.j0 k (!t132) a0_0 a0_1 a0_2 a1_0 a1_1 a1_2)) else (decimal_Cmp.j0 k true a0_0 a0_1 a0_2 a1_0 a1_1 a1_2))) = some (r1,r2):=h;clear h;have HC3:=Aside0.mk H;clear H;go_enter Tryd.func40,Tryd.ntmps40
 go_upto_region 1 with (first|((with_reducible refine gate_dst (N:=2) rfl ?_);refine box_event ?hg (N:=2) ?hd (cs:=#[.bool a0_0,.string a0_1,.int .i64 a0_2]) (t:=48) ?hr ?_;(case hd=>rfl);(case hg=>rfl);(case hr=>first|(go_simp;done)|(go_simp;rfl));intro gb129 hg w4 hbox hb;have n_:=J_ (below_step (hb_ HB) hb) (J_ (hbox) (J_ (bs_ hg HB) (Aside0.mk (bs_ hg HB))));clear HB;obtain ⟨HB,BK129,GW129,GE129⟩:=n_;clear hb hbox hg)|((with_reducible refine gate_dst (N:=3) rfl ?_);refine box_event ?hg (N:=3) ?hd (cs:=#[.bool a1_0,.string a1_1,.int .i64 a1_2]) (t:=48) ?hr ?_;(case hd=>rfl);(case hg=>rfl);(case hr=>first|(go_simp;done)|(go_simp;rfl));intro gb130 hg w5 hbox hb;have n_:=J_ (bkb_ BK129 hb) (J_ (below_step (hb_ HB) hb) (J_ (hbox) (J_ (bs_ hg HB) (J_ (bs_ hg HB) (J_ ((by rw [hg];exact Nat.ne_of_lt (bkl_ BK129) : gb129 ≠ gb130)) (Aside0.mk ((by rw [hg];exact Nat.ne_of_gt (bkl_ BK129) : gb130 ≠ gb129))))))));clear BK129 HB;obtain ⟨BK129,HB,BK130,GW130,GE130,NB129_130,NB130_129⟩:=n_;clear hb hbox hg))
 (try simp only [Act.put,List.setIfInBounds_toArray,List.set_cons_zero,List.set_cons_succ])
 go_cut [15] (fun v15 wc=>∃ (kq : Nat) (x15_2 : Bool),v15 = .bool x15_2 ∧ Aside0 (decimal_Cmp.j0 kq x15_2 a0_0 a0_1 a0_2 a1_0 a1_1 a1_2 = some (r1,r2)) ∧ Aside0 (kq ≤ k) ∧ Aside0 (wc.heap[gb129]? = some (.cells #[.bool a0_0,.string a0_1,.int .i64 a0_2] 48 (0,0))) ∧ Aside0 (wc.heap[gb130]? = some (.cells #[.bool a1_0,.string a1_1,.int .i64 a1_2] 48 (0,0))) ∧ Aside0 (Below w.heap.size w wc))
 case first =>
  have H:=HC3.out;clear HC3;replace H:=Option.bind_eq_some_iff.mp H;obtain ⟨t131,A60,H⟩:=H;replace H : (if t131 = true then ((decimal_Formed.f k a1_0 a1_1 a1_2).bind fun t132=>(decimal_Cmp.j0 k (!t132) a0_0 a0_1 a0_2 a1_0 a1_1 a1_2)) else (decimal_Cmp.j0 k true a0_0 a0_1 a0_2 a1_0 a1_1 a1_2)) = some (r1,r2):=H;have A6:=Aside0.mk A60;clear A60
  by_cases c7 : t131 = true
  ·subst c7
   have H1 : ((decimal_Formed.f k a1_0 a1_1 a1_2).bind fun t132=>(decimal_Cmp.j0 k (!t132) a0_0 a0_1 a0_2 a1_0 a1_1 a1_2)) = some (r1,r2):=by rw [if_pos rfl] at H;exact H
   clear H;have H:=H1;clear H1;replace H:=Option.bind_eq_some_iff.mp H;obtain ⟨t132,A80,H⟩:=H;replace H : (decimal_Cmp.j0 k (!t132) a0_0 a0_1 a0_2 a1_0 a1_1 a1_2) = some (r1,r2):=H;have A8:=Aside0.mk A80;clear A80;have H':=Aside0.mk H;clear H;have hnb9:=NB129_130.out;have hnc9:=NB130_129.out;obtain ⟨hcz10_0,hcz10_1,hcz10_2,hfz10_0,hfz10_1,hfz10_2⟩:=cf3_ BK129
   go_wp2_with (first|((with_reducible refine gate_callee (f:=55) rfl ?_);refine goesL_ (some 9) rfl rfl Tryd.func55 (by kernel_rfl) rfl #[.agg #[.bool a0_0,.string a0_1,.int .i64 a0_2]] rfl am_ ?_;(with_reducible refine (decimal_Formed.calls k a0_0 a0_1 a0_2 true _ A6.out).mono ?_);rintro e w11 ⟨rfl,hb⟩;refine ⟨_,rfl,?_⟩;have n_:=J_ (bkb_ BK129 hb) (J_ (bkb_ BK130 hb) (Aside0.mk (below_step (hb_ HB) hb)));clear BK129 BK130 HB;obtain ⟨BK129,BK130,HB⟩:=n_;(try clear hb);(try clear hb2);(try clear hk);(try clear hi);obtain ⟨hcz12_0,hcz12_1,hcz12_2,hfz12_0,hfz12_1,hfz12_2⟩:=cf3_ BK130)|(go_at_call 55;(with_reducible refine (decimal_Formed.calls k a1_0 a1_1 a1_2 t132 _ A8.out).mono ?_);rintro e w13 ⟨rfl,hb⟩;have n_:=J_ (bkb_ BK129 hb) (J_ (bkb_ BK130 hb) (Aside0.mk (below_step (hb_ HB) hb)));clear BK129 BK130 HB;obtain ⟨BK129,BK130,HB⟩:=n_;(try clear hb);(try clear hb2);(try clear hk);(try clear hi)))
   go_meet
   case rel=>exact ⟨_,(!t132),rr_,(by first|exact H'|(subst_vars;exact H')),⟨by first|omega|exact Nat.le_refl _⟩,⟨(bk_ BK129)⟩,⟨(bk_ BK130)⟩,⟨(hb_ HB)⟩⟩
  replace c7:=Bool.eq_false_iff.mpr c7;subst c7
  have H1 : (decimal_Cmp.j0 k true a0_0 a0_1 a0_2 a1_0 a1_1 a1_2) = some (r1,r2):=by rw [if_neg (show ¬ (false = true) by decide)] at H;exact H
  clear H;have H:=H1;clear H1;have H':=Aside0.mk H;clear H;have hnb14:=NB129_130.out;have hnc14:=NB130_129.out;obtain ⟨hcz15_0,hcz15_1,hcz15_2,hfz15_0,hfz15_1,hfz15_2⟩:=cf3_ BK129
  go_wp2_with (first|((with_reducible refine gate_callee (f:=55) rfl ?_);refine goesL_ (some 9) rfl rfl Tryd.func55 (by kernel_rfl) rfl #[.agg #[.bool a0_0,.string a0_1,.int .i64 a0_2]] rfl am_ ?_;(with_reducible refine (decimal_Formed.calls k a0_0 a0_1 a0_2 false _ A6.out).mono ?_);rintro e w16 ⟨rfl,hb⟩;refine ⟨_,rfl,?_⟩;have n_:=J_ (bkb_ BK129 hb) (J_ (bkb_ BK130 hb) (Aside0.mk (below_step (hb_ HB) hb)));clear BK129 BK130 HB;obtain ⟨BK129,BK130,HB⟩:=n_;(try clear hb);(try clear hb2);(try clear hk);(try clear hi)))
  go_meet
  case rel=>exact ⟨_,(true),rr_,(by first|exact H'|(subst_vars;exact H')),⟨by first|omega|exact Nat.le_refl _⟩,⟨(bk_ BK129)⟩,⟨(bk_ BK130)⟩,⟨(hb_ HB)⟩⟩
 case rest =>
  clear HC3;obtain ⟨kq,x15_2,rfl,HA,HJ2,BK129,BK130,HB⟩:=hcut
  cases kq with
  | zero=>exact absurd HA.out (by simp [decimal_Cmp.j0])
  | succ kj2 =>
   have H:=HA.out;clear HA
   simp only [decimal_Cmp.j0] at H
   by_cases c17 : x15_2 = true
   ·subst c17
    have H1 : (some (0,1)) = some (r1,r2):=by rw [if_pos rfl] at H;exact H
    clear H;have H:=H1;clear H1
    simp only [Option.some.injEq,Prod.mk.injEq] at H
    obtain ⟨rfl,rfl⟩:=H;go_wp2
    go_ret2
    exact ⟨er_,(hb_ HB)⟩
   replace c17:=Bool.eq_false_iff.mpr c17;subst c17
   have H1 : ((decimal_sign.f a0_0 a0_1 a0_2).bind fun t133=>((decimal_sign.f a1_0 a1_1 a1_2).bind fun t134=>(if t133 = t134 then (decimal_Cmp.j1 kj2 t133 (t133 == 0) a0_0 a0_1 a0_2 a1_0 a1_1 a1_2) else (decimal_Cmp.j1 kj2 t133 true a0_0 a0_1 a0_2 a1_0 a1_1 a1_2)))) = some (r1,r2):=by rw [if_neg (show ¬ (false = true) by decide)] at H;exact H
   clear H;have H:=H1;clear H1;replace H:=Option.bind_eq_some_iff.mp H;obtain ⟨t133,A180,H⟩:=H;replace H : ((decimal_sign.f a1_0 a1_1 a1_2).bind fun t134=>(if t133 = t134 then (decimal_Cmp.j1 kj2 t133 (t133 == 0) a0_0 a0_1 a0_2 a1_0 a1_1 a1_2) else (decimal_Cmp.j1 kj2 t133 true a0_0 a0_1 a0_2 a1_0 a1_1 a1_2))) = some (r1,r2):=H;have A18:=Aside0.mk A180;clear A180;have HC19:=Aside0.mk H;clear H;have hnb20:=NB129_130.out;have hnc20:=NB130_129.out;obtain ⟨hcz21_0,hcz21_1,hcz21_2,hfz21_0,hfz21_1,hfz21_2⟩:=cf3_ BK129
   go_upto_region 4 with (first|((with_reducible refine gate_callee (f:=56) rfl ?_);refine goesL_ (some 17) rfl rfl Tryd.func56 (by kernel_rfl) rfl #[.agg #[.bool a0_0,.string a0_1,.int .i64 a0_2]] rfl am_ ?_;(with_reducible refine (decimal_sign.calls a0_0 a0_1 a0_2 t133 _ A18.out).mono ?_);rintro e w22 ⟨rfl,hb⟩;refine ⟨_,rfl,?_⟩;have n_:=J_ (bkb_ BK129 hb) (J_ (bkb_ BK130 hb) (Aside0.mk (below_step (hb_ HB) hb)));clear BK129 BK130 HB;obtain ⟨BK129,BK130,HB⟩:=n_;(try clear hb);(try clear hb2);(try clear hk);(try clear hi)))
   (try simp only [Act.put,List.setIfInBounds_toArray,List.set_cons_zero,List.set_cons_succ])
   go_cut [25] (fun v25 wc=>∃ (kq : Nat) (x25_18 : Bool),v25 = .bool x25_18 ∧ Aside0 (decimal_Cmp.j1 kq t133 x25_18 a0_0 a0_1 a0_2 a1_0 a1_1 a1_2 = some (r1,r2)) ∧ Aside0 (kq ≤ kj2) ∧ Aside0 (wc.heap[gb129]? = some (.cells #[.bool a0_0,.string a0_1,.int .i64 a0_2] 48 (0,0))) ∧ Aside0 (wc.heap[gb130]? = some (.cells #[.bool a1_0,.string a1_1,.int .i64 a1_2] 48 (0,0))) ∧ Aside0 (Below w.heap.size w wc))
   case first =>
    have H:=HC19.out;clear HC19;replace H:=Option.bind_eq_some_iff.mp H;obtain ⟨t134,A230,H⟩:=H;replace H : (if t133 = t134 then (decimal_Cmp.j1 kj2 t133 (t133 == 0) a0_0 a0_1 a0_2 a1_0 a1_1 a1_2) else (decimal_Cmp.j1 kj2 t133 true a0_0 a0_1 a0_2 a1_0 a1_1 a1_2)) = some (r1,r2):=H;have A23:=Aside0.mk A230;clear A230
    by_cases c24 : t133 = t134
    ·rw [if_pos c24] at H
     have c24b0 : (t133 == t134) = true:=beq_iff_eq.mpr c24;have c24b1 : (t133 != t134) = false:=bne_eq_false_iff_eq.mpr c24;clear c24
     (first|rw [c24b0]|(simp only [i64_w,i32_w];rw [c24b0])|skip)
     have H':=Aside0.mk H;clear H;have hnb25:=NB130_129.out;have hnc25:=NB129_130.out;obtain ⟨hcz26_0,hcz26_1,hcz26_2,hfz26_0,hfz26_1,hfz26_2⟩:=cf3_ BK130
     go_wp2_with (first|((with_reducible refine gate_callee (f:=56) rfl ?_);refine goesL_ (some 20) rfl rfl Tryd.func56 (by kernel_rfl) rfl #[.agg #[.bool a1_0,.string a1_1,.int .i64 a1_2]] rfl am_ ?_;(with_reducible refine (decimal_sign.calls a1_0 a1_1 a1_2 t134 _ A23.out).mono ?_);rintro e w27 ⟨rfl,hb⟩;refine ⟨_,rfl,?_⟩;have n_:=J_ (bkb_ BK129 hb) (J_ (bkb_ BK130 hb) (Aside0.mk (below_step (hb_ HB) hb)));clear BK129 BK130 HB;obtain ⟨BK129,BK130,HB⟩:=n_;(try clear hb);(try clear hb2);(try clear hk);(try clear hi)))
     go_meet
     case rel=>exact ⟨_,((t133 == 0)),rr_,(by first|exact H'|(subst_vars;exact H')),⟨by have:=HJ2.out;first|omega|exact Nat.le_refl _⟩,⟨(bk_ BK129)⟩,⟨(bk_ BK130)⟩,⟨(hb_ HB)⟩⟩
    rw [if_neg c24] at H
    have c24b0 : (t133 == t134) = false:=beq_eq_false_iff_ne.mpr c24;have c24b1 : (t133 != t134) = true:=bne_iff_ne.mpr c24
    (first|rw [c24b0]|(simp only [i64_w,i32_w];rw [c24b0])|skip)
    have H':=Aside0.mk H;clear H;have hnb28:=NB130_129.out;have hnc28:=NB129_130.out;obtain ⟨hcz29_0,hcz29_1,hcz29_2,hfz29_0,hfz29_1,hfz29_2⟩:=cf3_ BK130
    go_wp2_with (first|((with_reducible refine gate_callee (f:=56) rfl ?_);refine goesL_ (some 20) rfl rfl Tryd.func56 (by kernel_rfl) rfl #[.agg #[.bool a1_0,.string a1_1,.int .i64 a1_2]] rfl am_ ?_;(with_reducible refine (decimal_sign.calls a1_0 a1_1 a1_2 t134 _ A23.out).mono ?_);rintro e w30 ⟨rfl,hb⟩;refine ⟨_,rfl,?_⟩;have n_:=J_ (bkb_ BK129 hb) (J_ (bkb_ BK130 hb) (Aside0.mk (below_step (hb_ HB) hb)));clear BK129 BK130 HB;obtain ⟨BK129,BK130,HB⟩:=n_;(try clear hb);(try clear hb2);(try clear hk);(try clear hi)))
    go_meet
    case rel=>exact ⟨_,(true),rr_,(by first|exact H'|(subst_vars;exact H')),⟨by have:=HJ2.out;first|omega|exact Nat.le_refl _⟩,⟨(bk_ BK129)⟩,⟨(bk_ BK130)⟩,⟨(hb_ HB)⟩⟩
   case rest =>
    clear HC19;obtain ⟨kq,x25_18,rfl,HA,HJ18,BK129,BK130,HB⟩:=hcut
    cases kq with
    | zero=>exact absurd HA.out (by simp [decimal_Cmp.j1])
    | succ kj18 =>
     have H:=HA.out;clear HA
     simp only [decimal_Cmp.j1] at H
     by_cases c31 : x25_18 = true
     ·subst c31
      have H1 : ((decimal_sign.f a1_0 a1_1 a1_2).bind fun t135=>((cmp_Compare_int.f t133 t135).bind fun t136=>(some (t136,0)))) = some (r1,r2):=by rw [if_pos rfl] at H;exact H
      clear H;have H:=H1;clear H1;replace H:=Option.bind_eq_some_iff.mp H;obtain ⟨t135,A320,H⟩:=H;replace H : ((cmp_Compare_int.f t133 t135).bind fun t136=>(some (t136,0))) = some (r1,r2):=H;have A32:=Aside0.mk A320;clear A320;replace H:=Option.bind_eq_some_iff.mp H;obtain ⟨t136,A330,H⟩:=H;replace H : (some (t136,0)) = some (r1,r2):=H;have A33:=Aside0.mk A330;clear A330
      simp only [Option.some.injEq,Prod.mk.injEq] at H
      obtain ⟨rfl,rfl⟩:=H;have hnb34:=NB130_129.out;have hnc34:=NB129_130.out;obtain ⟨hcz35_0,hcz35_1,hcz35_2,hfz35_0,hfz35_1,hfz35_2⟩:=cf3_ BK130
      go_wp2_with (first|((with_reducible refine gate_callee (f:=56) rfl ?_);refine goesL_ (some 28) rfl rfl Tryd.func56 (by kernel_rfl) rfl #[.agg #[.bool a1_0,.string a1_1,.int .i64 a1_2]] rfl am_ ?_;(with_reducible refine (decimal_sign.calls a1_0 a1_1 a1_2 t135 _ A32.out).mono ?_);rintro e w36 ⟨rfl,hb⟩;refine ⟨_,rfl,?_⟩;have n_:=J_ (bkb_ BK129 hb) (J_ (bkb_ BK130 hb) (Aside0.mk (below_step (hb_ HB) hb)));clear BK129 BK130 HB;obtain ⟨BK129,BK130,HB⟩:=n_;(try clear hb);(try clear hb2);(try clear hk);(try clear hi))|((with_reducible refine gate_callee (f:=57) rfl ?_);refine goesL_ (some 29) rfl rfl Tryd.func57 (by kernel_rfl) rfl #[.int .i64 t133,.int .i64 t135] rfl am_ ?_;(with_reducible refine (cmp_Compare_int.calls t133 t135 t136 _ A33.out).mono ?_);rintro e w' ⟨rfl,⟨nd,rfl⟩⟩;refine ⟨_,rfl,?_⟩))
      go_ret2
      exact ⟨er_,(hb_ HB)⟩
     replace c31:=Bool.eq_false_iff.mpr c31;subst c31
     have H1 : ((cmp_Compare_int.f (wrap64 ((a0_1.size : Int) + a0_2)) (wrap64 ((a1_1.size : Int) + a1_2))).bind fun t137=>((strings_Compare.f a0_1 a1_1).bind fun t138=>((cmp_Or_int.f kj18 (([t137,t138] : List Int))).bind fun t142=>(some (wrap64 (t133 * t142),0))))) = some (r1,r2):=by rw [if_neg (show ¬ (false = true) by decide)] at H;exact H
     clear H;have H:=H1;clear H1;replace H:=Option.bind_eq_some_iff.mp H;obtain ⟨t137,A370,H⟩:=H;replace H : ((strings_Compare.f a0_1 a1_1).bind fun t138=>((cmp_Or_int.f kj18 (([t137,t138] : List Int))).bind fun t142=>(some (wrap64 (t133 * t142),0)))) = some (r1,r2):=H;have A37:=Aside0.mk A370;clear A370;replace H:=Option.bind_eq_some_iff.mp H;obtain ⟨t138,A380,H⟩:=H;replace H : ((cmp_Or_int.f kj18 (([t137,t138] : List Int))).bind fun t142=>(some (wrap64 (t133 * t142),0))) = some (r1,r2):=H;have A38:=Aside0.mk A380;clear A380
     obtain ⟨y139,hy139⟩ : ∃ y_ : List Int,y_ = (([t137,t138] : List Int)):=⟨_,rfl⟩
     replace H : ((cmp_Or_int.f kj18 y139).bind fun t142=>(some (wrap64 (t133 * t142),0))) = some (r1,r2):=by first|(rw [hy139];with_reducible exact H)|(have H2_:=(Option.bind_some _ _).symm.trans H;rw [hy139];with_reducible exact H2_)|(have H2_:=(Option.bind_some _ _).symm.trans H;with_reducible exact H2_)|with_reducible exact H|(rw [hy139];exact H)|exact H
     have Ny139:=Aside0.mk hy139;clear hy139;replace H:=Option.bind_eq_some_iff.mp H;obtain ⟨t142,A390,H⟩:=H;replace H : (some (wrap64 (t133 * t142),0)) = some (r1,r2):=H;have A39:=Aside0.mk A390;clear A390
     simp only [Option.some.injEq,Prod.mk.injEq] at H
     obtain ⟨rfl,rfl⟩:=H;have hnb40:=NB129_130.out;have hnc40:=NB130_129.out;obtain ⟨hcz41_0,hcz41_1,hcz41_2,hfz41_0,hfz41_1,hfz41_2⟩:=cf3_ BK129;obtain ⟨hcz42_0,hcz42_1,hcz42_2,hfz42_0,hfz42_1,hfz42_2⟩:=cf3_ BK130
     go_wp2_with (first|((with_reducible refine gate_callee (f:=57) rfl ?_);refine goesL_ (some 42) rfl rfl Tryd.func57 (by kernel_rfl) rfl #[.int .i64 (wrap64 ((a0_1.size : Int) + a0_2)),.int .i64 (wrap64 ((a1_1.size : Int) + a1_2))] rfl am_ ?_;(with_reducible refine (cmp_Compare_int.calls (wrap64 ((a0_1.size : Int) + a0_2)) (wrap64 ((a1_1.size : Int) + a1_2)) t137 _ A37.out).mono ?_);rintro e w' ⟨rfl,⟨nd,rfl⟩⟩;refine ⟨_,rfl,?_⟩)|((with_reducible refine gate_callee (f:=59) rfl ?_);refine goesL_ (some 49) rfl rfl Tryd.func59 (by kernel_rfl) rfl #[.string a0_1,.string a1_1] rfl am_ ?_;(with_reducible refine (strings_Compare.calls a0_1 a1_1 t138 _ A38.out).mono ?_);rintro e w' ⟨rfl,⟨nd,rfl⟩⟩;refine ⟨_,rfl,?_⟩)|((with_reducible refine gate_dst (N:=50) rfl ?_);refine Kd.R_lit (Kd.int .i64) _ 3 ?hg (N:=50) ?hd (xs:=([t137,t138] : List Int)) (inner:=[.int .i64 t137,.int .i64 t138]) (ok:=fun _=>True) (okp:=fun _=>True) ?hr ?hp (fun _ hk=>hk) trivial (Below.refl _ _) (Nat.le_refl _) (by simp) ?_;(case hd=>rfl);(case hg=>rfl);(case hr=>first|(go_simp;done)|(go_simp;rfl));(case hp=>exact (Reps.one (show Kd.M (Kd.int .i64) _ _ _ t137 [.int .i64 t137] from rfl) (Reps.one (show Kd.M (Kd.int .i64) _ _ _ t138 [.int .i64 t138] from rfl) (Reps.none _ _))));intro v140 w43 ho44 hb hg_ hnew_;clear hg_ hnew_;(first|rw [← Ny139.out] at ho44|(simp only [Int.reduceToNat] at ho44;rw [← Ny139.out] at ho44));have n_:=J_ (Kd.R_lower ho44 (below_size (hb_ HB))) (J_ (bkb_ BK129 hb) (J_ (bkb_ BK130 hb) (Aside0.mk (below_step (hb_ HB) hb))));clear BK129 BK130 HB;obtain ⟨HO141,BK129,BK130,HB⟩:=n_;clear hb ho44;obtain ⟨Ao45,co45,eo45⟩:=Kd.R_slice HO141.out;subst eo45)|((with_reducible refine gate_callee (f:=58) rfl ?_);refine goesL_ (some 51) rfl rfl Tryd.func58 (by kernel_rfl) rfl #[.slice Ao45 y139.length co45] rfl am_ ?_;(with_reducible refine (cmp_Or_int.calls kj18 _ _ y139 t142 _ ?side1 ?side2 A39.out).mono ?_);(case side1=>repeat (first|exact (Kd.R_reads' HO141.out).2.2|(with_reducible refine Kd.C_alloc ?_ _)|(with_reducible refine Kd.C_drewN ?_ _)|(with_reducible refine Kd.C_drew ?_)));(case side2=>exact (Kd.R_reads' HO141.out).2.1);rintro e w' ⟨rfl,⟨nd,rfl⟩⟩;refine ⟨_,rfl,?_⟩))
     go_ret2
     exact ⟨er_,(hb_ HB)⟩
def tree_numbers.f (k : Nat) (a0 : ByteArray) (a1 : ByteArray) : Option (Bool):=(decimal_Of.f a0).bind fun bt143=>((decimal_Of.f a1).bind fun bt148=>(if bt143.2.2.2 = 0 then (if bt148.2.2.2 = 0 then ((decimal_Cmp.f k bt143.1 bt143.2.1 bt143.2.2.1 bt148.1 bt148.2.1 bt148.2.2.1).bind fun bt153=>(some (bt153.1 == 0))) else (some (a0.toList == a1.toList))) else (some (a0.toList == a1.toList))))
theorem tree_numbers.mono : ∀ a0 a1 k,LeO (tree_numbers.f k a0 a1) (tree_numbers.f (k + 1) a0 a1):=by
 intro a0 a1 k
 unfold tree_numbers.f
 repeat' first
   | (with_reducible exact decimal_Cmp.mono _ _ _ _ _ _ _)
   | (with_reducible exact LeO.refl _)
   | (with_reducible exact LeO.none _)
   | (with_reducible refine LeO.ite ?_ ?_)
   | (with_reducible refine LeO.bind ?_ (fun _=>?_))
   | exact LeO.none _
   | refine LeO.ite ?_ ?_
   | refine LeO.bind ?_ (fun _=>?_)
set_option maxHeartbeats 8000000 in
set_option maxRecDepth 100000 in
theorem tree_numbers.calls (k : Nat) (a0 : ByteArray) (a1 : ByteArray) (r : Bool) (w : World) (h : tree_numbers.f k a0 a1 = some r) :
  Calls Tryd.prog 26 #[.string a0,.string a1] w fun e w'=>e = .returned (.bool r) ∧ Below w.heap.size w w':=by
 have hu48:=Tryd.underlying48;have HB:=Aside0.mk (Below.refl w.heap.size w);have H : ((decimal_Of.f a0).bind fun bt143=>((decimal_Of.f a1).bind fun bt148=>(if bt143.2.2.2 = 0 then (if bt148.2.2.2 = 0 then ((decimal_Cmp.f k bt143.1 bt143.2.1 bt143.2.2.1 bt148.1 bt148.2.1 bt148.2.2.1).bind fun bt153=>(some (bt153.1 == 0))) else (some (a0.toList == a1.toList))) else (some (a0.toList == a1.toList))))) = some r:=h;clear h;replace H:=Option.bind_eq_some_iff.mp H;obtain ⟨⟨t143,t144,t145,t146⟩,A30,H⟩:=H;replace H : ((decimal_Of.f a1).bind fun bt148=>(if t146 = 0 then (if bt148.2.2.2 = 0 then ((decimal_Cmp.f k t143 t144 t145 bt148.1 bt148.2.1 bt148.2.2.1).bind fun bt153=>(some (bt153.1 == 0))) else (some (a0.toList == a1.toList))) else (some (a0.toList == a1.toList)))) = some r:=H;have A3:=Aside0.mk A30;clear A30;replace H:=Option.bind_eq_some_iff.mp H;obtain ⟨⟨t148,t149,t150,t151⟩,A40,H⟩:=H;replace H : (if t146 = 0 then (if t151 = 0 then ((decimal_Cmp.f k t143 t144 t145 t148 t149 t150).bind fun bt153=>(some (bt153.1 == 0))) else (some (a0.toList == a1.toList))) else (some (a0.toList == a1.toList))) = some r:=H;have A4:=Aside0.mk A40;clear A40
 by_cases c5 : t146 = 0
 ·rw [if_pos c5] at H
  have c5b0 : (t146 == 0) = true:=beq_iff_eq.mpr c5;have c5b1 : (t146 != 0) = false:=bne_eq_false_iff_eq.mpr c5;clear c5
  by_cases c6 : t151 = 0
  ·rw [if_pos c6] at H
   have c6b0 : (t151 == 0) = true:=beq_iff_eq.mpr c6;have c6b1 : (t151 != 0) = false:=bne_eq_false_iff_eq.mpr c6;clear c6;replace H:=Option.bind_eq_some_iff.mp H;obtain ⟨⟨t153,t154⟩,A70,H⟩:=H;replace H : (some (t153 == 0)) = some r:=H;have A7:=Aside0.mk A70;clear A70;obtain rfl:=Option.some.inj H;go_enter Tryd.func26,Tryd.ntmps26
   go_wp2_with (first|((with_reducible refine gate_callee (f:=39) rfl ?_);refine goesL_ (some 13) rfl rfl Tryd.func39 (by kernel_rfl) rfl #[.string a0] rfl am_ ?_;(with_reducible refine (decimal_Of.calls a0 t143 t144 t145 t146 _ A3.out).mono ?_);rintro e w8 ⟨rfl,hb⟩;refine ⟨_,rfl,?_⟩;have n0_:=Aside0.mk (below_step (hb_ HB) hb);clear HB;have HB:=n0_;clear n0_;(try clear hb);(try clear hb2);(try clear hk);(try clear hi))|((with_reducible refine gate_dst (N:=5) rfl ?_);refine box_event ?hg (N:=5) ?hd (cs:=#[.bool false,.string (⟨#[]⟩ : ByteArray),.int .i64 0]) (t:=48) ?hr ?_;(case hd=>rfl);(case hg=>rfl);(case hr=>first|(go_simp;done)|(go_simp;rfl));intro gb147 hg w9 hbox hb;have n_:=J_ (below_step (hb_ HB) hb) (J_ (hbox) (J_ (bs_ hg HB) (Aside0.mk (bs_ hg HB))));clear HB;obtain ⟨HB,BK147,GW147,GE147⟩:=n_;clear hb hbox hg;obtain ⟨hcz10_0,hcz10_1,hcz10_2,hfz10_0,hfz10_1,hfz10_2⟩:=cf3_ BK147)|((with_reducible refine gate_callee (f:=39) rfl ?_);refine goesL_ (some 18) rfl rfl Tryd.func39 (by kernel_rfl) rfl #[.string a1] rfl am_ ?_;(with_reducible refine (decimal_Of.calls a1 t148 t149 t150 t151 _ A4.out).mono ?_);rintro e w11 ⟨rfl,hb⟩;refine ⟨_,rfl,?_⟩;have n_:=J_ (blk_below (g:=gb147) (o:=.cells #[.bool t143,.string t144,.int .i64 t145] 48 (0,0)) (by (with_reducible repeat (first|refine blk_drewN ?_ _|refine blk_drew ?_|refine blk_alloc ?_ _));refine bp_ (cs:=#[.bool t143,.string t144,.int .i64 0]) ?_ 2 _;refine bp_ (cs:=#[.bool t143,.string (⟨#[]⟩ : ByteArray),.int .i64 0]) ?_ 1 _;refine bp_ (cs:=#[.bool false,.string (⟨#[]⟩ : ByteArray),.int .i64 0]) ?_ 0 _;(with_reducible repeat (first|refine blk_drewN ?_ _|refine blk_drew ?_|refine blk_alloc ?_ _));exact BK147.out) hb) (Aside0.mk (below_step (hb_ HB) hb));clear BK147 HB;obtain ⟨BK147,HB⟩:=n_;(try clear hb);(try clear hb2);(try clear hk);(try clear hi))|((with_reducible refine gate_dst (N:=7) rfl ?_);refine box_event ?hg (N:=7) ?hd (cs:=#[.bool false,.string (⟨#[]⟩ : ByteArray),.int .i64 0]) (t:=48) ?hr ?_;(case hd=>rfl);(case hg=>rfl);(case hr=>first|(go_simp;done)|(go_simp;rfl));intro gb152 hg w12 hbox hb;have n_:=J_ (bkb_ BK147 hb) (J_ (below_step (hb_ HB) hb) (J_ (hbox) (J_ (bs_ hg HB) (J_ (bs_ hg HB) (J_ ((by rw [hg];exact Nat.ne_of_lt (bkl_ BK147) : gb147 ≠ gb152)) (Aside0.mk ((by rw [hg];exact Nat.ne_of_gt (bkl_ BK147) : gb152 ≠ gb147))))))));clear BK147 HB;obtain ⟨BK147,HB,BK152,GW152,GE152,NB147_152,NB152_147⟩:=n_;clear hb hbox hg;have hnb13:=NB152_147.out;have hnc13:=NB147_152.out;obtain ⟨hcz14_0,hcz14_1,hcz14_2,hfz14_0,hfz14_1,hfz14_2⟩:=cf3_ BK152;obtain ⟨hcz15_0,hcz15_1,hcz15_2,hfz15_0,hfz15_1,hfz15_2⟩:=cf3_ BK147)|((with_reducible refine gate_callee (f:=40) rfl ?_);refine goesL_ (some 33) rfl rfl Tryd.func40 (by kernel_rfl) rfl #[.agg #[.bool t143,.string t144,.int .i64 t145],.agg #[.bool t148,.string t149,.int .i64 t150]] rfl am_ ?_;(with_reducible refine (decimal_Cmp.calls k t143 t144 t145 t148 t149 t150 t153 t154 _ A7.out).mono ?_);rintro e w16 ⟨rfl,hb⟩;refine ⟨_,rfl,?_⟩;have n_:=J_ (blk_below (g:=gb147) (o:=.cells #[.bool t143,.string t144,.int .i64 t145] 48 (0,0)) ((bf_ NB147_152 BK147)) hb) (J_ (blk_below (g:=gb152) (o:=.cells #[.bool t148,.string t149,.int .i64 t150] 48 (0,0)) (by (with_reducible repeat (first|refine blk_drewN ?_ _|refine blk_drew ?_|refine blk_alloc ?_ _));refine bp_ (cs:=#[.bool t148,.string t149,.int .i64 0]) ?_ 2 _;refine bp_ (cs:=#[.bool t148,.string (⟨#[]⟩ : ByteArray),.int .i64 0]) ?_ 1 _;refine bp_ (cs:=#[.bool false,.string (⟨#[]⟩ : ByteArray),.int .i64 0]) ?_ 0 _;(with_reducible repeat (first|refine blk_drewN ?_ _|refine blk_drew ?_|refine blk_alloc ?_ _));exact BK152.out) hb) (Aside0.mk (below_step (hb_ HB) hb)));clear BK147 BK152 HB;obtain ⟨BK147,BK152,HB⟩:=n_;(try clear hb);(try clear hb2);(try clear hk);(try clear hi)))
   go_ret;exact ⟨er_,(hb_ HB)⟩
  rw [if_neg c6] at H
  have c6b0 : (t151 == 0) = false:=beq_eq_false_iff_ne.mpr c6;have c6b1 : (t151 != 0) = true:=bne_iff_ne.mpr c6;obtain rfl:=Option.some.inj H;go_enter Tryd.func26,Tryd.ntmps26
  go_wp2_with (first|((with_reducible refine gate_callee (f:=39) rfl ?_);refine goesL_ (some 13) rfl rfl Tryd.func39 (by kernel_rfl) rfl #[.string a0] rfl am_ ?_;(with_reducible refine (decimal_Of.calls a0 t143 t144 t145 t146 _ A3.out).mono ?_);rintro e w17 ⟨rfl,hb⟩;refine ⟨_,rfl,?_⟩;have n0_:=Aside0.mk (below_step (hb_ HB) hb);clear HB;have HB:=n0_;clear n0_;(try clear hb);(try clear hb2);(try clear hk);(try clear hi))|((with_reducible refine gate_dst (N:=5) rfl ?_);refine box_event ?hg (N:=5) ?hd (cs:=#[.bool false,.string (⟨#[]⟩ : ByteArray),.int .i64 0]) (t:=48) ?hr ?_;(case hd=>rfl);(case hg=>rfl);(case hr=>first|(go_simp;done)|(go_simp;rfl));intro gb147 hg w18 hbox hb;have n_:=J_ (below_step (hb_ HB) hb) (J_ (hbox) (J_ (bs_ hg HB) (Aside0.mk (bs_ hg HB))));clear HB;obtain ⟨HB,BK147,GW147,GE147⟩:=n_;clear hb hbox hg;obtain ⟨hcz19_0,hcz19_1,hcz19_2,hfz19_0,hfz19_1,hfz19_2⟩:=cf3_ BK147)|((with_reducible refine gate_callee (f:=39) rfl ?_);refine goesL_ (some 18) rfl rfl Tryd.func39 (by kernel_rfl) rfl #[.string a1] rfl am_ ?_;(with_reducible refine (decimal_Of.calls a1 t148 t149 t150 t151 _ A4.out).mono ?_);rintro e w20 ⟨rfl,hb⟩;refine ⟨_,rfl,?_⟩;have n_:=J_ (blk_below (g:=gb147) (o:=.cells #[.bool t143,.string t144,.int .i64 t145] 48 (0,0)) (by (with_reducible repeat (first|refine blk_drewN ?_ _|refine blk_drew ?_|refine blk_alloc ?_ _));refine bp_ (cs:=#[.bool t143,.string t144,.int .i64 0]) ?_ 2 _;refine bp_ (cs:=#[.bool t143,.string (⟨#[]⟩ : ByteArray),.int .i64 0]) ?_ 1 _;refine bp_ (cs:=#[.bool false,.string (⟨#[]⟩ : ByteArray),.int .i64 0]) ?_ 0 _;(with_reducible repeat (first|refine blk_drewN ?_ _|refine blk_drew ?_|refine blk_alloc ?_ _));exact BK147.out) hb) (Aside0.mk (below_step (hb_ HB) hb));clear BK147 HB;obtain ⟨BK147,HB⟩:=n_;(try clear hb);(try clear hb2);(try clear hk);(try clear hi))|((with_reducible refine gate_dst (N:=7) rfl ?_);refine box_event ?hg (N:=7) ?hd (cs:=#[.bool false,.string (⟨#[]⟩ : ByteArray),.int .i64 0]) (t:=48) ?hr ?_;(case hd=>rfl);(case hg=>rfl);(case hr=>first|(go_simp;done)|(go_simp;rfl));intro gb152 hg w21 hbox hb;have n_:=J_ (bkb_ BK147 hb) (J_ (below_step (hb_ HB) hb) (J_ (hbox) (J_ (bs_ hg HB) (J_ (bs_ hg HB) (J_ ((by rw [hg];exact Nat.ne_of_lt (bkl_ BK147) : gb147 ≠ gb152)) (Aside0.mk ((by rw [hg];exact Nat.ne_of_gt (bkl_ BK147) : gb152 ≠ gb147))))))));clear BK147 HB;obtain ⟨BK147,HB,BK152,GW152,GE152,NB147_152,NB152_147⟩:=n_;clear hb hbox hg;have hnb22:=NB152_147.out;have hnc22:=NB147_152.out;obtain ⟨hcz23_0,hcz23_1,hcz23_2,hfz23_0,hfz23_1,hfz23_2⟩:=cf3_ BK152))
  go_ret;exact ⟨er_,(hb_ HB)⟩
 rw [if_neg c5] at H
 have c5b0 : (t146 == 0) = false:=beq_eq_false_iff_ne.mpr c5;have c5b1 : (t146 != 0) = true:=bne_iff_ne.mpr c5;obtain rfl:=Option.some.inj H;go_enter Tryd.func26,Tryd.ntmps26
 go_wp2_with (first|((with_reducible refine gate_callee (f:=39) rfl ?_);refine goesL_ (some 13) rfl rfl Tryd.func39 (by kernel_rfl) rfl #[.string a0] rfl am_ ?_;(with_reducible refine (decimal_Of.calls a0 t143 t144 t145 t146 _ A3.out).mono ?_);rintro e w24 ⟨rfl,hb⟩;refine ⟨_,rfl,?_⟩;have n0_:=Aside0.mk (below_step (hb_ HB) hb);clear HB;have HB:=n0_;clear n0_;(try clear hb);(try clear hb2);(try clear hk);(try clear hi))|((with_reducible refine gate_dst (N:=5) rfl ?_);refine box_event ?hg (N:=5) ?hd (cs:=#[.bool false,.string (⟨#[]⟩ : ByteArray),.int .i64 0]) (t:=48) ?hr ?_;(case hd=>rfl);(case hg=>rfl);(case hr=>first|(go_simp;done)|(go_simp;rfl));intro gb147 hg w25 hbox hb;have n_:=J_ (below_step (hb_ HB) hb) (J_ (hbox) (J_ (bs_ hg HB) (Aside0.mk (bs_ hg HB))));clear HB;obtain ⟨HB,BK147,GW147,GE147⟩:=n_;clear hb hbox hg;obtain ⟨hcz26_0,hcz26_1,hcz26_2,hfz26_0,hfz26_1,hfz26_2⟩:=cf3_ BK147)|((with_reducible refine gate_callee (f:=39) rfl ?_);refine goesL_ (some 18) rfl rfl Tryd.func39 (by kernel_rfl) rfl #[.string a1] rfl am_ ?_;(with_reducible refine (decimal_Of.calls a1 t148 t149 t150 t151 _ A4.out).mono ?_);rintro e w27 ⟨rfl,hb⟩;refine ⟨_,rfl,?_⟩;have n_:=J_ (blk_below (g:=gb147) (o:=.cells #[.bool t143,.string t144,.int .i64 t145] 48 (0,0)) (by (with_reducible repeat (first|refine blk_drewN ?_ _|refine blk_drew ?_|refine blk_alloc ?_ _));refine bp_ (cs:=#[.bool t143,.string t144,.int .i64 0]) ?_ 2 _;refine bp_ (cs:=#[.bool t143,.string (⟨#[]⟩ : ByteArray),.int .i64 0]) ?_ 1 _;refine bp_ (cs:=#[.bool false,.string (⟨#[]⟩ : ByteArray),.int .i64 0]) ?_ 0 _;(with_reducible repeat (first|refine blk_drewN ?_ _|refine blk_drew ?_|refine blk_alloc ?_ _));exact BK147.out) hb) (Aside0.mk (below_step (hb_ HB) hb));clear BK147 HB;obtain ⟨BK147,HB⟩:=n_;(try clear hb);(try clear hb2);(try clear hk);(try clear hi))|((with_reducible refine gate_dst (N:=7) rfl ?_);refine box_event ?hg (N:=7) ?hd (cs:=#[.bool false,.string (⟨#[]⟩ : ByteArray),.int .i64 0]) (t:=48) ?hr ?_;(case hd=>rfl);(case hg=>rfl);(case hr=>first|(go_simp;done)|(go_simp;rfl));intro gb152 hg w28 hbox hb;have n_:=J_ (bkb_ BK147 hb) (J_ (below_step (hb_ HB) hb) (J_ (hbox) (J_ (bs_ hg HB) (J_ (bs_ hg HB) (J_ ((by rw [hg];exact Nat.ne_of_lt (bkl_ BK147) : gb147 ≠ gb152)) (Aside0.mk ((by rw [hg];exact Nat.ne_of_gt (bkl_ BK147) : gb152 ≠ gb147))))))));clear BK147 HB;obtain ⟨BK147,HB,BK152,GW152,GE152,NB147_152,NB152_147⟩:=n_;clear hb hbox hg;have hnb29:=NB152_147.out;have hnc29:=NB147_152.out;obtain ⟨hcz30_0,hcz30_1,hcz30_2,hfz30_0,hfz30_1,hfz30_2⟩:=cf3_ BK152))
 go_ret;exact ⟨er_,(hb_ HB)⟩
end Go.Proofs.YtfaegleohhemkaaDoor.PPointerLikes
