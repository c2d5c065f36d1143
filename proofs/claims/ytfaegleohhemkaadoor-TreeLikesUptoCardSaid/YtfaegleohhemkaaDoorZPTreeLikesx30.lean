-- By shrink.py.
import Derived.Test.YtfaegleohhemkaaDoorZPTreeLikesx0
import Derived.Test.YtfaegleohhemkaaDoorZPTreeLikesx23
import Derived.Test.YtfaegleohhemkaaDoorZPTreeLikesx29
import Derived.Test.YtfaegleohhemkaaDoorZTreeLikesW1
namespace Go.Proofs.YtfaegleohhemkaaDoor.PTreeLikes
open Go.RowKit Go.Proofs.YtfaegleohhemkaaDoorW.PrintWords Go.Proofs.YtfaegleohhemkaaDoorW.PrintLast Go.Proofs.YtfaegleohhemkaaDoorW.PrintMore
attribute [local go_sem] max2_int min2_int max_two min_two max_three min_three max_four min_four
set_option linter.unusedVariables false
set_option linter.unusedSimpArgs false
attribute [local go_sem] str_gtr str_leq str_geq
mutual
def quarryref17_formed.j0 : Nat → Int → Bool → Int → Bool → ByteArray → ByteArray → List ByteArray → List (S25) → Option (Bool)
 | 0,_,_,_,_,_,_,_,_=>none
 | k + 1,x1,x20,x245000,x245001,x245002,x245003,x245004,x245005=>if x20 = true then (some false) else (quarryref17_formed.l0 k x1 0 x245000 x245001 x245002 x245003 x245004 x245005)
def quarryref17_formed.l0 : Nat → Int → Int → Int → Bool → ByteArray → ByteArray → List ByteArray → List (S25) → Option (Bool)
 | 0,_,_,_,_,_,_,_,_=>none
 | k + 1,x1,x5,x245000,x245001,x245002,x245003,x245004,x245005=>if x5 < (x245005.length : Int) then (if 0 ≤ x5 then ((quarryref17_formed.f k ((rd_T25 x245005 x5).f0) ((rd_T25 x245005 x5).f1) ((rd_T25 x245005 x5).f2) ((rd_T25 x245005 x5).f3) ((rd_T25 x245005 x5).f4) ((rd_T25 x245005 x5).f5) (wrap64 (x1 - 1))).bind fun t247=>(if t247 = true then (quarryref17_formed.l0 k x1 (wrap64 (x5 + 1)) x245000 x245001 x245002 x245003 x245004 x245005) else (some false))) else (none)) else (some true)
def quarryref17_formed.f : Nat → Int → Bool → ByteArray → ByteArray → List ByteArray → List (S25) → Int → Option (Bool)
 | 0,_,_,_,_,_,_,_=>none
 | k + 1,a0_0,a0_1,a0_2,a0_3,l0_4,l0_5,a1=>(quarryref17_plain.f k a0_0 a0_1 a0_2 a0_3 l0_4 l0_5).bind fun t245=>(if t245 = true then (if a0_0 = 5 then (quarryref17_formed.j0 k a1 (a1 == 0) a0_0 a0_1 a0_2 a0_3 l0_4 l0_5) else (if a0_0 = 6 then (quarryref17_formed.j0 k a1 (a1 == 0) a0_0 a0_1 a0_2 a0_3 l0_4 l0_5) else (quarryref17_formed.j0 k a1 false a0_0 a0_1 a0_2 a0_3 l0_4 l0_5))) else (some false))
end
set_option maxHeartbeats 8000000 in
set_option maxRecDepth 100000 in
theorem quarryref17_formed.calls (k : Nat) : ∀ (a0_0 : Int) (a0_1 : Bool) (a0_2 : ByteArray) (a0_3 : ByteArray) (A0_4 : Option Addr) (c0_4 : Nat) (l0_4 : List ByteArray) (A0_5 : Option Addr) (c0_5 : Nat) (l0_5 : List (S25)) (a1 : Int) (r : Bool) (w : World) (hr0_4 : Kd.C Kd.string w A0_4 l0_4.length l0_4) (hc0_4 : l0_4.length ≤ c0_4) (hr0_5 : Kd.C k25 w A0_5 l0_5.length l0_5) (hc0_5 : l0_5.length ≤ c0_5) (h : quarryref17_formed.f k a0_0 a0_1 a0_2 a0_3 l0_4 l0_5 a1 = some r),
  Calls Tryd.prog 30 #[.agg #[.int .i64 a0_0,.bool a0_1,.string a0_2,.string a0_3,.slice A0_4 l0_4.length c0_4,.slice A0_5 l0_5.length c0_5],.int .i64 a1] w fun e w'=>e = .returned (.bool r) ∧ Below w.heap.size w w':=by
 induction k using Nat.strongRecOn with
 | _ k ih =>
 intro a0_0 a0_1 a0_2 a0_3 A0_4 c0_4 l0_4 A0_5 c0_5 l0_5 a1 r w hr0_4 hc0_4 hr0_5 hc0_5 h
 cases k with
 | zero=>exact absurd h (by simp [quarryref17_formed.f])
 | succ k =>
 simp only [quarryref17_formed.f] at h
 have hu25:=Tryd.underlying25;have HR0_4:=ad_ hr0_4;have HC0_4:=ad_ hc0_4;clear hr0_4 hc0_4;have HR0_5:=ad_ hr0_5;have HC0_5:=ad_ hc0_5;clear hr0_5 hc0_5;have HB:=ad_ (Below.refl w.heap.size w);have H : ((quarryref17_plain.f k a0_0 a0_1 a0_2 a0_3 l0_4 l0_5).bind fun t245=>(if t245 = true then (if a0_0 = 5 then (quarryref17_formed.j0 k a1 (a1 == 0) a0_0 a0_1 a0_2 a0_3 l0_4 l0_5) else (if a0_0 = 6 then (quarryref17_formed.j0 k a1 (a1 == 0) a0_0 a0_1 a0_2 a0_3 l0_4 l0_5) else (quarryref17_formed.j0 k a1 false a0_0 a0_1 a0_2 a0_3 l0_4 l0_5))) else (some false))) = some r:=h;clear h;replace H:=Option.bind_eq_some_iff.mp H;obtain ⟨t245,A30,H⟩:=H
 try dsimp only at H
 have A3:=ad_ A30;clear A30
 by_cases c4 : t245 = true
 ·subst c4
  rw [if_pos rfl] at H
  have HC5:=ad_ H;clear H;go_enter Tryd.func30,Tryd.ntmps30
  go_upto_region 3 with (first|((with_reducible refine gate_dst (N:=2) rfl ?_);refine box_event ?hg (N:=2) ?hd (cs:=#[.int .i64 a0_0,.bool a0_1,.string a0_2,.string a0_3,.slice A0_4 l0_4.length c0_4,.slice A0_5 l0_5.length c0_5]) (t:=25) ?hr ?_;(case hd=>rfl);(case hg=>rfl);(case hr=>first|(go_simp;done)|(go_simp;rfl));intro gb244 hg w6 hbox hb;have n_:=J_ (bw_ (hb_ HB) hb) (J_ (hbox) (J_ (bs_ hg HB) (ad_ (bs_ hg HB))));clear HB;obtain ⟨HB,BK244,GW244,GE244⟩:=n_;clear hb hbox hg;obtain ⟨hcz7_0,hcz7_1,hcz7_2,hcz7_3,hcz7_4,hcz7_5,hfz7_0,hfz7_1,hfz7_2,hfz7_3,hfz7_4,hfz7_5⟩:=cf6_ BK244)|((with_reducible refine gate_callee (f:=41) rfl ?_);refine goesL_ (some 7) rfl rfl Tryd.func41 (by kernel_rfl) rfl #[.agg #[.int .i64 a0_0,.bool a0_1,.string a0_2,.string a0_3,.slice A0_4 l0_4.length c0_4,.slice A0_5 l0_5.length c0_5]] rfl am_ ?_;(with_reducible refine (quarryref17_plain.calls k a0_0 a0_1 a0_2 a0_3 _ _ l0_4 _ _ l0_5 true _ ?side1 ?side2 ?side3 ?side4 A3.out).mono ?_);(case side1=>repeat (first|exact (cb_ HR0_4.out HB.out)|(with_reducible refine ca_ ?_ _)|(with_reducible refine kd_ ?_ _)|(with_reducible refine ke_ ?_)));(case side2=>exact HC0_4.out);(case side3=>repeat (first|exact (cb_ HR0_5.out HB.out)|(with_reducible refine ca_ ?_ _)|(with_reducible refine kd_ ?_ _)|(with_reducible refine ke_ ?_)));(case side4=>exact HC0_5.out);rintro e w8 ⟨rfl,hb⟩;refine ⟨_,rfl,?_⟩;have n_:=J_ (bkb_ BK244 hb) (ad_ (bw_ (hb_ HB) hb));clear BK244 HB;obtain ⟨BK244,HB⟩:=n_;(try clear hb);(try clear hb2);(try clear hk);(try clear hi)))
  (try simp only [Act.put,List.setIfInBounds_toArray,List.set_cons_zero,List.set_cons_succ])
  go_cut [20] (fun v20 wc=>∃ (kq : Nat) (x20_4 : Bool),v20 = .bool x20_4 ∧ Aside0 (quarryref17_formed.j0 kq a1 x20_4 a0_0 a0_1 a0_2 a0_3 l0_4 l0_5 = some r) ∧ Aside0 (kq ≤ k) ∧ Aside0 (wc.heap[gb244]? = some (.cells #[.int .i64 a0_0,.bool a0_1,.string a0_2,.string a0_3,(.slice A0_4 l0_4.length c0_4),(.slice A0_5 l0_5.length c0_5)] 25 (0,0))) ∧ Aside0 (Below w.heap.size w wc))
  case first =>
   have H:=HC5.out;clear HC5
   by_cases c9 : a0_0 = 5
   ·rw [if_pos c9] at H
    have c9b0 : (a0_0 == 5) = true:=beq_iff_eq.mpr c9;have c9b1 : (a0_0 != 5) = false:=bne_eq_false_iff_eq.mpr c9;clear c9
    (first|rw [c9b0]|(simp only [i64_w,i32_w];rw [c9b0])|skip)
    have H':=ad_ H;clear H;obtain ⟨hcz10_0,hcz10_1,hcz10_2,hcz10_3,hcz10_4,hcz10_5,hfz10_0,hfz10_1,hfz10_2,hfz10_3,hfz10_4,hfz10_5⟩:=cf6_ BK244;go_wp2
    go_meet
    case rel=>exact ⟨_,((a1 == 0)),rr_,(by first|exact H'|(subst_vars;exact H')),⟨by first|omega|exact Nat.le_refl _⟩,⟨(bk_ BK244)⟩,⟨(hb_ HB)⟩⟩
   rw [if_neg c9] at H
   have c9b0 : (a0_0 == 5) = false:=be_ c9;have c9b1 : (a0_0 != 5) = true:=bne_iff_ne.mpr c9
   (first|rw [c9b0]|(simp only [i64_w,i32_w];rw [c9b0])|skip)
   by_cases c11 : a0_0 = 6
   ·rw [if_pos c11] at H
    have c11b0 : (a0_0 == 6) = true:=beq_iff_eq.mpr c11;have c11b1 : (a0_0 != 6) = false:=bne_eq_false_iff_eq.mpr c11;clear c11;have H':=ad_ H;clear H;obtain ⟨hcz12_0,hcz12_1,hcz12_2,hcz12_3,hcz12_4,hcz12_5,hfz12_0,hfz12_1,hfz12_2,hfz12_3,hfz12_4,hfz12_5⟩:=cf6_ BK244;go_wp2
    go_meet
    case rel=>exact ⟨_,((a1 == 0)),rr_,(by first|exact H'|(subst_vars;exact H')),⟨by first|omega|exact Nat.le_refl _⟩,⟨(bk_ BK244)⟩,⟨(hb_ HB)⟩⟩
   rw [if_neg c11] at H
   have c11b0 : (a0_0 == 6) = false:=be_ c11;have c11b1 : (a0_0 != 6) = true:=bne_iff_ne.mpr c11;have H':=ad_ H;clear H;obtain ⟨hcz13_0,hcz13_1,hcz13_2,hcz13_3,hcz13_4,hcz13_5,hfz13_0,hfz13_1,hfz13_2,hfz13_3,hfz13_4,hfz13_5⟩:=cf6_ BK244;go_wp2
   go_meet
   case rel=>exact ⟨_,(false),rr_,(by first|exact H'|(subst_vars;exact H')),⟨by first|omega|exact Nat.le_refl _⟩,⟨(bk_ BK244)⟩,⟨(hb_ HB)⟩⟩
  case rest =>
   clear HC5;obtain ⟨kq,x20_4,rfl,HA,HJ4,BK244,HB⟩:=hcut
   cases kq with
   | zero=>exact absurd HA.out (by simp [quarryref17_formed.j0])
   | succ kj4 =>
    have H:=HA.out;clear HA
    simp only [quarryref17_formed.j0] at H
    by_cases c14 : x20_4 = true
    ·subst c14
     rw [if_pos rfl] at H
     obtain rfl:=si_ H;go_wp2
     go_ret;exact ⟨er_,(hb_ HB)⟩
    replace c14:=Bool.eq_false_iff.mpr c14;subst c14
    rw [if_neg (show ¬ (false = true) by decide)] at H
    have H':=ad_ H;clear H;go_wp2
    go_loopg [5] kj4 (fun kq v5 w'=>∃ (x5_2 : Int),v5 = .int .i64 x5_2 ∧ Aside0 (quarryref17_formed.l0 kq a1 x5_2 a0_0 a0_1 a0_2 a0_3 l0_4 l0_5 = some r) ∧ Aside0 (kq ≤ kj4) ∧ Aside0 (w'.heap[gb244]? = some (.cells #[.int .i64 a0_0,.bool a0_1,.string a0_2,.string a0_3,(.slice A0_4 l0_4.length c0_4),(.slice A0_5 l0_5.length c0_5)] 25 (0,0))) ∧ Aside0 (Below w.heap.size w w'))
    case atStart=>exact ⟨(0),rr_,H',⟨Nat.le_refl _⟩,⟨(bk_ BK244)⟩,⟨(hb_ HB)⟩⟩
    case round =>
     clear H'
     try clear BK244
     try clear HB
     obtain ⟨x5_2,rfl,HA,HK2,BK244,HB⟩:=hrel
     cases gk with
     | zero=>exact absurd HA.out (by simp [quarryref17_formed.l0])
     | succ k2 =>
      have H:=HA.out;clear HA
      simp only [quarryref17_formed.l0] at H
      by_cases c15 : x5_2 < (l0_5.length : Int)
      ·rw [if_pos c15] at H
       have c15b0 : decide (x5_2 < (l0_5.length : Int)) = true:=dt_ c15;clear c15
       by_cases c16 : 0 ≤ x5_2
       ·rw [if_pos c16] at H
        have c16b0 : decide (0 ≤ x5_2) = true:=dt_ c16;clear c16;replace H:=Option.bind_eq_some_iff.mp H;obtain ⟨t247,A170,H⟩:=H
        try dsimp only at H
        have A17:=ad_ A170;clear A170
        by_cases c18 : t247 = true
        ·subst c18
         rw [if_pos rfl] at H
         have H':=ad_ H;clear H;obtain ⟨hcz19_0,hcz19_1,hcz19_2,hcz19_3,hcz19_4,hcz19_5,hfz19_0,hfz19_1,hfz19_2,hfz19_3,hfz19_4,hfz19_5⟩:=cf6_ BK244;have p246 : 0 ≤ (x5_2 : Int):=od_ aa_;have q246 : x5_2 < (l0_5.length : Int):=od_ aa_;obtain ⟨ad246,A246_4,c246_4,A246_5,c246_5,e246,hx246_0,hx246_1,hx246_2,hx246_3,hx246_4,hx246_5,hl246_4,hi246_4,hl246_5,hi246_5⟩:=at_T25 HR0_5.out x5_2 p246 q246;cases e246;replace hx246_0:=(HB.out.cell (wb_ w _ hx246_0)).trans hx246_0;replace hx246_1:=(HB.out.cell (wb_ w _ hx246_1)).trans hx246_1;replace hx246_2:=(HB.out.cell (wb_ w _ hx246_2)).trans hx246_2;replace hx246_3:=(HB.out.cell (wb_ w _ hx246_3)).trans hx246_3;replace hx246_4:=(HB.out.cell (wb_ w _ hx246_4)).trans hx246_4;replace hx246_5:=(HB.out.cell (wb_ w _ hx246_5)).trans hx246_5;have HR246_4:=ad_ hi246_4;have HC246_4:=ad_ hl246_4;clear hi246_4 hl246_4;have HR246_5:=ad_ hi246_5;have HC246_5:=ad_ hl246_5;clear hi246_5 hl246_5;replace p246:=eq_true p246;replace q246:=eq_true q246
         go_wp2_with (first|((with_reducible refine gate_callee (f:=30) rfl ?_);refine goesL_ (some 35) rfl rfl Tryd.func30 (by kernel_rfl) rfl #[.agg #[.int .i64 ((rd_T25 l0_5 x5_2).f0),.bool ((rd_T25 l0_5 x5_2).f1),.string ((rd_T25 l0_5 x5_2).f2),.string ((rd_T25 l0_5 x5_2).f3),.slice A246_4 ((rd_T25 l0_5 x5_2).f4).length c246_4,.slice A246_5 ((rd_T25 l0_5 x5_2).f5).length c246_5],.int .i64 (wrap64 (a1 - 1))] rfl am_ ?_;(with_reducible refine (ih k2 (by have:=HJ4.out;have:=HK2.out;omega) ((rd_T25 l0_5 x5_2).f0) ((rd_T25 l0_5 x5_2).f1) ((rd_T25 l0_5 x5_2).f2) ((rd_T25 l0_5 x5_2).f3) _ _ ((rd_T25 l0_5 x5_2).f4) _ _ ((rd_T25 l0_5 x5_2).f5) (wrap64 (a1 - 1)) true _ ?side1 ?side2 ?side3 ?side4 A17.out).mono ?_);(case side1=>repeat (first|exact (cb_ HR246_4.out HB.out)|(with_reducible refine ca_ ?_ _)|(with_reducible refine kd_ ?_ _)|(with_reducible refine ke_ ?_)));(case side2=>exact HC246_4.out);(case side3=>repeat (first|exact (cb_ HR246_5.out HB.out)|(with_reducible refine ca_ ?_ _)|(with_reducible refine kd_ ?_ _)|(with_reducible refine ke_ ?_)));(case side4=>exact HC246_5.out);rintro e w20 ⟨rfl,hb⟩;refine ⟨_,rfl,?_⟩;have n_:=J_ (bkb_ BK244 hb) (ad_ (bw_ (hb_ HB) hb));clear BK244 HB;obtain ⟨BK244,HB⟩:=n_;(try clear hb);(try clear hb2);(try clear hk);(try clear hi)))
         go_roundg k2
         case measure=>have:=HJ4.out;have:=HK2.out;omega
         case rel=>exact ⟨(wrap64 (x5_2 + 1)),rr_,(by first|exact H'|(subst_vars;exact H')),⟨by have:=HJ4.out;have:=HK2.out;omega⟩,⟨(bk_ BK244)⟩,⟨(hb_ HB)⟩⟩
        replace c18:=Bool.eq_false_iff.mpr c18;subst c18
        rw [if_neg (show ¬ (false = true) by decide)] at H
        obtain rfl:=si_ H;obtain ⟨hcz21_0,hcz21_1,hcz21_2,hcz21_3,hcz21_4,hcz21_5,hfz21_0,hfz21_1,hfz21_2,hfz21_3,hfz21_4,hfz21_5⟩:=cf6_ BK244;have p246 : 0 ≤ (x5_2 : Int):=od_ aa_;have q246 : x5_2 < (l0_5.length : Int):=od_ aa_;obtain ⟨ad246,A246_4,c246_4,A246_5,c246_5,e246,hx246_0,hx246_1,hx246_2,hx246_3,hx246_4,hx246_5,hl246_4,hi246_4,hl246_5,hi246_5⟩:=at_T25 HR0_5.out x5_2 p246 q246;cases e246;replace hx246_0:=(HB.out.cell (wb_ w _ hx246_0)).trans hx246_0;replace hx246_1:=(HB.out.cell (wb_ w _ hx246_1)).trans hx246_1;replace hx246_2:=(HB.out.cell (wb_ w _ hx246_2)).trans hx246_2;replace hx246_3:=(HB.out.cell (wb_ w _ hx246_3)).trans hx246_3;replace hx246_4:=(HB.out.cell (wb_ w _ hx246_4)).trans hx246_4;replace hx246_5:=(HB.out.cell (wb_ w _ hx246_5)).trans hx246_5;have HR246_4:=ad_ hi246_4;have HC246_4:=ad_ hl246_4;clear hi246_4 hl246_4;have HR246_5:=ad_ hi246_5;have HC246_5:=ad_ hl246_5;clear hi246_5 hl246_5;replace p246:=eq_true p246;replace q246:=eq_true q246
        go_wp2_with (first|((with_reducible refine gate_callee (f:=30) rfl ?_);refine goesL_ (some 35) rfl rfl Tryd.func30 (by kernel_rfl) rfl #[.agg #[.int .i64 ((rd_T25 l0_5 x5_2).f0),.bool ((rd_T25 l0_5 x5_2).f1),.string ((rd_T25 l0_5 x5_2).f2),.string ((rd_T25 l0_5 x5_2).f3),.slice A246_4 ((rd_T25 l0_5 x5_2).f4).length c246_4,.slice A246_5 ((rd_T25 l0_5 x5_2).f5).length c246_5],.int .i64 (wrap64 (a1 - 1))] rfl am_ ?_;(with_reducible refine (ih k2 (by have:=HJ4.out;have:=HK2.out;omega) ((rd_T25 l0_5 x5_2).f0) ((rd_T25 l0_5 x5_2).f1) ((rd_T25 l0_5 x5_2).f2) ((rd_T25 l0_5 x5_2).f3) _ _ ((rd_T25 l0_5 x5_2).f4) _ _ ((rd_T25 l0_5 x5_2).f5) (wrap64 (a1 - 1)) false _ ?side1 ?side2 ?side3 ?side4 A17.out).mono ?_);(case side1=>repeat (first|exact (cb_ HR246_4.out HB.out)|(with_reducible refine ca_ ?_ _)|(with_reducible refine kd_ ?_ _)|(with_reducible refine ke_ ?_)));(case side2=>exact HC246_4.out);(case side3=>repeat (first|exact (cb_ HR246_5.out HB.out)|(with_reducible refine ca_ ?_ _)|(with_reducible refine kd_ ?_ _)|(with_reducible refine ke_ ?_)));(case side4=>exact HC246_5.out);rintro e w22 ⟨rfl,hb⟩;refine ⟨_,rfl,?_⟩;have n_:=J_ (bkb_ BK244 hb) (ad_ (bw_ (hb_ HB) hb));clear BK244 HB;obtain ⟨BK244,HB⟩:=n_;(try clear hb);(try clear hb2);(try clear hk);(try clear hi)))
        go_ret;exact ⟨er_,(hb_ HB)⟩
       rw [if_neg c16] at H
       exact absurd H (by simp)
      rw [if_neg c15] at H
      have c15b0 : decide (x5_2 < (l0_5.length : Int)) = false:=df_ c15;clear c15;obtain rfl:=si_ H;obtain ⟨hcz23_0,hcz23_1,hcz23_2,hcz23_3,hcz23_4,hcz23_5,hfz23_0,hfz23_1,hfz23_2,hfz23_3,hfz23_4,hfz23_5⟩:=cf6_ BK244;go_wp2
      go_ret;exact ⟨er_,(hb_ HB)⟩
 replace c4:=Bool.eq_false_iff.mpr c4;subst c4
 rw [if_neg (show ¬ (false = true) by decide)] at H
 obtain rfl:=si_ H;go_enter Tryd.func30,Tryd.ntmps30
 go_wp2_with (first|((with_reducible refine gate_dst (N:=2) rfl ?_);refine box_event ?hg (N:=2) ?hd (cs:=#[.int .i64 a0_0,.bool a0_1,.string a0_2,.string a0_3,.slice A0_4 l0_4.length c0_4,.slice A0_5 l0_5.length c0_5]) (t:=25) ?hr ?_;(case hd=>rfl);(case hg=>rfl);(case hr=>first|(go_simp;done)|(go_simp;rfl));intro gb244 hg w24 hbox hb;have n_:=J_ (bw_ (hb_ HB) hb) (J_ (hbox) (J_ (bs_ hg HB) (ad_ (bs_ hg HB))));clear HB;obtain ⟨HB,BK244,GW244,GE244⟩:=n_;clear hb hbox hg;obtain ⟨hcz25_0,hcz25_1,hcz25_2,hcz25_3,hcz25_4,hcz25_5,hfz25_0,hfz25_1,hfz25_2,hfz25_3,hfz25_4,hfz25_5⟩:=cf6_ BK244)|((with_reducible refine gate_callee (f:=41) rfl ?_);refine goesL_ (some 7) rfl rfl Tryd.func41 (by kernel_rfl) rfl #[.agg #[.int .i64 a0_0,.bool a0_1,.string a0_2,.string a0_3,.slice A0_4 l0_4.length c0_4,.slice A0_5 l0_5.length c0_5]] rfl am_ ?_;(with_reducible refine (quarryref17_plain.calls k a0_0 a0_1 a0_2 a0_3 _ _ l0_4 _ _ l0_5 false _ ?side1 ?side2 ?side3 ?side4 A3.out).mono ?_);(case side1=>repeat (first|exact (cb_ HR0_4.out HB.out)|(with_reducible refine ca_ ?_ _)|(with_reducible refine kd_ ?_ _)|(with_reducible refine ke_ ?_)));(case side2=>exact HC0_4.out);(case side3=>repeat (first|exact (cb_ HR0_5.out HB.out)|(with_reducible refine ca_ ?_ _)|(with_reducible refine kd_ ?_ _)|(with_reducible refine ke_ ?_)));(case side4=>exact HC0_5.out);rintro e w26 ⟨rfl,hb⟩;refine ⟨_,rfl,?_⟩;have n_:=J_ (bkb_ BK244 hb) (ad_ (bw_ (hb_ HB) hb));clear BK244 HB;obtain ⟨BK244,HB⟩:=n_;(try clear hb);(try clear hb2);(try clear hk);(try clear hi)))
 go_ret;exact ⟨er_,(hb_ HB)⟩
def quarryref17_Formed.f (k : Nat) (a0_0 : Int) (a0_1 : Bool) (a0_2 : ByteArray) (a0_3 : ByteArray) (l0_4 : List ByteArray) (l0_5 : List (S25)) : Option (Bool):=(quarryref17_formed.f k a0_0 a0_1 a0_2 a0_3 l0_4 l0_5 1024).bind fun t249=>(some t249)
set_option maxHeartbeats 8000000 in
set_option maxRecDepth 100000 in
theorem quarryref17_Formed.calls (k : Nat) (a0_0 : Int) (a0_1 : Bool) (a0_2 : ByteArray) (a0_3 : ByteArray) (A0_4 : Option Addr) (c0_4 : Nat) (l0_4 : List ByteArray) (A0_5 : Option Addr) (c0_5 : Nat) (l0_5 : List (S25)) (r : Bool) (w : World) (hr0_4 : Kd.C Kd.string w A0_4 l0_4.length l0_4) (hc0_4 : l0_4.length ≤ c0_4) (hr0_5 : Kd.C k25 w A0_5 l0_5.length l0_5) (hc0_5 : l0_5.length ≤ c0_5) (h : quarryref17_Formed.f k a0_0 a0_1 a0_2 a0_3 l0_4 l0_5 = some r) :
  Calls Tryd.prog 19 #[.agg #[.int .i64 a0_0,.bool a0_1,.string a0_2,.string a0_3,.slice A0_4 l0_4.length c0_4,.slice A0_5 l0_5.length c0_5]] w fun e w'=>e = .returned (.bool r) ∧ Below w.heap.size w w':=by
 have hu25:=Tryd.underlying25;have HR0_4:=ad_ hr0_4;have HC0_4:=ad_ hc0_4;clear hr0_4 hc0_4;have HR0_5:=ad_ hr0_5;have HC0_5:=ad_ hc0_5;clear hr0_5 hc0_5;have HB:=ad_ (Below.refl w.heap.size w);have H : ((quarryref17_formed.f k a0_0 a0_1 a0_2 a0_3 l0_4 l0_5 1024).bind fun t249=>(some t249)) = some r:=h;clear h;replace H:=Option.bind_eq_some_iff.mp H;obtain ⟨t249,A20,H⟩:=H
 try dsimp only at H
 have A2:=ad_ A20;clear A20;obtain rfl:=si_ H;go_enter Tryd.func19,Tryd.ntmps19
 go_wp2_with (first|((with_reducible refine gate_dst (N:=1) rfl ?_);refine box_event ?hg (N:=1) ?hd (cs:=#[.int .i64 a0_0,.bool a0_1,.string a0_2,.string a0_3,.slice A0_4 l0_4.length c0_4,.slice A0_5 l0_5.length c0_5]) (t:=25) ?hr ?_;(case hd=>rfl);(case hg=>rfl);(case hr=>first|(go_simp;done)|(go_simp;rfl));intro gb248 hg w3 hbox hb;have n_:=J_ (bw_ (hb_ HB) hb) (J_ (hbox) (J_ (bs_ hg HB) (ad_ (bs_ hg HB))));clear HB;obtain ⟨HB,BK248,GW248,GE248⟩:=n_;clear hb hbox hg;obtain ⟨hcz4_0,hcz4_1,hcz4_2,hcz4_3,hcz4_4,hcz4_5,hfz4_0,hfz4_1,hfz4_2,hfz4_3,hfz4_4,hfz4_5⟩:=cf6_ BK248)|((with_reducible refine gate_callee (f:=30) rfl ?_);refine goesL_ (some 4) rfl rfl Tryd.func30 (by kernel_rfl) rfl #[.agg #[.int .i64 a0_0,.bool a0_1,.string a0_2,.string a0_3,.slice A0_4 l0_4.length c0_4,.slice A0_5 l0_5.length c0_5],.int .i64 1024] rfl am_ ?_;(with_reducible refine (quarryref17_formed.calls k a0_0 a0_1 a0_2 a0_3 _ _ l0_4 _ _ l0_5 1024 t249 _ ?side1 ?side2 ?side3 ?side4 A2.out).mono ?_);(case side1=>repeat (first|exact (cb_ HR0_4.out HB.out)|(with_reducible refine ca_ ?_ _)|(with_reducible refine kd_ ?_ _)|(with_reducible refine ke_ ?_)));(case side2=>exact HC0_4.out);(case side3=>repeat (first|exact (cb_ HR0_5.out HB.out)|(with_reducible refine ca_ ?_ _)|(with_reducible refine kd_ ?_ _)|(with_reducible refine ke_ ?_)));(case side4=>exact HC0_5.out);rintro e w5 ⟨rfl,hb⟩;refine ⟨_,rfl,?_⟩;have n_:=J_ (bkb_ BK248 hb) (ad_ (bw_ (hb_ HB) hb));clear BK248 HB;obtain ⟨BK248,HB⟩:=n_;(try clear hb);(try clear hb2);(try clear hk);(try clear hi)))
 go_ret;exact ⟨er_,(hb_ HB)⟩
def quarryref11_Formed.l0 : Nat → Int → Bool → ByteArray → Int → Option (Bool)
 | 0,_,_,_,_=>none
 | k + 1,x3,x251000,x251001,x251002=>if x3 < (x251001.size : Int) then ((quarryref11_digit.f x251001 x3).bind fun t251=>(if t251 = true then (quarryref11_Formed.l0 k (wrap64 (x3 + 1)) x251000 x251001 x251002) else (some false))) else (if (x251001.size : Int) = 0 then (some (x251002 == 0)) else (if 0 < (x251001.size : Int) then (if (bt x251001 0) = 48 then (some false) else (if 0 ≤ (wrap64 ((x251001.size : Int) - 1)) then (if (wrap64 ((x251001.size : Int) - 1)) < (x251001.size : Int) then (if (bt x251001 (wrap64 ((x251001.size : Int) - 1))) = 48 then (some false) else (if x251002 ≥ (-1073741824) then (some (decide (x251002 ≤ 1073741824))) else (some false))) else (none)) else (none))) else (none)))
def quarryref11_Formed.f (k : Nat) (a0_0 : Bool) (a0_1 : ByteArray) (a0_2 : Int) : Option (Bool):=quarryref11_Formed.l0 k 0 a0_0 a0_1 a0_2
theorem quarryref11_Formed.mono_l : ∀ k,(∀ y0 y1 y2 y3,LeO (quarryref11_Formed.l0 k y0 y1 y2 y3) (quarryref11_Formed.l0 (k + 1) y0 y1 y2 y3))
 | 0=>fun _ _ _ _ r h=>by simp [quarryref11_Formed.l0] at h
 | k + 1=>by
  have ih0:=quarryref11_Formed.mono_l k;intro y0 y1 y2 y3
  unfold quarryref11_Formed.l0
  repeat' first
  | (with_reducible exact ih0 _ _ _ _)
  | (with_reducible exact LeO.refl _)
  | (with_reducible exact LeO.none _)
  | (with_reducible refine LeO.ite ?_ ?_)
  | (with_reducible refine LeO.bind ?_ (fun _=>?_))
  | exact ih0 _ _ _ _
  | exact LeO.none _
  | refine LeO.ite ?_ ?_
  | refine LeO.bind ?_ (fun _=>?_)
theorem quarryref11_Formed.mono : ∀ a0 a1 a2 k,LeO (quarryref11_Formed.f k a0 a1 a2) (quarryref11_Formed.f (k + 1) a0 a1 a2):=by
 intro a0 a1 a2 k;have ih0:=quarryref11_Formed.mono_l k
 unfold quarryref11_Formed.f
 repeat' first
   | (with_reducible exact ih0 _ _ _ _)
   | (with_reducible exact LeO.refl _)
   | (with_reducible exact LeO.none _)
   | (with_reducible refine LeO.ite ?_ ?_)
   | (with_reducible refine LeO.bind ?_ (fun _=>?_))
   | exact ih0 _ _ _ _
   | exact LeO.none _
   | refine LeO.ite ?_ ?_
   | refine LeO.bind ?_ (fun _=>?_)
set_option maxHeartbeats 8000000 in
set_option maxRecDepth 100000 in
theorem quarryref11_Formed.calls (k : Nat) (a0_0 : Bool) (a0_1 : ByteArray) (a0_2 : Int) (r : Bool) (w : World) (h : quarryref11_Formed.f k a0_0 a0_1 a0_2 = some r) :
  Calls Tryd.prog 43 #[.agg #[.bool a0_0,.string a0_1,.int .i64 a0_2]] w fun e w'=>e = .returned (.bool r) ∧ Below w.heap.size w w':=by
 have hu48:=Tryd.underlying48;have HB:=ad_ (Below.refl w.heap.size w);have H : (quarryref11_Formed.l0 k 0 a0_0 a0_1 a0_2) = some r:=h;clear h;have H':=ad_ H;clear H;go_enter Tryd.func43,Tryd.ntmps43
 go_wp2_with (first|((with_reducible refine gate_dst (N:=1) rfl ?_);(try (refine gate_guard (by rfl) ?_;dsimp only));refine box_event ?hg (N:=1) ?hd (cs:=#[.bool a0_0,.string a0_1,.int .i64 a0_2]) (t:=48) ?hr ?_;(case hd=>rfl);(case hg=>rfl);(case hr=>first|(go_simp;done)|(go_simp;rfl));intro gb250 hg w2 hbox hb;have n_:=J_ (bw_ (hb_ HB) hb) (J_ (hbox) (J_ (bs_ hg HB) (ad_ (bs_ hg HB))));clear HB;obtain ⟨HB,BK250,GW250,GE250⟩:=n_;clear hb hbox hg))
 go_loopg [3] k (fun kq v3 w'=>∃ (x3_1 : Int),v3 = .int .i64 x3_1 ∧ Aside0 (quarryref11_Formed.l0 kq x3_1 a0_0 a0_1 a0_2 = some r) ∧ Aside0 (kq ≤ k) ∧ Aside0 (w'.heap[gb250]? = some (.cells #[.bool a0_0,.string a0_1,.int .i64 a0_2] 48 (0,0))) ∧ Aside0 (Below w.heap.size w w'))
 case atStart=>exact ⟨(0),rr_,H',⟨Nat.le_refl _⟩,⟨(bk_ BK250)⟩,⟨(hb_ HB)⟩⟩
 case round =>
  clear H'
  try clear BK250
  try clear HB
  obtain ⟨x3_1,rfl,HA,HK1,BK250,HB⟩:=hrel
  cases gk with
  | zero=>exact absurd HA.out (by simp [quarryref11_Formed.l0])
  | succ k1 =>
   have H:=HA.out;clear HA
   simp only [quarryref11_Formed.l0] at H
   by_cases c3 : x3_1 < (a0_1.size : Int)
   ·rw [if_pos c3] at H
    have c3b0 : decide (x3_1 < (a0_1.size : Int)) = true:=dt_ c3;clear c3;replace H:=Option.bind_eq_some_iff.mp H;obtain ⟨t251,A40,H⟩:=H
    try dsimp only at H
    have A4:=ad_ A40;clear A40
    by_cases c5 : t251 = true
    ·subst c5
     rw [if_pos rfl] at H
     have H':=ad_ H;clear H;obtain ⟨hcz6_0,hcz6_1,hcz6_2,hfz6_0,hfz6_1,hfz6_2⟩:=cf3_ BK250
     go_wp2_with (first|((with_reducible refine gate_callee (f:=64) rfl ?_);refine goesL_ (some 14) rfl rfl Tryd.func64 (by kernel_rfl) rfl #[.string a0_1,.int .i64 x3_1] rfl am_ ?_;(with_reducible refine (quarryref11_digit.calls a0_1 x3_1 true _ A4.out).mono ?_);rintro e w' ⟨rfl,⟨nd,rfl⟩⟩;refine ⟨_,rfl,?_⟩))
     go_roundg k1
     case measure=>have:=HK1.out;omega
     case rel=>exact ⟨(wrap64 (x3_1 + 1)),rr_,(by first|exact H'|(subst_vars;exact H')),⟨by have:=HK1.out;omega⟩,⟨(bk_ BK250)⟩,⟨(hb_ HB)⟩⟩
    replace c5:=Bool.eq_false_iff.mpr c5;subst c5
    rw [if_neg (show ¬ (false = true) by decide)] at H
    obtain rfl:=si_ H;obtain ⟨hcz7_0,hcz7_1,hcz7_2,hfz7_0,hfz7_1,hfz7_2⟩:=cf3_ BK250
    go_wp2_with (first|((with_reducible refine gate_callee (f:=64) rfl ?_);refine goesL_ (some 14) rfl rfl Tryd.func64 (by kernel_rfl) rfl #[.string a0_1,.int .i64 x3_1] rfl am_ ?_;(with_reducible refine (quarryref11_digit.calls a0_1 x3_1 false _ A4.out).mono ?_);rintro e w' ⟨rfl,⟨nd,rfl⟩⟩;refine ⟨_,rfl,?_⟩))
    go_ret;exact ⟨er_,(hb_ HB)⟩
   rw [if_neg c3] at H
   have c3b0 : decide (x3_1 < (a0_1.size : Int)) = false:=df_ c3;clear c3
   by_cases c8 : (a0_1.size : Int) = 0
   ·rw [if_pos c8] at H
    have c8b0 : ((a0_1.size : Int) == 0) = true:=beq_iff_eq.mpr c8;have c8b1 : ((a0_1.size : Int) != 0) = false:=bne_eq_false_iff_eq.mpr c8;clear c8;obtain rfl:=si_ H;obtain ⟨hcz9_0,hcz9_1,hcz9_2,hfz9_0,hfz9_1,hfz9_2⟩:=cf3_ BK250;go_wp2
    go_ret;exact ⟨er_,(hb_ HB)⟩
   rw [if_neg c8] at H
   have c8b0 : ((a0_1.size : Int) == 0) = false:=be_ c8;have c8b1 : ((a0_1.size : Int) != 0) = true:=bne_iff_ne.mpr c8
   by_cases c10 : 0 < (a0_1.size : Int)
   ·rw [if_pos c10] at H
    have c10b0 : decide (0 < (a0_1.size : Int)) = true:=dt_ c10;have c10b1 : decide (0 < a0_1.size) = true:=dt_ (by omega);clear c10
    by_cases c12 : (bt a0_1 0) = 48
    ·rw [if_pos c12] at H
     have c12b0 : ((bt a0_1 0) == 48) = true:=beq_iff_eq.mpr c12;have c12b1 : ((bt a0_1 0) != 48) = false:=bne_eq_false_iff_eq.mpr c12;clear c12;obtain rfl:=si_ H;obtain ⟨hcz13_0,hcz13_1,hcz13_2,hfz13_0,hfz13_1,hfz13_2⟩:=cf3_ BK250;have p11 : 0 ≤ (0 : Int):=(by omega);have q11 : 0 < a0_1.size:=(by have : (0 : Int) < (a0_1.size : Int):=od_ aa_;omega)
     have hx11 : ∀ h : 0 < a0_1.size,((a0_1[0]'h).toNat : Int) = bt a0_1 0:=bt_at a0_1 0
     clear p11;have qi11 : (0 < (a0_1.size : Int)) = True:=eq_true (od_ aa_);replace q11:=eq_true q11;go_wp2
     go_ret;exact ⟨er_,(hb_ HB)⟩
    rw [if_neg c12] at H
    have c12b0 : ((bt a0_1 0) == 48) = false:=be_ c12;have c12b1 : ((bt a0_1 0) != 48) = true:=bne_iff_ne.mpr c12
    obtain ⟨ji14,hji14⟩ : ∃ j_ : Int,(wrap64 ((a0_1.size : Int) - 1)) = j_:=⟨_,rfl⟩
    replace H : (if 0 ≤ (ji14) then (if (ji14) < (a0_1.size : Int) then (if (bt a0_1 (ji14)) = 48 then (some false) else (if a0_2 ≥ (-1073741824) then (some (decide (a0_2 ≤ 1073741824))) else (some false))) else (none)) else (none)) = some r:=by first|(rw [hji14] at H;exact H)|(simp only [hji14] at H ⊢;exact H)
    have hji14w : (IntKind.i64.wrap ((a0_1.size : Int) - 1)) = ji14:=(i64_w _).trans hji14
    by_cases c15 : 0 ≤ (ji14)
    ·rw [if_pos c15] at H
     have c15b0 : decide (0 ≤ (ji14)) = true:=dt_ c15;clear c15
     by_cases c16 : (ji14) < (a0_1.size : Int)
     ·rw [if_pos c16] at H
      have c16b0 : decide ((ji14) < (a0_1.size : Int)) = true:=dt_ c16;clear c16
      by_cases c18 : (bt a0_1 (ji14)) = 48
      ·rw [if_pos c18] at H
       have c18b0 : ((bt a0_1 (ji14)) == 48) = true:=beq_iff_eq.mpr c18;have c18b1 : ((bt a0_1 (ji14)) != 48) = false:=bne_eq_false_iff_eq.mpr c18;clear c18;obtain rfl:=si_ H;obtain ⟨hcz19_0,hcz19_1,hcz19_2,hfz19_0,hfz19_1,hfz19_2⟩:=cf3_ BK250;have p11 : 0 ≤ (0 : Int):=(by omega);have q11 : 0 < a0_1.size:=(by have : (0 : Int) < (a0_1.size : Int):=od_ aa_;omega)
       have hx11 : ∀ h : 0 < a0_1.size,((a0_1[0]'h).toNat : Int) = bt a0_1 0:=bt_at a0_1 0
       clear p11;have qi11 : (0 < (a0_1.size : Int)) = True:=eq_true (od_ aa_);replace q11:=eq_true q11;have p17 : 0 ≤ ((ji14) : Int):=od_ aa_;have q17 : (ji14) < (a0_1.size : Int):=od_ aa_;have hx17:=bt_at a0_1 (ji14);replace p17:=eq_true p17;replace q17:=eq_true q17;go_wp2
       go_ret;exact ⟨by first|rfl|(simp [errW_none,errW_some] <;> rfl)|(simp only [← hji14];first|rfl|(simp [errW_none,errW_some] <;> rfl))|(simp [*,errW_none,errW_some] <;> rfl),(hb_ HB)⟩
      rw [if_neg c18] at H
      have c18b0 : ((bt a0_1 (ji14)) == 48) = false:=be_ c18;have c18b1 : ((bt a0_1 (ji14)) != 48) = true:=bne_iff_ne.mpr c18
      by_cases c20 : a0_2 ≥ (-1073741824)
      ·rw [if_pos c20] at H
       have c20b0 : decide ((-1073741824) ≤ a0_2) = true:=dt_ c20;clear c20;obtain rfl:=si_ H;obtain ⟨hcz21_0,hcz21_1,hcz21_2,hfz21_0,hfz21_1,hfz21_2⟩:=cf3_ BK250;have p11 : 0 ≤ (0 : Int):=(by omega);have q11 : 0 < a0_1.size:=(by have : (0 : Int) < (a0_1.size : Int):=od_ aa_;omega)
       have hx11 : ∀ h : 0 < a0_1.size,((a0_1[0]'h).toNat : Int) = bt a0_1 0:=bt_at a0_1 0
       clear p11;have qi11 : (0 < (a0_1.size : Int)) = True:=eq_true (od_ aa_);replace q11:=eq_true q11;have p17 : 0 ≤ ((ji14) : Int):=od_ aa_;have q17 : (ji14) < (a0_1.size : Int):=od_ aa_;have hx17:=bt_at a0_1 (ji14);replace p17:=eq_true p17;replace q17:=eq_true q17;go_wp2
       go_ret;exact ⟨by first|rfl|(simp [errW_none,errW_some] <;> rfl)|(simp only [← hji14];first|rfl|(simp [errW_none,errW_some] <;> rfl))|(simp [*,errW_none,errW_some] <;> rfl),(hb_ HB)⟩
      rw [if_neg c20] at H
      have c20b0 : decide ((-1073741824) ≤ a0_2) = false:=df_ c20;clear c20;obtain rfl:=si_ H;obtain ⟨hcz22_0,hcz22_1,hcz22_2,hfz22_0,hfz22_1,hfz22_2⟩:=cf3_ BK250;have p11 : 0 ≤ (0 : Int):=(by omega);have q11 : 0 < a0_1.size:=(by have : (0 : Int) < (a0_1.size : Int):=od_ aa_;omega)
      have hx11 : ∀ h : 0 < a0_1.size,((a0_1[0]'h).toNat : Int) = bt a0_1 0:=bt_at a0_1 0
      clear p11;have qi11 : (0 < (a0_1.size : Int)) = True:=eq_true (od_ aa_);replace q11:=eq_true q11;have p17 : 0 ≤ ((ji14) : Int):=od_ aa_;have q17 : (ji14) < (a0_1.size : Int):=od_ aa_;have hx17:=bt_at a0_1 (ji14);replace p17:=eq_true p17;replace q17:=eq_true q17;go_wp2
      go_ret;exact ⟨by first|rfl|(simp [errW_none,errW_some] <;> rfl)|(simp only [← hji14];first|rfl|(simp [errW_none,errW_some] <;> rfl))|(simp [*,errW_none,errW_some] <;> rfl),(hb_ HB)⟩
     rw [if_neg c16] at H
     exact absurd H (by simp)
    rw [if_neg c15] at H
    exact absurd H (by simp)
   rw [if_neg c10] at H
   exact absurd H (by simp)
def quarryref11_sign.f (a0_0 : Bool) (a0_1 : ByteArray) (a0_2 : Int) : Option (Int):=if (a0_1.size : Int) = 0 then (some 0) else (if a0_0 = true then (some (-1)) else (some 1))
set_option maxHeartbeats 8000000 in
set_option maxRecDepth 100000 in
theorem quarryref11_sign.calls (a0_0 : Bool) (a0_1 : ByteArray) (a0_2 : Int) (r : Int) (w : World) (h : quarryref11_sign.f a0_0 a0_1 a0_2 = some r) :
  Calls Tryd.prog 44 #[.agg #[.bool a0_0,.string a0_1,.int .i64 a0_2]] w fun e w'=>e = .returned (.int .i64 r) ∧ Below w.heap.size w w':=by
 have hu48:=Tryd.underlying48;have HB:=ad_ (Below.refl w.heap.size w);have H : (if (a0_1.size : Int) = 0 then (some 0) else (if a0_0 = true then (some (-1)) else (some 1))) = some r:=h;clear h
 by_cases c2 : (a0_1.size : Int) = 0
 ·rw [if_pos c2] at H
  have c2b0 : ((a0_1.size : Int) == 0) = true:=beq_iff_eq.mpr c2;have c2b1 : ((a0_1.size : Int) != 0) = false:=bne_eq_false_iff_eq.mpr c2;clear c2;obtain rfl:=si_ H;go_enter Tryd.func44,Tryd.ntmps44
  go_wp2_with (first|((with_reducible refine gate_dst (N:=1) rfl ?_);refine box_event ?hg (N:=1) ?hd (cs:=#[.bool a0_0,.string a0_1,.int .i64 a0_2]) (t:=48) ?hr ?_;(case hd=>rfl);(case hg=>rfl);(case hr=>first|(go_simp;done)|(go_simp;rfl));intro gb252 hg w3 hbox hb;have n_:=J_ (bw_ (hb_ HB) hb) (J_ (hbox) (J_ (bs_ hg HB) (ad_ (bs_ hg HB))));clear HB;obtain ⟨HB,BK252,GW252,GE252⟩:=n_;clear hb hbox hg;obtain ⟨hcz4_0,hcz4_1,hcz4_2,hfz4_0,hfz4_1,hfz4_2⟩:=cf3_ BK252))
  go_ret;exact ⟨er_,(hb_ HB)⟩
 rw [if_neg c2] at H
 have c2b0 : ((a0_1.size : Int) == 0) = false:=be_ c2;have c2b1 : ((a0_1.size : Int) != 0) = true:=bne_iff_ne.mpr c2
 by_cases c5 : a0_0 = true
 ·subst c5
  rw [if_pos rfl] at H
  obtain rfl:=si_ H;go_enter Tryd.func44,Tryd.ntmps44
  go_wp2_with (first|((with_reducible refine gate_dst (N:=1) rfl ?_);refine box_event ?hg (N:=1) ?hd (cs:=#[.bool true,.string a0_1,.int .i64 a0_2]) (t:=48) ?hr ?_;(case hd=>rfl);(case hg=>rfl);(case hr=>first|(go_simp;done)|(go_simp;rfl));intro gb252 hg w6 hbox hb;have n_:=J_ (bw_ (hb_ HB) hb) (J_ (hbox) (J_ (bs_ hg HB) (ad_ (bs_ hg HB))));clear HB;obtain ⟨HB,BK252,GW252,GE252⟩:=n_;clear hb hbox hg;obtain ⟨hcz7_0,hcz7_1,hcz7_2,hfz7_0,hfz7_1,hfz7_2⟩:=cf3_ BK252))
  go_ret;exact ⟨er_,(hb_ HB)⟩
 replace c5:=Bool.eq_false_iff.mpr c5;subst c5
 rw [if_neg (show ¬ (false = true) by decide)] at H
 obtain rfl:=si_ H;go_enter Tryd.func44,Tryd.ntmps44
 go_wp2_with (first|((with_reducible refine gate_dst (N:=1) rfl ?_);refine box_event ?hg (N:=1) ?hd (cs:=#[.bool false,.string a0_1,.int .i64 a0_2]) (t:=48) ?hr ?_;(case hd=>rfl);(case hg=>rfl);(case hr=>first|(go_simp;done)|(go_simp;rfl));intro gb252 hg w8 hbox hb;have n_:=J_ (bw_ (hb_ HB) hb) (J_ (hbox) (J_ (bs_ hg HB) (ad_ (bs_ hg HB))));clear HB;obtain ⟨HB,BK252,GW252,GE252⟩:=n_;clear hb hbox hg;obtain ⟨hcz9_0,hcz9_1,hcz9_2,hfz9_0,hfz9_1,hfz9_2⟩:=cf3_ BK252))
 go_ret;exact ⟨er_,(hb_ HB)⟩
def quarryref11_above.f (a0_0 : Bool) (a0_1 : ByteArray) (a0_2 : Int) (a1_0 : Bool) (a1_1 : ByteArray) (a1_2 : Int) : Option (Bool):=if (wrap64 ((a0_1.size : Int) + a0_2)) = (wrap64 ((a1_1.size : Int) + a1_2)) then (some (Op.bytesLess a1_1.toList a0_1.toList)) else (some (decide ((wrap64 ((a0_1.size : Int) + a0_2)) > (wrap64 ((a1_1.size : Int) + a1_2)))))
set_option maxHeartbeats 8000000 in
set_option maxRecDepth 100000 in
theorem quarryref11_above.calls (a0_0 : Bool) (a0_1 : ByteArray) (a0_2 : Int) (a1_0 : Bool) (a1_1 : ByteArray) (a1_2 : Int) (r : Bool) (w : World) (h : quarryref11_above.f a0_0 a0_1 a0_2 a1_0 a1_1 a1_2 = some r) :
  Calls Tryd.prog 45 #[.agg #[.bool a0_0,.string a0_1,.int .i64 a0_2],.agg #[.bool a1_0,.string a1_1,.int .i64 a1_2]] w fun e w'=>e = .returned (.bool r) ∧ Below w.heap.size w w':=by
 have hu48:=Tryd.underlying48;have HB:=ad_ (Below.refl w.heap.size w);have H : (if (wrap64 ((a0_1.size : Int) + a0_2)) = (wrap64 ((a1_1.size : Int) + a1_2)) then (some (Op.bytesLess a1_1.toList a0_1.toList)) else (some (decide ((wrap64 ((a0_1.size : Int) + a0_2)) > (wrap64 ((a1_1.size : Int) + a1_2)))))) = some r:=h;clear h
 by_cases c3 : (wrap64 ((a0_1.size : Int) + a0_2)) = (wrap64 ((a1_1.size : Int) + a1_2))
 ·rw [if_pos c3] at H
  have c3b0 : ((wrap64 ((a0_1.size : Int) + a0_2)) == (wrap64 ((a1_1.size : Int) + a1_2))) = true:=beq_iff_eq.mpr c3;have c3b1 : ((wrap64 ((a0_1.size : Int) + a0_2)) != (wrap64 ((a1_1.size : Int) + a1_2))) = false:=bne_eq_false_iff_eq.mpr c3;clear c3;obtain rfl:=si_ H;go_enter Tryd.func45,Tryd.ntmps45
  go_wp2_with (first|((with_reducible refine gate_dst (N:=2) rfl ?_);refine box_event ?hg (N:=2) ?hd (cs:=#[.bool a0_0,.string a0_1,.int .i64 a0_2]) (t:=48) ?hr ?_;(case hd=>rfl);(case hg=>rfl);(case hr=>first|(go_simp;done)|(go_simp;rfl));intro gb253 hg w4 hbox hb;have n_:=J_ (bw_ (hb_ HB) hb) (J_ (hbox) (J_ (bs_ hg HB) (ad_ (bs_ hg HB))));clear HB;obtain ⟨HB,BK253,GW253,GE253⟩:=n_;clear hb hbox hg)|((with_reducible refine gate_dst (N:=3) rfl ?_);refine box_event ?hg (N:=3) ?hd (cs:=#[.bool a1_0,.string a1_1,.int .i64 a1_2]) (t:=48) ?hr ?_;(case hd=>rfl);(case hg=>rfl);(case hr=>first|(go_simp;done)|(go_simp;rfl));intro gb254 hg w5 hbox hb;have n_:=J_ (bkb_ BK253 hb) (J_ (bw_ (hb_ HB) hb) (J_ (hbox) (J_ (bs_ hg HB) (J_ (bs_ hg HB) (J_ ((by rw [hg];exact Nat.ne_of_lt (bkl_ BK253) : gb253 ≠ gb254)) (ad_ ((by rw [hg];exact Nat.ne_of_gt (bkl_ BK253) : gb254 ≠ gb253))))))));clear BK253 HB;obtain ⟨BK253,HB,BK254,GW254,GE254,NB253_254,NB254_253⟩:=n_;clear hb hbox hg;have hnb6:=NB253_254.out;have hnc6:=NB254_253.out;obtain ⟨hcz7_0,hcz7_1,hcz7_2,hfz7_0,hfz7_1,hfz7_2⟩:=cf3_ BK253;obtain ⟨hcz8_0,hcz8_1,hcz8_2,hfz8_0,hfz8_1,hfz8_2⟩:=cf3_ BK254))
  repeat (go_quiet (first|((with_reducible refine gate_dst (N:=2) rfl ?_);refine box_event ?hg (N:=2) ?hd (cs:=#[.bool a0_0,.string a0_1,.int .i64 a0_2]) (t:=48) ?hr ?_;(case hd=>rfl);(case hg=>rfl);(case hr=>first|(go_simp;done)|(go_simp;rfl));intro gb253 hg w4 hbox hb;have n_:=J_ (bw_ (hb_ HB) hb) (J_ (hbox) (J_ (bs_ hg HB) (ad_ (bs_ hg HB))));clear HB;obtain ⟨HB,BK253,GW253,GE253⟩:=n_;clear hb hbox hg)|((with_reducible refine gate_dst (N:=3) rfl ?_);refine box_event ?hg (N:=3) ?hd (cs:=#[.bool a1_0,.string a1_1,.int .i64 a1_2]) (t:=48) ?hr ?_;(case hd=>rfl);(case hg=>rfl);(case hr=>first|(go_simp;done)|(go_simp;rfl));intro gb254 hg w5 hbox hb;have n_:=J_ (bkb_ BK253 hb) (J_ (bw_ (hb_ HB) hb) (J_ (hbox) (J_ (bs_ hg HB) (J_ (bs_ hg HB) (J_ ((by rw [hg];exact Nat.ne_of_lt (bkl_ BK253) : gb253 ≠ gb254)) (ad_ ((by rw [hg];exact Nat.ne_of_gt (bkl_ BK253) : gb254 ≠ gb253))))))));clear BK253 HB;obtain ⟨BK253,HB,BK254,GW254,GE254,NB253_254,NB254_253⟩:=n_;clear hb hbox hg;have hnb6:=NB253_254.out;have hnc6:=NB254_253.out;obtain ⟨hcz7_0,hcz7_1,hcz7_2,hfz7_0,hfz7_1,hfz7_2⟩:=cf3_ BK253;obtain ⟨hcz8_0,hcz8_1,hcz8_2,hfz8_0,hfz8_1,hfz8_2⟩:=cf3_ BK254));try go_wp2_with (first|((with_reducible refine gate_dst (N:=2) rfl ?_);refine box_event ?hg (N:=2) ?hd (cs:=#[.bool a0_0,.string a0_1,.int .i64 a0_2]) (t:=48) ?hr ?_;(case hd=>rfl);(case hg=>rfl);(case hr=>first|(go_simp;done)|(go_simp;rfl));intro gb253 hg w4 hbox hb;have n_:=J_ (bw_ (hb_ HB) hb) (J_ (hbox) (J_ (bs_ hg HB) (ad_ (bs_ hg HB))));clear HB;obtain ⟨HB,BK253,GW253,GE253⟩:=n_;clear hb hbox hg)|((with_reducible refine gate_dst (N:=3) rfl ?_);refine box_event ?hg (N:=3) ?hd (cs:=#[.bool a1_0,.string a1_1,.int .i64 a1_2]) (t:=48) ?hr ?_;(case hd=>rfl);(case hg=>rfl);(case hr=>first|(go_simp;done)|(go_simp;rfl));intro gb254 hg w5 hbox hb;have n_:=J_ (bkb_ BK253 hb) (J_ (bw_ (hb_ HB) hb) (J_ (hbox) (J_ (bs_ hg HB) (J_ (bs_ hg HB) (J_ ((by rw [hg];exact Nat.ne_of_lt (bkl_ BK253) : gb253 ≠ gb254)) (ad_ ((by rw [hg];exact Nat.ne_of_gt (bkl_ BK253) : gb254 ≠ gb253))))))));clear BK253 HB;obtain ⟨BK253,HB,BK254,GW254,GE254,NB253_254,NB254_253⟩:=n_;clear hb hbox hg;have hnb6:=NB253_254.out;have hnc6:=NB254_253.out;obtain ⟨hcz7_0,hcz7_1,hcz7_2,hfz7_0,hfz7_1,hfz7_2⟩:=cf3_ BK253;obtain ⟨hcz8_0,hcz8_1,hcz8_2,hfz8_0,hfz8_1,hfz8_2⟩:=cf3_ BK254)))
  go_ret;exact ⟨er_,(hb_ HB)⟩
 rw [if_neg c3] at H
 have c3b0 : ((wrap64 ((a0_1.size : Int) + a0_2)) == (wrap64 ((a1_1.size : Int) + a1_2))) = false:=be_ c3;have c3b1 : ((wrap64 ((a0_1.size : Int) + a0_2)) != (wrap64 ((a1_1.size : Int) + a1_2))) = true:=bne_iff_ne.mpr c3;obtain rfl:=si_ H;go_enter Tryd.func45,Tryd.ntmps45
 go_wp2_with (first|((with_reducible refine gate_dst (N:=2) rfl ?_);refine box_event ?hg (N:=2) ?hd (cs:=#[.bool a0_0,.string a0_1,.int .i64 a0_2]) (t:=48) ?hr ?_;(case hd=>rfl);(case hg=>rfl);(case hr=>first|(go_simp;done)|(go_simp;rfl));intro gb253 hg w9 hbox hb;have n_:=J_ (bw_ (hb_ HB) hb) (J_ (hbox) (J_ (bs_ hg HB) (ad_ (bs_ hg HB))));clear HB;obtain ⟨HB,BK253,GW253,GE253⟩:=n_;clear hb hbox hg)|((with_reducible refine gate_dst (N:=3) rfl ?_);refine box_event ?hg (N:=3) ?hd (cs:=#[.bool a1_0,.string a1_1,.int .i64 a1_2]) (t:=48) ?hr ?_;(case hd=>rfl);(case hg=>rfl);(case hr=>first|(go_simp;done)|(go_simp;rfl));intro gb254 hg w10 hbox hb;have n_:=J_ (bkb_ BK253 hb) (J_ (bw_ (hb_ HB) hb) (J_ (hbox) (J_ (bs_ hg HB) (J_ (bs_ hg HB) (J_ ((by rw [hg];exact Nat.ne_of_lt (bkl_ BK253) : gb253 ≠ gb254)) (ad_ ((by rw [hg];exact Nat.ne_of_gt (bkl_ BK253) : gb254 ≠ gb253))))))));clear BK253 HB;obtain ⟨BK253,HB,BK254,GW254,GE254,NB253_254,NB254_253⟩:=n_;clear hb hbox hg;have hnb11:=NB253_254.out;have hnc11:=NB254_253.out;obtain ⟨hcz12_0,hcz12_1,hcz12_2,hfz12_0,hfz12_1,hfz12_2⟩:=cf3_ BK253;obtain ⟨hcz13_0,hcz13_1,hcz13_2,hfz13_0,hfz13_1,hfz13_2⟩:=cf3_ BK254))
 repeat (go_quiet (first|((with_reducible refine gate_dst (N:=2) rfl ?_);refine box_event ?hg (N:=2) ?hd (cs:=#[.bool a0_0,.string a0_1,.int .i64 a0_2]) (t:=48) ?hr ?_;(case hd=>rfl);(case hg=>rfl);(case hr=>first|(go_simp;done)|(go_simp;rfl));intro gb253 hg w9 hbox hb;have n_:=J_ (bw_ (hb_ HB) hb) (J_ (hbox) (J_ (bs_ hg HB) (ad_ (bs_ hg HB))));clear HB;obtain ⟨HB,BK253,GW253,GE253⟩:=n_;clear hb hbox hg)|((with_reducible refine gate_dst (N:=3) rfl ?_);refine box_event ?hg (N:=3) ?hd (cs:=#[.bool a1_0,.string a1_1,.int .i64 a1_2]) (t:=48) ?hr ?_;(case hd=>rfl);(case hg=>rfl);(case hr=>first|(go_simp;done)|(go_simp;rfl));intro gb254 hg w10 hbox hb;have n_:=J_ (bkb_ BK253 hb) (J_ (bw_ (hb_ HB) hb) (J_ (hbox) (J_ (bs_ hg HB) (J_ (bs_ hg HB) (J_ ((by rw [hg];exact Nat.ne_of_lt (bkl_ BK253) : gb253 ≠ gb254)) (ad_ ((by rw [hg];exact Nat.ne_of_gt (bkl_ BK253) : gb254 ≠ gb253))))))));clear BK253 HB;obtain ⟨BK253,HB,BK254,GW254,GE254,NB253_254,NB254_253⟩:=n_;clear hb hbox hg;have hnb11:=NB253_254.out;have hnc11:=NB254_253.out;obtain ⟨hcz12_0,hcz12_1,hcz12_2,hfz12_0,hfz12_1,hfz12_2⟩:=cf3_ BK253;obtain ⟨hcz13_0,hcz13_1,hcz13_2,hfz13_0,hfz13_1,hfz13_2⟩:=cf3_ BK254));try go_wp2_with (first|((with_reducible refine gate_dst (N:=2) rfl ?_);refine box_event ?hg (N:=2) ?hd (cs:=#[.bool a0_0,.string a0_1,.int .i64 a0_2]) (t:=48) ?hr ?_;(case hd=>rfl);(case hg=>rfl);(case hr=>first|(go_simp;done)|(go_simp;rfl));intro gb253 hg w9 hbox hb;have n_:=J_ (bw_ (hb_ HB) hb) (J_ (hbox) (J_ (bs_ hg HB) (ad_ (bs_ hg HB))));clear HB;obtain ⟨HB,BK253,GW253,GE253⟩:=n_;clear hb hbox hg)|((with_reducible refine gate_dst (N:=3) rfl ?_);refine box_event ?hg (N:=3) ?hd (cs:=#[.bool a1_0,.string a1_1,.int .i64 a1_2]) (t:=48) ?hr ?_;(case hd=>rfl);(case hg=>rfl);(case hr=>first|(go_simp;done)|(go_simp;rfl));intro gb254 hg w10 hbox hb;have n_:=J_ (bkb_ BK253 hb) (J_ (bw_ (hb_ HB) hb) (J_ (hbox) (J_ (bs_ hg HB) (J_ (bs_ hg HB) (J_ ((by rw [hg];exact Nat.ne_of_lt (bkl_ BK253) : gb253 ≠ gb254)) (ad_ ((by rw [hg];exact Nat.ne_of_gt (bkl_ BK253) : gb254 ≠ gb253))))))));clear BK253 HB;obtain ⟨BK253,HB,BK254,GW254,GE254,NB253_254,NB254_253⟩:=n_;clear hb hbox hg;have hnb11:=NB253_254.out;have hnc11:=NB254_253.out;obtain ⟨hcz12_0,hcz12_1,hcz12_2,hfz12_0,hfz12_1,hfz12_2⟩:=cf3_ BK253;obtain ⟨hcz13_0,hcz13_1,hcz13_2,hfz13_0,hfz13_1,hfz13_2⟩:=cf3_ BK254)))
 go_ret;exact ⟨er_,(hb_ HB)⟩
end Go.Proofs.YtfaegleohhemkaaDoor.PTreeLikes
