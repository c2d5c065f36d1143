-- By shrink.py.
import Derived.Test.YtfaegleohhemkaaDoorZPTreeLikesx0
import Derived.Test.YtfaegleohhemkaaDoorZPTreeLikesx21
namespace Go.Proofs.YtfaegleohhemkaaDoor.PTreeLikes
open Go.RowKit Go.Proofs.YtfaegleohhemkaaDoorW.PrintWords Go.Proofs.YtfaegleohhemkaaDoorW.PrintLast Go.Proofs.YtfaegleohhemkaaDoorW.PrintMore
attribute [local go_sem] max2_int min2_int max_two min_two max_three min_three max_four min_four
set_option linter.unusedVariables false
set_option linter.unusedSimpArgs false
mutual
def quarryref00_SameValue.j0 : Nat → Bool → Int → Bool → ByteArray → ByteArray → List ByteArray → List (S25) → Int → Bool → ByteArray → ByteArray → List ByteArray → List (S25) → Option (Bool)
 | 0,_,_,_,_,_,_,_,_,_,_,_,_,_=>none
 | k + 1,x48,x187000,x187001,x187002,x187003,x187004,x187005,x188000,x188001,x188002,x188003,x188004,x188005=>if x48 = true then (some false) else (quarryref00_SameValue.l0 k 0 x187000 x187001 x187002 x187003 x187004 x187005 x188000 x188001 x188002 x188003 x188004 x188005)
def quarryref00_SameValue.l0 : Nat → Int → Int → Bool → ByteArray → ByteArray → List ByteArray → List (S25) → Int → Bool → ByteArray → ByteArray → List ByteArray → List (S25) → Option (Bool)
 | 0,_,_,_,_,_,_,_,_,_,_,_,_,_=>none
 | k + 1,x5,x187000,x187001,x187002,x187003,x187004,x187005,x188000,x188001,x188002,x188003,x188004,x188005=>if x5 < (x187005.length : Int) then (if 0 ≤ x5 then (if x5 < (x188005.length : Int) then ((quarryref00_SameValue.f k ((rd_T25 x187005 x5).f0) ((rd_T25 x187005 x5).f1) ((rd_T25 x187005 x5).f2) ((rd_T25 x187005 x5).f3) ((rd_T25 x187005 x5).f4) ((rd_T25 x187005 x5).f5) ((rd_T25 x188005 x5).f0) ((rd_T25 x188005 x5).f1) ((rd_T25 x188005 x5).f2) ((rd_T25 x188005 x5).f3) ((rd_T25 x188005 x5).f4) ((rd_T25 x188005 x5).f5)).bind fun t191=>(if t191 = true then (quarryref00_SameValue.l0 k (wrap64 (x5 + 1)) x187000 x187001 x187002 x187003 x187004 x187005 x188000 x188001 x188002 x188003 x188004 x188005) else (some false))) else (none)) else (none)) else (some true)
def quarryref00_SameValue.f : Nat → Int → Bool → ByteArray → ByteArray → List ByteArray → List (S25) → Int → Bool → ByteArray → ByteArray → List ByteArray → List (S25) → Option (Bool)
 | 0,_,_,_,_,_,_,_,_,_,_,_,_=>none
 | k + 1,a0_0,a0_1,a0_2,a0_3,l0_4,l0_5,a1_0,a1_1,a1_2,a1_3,l1_4,l1_5=>if a0_0 = a1_0 then (if (a0_1 != a1_1) = true then (quarryref00_SameValue.j0 k true a0_0 a0_1 a0_2 a0_3 l0_4 l0_5 a1_0 a1_1 a1_2 a1_3 l1_4 l1_5) else (if a0_2.toList = a1_2.toList then (if a0_3.toList = a1_3.toList then (if (l0_5.length : Int) = (l1_5.length : Int) then ((quarryref00_SameTexts.f k l0_4 l1_4).bind fun t188=>(quarryref00_SameValue.j0 k (!t188) a0_0 a0_1 a0_2 a0_3 l0_4 l0_5 a1_0 a1_1 a1_2 a1_3 l1_4 l1_5)) else (quarryref00_SameValue.j0 k true a0_0 a0_1 a0_2 a0_3 l0_4 l0_5 a1_0 a1_1 a1_2 a1_3 l1_4 l1_5)) else (quarryref00_SameValue.j0 k true a0_0 a0_1 a0_2 a0_3 l0_4 l0_5 a1_0 a1_1 a1_2 a1_3 l1_4 l1_5)) else (quarryref00_SameValue.j0 k true a0_0 a0_1 a0_2 a0_3 l0_4 l0_5 a1_0 a1_1 a1_2 a1_3 l1_4 l1_5))) else (quarryref00_SameValue.j0 k true a0_0 a0_1 a0_2 a0_3 l0_4 l0_5 a1_0 a1_1 a1_2 a1_3 l1_4 l1_5)
end
def quarryref00_SameValue.T6 : Bool × List (List Nat × List Nat):=(true,[([],[]),([0],[0]),([],[]),([1,2],[1,2]),([3],[3]),([],[]),([5],[5]),([],[]),([6,7],[6,7]),([8],[8]),([4,9],[4,9]),([10],[10])])
def quarryref00_SameValue.B6 : List Nat:=[0,1,0,7,15,0,32,0,224,480,1023,2047]
theorem quarryref00_SameValue.tab6 : rtab .any (opsOf Tryd.f18 6) = quarryref00_SameValue.T6:=by kernel_rfl
theorem quarryref00_SameValue.bits6 : waitsOk quarryref00_SameValue.T6.2 quarryref00_SameValue.B6 = true:=by kernel_rfl
set_option maxHeartbeats 8000000 in
set_option maxRecDepth 100000 in
theorem quarryref00_SameValue.calls (k : Nat) : ∀ (a0_0 : Int) (a0_1 : Bool) (a0_2 : ByteArray) (a0_3 : ByteArray) (A0_4 : Option Addr) (c0_4 : Nat) (l0_4 : List ByteArray) (A0_5 : Option Addr) (c0_5 : Nat) (l0_5 : List (S25)) (a1_0 : Int) (a1_1 : Bool) (a1_2 : ByteArray) (a1_3 : ByteArray) (A1_4 : Option Addr) (c1_4 : Nat) (l1_4 : List ByteArray) (A1_5 : Option Addr) (c1_5 : Nat) (l1_5 : List (S25)) (r : Bool) (w : World) (hr0_4 : Kd.C Kd.string w A0_4 l0_4.length l0_4) (hc0_4 : l0_4.length ≤ c0_4) (hr0_5 : Kd.C k25 w A0_5 l0_5.length l0_5) (hc0_5 : l0_5.length ≤ c0_5) (hr1_4 : Kd.C Kd.string w A1_4 l1_4.length l1_4) (hc1_4 : l1_4.length ≤ c1_4) (hr1_5 : Kd.C k25 w A1_5 l1_5.length l1_5) (hc1_5 : l1_5.length ≤ c1_5) (h : quarryref00_SameValue.f k a0_0 a0_1 a0_2 a0_3 l0_4 l0_5 a1_0 a1_1 a1_2 a1_3 l1_4 l1_5 = some r),
  Calls Tryd.prog 18 #[.agg #[.int .i64 a0_0,.bool a0_1,.string a0_2,.string a0_3,.slice A0_4 l0_4.length c0_4,.slice A0_5 l0_5.length c0_5],.agg #[.int .i64 a1_0,.bool a1_1,.string a1_2,.string a1_3,.slice A1_4 l1_4.length c1_4,.slice A1_5 l1_5.length c1_5]] w fun e w'=>e = .returned (.bool r) ∧ Below w.heap.size w w':=by
 induction k using Nat.strongRecOn with
 | _ k ih =>
 intro a0_0 a0_1 a0_2 a0_3 A0_4 c0_4 l0_4 A0_5 c0_5 l0_5 a1_0 a1_1 a1_2 a1_3 A1_4 c1_4 l1_4 A1_5 c1_5 l1_5 r w hr0_4 hc0_4 hr0_5 hc0_5 hr1_4 hc1_4 hr1_5 hc1_5 h
 cases k with
 | zero=>exact absurd h (by simp [quarryref00_SameValue.f])
 | succ k =>
 simp only [quarryref00_SameValue.f] at h
 have hu25:=Tryd.underlying25;have HR0_4:=ad_ hr0_4;have HC0_4:=ad_ hc0_4;clear hr0_4 hc0_4;have HR0_5:=ad_ hr0_5;have HC0_5:=ad_ hc0_5;clear hr0_5 hc0_5;have HR1_4:=ad_ hr1_4;have HC1_4:=ad_ hc1_4;clear hr1_4 hc1_4;have HR1_5:=ad_ hr1_5;have HC1_5:=ad_ hc1_5;clear hr1_5 hc1_5;have HB:=ad_ (Below.refl w.heap.size w);have H : (if a0_0 = a1_0 then (if (a0_1 != a1_1) = true then (quarryref00_SameValue.j0 k true a0_0 a0_1 a0_2 a0_3 l0_4 l0_5 a1_0 a1_1 a1_2 a1_3 l1_4 l1_5) else (if a0_2.toList = a1_2.toList then (if a0_3.toList = a1_3.toList then (if (l0_5.length : Int) = (l1_5.length : Int) then ((quarryref00_SameTexts.f k l0_4 l1_4).bind fun t188=>(quarryref00_SameValue.j0 k (!t188) a0_0 a0_1 a0_2 a0_3 l0_4 l0_5 a1_0 a1_1 a1_2 a1_3 l1_4 l1_5)) else (quarryref00_SameValue.j0 k true a0_0 a0_1 a0_2 a0_3 l0_4 l0_5 a1_0 a1_1 a1_2 a1_3 l1_4 l1_5)) else (quarryref00_SameValue.j0 k true a0_0 a0_1 a0_2 a0_3 l0_4 l0_5 a1_0 a1_1 a1_2 a1_3 l1_4 l1_5)) else (quarryref00_SameValue.j0 k true a0_0 a0_1 a0_2 a0_3 l0_4 l0_5 a1_0 a1_1 a1_2 a1_3 l1_4 l1_5))) else (quarryref00_SameValue.j0 k true a0_0 a0_1 a0_2 a0_3 l0_4 l0_5 a1_0 a1_1 a1_2 a1_3 l1_4 l1_5)) = some r:=h;clear h;have HC3:=ad_ H;clear H;go_enter Tryd.func18,Tryd.ntmps18
 go_upto_region 1 with (first|((with_reducible refine gate_dst (N:=2) rfl ?_);(try (refine gate_guard (by rfl) ?_;dsimp only));refine box_event ?hg (N:=2) ?hd (cs:=#[.int .i64 a0_0,.bool a0_1,.string a0_2,.string a0_3,.slice A0_4 l0_4.length c0_4,.slice A0_5 l0_5.length c0_5]) (t:=25) ?hr ?_;(case hd=>rfl);(case hg=>rfl);(case hr=>first|(go_simp;done)|(go_simp;rfl));intro gb186 hg w4 hbox hb;have n_:=J_ (bw_ (hb_ HB) hb) (J_ (hbox) (J_ (bs_ hg HB) (ad_ (bs_ hg HB))));clear HB;obtain ⟨HB,BK186,GW186,GE186⟩:=n_;clear hb hbox hg)|((with_reducible refine gate_dst (N:=3) rfl ?_);(try (refine gate_guard (by rfl) ?_;dsimp only));refine box_event ?hg (N:=3) ?hd (cs:=#[.int .i64 a1_0,.bool a1_1,.string a1_2,.string a1_3,.slice A1_4 l1_4.length c1_4,.slice A1_5 l1_5.length c1_5]) (t:=25) ?hr ?_;(case hd=>rfl);(case hg=>rfl);(case hr=>first|(go_simp;done)|(go_simp;rfl));intro gb187 hg w5 hbox hb;have n_:=J_ (bkb_ BK186 hb) (J_ (bw_ (hb_ HB) hb) (J_ (hbox) (J_ (bs_ hg HB) (J_ (bs_ hg HB) (J_ ((by rw [hg];exact Nat.ne_of_lt (bkl_ BK186) : gb186 ≠ gb187)) (ad_ ((by rw [hg];exact Nat.ne_of_gt (bkl_ BK186) : gb187 ≠ gb186))))))));clear BK186 HB;obtain ⟨BK186,HB,BK187,GW187,GE187,NB186_187,NB187_186⟩:=n_;clear hb hbox hg))
 (try simp only [Act.put,List.setIfInBounds_toArray,List.set_cons_zero,List.set_cons_succ])
 go_cut [48] (fun v48 wc=>∃ (kq : Nat) (x48_2 : Bool),v48 = .bool x48_2 ∧ Aside0 (quarryref00_SameValue.j0 kq x48_2 a0_0 a0_1 a0_2 a0_3 l0_4 l0_5 a1_0 a1_1 a1_2 a1_3 l1_4 l1_5 = some r) ∧ Aside0 (kq ≤ k) ∧ Aside0 (wc.heap[gb186]? = some (.cells #[.int .i64 a0_0,.bool a0_1,.string a0_2,.string a0_3,(.slice A0_4 l0_4.length c0_4),(.slice A0_5 l0_5.length c0_5)] 25 (0,0))) ∧ Aside0 (wc.heap[gb187]? = some (.cells #[.int .i64 a1_0,.bool a1_1,.string a1_2,.string a1_3,(.slice A1_4 l1_4.length c1_4),(.slice A1_5 l1_5.length c1_5)] 25 (0,0))) ∧ Aside0 (Below w.heap.size w wc))
 case first =>
  have H:=HC3.out;clear HC3
  by_cases c6 : a0_0 = a1_0
  ·rw [if_pos c6] at H
   have c6b0 : (a0_0 == a1_0) = true:=beq_iff_eq.mpr c6;have c6b1 : (a0_0 != a1_0) = false:=bne_eq_false_iff_eq.mpr c6;clear c6
   (first|rw [c6b0]|(simp only [i64_w,i32_w];rw [c6b0])|skip)
   by_cases c7 : (a0_1 != a1_1) = true
   ·rw [if_pos c7] at H
    have c7b0 : (a0_1 != a1_1) = true:=c7
    (try (have c7b1 : decide (a0_1 = a1_1) = false:=by simpa using c7))
    (try (have c7b2 : (a0_1 == a1_1) = false:=by simpa using c7))
    (try (have c7b3 : ¬ (a0_1 = a1_1):=by simpa using c7))
    clear c7;have H':=ad_ H;clear H;have hnb8:=NB186_187.out;have hnc8:=NB187_186.out;obtain ⟨hcz9_0,hcz9_1,hcz9_2,hcz9_3,hcz9_4,hcz9_5,hfz9_0,hfz9_1,hfz9_2,hfz9_3,hfz9_4,hfz9_5⟩:=cf6_ BK186;obtain ⟨hcz10_0,hcz10_1,hcz10_2,hcz10_3,hcz10_4,hcz10_5,hfz10_0,hfz10_1,hfz10_2,hfz10_3,hfz10_4,hfz10_5⟩:=cf6_ BK187;go_wp2
    go_meet
    case rel=>exact ⟨_,(true),rr_,(by first|exact H'|(subst_vars;exact H')),⟨by first|omega|exact Nat.le_refl _⟩,⟨(bk_ BK186)⟩,⟨(bk_ BK187)⟩,⟨(hb_ HB)⟩⟩
   rw [if_neg c7] at H
   have c7b0 : (a0_1 != a1_1) = false:=by simpa using c7
   (try (have c7b1 : decide (a0_1 = a1_1) = true:=by simpa using c7))
   (try (have c7b2 : (a0_1 == a1_1) = true:=by simpa using c7))
   clear c7
   by_cases c11 : a0_2.toList = a1_2.toList
   ·rw [if_pos c11] at H
    have c11b0 : (a0_2.toList == a1_2.toList) = true:=beq_iff_eq.mpr c11;have c11b1 : (a0_2.toList != a1_2.toList) = false:=bne_eq_false_iff_eq.mpr c11;clear c11
    by_cases c12 : a0_3.toList = a1_3.toList
    ·rw [if_pos c12] at H
     have c12b0 : (a0_3.toList == a1_3.toList) = true:=beq_iff_eq.mpr c12;have c12b1 : (a0_3.toList != a1_3.toList) = false:=bne_eq_false_iff_eq.mpr c12;clear c12
     by_cases c13 : (l0_5.length : Int) = (l1_5.length : Int)
     ·rw [if_pos c13] at H
      have c13b0 : ((l0_5.length : Int) == (l1_5.length : Int)) = true:=beq_iff_eq.mpr c13;have c13b1 : ((l0_5.length : Int) != (l1_5.length : Int)) = false:=bne_eq_false_iff_eq.mpr c13
      have c13b2 : (l0_5.length == l1_5.length) = true:=by first|simpa using c13|(simp at c13 ⊢;omega)
      clear c13;replace H:=Option.bind_eq_some_iff.mp H;obtain ⟨t188,A140,H⟩:=H
      try dsimp only at H
      have A14:=ad_ A140;clear A140;have H':=ad_ H;clear H;have hnb15:=NB186_187.out;have hnc15:=NB187_186.out;obtain ⟨hcz16_0,hcz16_1,hcz16_2,hcz16_3,hcz16_4,hcz16_5,hfz16_0,hfz16_1,hfz16_2,hfz16_3,hfz16_4,hfz16_5⟩:=cf6_ BK186;obtain ⟨hcz17_0,hcz17_1,hcz17_2,hcz17_3,hcz17_4,hcz17_5,hfz17_0,hfz17_1,hfz17_2,hfz17_3,hfz17_4,hfz17_5⟩:=cf6_ BK187
      go_wp2_with (first|(go_at_call 29;(with_reducible refine (quarryref00_SameTexts.calls k _ _ l0_4 _ _ l1_4 t188 _ ?side1 ?side2 ?side3 ?side4 A14.out).mono ?_);(case side1=>repeat (first|exact (cb_ HR0_4.out HB.out)|(with_reducible refine ca_ ?_ _)|(with_reducible refine kd_ ?_ _)|(with_reducible refine ke_ ?_)));(case side2=>exact HC0_4.out);(case side3=>repeat (first|exact (cb_ HR1_4.out HB.out)|(with_reducible refine ca_ ?_ _)|(with_reducible refine kd_ ?_ _)|(with_reducible refine ke_ ?_)));(case side4=>exact HC1_4.out);rintro e w' ⟨rfl,⟨nd,rfl⟩⟩))
      go_meet
      case rel=>exact ⟨_,(!t188),rr_,(by first|exact H'|(subst_vars;exact H')),⟨by first|omega|exact Nat.le_refl _⟩,⟨(bk_ BK186)⟩,⟨(bk_ BK187)⟩,⟨(hb_ HB)⟩⟩
     rw [if_neg c13] at H
     have c13b0 : ((l0_5.length : Int) == (l1_5.length : Int)) = false:=be_ c13;have c13b1 : ((l0_5.length : Int) != (l1_5.length : Int)) = true:=bne_iff_ne.mpr c13
     have c13b2 : (l0_5.length == l1_5.length) = false:=by first|simpa using c13|(simp at c13 ⊢;omega)
     have H':=ad_ H;clear H;have hnb18:=NB186_187.out;have hnc18:=NB187_186.out;obtain ⟨hcz19_0,hcz19_1,hcz19_2,hcz19_3,hcz19_4,hcz19_5,hfz19_0,hfz19_1,hfz19_2,hfz19_3,hfz19_4,hfz19_5⟩:=cf6_ BK186;obtain ⟨hcz20_0,hcz20_1,hcz20_2,hcz20_3,hcz20_4,hcz20_5,hfz20_0,hfz20_1,hfz20_2,hfz20_3,hfz20_4,hfz20_5⟩:=cf6_ BK187;go_wp2
     go_meet
     case rel=>exact ⟨_,(true),rr_,(by first|exact H'|(subst_vars;exact H')),⟨by first|omega|exact Nat.le_refl _⟩,⟨(bk_ BK186)⟩,⟨(bk_ BK187)⟩,⟨(hb_ HB)⟩⟩
    rw [if_neg c12] at H
    have c12b0 : (a0_3.toList == a1_3.toList) = false:=be_ c12;have c12b1 : (a0_3.toList != a1_3.toList) = true:=bne_iff_ne.mpr c12;have H':=ad_ H;clear H;have hnb21:=NB186_187.out;have hnc21:=NB187_186.out;obtain ⟨hcz22_0,hcz22_1,hcz22_2,hcz22_3,hcz22_4,hcz22_5,hfz22_0,hfz22_1,hfz22_2,hfz22_3,hfz22_4,hfz22_5⟩:=cf6_ BK186;obtain ⟨hcz23_0,hcz23_1,hcz23_2,hcz23_3,hcz23_4,hcz23_5,hfz23_0,hfz23_1,hfz23_2,hfz23_3,hfz23_4,hfz23_5⟩:=cf6_ BK187;go_wp2
    go_meet
    case rel=>exact ⟨_,(true),rr_,(by first|exact H'|(subst_vars;exact H')),⟨by first|omega|exact Nat.le_refl _⟩,⟨(bk_ BK186)⟩,⟨(bk_ BK187)⟩,⟨(hb_ HB)⟩⟩
   rw [if_neg c11] at H
   have c11b0 : (a0_2.toList == a1_2.toList) = false:=be_ c11;have c11b1 : (a0_2.toList != a1_2.toList) = true:=bne_iff_ne.mpr c11;have H':=ad_ H;clear H;have hnb24:=NB186_187.out;have hnc24:=NB187_186.out;obtain ⟨hcz25_0,hcz25_1,hcz25_2,hcz25_3,hcz25_4,hcz25_5,hfz25_0,hfz25_1,hfz25_2,hfz25_3,hfz25_4,hfz25_5⟩:=cf6_ BK186;obtain ⟨hcz26_0,hcz26_1,hcz26_2,hcz26_3,hcz26_4,hcz26_5,hfz26_0,hfz26_1,hfz26_2,hfz26_3,hfz26_4,hfz26_5⟩:=cf6_ BK187;go_wp2
   go_meet
   case rel=>exact ⟨_,(true),rr_,(by first|exact H'|(subst_vars;exact H')),⟨by first|omega|exact Nat.le_refl _⟩,⟨(bk_ BK186)⟩,⟨(bk_ BK187)⟩,⟨(hb_ HB)⟩⟩
  rw [if_neg c6] at H
  have c6b0 : (a0_0 == a1_0) = false:=be_ c6;have c6b1 : (a0_0 != a1_0) = true:=bne_iff_ne.mpr c6
  (first|rw [c6b0]|(simp only [i64_w,i32_w];rw [c6b0])|skip)
  have H':=ad_ H;clear H;have hnb27:=NB186_187.out;have hnc27:=NB187_186.out;obtain ⟨hcz28_0,hcz28_1,hcz28_2,hcz28_3,hcz28_4,hcz28_5,hfz28_0,hfz28_1,hfz28_2,hfz28_3,hfz28_4,hfz28_5⟩:=cf6_ BK186;obtain ⟨hcz29_0,hcz29_1,hcz29_2,hcz29_3,hcz29_4,hcz29_5,hfz29_0,hfz29_1,hfz29_2,hfz29_3,hfz29_4,hfz29_5⟩:=cf6_ BK187;go_wp2
  go_meet
  case rel=>exact ⟨_,(true),rr_,(by first|exact H'|(subst_vars;exact H')),⟨by first|omega|exact Nat.le_refl _⟩,⟨(bk_ BK186)⟩,⟨(bk_ BK187)⟩,⟨(hb_ HB)⟩⟩
 case rest =>
  clear HC3;obtain ⟨kq,x48_2,rfl,HA,HJ2,BK186,BK187,HB⟩:=hcut
  cases kq with
  | zero=>exact absurd HA.out (by simp [quarryref00_SameValue.j0])
  | succ kj2 =>
   have H:=HA.out;clear HA
   simp only [quarryref00_SameValue.j0] at H
   by_cases c30 : x48_2 = true
   ·subst c30
    rw [if_pos rfl] at H
    obtain rfl:=si_ H;go_wp2
    go_ret;exact ⟨er_,(hb_ HB)⟩
   replace c30:=Bool.eq_false_iff.mpr c30;subst c30
   rw [if_neg (show ¬ (false = true) by decide)] at H
   have H':=ad_ H;clear H;go_wp2
   go_loopg [5] kj2 (fun kq v5 w'=>∃ (x5_2 : Int),v5 = .int .i64 x5_2 ∧ Aside0 (quarryref00_SameValue.l0 kq x5_2 a0_0 a0_1 a0_2 a0_3 l0_4 l0_5 a1_0 a1_1 a1_2 a1_3 l1_4 l1_5 = some r) ∧ Aside0 (kq ≤ kj2) ∧ Aside0 (w'.heap[gb186]? = some (.cells #[.int .i64 a0_0,.bool a0_1,.string a0_2,.string a0_3,(.slice A0_4 l0_4.length c0_4),(.slice A0_5 l0_5.length c0_5)] 25 (0,0))) ∧ Aside0 (w'.heap[gb187]? = some (.cells #[.int .i64 a1_0,.bool a1_1,.string a1_2,.string a1_3,(.slice A1_4 l1_4.length c1_4),(.slice A1_5 l1_5.length c1_5)] 25 (0,0))) ∧ Aside0 (Below w.heap.size w w'))
   case atStart=>exact ⟨(0),rr_,H',⟨Nat.le_refl _⟩,⟨(bk_ BK186)⟩,⟨(bk_ BK187)⟩,⟨(hb_ HB)⟩⟩
   case round =>
    clear H'
    try clear BK186
    try clear BK187
    try clear HB
    obtain ⟨x5_2,rfl,HA,HK2,BK186,BK187,HB⟩:=hrel
    cases gk with
    | zero=>exact absurd HA.out (by simp [quarryref00_SameValue.l0])
    | succ k2 =>
     have H:=HA.out;clear HA
     simp only [quarryref00_SameValue.l0] at H
     by_cases c31 : x5_2 < (l0_5.length : Int)
     ·rw [if_pos c31] at H
      have c31b0 : decide (x5_2 < (l0_5.length : Int)) = true:=dt_ c31;clear c31
      by_cases c32 : 0 ≤ x5_2
      ·rw [if_pos c32] at H
       have c32b0 : decide (0 ≤ x5_2) = true:=dt_ c32;clear c32
       by_cases c33 : x5_2 < (l1_5.length : Int)
       ·rw [if_pos c33] at H
        have c33b0 : decide (x5_2 < (l1_5.length : Int)) = true:=dt_ c33;clear c33;replace H:=Option.bind_eq_some_iff.mp H;obtain ⟨t191,A340,H⟩:=H
        try dsimp only at H
        have A34:=ad_ A340;clear A340
        by_cases c35 : t191 = true
        ·subst c35
         rw [if_pos rfl] at H
         have H':=ad_ H;clear H;have hnb36:=NB186_187.out;have hnc36:=NB187_186.out;obtain ⟨hcz37_0,hcz37_1,hcz37_2,hcz37_3,hcz37_4,hcz37_5,hfz37_0,hfz37_1,hfz37_2,hfz37_3,hfz37_4,hfz37_5⟩:=cf6_ BK186
         try go_wp2
         have n0_:=ad_ (blk_drew BK186.out);have n1_:=ad_ (blk_drew BK187.out);have n2_:=ad_ (below_drew1 HB.out);clear BK186;clear BK187;clear HB;have BK186:=n0_;have BK187:=n1_;have HB:=n2_;clear n0_ n1_ n2_;have p189 : 0 ≤ (x5_2 : Int):=od_ aa_;have q189 : x5_2 < (l0_5.length : Int):=od_ aa_;obtain ⟨ad189,A189_4,c189_4,A189_5,c189_5,e189,hx189_0,hx189_1,hx189_2,hx189_3,hx189_4,hx189_5,hl189_4,hi189_4,hl189_5,hi189_5⟩:=at_T25 HR0_5.out x5_2 p189 q189;have hw189_5:=hx189_5;have hw189_4:=hx189_4;have hw189_3:=hx189_3;have hw189_2:=hx189_2;have hw189_1:=hx189_1;have hw189_0:=hx189_0;cases e189;replace hx189_0:=(HB.out.cell (wb_ w _ hx189_0)).trans hx189_0;replace hx189_1:=(HB.out.cell (wb_ w _ hx189_1)).trans hx189_1;replace hx189_2:=(HB.out.cell (wb_ w _ hx189_2)).trans hx189_2;replace hx189_3:=(HB.out.cell (wb_ w _ hx189_3)).trans hx189_3;replace hx189_4:=(HB.out.cell (wb_ w _ hx189_4)).trans hx189_4;replace hx189_5:=(HB.out.cell (wb_ w _ hx189_5)).trans hx189_5;have HR189_4:=ad_ hi189_4;have HC189_4:=ad_ hl189_4;clear hi189_4 hl189_4;have HR189_5:=ad_ hi189_5;have HC189_5:=ad_ hl189_5;clear hi189_5 hl189_5;replace p189:=eq_true p189;replace q189:=eq_true q189;have p190 : 0 ≤ (x5_2 : Int):=od_ aa_;have q190 : x5_2 < (l1_5.length : Int):=od_ aa_;obtain ⟨ad190,A190_4,c190_4,A190_5,c190_5,e190,hx190_0,hx190_1,hx190_2,hx190_3,hx190_4,hx190_5,hl190_4,hi190_4,hl190_5,hi190_5⟩:=at_T25 HR1_5.out x5_2 p190 q190;have hw190_5:=hx190_5;have hw190_4:=hx190_4;have hw190_3:=hx190_3;have hw190_2:=hx190_2
         have hw190_1:=hx190_1;have hw190_0:=hx190_0;cases e190;replace hx190_0:=(HB.out.cell (wb_ w _ hx190_0)).trans hx190_0;replace hx190_1:=(HB.out.cell (wb_ w _ hx190_1)).trans hx190_1;replace hx190_2:=(HB.out.cell (wb_ w _ hx190_2)).trans hx190_2;replace hx190_3:=(HB.out.cell (wb_ w _ hx190_3)).trans hx190_3;replace hx190_4:=(HB.out.cell (wb_ w _ hx190_4)).trans hx190_4;replace hx190_5:=(HB.out.cell (wb_ w _ hx190_5)).trans hx190_5;have HR190_4:=ad_ hi190_4;have HC190_4:=ad_ hl190_4;clear hi190_4 hl190_4;have HR190_5:=ad_ hi190_5;have HC190_5:=ad_ hl190_5;clear hi190_5 hl190_5;replace p190:=eq_true p190;replace q190:=eq_true q190;refine start_ (n:=12) (S:=fun w'=>w'.cell? ⟨gb186,0,none⟩ = some (.int .i64 a0_0) ∧ w'.cell? ⟨gb186,1,none⟩ = some (.bool a0_1) ∧ w'.cell? ⟨gb186,2,none⟩ = some (.string a0_2) ∧ w'.cell? ⟨gb186,3,none⟩ = some (.string a0_3) ∧ w'.cell? ⟨gb186,4,none⟩ = some (.slice A0_4 l0_4.length c0_4) ∧ w'.cell? ⟨gb186,5,none⟩ = some (.slice (some ad189) l0_5.length c0_5) ∧ w'.cell? ⟨gb187,0,none⟩ = some (.int .i64 a1_0) ∧ w'.cell? ⟨gb187,1,none⟩ = some (.bool a1_1) ∧ w'.cell? ⟨gb187,2,none⟩ = some (.string a1_2) ∧ w'.cell? ⟨gb187,3,none⟩ = some (.string a1_3) ∧ w'.cell? ⟨gb187,4,none⟩ = some (.slice A1_4 l1_4.length c1_4) ∧ w'.cell? ⟨gb187,5,none⟩ = some (.slice (some ad190) l1_5.length c1_5) ∧ w'.cell? (ad189.add ((x5_2).toNat * 6)) = some (.int .i64 ((rd_T25 l0_5 x5_2).f0)) ∧ w'.cell? ⟨(ad189.add ((x5_2).toNat * 6)).block,(ad189.add ((x5_2).toNat * 6)).off + 1,none⟩ = some (.bool ((rd_T25 l0_5 x5_2).f1)) ∧ w'.cell? ⟨(ad189.add ((x5_2).toNat * 6)).block,(ad189.add ((x5_2).toNat * 6)).off + 2,none⟩ = some (.string ((rd_T25 l0_5 x5_2).f2)) ∧ w'.cell? ⟨(ad189.add ((x5_2).toNat * 6)).block,(ad189.add ((x5_2).toNat * 6)).off + 3,none⟩ = some (.string ((rd_T25 l0_5 x5_2).f3)) ∧ w'.cell? ⟨(ad189.add ((x5_2).toNat * 6)).block,(ad189.add ((x5_2).toNat * 6)).off + 4,none⟩ = some (.slice A189_4 ((rd_T25 l0_5 x5_2).f4).length c189_4) ∧ w'.cell? ⟨(ad189.add ((x5_2).toNat * 6)).block,(ad189.add ((x5_2).toNat * 6)).off + 5,none⟩ = some (.slice A189_5 ((rd_T25 l0_5 x5_2).f5).length c189_5) ∧ w'.cell? (ad190.add ((x5_2).toNat * 6)) = some (.int .i64 ((rd_T25 l1_5 x5_2).f0)) ∧ w'.cell? ⟨(ad190.add ((x5_2).toNat * 6)).block,(ad190.add ((x5_2).toNat * 6)).off + 1,none⟩ = some (.bool ((rd_T25 l1_5 x5_2).f1)) ∧ w'.cell? ⟨(ad190.add ((x5_2).toNat * 6)).block,(ad190.add ((x5_2).toNat * 6)).off + 2,none⟩ = some (.string ((rd_T25 l1_5 x5_2).f2)) ∧ w'.cell? ⟨(ad190.add ((x5_2).toNat * 6)).block,(ad190.add ((x5_2).toNat * 6)).off + 3,none⟩ = some (.string ((rd_T25 l1_5 x5_2).f3)) ∧ w'.cell? ⟨(ad190.add ((x5_2).toNat * 6)).block,(ad190.add ((x5_2).toNat * 6)).off + 4,none⟩ = some (.slice A190_4 ((rd_T25 l1_5 x5_2).f4).length c190_4) ∧ w'.cell? ⟨(ad190.add ((x5_2).toNat * 6)).block,(ad190.add ((x5_2).toNat * 6)).off + 5,none⟩ = some (.slice A190_5 ((rd_T25 l1_5 x5_2).f5).length c190_5)) (ds:=[]) #[false,false,false,false,false,false,false,false,false,false,false,false] (by kernel_rfl) rfl rfl ⟨(bc_ BK186.out 0).trans rfl,(bc_ BK186.out 1).trans rfl,(bc_ BK186.out 2).trans rfl,(bc_ BK186.out 3).trans rfl,(bc_ BK186.out 4).trans rfl,(bc_ BK186.out 5).trans rfl,(bc_ BK187.out 0).trans rfl,(bc_ BK187.out 1).trans rfl,(bc_ BK187.out 2).trans rfl,(bc_ BK187.out 3).trans rfl,(bc_ BK187.out 4).trans rfl,(bc_ BK187.out 5).trans rfl,((HB.out.cell (wb_ w _ hw189_0)).trans hw189_0),((HB.out.cell (wb_ w _ hw189_1)).trans hw189_1),((HB.out.cell (wb_ w _ hw189_2)).trans hw189_2),((HB.out.cell (wb_ w _ hw189_3)).trans hw189_3),((HB.out.cell (wb_ w _ hw189_4)).trans hw189_4),((HB.out.cell (wb_ w _ hw189_5)).trans hw189_5),((HB.out.cell (wb_ w _ hw190_0)).trans hw190_0),((HB.out.cell (wb_ w _ hw190_1)).trans hw190_1),((HB.out.cell (wb_ w _ hw190_2)).trans hw190_2),((HB.out.cell (wb_ w _ hw190_3)).trans hw190_3),((HB.out.cell (wb_ w _ hw190_4)).trans hw190_4),((HB.out.cell (wb_ w _ hw190_5)).trans hw190_5)⟩ (fun hHeld=>?_);refine with_tabW quarryref00_SameValue.tab6 quarryref00_SameValue.bits6 (fun HT_ HW_=>?_)
         generalize wr.drew = w38 at BK186 BK187 HB HR189_4 HR189_5 HR190_4 HR190_5 hx189_0 hx189_1 hx189_2 hx189_3 hx189_4 hx189_5 hx190_0 hx190_1 hx190_2 hx190_3 hx190_4 hx190_5 hHeld ⊢
         refine pure_ (i:=0) (N:=some 56) (v:=?_) (a':=?_) #[true,false,false,false,false,false,false,false,false,false,false,false] rfl rfl (any_of HT_.out (by kernel_rfl)) (fun _ _ _ h=>h) (Or.inl ⟨by rfl,?_⟩) ?_ ?_;rotate_left
         ·intro w';go_simp;with_reducible rfl
         rotate_left
         ·simp only [Act.put,se1_,se2_,se3_,i64_w,i32_w];rfl
         refine pure_ (i:=2) (N:=some 58) (v:=?_) (a':=?_) #[true,false,true,false,false,false,false,false,false,false,false,false] rfl rfl (any_of HT_.out (by kernel_rfl)) (fun _ _ _ h=>h) (Or.inl ⟨by rfl,?_⟩) ?_ ?_;rotate_left
         ·intro w';go_simp;with_reducible rfl
         rotate_left
         ·simp only [Act.put,se1_,se2_,se3_,i64_w,i32_w];rfl
         refine pure_ (i:=5) (N:=some 61) (v:=?_) (a':=?_) #[true,false,true,false,false,true,false,false,false,false,false,false] rfl rfl (any_of HT_.out (by kernel_rfl)) (fun _ _ _ h=>h) (Or.inl ⟨by rfl,?_⟩) ?_ ?_;rotate_left
         ·intro w';go_simp;with_reducible rfl
         rotate_left
         ·simp only [Act.put,se1_,se2_,se3_,i64_w,i32_w];rfl
         refine pure_ (i:=7) (N:=some 63) (v:=?_) (a':=?_) #[true,false,true,false,false,true,false,true,false,false,false,false] rfl rfl (any_of HT_.out (by kernel_rfl)) (fun _ _ _ h=>h) (Or.inl ⟨by rfl,?_⟩) ?_ ?_;rotate_left
         ·intro w';go_simp;with_reducible rfl
         rotate_left
         ·simp only [Act.put,se1_,se2_,se3_,i64_w,i32_w];rfl
         refine take_ (i:=1) (N:=some 57) (v:=?_) (a':=?_) #[true,true,true,false,false,true,false,true,false,false,false,false] rfl rfl (take_ofW HT_.out HW_.out (by kernel_rfl)) (fun _ _ _ h=>h) (Or.inl ⟨by rfl,?_⟩) hHeld ?_ ?_;rotate_left
         ·rintro w' ⟨s0,s1,s2,s3,s4,s5,s6,s7,s8,s9,s10,s11,s12,s13,s14,s15,s16,s17,s18,s19,s20,s21,s22,s23⟩;go_simp;with_reducible rfl
         rotate_left
         ·simp only [Act.put,se1_,se2_,se3_,i64_w,i32_w];rfl
         refine pure_ (i:=3) (N:=some 59) (v:=?_) (a':=?_) #[true,true,true,true,false,true,false,true,false,false,false,false] rfl rfl (any_of HT_.out (by kernel_rfl)) (fun _ _ _ h=>h) (Or.inl ⟨by rfl,?_⟩) ?_ ?_;rotate_left
         ·intro w';go_simp;with_reducible rfl
         rotate_left
         ·simp only [Act.put,se1_,se2_,se3_,i64_w,i32_w];rfl
         refine take_ (i:=4) (N:=some 60) (v:=?_) (a':=?_) #[true,true,true,true,true,true,false,true,false,false,false,false] rfl rfl (take_ofW HT_.out HW_.out (by kernel_rfl)) (fun _ _ _ h=>h) (Or.inl ⟨by rfl,?_⟩) hHeld ?_ ?_;rotate_left
         ·rintro w' ⟨s0,s1,s2,s3,s4,s5,s6,s7,s8,s9,s10,s11,s12,s13,s14,s15,s16,s17,s18,s19,s20,s21,s22,s23⟩;go_simp;with_reducible rfl
         rotate_left
         ·simp only [Act.put,se1_,se2_,se3_,i64_w,i32_w];rfl
         refine take_ (i:=6) (N:=some 62) (v:=?_) (a':=?_) #[true,true,true,true,true,true,true,true,false,false,false,false] rfl rfl (take_ofW HT_.out HW_.out (by kernel_rfl)) (fun _ _ _ h=>h) (Or.inl ⟨by rfl,?_⟩) hHeld ?_ ?_;rotate_left
         ·rintro w' ⟨s0,s1,s2,s3,s4,s5,s6,s7,s8,s9,s10,s11,s12,s13,s14,s15,s16,s17,s18,s19,s20,s21,s22,s23⟩;go_simp;with_reducible rfl
         rotate_left
         ·simp only [Act.put,se1_,se2_,se3_,i64_w,i32_w];rfl
         refine pure_ (i:=8) (N:=some 64) (v:=?_) (a':=?_) #[true,true,true,true,true,true,true,true,true,false,false,false] rfl rfl (any_of HT_.out (by kernel_rfl)) (fun _ _ _ h=>h) (Or.inl ⟨by rfl,?_⟩) ?_ ?_;rotate_left
         ·intro w';go_simp;with_reducible rfl
         rotate_left
         ·simp only [Act.put,se1_,se2_,se3_,i64_w,i32_w];rfl
         refine take_ (i:=9) (N:=some 65) (v:=?_) (a':=?_) #[true,true,true,true,true,true,true,true,true,true,false,false] rfl rfl (take_ofW HT_.out HW_.out (by kernel_rfl)) (fun _ _ _ h=>h) (Or.inl ⟨by rfl,?_⟩) hHeld ?_ ?_;rotate_left
         ·rintro w' ⟨s0,s1,s2,s3,s4,s5,s6,s7,s8,s9,s10,s11,s12,s13,s14,s15,s16,s17,s18,s19,s20,s21,s22,s23⟩;go_simp;with_reducible rfl
         rotate_left
         ·simp only [Act.put,se1_,se2_,se3_,i64_w,i32_w];rfl
         refine one_ (i:=10) (N:=some 66) #[true,true,true,true,true,true,true,true,true,true,true,false] rfl rfl (one_of HT_.out (by kernel_rfl)) (by decide) (fun K hK=>?_);refine goes_ Tryd.func18 (by kernel_rfl) rfl #[.agg #[.int .i64 ((rd_T25 l0_5 x5_2).f0),.bool ((rd_T25 l0_5 x5_2).f1),.string ((rd_T25 l0_5 x5_2).f2),.string ((rd_T25 l0_5 x5_2).f3),.slice A189_4 ((rd_T25 l0_5 x5_2).f4).length c189_4,.slice A189_5 ((rd_T25 l0_5 x5_2).f5).length c189_5],.agg #[.int .i64 ((rd_T25 l1_5 x5_2).f0),.bool ((rd_T25 l1_5 x5_2).f1),.string ((rd_T25 l1_5 x5_2).f2),.string ((rd_T25 l1_5 x5_2).f3),.slice A190_4 ((rd_T25 l1_5 x5_2).f4).length c190_4,.slice A190_5 ((rd_T25 l1_5 x5_2).f5).length c190_5]] (by rfl) rfl rfl am_ ?_
         with_reducible refine (ih k2 (by have:=HJ2.out;have:=HK2.out;omega) ((rd_T25 l0_5 x5_2).f0) ((rd_T25 l0_5 x5_2).f1) ((rd_T25 l0_5 x5_2).f2) ((rd_T25 l0_5 x5_2).f3) _ _ ((rd_T25 l0_5 x5_2).f4) _ _ ((rd_T25 l0_5 x5_2).f5) ((rd_T25 l1_5 x5_2).f0) ((rd_T25 l1_5 x5_2).f1) ((rd_T25 l1_5 x5_2).f2) ((rd_T25 l1_5 x5_2).f3) _ _ ((rd_T25 l1_5 x5_2).f4) _ _ ((rd_T25 l1_5 x5_2).f5) true _ ?side1 ?side2 ?side3 ?side4 ?side5 ?side6 ?side7 ?side8 A34.out).mono ?_
         (case side1=>repeat (first|exact (cb_ HR189_4.out HB.out)|(with_reducible refine ca_ ?_ _)|(with_reducible refine kd_ ?_ _)|(with_reducible refine ke_ ?_)))
         (case side2=>exact HC189_4.out)
         (case side3=>repeat (first|exact (cb_ HR189_5.out HB.out)|(with_reducible refine ca_ ?_ _)|(with_reducible refine kd_ ?_ _)|(with_reducible refine ke_ ?_)))
         (case side4=>exact HC189_5.out)
         (case side5=>repeat (first|exact (cb_ HR190_4.out HB.out)|(with_reducible refine ca_ ?_ _)|(with_reducible refine kd_ ?_ _)|(with_reducible refine ke_ ?_)))
         (case side6=>exact HC190_4.out)
         (case side7=>repeat (first|exact (cb_ HR190_5.out HB.out)|(with_reducible refine ca_ ?_ _)|(with_reducible refine kd_ ?_ _)|(with_reducible refine ke_ ?_)))
         (case side8=>exact HC190_5.out)
         rintro e w39 ⟨rfl,hb⟩;refine ⟨_,rfl,?_⟩;have n0_:=ad_ (bkb_ BK186 hb);have n1_:=ad_ (bkb_ BK187 hb);have n2_:=ad_ (bw_ (hb_ HB) hb);clear BK186;clear BK187;clear HB;have BK186:=n0_;have BK187:=n1_;have HB:=n2_;clear n0_ n1_ n2_
         (try clear hb)
         (try clear hb2)
         (try clear hk)
         (try clear hi)
         refine hK.out _ _ ⟨(bc_ BK186.out 0).trans rfl,(bc_ BK186.out 1).trans rfl,(bc_ BK186.out 2).trans rfl,(bc_ BK186.out 3).trans rfl,(bc_ BK186.out 4).trans rfl,(bc_ BK186.out 5).trans rfl,(bc_ BK187.out 0).trans rfl,(bc_ BK187.out 1).trans rfl,(bc_ BK187.out 2).trans rfl,(bc_ BK187.out 3).trans rfl,(bc_ BK187.out 4).trans rfl,(bc_ BK187.out 5).trans rfl,((HB.out.cell (wb_ w _ hw189_0)).trans hw189_0),((HB.out.cell (wb_ w _ hw189_1)).trans hw189_1),((HB.out.cell (wb_ w _ hw189_2)).trans hw189_2),((HB.out.cell (wb_ w _ hw189_3)).trans hw189_3),((HB.out.cell (wb_ w _ hw189_4)).trans hw189_4),((HB.out.cell (wb_ w _ hw189_5)).trans hw189_5),((HB.out.cell (wb_ w _ hw190_0)).trans hw190_0),((HB.out.cell (wb_ w _ hw190_1)).trans hw190_1),((HB.out.cell (wb_ w _ hw190_2)).trans hw190_2),((HB.out.cell (wb_ w _ hw190_3)).trans hw190_3),((HB.out.cell (wb_ w _ hw190_4)).trans hw190_4),((HB.out.cell (wb_ w _ hw190_5)).trans hw190_5)⟩ (fun hHeld=>?_);clear hK K;refine norm_ (a':=?_) ?_ ?_;rotate_left
         ·show Act.put _ (some 66) _ = _
          simp only [Act.put,se1_,se2_,se3_,i64_w,i32_w];rfl
         refine pure_ (i:=11) (N:=some 67) (v:=?_) (a':=?_) #[true,true,true,true,true,true,true,true,true,true,true,true] rfl rfl (any_of HT_.out (by kernel_rfl)) (fun _ _ _ h=>h) (Or.inl ⟨by rfl,?_⟩) ?_ ?_;rotate_left
         ·intro w';go_simp;with_reducible rfl
         rotate_left
         ·simp only [Act.put,se1_,se2_,se3_,i64_w,i32_w];rfl
         refine done_ (done_of HT_.out (by kernel_rfl)) ?_
         try go_wp2
         go_roundg k2
         case measure=>have:=HJ2.out;have:=HK2.out;omega
         case rel=>exact ⟨(wrap64 (x5_2 + 1)),rr_,(by first|exact H'|(subst_vars;exact H')),⟨by have:=HJ2.out;have:=HK2.out;omega⟩,⟨(bk_ BK186)⟩,⟨(bk_ BK187)⟩,⟨(hb_ HB)⟩⟩
        replace c35:=Bool.eq_false_iff.mpr c35;subst c35
        rw [if_neg (show ¬ (false = true) by decide)] at H
        obtain rfl:=si_ H;have hnb40:=NB186_187.out;have hnc40:=NB187_186.out;obtain ⟨hcz41_0,hcz41_1,hcz41_2,hcz41_3,hcz41_4,hcz41_5,hfz41_0,hfz41_1,hfz41_2,hfz41_3,hfz41_4,hfz41_5⟩:=cf6_ BK186
        try go_wp2
        have n0_:=ad_ (blk_drew BK186.out);have n1_:=ad_ (blk_drew BK187.out);have n2_:=ad_ (below_drew1 HB.out);clear BK186;clear BK187;clear HB;have BK186:=n0_;have BK187:=n1_;have HB:=n2_;clear n0_ n1_ n2_;have p189 : 0 ≤ (x5_2 : Int):=od_ aa_;have q189 : x5_2 < (l0_5.length : Int):=od_ aa_;obtain ⟨ad189,A189_4,c189_4,A189_5,c189_5,e189,hx189_0,hx189_1,hx189_2,hx189_3,hx189_4,hx189_5,hl189_4,hi189_4,hl189_5,hi189_5⟩:=at_T25 HR0_5.out x5_2 p189 q189;have hw189_5:=hx189_5;have hw189_4:=hx189_4;have hw189_3:=hx189_3;have hw189_2:=hx189_2;have hw189_1:=hx189_1;have hw189_0:=hx189_0;cases e189;replace hx189_0:=(HB.out.cell (wb_ w _ hx189_0)).trans hx189_0;replace hx189_1:=(HB.out.cell (wb_ w _ hx189_1)).trans hx189_1;replace hx189_2:=(HB.out.cell (wb_ w _ hx189_2)).trans hx189_2;replace hx189_3:=(HB.out.cell (wb_ w _ hx189_3)).trans hx189_3;replace hx189_4:=(HB.out.cell (wb_ w _ hx189_4)).trans hx189_4;replace hx189_5:=(HB.out.cell (wb_ w _ hx189_5)).trans hx189_5;have HR189_4:=ad_ hi189_4;have HC189_4:=ad_ hl189_4;clear hi189_4 hl189_4;have HR189_5:=ad_ hi189_5;have HC189_5:=ad_ hl189_5;clear hi189_5 hl189_5;replace p189:=eq_true p189;replace q189:=eq_true q189;have p190 : 0 ≤ (x5_2 : Int):=od_ aa_;have q190 : x5_2 < (l1_5.length : Int):=od_ aa_;obtain ⟨ad190,A190_4,c190_4,A190_5,c190_5,e190,hx190_0,hx190_1,hx190_2,hx190_3,hx190_4,hx190_5,hl190_4,hi190_4,hl190_5,hi190_5⟩:=at_T25 HR1_5.out x5_2 p190 q190;have hw190_5:=hx190_5;have hw190_4:=hx190_4;have hw190_3:=hx190_3;have hw190_2:=hx190_2
        have hw190_1:=hx190_1;have hw190_0:=hx190_0;cases e190;replace hx190_0:=(HB.out.cell (wb_ w _ hx190_0)).trans hx190_0;replace hx190_1:=(HB.out.cell (wb_ w _ hx190_1)).trans hx190_1;replace hx190_2:=(HB.out.cell (wb_ w _ hx190_2)).trans hx190_2;replace hx190_3:=(HB.out.cell (wb_ w _ hx190_3)).trans hx190_3;replace hx190_4:=(HB.out.cell (wb_ w _ hx190_4)).trans hx190_4;replace hx190_5:=(HB.out.cell (wb_ w _ hx190_5)).trans hx190_5;have HR190_4:=ad_ hi190_4;have HC190_4:=ad_ hl190_4;clear hi190_4 hl190_4;have HR190_5:=ad_ hi190_5;have HC190_5:=ad_ hl190_5;clear hi190_5 hl190_5;replace p190:=eq_true p190;replace q190:=eq_true q190;refine start_ (n:=12) (S:=fun w'=>w'.cell? ⟨gb186,0,none⟩ = some (.int .i64 a0_0) ∧ w'.cell? ⟨gb186,1,none⟩ = some (.bool a0_1) ∧ w'.cell? ⟨gb186,2,none⟩ = some (.string a0_2) ∧ w'.cell? ⟨gb186,3,none⟩ = some (.string a0_3) ∧ w'.cell? ⟨gb186,4,none⟩ = some (.slice A0_4 l0_4.length c0_4) ∧ w'.cell? ⟨gb186,5,none⟩ = some (.slice (some ad189) l0_5.length c0_5) ∧ w'.cell? ⟨gb187,0,none⟩ = some (.int .i64 a1_0) ∧ w'.cell? ⟨gb187,1,none⟩ = some (.bool a1_1) ∧ w'.cell? ⟨gb187,2,none⟩ = some (.string a1_2) ∧ w'.cell? ⟨gb187,3,none⟩ = some (.string a1_3) ∧ w'.cell? ⟨gb187,4,none⟩ = some (.slice A1_4 l1_4.length c1_4) ∧ w'.cell? ⟨gb187,5,none⟩ = some (.slice (some ad190) l1_5.length c1_5) ∧ w'.cell? (ad189.add ((x5_2).toNat * 6)) = some (.int .i64 ((rd_T25 l0_5 x5_2).f0)) ∧ w'.cell? ⟨(ad189.add ((x5_2).toNat * 6)).block,(ad189.add ((x5_2).toNat * 6)).off + 1,none⟩ = some (.bool ((rd_T25 l0_5 x5_2).f1)) ∧ w'.cell? ⟨(ad189.add ((x5_2).toNat * 6)).block,(ad189.add ((x5_2).toNat * 6)).off + 2,none⟩ = some (.string ((rd_T25 l0_5 x5_2).f2)) ∧ w'.cell? ⟨(ad189.add ((x5_2).toNat * 6)).block,(ad189.add ((x5_2).toNat * 6)).off + 3,none⟩ = some (.string ((rd_T25 l0_5 x5_2).f3)) ∧ w'.cell? ⟨(ad189.add ((x5_2).toNat * 6)).block,(ad189.add ((x5_2).toNat * 6)).off + 4,none⟩ = some (.slice A189_4 ((rd_T25 l0_5 x5_2).f4).length c189_4) ∧ w'.cell? ⟨(ad189.add ((x5_2).toNat * 6)).block,(ad189.add ((x5_2).toNat * 6)).off + 5,none⟩ = some (.slice A189_5 ((rd_T25 l0_5 x5_2).f5).length c189_5) ∧ w'.cell? (ad190.add ((x5_2).toNat * 6)) = some (.int .i64 ((rd_T25 l1_5 x5_2).f0)) ∧ w'.cell? ⟨(ad190.add ((x5_2).toNat * 6)).block,(ad190.add ((x5_2).toNat * 6)).off + 1,none⟩ = some (.bool ((rd_T25 l1_5 x5_2).f1)) ∧ w'.cell? ⟨(ad190.add ((x5_2).toNat * 6)).block,(ad190.add ((x5_2).toNat * 6)).off + 2,none⟩ = some (.string ((rd_T25 l1_5 x5_2).f2)) ∧ w'.cell? ⟨(ad190.add ((x5_2).toNat * 6)).block,(ad190.add ((x5_2).toNat * 6)).off + 3,none⟩ = some (.string ((rd_T25 l1_5 x5_2).f3)) ∧ w'.cell? ⟨(ad190.add ((x5_2).toNat * 6)).block,(ad190.add ((x5_2).toNat * 6)).off + 4,none⟩ = some (.slice A190_4 ((rd_T25 l1_5 x5_2).f4).length c190_4) ∧ w'.cell? ⟨(ad190.add ((x5_2).toNat * 6)).block,(ad190.add ((x5_2).toNat * 6)).off + 5,none⟩ = some (.slice A190_5 ((rd_T25 l1_5 x5_2).f5).length c190_5)) (ds:=[]) #[false,false,false,false,false,false,false,false,false,false,false,false] (by kernel_rfl) rfl rfl ⟨(bc_ BK186.out 0).trans rfl,(bc_ BK186.out 1).trans rfl,(bc_ BK186.out 2).trans rfl,(bc_ BK186.out 3).trans rfl,(bc_ BK186.out 4).trans rfl,(bc_ BK186.out 5).trans rfl,(bc_ BK187.out 0).trans rfl,(bc_ BK187.out 1).trans rfl,(bc_ BK187.out 2).trans rfl,(bc_ BK187.out 3).trans rfl,(bc_ BK187.out 4).trans rfl,(bc_ BK187.out 5).trans rfl,((HB.out.cell (wb_ w _ hw189_0)).trans hw189_0),((HB.out.cell (wb_ w _ hw189_1)).trans hw189_1),((HB.out.cell (wb_ w _ hw189_2)).trans hw189_2),((HB.out.cell (wb_ w _ hw189_3)).trans hw189_3),((HB.out.cell (wb_ w _ hw189_4)).trans hw189_4),((HB.out.cell (wb_ w _ hw189_5)).trans hw189_5),((HB.out.cell (wb_ w _ hw190_0)).trans hw190_0),((HB.out.cell (wb_ w _ hw190_1)).trans hw190_1),((HB.out.cell (wb_ w _ hw190_2)).trans hw190_2),((HB.out.cell (wb_ w _ hw190_3)).trans hw190_3),((HB.out.cell (wb_ w _ hw190_4)).trans hw190_4),((HB.out.cell (wb_ w _ hw190_5)).trans hw190_5)⟩ (fun hHeld=>?_);refine with_tabW quarryref00_SameValue.tab6 quarryref00_SameValue.bits6 (fun HT_ HW_=>?_)
        generalize wr.drew = w42 at BK186 BK187 HB HR189_4 HR189_5 HR190_4 HR190_5 hx189_0 hx189_1 hx189_2 hx189_3 hx189_4 hx189_5 hx190_0 hx190_1 hx190_2 hx190_3 hx190_4 hx190_5 hHeld ⊢
        refine pure_ (i:=0) (N:=some 56) (v:=?_) (a':=?_) #[true,false,false,false,false,false,false,false,false,false,false,false] rfl rfl (any_of HT_.out (by kernel_rfl)) (fun _ _ _ h=>h) (Or.inl ⟨by rfl,?_⟩) ?_ ?_;rotate_left
        ·intro w';go_simp;with_reducible rfl
        rotate_left
        ·simp only [Act.put,se1_,se2_,se3_,i64_w,i32_w];rfl
        refine pure_ (i:=2) (N:=some 58) (v:=?_) (a':=?_) #[true,false,true,false,false,false,false,false,false,false,false,false] rfl rfl (any_of HT_.out (by kernel_rfl)) (fun _ _ _ h=>h) (Or.inl ⟨by rfl,?_⟩) ?_ ?_;rotate_left
        ·intro w';go_simp;with_reducible rfl
        rotate_left
        ·simp only [Act.put,se1_,se2_,se3_,i64_w,i32_w];rfl
        refine pure_ (i:=5) (N:=some 61) (v:=?_) (a':=?_) #[true,false,true,false,false,true,false,false,false,false,false,false] rfl rfl (any_of HT_.out (by kernel_rfl)) (fun _ _ _ h=>h) (Or.inl ⟨by rfl,?_⟩) ?_ ?_;rotate_left
        ·intro w';go_simp;with_reducible rfl
        rotate_left
        ·simp only [Act.put,se1_,se2_,se3_,i64_w,i32_w];rfl
        refine pure_ (i:=7) (N:=some 63) (v:=?_) (a':=?_) #[true,false,true,false,false,true,false,true,false,false,false,false] rfl rfl (any_of HT_.out (by kernel_rfl)) (fun _ _ _ h=>h) (Or.inl ⟨by rfl,?_⟩) ?_ ?_;rotate_left
        ·intro w';go_simp;with_reducible rfl
        rotate_left
        ·simp only [Act.put,se1_,se2_,se3_,i64_w,i32_w];rfl
        refine take_ (i:=1) (N:=some 57) (v:=?_) (a':=?_) #[true,true,true,false,false,true,false,true,false,false,false,false] rfl rfl (take_ofW HT_.out HW_.out (by kernel_rfl)) (fun _ _ _ h=>h) (Or.inl ⟨by rfl,?_⟩) hHeld ?_ ?_;rotate_left
        ·rintro w' ⟨s0,s1,s2,s3,s4,s5,s6,s7,s8,s9,s10,s11,s12,s13,s14,s15,s16,s17,s18,s19,s20,s21,s22,s23⟩;go_simp;with_reducible rfl
        rotate_left
        ·simp only [Act.put,se1_,se2_,se3_,i64_w,i32_w];rfl
        refine pure_ (i:=3) (N:=some 59) (v:=?_) (a':=?_) #[true,true,true,true,false,true,false,true,false,false,false,false] rfl rfl (any_of HT_.out (by kernel_rfl)) (fun _ _ _ h=>h) (Or.inl ⟨by rfl,?_⟩) ?_ ?_;rotate_left
        ·intro w';go_simp;with_reducible rfl
        rotate_left
        ·simp only [Act.put,se1_,se2_,se3_,i64_w,i32_w];rfl
        refine take_ (i:=4) (N:=some 60) (v:=?_) (a':=?_) #[true,true,true,true,true,true,false,true,false,false,false,false] rfl rfl (take_ofW HT_.out HW_.out (by kernel_rfl)) (fun _ _ _ h=>h) (Or.inl ⟨by rfl,?_⟩) hHeld ?_ ?_;rotate_left
        ·rintro w' ⟨s0,s1,s2,s3,s4,s5,s6,s7,s8,s9,s10,s11,s12,s13,s14,s15,s16,s17,s18,s19,s20,s21,s22,s23⟩;go_simp;with_reducible rfl
        rotate_left
        ·simp only [Act.put,se1_,se2_,se3_,i64_w,i32_w];rfl
        refine take_ (i:=6) (N:=some 62) (v:=?_) (a':=?_) #[true,true,true,true,true,true,true,true,false,false,false,false] rfl rfl (take_ofW HT_.out HW_.out (by kernel_rfl)) (fun _ _ _ h=>h) (Or.inl ⟨by rfl,?_⟩) hHeld ?_ ?_;rotate_left
        ·rintro w' ⟨s0,s1,s2,s3,s4,s5,s6,s7,s8,s9,s10,s11,s12,s13,s14,s15,s16,s17,s18,s19,s20,s21,s22,s23⟩;go_simp;with_reducible rfl
        rotate_left
        ·simp only [Act.put,se1_,se2_,se3_,i64_w,i32_w];rfl
        refine pure_ (i:=8) (N:=some 64) (v:=?_) (a':=?_) #[true,true,true,true,true,true,true,true,true,false,false,false] rfl rfl (any_of HT_.out (by kernel_rfl)) (fun _ _ _ h=>h) (Or.inl ⟨by rfl,?_⟩) ?_ ?_;rotate_left
        ·intro w';go_simp;with_reducible rfl
        rotate_left
        ·simp only [Act.put,se1_,se2_,se3_,i64_w,i32_w];rfl
        refine take_ (i:=9) (N:=some 65) (v:=?_) (a':=?_) #[true,true,true,true,true,true,true,true,true,true,false,false] rfl rfl (take_ofW HT_.out HW_.out (by kernel_rfl)) (fun _ _ _ h=>h) (Or.inl ⟨by rfl,?_⟩) hHeld ?_ ?_;rotate_left
        ·rintro w' ⟨s0,s1,s2,s3,s4,s5,s6,s7,s8,s9,s10,s11,s12,s13,s14,s15,s16,s17,s18,s19,s20,s21,s22,s23⟩;go_simp;with_reducible rfl
        rotate_left
        ·simp only [Act.put,se1_,se2_,se3_,i64_w,i32_w];rfl
        refine one_ (i:=10) (N:=some 66) #[true,true,true,true,true,true,true,true,true,true,true,false] rfl rfl (one_of HT_.out (by kernel_rfl)) (by decide) (fun K hK=>?_);refine goes_ Tryd.func18 (by kernel_rfl) rfl #[.agg #[.int .i64 ((rd_T25 l0_5 x5_2).f0),.bool ((rd_T25 l0_5 x5_2).f1),.string ((rd_T25 l0_5 x5_2).f2),.string ((rd_T25 l0_5 x5_2).f3),.slice A189_4 ((rd_T25 l0_5 x5_2).f4).length c189_4,.slice A189_5 ((rd_T25 l0_5 x5_2).f5).length c189_5],.agg #[.int .i64 ((rd_T25 l1_5 x5_2).f0),.bool ((rd_T25 l1_5 x5_2).f1),.string ((rd_T25 l1_5 x5_2).f2),.string ((rd_T25 l1_5 x5_2).f3),.slice A190_4 ((rd_T25 l1_5 x5_2).f4).length c190_4,.slice A190_5 ((rd_T25 l1_5 x5_2).f5).length c190_5]] (by rfl) rfl rfl am_ ?_
        with_reducible refine (ih k2 (by have:=HJ2.out;have:=HK2.out;omega) ((rd_T25 l0_5 x5_2).f0) ((rd_T25 l0_5 x5_2).f1) ((rd_T25 l0_5 x5_2).f2) ((rd_T25 l0_5 x5_2).f3) _ _ ((rd_T25 l0_5 x5_2).f4) _ _ ((rd_T25 l0_5 x5_2).f5) ((rd_T25 l1_5 x5_2).f0) ((rd_T25 l1_5 x5_2).f1) ((rd_T25 l1_5 x5_2).f2) ((rd_T25 l1_5 x5_2).f3) _ _ ((rd_T25 l1_5 x5_2).f4) _ _ ((rd_T25 l1_5 x5_2).f5) false _ ?side1 ?side2 ?side3 ?side4 ?side5 ?side6 ?side7 ?side8 A34.out).mono ?_
        (case side1=>repeat (first|exact (cb_ HR189_4.out HB.out)|(with_reducible refine ca_ ?_ _)|(with_reducible refine kd_ ?_ _)|(with_reducible refine ke_ ?_)))
        (case side2=>exact HC189_4.out)
        (case side3=>repeat (first|exact (cb_ HR189_5.out HB.out)|(with_reducible refine ca_ ?_ _)|(with_reducible refine kd_ ?_ _)|(with_reducible refine ke_ ?_)))
        (case side4=>exact HC189_5.out)
        (case side5=>repeat (first|exact (cb_ HR190_4.out HB.out)|(with_reducible refine ca_ ?_ _)|(with_reducible refine kd_ ?_ _)|(with_reducible refine ke_ ?_)))
        (case side6=>exact HC190_4.out)
        (case side7=>repeat (first|exact (cb_ HR190_5.out HB.out)|(with_reducible refine ca_ ?_ _)|(with_reducible refine kd_ ?_ _)|(with_reducible refine ke_ ?_)))
        (case side8=>exact HC190_5.out)
        rintro e w43 ⟨rfl,hb⟩;refine ⟨_,rfl,?_⟩;have n0_:=ad_ (bkb_ BK186 hb);have n1_:=ad_ (bkb_ BK187 hb);have n2_:=ad_ (bw_ (hb_ HB) hb);clear BK186;clear BK187;clear HB;have BK186:=n0_;have BK187:=n1_;have HB:=n2_;clear n0_ n1_ n2_
        (try clear hb)
        (try clear hb2)
        (try clear hk)
        (try clear hi)
        refine hK.out _ _ ⟨(bc_ BK186.out 0).trans rfl,(bc_ BK186.out 1).trans rfl,(bc_ BK186.out 2).trans rfl,(bc_ BK186.out 3).trans rfl,(bc_ BK186.out 4).trans rfl,(bc_ BK186.out 5).trans rfl,(bc_ BK187.out 0).trans rfl,(bc_ BK187.out 1).trans rfl,(bc_ BK187.out 2).trans rfl,(bc_ BK187.out 3).trans rfl,(bc_ BK187.out 4).trans rfl,(bc_ BK187.out 5).trans rfl,((HB.out.cell (wb_ w _ hw189_0)).trans hw189_0),((HB.out.cell (wb_ w _ hw189_1)).trans hw189_1),((HB.out.cell (wb_ w _ hw189_2)).trans hw189_2),((HB.out.cell (wb_ w _ hw189_3)).trans hw189_3),((HB.out.cell (wb_ w _ hw189_4)).trans hw189_4),((HB.out.cell (wb_ w _ hw189_5)).trans hw189_5),((HB.out.cell (wb_ w _ hw190_0)).trans hw190_0),((HB.out.cell (wb_ w _ hw190_1)).trans hw190_1),((HB.out.cell (wb_ w _ hw190_2)).trans hw190_2),((HB.out.cell (wb_ w _ hw190_3)).trans hw190_3),((HB.out.cell (wb_ w _ hw190_4)).trans hw190_4),((HB.out.cell (wb_ w _ hw190_5)).trans hw190_5)⟩ (fun hHeld=>?_);clear hK K;refine norm_ (a':=?_) ?_ ?_;rotate_left
        ·show Act.put _ (some 66) _ = _
         simp only [Act.put,se1_,se2_,se3_,i64_w,i32_w];rfl
        refine pure_ (i:=11) (N:=some 67) (v:=?_) (a':=?_) #[true,true,true,true,true,true,true,true,true,true,true,true] rfl rfl (any_of HT_.out (by kernel_rfl)) (fun _ _ _ h=>h) (Or.inl ⟨by rfl,?_⟩) ?_ ?_;rotate_left
        ·intro w';go_simp;with_reducible rfl
        rotate_left
        ·simp only [Act.put,se1_,se2_,se3_,i64_w,i32_w];rfl
        refine done_ (done_of HT_.out (by kernel_rfl)) ?_
        try go_wp2
        go_ret;exact ⟨er_,(hb_ HB)⟩
       rw [if_neg c33] at H
       exact absurd H (by simp)
      rw [if_neg c32] at H
      exact absurd H (by simp)
     rw [if_neg c31] at H
     have c31b0 : decide (x5_2 < (l0_5.length : Int)) = false:=df_ c31;clear c31;obtain rfl:=si_ H;have hnb44:=NB186_187.out;have hnc44:=NB187_186.out;obtain ⟨hcz45_0,hcz45_1,hcz45_2,hcz45_3,hcz45_4,hcz45_5,hfz45_0,hfz45_1,hfz45_2,hfz45_3,hfz45_4,hfz45_5⟩:=cf6_ BK186;go_wp2
     go_ret;exact ⟨er_,(hb_ HB)⟩
end Go.Proofs.YtfaegleohhemkaaDoor.PTreeLikes
