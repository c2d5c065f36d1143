-- Written by shrink.py, a program of this session: what the law needs of the print and its words. Lean checks it.
import Derived.Test.YtlgamjgdkljfiabGreatDoorZPWriteCompactsx0
import Derived.Test.YtlgamjgdkljfiabGreatDoorZPWriteCompactsx31
import Derived.Test.YtlgamjgdkljfiabGreatDoorZPWriteCompactsx33
namespace Go.Proofs.YtlgamjgdkljfiabGreatDoor.PWriteCompacts
open Go.RowKit Go.Proofs.YtlgamjgdkljfiabGreatDoorW.PrintWords Go.Proofs.YtlgamjgdkljfiabGreatDoorW.PrintLast Go.Proofs.YtlgamjgdkljfiabGreatDoorW.PrintMore
attribute [local go_sem] max2_int min2_int max_two min_two max_three min_three max_four min_four
set_option linter.unusedVariables false
set_option linter.unusedSimpArgs false
mutual
def quarryref18_compact.j0 : Nat → Bool → Int → Bool → ByteArray → ByteArray → List ByteArray → List (S25) → Option (ByteArray)
 | 0,_,_,_,_,_,_,_=>none
 | k + 1,x14,x285000,x285001,x285002,x285003,x285004,x285005=>if x14 = true then ((quarryref18_word.f k x285000 x285001 x285002 x285003 x285004 x285005).bind fun t285=>(some t285)) else ((quarryref18_ends.f x285000 x285001 x285002 x285003 x285004 x285005).bind fun bt286=>(quarryref18_compact.l0 k bt286.2 bt286.1 0 x285000 x285001 x285002 x285003 x285004 x285005))
def quarryref18_compact.l0 : Nat → ByteArray → ByteArray → Int → Int → Bool → ByteArray → ByteArray → List ByteArray → List (S25) → Option (ByteArray)
 | 0,_,_,_,_,_,_,_,_,_=>none
 | k + 1,x4,x5,x6,x285000,x285001,x285002,x285003,x285004,x285005=>if x6 < (x285005.length : Int) then (if x6 > 0 then (if x5.size + 1 ≤ 9223372036854775807 then (quarryref18_compact.j2 k x4 (x5 ++ (⟨#[44]⟩ : ByteArray)) x6 x285000 x285001 x285002 x285003 x285004 x285005) else (none)) else (quarryref18_compact.j2 k x4 x5 x6 x285000 x285001 x285002 x285003 x285004 x285005)) else (if x5.size + x4.size ≤ 9223372036854775807 then (some (x5 ++ x4)) else (none))
def quarryref18_compact.j2 : Nat → ByteArray → ByteArray → Int → Int → Bool → ByteArray → ByteArray → List ByteArray → List (S25) → Option (ByteArray)
 | 0,_,_,_,_,_,_,_,_,_=>none
 | k + 1,x4,x5,x6,x285000,x285001,x285002,x285003,x285004,x285005=>if x285000 = 6 then (if 0 ≤ x6 then (if x6 < (x285004.length : Int) then ((quarryref18_Quoted.f k (rdOf ByteArray.empty x285004 x6)).bind fun t289=>(if x5.size + t289.size ≤ 9223372036854775807 then (if (x5 ++ t289).size + 1 ≤ 9223372036854775807 then (if x6 < (x285005.length : Int) then ((quarryref18_compact.f k ((rd_T25 x285005 x6).f0) ((rd_T25 x285005 x6).f1) ((rd_T25 x285005 x6).f2) ((rd_T25 x285005 x6).f3) ((rd_T25 x285005 x6).f4) ((rd_T25 x285005 x6).f5)).bind fun t291=>(if ((x5 ++ t289) ++ (⟨#[58]⟩ : ByteArray)).size + t291.size ≤ 9223372036854775807 then (quarryref18_compact.l0 k x4 (((x5 ++ t289) ++ (⟨#[58]⟩ : ByteArray)) ++ t291) (wrap64 (x6 + 1)) x285000 x285001 x285002 x285003 x285004 x285005) else (none))) else (none)) else (none)) else (none))) else (none)) else (none)) else (if 0 ≤ x6 then (if x6 < (x285005.length : Int) then ((quarryref18_compact.f k ((rd_T25 x285005 x6).f0) ((rd_T25 x285005 x6).f1) ((rd_T25 x285005 x6).f2) ((rd_T25 x285005 x6).f3) ((rd_T25 x285005 x6).f4) ((rd_T25 x285005 x6).f5)).bind fun t293=>(if x5.size + t293.size ≤ 9223372036854775807 then (quarryref18_compact.l0 k x4 (x5 ++ t293) (wrap64 (x6 + 1)) x285000 x285001 x285002 x285003 x285004 x285005) else (none))) else (none)) else (none))
def quarryref18_compact.f : Nat → Int → Bool → ByteArray → ByteArray → List ByteArray → List (S25) → Option (ByteArray)
 | 0,_,_,_,_,_,_=>none
 | k + 1,a0_0,a0_1,a0_2,a0_3,l0_4,l0_5=>if a0_0 = 5 then (quarryref18_compact.j0 k false a0_0 a0_1 a0_2 a0_3 l0_4 l0_5) else (quarryref18_compact.j0 k (a0_0 != 6) a0_0 a0_1 a0_2 a0_3 l0_4 l0_5)
end
set_option maxHeartbeats 8000000 in
set_option maxRecDepth 100000 in
theorem quarryref18_compact.calls (k : Nat) : ∀ (a0_0 : Int) (a0_1 : Bool) (a0_2 : ByteArray) (a0_3 : ByteArray) (A0_4 : Option Addr) (c0_4 : Nat) (l0_4 : List ByteArray) (A0_5 : Option Addr) (c0_5 : Nat) (l0_5 : List (S25)) (r : ByteArray) (w : World) (hr0_4 : Kd.C Kd.string w A0_4 l0_4.length l0_4) (hc0_4 : l0_4.length ≤ c0_4) (hr0_5 : Kd.C k25 w A0_5 l0_5.length l0_5) (hc0_5 : l0_5.length ≤ c0_5) (h : quarryref18_compact.f k a0_0 a0_1 a0_2 a0_3 l0_4 l0_5 = some r),
  Calls Tryz.prog 23 #[.agg #[.int .i64 a0_0,.bool a0_1,.string a0_2,.string a0_3,.slice A0_4 l0_4.length c0_4,.slice A0_5 l0_5.length c0_5]] w fun e w'=>e = .returned (.string r) ∧ Below w.heap.size w w':=by
 induction k using Nat.strongRecOn with
 | _ k ih =>
 intro a0_0 a0_1 a0_2 a0_3 A0_4 c0_4 l0_4 A0_5 c0_5 l0_5 r w hr0_4 hc0_4 hr0_5 hc0_5 h
 cases k with
 | zero=>exact absurd h (by simp [quarryref18_compact.f])
 | succ k =>
 simp only [quarryref18_compact.f] at h
 have hu25:=Tryz.underlying25;have HR0_4:=Aside0.mk hr0_4;have HC0_4:=Aside0.mk hc0_4;clear hr0_4 hc0_4;have HR0_5:=Aside0.mk hr0_5;have HC0_5:=Aside0.mk hc0_5;clear hr0_5 hc0_5;have HB:=Aside0.mk (Below.refl w.heap.size w);have H : (if a0_0 = 5 then (quarryref18_compact.j0 k false a0_0 a0_1 a0_2 a0_3 l0_4 l0_5) else (quarryref18_compact.j0 k (a0_0 != 6) a0_0 a0_1 a0_2 a0_3 l0_4 l0_5)) = some r:=h;clear h;have HC2:=Aside0.mk H;clear H;go_enter Tryz.func23,Tryz.ntmps23
 go_upto_region 1 with (first|((with_reducible refine gate_dst (N:=1) rfl ?_);refine box_event ?hg (N:=1) ?hd (cs:=#[.int .i64 a0_0,.bool a0_1,.string a0_2,.string a0_3,.slice A0_4 l0_4.length c0_4,.slice A0_5 l0_5.length c0_5]) (t:=25) ?hr ?_;(case hd=>rfl);(case hg=>rfl);(case hr=>first|(go_simp;done)|(go_simp;rfl));intro gb284 hg w3 hbox hb;have n_:=J_ (below_step (hb_ HB) hb) (J_ (hbox) (J_ (bs_ hg HB) (Aside0.mk (bs_ hg HB))));clear HB;obtain ⟨HB,BK284,GW284,GE284⟩:=n_;clear hb hbox hg))
 (try simp only [Act.put,List.setIfInBounds_toArray,List.set_cons_zero,List.set_cons_succ])
 go_cut [14] (fun v14 wc=>∃ (kq : Nat) (x14_1 : Bool),v14 = .bool x14_1 ∧ Aside0 (quarryref18_compact.j0 kq x14_1 a0_0 a0_1 a0_2 a0_3 l0_4 l0_5 = some r) ∧ Aside0 (kq ≤ k) ∧ Aside0 (wc.heap[gb284]? = some (.cells #[.int .i64 a0_0,.bool a0_1,.string a0_2,.string a0_3,(.slice A0_4 l0_4.length c0_4),(.slice A0_5 l0_5.length c0_5)] 25 (0,0))) ∧ Aside0 (Below w.heap.size w wc))
 case first =>
  have H:=HC2.out;clear HC2
  by_cases c4 : a0_0 = 5
  ·rw [if_pos c4] at H
   have c4b0 : (a0_0 == 5) = true:=beq_iff_eq.mpr c4;have c4b1 : (a0_0 != 5) = false:=bne_eq_false_iff_eq.mpr c4;clear c4
   (first|rw [c4b0]|(simp only [i64_w,i32_w];rw [c4b0])|skip)
   have H':=Aside0.mk H;clear H;obtain ⟨hcz5_0,hcz5_1,hcz5_2,hcz5_3,hcz5_4,hcz5_5,hfz5_0,hfz5_1,hfz5_2,hfz5_3,hfz5_4,hfz5_5⟩:=cf6_ BK284;go_wp2
   go_meet
   case rel=>exact ⟨_,(false),rr_,(by first|exact H'|(subst_vars;exact H')),⟨by first|omega|exact Nat.le_refl _⟩,⟨(bk_ BK284)⟩,⟨(hb_ HB)⟩⟩
  rw [if_neg c4] at H
  have c4b0 : (a0_0 == 5) = false:=beq_eq_false_iff_ne.mpr c4;have c4b1 : (a0_0 != 5) = true:=bne_iff_ne.mpr c4
  (first|rw [c4b0]|(simp only [i64_w,i32_w];rw [c4b0])|skip)
  have H':=Aside0.mk H;clear H;obtain ⟨hcz6_0,hcz6_1,hcz6_2,hcz6_3,hcz6_4,hcz6_5,hfz6_0,hfz6_1,hfz6_2,hfz6_3,hfz6_4,hfz6_5⟩:=cf6_ BK284;go_wp2
  go_meet
  case rel=>exact ⟨_,((a0_0 != 6)),rr_,(by first|exact H'|(subst_vars;exact H')),⟨by first|omega|exact Nat.le_refl _⟩,⟨(bk_ BK284)⟩,⟨(hb_ HB)⟩⟩
 case rest =>
  clear HC2;obtain ⟨kq,x14_1,rfl,HA,HJ1,BK284,HB⟩:=hcut
  cases kq with
  | zero=>exact absurd HA.out (by simp [quarryref18_compact.j0])
  | succ kj1 =>
   have H:=HA.out;clear HA
   simp only [quarryref18_compact.j0] at H
   by_cases c7 : x14_1 = true
   ·subst c7
    have H1 : ((quarryref18_word.f kj1 a0_0 a0_1 a0_2 a0_3 l0_4 l0_5).bind fun t285=>(some t285)) = some r:=by rw [if_pos rfl] at H;exact H
    clear H;have H:=H1;clear H1;replace H:=Option.bind_eq_some_iff.mp H;obtain ⟨t285,A80,H⟩:=H;replace H : (some t285) = some r:=H;have A8:=Aside0.mk A80;clear A80;obtain rfl:=Option.some.inj H;obtain ⟨hcz9_0,hcz9_1,hcz9_2,hcz9_3,hcz9_4,hcz9_5,hfz9_0,hfz9_1,hfz9_2,hfz9_3,hfz9_4,hfz9_5⟩:=cf6_ BK284
    go_wp2_with (first|((with_reducible refine gate_callee (f:=36) rfl ?_);refine goesL_ (some 16) rfl rfl Tryz.func36 (by kernel_rfl) rfl #[.agg #[.int .i64 a0_0,.bool a0_1,.string a0_2,.string a0_3,.slice A0_4 l0_4.length c0_4,.slice A0_5 l0_5.length c0_5]] rfl am_ ?_;(with_reducible refine (quarryref18_word.calls kj1 a0_0 a0_1 a0_2 a0_3 _ _ l0_4 _ _ l0_5 t285 _ ?side1 ?side2 ?side3 ?side4 A8.out).mono ?_);(case side1=>repeat (first|exact (Kd.C_below HR0_4.out HB.out)|(with_reducible refine Kd.C_alloc ?_ _)|(with_reducible refine Kd.C_drewN ?_ _)|(with_reducible refine Kd.C_drew ?_)));(case side2=>exact HC0_4.out);(case side3=>repeat (first|exact (Kd.C_below HR0_5.out HB.out)|(with_reducible refine Kd.C_alloc ?_ _)|(with_reducible refine Kd.C_drewN ?_ _)|(with_reducible refine Kd.C_drew ?_)));(case side4=>exact HC0_5.out);rintro e w10 ⟨rfl,hb⟩;refine ⟨_,rfl,?_⟩;have n_:=J_ (bkb_ BK284 hb) (Aside0.mk (below_step (hb_ HB) hb));clear BK284 HB;obtain ⟨BK284,HB⟩:=n_;(try clear hb);(try clear hb2);(try clear hk);(try clear hi)))
    go_ret;exact ⟨er_,(hb_ HB)⟩
   replace c7:=Bool.eq_false_iff.mpr c7;subst c7
   have H1 : ((quarryref18_ends.f a0_0 a0_1 a0_2 a0_3 l0_4 l0_5).bind fun bt286=>(quarryref18_compact.l0 kj1 bt286.2 bt286.1 0 a0_0 a0_1 a0_2 a0_3 l0_4 l0_5)) = some r:=by rw [if_neg (show ¬ (false = true) by decide)] at H;exact H
   clear H;have H:=H1;clear H1;replace H:=Option.bind_eq_some_iff.mp H;obtain ⟨⟨t286,t287⟩,A110,H⟩:=H;replace H : (quarryref18_compact.l0 kj1 t287 t286 0 a0_0 a0_1 a0_2 a0_3 l0_4 l0_5) = some r:=H;have A11:=Aside0.mk A110;clear A110;have H':=Aside0.mk H;clear H;obtain ⟨hcz12_0,hcz12_1,hcz12_2,hcz12_3,hcz12_4,hcz12_5,hfz12_0,hfz12_1,hfz12_2,hfz12_3,hfz12_4,hfz12_5⟩:=cf6_ BK284
   go_wp2_with (first|((with_reducible refine gate_callee (f:=37) rfl ?_);refine goesL_ (some 19) rfl rfl Tryz.func37 (by kernel_rfl) rfl #[.agg #[.int .i64 a0_0,.bool a0_1,.string a0_2,.string a0_3,.slice A0_4 l0_4.length c0_4,.slice A0_5 l0_5.length c0_5]] rfl am_ ?_;(with_reducible refine (quarryref18_ends.calls a0_0 a0_1 a0_2 a0_3 _ _ l0_4 _ _ l0_5 t286 t287 _ ?side1 ?side2 ?side3 ?side4 A11.out).mono ?_);(case side1=>repeat (first|exact (Kd.C_below HR0_4.out HB.out)|(with_reducible refine Kd.C_alloc ?_ _)|(with_reducible refine Kd.C_drewN ?_ _)|(with_reducible refine Kd.C_drew ?_)));(case side2=>exact HC0_4.out);(case side3=>repeat (first|exact (Kd.C_below HR0_5.out HB.out)|(with_reducible refine Kd.C_alloc ?_ _)|(with_reducible refine Kd.C_drewN ?_ _)|(with_reducible refine Kd.C_drew ?_)));(case side4=>exact HC0_5.out);rintro e w13 ⟨rfl,hb⟩;refine ⟨_,rfl,?_⟩;have n_:=J_ (bkb_ BK284 hb) (Aside0.mk (below_step (hb_ HB) hb));clear BK284 HB;obtain ⟨BK284,HB⟩:=n_;(try clear hb);(try clear hb2);(try clear hk);(try clear hi)))
   go_loopg [5,6] kj1 (fun kq v5 v6 w'=>∃ (x5_2 : ByteArray) (x6_2 : Int),v5 = .string x5_2 ∧ v6 = .int .i64 x6_2 ∧ Aside0 (quarryref18_compact.l0 kq t287 x5_2 x6_2 a0_0 a0_1 a0_2 a0_3 l0_4 l0_5 = some r) ∧ Aside0 (kq ≤ kj1) ∧ Aside0 (w'.heap[gb284]? = some (.cells #[.int .i64 a0_0,.bool a0_1,.string a0_2,.string a0_3,(.slice A0_4 l0_4.length c0_4),(.slice A0_5 l0_5.length c0_5)] 25 (0,0))) ∧ Aside0 (Below w.heap.size w w'))
   case atStart=>exact ⟨(t286),(0),rr_,rr_,H',⟨Nat.le_refl _⟩,⟨(bk_ BK284)⟩,⟨(hb_ HB)⟩⟩
   case round =>
    clear H'
    try clear BK284
    try clear HB
    obtain ⟨x5_2,x6_2,rfl,rfl,HA,HK2,BK284,HB⟩:=hrel
    cases gk with
    | zero=>exact absurd HA.out (by simp [quarryref18_compact.l0])
    | succ k2 =>
     have H:=HA.out;clear HA
     simp only [quarryref18_compact.l0] at H
     by_cases c14 : x6_2 < (l0_5.length : Int)
     ·rw [if_pos c14] at H
      have c14b0 : decide (x6_2 < (l0_5.length : Int)) = true:=decide_eq_true c14;clear c14;have HC15:=Aside0.mk H;clear H;obtain ⟨hcz16_0,hcz16_1,hcz16_2,hcz16_3,hcz16_4,hcz16_5,hfz16_0,hfz16_1,hfz16_2,hfz16_3,hfz16_4,hfz16_5⟩:=cf6_ BK284
      go_upto_if 31 with (fail)
      go_cut [5] (fun v5 wc=>∃ (kq : Nat) (x5_14 : ByteArray),v5 = .string x5_14 ∧ Aside0 (quarryref18_compact.j2 kq t287 x5_14 x6_2 a0_0 a0_1 a0_2 a0_3 l0_4 l0_5 = some r) ∧ Aside0 (kq ≤ k2) ∧ Aside0 (wc.heap[gb284]? = some (.cells #[.int .i64 a0_0,.bool a0_1,.string a0_2,.string a0_3,(.slice A0_4 l0_4.length c0_4),(.slice A0_5 l0_5.length c0_5)] 25 (0,0))) ∧ Aside0 (Below w.heap.size w wc))
      case first =>
       have H:=HC15.out;clear HC15
       by_cases c17 : x6_2 > 0
       ·rw [if_pos c17] at H
        have c17b0 : decide (0 < x6_2) = true:=decide_eq_true c17;clear c17
        (first|rw [c17b0]|(simp only [i64_w,i32_w];rw [c17b0])|skip)
        by_cases c18 : x5_2.size + 1 ≤ 9223372036854775807
        ·rw [if_pos c18] at H
         have c18b0:=eq_true c18;have c18b1 : decide (x5_2.size + 1 ≤ 9223372036854775807) = true:=decide_eq_true c18
         try have c18b2 : (9223372036854775807 < x5_2.size + 1) = False:=eq_false (Nat.not_lt.2 c18)
         have H':=Aside0.mk H;clear H;go_wp2
         go_meet
         case rel=>exact ⟨_,(x5_2 ++ (⟨#[44]⟩ : ByteArray)),rr_,(by first|exact H'|(subst_vars;exact H')),⟨by have:=HJ1.out;have:=HK2.out;first|omega|exact Nat.le_refl _⟩,⟨(bk_ BK284)⟩,⟨(hb_ HB)⟩⟩
        rw [if_neg c18] at H
        exact absurd H (by simp)
       rw [if_neg c17] at H
       have c17b0 : decide (0 < x6_2) = false:=decide_eq_false c17;clear c17
       (first|rw [c17b0]|(simp only [i64_w,i32_w];rw [c17b0])|skip)
       have H':=Aside0.mk H;clear H;go_wp2
       go_meet
       case rel=>exact ⟨_,(x5_2),rr_,(by first|exact H'|(subst_vars;exact H')),⟨by have:=HJ1.out;have:=HK2.out;first|omega|exact Nat.le_refl _⟩,⟨(bk_ BK284)⟩,⟨(hb_ HB)⟩⟩
      case rest =>
       clear HC15;obtain ⟨kq,x5_14,rfl,HA,HJ14,BK284,HB⟩:=hcut
       cases kq with
       | zero=>exact absurd HA.out (by simp [quarryref18_compact.j2])
       | succ kj14 =>
        have H:=HA.out;clear HA
        simp only [quarryref18_compact.j2] at H
        by_cases c19 : a0_0 = 6
        ·rw [if_pos c19] at H
         have c19b0 : (a0_0 == 6) = true:=beq_iff_eq.mpr c19;have c19b1 : (a0_0 != 6) = false:=bne_eq_false_iff_eq.mpr c19;clear c19
         by_cases c20 : 0 ≤ x6_2
         ·rw [if_pos c20] at H
          have c20b0 : decide (0 ≤ x6_2) = true:=decide_eq_true c20;clear c20
          by_cases c21 : x6_2 < (l0_4.length : Int)
          ·rw [if_pos c21] at H
           have c21b0 : decide (x6_2 < (l0_4.length : Int)) = true:=decide_eq_true c21;clear c21;replace H:=Option.bind_eq_some_iff.mp H;obtain ⟨t289,A220,H⟩:=H;replace H : (if x5_14.size + t289.size ≤ 9223372036854775807 then (if (x5_14 ++ t289).size + 1 ≤ 9223372036854775807 then (if x6_2 < (l0_5.length : Int) then ((quarryref18_compact.f kj14 ((rd_T25 l0_5 x6_2).f0) ((rd_T25 l0_5 x6_2).f1) ((rd_T25 l0_5 x6_2).f2) ((rd_T25 l0_5 x6_2).f3) ((rd_T25 l0_5 x6_2).f4) ((rd_T25 l0_5 x6_2).f5)).bind fun t291=>(if ((x5_14 ++ t289) ++ (⟨#[58]⟩ : ByteArray)).size + t291.size ≤ 9223372036854775807 then (quarryref18_compact.l0 kj14 t287 (((x5_14 ++ t289) ++ (⟨#[58]⟩ : ByteArray)) ++ t291) (wrap64 (x6_2 + 1)) a0_0 a0_1 a0_2 a0_3 l0_4 l0_5) else (none))) else (none)) else (none)) else (none)) = some r:=H;have A22:=Aside0.mk A220;clear A220
           by_cases c23 : x5_14.size + t289.size ≤ 9223372036854775807
           ·rw [if_pos c23] at H
            have c23b0:=eq_true c23;have c23b1 : decide (x5_14.size + t289.size ≤ 9223372036854775807) = true:=decide_eq_true c23
            try have c23b2 : (9223372036854775807 < x5_14.size + t289.size) = False:=eq_false (Nat.not_lt.2 c23)
            by_cases c24 : (x5_14 ++ t289).size + 1 ≤ 9223372036854775807
            ·rw [if_pos c24] at H
             have c24b0:=eq_true c24;have c24b1 : decide ((x5_14 ++ t289).size + 1 ≤ 9223372036854775807) = true:=decide_eq_true c24
             try have c24b2 : (9223372036854775807 < (x5_14 ++ t289).size + 1) = False:=eq_false (Nat.not_lt.2 c24)
             try have c24b4 : (9223372036854775807 < x5_14.size + t289.size + 1) = False:=eq_false (Nat.not_lt.2 (by have h_:=c24;simp only [ByteArray.size_append] at h_;exact h_))
             by_cases c25 : x6_2 < (l0_5.length : Int)
             ·rw [if_pos c25] at H
              have c25b0 : decide (x6_2 < (l0_5.length : Int)) = true:=decide_eq_true c25;clear c25;replace H:=Option.bind_eq_some_iff.mp H;obtain ⟨t291,A260,H⟩:=H;replace H : (if ((x5_14 ++ t289) ++ (⟨#[58]⟩ : ByteArray)).size + t291.size ≤ 9223372036854775807 then (quarryref18_compact.l0 kj14 t287 (((x5_14 ++ t289) ++ (⟨#[58]⟩ : ByteArray)) ++ t291) (wrap64 (x6_2 + 1)) a0_0 a0_1 a0_2 a0_3 l0_4 l0_5) else (none)) = some r:=H;have A26:=Aside0.mk A260;clear A260
              by_cases c27 : ((x5_14 ++ t289) ++ (⟨#[58]⟩ : ByteArray)).size + t291.size ≤ 9223372036854775807
              ·rw [if_pos c27] at H
               have c27b0:=eq_true c27;have c27b1 : decide (((x5_14 ++ t289) ++ (⟨#[58]⟩ : ByteArray)).size + t291.size ≤ 9223372036854775807) = true:=decide_eq_true c27
               try have c27b2 : (9223372036854775807 < ((x5_14 ++ t289) ++ (⟨#[58]⟩ : ByteArray)).size + t291.size) = False:=eq_false (Nat.not_lt.2 c27)
               try have c27b4 : (9223372036854775807 < x5_14.size + t289.size + 1 + t291.size) = False:=eq_false (Nat.not_lt.2 (by have h_:=c27;simp only [ByteArray.size_append] at h_;exact h_))
               have H':=Aside0.mk H;clear H;obtain ⟨hcz28_0,hcz28_1,hcz28_2,hcz28_3,hcz28_4,hcz28_5,hfz28_0,hfz28_1,hfz28_2,hfz28_3,hfz28_4,hfz28_5⟩:=cf6_ BK284;have p288 : 0 ≤ (x6_2 : Int):=of_decide_eq_true aa_;have q288 : x6_2 < (l0_4.length : Int):=of_decide_eq_true aa_;obtain ⟨ad288,e288,hx288_0⟩:=Kd.at_string HR0_4.out x6_2 p288 q288;cases e288;replace hx288_0:=(HB.out.cell (World.block_lt_of_cell? w _ hx288_0)).trans hx288_0;replace p288:=eq_true p288;replace q288:=eq_true q288
               go_wp2_with (first|((with_reducible refine gate_callee (f:=38) rfl ?_);refine goesL_ (some 43) rfl rfl Tryz.func38 (by kernel_rfl) rfl #[.string (rdOf ByteArray.empty l0_4 x6_2)] rfl am_ ?_;(with_reducible refine (quarryref18_Quoted.calls kj14 (rdOf ByteArray.empty l0_4 x6_2) t289 _ A22.out).mono ?_);rintro e w29 ⟨rfl,hb⟩;refine ⟨_,rfl,?_⟩;have n_:=J_ (bkb_ BK284 hb) (Aside0.mk (below_step (hb_ HB) hb));clear BK284 HB;obtain ⟨BK284,HB⟩:=n_;(try clear hb);(try clear hb2);(try clear hk);(try clear hi);obtain ⟨hcz30_0,hcz30_1,hcz30_2,hcz30_3,hcz30_4,hcz30_5,hfz30_0,hfz30_1,hfz30_2,hfz30_3,hfz30_4,hfz30_5⟩:=cf6_ BK284;have p290 : 0 ≤ (x6_2 : Int):=of_decide_eq_true aa_;have q290 : x6_2 < (l0_5.length : Int):=of_decide_eq_true aa_;obtain ⟨ad290,A290_4,c290_4,A290_5,c290_5,e290,hx290_0,hx290_1,hx290_2,hx290_3,hx290_4,hx290_5,hl290_4,hi290_4,hl290_5,hi290_5⟩:=at_T25 HR0_5.out x6_2 p290 q290;cases e290;replace hx290_0:=(HB.out.cell (World.block_lt_of_cell? w _ hx290_0)).trans hx290_0;replace hx290_1:=(HB.out.cell (World.block_lt_of_cell? w _ hx290_1)).trans hx290_1;replace hx290_2:=(HB.out.cell (World.block_lt_of_cell? w _ hx290_2)).trans hx290_2;replace hx290_3:=(HB.out.cell (World.block_lt_of_cell? w _ hx290_3)).trans hx290_3;replace hx290_4:=(HB.out.cell (World.block_lt_of_cell? w _ hx290_4)).trans hx290_4;replace hx290_5:=(HB.out.cell (World.block_lt_of_cell? w _ hx290_5)).trans hx290_5;have HR290_4:=Aside0.mk hi290_4;have HC290_4:=Aside0.mk hl290_4;clear hi290_4 hl290_4;have HR290_5:=Aside0.mk hi290_5;have HC290_5:=Aside0.mk hl290_5;clear hi290_5 hl290_5;replace p290:=eq_true p290;replace q290:=eq_true q290)|((with_reducible refine gate_callee (f:=23) rfl ?_);refine goesL_ (some 52) rfl rfl Tryz.func23 (by kernel_rfl) rfl #[.agg #[.int .i64 ((rd_T25 l0_5 x6_2).f0),.bool ((rd_T25 l0_5 x6_2).f1),.string ((rd_T25 l0_5 x6_2).f2),.string ((rd_T25 l0_5 x6_2).f3),.slice A290_4 ((rd_T25 l0_5 x6_2).f4).length c290_4,.slice A290_5 ((rd_T25 l0_5 x6_2).f5).length c290_5]] rfl am_ ?_;(with_reducible refine (ih kj14 (by have:=HJ1.out;have:=HK2.out;have:=HJ14.out;omega) ((rd_T25 l0_5 x6_2).f0) ((rd_T25 l0_5 x6_2).f1) ((rd_T25 l0_5 x6_2).f2) ((rd_T25 l0_5 x6_2).f3) _ _ ((rd_T25 l0_5 x6_2).f4) _ _ ((rd_T25 l0_5 x6_2).f5) t291 _ ?side1 ?side2 ?side3 ?side4 A26.out).mono ?_);(case side1=>repeat (first|exact (Kd.C_below HR290_4.out HB.out)|(with_reducible refine Kd.C_alloc ?_ _)|(with_reducible refine Kd.C_drewN ?_ _)|(with_reducible refine Kd.C_drew ?_)));(case side2=>exact HC290_4.out);(case side3=>repeat (first|exact (Kd.C_below HR290_5.out HB.out)|(with_reducible refine Kd.C_alloc ?_ _)|(with_reducible refine Kd.C_drewN ?_ _)|(with_reducible refine Kd.C_drew ?_)));(case side4=>exact HC290_5.out);rintro e w31 ⟨rfl,hb⟩;refine ⟨_,rfl,?_⟩;have n_:=J_ (bkb_ BK284 hb) (Aside0.mk (below_step (hb_ HB) hb));clear BK284 HB;obtain ⟨BK284,HB⟩:=n_;(try clear hb);(try clear hb2);(try clear hk);(try clear hi)))
               go_roundg kj14
               case measure=>have:=HJ1.out;have:=HK2.out;have:=HJ14.out;omega
               case rel=>exact ⟨(((x5_14 ++ t289) ++ (⟨#[58]⟩ : ByteArray)) ++ t291),(wrap64 (x6_2 + 1)),rr_,rr_,(by first|exact H'|(subst_vars;exact H')),⟨by have:=HJ1.out;have:=HK2.out;have:=HJ14.out;omega⟩,⟨(bk_ BK284)⟩,⟨(hb_ HB)⟩⟩
              rw [if_neg c27] at H
              exact absurd H (by simp)
             rw [if_neg c25] at H
             exact absurd H (by simp)
            rw [if_neg c24] at H
            exact absurd H (by simp)
           rw [if_neg c23] at H
           exact absurd H (by simp)
          rw [if_neg c21] at H
          exact absurd H (by simp)
         rw [if_neg c20] at H
         exact absurd H (by simp)
        rw [if_neg c19] at H
        have c19b0 : (a0_0 == 6) = false:=beq_eq_false_iff_ne.mpr c19;have c19b1 : (a0_0 != 6) = true:=bne_iff_ne.mpr c19
        by_cases c32 : 0 ≤ x6_2
        ·rw [if_pos c32] at H
         have c32b0 : decide (0 ≤ x6_2) = true:=decide_eq_true c32;clear c32
         by_cases c33 : x6_2 < (l0_5.length : Int)
         ·rw [if_pos c33] at H
          have c33b0 : decide (x6_2 < (l0_5.length : Int)) = true:=decide_eq_true c33;clear c33;replace H:=Option.bind_eq_some_iff.mp H;obtain ⟨t293,A340,H⟩:=H;replace H : (if x5_14.size + t293.size ≤ 9223372036854775807 then (quarryref18_compact.l0 kj14 t287 (x5_14 ++ t293) (wrap64 (x6_2 + 1)) a0_0 a0_1 a0_2 a0_3 l0_4 l0_5) else (none)) = some r:=H;have A34:=Aside0.mk A340;clear A340
          by_cases c35 : x5_14.size + t293.size ≤ 9223372036854775807
          ·rw [if_pos c35] at H
           have c35b0:=eq_true c35;have c35b1 : decide (x5_14.size + t293.size ≤ 9223372036854775807) = true:=decide_eq_true c35
           try have c35b2 : (9223372036854775807 < x5_14.size + t293.size) = False:=eq_false (Nat.not_lt.2 c35)
           have H':=Aside0.mk H;clear H;obtain ⟨hcz36_0,hcz36_1,hcz36_2,hcz36_3,hcz36_4,hcz36_5,hfz36_0,hfz36_1,hfz36_2,hfz36_3,hfz36_4,hfz36_5⟩:=cf6_ BK284;have p292 : 0 ≤ (x6_2 : Int):=of_decide_eq_true aa_;have q292 : x6_2 < (l0_5.length : Int):=of_decide_eq_true aa_;obtain ⟨ad292,A292_4,c292_4,A292_5,c292_5,e292,hx292_0,hx292_1,hx292_2,hx292_3,hx292_4,hx292_5,hl292_4,hi292_4,hl292_5,hi292_5⟩:=at_T25 HR0_5.out x6_2 p292 q292;cases e292;replace hx292_0:=(HB.out.cell (World.block_lt_of_cell? w _ hx292_0)).trans hx292_0;replace hx292_1:=(HB.out.cell (World.block_lt_of_cell? w _ hx292_1)).trans hx292_1;replace hx292_2:=(HB.out.cell (World.block_lt_of_cell? w _ hx292_2)).trans hx292_2;replace hx292_3:=(HB.out.cell (World.block_lt_of_cell? w _ hx292_3)).trans hx292_3;replace hx292_4:=(HB.out.cell (World.block_lt_of_cell? w _ hx292_4)).trans hx292_4;replace hx292_5:=(HB.out.cell (World.block_lt_of_cell? w _ hx292_5)).trans hx292_5;have HR292_4:=Aside0.mk hi292_4;have HC292_4:=Aside0.mk hl292_4;clear hi292_4 hl292_4;have HR292_5:=Aside0.mk hi292_5;have HC292_5:=Aside0.mk hl292_5;clear hi292_5 hl292_5;replace p292:=eq_true p292;replace q292:=eq_true q292
           go_wp2_with (first|((with_reducible refine gate_callee (f:=23) rfl ?_);refine goesL_ (some 52) rfl rfl Tryz.func23 (by kernel_rfl) rfl #[.agg #[.int .i64 ((rd_T25 l0_5 x6_2).f0),.bool ((rd_T25 l0_5 x6_2).f1),.string ((rd_T25 l0_5 x6_2).f2),.string ((rd_T25 l0_5 x6_2).f3),.slice A292_4 ((rd_T25 l0_5 x6_2).f4).length c292_4,.slice A292_5 ((rd_T25 l0_5 x6_2).f5).length c292_5]] rfl am_ ?_;(with_reducible refine (ih kj14 (by have:=HJ1.out;have:=HK2.out;have:=HJ14.out;omega) ((rd_T25 l0_5 x6_2).f0) ((rd_T25 l0_5 x6_2).f1) ((rd_T25 l0_5 x6_2).f2) ((rd_T25 l0_5 x6_2).f3) _ _ ((rd_T25 l0_5 x6_2).f4) _ _ ((rd_T25 l0_5 x6_2).f5) t293 _ ?side1 ?side2 ?side3 ?side4 A34.out).mono ?_);(case side1=>repeat (first|exact (Kd.C_below HR292_4.out HB.out)|(with_reducible refine Kd.C_alloc ?_ _)|(with_reducible refine Kd.C_drewN ?_ _)|(with_reducible refine Kd.C_drew ?_)));(case side2=>exact HC292_4.out);(case side3=>repeat (first|exact (Kd.C_below HR292_5.out HB.out)|(with_reducible refine Kd.C_alloc ?_ _)|(with_reducible refine Kd.C_drewN ?_ _)|(with_reducible refine Kd.C_drew ?_)));(case side4=>exact HC292_5.out);rintro e w37 ⟨rfl,hb⟩;refine ⟨_,rfl,?_⟩;have n_:=J_ (bkb_ BK284 hb) (Aside0.mk (below_step (hb_ HB) hb));clear BK284 HB;obtain ⟨BK284,HB⟩:=n_;(try clear hb);(try clear hb2);(try clear hk);(try clear hi)))
           go_roundg kj14
           case measure=>have:=HJ1.out;have:=HK2.out;have:=HJ14.out;omega
           case rel=>exact ⟨(x5_14 ++ t293),(wrap64 (x6_2 + 1)),rr_,rr_,(by first|exact H'|(subst_vars;exact H')),⟨by have:=HJ1.out;have:=HK2.out;have:=HJ14.out;omega⟩,⟨(bk_ BK284)⟩,⟨(hb_ HB)⟩⟩
          rw [if_neg c35] at H
          exact absurd H (by simp)
         rw [if_neg c33] at H
         exact absurd H (by simp)
        rw [if_neg c32] at H
        exact absurd H (by simp)
     rw [if_neg c14] at H
     have c14b0 : decide (x6_2 < (l0_5.length : Int)) = false:=decide_eq_false c14;clear c14
     by_cases c38 : x5_2.size + t287.size ≤ 9223372036854775807
     ·rw [if_pos c38] at H
      have c38b0:=eq_true c38;have c38b1 : decide (x5_2.size + t287.size ≤ 9223372036854775807) = true:=decide_eq_true c38
      try have c38b2 : (9223372036854775807 < x5_2.size + t287.size) = False:=eq_false (Nat.not_lt.2 c38)
      obtain rfl:=Option.some.inj H;obtain ⟨hcz39_0,hcz39_1,hcz39_2,hcz39_3,hcz39_4,hcz39_5,hfz39_0,hfz39_1,hfz39_2,hfz39_3,hfz39_4,hfz39_5⟩:=cf6_ BK284;go_wp2
      go_ret;exact ⟨er_,(hb_ HB)⟩
     rw [if_neg c38] at H
     exact absurd H (by simp)
def quarryref18_Compact.f (k : Nat) (a0_0 : Int) (a0_1 : Bool) (a0_2 : ByteArray) (a0_3 : ByteArray) (l0_4 : List ByteArray) (l0_5 : List (S25)) : Option (ByteArray × Int):=(quarryref17_Formed.f k a0_0 a0_1 a0_2 a0_3 l0_4 l0_5).bind fun t295=>(if t295 = true then ((quarryref18_compact.f k a0_0 a0_1 a0_2 a0_3 l0_4 l0_5).bind fun t296=>(some (t296,0))) else (some ((⟨#[]⟩ : ByteArray),1)))
set_option maxHeartbeats 8000000 in
set_option maxRecDepth 100000 in
theorem quarryref18_Compact.calls (k : Nat) (a0_0 : Int) (a0_1 : Bool) (a0_2 : ByteArray) (a0_3 : ByteArray) (A0_4 : Option Addr) (c0_4 : Nat) (l0_4 : List ByteArray) (A0_5 : Option Addr) (c0_5 : Nat) (l0_5 : List (S25)) (r1 : ByteArray) (r2 : Int) (w : World) (hr0_4 : Kd.C Kd.string w A0_4 l0_4.length l0_4) (hc0_4 : l0_4.length ≤ c0_4) (hr0_5 : Kd.C k25 w A0_5 l0_5.length l0_5) (hc0_5 : l0_5.length ≤ c0_5) (h : quarryref18_Compact.f k a0_0 a0_1 a0_2 a0_3 l0_4 l0_5 = some (r1,r2)) :
  Calls Tryz.prog 9 #[.agg #[.int .i64 a0_0,.bool a0_1,.string a0_2,.string a0_3,.slice A0_4 l0_4.length c0_4,.slice A0_5 l0_5.length c0_5]] w fun e w'=>e = .returned (.tuple #[.string r1,.int .i64 r2]) ∧ Below w.heap.size w w':=by
 have hu25:=Tryz.underlying25;have HR0_4:=Aside0.mk hr0_4;have HC0_4:=Aside0.mk hc0_4;clear hr0_4 hc0_4;have HR0_5:=Aside0.mk hr0_5;have HC0_5:=Aside0.mk hc0_5;clear hr0_5 hc0_5;have HB:=Aside0.mk (Below.refl w.heap.size w);have H : ((quarryref17_Formed.f k a0_0 a0_1 a0_2 a0_3 l0_4 l0_5).bind fun t295=>(if t295 = true then ((quarryref18_compact.f k a0_0 a0_1 a0_2 a0_3 l0_4 l0_5).bind fun t296=>(some (t296,0))) else (some ((⟨#[]⟩ : ByteArray),1)))) = some (r1,r2):=h;clear h;replace H:=Option.bind_eq_some_iff.mp H;obtain ⟨t295,A20,H⟩:=H;replace H : (if t295 = true then ((quarryref18_compact.f k a0_0 a0_1 a0_2 a0_3 l0_4 l0_5).bind fun t296=>(some (t296,0))) else (some ((⟨#[]⟩ : ByteArray),1))) = some (r1,r2):=H;have A2:=Aside0.mk A20;clear A20
 by_cases c3 : t295 = true
 ·subst c3
  have H1 : ((quarryref18_compact.f k a0_0 a0_1 a0_2 a0_3 l0_4 l0_5).bind fun t296=>(some (t296,0))) = some (r1,r2):=by rw [if_pos rfl] at H;exact H
  clear H;have H:=H1;clear H1;replace H:=Option.bind_eq_some_iff.mp H;obtain ⟨t296,A40,H⟩:=H;replace H : (some (t296,0)) = some (r1,r2):=H;have A4:=Aside0.mk A40;clear A40
  simp only [Option.some.injEq,Prod.mk.injEq] at H
  obtain ⟨rfl,rfl⟩:=H;go_enter Tryz.func9,Tryz.ntmps9
  go_wp2_with (first|((with_reducible refine gate_dst (N:=1) rfl ?_);refine box_event ?hg (N:=1) ?hd (cs:=#[.int .i64 a0_0,.bool a0_1,.string a0_2,.string a0_3,.slice A0_4 l0_4.length c0_4,.slice A0_5 l0_5.length c0_5]) (t:=25) ?hr ?_;(case hd=>rfl);(case hg=>rfl);(case hr=>first|(go_simp;done)|(go_simp;rfl));intro gb294 hg w5 hbox hb;have n_:=J_ (below_step (hb_ HB) hb) (J_ (hbox) (J_ (bs_ hg HB) (Aside0.mk (bs_ hg HB))));clear HB;obtain ⟨HB,BK294,GW294,GE294⟩:=n_;clear hb hbox hg;obtain ⟨hcz6_0,hcz6_1,hcz6_2,hcz6_3,hcz6_4,hcz6_5,hfz6_0,hfz6_1,hfz6_2,hfz6_3,hfz6_4,hfz6_5⟩:=cf6_ BK294)|((with_reducible refine gate_callee (f:=22) rfl ?_);refine goesL_ (some 5) rfl rfl Tryz.func22 (by kernel_rfl) rfl #[.agg #[.int .i64 a0_0,.bool a0_1,.string a0_2,.string a0_3,.slice A0_4 l0_4.length c0_4,.slice A0_5 l0_5.length c0_5]] rfl am_ ?_;(with_reducible refine (quarryref17_Formed.calls k a0_0 a0_1 a0_2 a0_3 _ _ l0_4 _ _ l0_5 true _ ?side1 ?side2 ?side3 ?side4 A2.out).mono ?_);(case side1=>repeat (first|exact (Kd.C_below HR0_4.out HB.out)|(with_reducible refine Kd.C_alloc ?_ _)|(with_reducible refine Kd.C_drewN ?_ _)|(with_reducible refine Kd.C_drew ?_)));(case side2=>exact HC0_4.out);(case side3=>repeat (first|exact (Kd.C_below HR0_5.out HB.out)|(with_reducible refine Kd.C_alloc ?_ _)|(with_reducible refine Kd.C_drewN ?_ _)|(with_reducible refine Kd.C_drew ?_)));(case side4=>exact HC0_5.out);rintro e w7 ⟨rfl,hb⟩;refine ⟨_,rfl,?_⟩;have n_:=J_ (bkb_ BK294 hb) (Aside0.mk (below_step (hb_ HB) hb));clear BK294 HB;obtain ⟨BK294,HB⟩:=n_;(try clear hb);(try clear hb2);(try clear hk);(try clear hi);obtain ⟨hcz8_0,hcz8_1,hcz8_2,hcz8_3,hcz8_4,hcz8_5,hfz8_0,hfz8_1,hfz8_2,hfz8_3,hfz8_4,hfz8_5⟩:=cf6_ BK294)|((with_reducible refine gate_callee (f:=23) rfl ?_);refine goesL_ (some 8) rfl rfl Tryz.func23 (by kernel_rfl) rfl #[.agg #[.int .i64 a0_0,.bool a0_1,.string a0_2,.string a0_3,.slice A0_4 l0_4.length c0_4,.slice A0_5 l0_5.length c0_5]] rfl am_ ?_;(with_reducible refine (quarryref18_compact.calls k a0_0 a0_1 a0_2 a0_3 _ _ l0_4 _ _ l0_5 t296 _ ?side1 ?side2 ?side3 ?side4 A4.out).mono ?_);(case side1=>repeat (first|exact (Kd.C_below HR0_4.out HB.out)|(with_reducible refine Kd.C_alloc ?_ _)|(with_reducible refine Kd.C_drewN ?_ _)|(with_reducible refine Kd.C_drew ?_)));(case side2=>exact HC0_4.out);(case side3=>repeat (first|exact (Kd.C_below HR0_5.out HB.out)|(with_reducible refine Kd.C_alloc ?_ _)|(with_reducible refine Kd.C_drewN ?_ _)|(with_reducible refine Kd.C_drew ?_)));(case side4=>exact HC0_5.out);rintro e w9 ⟨rfl,hb⟩;refine ⟨_,rfl,?_⟩;have n_:=J_ (bkb_ BK294 hb) (Aside0.mk (below_step (hb_ HB) hb));clear BK294 HB;obtain ⟨BK294,HB⟩:=n_;(try clear hb);(try clear hb2);(try clear hk);(try clear hi)))
  go_ret2
  exact ⟨er_,(hb_ HB)⟩
 replace c3:=Bool.eq_false_iff.mpr c3;subst c3
 have H1 : (some ((⟨#[]⟩ : ByteArray),1)) = some (r1,r2):=by rw [if_neg (show ¬ (false = true) by decide)] at H;exact H
 clear H;have H:=H1;clear H1
 simp only [Option.some.injEq,Prod.mk.injEq] at H
 obtain ⟨rfl,rfl⟩:=H;go_enter Tryz.func9,Tryz.ntmps9
 go_wp2_with (first|((with_reducible refine gate_dst (N:=1) rfl ?_);refine box_event ?hg (N:=1) ?hd (cs:=#[.int .i64 a0_0,.bool a0_1,.string a0_2,.string a0_3,.slice A0_4 l0_4.length c0_4,.slice A0_5 l0_5.length c0_5]) (t:=25) ?hr ?_;(case hd=>rfl);(case hg=>rfl);(case hr=>first|(go_simp;done)|(go_simp;rfl));intro gb294 hg w10 hbox hb;have n_:=J_ (below_step (hb_ HB) hb) (J_ (hbox) (J_ (bs_ hg HB) (Aside0.mk (bs_ hg HB))));clear HB;obtain ⟨HB,BK294,GW294,GE294⟩:=n_;clear hb hbox hg;obtain ⟨hcz11_0,hcz11_1,hcz11_2,hcz11_3,hcz11_4,hcz11_5,hfz11_0,hfz11_1,hfz11_2,hfz11_3,hfz11_4,hfz11_5⟩:=cf6_ BK294)|((with_reducible refine gate_callee (f:=22) rfl ?_);refine goesL_ (some 5) rfl rfl Tryz.func22 (by kernel_rfl) rfl #[.agg #[.int .i64 a0_0,.bool a0_1,.string a0_2,.string a0_3,.slice A0_4 l0_4.length c0_4,.slice A0_5 l0_5.length c0_5]] rfl am_ ?_;(with_reducible refine (quarryref17_Formed.calls k a0_0 a0_1 a0_2 a0_3 _ _ l0_4 _ _ l0_5 false _ ?side1 ?side2 ?side3 ?side4 A2.out).mono ?_);(case side1=>repeat (first|exact (Kd.C_below HR0_4.out HB.out)|(with_reducible refine Kd.C_alloc ?_ _)|(with_reducible refine Kd.C_drewN ?_ _)|(with_reducible refine Kd.C_drew ?_)));(case side2=>exact HC0_4.out);(case side3=>repeat (first|exact (Kd.C_below HR0_5.out HB.out)|(with_reducible refine Kd.C_alloc ?_ _)|(with_reducible refine Kd.C_drewN ?_ _)|(with_reducible refine Kd.C_drew ?_)));(case side4=>exact HC0_5.out);rintro e w12 ⟨rfl,hb⟩;refine ⟨_,rfl,?_⟩;have n_:=J_ (bkb_ BK294 hb) (Aside0.mk (below_step (hb_ HB) hb));clear BK294 HB;obtain ⟨BK294,HB⟩:=n_;(try clear hb);(try clear hb2);(try clear hk);(try clear hi)))
 go_ret2
 exact ⟨er_,(hb_ HB)⟩
end Go.Proofs.YtlgamjgdkljfiabGreatDoor.PWriteCompacts
