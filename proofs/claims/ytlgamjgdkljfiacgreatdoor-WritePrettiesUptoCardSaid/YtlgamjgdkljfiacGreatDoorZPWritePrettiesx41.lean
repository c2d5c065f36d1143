-- Written by shrink.py, a program of this session: what the law needs of the print and its words. Lean checks it.
import Derived.Test.YtlgamjgdkljfiacGreatDoorZPWritePrettiesx0
import Derived.Test.YtlgamjgdkljfiacGreatDoorZPWritePrettiesx37
import Derived.Test.YtlgamjgdkljfiacGreatDoorZPWritePrettiesx40
namespace Go.Proofs.YtlgamjgdkljfiacGreatDoor.PWritePretties
open Go.RowKit Go.Proofs.YtlgamjgdkljfiacGreatDoorW.PrintWords Go.Proofs.YtlgamjgdkljfiacGreatDoorW.PrintLast Go.Proofs.YtlgamjgdkljfiacGreatDoorW.PrintMore
attribute [local go_sem] max2_int min2_int max_two min_two max_three min_three max_four min_four
set_option linter.unusedVariables false
set_option linter.unusedSimpArgs false
mutual
def quarryref17_plain.j0 : Nat → Bool → Int → Bool → ByteArray → ByteArray → List ByteArray → List (S25) → Option (Bool)
 | 0,_,_,_,_,_,_,_=>none
 | k + 1,x3,x464000,x464001,x464002,x464003,x464004,x464005=>if x464000 = 1 then (if x3 = true then (if x464001 = true then (some false) else (if x464002.toList = ([] : List UInt8) then (some (x464003.toList == ([] : List UInt8))) else (some false))) else (some false)) else (if x464000 = 2 then (if x3 = true then (if x464002.toList = ([] : List UInt8) then (some (x464003.toList == ([] : List UInt8))) else (some false)) else (some false)) else (if x464000 = 3 then ((quarryref11_Of.f k x464002).bind fun bt464=>(if x3 = true then (if x464001 = true then (some false) else (if x464003.toList = ([] : List UInt8) then (if bt464.2.2.2 = 0 then (some true) else (some (bt464.2.2.2 == 111))) else (some false))) else (some false))) else (if x464000 = 4 then (if x3 = true then (if x464001 = true then (some false) else (if x464002.toList = ([] : List UInt8) then ((quarryref05_Bad.f k x464003).bind fun t469=>(some (t469 == (-1)))) else (some false))) else (some false)) else (if x464000 = 5 then (if x464001 = true then (some false) else (if x464002.toList = ([] : List UInt8) then (if x464003.toList = ([] : List UInt8) then (some ((x464004.length : Int) == 0)) else (some false)) else (some false))) else (if x464000 = 6 then (quarryref17_plain.l0 k 0 x464000 x464001 x464002 x464003 x464004 x464005) else (some false))))))
def quarryref17_plain.l0 : Nat → Int → Int → Bool → ByteArray → ByteArray → List ByteArray → List (S25) → Option (Bool)
 | 0,_,_,_,_,_,_,_=>none
 | k + 1,x6,x464000,x464001,x464002,x464003,x464004,x464005=>if x6 < (x464004.length : Int) then (if 0 ≤ x6 then ((quarryref05_Bad.f k (rdOf ByteArray.empty x464004 x6)).bind fun t471=>(if t471 = (-1) then (quarryref17_plain.l0 k (wrap64 (x6 + 1)) x464000 x464001 x464002 x464003 x464004 x464005) else (some false))) else (none)) else (if x464001 = true then (some false) else (if x464002.toList = ([] : List UInt8) then (if x464003.toList = ([] : List UInt8) then (some ((x464004.length : Int) == (x464005.length : Int))) else (some false)) else (some false)))
end
def quarryref17_plain.f (k : Nat) (a0_0 : Int) (a0_1 : Bool) (a0_2 : ByteArray) (a0_3 : ByteArray) (l0_4 : List ByteArray) (l0_5 : List (S25)) : Option (Bool):=if (l0_4.length : Int) = 0 then (quarryref17_plain.j0 k ((l0_5.length : Int) == 0) a0_0 a0_1 a0_2 a0_3 l0_4 l0_5) else (quarryref17_plain.j0 k false a0_0 a0_1 a0_2 a0_3 l0_4 l0_5)
set_option maxHeartbeats 8000000 in
set_option maxRecDepth 100000 in
theorem quarryref17_plain.calls (k : Nat) (a0_0 : Int) (a0_1 : Bool) (a0_2 : ByteArray) (a0_3 : ByteArray) (A0_4 : Option Addr) (c0_4 : Nat) (l0_4 : List ByteArray) (A0_5 : Option Addr) (c0_5 : Nat) (l0_5 : List (S25)) (r : Bool) (w : World) (hr0_4 : Kd.C Kd.string w A0_4 l0_4.length l0_4) (hc0_4 : l0_4.length ≤ c0_4) (hr0_5 : Kd.C k25 w A0_5 l0_5.length l0_5) (hc0_5 : l0_5.length ≤ c0_5) (h : quarryref17_plain.f k a0_0 a0_1 a0_2 a0_3 l0_4 l0_5 = some r) :
  Calls Tryz.prog 57 #[.agg #[.int .i64 a0_0,.bool a0_1,.string a0_2,.string a0_3,.slice A0_4 l0_4.length c0_4,.slice A0_5 l0_5.length c0_5]] w fun e w'=>e = .returned (.bool r) ∧ Below w.heap.size w w':=by
 have hu25:=Tryz.underlying25;have hu81:=Tryz.underlying81;have HR0_4:=Aside0.mk hr0_4;have HC0_4:=Aside0.mk hc0_4;clear hr0_4 hc0_4;have HR0_5:=Aside0.mk hr0_5;have HC0_5:=Aside0.mk hc0_5;clear hr0_5 hc0_5;have HB:=Aside0.mk (Below.refl w.heap.size w);have H : (if (l0_4.length : Int) = 0 then (quarryref17_plain.j0 k ((l0_5.length : Int) == 0) a0_0 a0_1 a0_2 a0_3 l0_4 l0_5) else (quarryref17_plain.j0 k false a0_0 a0_1 a0_2 a0_3 l0_4 l0_5)) = some r:=h;clear h;have HC2:=Aside0.mk H;clear H;go_enter Tryz.func57,Tryz.ntmps57
 go_upto_region 1 with (first|((with_reducible refine gate_dst (N:=1) rfl ?_);(try (refine gate_guard (by rfl) ?_;dsimp only));refine box_event ?hg (N:=1) ?hd (cs:=#[.int .i64 a0_0,.bool a0_1,.string a0_2,.string a0_3,.slice A0_4 l0_4.length c0_4,.slice A0_5 l0_5.length c0_5]) (t:=25) ?hr ?_;(case hd=>rfl);(case hg=>rfl);(case hr=>first|(go_simp;done)|(go_simp;rfl));intro gb463 hg w3 hbox hb;have n_:=J_ (below_step (hb_ HB) hb) (J_ (hbox) (J_ (bs_ hg HB) (Aside0.mk (bs_ hg HB))));clear HB;obtain ⟨HB,BK463,GW463,GE463⟩:=n_;clear hb hbox hg))
 (try simp only [Act.put,List.setIfInBounds_toArray,List.set_cons_zero,List.set_cons_succ])
 go_cut [3] (fun v3 wc=>∃ (kq : Nat) (x3_1 : Bool),v3 = .bool x3_1 ∧ Aside0 (quarryref17_plain.j0 kq x3_1 a0_0 a0_1 a0_2 a0_3 l0_4 l0_5 = some r) ∧ Aside0 (kq ≤ k) ∧ Aside0 (wc.heap[gb463]? = some (.cells #[.int .i64 a0_0,.bool a0_1,.string a0_2,.string a0_3,(.slice A0_4 l0_4.length c0_4),(.slice A0_5 l0_5.length c0_5)] 25 (0,0))) ∧ Aside0 (Below w.heap.size w wc))
 case first =>
  have H:=HC2.out;clear HC2
  by_cases c4 : (l0_4.length : Int) = 0
  ·rw [if_pos c4] at H
   have c4b0 : ((l0_4.length : Int) == 0) = true:=beq_iff_eq.mpr c4;have c4b1 : ((l0_4.length : Int) != 0) = false:=bne_eq_false_iff_eq.mpr c4;clear c4
   (first|rw [c4b0]|(simp only [i64_w,i32_w];rw [c4b0])|skip)
   have H':=Aside0.mk H;clear H;obtain ⟨hcz5_0,hcz5_1,hcz5_2,hcz5_3,hcz5_4,hcz5_5,hfz5_0,hfz5_1,hfz5_2,hfz5_3,hfz5_4,hfz5_5⟩:=cf6_ BK463;go_wp2
   go_meet
   case rel=>exact ⟨_,(((l0_5.length : Int) == 0)),rr_,(by first|exact H'|(subst_vars;exact H')),⟨by first|omega|exact Nat.le_refl _⟩,⟨(bk_ BK463)⟩,⟨(hb_ HB)⟩⟩
  rw [if_neg c4] at H
  have c4b0 : ((l0_4.length : Int) == 0) = false:=beq_eq_false_iff_ne.mpr c4;have c4b1 : ((l0_4.length : Int) != 0) = true:=bne_iff_ne.mpr c4
  have c4b2 : ¬ (l0_4 = []):=fun h_=>c4 (by rw [h_];rfl)
  (first|rw [c4b0]|(simp only [i64_w,i32_w];rw [c4b0])|skip)
  have H':=Aside0.mk H;clear H;obtain ⟨hcz6_0,hcz6_1,hcz6_2,hcz6_3,hcz6_4,hcz6_5,hfz6_0,hfz6_1,hfz6_2,hfz6_3,hfz6_4,hfz6_5⟩:=cf6_ BK463;go_wp2
  go_meet
  case rel=>exact ⟨_,(false),rr_,(by first|exact H'|(subst_vars;exact H')),⟨by first|omega|exact Nat.le_refl _⟩,⟨(bk_ BK463)⟩,⟨(hb_ HB)⟩⟩
 case rest =>
  clear HC2;obtain ⟨kq,x3_1,rfl,HA,HJ1,BK463,HB⟩:=hcut
  cases kq with
  | zero=>exact absurd HA.out (by simp [quarryref17_plain.j0])
  | succ kj1 =>
   have H:=HA.out;clear HA
   simp only [quarryref17_plain.j0] at H
   by_cases c7 : a0_0 = 1
   ·rw [if_pos c7] at H
    have c7b0 : (a0_0 == 1) = true:=beq_iff_eq.mpr c7;have c7b1 : (a0_0 != 1) = false:=bne_eq_false_iff_eq.mpr c7;clear c7
    by_cases c8 : x3_1 = true
    ·subst c8
     have H1 : (if a0_1 = true then (some false) else (if a0_2.toList = ([] : List UInt8) then (some (a0_3.toList == ([] : List UInt8))) else (some false))) = some r:=by rw [if_pos rfl] at H;exact H
     clear H;have H:=H1;clear H1
     by_cases c9 : a0_1 = true
     ·subst c9
      have H1 : (some false) = some r:=by rw [if_pos rfl] at H;exact H
      clear H;have H:=H1;clear H1;obtain rfl:=Option.some.inj H;obtain ⟨hcz10_0,hcz10_1,hcz10_2,hcz10_3,hcz10_4,hcz10_5,hfz10_0,hfz10_1,hfz10_2,hfz10_3,hfz10_4,hfz10_5⟩:=cf6_ BK463;go_wp2
      go_ret;exact ⟨er_,(hb_ HB)⟩
     replace c9:=Bool.eq_false_iff.mpr c9;subst c9
     have H1 : (if a0_2.toList = ([] : List UInt8) then (some (a0_3.toList == ([] : List UInt8))) else (some false)) = some r:=by rw [if_neg (show ¬ (false = true) by decide)] at H;exact H
     clear H;have H:=H1;clear H1
     by_cases c11 : a0_2.toList = ([] : List UInt8)
     ·rw [if_pos c11] at H
      have c11b0 : (a0_2.toList == ([] : List UInt8)) = true:=beq_iff_eq.mpr c11;have c11b1 : (a0_2.toList != ([] : List UInt8)) = false:=bne_eq_false_iff_eq.mpr c11;clear c11;obtain rfl:=Option.some.inj H;obtain ⟨hcz12_0,hcz12_1,hcz12_2,hcz12_3,hcz12_4,hcz12_5,hfz12_0,hfz12_1,hfz12_2,hfz12_3,hfz12_4,hfz12_5⟩:=cf6_ BK463;go_wp2
      go_ret;exact ⟨er_,(hb_ HB)⟩
     rw [if_neg c11] at H
     have c11b0 : (a0_2.toList == ([] : List UInt8)) = false:=beq_eq_false_iff_ne.mpr c11;have c11b1 : (a0_2.toList != ([] : List UInt8)) = true:=bne_iff_ne.mpr c11;obtain rfl:=Option.some.inj H;obtain ⟨hcz13_0,hcz13_1,hcz13_2,hcz13_3,hcz13_4,hcz13_5,hfz13_0,hfz13_1,hfz13_2,hfz13_3,hfz13_4,hfz13_5⟩:=cf6_ BK463;go_wp2
     go_ret;exact ⟨er_,(hb_ HB)⟩
    replace c8:=Bool.eq_false_iff.mpr c8;subst c8
    have H1 : (some false) = some r:=by rw [if_neg (show ¬ (false = true) by decide)] at H;exact H
    clear H;have H:=H1;clear H1;obtain rfl:=Option.some.inj H;obtain ⟨hcz14_0,hcz14_1,hcz14_2,hcz14_3,hcz14_4,hcz14_5,hfz14_0,hfz14_1,hfz14_2,hfz14_3,hfz14_4,hfz14_5⟩:=cf6_ BK463;go_wp2
    go_ret;exact ⟨er_,(hb_ HB)⟩
   rw [if_neg c7] at H
   have c7b0 : (a0_0 == 1) = false:=beq_eq_false_iff_ne.mpr c7;have c7b1 : (a0_0 != 1) = true:=bne_iff_ne.mpr c7
   by_cases c15 : a0_0 = 2
   ·rw [if_pos c15] at H
    have c15b0 : (a0_0 == 2) = true:=beq_iff_eq.mpr c15;have c15b1 : (a0_0 != 2) = false:=bne_eq_false_iff_eq.mpr c15;clear c15
    by_cases c16 : x3_1 = true
    ·subst c16
     have H1 : (if a0_2.toList = ([] : List UInt8) then (some (a0_3.toList == ([] : List UInt8))) else (some false)) = some r:=by rw [if_pos rfl] at H;exact H
     clear H;have H:=H1;clear H1
     by_cases c17 : a0_2.toList = ([] : List UInt8)
     ·rw [if_pos c17] at H
      have c17b0 : (a0_2.toList == ([] : List UInt8)) = true:=beq_iff_eq.mpr c17;have c17b1 : (a0_2.toList != ([] : List UInt8)) = false:=bne_eq_false_iff_eq.mpr c17;clear c17;obtain rfl:=Option.some.inj H;obtain ⟨hcz18_0,hcz18_1,hcz18_2,hcz18_3,hcz18_4,hcz18_5,hfz18_0,hfz18_1,hfz18_2,hfz18_3,hfz18_4,hfz18_5⟩:=cf6_ BK463;go_wp2
      go_ret;exact ⟨er_,(hb_ HB)⟩
     rw [if_neg c17] at H
     have c17b0 : (a0_2.toList == ([] : List UInt8)) = false:=beq_eq_false_iff_ne.mpr c17;have c17b1 : (a0_2.toList != ([] : List UInt8)) = true:=bne_iff_ne.mpr c17;obtain rfl:=Option.some.inj H;obtain ⟨hcz19_0,hcz19_1,hcz19_2,hcz19_3,hcz19_4,hcz19_5,hfz19_0,hfz19_1,hfz19_2,hfz19_3,hfz19_4,hfz19_5⟩:=cf6_ BK463;go_wp2
     go_ret;exact ⟨er_,(hb_ HB)⟩
    replace c16:=Bool.eq_false_iff.mpr c16;subst c16
    have H1 : (some false) = some r:=by rw [if_neg (show ¬ (false = true) by decide)] at H;exact H
    clear H;have H:=H1;clear H1;obtain rfl:=Option.some.inj H;obtain ⟨hcz20_0,hcz20_1,hcz20_2,hcz20_3,hcz20_4,hcz20_5,hfz20_0,hfz20_1,hfz20_2,hfz20_3,hfz20_4,hfz20_5⟩:=cf6_ BK463;go_wp2
    go_ret;exact ⟨er_,(hb_ HB)⟩
   rw [if_neg c15] at H
   have c15b0 : (a0_0 == 2) = false:=beq_eq_false_iff_ne.mpr c15;have c15b1 : (a0_0 != 2) = true:=bne_iff_ne.mpr c15
   by_cases c21 : a0_0 = 3
   ·rw [if_pos c21] at H
    have c21b0 : (a0_0 == 3) = true:=beq_iff_eq.mpr c21;have c21b1 : (a0_0 != 3) = false:=bne_eq_false_iff_eq.mpr c21;clear c21;replace H:=Option.bind_eq_some_iff.mp H;obtain ⟨⟨t464,t465,t466,t467⟩,A220,H⟩:=H;replace H : (if x3_1 = true then (if a0_1 = true then (some false) else (if a0_3.toList = ([] : List UInt8) then (if t467 = 0 then (some true) else (some (t467 == 111))) else (some false))) else (some false)) = some r:=H;have A22:=Aside0.mk A220;clear A220
    by_cases c23 : x3_1 = true
    ·subst c23
     have H1 : (if a0_1 = true then (some false) else (if a0_3.toList = ([] : List UInt8) then (if t467 = 0 then (some true) else (some (t467 == 111))) else (some false))) = some r:=by rw [if_pos rfl] at H;exact H
     clear H;have H:=H1;clear H1
     by_cases c24 : a0_1 = true
     ·subst c24
      have H1 : (some false) = some r:=by rw [if_pos rfl] at H;exact H
      clear H;have H:=H1;clear H1;obtain rfl:=Option.some.inj H;obtain ⟨hcz25_0,hcz25_1,hcz25_2,hcz25_3,hcz25_4,hcz25_5,hfz25_0,hfz25_1,hfz25_2,hfz25_3,hfz25_4,hfz25_5⟩:=cf6_ BK463
      go_wp2_with (first|((with_reducible refine gate_callee (f:=72) rfl ?_);refine goesL_ (some 55) rfl rfl Tryz.func72 (by kernel_rfl) rfl #[.string a0_2] rfl am_ ?_;(with_reducible refine (quarryref11_Of.calls kj1 a0_2 t464 t465 t466 t467 _ A22.out).mono ?_);rintro e w26 ⟨rfl,hb⟩;refine ⟨_,rfl,?_⟩;have n_:=J_ (bkb_ BK463 hb) (Aside0.mk (below_step (hb_ HB) hb));clear BK463 HB;obtain ⟨BK463,HB⟩:=n_;(try clear hb);(try clear hb2);(try clear hk);(try clear hi))|((with_reducible refine gate_dst (N:=4) rfl ?_);(try (refine gate_guard (by rfl) ?_;dsimp only));refine box_event ?hg (N:=4) ?hd (cs:=#[.bool false,.string (⟨#[]⟩ : ByteArray),.int .i64 0]) (t:=81) ?hr ?_;(case hd=>rfl);(case hg=>rfl);(case hr=>first|(go_simp;done)|(go_simp;rfl));intro gb468 hg w27 hbox hb;have n_:=J_ (bkb_ BK463 hb) (J_ (below_step (hb_ HB) hb) (J_ (hbox) (J_ (bs_ hg HB) (J_ (bs_ hg HB) (J_ ((by rw [hg];exact Nat.ne_of_lt (bkl_ BK463) : gb463 ≠ gb468)) (Aside0.mk ((by rw [hg];exact Nat.ne_of_gt (bkl_ BK463) : gb468 ≠ gb463))))))));clear BK463 HB;obtain ⟨BK463,HB,BK468,GW468,GE468,NB463_468,NB468_463⟩:=n_;clear hb hbox hg;have hnb28:=NB468_463.out;have hnc28:=NB463_468.out;obtain ⟨hcz29_0,hcz29_1,hcz29_2,hfz29_0,hfz29_1,hfz29_2⟩:=cf3_ BK468;obtain ⟨hcz30_0,hcz30_1,hcz30_2,hcz30_3,hcz30_4,hcz30_5,hfz30_0,hfz30_1,hfz30_2,hfz30_3,hfz30_4,hfz30_5⟩:=cf6_ BK463))
      go_ret;exact ⟨er_,(hb_ HB)⟩
     replace c24:=Bool.eq_false_iff.mpr c24;subst c24
     have H1 : (if a0_3.toList = ([] : List UInt8) then (if t467 = 0 then (some true) else (some (t467 == 111))) else (some false)) = some r:=by rw [if_neg (show ¬ (false = true) by decide)] at H;exact H
     clear H;have H:=H1;clear H1
     by_cases c31 : a0_3.toList = ([] : List UInt8)
     ·rw [if_pos c31] at H
      have c31b0 : (a0_3.toList == ([] : List UInt8)) = true:=beq_iff_eq.mpr c31;have c31b1 : (a0_3.toList != ([] : List UInt8)) = false:=bne_eq_false_iff_eq.mpr c31;clear c31
      by_cases c32 : t467 = 0
      ·rw [if_pos c32] at H
       have c32b0 : (t467 == 0) = true:=beq_iff_eq.mpr c32;have c32b1 : (t467 != 0) = false:=bne_eq_false_iff_eq.mpr c32;clear c32;obtain rfl:=Option.some.inj H;obtain ⟨hcz33_0,hcz33_1,hcz33_2,hcz33_3,hcz33_4,hcz33_5,hfz33_0,hfz33_1,hfz33_2,hfz33_3,hfz33_4,hfz33_5⟩:=cf6_ BK463
       go_wp2_with (first|((with_reducible refine gate_callee (f:=72) rfl ?_);refine goesL_ (some 55) rfl rfl Tryz.func72 (by kernel_rfl) rfl #[.string a0_2] rfl am_ ?_;(with_reducible refine (quarryref11_Of.calls kj1 a0_2 t464 t465 t466 t467 _ A22.out).mono ?_);rintro e w34 ⟨rfl,hb⟩;refine ⟨_,rfl,?_⟩;have n_:=J_ (bkb_ BK463 hb) (Aside0.mk (below_step (hb_ HB) hb));clear BK463 HB;obtain ⟨BK463,HB⟩:=n_;(try clear hb);(try clear hb2);(try clear hk);(try clear hi))|((with_reducible refine gate_dst (N:=4) rfl ?_);(try (refine gate_guard (by rfl) ?_;dsimp only));refine box_event ?hg (N:=4) ?hd (cs:=#[.bool false,.string (⟨#[]⟩ : ByteArray),.int .i64 0]) (t:=81) ?hr ?_;(case hd=>rfl);(case hg=>rfl);(case hr=>first|(go_simp;done)|(go_simp;rfl));intro gb468 hg w35 hbox hb;have n_:=J_ (bkb_ BK463 hb) (J_ (below_step (hb_ HB) hb) (J_ (hbox) (J_ (bs_ hg HB) (J_ (bs_ hg HB) (J_ ((by rw [hg];exact Nat.ne_of_lt (bkl_ BK463) : gb463 ≠ gb468)) (Aside0.mk ((by rw [hg];exact Nat.ne_of_gt (bkl_ BK463) : gb468 ≠ gb463))))))));clear BK463 HB;obtain ⟨BK463,HB,BK468,GW468,GE468,NB463_468,NB468_463⟩:=n_;clear hb hbox hg;have hnb36:=NB468_463.out;have hnc36:=NB463_468.out;obtain ⟨hcz37_0,hcz37_1,hcz37_2,hfz37_0,hfz37_1,hfz37_2⟩:=cf3_ BK468;obtain ⟨hcz38_0,hcz38_1,hcz38_2,hcz38_3,hcz38_4,hcz38_5,hfz38_0,hfz38_1,hfz38_2,hfz38_3,hfz38_4,hfz38_5⟩:=cf6_ BK463))
       go_ret;exact ⟨er_,(hb_ HB)⟩
      rw [if_neg c32] at H
      have c32b0 : (t467 == 0) = false:=beq_eq_false_iff_ne.mpr c32;have c32b1 : (t467 != 0) = true:=bne_iff_ne.mpr c32;obtain rfl:=Option.some.inj H;obtain ⟨hcz39_0,hcz39_1,hcz39_2,hcz39_3,hcz39_4,hcz39_5,hfz39_0,hfz39_1,hfz39_2,hfz39_3,hfz39_4,hfz39_5⟩:=cf6_ BK463
      go_wp2_with (first|((with_reducible refine gate_callee (f:=72) rfl ?_);refine goesL_ (some 55) rfl rfl Tryz.func72 (by kernel_rfl) rfl #[.string a0_2] rfl am_ ?_;(with_reducible refine (quarryref11_Of.calls kj1 a0_2 t464 t465 t466 t467 _ A22.out).mono ?_);rintro e w40 ⟨rfl,hb⟩;refine ⟨_,rfl,?_⟩;have n_:=J_ (bkb_ BK463 hb) (Aside0.mk (below_step (hb_ HB) hb));clear BK463 HB;obtain ⟨BK463,HB⟩:=n_;(try clear hb);(try clear hb2);(try clear hk);(try clear hi))|((with_reducible refine gate_dst (N:=4) rfl ?_);(try (refine gate_guard (by rfl) ?_;dsimp only));refine box_event ?hg (N:=4) ?hd (cs:=#[.bool false,.string (⟨#[]⟩ : ByteArray),.int .i64 0]) (t:=81) ?hr ?_;(case hd=>rfl);(case hg=>rfl);(case hr=>first|(go_simp;done)|(go_simp;rfl));intro gb468 hg w41 hbox hb;have n_:=J_ (bkb_ BK463 hb) (J_ (below_step (hb_ HB) hb) (J_ (hbox) (J_ (bs_ hg HB) (J_ (bs_ hg HB) (J_ ((by rw [hg];exact Nat.ne_of_lt (bkl_ BK463) : gb463 ≠ gb468)) (Aside0.mk ((by rw [hg];exact Nat.ne_of_gt (bkl_ BK463) : gb468 ≠ gb463))))))));clear BK463 HB;obtain ⟨BK463,HB,BK468,GW468,GE468,NB463_468,NB468_463⟩:=n_;clear hb hbox hg;have hnb42:=NB468_463.out;have hnc42:=NB463_468.out;obtain ⟨hcz43_0,hcz43_1,hcz43_2,hfz43_0,hfz43_1,hfz43_2⟩:=cf3_ BK468;obtain ⟨hcz44_0,hcz44_1,hcz44_2,hcz44_3,hcz44_4,hcz44_5,hfz44_0,hfz44_1,hfz44_2,hfz44_3,hfz44_4,hfz44_5⟩:=cf6_ BK463))
      go_ret;exact ⟨er_,(hb_ HB)⟩
     rw [if_neg c31] at H
     have c31b0 : (a0_3.toList == ([] : List UInt8)) = false:=beq_eq_false_iff_ne.mpr c31;have c31b1 : (a0_3.toList != ([] : List UInt8)) = true:=bne_iff_ne.mpr c31;obtain rfl:=Option.some.inj H;obtain ⟨hcz45_0,hcz45_1,hcz45_2,hcz45_3,hcz45_4,hcz45_5,hfz45_0,hfz45_1,hfz45_2,hfz45_3,hfz45_4,hfz45_5⟩:=cf6_ BK463
     go_wp2_with (first|((with_reducible refine gate_callee (f:=72) rfl ?_);refine goesL_ (some 55) rfl rfl Tryz.func72 (by kernel_rfl) rfl #[.string a0_2] rfl am_ ?_;(with_reducible refine (quarryref11_Of.calls kj1 a0_2 t464 t465 t466 t467 _ A22.out).mono ?_);rintro e w46 ⟨rfl,hb⟩;refine ⟨_,rfl,?_⟩;have n_:=J_ (bkb_ BK463 hb) (Aside0.mk (below_step (hb_ HB) hb));clear BK463 HB;obtain ⟨BK463,HB⟩:=n_;(try clear hb);(try clear hb2);(try clear hk);(try clear hi))|((with_reducible refine gate_dst (N:=4) rfl ?_);(try (refine gate_guard (by rfl) ?_;dsimp only));refine box_event ?hg (N:=4) ?hd (cs:=#[.bool false,.string (⟨#[]⟩ : ByteArray),.int .i64 0]) (t:=81) ?hr ?_;(case hd=>rfl);(case hg=>rfl);(case hr=>first|(go_simp;done)|(go_simp;rfl));intro gb468 hg w47 hbox hb;have n_:=J_ (bkb_ BK463 hb) (J_ (below_step (hb_ HB) hb) (J_ (hbox) (J_ (bs_ hg HB) (J_ (bs_ hg HB) (J_ ((by rw [hg];exact Nat.ne_of_lt (bkl_ BK463) : gb463 ≠ gb468)) (Aside0.mk ((by rw [hg];exact Nat.ne_of_gt (bkl_ BK463) : gb468 ≠ gb463))))))));clear BK463 HB;obtain ⟨BK463,HB,BK468,GW468,GE468,NB463_468,NB468_463⟩:=n_;clear hb hbox hg;have hnb48:=NB468_463.out;have hnc48:=NB463_468.out;obtain ⟨hcz49_0,hcz49_1,hcz49_2,hfz49_0,hfz49_1,hfz49_2⟩:=cf3_ BK468;obtain ⟨hcz50_0,hcz50_1,hcz50_2,hcz50_3,hcz50_4,hcz50_5,hfz50_0,hfz50_1,hfz50_2,hfz50_3,hfz50_4,hfz50_5⟩:=cf6_ BK463))
     go_ret;exact ⟨er_,(hb_ HB)⟩
    replace c23:=Bool.eq_false_iff.mpr c23;subst c23
    have H1 : (some false) = some r:=by rw [if_neg (show ¬ (false = true) by decide)] at H;exact H
    clear H;have H:=H1;clear H1;obtain rfl:=Option.some.inj H;obtain ⟨hcz51_0,hcz51_1,hcz51_2,hcz51_3,hcz51_4,hcz51_5,hfz51_0,hfz51_1,hfz51_2,hfz51_3,hfz51_4,hfz51_5⟩:=cf6_ BK463
    go_wp2_with (first|((with_reducible refine gate_callee (f:=72) rfl ?_);refine goesL_ (some 55) rfl rfl Tryz.func72 (by kernel_rfl) rfl #[.string a0_2] rfl am_ ?_;(with_reducible refine (quarryref11_Of.calls kj1 a0_2 t464 t465 t466 t467 _ A22.out).mono ?_);rintro e w52 ⟨rfl,hb⟩;refine ⟨_,rfl,?_⟩;have n_:=J_ (bkb_ BK463 hb) (Aside0.mk (below_step (hb_ HB) hb));clear BK463 HB;obtain ⟨BK463,HB⟩:=n_;(try clear hb);(try clear hb2);(try clear hk);(try clear hi))|((with_reducible refine gate_dst (N:=4) rfl ?_);(try (refine gate_guard (by rfl) ?_;dsimp only));refine box_event ?hg (N:=4) ?hd (cs:=#[.bool false,.string (⟨#[]⟩ : ByteArray),.int .i64 0]) (t:=81) ?hr ?_;(case hd=>rfl);(case hg=>rfl);(case hr=>first|(go_simp;done)|(go_simp;rfl));intro gb468 hg w53 hbox hb;have n_:=J_ (bkb_ BK463 hb) (J_ (below_step (hb_ HB) hb) (J_ (hbox) (J_ (bs_ hg HB) (J_ (bs_ hg HB) (J_ ((by rw [hg];exact Nat.ne_of_lt (bkl_ BK463) : gb463 ≠ gb468)) (Aside0.mk ((by rw [hg];exact Nat.ne_of_gt (bkl_ BK463) : gb468 ≠ gb463))))))));clear BK463 HB;obtain ⟨BK463,HB,BK468,GW468,GE468,NB463_468,NB468_463⟩:=n_;clear hb hbox hg;have hnb54:=NB468_463.out;have hnc54:=NB463_468.out;obtain ⟨hcz55_0,hcz55_1,hcz55_2,hfz55_0,hfz55_1,hfz55_2⟩:=cf3_ BK468))
    go_ret;exact ⟨er_,(hb_ HB)⟩
   rw [if_neg c21] at H
   have c21b0 : (a0_0 == 3) = false:=beq_eq_false_iff_ne.mpr c21;have c21b1 : (a0_0 != 3) = true:=bne_iff_ne.mpr c21
   by_cases c56 : a0_0 = 4
   ·rw [if_pos c56] at H
    have c56b0 : (a0_0 == 4) = true:=beq_iff_eq.mpr c56;have c56b1 : (a0_0 != 4) = false:=bne_eq_false_iff_eq.mpr c56;clear c56
    by_cases c57 : x3_1 = true
    ·subst c57
     have H1 : (if a0_1 = true then (some false) else (if a0_2.toList = ([] : List UInt8) then ((quarryref05_Bad.f kj1 a0_3).bind fun t469=>(some (t469 == (-1)))) else (some false))) = some r:=by rw [if_pos rfl] at H;exact H
     clear H;have H:=H1;clear H1
     by_cases c58 : a0_1 = true
     ·subst c58
      have H1 : (some false) = some r:=by rw [if_pos rfl] at H;exact H
      clear H;have H:=H1;clear H1;obtain rfl:=Option.some.inj H;obtain ⟨hcz59_0,hcz59_1,hcz59_2,hcz59_3,hcz59_4,hcz59_5,hfz59_0,hfz59_1,hfz59_2,hfz59_3,hfz59_4,hfz59_5⟩:=cf6_ BK463;go_wp2
      go_ret;exact ⟨er_,(hb_ HB)⟩
     replace c58:=Bool.eq_false_iff.mpr c58;subst c58
     have H1 : (if a0_2.toList = ([] : List UInt8) then ((quarryref05_Bad.f kj1 a0_3).bind fun t469=>(some (t469 == (-1)))) else (some false)) = some r:=by rw [if_neg (show ¬ (false = true) by decide)] at H;exact H
     clear H;have H:=H1;clear H1
     by_cases c60 : a0_2.toList = ([] : List UInt8)
     ·rw [if_pos c60] at H
      have c60b0 : (a0_2.toList == ([] : List UInt8)) = true:=beq_iff_eq.mpr c60;have c60b1 : (a0_2.toList != ([] : List UInt8)) = false:=bne_eq_false_iff_eq.mpr c60;clear c60;replace H:=Option.bind_eq_some_iff.mp H;obtain ⟨t469,A610,H⟩:=H;replace H : (some (t469 == (-1))) = some r:=H;have A61:=Aside0.mk A610;clear A610;obtain rfl:=Option.some.inj H;obtain ⟨hcz62_0,hcz62_1,hcz62_2,hcz62_3,hcz62_4,hcz62_5,hfz62_0,hfz62_1,hfz62_2,hfz62_3,hfz62_4,hfz62_5⟩:=cf6_ BK463
      go_wp2_with (first|(go_at_call 73;(with_reducible refine (quarryref05_Bad.calls kj1 a0_3 t469 _ A61.out).mono ?_);rintro e w63 ⟨rfl,hb⟩;have n_:=J_ (bkb_ BK463 hb) (Aside0.mk (below_step (hb_ HB) hb));clear BK463 HB;obtain ⟨BK463,HB⟩:=n_;(try clear hb);(try clear hb2);(try clear hk);(try clear hi)))
      go_ret;exact ⟨er_,(hb_ HB)⟩
     rw [if_neg c60] at H
     have c60b0 : (a0_2.toList == ([] : List UInt8)) = false:=beq_eq_false_iff_ne.mpr c60;have c60b1 : (a0_2.toList != ([] : List UInt8)) = true:=bne_iff_ne.mpr c60;obtain rfl:=Option.some.inj H;obtain ⟨hcz64_0,hcz64_1,hcz64_2,hcz64_3,hcz64_4,hcz64_5,hfz64_0,hfz64_1,hfz64_2,hfz64_3,hfz64_4,hfz64_5⟩:=cf6_ BK463;go_wp2
     go_ret;exact ⟨er_,(hb_ HB)⟩
    replace c57:=Bool.eq_false_iff.mpr c57;subst c57
    have H1 : (some false) = some r:=by rw [if_neg (show ¬ (false = true) by decide)] at H;exact H
    clear H;have H:=H1;clear H1;obtain rfl:=Option.some.inj H;obtain ⟨hcz65_0,hcz65_1,hcz65_2,hcz65_3,hcz65_4,hcz65_5,hfz65_0,hfz65_1,hfz65_2,hfz65_3,hfz65_4,hfz65_5⟩:=cf6_ BK463;go_wp2
    go_ret;exact ⟨er_,(hb_ HB)⟩
   rw [if_neg c56] at H
   have c56b0 : (a0_0 == 4) = false:=beq_eq_false_iff_ne.mpr c56;have c56b1 : (a0_0 != 4) = true:=bne_iff_ne.mpr c56
   by_cases c66 : a0_0 = 5
   ·rw [if_pos c66] at H
    have c66b0 : (a0_0 == 5) = true:=beq_iff_eq.mpr c66;have c66b1 : (a0_0 != 5) = false:=bne_eq_false_iff_eq.mpr c66;clear c66
    by_cases c67 : a0_1 = true
    ·subst c67
     have H1 : (some false) = some r:=by rw [if_pos rfl] at H;exact H
     clear H;have H:=H1;clear H1;obtain rfl:=Option.some.inj H;obtain ⟨hcz68_0,hcz68_1,hcz68_2,hcz68_3,hcz68_4,hcz68_5,hfz68_0,hfz68_1,hfz68_2,hfz68_3,hfz68_4,hfz68_5⟩:=cf6_ BK463;go_wp2
     go_ret;exact ⟨er_,(hb_ HB)⟩
    replace c67:=Bool.eq_false_iff.mpr c67;subst c67
    have H1 : (if a0_2.toList = ([] : List UInt8) then (if a0_3.toList = ([] : List UInt8) then (some ((l0_4.length : Int) == 0)) else (some false)) else (some false)) = some r:=by rw [if_neg (show ¬ (false = true) by decide)] at H;exact H
    clear H;have H:=H1;clear H1
    by_cases c69 : a0_2.toList = ([] : List UInt8)
    ·rw [if_pos c69] at H
     have c69b0 : (a0_2.toList == ([] : List UInt8)) = true:=beq_iff_eq.mpr c69;have c69b1 : (a0_2.toList != ([] : List UInt8)) = false:=bne_eq_false_iff_eq.mpr c69;clear c69
     by_cases c70 : a0_3.toList = ([] : List UInt8)
     ·rw [if_pos c70] at H
      have c70b0 : (a0_3.toList == ([] : List UInt8)) = true:=beq_iff_eq.mpr c70;have c70b1 : (a0_3.toList != ([] : List UInt8)) = false:=bne_eq_false_iff_eq.mpr c70;clear c70;obtain rfl:=Option.some.inj H;obtain ⟨hcz71_0,hcz71_1,hcz71_2,hcz71_3,hcz71_4,hcz71_5,hfz71_0,hfz71_1,hfz71_2,hfz71_3,hfz71_4,hfz71_5⟩:=cf6_ BK463;go_wp2
      go_ret;exact ⟨er_,(hb_ HB)⟩
     rw [if_neg c70] at H
     have c70b0 : (a0_3.toList == ([] : List UInt8)) = false:=beq_eq_false_iff_ne.mpr c70;have c70b1 : (a0_3.toList != ([] : List UInt8)) = true:=bne_iff_ne.mpr c70;obtain rfl:=Option.some.inj H;obtain ⟨hcz72_0,hcz72_1,hcz72_2,hcz72_3,hcz72_4,hcz72_5,hfz72_0,hfz72_1,hfz72_2,hfz72_3,hfz72_4,hfz72_5⟩:=cf6_ BK463;go_wp2
     go_ret;exact ⟨er_,(hb_ HB)⟩
    rw [if_neg c69] at H
    have c69b0 : (a0_2.toList == ([] : List UInt8)) = false:=beq_eq_false_iff_ne.mpr c69;have c69b1 : (a0_2.toList != ([] : List UInt8)) = true:=bne_iff_ne.mpr c69;obtain rfl:=Option.some.inj H;obtain ⟨hcz73_0,hcz73_1,hcz73_2,hcz73_3,hcz73_4,hcz73_5,hfz73_0,hfz73_1,hfz73_2,hfz73_3,hfz73_4,hfz73_5⟩:=cf6_ BK463;go_wp2
    go_ret;exact ⟨er_,(hb_ HB)⟩
   rw [if_neg c66] at H
   have c66b0 : (a0_0 == 5) = false:=beq_eq_false_iff_ne.mpr c66;have c66b1 : (a0_0 != 5) = true:=bne_iff_ne.mpr c66
   by_cases c74 : a0_0 = 6
   ·rw [if_pos c74] at H
    have c74b0 : (a0_0 == 6) = true:=beq_iff_eq.mpr c74;have c74b1 : (a0_0 != 6) = false:=bne_eq_false_iff_eq.mpr c74;clear c74;have H':=Aside0.mk H;clear H;obtain ⟨hcz75_0,hcz75_1,hcz75_2,hcz75_3,hcz75_4,hcz75_5,hfz75_0,hfz75_1,hfz75_2,hfz75_3,hfz75_4,hfz75_5⟩:=cf6_ BK463;go_wp2
    go_loopg [6] kj1 (fun kq v6 w'=>∃ (x6_2 : Int),v6 = .int .i64 x6_2 ∧ Aside0 (quarryref17_plain.l0 kq x6_2 a0_0 a0_1 a0_2 a0_3 l0_4 l0_5 = some r) ∧ Aside0 (kq ≤ kj1) ∧ Aside0 (w'.heap[gb463]? = some (.cells #[.int .i64 a0_0,.bool a0_1,.string a0_2,.string a0_3,(.slice A0_4 l0_4.length c0_4),(.slice A0_5 l0_5.length c0_5)] 25 (0,0))) ∧ Aside0 (Below w.heap.size w w'))
    case atStart=>exact ⟨(0),rr_,H',⟨Nat.le_refl _⟩,⟨(bk_ BK463)⟩,⟨(hb_ HB)⟩⟩
    case round =>
     clear H'
     try clear BK463
     try clear HB
     obtain ⟨x6_2,rfl,HA,HK2,BK463,HB⟩:=hrel
     cases gk with
     | zero=>exact absurd HA.out (by simp [quarryref17_plain.l0])
     | succ k2 =>
      have H:=HA.out;clear HA
      simp only [quarryref17_plain.l0] at H
      by_cases c76 : x6_2 < (l0_4.length : Int)
      ·rw [if_pos c76] at H
       have c76b0 : decide (x6_2 < (l0_4.length : Int)) = true:=decide_eq_true c76;clear c76
       by_cases c77 : 0 ≤ x6_2
       ·rw [if_pos c77] at H
        have c77b0 : decide (0 ≤ x6_2) = true:=decide_eq_true c77;clear c77;replace H:=Option.bind_eq_some_iff.mp H;obtain ⟨t471,A780,H⟩:=H;replace H : (if t471 = (-1) then (quarryref17_plain.l0 k2 (wrap64 (x6_2 + 1)) a0_0 a0_1 a0_2 a0_3 l0_4 l0_5) else (some false)) = some r:=H;have A78:=Aside0.mk A780;clear A780
        by_cases c79 : t471 = (-1)
        ·rw [if_pos c79] at H
         have c79b0 : (t471 == (-1)) = true:=beq_iff_eq.mpr c79;have c79b1 : (t471 != (-1)) = false:=bne_eq_false_iff_eq.mpr c79;clear c79;have H':=Aside0.mk H;clear H;obtain ⟨hcz80_0,hcz80_1,hcz80_2,hcz80_3,hcz80_4,hcz80_5,hfz80_0,hfz80_1,hfz80_2,hfz80_3,hfz80_4,hfz80_5⟩:=cf6_ BK463;have p470 : 0 ≤ (x6_2 : Int):=of_decide_eq_true aa_;have q470 : x6_2 < (l0_4.length : Int):=of_decide_eq_true aa_;obtain ⟨ad470,e470,hx470_0⟩:=Kd.at_string HR0_4.out x6_2 p470 q470;cases e470;replace hx470_0:=(HB.out.cell (World.block_lt_of_cell? w _ hx470_0)).trans hx470_0;replace p470:=eq_true p470;replace q470:=eq_true q470
         go_wp2_with (first|((with_reducible refine gate_callee (f:=73) rfl ?_);refine goesL_ (some 131) rfl rfl Tryz.func73 (by kernel_rfl) rfl #[.string (rdOf ByteArray.empty l0_4 x6_2)] rfl am_ ?_;(with_reducible refine (quarryref05_Bad.calls k2 (rdOf ByteArray.empty l0_4 x6_2) t471 _ A78.out).mono ?_);rintro e w81 ⟨rfl,hb⟩;refine ⟨_,rfl,?_⟩;have n_:=J_ (bkb_ BK463 hb) (Aside0.mk (below_step (hb_ HB) hb));clear BK463 HB;obtain ⟨BK463,HB⟩:=n_;(try clear hb);(try clear hb2);(try clear hk);(try clear hi)))
         go_roundg k2
         case measure=>have:=HJ1.out;have:=HK2.out;omega
         case rel=>exact ⟨(wrap64 (x6_2 + 1)),rr_,(by first|exact H'|(subst_vars;exact H')),⟨by have:=HJ1.out;have:=HK2.out;omega⟩,⟨(bk_ BK463)⟩,⟨(hb_ HB)⟩⟩
        rw [if_neg c79] at H
        have c79b0 : (t471 == (-1)) = false:=beq_eq_false_iff_ne.mpr c79;have c79b1 : (t471 != (-1)) = true:=bne_iff_ne.mpr c79;obtain rfl:=Option.some.inj H;obtain ⟨hcz82_0,hcz82_1,hcz82_2,hcz82_3,hcz82_4,hcz82_5,hfz82_0,hfz82_1,hfz82_2,hfz82_3,hfz82_4,hfz82_5⟩:=cf6_ BK463;have p470 : 0 ≤ (x6_2 : Int):=of_decide_eq_true aa_;have q470 : x6_2 < (l0_4.length : Int):=of_decide_eq_true aa_;obtain ⟨ad470,e470,hx470_0⟩:=Kd.at_string HR0_4.out x6_2 p470 q470;cases e470;replace hx470_0:=(HB.out.cell (World.block_lt_of_cell? w _ hx470_0)).trans hx470_0;replace p470:=eq_true p470;replace q470:=eq_true q470
        go_wp2_with (first|((with_reducible refine gate_callee (f:=73) rfl ?_);refine goesL_ (some 131) rfl rfl Tryz.func73 (by kernel_rfl) rfl #[.string (rdOf ByteArray.empty l0_4 x6_2)] rfl am_ ?_;(with_reducible refine (quarryref05_Bad.calls k2 (rdOf ByteArray.empty l0_4 x6_2) t471 _ A78.out).mono ?_);rintro e w83 ⟨rfl,hb⟩;refine ⟨_,rfl,?_⟩;have n_:=J_ (bkb_ BK463 hb) (Aside0.mk (below_step (hb_ HB) hb));clear BK463 HB;obtain ⟨BK463,HB⟩:=n_;(try clear hb);(try clear hb2);(try clear hk);(try clear hi)))
        go_ret;exact ⟨er_,(hb_ HB)⟩
       rw [if_neg c77] at H
       exact absurd H (by simp)
      rw [if_neg c76] at H
      have c76b0 : decide (x6_2 < (l0_4.length : Int)) = false:=decide_eq_false c76;clear c76
      by_cases c84 : a0_1 = true
      ·subst c84
       have H1 : (some false) = some r:=by rw [if_pos rfl] at H;exact H
       clear H;have H:=H1;clear H1;obtain rfl:=Option.some.inj H;obtain ⟨hcz85_0,hcz85_1,hcz85_2,hcz85_3,hcz85_4,hcz85_5,hfz85_0,hfz85_1,hfz85_2,hfz85_3,hfz85_4,hfz85_5⟩:=cf6_ BK463;go_wp2
       go_ret;exact ⟨er_,(hb_ HB)⟩
      replace c84:=Bool.eq_false_iff.mpr c84;subst c84
      have H1 : (if a0_2.toList = ([] : List UInt8) then (if a0_3.toList = ([] : List UInt8) then (some ((l0_4.length : Int) == (l0_5.length : Int))) else (some false)) else (some false)) = some r:=by rw [if_neg (show ¬ (false = true) by decide)] at H;exact H
      clear H;have H:=H1;clear H1
      by_cases c86 : a0_2.toList = ([] : List UInt8)
      ·rw [if_pos c86] at H
       have c86b0 : (a0_2.toList == ([] : List UInt8)) = true:=beq_iff_eq.mpr c86;have c86b1 : (a0_2.toList != ([] : List UInt8)) = false:=bne_eq_false_iff_eq.mpr c86;clear c86
       by_cases c87 : a0_3.toList = ([] : List UInt8)
       ·rw [if_pos c87] at H
        have c87b0 : (a0_3.toList == ([] : List UInt8)) = true:=beq_iff_eq.mpr c87;have c87b1 : (a0_3.toList != ([] : List UInt8)) = false:=bne_eq_false_iff_eq.mpr c87;clear c87;obtain rfl:=Option.some.inj H;obtain ⟨hcz88_0,hcz88_1,hcz88_2,hcz88_3,hcz88_4,hcz88_5,hfz88_0,hfz88_1,hfz88_2,hfz88_3,hfz88_4,hfz88_5⟩:=cf6_ BK463;go_wp2
        go_ret;exact ⟨er_,(hb_ HB)⟩
       rw [if_neg c87] at H
       have c87b0 : (a0_3.toList == ([] : List UInt8)) = false:=beq_eq_false_iff_ne.mpr c87;have c87b1 : (a0_3.toList != ([] : List UInt8)) = true:=bne_iff_ne.mpr c87;obtain rfl:=Option.some.inj H;obtain ⟨hcz89_0,hcz89_1,hcz89_2,hcz89_3,hcz89_4,hcz89_5,hfz89_0,hfz89_1,hfz89_2,hfz89_3,hfz89_4,hfz89_5⟩:=cf6_ BK463;go_wp2
       go_ret;exact ⟨er_,(hb_ HB)⟩
      rw [if_neg c86] at H
      have c86b0 : (a0_2.toList == ([] : List UInt8)) = false:=beq_eq_false_iff_ne.mpr c86;have c86b1 : (a0_2.toList != ([] : List UInt8)) = true:=bne_iff_ne.mpr c86;obtain rfl:=Option.some.inj H;obtain ⟨hcz90_0,hcz90_1,hcz90_2,hcz90_3,hcz90_4,hcz90_5,hfz90_0,hfz90_1,hfz90_2,hfz90_3,hfz90_4,hfz90_5⟩:=cf6_ BK463;go_wp2
      go_ret;exact ⟨er_,(hb_ HB)⟩
   rw [if_neg c74] at H
   have c74b0 : (a0_0 == 6) = false:=beq_eq_false_iff_ne.mpr c74;have c74b1 : (a0_0 != 6) = true:=bne_iff_ne.mpr c74;obtain rfl:=Option.some.inj H;obtain ⟨hcz91_0,hcz91_1,hcz91_2,hcz91_3,hcz91_4,hcz91_5,hfz91_0,hfz91_1,hfz91_2,hfz91_3,hfz91_4,hfz91_5⟩:=cf6_ BK463;go_wp2
   go_ret;exact ⟨er_,(hb_ HB)⟩
end Go.Proofs.YtlgamjgdkljfiacGreatDoor.PWritePretties
