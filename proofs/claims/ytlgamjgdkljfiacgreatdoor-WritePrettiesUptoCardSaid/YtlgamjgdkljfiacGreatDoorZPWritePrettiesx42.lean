-- Written by shrink.py, a program of this session: what the law needs of the print and its words. Lean checks it.
import Derived.Test.YtlgamjgdkljfiacGreatDoorZPWritePrettiesx0
import Derived.Test.YtlgamjgdkljfiacGreatDoorZPWritePrettiesx41
namespace Go.Proofs.YtlgamjgdkljfiacGreatDoor.PWritePretties
open Go.RowKit Go.Proofs.YtlgamjgdkljfiacGreatDoorW.PrintWords Go.Proofs.YtlgamjgdkljfiacGreatDoorW.PrintLast Go.Proofs.YtlgamjgdkljfiacGreatDoorW.PrintMore
attribute [local go_sem] max2_int min2_int max_two min_two max_three min_three max_four min_four
set_option linter.unusedVariables false
set_option linter.unusedSimpArgs false
mutual
def quarryref17_formed.j0 : Nat → Int → Bool → Int → Bool → ByteArray → ByteArray → List ByteArray → List (S25) → Option (Bool)
 | 0,_,_,_,_,_,_,_,_=>none
 | k + 1,x1,x20,x473000,x473001,x473002,x473003,x473004,x473005=>if x20 = true then (some false) else (quarryref17_formed.l0 k x1 0 x473000 x473001 x473002 x473003 x473004 x473005)
def quarryref17_formed.l0 : Nat → Int → Int → Int → Bool → ByteArray → ByteArray → List ByteArray → List (S25) → Option (Bool)
 | 0,_,_,_,_,_,_,_,_=>none
 | k + 1,x1,x5,x473000,x473001,x473002,x473003,x473004,x473005=>if x5 < (x473005.length : Int) then (if 0 ≤ x5 then ((quarryref17_formed.f k ((rd_T25 x473005 x5).f0) ((rd_T25 x473005 x5).f1) ((rd_T25 x473005 x5).f2) ((rd_T25 x473005 x5).f3) ((rd_T25 x473005 x5).f4) ((rd_T25 x473005 x5).f5) (wrap64 (x1 - 1))).bind fun t475=>(if t475 = true then (quarryref17_formed.l0 k x1 (wrap64 (x5 + 1)) x473000 x473001 x473002 x473003 x473004 x473005) else (some false))) else (none)) else (some true)
def quarryref17_formed.f : Nat → Int → Bool → ByteArray → ByteArray → List ByteArray → List (S25) → Int → Option (Bool)
 | 0,_,_,_,_,_,_,_=>none
 | k + 1,a0_0,a0_1,a0_2,a0_3,l0_4,l0_5,a1=>(quarryref17_plain.f k a0_0 a0_1 a0_2 a0_3 l0_4 l0_5).bind fun t473=>(if t473 = true then (if a0_0 = 5 then (quarryref17_formed.j0 k a1 (a1 == 0) a0_0 a0_1 a0_2 a0_3 l0_4 l0_5) else (if a0_0 = 6 then (quarryref17_formed.j0 k a1 (a1 == 0) a0_0 a0_1 a0_2 a0_3 l0_4 l0_5) else (quarryref17_formed.j0 k a1 false a0_0 a0_1 a0_2 a0_3 l0_4 l0_5))) else (some false))
end
set_option maxHeartbeats 8000000 in
set_option maxRecDepth 100000 in
theorem quarryref17_formed.calls (k : Nat) : ∀ (a0_0 : Int) (a0_1 : Bool) (a0_2 : ByteArray) (a0_3 : ByteArray) (A0_4 : Option Addr) (c0_4 : Nat) (l0_4 : List ByteArray) (A0_5 : Option Addr) (c0_5 : Nat) (l0_5 : List (S25)) (a1 : Int) (r : Bool) (w : World) (hr0_4 : Kd.C Kd.string w A0_4 l0_4.length l0_4) (hc0_4 : l0_4.length ≤ c0_4) (hr0_5 : Kd.C k25 w A0_5 l0_5.length l0_5) (hc0_5 : l0_5.length ≤ c0_5) (h : quarryref17_formed.f k a0_0 a0_1 a0_2 a0_3 l0_4 l0_5 a1 = some r),
  Calls Tryz.prog 38 #[.agg #[.int .i64 a0_0,.bool a0_1,.string a0_2,.string a0_3,.slice A0_4 l0_4.length c0_4,.slice A0_5 l0_5.length c0_5],.int .i64 a1] w fun e w'=>e = .returned (.bool r) ∧ Below w.heap.size w w':=by
 induction k using Nat.strongRecOn with
 | _ k ih =>
 intro a0_0 a0_1 a0_2 a0_3 A0_4 c0_4 l0_4 A0_5 c0_5 l0_5 a1 r w hr0_4 hc0_4 hr0_5 hc0_5 h
 cases k with
 | zero=>exact absurd h (by simp [quarryref17_formed.f])
 | succ k =>
 simp only [quarryref17_formed.f] at h
 have hu25:=Tryz.underlying25;have HR0_4:=Aside0.mk hr0_4;have HC0_4:=Aside0.mk hc0_4;clear hr0_4 hc0_4;have HR0_5:=Aside0.mk hr0_5;have HC0_5:=Aside0.mk hc0_5;clear hr0_5 hc0_5;have HB:=Aside0.mk (Below.refl w.heap.size w);have H : ((quarryref17_plain.f k a0_0 a0_1 a0_2 a0_3 l0_4 l0_5).bind fun t473=>(if t473 = true then (if a0_0 = 5 then (quarryref17_formed.j0 k a1 (a1 == 0) a0_0 a0_1 a0_2 a0_3 l0_4 l0_5) else (if a0_0 = 6 then (quarryref17_formed.j0 k a1 (a1 == 0) a0_0 a0_1 a0_2 a0_3 l0_4 l0_5) else (quarryref17_formed.j0 k a1 false a0_0 a0_1 a0_2 a0_3 l0_4 l0_5))) else (some false))) = some r:=h;clear h;replace H:=Option.bind_eq_some_iff.mp H;obtain ⟨t473,A30,H⟩:=H;replace H : (if t473 = true then (if a0_0 = 5 then (quarryref17_formed.j0 k a1 (a1 == 0) a0_0 a0_1 a0_2 a0_3 l0_4 l0_5) else (if a0_0 = 6 then (quarryref17_formed.j0 k a1 (a1 == 0) a0_0 a0_1 a0_2 a0_3 l0_4 l0_5) else (quarryref17_formed.j0 k a1 false a0_0 a0_1 a0_2 a0_3 l0_4 l0_5))) else (some false)) = some r:=H;have A3:=Aside0.mk A30;clear A30
 by_cases c4 : t473 = true
 ·subst c4
  have H1 : (if a0_0 = 5 then (quarryref17_formed.j0 k a1 (a1 == 0) a0_0 a0_1 a0_2 a0_3 l0_4 l0_5) else (if a0_0 = 6 then (quarryref17_formed.j0 k a1 (a1 == 0) a0_0 a0_1 a0_2 a0_3 l0_4 l0_5) else (quarryref17_formed.j0 k a1 false a0_0 a0_1 a0_2 a0_3 l0_4 l0_5))) = some r:=by rw [if_pos rfl] at H;exact H
  clear H;have H:=H1;clear H1;have HC5:=Aside0.mk H;clear H;go_enter Tryz.func38,Tryz.ntmps38
  go_upto_region 3 with (first|((with_reducible refine gate_dst (N:=2) rfl ?_);refine box_event ?hg (N:=2) ?hd (cs:=#[.int .i64 a0_0,.bool a0_1,.string a0_2,.string a0_3,.slice A0_4 l0_4.length c0_4,.slice A0_5 l0_5.length c0_5]) (t:=25) ?hr ?_;(case hd=>rfl);(case hg=>rfl);(case hr=>first|(go_simp;done)|(go_simp;rfl));intro gb472 hg w6 hbox hb;have n_:=J_ (below_step (hb_ HB) hb) (J_ (hbox) (J_ (bs_ hg HB) (Aside0.mk (bs_ hg HB))));clear HB;obtain ⟨HB,BK472,GW472,GE472⟩:=n_;clear hb hbox hg;obtain ⟨hcz7_0,hcz7_1,hcz7_2,hcz7_3,hcz7_4,hcz7_5,hfz7_0,hfz7_1,hfz7_2,hfz7_3,hfz7_4,hfz7_5⟩:=cf6_ BK472)|((with_reducible refine gate_callee (f:=57) rfl ?_);refine goesL_ (some 7) rfl rfl Tryz.func57 (by kernel_rfl) rfl #[.agg #[.int .i64 a0_0,.bool a0_1,.string a0_2,.string a0_3,.slice A0_4 l0_4.length c0_4,.slice A0_5 l0_5.length c0_5]] rfl am_ ?_;(with_reducible refine (quarryref17_plain.calls k a0_0 a0_1 a0_2 a0_3 _ _ l0_4 _ _ l0_5 true _ ?side1 ?side2 ?side3 ?side4 A3.out).mono ?_);(case side1=>repeat (first|exact (Kd.C_below HR0_4.out HB.out)|(with_reducible refine Kd.C_alloc ?_ _)|(with_reducible refine Kd.C_drewN ?_ _)|(with_reducible refine Kd.C_drew ?_)));(case side2=>exact HC0_4.out);(case side3=>repeat (first|exact (Kd.C_below HR0_5.out HB.out)|(with_reducible refine Kd.C_alloc ?_ _)|(with_reducible refine Kd.C_drewN ?_ _)|(with_reducible refine Kd.C_drew ?_)));(case side4=>exact HC0_5.out);rintro e w8 ⟨rfl,hb⟩;refine ⟨_,rfl,?_⟩;have n_:=J_ (bkb_ BK472 hb) (Aside0.mk (below_step (hb_ HB) hb));clear BK472 HB;obtain ⟨BK472,HB⟩:=n_;(try clear hb);(try clear hb2);(try clear hk);(try clear hi)))
  (try simp only [Act.put,List.setIfInBounds_toArray,List.set_cons_zero,List.set_cons_succ])
  go_cut [20] (fun v20 wc=>∃ (kq : Nat) (x20_4 : Bool),v20 = .bool x20_4 ∧ Aside0 (quarryref17_formed.j0 kq a1 x20_4 a0_0 a0_1 a0_2 a0_3 l0_4 l0_5 = some r) ∧ Aside0 (kq ≤ k) ∧ Aside0 (wc.heap[gb472]? = some (.cells #[.int .i64 a0_0,.bool a0_1,.string a0_2,.string a0_3,(.slice A0_4 l0_4.length c0_4),(.slice A0_5 l0_5.length c0_5)] 25 (0,0))) ∧ Aside0 (Below w.heap.size w wc))
  case first =>
   have H:=HC5.out;clear HC5
   by_cases c9 : a0_0 = 5
   ·rw [if_pos c9] at H
    have c9b0 : (a0_0 == 5) = true:=beq_iff_eq.mpr c9;have c9b1 : (a0_0 != 5) = false:=bne_eq_false_iff_eq.mpr c9;clear c9
    (first|rw [c9b0]|(simp only [i64_w,i32_w];rw [c9b0])|skip)
    have H':=Aside0.mk H;clear H;obtain ⟨hcz10_0,hcz10_1,hcz10_2,hcz10_3,hcz10_4,hcz10_5,hfz10_0,hfz10_1,hfz10_2,hfz10_3,hfz10_4,hfz10_5⟩:=cf6_ BK472;go_wp2
    go_meet
    case rel=>exact ⟨_,((a1 == 0)),rr_,(by first|exact H'|(subst_vars;exact H')),⟨by first|omega|exact Nat.le_refl _⟩,⟨(bk_ BK472)⟩,⟨(hb_ HB)⟩⟩
   rw [if_neg c9] at H
   have c9b0 : (a0_0 == 5) = false:=beq_eq_false_iff_ne.mpr c9;have c9b1 : (a0_0 != 5) = true:=bne_iff_ne.mpr c9
   (first|rw [c9b0]|(simp only [i64_w,i32_w];rw [c9b0])|skip)
   by_cases c11 : a0_0 = 6
   ·rw [if_pos c11] at H
    have c11b0 : (a0_0 == 6) = true:=beq_iff_eq.mpr c11;have c11b1 : (a0_0 != 6) = false:=bne_eq_false_iff_eq.mpr c11;clear c11;have H':=Aside0.mk H;clear H;obtain ⟨hcz12_0,hcz12_1,hcz12_2,hcz12_3,hcz12_4,hcz12_5,hfz12_0,hfz12_1,hfz12_2,hfz12_3,hfz12_4,hfz12_5⟩:=cf6_ BK472;go_wp2
    go_meet
    case rel=>exact ⟨_,((a1 == 0)),rr_,(by first|exact H'|(subst_vars;exact H')),⟨by first|omega|exact Nat.le_refl _⟩,⟨(bk_ BK472)⟩,⟨(hb_ HB)⟩⟩
   rw [if_neg c11] at H
   have c11b0 : (a0_0 == 6) = false:=beq_eq_false_iff_ne.mpr c11;have c11b1 : (a0_0 != 6) = true:=bne_iff_ne.mpr c11;have H':=Aside0.mk H;clear H;obtain ⟨hcz13_0,hcz13_1,hcz13_2,hcz13_3,hcz13_4,hcz13_5,hfz13_0,hfz13_1,hfz13_2,hfz13_3,hfz13_4,hfz13_5⟩:=cf6_ BK472;go_wp2
   go_meet
   case rel=>exact ⟨_,(false),rr_,(by first|exact H'|(subst_vars;exact H')),⟨by first|omega|exact Nat.le_refl _⟩,⟨(bk_ BK472)⟩,⟨(hb_ HB)⟩⟩
  case rest =>
   clear HC5;obtain ⟨kq,x20_4,rfl,HA,HJ4,BK472,HB⟩:=hcut
   cases kq with
   | zero=>exact absurd HA.out (by simp [quarryref17_formed.j0])
   | succ kj4 =>
    have H:=HA.out;clear HA
    simp only [quarryref17_formed.j0] at H
    by_cases c14 : x20_4 = true
    ·subst c14
     have H1 : (some false) = some r:=by rw [if_pos rfl] at H;exact H
     clear H;have H:=H1;clear H1;obtain rfl:=Option.some.inj H;go_wp2
     go_ret;exact ⟨er_,(hb_ HB)⟩
    replace c14:=Bool.eq_false_iff.mpr c14;subst c14
    have H1 : (quarryref17_formed.l0 kj4 a1 0 a0_0 a0_1 a0_2 a0_3 l0_4 l0_5) = some r:=by rw [if_neg (show ¬ (false = true) by decide)] at H;exact H
    clear H;have H:=H1;clear H1;have H':=Aside0.mk H;clear H;go_wp2
    go_loopg [5] kj4 (fun kq v5 w'=>∃ (x5_2 : Int),v5 = .int .i64 x5_2 ∧ Aside0 (quarryref17_formed.l0 kq a1 x5_2 a0_0 a0_1 a0_2 a0_3 l0_4 l0_5 = some r) ∧ Aside0 (kq ≤ kj4) ∧ Aside0 (w'.heap[gb472]? = some (.cells #[.int .i64 a0_0,.bool a0_1,.string a0_2,.string a0_3,(.slice A0_4 l0_4.length c0_4),(.slice A0_5 l0_5.length c0_5)] 25 (0,0))) ∧ Aside0 (Below w.heap.size w w'))
    case atStart=>exact ⟨(0),rr_,H',⟨Nat.le_refl _⟩,⟨(bk_ BK472)⟩,⟨(hb_ HB)⟩⟩
    case round =>
     clear H'
     try clear BK472
     try clear HB
     obtain ⟨x5_2,rfl,HA,HK2,BK472,HB⟩:=hrel
     cases gk with
     | zero=>exact absurd HA.out (by simp [quarryref17_formed.l0])
     | succ k2 =>
      have H:=HA.out;clear HA
      simp only [quarryref17_formed.l0] at H
      by_cases c15 : x5_2 < (l0_5.length : Int)
      ·rw [if_pos c15] at H
       have c15b0 : decide (x5_2 < (l0_5.length : Int)) = true:=decide_eq_true c15;clear c15
       by_cases c16 : 0 ≤ x5_2
       ·rw [if_pos c16] at H
        have c16b0 : decide (0 ≤ x5_2) = true:=decide_eq_true c16;clear c16;replace H:=Option.bind_eq_some_iff.mp H;obtain ⟨t475,A170,H⟩:=H;replace H : (if t475 = true then (quarryref17_formed.l0 k2 a1 (wrap64 (x5_2 + 1)) a0_0 a0_1 a0_2 a0_3 l0_4 l0_5) else (some false)) = some r:=H;have A17:=Aside0.mk A170;clear A170
        by_cases c18 : t475 = true
        ·subst c18
         have H1 : (quarryref17_formed.l0 k2 a1 (wrap64 (x5_2 + 1)) a0_0 a0_1 a0_2 a0_3 l0_4 l0_5) = some r:=by rw [if_pos rfl] at H;exact H
         clear H;have H:=H1;clear H1;have H':=Aside0.mk H;clear H;obtain ⟨hcz19_0,hcz19_1,hcz19_2,hcz19_3,hcz19_4,hcz19_5,hfz19_0,hfz19_1,hfz19_2,hfz19_3,hfz19_4,hfz19_5⟩:=cf6_ BK472;have p474 : 0 ≤ (x5_2 : Int):=of_decide_eq_true aa_;have q474 : x5_2 < (l0_5.length : Int):=of_decide_eq_true aa_;obtain ⟨ad474,A474_4,c474_4,A474_5,c474_5,e474,hx474_0,hx474_1,hx474_2,hx474_3,hx474_4,hx474_5,hl474_4,hi474_4,hl474_5,hi474_5⟩:=at_T25 HR0_5.out x5_2 p474 q474;cases e474;replace hx474_0:=(HB.out.cell (World.block_lt_of_cell? w _ hx474_0)).trans hx474_0;replace hx474_1:=(HB.out.cell (World.block_lt_of_cell? w _ hx474_1)).trans hx474_1;replace hx474_2:=(HB.out.cell (World.block_lt_of_cell? w _ hx474_2)).trans hx474_2;replace hx474_3:=(HB.out.cell (World.block_lt_of_cell? w _ hx474_3)).trans hx474_3;replace hx474_4:=(HB.out.cell (World.block_lt_of_cell? w _ hx474_4)).trans hx474_4;replace hx474_5:=(HB.out.cell (World.block_lt_of_cell? w _ hx474_5)).trans hx474_5;have HR474_4:=Aside0.mk hi474_4;have HC474_4:=Aside0.mk hl474_4;clear hi474_4 hl474_4;have HR474_5:=Aside0.mk hi474_5;have HC474_5:=Aside0.mk hl474_5;clear hi474_5 hl474_5;replace p474:=eq_true p474;replace q474:=eq_true q474
         go_wp2_with (first|((with_reducible refine gate_callee (f:=38) rfl ?_);refine goesL_ (some 35) rfl rfl Tryz.func38 (by kernel_rfl) rfl #[.agg #[.int .i64 ((rd_T25 l0_5 x5_2).f0),.bool ((rd_T25 l0_5 x5_2).f1),.string ((rd_T25 l0_5 x5_2).f2),.string ((rd_T25 l0_5 x5_2).f3),.slice A474_4 ((rd_T25 l0_5 x5_2).f4).length c474_4,.slice A474_5 ((rd_T25 l0_5 x5_2).f5).length c474_5],.int .i64 (wrap64 (a1 - 1))] rfl am_ ?_;(with_reducible refine (ih k2 (by have:=HJ4.out;have:=HK2.out;omega) ((rd_T25 l0_5 x5_2).f0) ((rd_T25 l0_5 x5_2).f1) ((rd_T25 l0_5 x5_2).f2) ((rd_T25 l0_5 x5_2).f3) _ _ ((rd_T25 l0_5 x5_2).f4) _ _ ((rd_T25 l0_5 x5_2).f5) (wrap64 (a1 - 1)) true _ ?side1 ?side2 ?side3 ?side4 A17.out).mono ?_);(case side1=>repeat (first|exact (Kd.C_below HR474_4.out HB.out)|(with_reducible refine Kd.C_alloc ?_ _)|(with_reducible refine Kd.C_drewN ?_ _)|(with_reducible refine Kd.C_drew ?_)));(case side2=>exact HC474_4.out);(case side3=>repeat (first|exact (Kd.C_below HR474_5.out HB.out)|(with_reducible refine Kd.C_alloc ?_ _)|(with_reducible refine Kd.C_drewN ?_ _)|(with_reducible refine Kd.C_drew ?_)));(case side4=>exact HC474_5.out);rintro e w20 ⟨rfl,hb⟩;refine ⟨_,rfl,?_⟩;have n_:=J_ (bkb_ BK472 hb) (Aside0.mk (below_step (hb_ HB) hb));clear BK472 HB;obtain ⟨BK472,HB⟩:=n_;(try clear hb);(try clear hb2);(try clear hk);(try clear hi)))
         go_roundg k2
         case measure=>have:=HJ4.out;have:=HK2.out;omega
         case rel=>exact ⟨(wrap64 (x5_2 + 1)),rr_,(by first|exact H'|(subst_vars;exact H')),⟨by have:=HJ4.out;have:=HK2.out;omega⟩,⟨(bk_ BK472)⟩,⟨(hb_ HB)⟩⟩
        replace c18:=Bool.eq_false_iff.mpr c18;subst c18
        have H1 : (some false) = some r:=by rw [if_neg (show ¬ (false = true) by decide)] at H;exact H
        clear H;have H:=H1;clear H1;obtain rfl:=Option.some.inj H;obtain ⟨hcz21_0,hcz21_1,hcz21_2,hcz21_3,hcz21_4,hcz21_5,hfz21_0,hfz21_1,hfz21_2,hfz21_3,hfz21_4,hfz21_5⟩:=cf6_ BK472;have p474 : 0 ≤ (x5_2 : Int):=of_decide_eq_true aa_;have q474 : x5_2 < (l0_5.length : Int):=of_decide_eq_true aa_;obtain ⟨ad474,A474_4,c474_4,A474_5,c474_5,e474,hx474_0,hx474_1,hx474_2,hx474_3,hx474_4,hx474_5,hl474_4,hi474_4,hl474_5,hi474_5⟩:=at_T25 HR0_5.out x5_2 p474 q474;cases e474;replace hx474_0:=(HB.out.cell (World.block_lt_of_cell? w _ hx474_0)).trans hx474_0;replace hx474_1:=(HB.out.cell (World.block_lt_of_cell? w _ hx474_1)).trans hx474_1;replace hx474_2:=(HB.out.cell (World.block_lt_of_cell? w _ hx474_2)).trans hx474_2;replace hx474_3:=(HB.out.cell (World.block_lt_of_cell? w _ hx474_3)).trans hx474_3;replace hx474_4:=(HB.out.cell (World.block_lt_of_cell? w _ hx474_4)).trans hx474_4;replace hx474_5:=(HB.out.cell (World.block_lt_of_cell? w _ hx474_5)).trans hx474_5;have HR474_4:=Aside0.mk hi474_4;have HC474_4:=Aside0.mk hl474_4;clear hi474_4 hl474_4;have HR474_5:=Aside0.mk hi474_5;have HC474_5:=Aside0.mk hl474_5;clear hi474_5 hl474_5;replace p474:=eq_true p474;replace q474:=eq_true q474
        go_wp2_with (first|((with_reducible refine gate_callee (f:=38) rfl ?_);refine goesL_ (some 35) rfl rfl Tryz.func38 (by kernel_rfl) rfl #[.agg #[.int .i64 ((rd_T25 l0_5 x5_2).f0),.bool ((rd_T25 l0_5 x5_2).f1),.string ((rd_T25 l0_5 x5_2).f2),.string ((rd_T25 l0_5 x5_2).f3),.slice A474_4 ((rd_T25 l0_5 x5_2).f4).length c474_4,.slice A474_5 ((rd_T25 l0_5 x5_2).f5).length c474_5],.int .i64 (wrap64 (a1 - 1))] rfl am_ ?_;(with_reducible refine (ih k2 (by have:=HJ4.out;have:=HK2.out;omega) ((rd_T25 l0_5 x5_2).f0) ((rd_T25 l0_5 x5_2).f1) ((rd_T25 l0_5 x5_2).f2) ((rd_T25 l0_5 x5_2).f3) _ _ ((rd_T25 l0_5 x5_2).f4) _ _ ((rd_T25 l0_5 x5_2).f5) (wrap64 (a1 - 1)) false _ ?side1 ?side2 ?side3 ?side4 A17.out).mono ?_);(case side1=>repeat (first|exact (Kd.C_below HR474_4.out HB.out)|(with_reducible refine Kd.C_alloc ?_ _)|(with_reducible refine Kd.C_drewN ?_ _)|(with_reducible refine Kd.C_drew ?_)));(case side2=>exact HC474_4.out);(case side3=>repeat (first|exact (Kd.C_below HR474_5.out HB.out)|(with_reducible refine Kd.C_alloc ?_ _)|(with_reducible refine Kd.C_drewN ?_ _)|(with_reducible refine Kd.C_drew ?_)));(case side4=>exact HC474_5.out);rintro e w22 ⟨rfl,hb⟩;refine ⟨_,rfl,?_⟩;have n_:=J_ (bkb_ BK472 hb) (Aside0.mk (below_step (hb_ HB) hb));clear BK472 HB;obtain ⟨BK472,HB⟩:=n_;(try clear hb);(try clear hb2);(try clear hk);(try clear hi)))
        go_ret;exact ⟨er_,(hb_ HB)⟩
       rw [if_neg c16] at H
       exact absurd H (by simp)
      rw [if_neg c15] at H
      have c15b0 : decide (x5_2 < (l0_5.length : Int)) = false:=decide_eq_false c15;clear c15;obtain rfl:=Option.some.inj H;obtain ⟨hcz23_0,hcz23_1,hcz23_2,hcz23_3,hcz23_4,hcz23_5,hfz23_0,hfz23_1,hfz23_2,hfz23_3,hfz23_4,hfz23_5⟩:=cf6_ BK472;go_wp2
      go_ret;exact ⟨er_,(hb_ HB)⟩
 replace c4:=Bool.eq_false_iff.mpr c4;subst c4
 have H1 : (some false) = some r:=by rw [if_neg (show ¬ (false = true) by decide)] at H;exact H
 clear H;have H:=H1;clear H1;obtain rfl:=Option.some.inj H;go_enter Tryz.func38,Tryz.ntmps38
 go_wp2_with (first|((with_reducible refine gate_dst (N:=2) rfl ?_);refine box_event ?hg (N:=2) ?hd (cs:=#[.int .i64 a0_0,.bool a0_1,.string a0_2,.string a0_3,.slice A0_4 l0_4.length c0_4,.slice A0_5 l0_5.length c0_5]) (t:=25) ?hr ?_;(case hd=>rfl);(case hg=>rfl);(case hr=>first|(go_simp;done)|(go_simp;rfl));intro gb472 hg w24 hbox hb;have n_:=J_ (below_step (hb_ HB) hb) (J_ (hbox) (J_ (bs_ hg HB) (Aside0.mk (bs_ hg HB))));clear HB;obtain ⟨HB,BK472,GW472,GE472⟩:=n_;clear hb hbox hg;obtain ⟨hcz25_0,hcz25_1,hcz25_2,hcz25_3,hcz25_4,hcz25_5,hfz25_0,hfz25_1,hfz25_2,hfz25_3,hfz25_4,hfz25_5⟩:=cf6_ BK472)|((with_reducible refine gate_callee (f:=57) rfl ?_);refine goesL_ (some 7) rfl rfl Tryz.func57 (by kernel_rfl) rfl #[.agg #[.int .i64 a0_0,.bool a0_1,.string a0_2,.string a0_3,.slice A0_4 l0_4.length c0_4,.slice A0_5 l0_5.length c0_5]] rfl am_ ?_;(with_reducible refine (quarryref17_plain.calls k a0_0 a0_1 a0_2 a0_3 _ _ l0_4 _ _ l0_5 false _ ?side1 ?side2 ?side3 ?side4 A3.out).mono ?_);(case side1=>repeat (first|exact (Kd.C_below HR0_4.out HB.out)|(with_reducible refine Kd.C_alloc ?_ _)|(with_reducible refine Kd.C_drewN ?_ _)|(with_reducible refine Kd.C_drew ?_)));(case side2=>exact HC0_4.out);(case side3=>repeat (first|exact (Kd.C_below HR0_5.out HB.out)|(with_reducible refine Kd.C_alloc ?_ _)|(with_reducible refine Kd.C_drewN ?_ _)|(with_reducible refine Kd.C_drew ?_)));(case side4=>exact HC0_5.out);rintro e w26 ⟨rfl,hb⟩;refine ⟨_,rfl,?_⟩;have n_:=J_ (bkb_ BK472 hb) (Aside0.mk (below_step (hb_ HB) hb));clear BK472 HB;obtain ⟨BK472,HB⟩:=n_;(try clear hb);(try clear hb2);(try clear hk);(try clear hi)))
 go_ret;exact ⟨er_,(hb_ HB)⟩
def quarryref17_Formed.f (k : Nat) (a0_0 : Int) (a0_1 : Bool) (a0_2 : ByteArray) (a0_3 : ByteArray) (l0_4 : List ByteArray) (l0_5 : List (S25)) : Option (Bool):=(quarryref17_formed.f k a0_0 a0_1 a0_2 a0_3 l0_4 l0_5 1024).bind fun t477=>(some t477)
set_option maxHeartbeats 8000000 in
set_option maxRecDepth 100000 in
theorem quarryref17_Formed.calls (k : Nat) (a0_0 : Int) (a0_1 : Bool) (a0_2 : ByteArray) (a0_3 : ByteArray) (A0_4 : Option Addr) (c0_4 : Nat) (l0_4 : List ByteArray) (A0_5 : Option Addr) (c0_5 : Nat) (l0_5 : List (S25)) (r : Bool) (w : World) (hr0_4 : Kd.C Kd.string w A0_4 l0_4.length l0_4) (hc0_4 : l0_4.length ≤ c0_4) (hr0_5 : Kd.C k25 w A0_5 l0_5.length l0_5) (hc0_5 : l0_5.length ≤ c0_5) (h : quarryref17_Formed.f k a0_0 a0_1 a0_2 a0_3 l0_4 l0_5 = some r) :
  Calls Tryz.prog 23 #[.agg #[.int .i64 a0_0,.bool a0_1,.string a0_2,.string a0_3,.slice A0_4 l0_4.length c0_4,.slice A0_5 l0_5.length c0_5]] w fun e w'=>e = .returned (.bool r) ∧ Below w.heap.size w w':=by
 have hu25:=Tryz.underlying25;have HR0_4:=Aside0.mk hr0_4;have HC0_4:=Aside0.mk hc0_4;clear hr0_4 hc0_4;have HR0_5:=Aside0.mk hr0_5;have HC0_5:=Aside0.mk hc0_5;clear hr0_5 hc0_5;have HB:=Aside0.mk (Below.refl w.heap.size w);have H : ((quarryref17_formed.f k a0_0 a0_1 a0_2 a0_3 l0_4 l0_5 1024).bind fun t477=>(some t477)) = some r:=h;clear h;replace H:=Option.bind_eq_some_iff.mp H;obtain ⟨t477,A20,H⟩:=H;replace H : (some t477) = some r:=H;have A2:=Aside0.mk A20;clear A20;obtain rfl:=Option.some.inj H;go_enter Tryz.func23,Tryz.ntmps23
 go_wp2_with (first|((with_reducible refine gate_dst (N:=1) rfl ?_);refine box_event ?hg (N:=1) ?hd (cs:=#[.int .i64 a0_0,.bool a0_1,.string a0_2,.string a0_3,.slice A0_4 l0_4.length c0_4,.slice A0_5 l0_5.length c0_5]) (t:=25) ?hr ?_;(case hd=>rfl);(case hg=>rfl);(case hr=>first|(go_simp;done)|(go_simp;rfl));intro gb476 hg w3 hbox hb;have n_:=J_ (below_step (hb_ HB) hb) (J_ (hbox) (J_ (bs_ hg HB) (Aside0.mk (bs_ hg HB))));clear HB;obtain ⟨HB,BK476,GW476,GE476⟩:=n_;clear hb hbox hg;obtain ⟨hcz4_0,hcz4_1,hcz4_2,hcz4_3,hcz4_4,hcz4_5,hfz4_0,hfz4_1,hfz4_2,hfz4_3,hfz4_4,hfz4_5⟩:=cf6_ BK476)|((with_reducible refine gate_callee (f:=38) rfl ?_);refine goesL_ (some 4) rfl rfl Tryz.func38 (by kernel_rfl) rfl #[.agg #[.int .i64 a0_0,.bool a0_1,.string a0_2,.string a0_3,.slice A0_4 l0_4.length c0_4,.slice A0_5 l0_5.length c0_5],.int .i64 1024] rfl am_ ?_;(with_reducible refine (quarryref17_formed.calls k a0_0 a0_1 a0_2 a0_3 _ _ l0_4 _ _ l0_5 1024 t477 _ ?side1 ?side2 ?side3 ?side4 A2.out).mono ?_);(case side1=>repeat (first|exact (Kd.C_below HR0_4.out HB.out)|(with_reducible refine Kd.C_alloc ?_ _)|(with_reducible refine Kd.C_drewN ?_ _)|(with_reducible refine Kd.C_drew ?_)));(case side2=>exact HC0_4.out);(case side3=>repeat (first|exact (Kd.C_below HR0_5.out HB.out)|(with_reducible refine Kd.C_alloc ?_ _)|(with_reducible refine Kd.C_drewN ?_ _)|(with_reducible refine Kd.C_drew ?_)));(case side4=>exact HC0_5.out);rintro e w5 ⟨rfl,hb⟩;refine ⟨_,rfl,?_⟩;have n_:=J_ (bkb_ BK476 hb) (Aside0.mk (below_step (hb_ HB) hb));clear BK476 HB;obtain ⟨BK476,HB⟩:=n_;(try clear hb);(try clear hb2);(try clear hk);(try clear hi)))
 go_ret;exact ⟨er_,(hb_ HB)⟩
def quarryref18_put.l0 : Nat → List Int → ByteArray → Int → Option (List Int)
 | 0,_,_,_=>none
 | k + 1,x0,x1,x5=>if x5 < (x1.size : Int) then (if 0 ≤ x5 then (if x0.length < 140737488355328 then (quarryref18_put.l0 k (x0 ++ [bt x1 x5]) x1 (wrap64 (x5 + 1))) else (none)) else (none)) else (some x0)
def quarryref18_put.f (k : Nat) (l0 : List Int) (a1 : ByteArray) : Option (List Int):=quarryref18_put.l0 k l0 a1 0
set_option maxHeartbeats 8000000 in
set_option maxRecDepth 100000 in
theorem quarryref18_put.calls (k : Nat) (P0_ : Nat → Prop) (u9000_ : Value) (l0 : List Int) (a1 : ByteArray) (r : List Int) (w0 w : World) (hB : Below w0.heap.size w0 w) (ho0 : Kd.R (Kd.int .u8) 5 w w0.heap.size P0_ u9000_ l0) (h : quarryref18_put.f k l0 a1 = some r) :
  Calls Tryz.prog 39 #[u9000_,.string a1] w fun e w'=>∃ v0_ : Value,e = .returned (v0_) ∧ Kd.R (Kd.int .u8) 5 w' w0.heap.size (fun k_=>(P0_ k_ ∨ w.heap.size ≤ k_)) v0_ r ∧ Below w0.heap.size w0 w' ∧ Kept w w' (fun k_=>P0_ k_):=by
 have HO0:=Aside0.mk (show Kd.R (Kd.int .u8) 5 w w0.heap.size (fun k_=>(P0_ k_ ∨ w.heap.size ≤ k_)) u9000_ l0 from Kd.R_mono ho0 (fun k_ hk=>(.inl hk)));have HK:=Aside0.mk (Kept.refl w (fun k_=>P0_ k_));have HW0:=Aside0.mk hB.size;have HB:=Aside0.mk hB;clear hB;have H : (quarryref18_put.l0 k l0 a1 0) = some r:=h;clear h;have H':=Aside0.mk H;clear H;go_enter Tryz.func39,Tryz.ntmps39;go_wp2
 go_loopg [0,5] k (fun kq v0 v5 w'=>∃ (x0_1 : List Int) (x5_1 : Int),v5 = .int .i64 x5_1 ∧ Aside0 (quarryref18_put.l0 kq x0_1 a1 x5_1 = some r) ∧ Aside0 (kq ≤ k) ∧ Aside0 (Kd.R (Kd.int .u8) 5 w' w0.heap.size (fun k_=>(P0_ k_ ∨ w.heap.size ≤ k_)) v0 x0_1) ∧ Aside0 (Kept w w' (fun k_=>P0_ k_)) ∧ Aside0 (Below w0.heap.size w0 w'))
 case atStart=>exact ⟨(l0),(0),rr_,H',⟨Nat.le_refl _⟩,⟨(rk_ HO0)⟩,⟨by repeat (first|(with_reducible first|exact HK.out|apply Kept.alloc|apply Kept.drewN|apply Kept.drew)|exact HK.out)⟩,⟨(hb_ HB)⟩⟩
 case round =>
  clear H'
  try clear HK
  try clear HB
  obtain ⟨x0_1,x5_1,rfl,HA,HK1,HO_0,HK,HB⟩:=hrel
  cases gk with
  | zero=>exact absurd HA.out (by simp [quarryref18_put.l0])
  | succ k1 =>
   have H:=HA.out;clear HA
   simp only [quarryref18_put.l0] at H
   by_cases c3 : x5_1 < (a1.size : Int)
   ·rw [if_pos c3] at H
    have c3b0 : decide (x5_1 < (a1.size : Int)) = true:=decide_eq_true c3;clear c3
    by_cases c4 : 0 ≤ x5_1
    ·rw [if_pos c4] at H
     have c4b0 : decide (0 ≤ x5_1) = true:=decide_eq_true c4;clear c4
     by_cases c6 : x0_1.length < 140737488355328
     ·rw [if_pos c6] at H
      have LMc6:=Aside0.mk c6;clear c6
      obtain ⟨y478,hy478⟩ : ∃ y_ : List Int,y_ = (x0_1 ++ [bt a1 x5_1]):=⟨_,rfl⟩
      replace H : (quarryref18_put.l0 k1 y478 a1 (wrap64 (x5_1 + 1))) = some r:=by first|(rw [hy478];with_reducible exact H)|(have H2_:=(Option.bind_some _ _).symm.trans H;rw [hy478];with_reducible exact H2_)|(have H2_:=(Option.bind_some _ _).symm.trans H;with_reducible exact H2_)|with_reducible exact H|(rw [hy478];exact H)|exact H
      have Ny478:=Aside0.mk hy478;clear hy478;have H':=Aside0.mk H;clear H;have p5 : 0 ≤ (x5_1 : Int):=of_decide_eq_true aa_;have q5 : x5_1 < (a1.size : Int):=of_decide_eq_true aa_;have hx5:=bt_at a1 x5_1;replace p5:=eq_true p5;replace q5:=eq_true q5
      go_wp2_with (first|((with_reducible refine gate_builtin (b:=.append) (xs:=#[.tmp 12,.tmp 16]) rfl ?_);at_builtin;refine Kd.R_append (Kd.int .u8) (w0:=w0) w0.heap.size rfl (.tmp 12) (.tmp 16) 43 5 (.int .u8 0) 1 rfl Tryz.underlying43 info5 rfl (by decide) (by omega) u0 x0_1 (bt a1 x5_1) [.int .u8 (bt a1 x5_1)] (fun k_=>(P0_ k_ ∨ w.heap.size ≤ k_)) (fun _=>False) rfl rfl ?aP (fun _ hk=>hk.elim) ?aF ?aO ?aB ?aS ?aL ?_;(case aP=>exact rfl);(case aB=>exact (hb_ HB));(case aF=>exact (fun k_ hk=>(.inr (Nat.le_trans (by first|exact HK.out.1|exact (show Kept w _ (fun k_=>P0_ k_) from by repeat (first|(with_reducible first|exact HK.out|apply Kept.alloc|apply Kept.drewN|apply Kept.drew)|exact HK.out)).1) hk))));(case aO=>exact (rk_ HO_0));(case aS=>exact (below_size (hb_ HB)));(case aL=>have:=LMc6.out;first|omega|exact Nat.le_of_lt this);intro v479 w7 ho hb hg hat;rw [← Ny478.out] at ho;have n_:=J_ (hb) (J_ (Kept.of_grown (S:=(fun k_=>P0_ k_)) hg (by repeat (first|(with_reducible first|exact HK.out|apply Kept.alloc|apply Kept.drewN|apply Kept.drew)|exact HK.out)) (fun k_ e_=>(HO_0.out.1 k_ e_))) (Aside0.mk (ho)));clear HB HK HO_0;obtain ⟨HB,HK,HO480⟩:=n_;clear ho hb hg hat))
      go_roundg k1
      case measure=>have:=HK1.out;omega
      case rel=>exact ⟨(y478),(wrap64 (x5_1 + 1)),rr_,(by first|exact H'|(subst_vars;exact H')),⟨by have:=HK1.out;omega⟩,⟨(rk_ HO480)⟩,⟨by repeat (first|(with_reducible first|exact HK.out|apply Kept.alloc|apply Kept.drewN|apply Kept.drew)|exact HK.out)⟩,⟨(hb_ HB)⟩⟩
     rw [if_neg c6] at H
     exact absurd H (by simp)
    rw [if_neg c4] at H
    exact absurd H (by simp)
   rw [if_neg c3] at H
   have c3b0 : decide (x5_1 < (a1.size : Int)) = false:=decide_eq_false c3;clear c3;obtain rfl:=Option.some.inj H;go_wp2
   go_ret;exact ⟨_,er_,(rk_ HO_0),(hb_ HB),by repeat (first|(with_reducible first|exact HK.out|apply Kept.alloc|apply Kept.drewN|apply Kept.drew)|exact HK.out)⟩
end Go.Proofs.YtlgamjgdkljfiacGreatDoor.PWritePretties
