-- Written by shrink.py, a program of this session: what the law needs of the print and its words. Lean checks it.
import Derived.Test.YtlgamjgdkljfiacGreatDoorZPWritePrettiesx0
import Derived.Test.YtlgamjgdkljfiacGreatDoorZPWritePrettiesx1
namespace Go.Proofs.YtlgamjgdkljfiacGreatDoor.PWritePretties
open Go.RowKit Go.Proofs.YtlgamjgdkljfiacGreatDoorW.PrintWords Go.Proofs.YtlgamjgdkljfiacGreatDoorW.PrintLast Go.Proofs.YtlgamjgdkljfiacGreatDoorW.PrintMore
attribute [local go_sem] max2_int min2_int max_two min_two max_three min_three max_four min_four
set_option linter.unusedVariables false
set_option linter.unusedSimpArgs false
mutual
def quarryref00_leftOfValue.j1 : Nat → Int → Int → Int → Int → Bool → ByteArray → ByteArray → List ByteArray → List (S25) → Option (Int)
 | 0,_,_,_,_,_,_,_,_,_=>none
 | k + 1,x1,x2,x3,x158000,x158001,x158002,x158003,x158004,x158005=>quarryref00_leftOfValue.l1 k x1 x2 x3 0 x158000 x158001 x158002 x158003 x158004 x158005
def quarryref00_leftOfValue.l1 : Nat → Int → Int → Int → Int → Int → Bool → ByteArray → ByteArray → List ByteArray → List (S25) → Option (Int)
 | 0,_,_,_,_,_,_,_,_,_,_=>none
 | k + 1,x1,x2,x3,x10,x158000,x158001,x158002,x158003,x158004,x158005=>if x10 < (x158005.length : Int) then (quarryref00_leftOfValue.j3 k x1 x2 x3 x10 (decide (x3 ≥ 0)) x158000 x158001 x158002 x158003 x158004 x158005) else (quarryref00_leftOfValue.j3 k x1 x2 x3 x10 false x158000 x158001 x158002 x158003 x158004 x158005)
def quarryref00_leftOfValue.j3 : Nat → Int → Int → Int → Int → Bool → Int → Bool → ByteArray → ByteArray → List ByteArray → List (S25) → Option (Int)
 | 0,_,_,_,_,_,_,_,_,_,_,_=>none
 | k + 1,x1,x2,x3,x10,x55,x158000,x158001,x158002,x158003,x158004,x158005=>if x55 = true then (if x10 < (x158004.length : Int) then (if 0 ≤ x10 then (if x10 < (x158005.length : Int) then ((quarryref00_leftOfValue.f k ((rd_T25 x158005 x10).f0) ((rd_T25 x158005 x10).f1) ((rd_T25 x158005 x10).f2) ((rd_T25 x158005 x10).f3) ((rd_T25 x158005 x10).f4) ((rd_T25 x158005 x10).f5) (wrap64 (x1 + 1)) (wrap64 ((wrap64 (x2 + 21)) + (wrap64 (2 * ((rdOf ByteArray.empty x158004 x10).size : Int))))) x3).bind fun t163=>(quarryref00_leftOfValue.l1 k x1 x2 t163 (wrap64 (x10 + 1)) x158000 x158001 x158002 x158003 x158004 x158005)) else (none)) else (none)) else (if 0 ≤ x10 then (if x10 < (x158005.length : Int) then ((quarryref00_leftOfValue.f k ((rd_T25 x158005 x10).f0) ((rd_T25 x158005 x10).f1) ((rd_T25 x158005 x10).f2) ((rd_T25 x158005 x10).f3) ((rd_T25 x158005 x10).f4) ((rd_T25 x158005 x10).f5) (wrap64 (x1 + 1)) (wrap64 (x2 + 21)) x3).bind fun t165=>(quarryref00_leftOfValue.l1 k x1 x2 t165 (wrap64 (x10 + 1)) x158000 x158001 x158002 x158003 x158004 x158005)) else (none)) else (none))) else (some x3)
def quarryref00_leftOfValue.l0 : Nat → Int → Int → Int → Int → Int → Bool → ByteArray → ByteArray → List ByteArray → List (S25) → Option (Int)
 | 0,_,_,_,_,_,_,_,_,_,_=>none
 | k + 1,x1,x2,x3,x9,x158000,x158001,x158002,x158003,x158004,x158005=>if x9 < (x158004.length : Int) then (if x3 ≥ 0 then (if 0 ≤ x9 then ((quarryref00_told.f ((rdOf ByteArray.empty x158004 x9).size : Int) x1 0).bind fun t160=>(quarryref00_leftOfValue.l0 k x1 x2 (wrap64 (x3 - t160)) (wrap64 (x9 + 1)) x158000 x158001 x158002 x158003 x158004 x158005)) else (none)) else (quarryref00_leftOfValue.j1 k x1 x2 x3 x158000 x158001 x158002 x158003 x158004 x158005)) else (quarryref00_leftOfValue.j1 k x1 x2 x3 x158000 x158001 x158002 x158003 x158004 x158005)
def quarryref00_leftOfValue.f : Nat → Int → Bool → ByteArray → ByteArray → List ByteArray → List (S25) → Int → Int → Int → Option (Int)
 | 0,_,_,_,_,_,_,_,_,_=>none
 | k + 1,a0_0,a0_1,a0_2,a0_3,l0_4,l0_5,a1,a2,a3=>if a1 > 65536 then (some (-1)) else ((quarryref00_told.f (wrap64 ((a0_2.size : Int) + (a0_3.size : Int))) a1 a2).bind fun t158=>(quarryref00_leftOfValue.l0 k a1 a2 (wrap64 (a3 - t158)) 0 a0_0 a0_1 a0_2 a0_3 l0_4 l0_5))
end
set_option maxHeartbeats 8000000 in
set_option maxRecDepth 100000 in
theorem quarryref00_leftOfValue.calls (k : Nat) : ∀ (a0_0 : Int) (a0_1 : Bool) (a0_2 : ByteArray) (a0_3 : ByteArray) (A0_4 : Option Addr) (c0_4 : Nat) (l0_4 : List ByteArray) (A0_5 : Option Addr) (c0_5 : Nat) (l0_5 : List (S25)) (a1 : Int) (a2 : Int) (a3 : Int) (r : Int) (w : World) (hr0_4 : Kd.C Kd.string w A0_4 l0_4.length l0_4) (hc0_4 : l0_4.length ≤ c0_4) (hr0_5 : Kd.C k25 w A0_5 l0_5.length l0_5) (hc0_5 : l0_5.length ≤ c0_5) (h : quarryref00_leftOfValue.f k a0_0 a0_1 a0_2 a0_3 l0_4 l0_5 a1 a2 a3 = some r),
  Calls Tryz.prog 15 #[.agg #[.int .i64 a0_0,.bool a0_1,.string a0_2,.string a0_3,.slice A0_4 l0_4.length c0_4,.slice A0_5 l0_5.length c0_5],.int .i64 a1,.int .i64 a2,.int .i64 a3] w fun e w'=>e = .returned (.int .i64 r) ∧ Below w.heap.size w w':=by
 induction k using Nat.strongRecOn with
 | _ k ih =>
 intro a0_0 a0_1 a0_2 a0_3 A0_4 c0_4 l0_4 A0_5 c0_5 l0_5 a1 a2 a3 r w hr0_4 hc0_4 hr0_5 hc0_5 h
 cases k with
 | zero=>exact absurd h (by simp [quarryref00_leftOfValue.f])
 | succ k =>
 simp only [quarryref00_leftOfValue.f] at h
 have hu25:=Tryz.underlying25;have HR0_4:=Aside0.mk hr0_4;have HC0_4:=Aside0.mk hc0_4;clear hr0_4 hc0_4;have HR0_5:=Aside0.mk hr0_5;have HC0_5:=Aside0.mk hc0_5;clear hr0_5 hc0_5;have HB:=Aside0.mk (Below.refl w.heap.size w);have H : (if a1 > 65536 then (some (-1)) else ((quarryref00_told.f (wrap64 ((a0_2.size : Int) + (a0_3.size : Int))) a1 a2).bind fun t158=>(quarryref00_leftOfValue.l0 k a1 a2 (wrap64 (a3 - t158)) 0 a0_0 a0_1 a0_2 a0_3 l0_4 l0_5))) = some r:=h;clear h
 by_cases c5 : a1 > 65536
 ·rw [if_pos c5] at H
  have c5b0 : decide (65536 < a1) = true:=decide_eq_true c5;clear c5;obtain rfl:=Option.some.inj H;go_enter Tryz.func15,Tryz.ntmps15
  go_wp2_with (first|((with_reducible refine gate_dst (N:=4) rfl ?_);refine box_event ?hg (N:=4) ?hd (cs:=#[.int .i64 a0_0,.bool a0_1,.string a0_2,.string a0_3,.slice A0_4 l0_4.length c0_4,.slice A0_5 l0_5.length c0_5]) (t:=25) ?hr ?_;(case hd=>rfl);(case hg=>rfl);(case hr=>first|(go_simp;done)|(go_simp;rfl));intro gb157 hg w6 hbox hb;have n_:=J_ (below_step (hb_ HB) hb) (J_ (hbox) (J_ (bs_ hg HB) (Aside0.mk (bs_ hg HB))));clear HB;obtain ⟨HB,BK157,GW157,GE157⟩:=n_;clear hb hbox hg))
  go_ret;exact ⟨er_,(hb_ HB)⟩
 rw [if_neg c5] at H
 have c5b0 : decide (65536 < a1) = false:=decide_eq_false c5;clear c5;replace H:=Option.bind_eq_some_iff.mp H;obtain ⟨t158,A70,H⟩:=H;replace H : (quarryref00_leftOfValue.l0 k a1 a2 (wrap64 (a3 - t158)) 0 a0_0 a0_1 a0_2 a0_3 l0_4 l0_5) = some r:=H;have A7:=Aside0.mk A70;clear A70;have HC8:=Aside0.mk H;clear H;go_enter Tryz.func15,Tryz.ntmps15
 go_upto_block 0 with (first|((with_reducible refine gate_dst (N:=4) rfl ?_);refine box_event ?hg (N:=4) ?hd (cs:=#[.int .i64 a0_0,.bool a0_1,.string a0_2,.string a0_3,.slice A0_4 l0_4.length c0_4,.slice A0_5 l0_5.length c0_5]) (t:=25) ?hr ?_;(case hd=>rfl);(case hg=>rfl);(case hr=>first|(go_simp;done)|(go_simp;rfl));intro gb157 hg w9 hbox hb;have n_:=J_ (below_step (hb_ HB) hb) (J_ (hbox) (J_ (bs_ hg HB) (Aside0.mk (bs_ hg HB))));clear HB;obtain ⟨HB,BK157,GW157,GE157⟩:=n_;clear hb hbox hg;obtain ⟨hcz10_0,hcz10_1,hcz10_2,hcz10_3,hcz10_4,hcz10_5,hfz10_0,hfz10_1,hfz10_2,hfz10_3,hfz10_4,hfz10_5⟩:=cf6_ BK157)|((with_reducible refine gate_callee (f:=25) rfl ?_);refine goesL_ (some 24) rfl rfl Tryz.func25 (by kernel_rfl) rfl #[.int .i64 (wrap64 ((a0_2.size : Int) + (a0_3.size : Int))),.int .i64 a1,.int .i64 a2] rfl am_ ?_;(with_reducible refine (quarryref00_told.calls (wrap64 ((a0_2.size : Int) + (a0_3.size : Int))) a1 a2 t158 _ A7.out).mono ?_);rintro e w' ⟨rfl,⟨nd,rfl⟩⟩;refine ⟨_,rfl,?_⟩))
 (try simp only [Act.put,List.setIfInBounds_toArray,List.set_cons_zero,List.set_cons_succ])
 go_cut [3] (fun v3 wc=>∃ (kq : Nat) (x3_7 : Int),v3 = .int .i64 x3_7 ∧ Aside0 (quarryref00_leftOfValue.j1 kq a1 a2 x3_7 a0_0 a0_1 a0_2 a0_3 l0_4 l0_5 = some r) ∧ Aside0 (kq ≤ k) ∧ Aside0 (wc.heap[gb157]? = some (.cells #[.int .i64 a0_0,.bool a0_1,.string a0_2,.string a0_3,(.slice A0_4 l0_4.length c0_4),(.slice A0_5 l0_5.length c0_5)] 25 (0,0))) ∧ Aside0 (Below w.heap.size w wc))
 case first =>
  have H:=HC8.out;clear HC8;have H':=Aside0.mk H;clear H;go_wp2
  go_loopg [3,9] k (fun kq v3 v9 w'=>∃ (x3_1 : Int) (x9_1 : Int),v3 = .int .i64 x3_1 ∧ v9 = .int .i64 x9_1 ∧ Aside0 (quarryref00_leftOfValue.l0 kq a1 a2 x3_1 x9_1 a0_0 a0_1 a0_2 a0_3 l0_4 l0_5 = some r) ∧ Aside0 (kq ≤ k) ∧ Aside0 (w'.heap[gb157]? = some (.cells #[.int .i64 a0_0,.bool a0_1,.string a0_2,.string a0_3,(.slice A0_4 l0_4.length c0_4),(.slice A0_5 l0_5.length c0_5)] 25 (0,0))) ∧ Aside0 (Below w.heap.size w w'))
  case atStart=>exact ⟨(wrap64 (a3 - t158)),(0),rr_,rr_,H',⟨Nat.le_refl _⟩,⟨(bk_ BK157)⟩,⟨(hb_ HB)⟩⟩
  case round =>
   clear H'
   try clear BK157
   try clear HB
   obtain ⟨x3_1,x9_1,rfl,rfl,HA,HK1,BK157,HB⟩:=hrel
   cases gk with
   | zero=>exact absurd HA.out (by simp [quarryref00_leftOfValue.l0])
   | succ k1 =>
    have H:=HA.out;clear HA
    simp only [quarryref00_leftOfValue.l0] at H
    by_cases c11 : x9_1 < (l0_4.length : Int)
    ·rw [if_pos c11] at H
     have c11b0 : decide (x9_1 < (l0_4.length : Int)) = true:=decide_eq_true c11;clear c11
     (first|rw [c11b0]|(simp only [i64_w,i32_w];rw [c11b0])|skip)
     by_cases c12 : x3_1 ≥ 0
     ·rw [if_pos c12] at H
      have c12b0 : decide (0 ≤ x3_1) = true:=decide_eq_true c12;clear c12
      by_cases c13 : 0 ≤ x9_1
      ·rw [if_pos c13] at H
       have c13b0 : decide (0 ≤ x9_1) = true:=decide_eq_true c13;clear c13;replace H:=Option.bind_eq_some_iff.mp H;obtain ⟨t160,A140,H⟩:=H;replace H : (quarryref00_leftOfValue.l0 k1 a1 a2 (wrap64 (x3_1 - t160)) (wrap64 (x9_1 + 1)) a0_0 a0_1 a0_2 a0_3 l0_4 l0_5) = some r:=H;have A14:=Aside0.mk A140;clear A140;have H':=Aside0.mk H;clear H;obtain ⟨hcz15_0,hcz15_1,hcz15_2,hcz15_3,hcz15_4,hcz15_5,hfz15_0,hfz15_1,hfz15_2,hfz15_3,hfz15_4,hfz15_5⟩:=cf6_ BK157;have p159 : 0 ≤ (x9_1 : Int):=of_decide_eq_true aa_;have q159 : x9_1 < (l0_4.length : Int):=of_decide_eq_true aa_;obtain ⟨ad159,e159,hx159_0⟩:=Kd.at_string HR0_4.out x9_1 p159 q159;cases e159;replace hx159_0:=(HB.out.cell (World.block_lt_of_cell? w _ hx159_0)).trans hx159_0;replace p159:=eq_true p159;replace q159:=eq_true q159
       go_wp2_with (first|((with_reducible refine gate_callee (f:=25) rfl ?_);refine goesL_ (some 45) rfl rfl Tryz.func25 (by kernel_rfl) rfl #[.int .i64 ((rdOf ByteArray.empty l0_4 x9_1).size : Int),.int .i64 a1,.int .i64 0] rfl am_ ?_;(with_reducible refine (quarryref00_told.calls ((rdOf ByteArray.empty l0_4 x9_1).size : Int) a1 0 t160 _ A14.out).mono ?_);rintro e w' ⟨rfl,⟨nd,rfl⟩⟩;refine ⟨_,rfl,?_⟩))
       go_roundg k1
       case measure=>have:=HK1.out;omega
       case rel=>exact ⟨(wrap64 (x3_1 - t160)),(wrap64 (x9_1 + 1)),rr_,rr_,(by first|exact H'|(subst_vars;exact H')),⟨by have:=HK1.out;omega⟩,⟨(bk_ BK157)⟩,⟨(hb_ HB)⟩⟩
      rw [if_neg c13] at H
      exact absurd H (by simp)
     rw [if_neg c12] at H
     have c12b0 : decide (0 ≤ x3_1) = false:=decide_eq_false c12;clear c12;have H':=Aside0.mk H;clear H;obtain ⟨hcz16_0,hcz16_1,hcz16_2,hcz16_3,hcz16_4,hcz16_5,hfz16_0,hfz16_1,hfz16_2,hfz16_3,hfz16_4,hfz16_5⟩:=cf6_ BK157;go_wp2
     go_meet
     case rel=>exact ⟨_,(x3_1),rr_,(by first|exact H'|(subst_vars;exact H')),⟨by have:=HK1.out;first|omega|exact Nat.le_refl _⟩,⟨(bk_ BK157)⟩,⟨(hb_ HB)⟩⟩
    rw [if_neg c11] at H
    have c11b0 : decide (x9_1 < (l0_4.length : Int)) = false:=decide_eq_false c11;clear c11
    (first|rw [c11b0]|(simp only [i64_w,i32_w];rw [c11b0])|skip)
    have H':=Aside0.mk H;clear H;obtain ⟨hcz17_0,hcz17_1,hcz17_2,hcz17_3,hcz17_4,hcz17_5,hfz17_0,hfz17_1,hfz17_2,hfz17_3,hfz17_4,hfz17_5⟩:=cf6_ BK157;go_wp2
    go_meet
    case rel=>exact ⟨_,(x3_1),rr_,(by first|exact H'|(subst_vars;exact H')),⟨by have:=HK1.out;first|omega|exact Nat.le_refl _⟩,⟨(bk_ BK157)⟩,⟨(hb_ HB)⟩⟩
 case rest =>
  clear HC8;obtain ⟨kq,x3_7,rfl,HA,HJ7,BK157,HB⟩:=hcut
  cases kq with
  | zero=>exact absurd HA.out (by simp [quarryref00_leftOfValue.j1])
  | succ kj7 =>
   have H:=HA.out;clear HA
   simp only [quarryref00_leftOfValue.j1] at H
   have H':=Aside0.mk H;clear H;go_wp2
   go_loopg [3,10] kj7 (fun kq v3 v10 w'=>∃ (x3_2 : Int) (x10_2 : Int),v3 = .int .i64 x3_2 ∧ v10 = .int .i64 x10_2 ∧ Aside0 (quarryref00_leftOfValue.l1 kq a1 a2 x3_2 x10_2 a0_0 a0_1 a0_2 a0_3 l0_4 l0_5 = some r) ∧ Aside0 (kq ≤ kj7) ∧ Aside0 (w'.heap[gb157]? = some (.cells #[.int .i64 a0_0,.bool a0_1,.string a0_2,.string a0_3,(.slice A0_4 l0_4.length c0_4),(.slice A0_5 l0_5.length c0_5)] 25 (0,0))) ∧ Aside0 (Below w.heap.size w w'))
   case atStart=>exact ⟨(x3_7),(0),rr_,rr_,H',⟨Nat.le_refl _⟩,⟨(bk_ BK157)⟩,⟨(hb_ HB)⟩⟩
   case round =>
    clear H'
    try clear BK157
    try clear HB
    obtain ⟨x3_2,x10_2,rfl,rfl,HA,HK2,BK157,HB⟩:=hrel
    cases gk with
    | zero=>exact absurd HA.out (by simp [quarryref00_leftOfValue.l1])
    | succ k2 =>
     have H:=HA.out;clear HA
     simp only [quarryref00_leftOfValue.l1] at H
     have HC18:=Aside0.mk H;clear H
     go_upto_region 9 with (fail)
     go_cut [55] (fun v55 wc=>∃ (kq : Nat) (x55_17 : Bool),v55 = .bool x55_17 ∧ Aside0 (quarryref00_leftOfValue.j3 kq a1 a2 x3_2 x10_2 x55_17 a0_0 a0_1 a0_2 a0_3 l0_4 l0_5 = some r) ∧ Aside0 (kq ≤ k2) ∧ Aside0 (wc.heap[gb157]? = some (.cells #[.int .i64 a0_0,.bool a0_1,.string a0_2,.string a0_3,(.slice A0_4 l0_4.length c0_4),(.slice A0_5 l0_5.length c0_5)] 25 (0,0))) ∧ Aside0 (Below w.heap.size w wc))
     case first =>
      have H:=HC18.out;clear HC18
      by_cases c19 : x10_2 < (l0_5.length : Int)
      ·rw [if_pos c19] at H
       have c19b0 : decide (x10_2 < (l0_5.length : Int)) = true:=decide_eq_true c19;clear c19
       (first|rw [c19b0]|(simp only [i64_w,i32_w];rw [c19b0])|skip)
       have H':=Aside0.mk H;clear H;obtain ⟨hcz20_0,hcz20_1,hcz20_2,hcz20_3,hcz20_4,hcz20_5,hfz20_0,hfz20_1,hfz20_2,hfz20_3,hfz20_4,hfz20_5⟩:=cf6_ BK157;go_wp2
       go_meet
       case rel=>exact ⟨_,(decide (x3_2 ≥ 0)),rr_,(by first|exact H'|(subst_vars;exact H')),⟨by have:=HJ7.out;have:=HK2.out;first|omega|exact Nat.le_refl _⟩,⟨(bk_ BK157)⟩,⟨(hb_ HB)⟩⟩
      rw [if_neg c19] at H
      have c19b0 : decide (x10_2 < (l0_5.length : Int)) = false:=decide_eq_false c19;clear c19
      (first|rw [c19b0]|(simp only [i64_w,i32_w];rw [c19b0])|skip)
      have H':=Aside0.mk H;clear H;obtain ⟨hcz21_0,hcz21_1,hcz21_2,hcz21_3,hcz21_4,hcz21_5,hfz21_0,hfz21_1,hfz21_2,hfz21_3,hfz21_4,hfz21_5⟩:=cf6_ BK157;go_wp2
      go_meet
      case rel=>exact ⟨_,(false),rr_,(by first|exact H'|(subst_vars;exact H')),⟨by have:=HJ7.out;have:=HK2.out;first|omega|exact Nat.le_refl _⟩,⟨(bk_ BK157)⟩,⟨(hb_ HB)⟩⟩
     case rest =>
      clear HC18;obtain ⟨kq,x55_17,rfl,HA,HJ17,BK157,HB⟩:=hcut
      cases kq with
      | zero=>exact absurd HA.out (by simp [quarryref00_leftOfValue.j3])
      | succ kj17 =>
       have H:=HA.out;clear HA
       simp only [quarryref00_leftOfValue.j3] at H
       by_cases c22 : x55_17 = true
       ·subst c22
        have H1 : (if x10_2 < (l0_4.length : Int) then (if 0 ≤ x10_2 then (if x10_2 < (l0_5.length : Int) then ((quarryref00_leftOfValue.f kj17 ((rd_T25 l0_5 x10_2).f0) ((rd_T25 l0_5 x10_2).f1) ((rd_T25 l0_5 x10_2).f2) ((rd_T25 l0_5 x10_2).f3) ((rd_T25 l0_5 x10_2).f4) ((rd_T25 l0_5 x10_2).f5) (wrap64 (a1 + 1)) (wrap64 ((wrap64 (a2 + 21)) + (wrap64 (2 * ((rdOf ByteArray.empty l0_4 x10_2).size : Int))))) x3_2).bind fun t163=>(quarryref00_leftOfValue.l1 kj17 a1 a2 t163 (wrap64 (x10_2 + 1)) a0_0 a0_1 a0_2 a0_3 l0_4 l0_5)) else (none)) else (none)) else (if 0 ≤ x10_2 then (if x10_2 < (l0_5.length : Int) then ((quarryref00_leftOfValue.f kj17 ((rd_T25 l0_5 x10_2).f0) ((rd_T25 l0_5 x10_2).f1) ((rd_T25 l0_5 x10_2).f2) ((rd_T25 l0_5 x10_2).f3) ((rd_T25 l0_5 x10_2).f4) ((rd_T25 l0_5 x10_2).f5) (wrap64 (a1 + 1)) (wrap64 (a2 + 21)) x3_2).bind fun t165=>(quarryref00_leftOfValue.l1 kj17 a1 a2 t165 (wrap64 (x10_2 + 1)) a0_0 a0_1 a0_2 a0_3 l0_4 l0_5)) else (none)) else (none))) = some r:=by rw [if_pos rfl] at H;exact H
        clear H;have H:=H1;clear H1
        by_cases c23 : x10_2 < (l0_4.length : Int)
        ·rw [if_pos c23] at H
         have c23b0 : decide (x10_2 < (l0_4.length : Int)) = true:=decide_eq_true c23;clear c23
         by_cases c24 : 0 ≤ x10_2
         ·rw [if_pos c24] at H
          have c24b0 : decide (0 ≤ x10_2) = true:=decide_eq_true c24;clear c24
          by_cases c25 : x10_2 < (l0_5.length : Int)
          ·rw [if_pos c25] at H
           have c25b0 : decide (x10_2 < (l0_5.length : Int)) = true:=decide_eq_true c25;clear c25;replace H:=Option.bind_eq_some_iff.mp H;obtain ⟨t163,A260,H⟩:=H;replace H : (quarryref00_leftOfValue.l1 kj17 a1 a2 t163 (wrap64 (x10_2 + 1)) a0_0 a0_1 a0_2 a0_3 l0_4 l0_5) = some r:=H;have A26:=Aside0.mk A260;clear A260;have H':=Aside0.mk H;clear H;obtain ⟨hcz27_0,hcz27_1,hcz27_2,hcz27_3,hcz27_4,hcz27_5,hfz27_0,hfz27_1,hfz27_2,hfz27_3,hfz27_4,hfz27_5⟩:=cf6_ BK157;have p161 : 0 ≤ (x10_2 : Int):=of_decide_eq_true aa_;have q161 : x10_2 < (l0_4.length : Int):=of_decide_eq_true aa_;obtain ⟨ad161,e161,hx161_0⟩:=Kd.at_string HR0_4.out x10_2 p161 q161;cases e161;replace hx161_0:=(HB.out.cell (World.block_lt_of_cell? w _ hx161_0)).trans hx161_0;replace p161:=eq_true p161;replace q161:=eq_true q161;have p162 : 0 ≤ (x10_2 : Int):=of_decide_eq_true aa_;have q162 : x10_2 < (l0_5.length : Int):=of_decide_eq_true aa_;obtain ⟨ad162,A162_4,c162_4,A162_5,c162_5,e162,hx162_0,hx162_1,hx162_2,hx162_3,hx162_4,hx162_5,hl162_4,hi162_4,hl162_5,hi162_5⟩:=at_T25 HR0_5.out x10_2 p162 q162;cases e162;replace hx162_0:=(HB.out.cell (World.block_lt_of_cell? w _ hx162_0)).trans hx162_0;replace hx162_1:=(HB.out.cell (World.block_lt_of_cell? w _ hx162_1)).trans hx162_1;replace hx162_2:=(HB.out.cell (World.block_lt_of_cell? w _ hx162_2)).trans hx162_2;replace hx162_3:=(HB.out.cell (World.block_lt_of_cell? w _ hx162_3)).trans hx162_3;replace hx162_4:=(HB.out.cell (World.block_lt_of_cell? w _ hx162_4)).trans hx162_4;replace hx162_5:=(HB.out.cell (World.block_lt_of_cell? w _ hx162_5)).trans hx162_5
           have HR162_4:=Aside0.mk hi162_4;have HC162_4:=Aside0.mk hl162_4;clear hi162_4 hl162_4;have HR162_5:=Aside0.mk hi162_5;have HC162_5:=Aside0.mk hl162_5;clear hi162_5 hl162_5;replace p162:=eq_true p162;replace q162:=eq_true q162
           go_wp2_with (first|((with_reducible refine gate_callee (f:=15) rfl ?_);refine goesL_ (some 83) rfl rfl Tryz.func15 (by kernel_rfl) rfl #[.agg #[.int .i64 ((rd_T25 l0_5 x10_2).f0),.bool ((rd_T25 l0_5 x10_2).f1),.string ((rd_T25 l0_5 x10_2).f2),.string ((rd_T25 l0_5 x10_2).f3),.slice A162_4 ((rd_T25 l0_5 x10_2).f4).length c162_4,.slice A162_5 ((rd_T25 l0_5 x10_2).f5).length c162_5],.int .i64 (wrap64 (a1 + 1)),.int .i64 (wrap64 ((wrap64 (a2 + 21)) + (wrap64 (2 * ((rdOf ByteArray.empty l0_4 x10_2).size : Int))))),.int .i64 x3_2] rfl am_ ?_;(with_reducible refine (ih kj17 (by have:=HJ7.out;have:=HK2.out;have:=HJ17.out;omega) ((rd_T25 l0_5 x10_2).f0) ((rd_T25 l0_5 x10_2).f1) ((rd_T25 l0_5 x10_2).f2) ((rd_T25 l0_5 x10_2).f3) _ _ ((rd_T25 l0_5 x10_2).f4) _ _ ((rd_T25 l0_5 x10_2).f5) (wrap64 (a1 + 1)) (wrap64 ((wrap64 (a2 + 21)) + (wrap64 (2 * ((rdOf ByteArray.empty l0_4 x10_2).size : Int))))) x3_2 t163 _ ?side1 ?side2 ?side3 ?side4 A26.out).mono ?_);(case side1=>repeat (first|exact (Kd.C_below HR162_4.out HB.out)|(with_reducible refine Kd.C_alloc ?_ _)|(with_reducible refine Kd.C_drewN ?_ _)|(with_reducible refine Kd.C_drew ?_)));(case side2=>exact HC162_4.out);(case side3=>repeat (first|exact (Kd.C_below HR162_5.out HB.out)|(with_reducible refine Kd.C_alloc ?_ _)|(with_reducible refine Kd.C_drewN ?_ _)|(with_reducible refine Kd.C_drew ?_)));(case side4=>exact HC162_5.out);rintro e w28 ⟨rfl,hb⟩;refine ⟨_,rfl,?_⟩;have n_:=J_ (bkb_ BK157 hb) (Aside0.mk (below_step (hb_ HB) hb));clear BK157 HB;obtain ⟨BK157,HB⟩:=n_;(try clear hb);(try clear hb2);(try clear hk);(try clear hi)))
           go_roundg kj17
           case measure=>have:=HJ7.out;have:=HK2.out;have:=HJ17.out;omega
           case rel=>exact ⟨(t163),(wrap64 (x10_2 + 1)),rr_,rr_,(by first|exact H'|(subst_vars;exact H')),⟨by have:=HJ7.out;have:=HK2.out;have:=HJ17.out;omega⟩,⟨(bk_ BK157)⟩,⟨(hb_ HB)⟩⟩
          rw [if_neg c25] at H
          exact absurd H (by simp)
         rw [if_neg c24] at H
         exact absurd H (by simp)
        rw [if_neg c23] at H
        have c23b0 : decide (x10_2 < (l0_4.length : Int)) = false:=decide_eq_false c23;clear c23
        by_cases c29 : 0 ≤ x10_2
        ·rw [if_pos c29] at H
         have c29b0 : decide (0 ≤ x10_2) = true:=decide_eq_true c29;clear c29
         by_cases c30 : x10_2 < (l0_5.length : Int)
         ·rw [if_pos c30] at H
          have c30b0 : decide (x10_2 < (l0_5.length : Int)) = true:=decide_eq_true c30;clear c30;replace H:=Option.bind_eq_some_iff.mp H;obtain ⟨t165,A310,H⟩:=H;replace H : (quarryref00_leftOfValue.l1 kj17 a1 a2 t165 (wrap64 (x10_2 + 1)) a0_0 a0_1 a0_2 a0_3 l0_4 l0_5) = some r:=H;have A31:=Aside0.mk A310;clear A310;have H':=Aside0.mk H;clear H;obtain ⟨hcz32_0,hcz32_1,hcz32_2,hcz32_3,hcz32_4,hcz32_5,hfz32_0,hfz32_1,hfz32_2,hfz32_3,hfz32_4,hfz32_5⟩:=cf6_ BK157;have p164 : 0 ≤ (x10_2 : Int):=of_decide_eq_true aa_;have q164 : x10_2 < (l0_5.length : Int):=of_decide_eq_true aa_;obtain ⟨ad164,A164_4,c164_4,A164_5,c164_5,e164,hx164_0,hx164_1,hx164_2,hx164_3,hx164_4,hx164_5,hl164_4,hi164_4,hl164_5,hi164_5⟩:=at_T25 HR0_5.out x10_2 p164 q164;cases e164;replace hx164_0:=(HB.out.cell (World.block_lt_of_cell? w _ hx164_0)).trans hx164_0;replace hx164_1:=(HB.out.cell (World.block_lt_of_cell? w _ hx164_1)).trans hx164_1;replace hx164_2:=(HB.out.cell (World.block_lt_of_cell? w _ hx164_2)).trans hx164_2;replace hx164_3:=(HB.out.cell (World.block_lt_of_cell? w _ hx164_3)).trans hx164_3;replace hx164_4:=(HB.out.cell (World.block_lt_of_cell? w _ hx164_4)).trans hx164_4;replace hx164_5:=(HB.out.cell (World.block_lt_of_cell? w _ hx164_5)).trans hx164_5;have HR164_4:=Aside0.mk hi164_4;have HC164_4:=Aside0.mk hl164_4;clear hi164_4 hl164_4;have HR164_5:=Aside0.mk hi164_5;have HC164_5:=Aside0.mk hl164_5;clear hi164_5 hl164_5;replace p164:=eq_true p164;replace q164:=eq_true q164
          go_wp2_with (first|((with_reducible refine gate_callee (f:=15) rfl ?_);refine goesL_ (some 83) rfl rfl Tryz.func15 (by kernel_rfl) rfl #[.agg #[.int .i64 ((rd_T25 l0_5 x10_2).f0),.bool ((rd_T25 l0_5 x10_2).f1),.string ((rd_T25 l0_5 x10_2).f2),.string ((rd_T25 l0_5 x10_2).f3),.slice A164_4 ((rd_T25 l0_5 x10_2).f4).length c164_4,.slice A164_5 ((rd_T25 l0_5 x10_2).f5).length c164_5],.int .i64 (wrap64 (a1 + 1)),.int .i64 (wrap64 (a2 + 21)),.int .i64 x3_2] rfl am_ ?_;(with_reducible refine (ih kj17 (by have:=HJ7.out;have:=HK2.out;have:=HJ17.out;omega) ((rd_T25 l0_5 x10_2).f0) ((rd_T25 l0_5 x10_2).f1) ((rd_T25 l0_5 x10_2).f2) ((rd_T25 l0_5 x10_2).f3) _ _ ((rd_T25 l0_5 x10_2).f4) _ _ ((rd_T25 l0_5 x10_2).f5) (wrap64 (a1 + 1)) (wrap64 (a2 + 21)) x3_2 t165 _ ?side1 ?side2 ?side3 ?side4 A31.out).mono ?_);(case side1=>repeat (first|exact (Kd.C_below HR164_4.out HB.out)|(with_reducible refine Kd.C_alloc ?_ _)|(with_reducible refine Kd.C_drewN ?_ _)|(with_reducible refine Kd.C_drew ?_)));(case side2=>exact HC164_4.out);(case side3=>repeat (first|exact (Kd.C_below HR164_5.out HB.out)|(with_reducible refine Kd.C_alloc ?_ _)|(with_reducible refine Kd.C_drewN ?_ _)|(with_reducible refine Kd.C_drew ?_)));(case side4=>exact HC164_5.out);rintro e w33 ⟨rfl,hb⟩;refine ⟨_,rfl,?_⟩;have n_:=J_ (bkb_ BK157 hb) (Aside0.mk (below_step (hb_ HB) hb));clear BK157 HB;obtain ⟨BK157,HB⟩:=n_;(try clear hb);(try clear hb2);(try clear hk);(try clear hi)))
          go_roundg kj17
          case measure=>have:=HJ7.out;have:=HK2.out;have:=HJ17.out;omega
          case rel=>exact ⟨(t165),(wrap64 (x10_2 + 1)),rr_,rr_,(by first|exact H'|(subst_vars;exact H')),⟨by have:=HJ7.out;have:=HK2.out;have:=HJ17.out;omega⟩,⟨(bk_ BK157)⟩,⟨(hb_ HB)⟩⟩
         rw [if_neg c30] at H
         exact absurd H (by simp)
        rw [if_neg c29] at H
        exact absurd H (by simp)
       replace c22:=Bool.eq_false_iff.mpr c22;subst c22
       have H1 : (some x3_2) = some r:=by rw [if_neg (show ¬ (false = true) by decide)] at H;exact H
       clear H;have H:=H1;clear H1;obtain rfl:=Option.some.inj H;go_wp2
       go_ret;exact ⟨er_,(hb_ HB)⟩
def quarryref00_BeyondValue.f (k : Nat) (a0_0 : Int) (a0_1 : Bool) (a0_2 : ByteArray) (a0_3 : ByteArray) (l0_4 : List ByteArray) (l0_5 : List (S25)) : Option (Bool):=(quarryref00_leftOfValue.f k a0_0 a0_1 a0_2 a0_3 l0_4 l0_5 1 0 2147483647).bind fun t167=>(some (decide (t167 < 0)))
set_option maxHeartbeats 8000000 in
set_option maxRecDepth 100000 in
theorem quarryref00_BeyondValue.calls (k : Nat) (a0_0 : Int) (a0_1 : Bool) (a0_2 : ByteArray) (a0_3 : ByteArray) (A0_4 : Option Addr) (c0_4 : Nat) (l0_4 : List ByteArray) (A0_5 : Option Addr) (c0_5 : Nat) (l0_5 : List (S25)) (r : Bool) (w : World) (hr0_4 : Kd.C Kd.string w A0_4 l0_4.length l0_4) (hc0_4 : l0_4.length ≤ c0_4) (hr0_5 : Kd.C k25 w A0_5 l0_5.length l0_5) (hc0_5 : l0_5.length ≤ c0_5) (h : quarryref00_BeyondValue.f k a0_0 a0_1 a0_2 a0_3 l0_4 l0_5 = some r) :
  Calls Tryz.prog 6 #[.agg #[.int .i64 a0_0,.bool a0_1,.string a0_2,.string a0_3,.slice A0_4 l0_4.length c0_4,.slice A0_5 l0_5.length c0_5]] w fun e w'=>e = .returned (.bool r) ∧ Below w.heap.size w w':=by
 have hu25:=Tryz.underlying25;have HR0_4:=Aside0.mk hr0_4;have HC0_4:=Aside0.mk hc0_4;clear hr0_4 hc0_4;have HR0_5:=Aside0.mk hr0_5;have HC0_5:=Aside0.mk hc0_5;clear hr0_5 hc0_5;have HB:=Aside0.mk (Below.refl w.heap.size w);have H : ((quarryref00_leftOfValue.f k a0_0 a0_1 a0_2 a0_3 l0_4 l0_5 1 0 2147483647).bind fun t167=>(some (decide (t167 < 0)))) = some r:=h;clear h;replace H:=Option.bind_eq_some_iff.mp H;obtain ⟨t167,A20,H⟩:=H;replace H : (some (decide (t167 < 0))) = some r:=H;have A2:=Aside0.mk A20;clear A20;obtain rfl:=Option.some.inj H;go_enter Tryz.func6,Tryz.ntmps6
 go_wp2_with (first|((with_reducible refine gate_dst (N:=1) rfl ?_);refine box_event ?hg (N:=1) ?hd (cs:=#[.int .i64 a0_0,.bool a0_1,.string a0_2,.string a0_3,.slice A0_4 l0_4.length c0_4,.slice A0_5 l0_5.length c0_5]) (t:=25) ?hr ?_;(case hd=>rfl);(case hg=>rfl);(case hr=>first|(go_simp;done)|(go_simp;rfl));intro gb166 hg w3 hbox hb;have n_:=J_ (below_step (hb_ HB) hb) (J_ (hbox) (J_ (bs_ hg HB) (Aside0.mk (bs_ hg HB))));clear HB;obtain ⟨HB,BK166,GW166,GE166⟩:=n_;clear hb hbox hg;obtain ⟨hcz4_0,hcz4_1,hcz4_2,hcz4_3,hcz4_4,hcz4_5,hfz4_0,hfz4_1,hfz4_2,hfz4_3,hfz4_4,hfz4_5⟩:=cf6_ BK166)|((with_reducible refine gate_callee (f:=15) rfl ?_);refine goesL_ (some 4) rfl rfl Tryz.func15 (by kernel_rfl) rfl #[.agg #[.int .i64 a0_0,.bool a0_1,.string a0_2,.string a0_3,.slice A0_4 l0_4.length c0_4,.slice A0_5 l0_5.length c0_5],.int .i64 1,.int .i64 0,.int .i64 2147483647] rfl am_ ?_;(with_reducible refine (quarryref00_leftOfValue.calls k a0_0 a0_1 a0_2 a0_3 _ _ l0_4 _ _ l0_5 1 0 2147483647 t167 _ ?side1 ?side2 ?side3 ?side4 A2.out).mono ?_);(case side1=>repeat (first|exact (Kd.C_below HR0_4.out HB.out)|(with_reducible refine Kd.C_alloc ?_ _)|(with_reducible refine Kd.C_drewN ?_ _)|(with_reducible refine Kd.C_drew ?_)));(case side2=>exact HC0_4.out);(case side3=>repeat (first|exact (Kd.C_below HR0_5.out HB.out)|(with_reducible refine Kd.C_alloc ?_ _)|(with_reducible refine Kd.C_drewN ?_ _)|(with_reducible refine Kd.C_drew ?_)));(case side4=>exact HC0_5.out);rintro e w5 ⟨rfl,hb⟩;refine ⟨_,rfl,?_⟩;have n_:=J_ (bkb_ BK166 hb) (Aside0.mk (below_step (hb_ HB) hb));clear BK166 HB;obtain ⟨BK166,HB⟩:=n_;(try clear hb);(try clear hb2);(try clear hk);(try clear hi)))
 go_ret;exact ⟨er_,(hb_ HB)⟩
def quarryref00_CopyTexts.l0 : Nat → List ByteArray → List ByteArray → Int → Option (List ByteArray)
 | 0,_,_,_=>none
 | k + 1,x0,x3,x4=>if x4 < (x0.length : Int) then (if 0 ≤ x4 then (if x3.length < 8796093022208 then (quarryref00_CopyTexts.l0 k x0 (x3 ++ [rdOf ByteArray.empty x0 x4]) (wrap64 (x4 + 1))) else (none)) else (none)) else (some x3)
def quarryref00_CopyTexts.f (k : Nat) (l0 : List ByteArray) : Option (List ByteArray):=quarryref00_CopyTexts.l0 k l0 ([] : List ByteArray) 0
set_option maxHeartbeats 8000000 in
set_option maxRecDepth 100000 in
theorem quarryref00_CopyTexts.calls (k : Nat) (A0 : Option Addr) (c0 : Nat) (l0 : List ByteArray) (r : List ByteArray) (w : World) (hr0 : Kd.C Kd.string w A0 l0.length l0) (hc0 : l0.length ≤ c0) (h : quarryref00_CopyTexts.f k l0 = some r) :
  Calls Tryz.prog 18 #[.slice A0 l0.length c0] w fun e w'=>∃ v0_ : Value,e = .returned (v0_) ∧ Kd.R Kd.string 9 w' w.heap.size (fun _=>True) v0_ r ∧ Below w.heap.size w w':=by
 have HR0:=Aside0.mk hr0;have HC0:=Aside0.mk hc0;clear hr0 hc0;have HB:=Aside0.mk (Below.refl w.heap.size w);have H : (quarryref00_CopyTexts.l0 k l0 ([] : List ByteArray) 0) = some r:=h;clear h;have H':=Aside0.mk H;clear H;go_enter Tryz.func18,Tryz.ntmps18;go_wp2
 go_loopg [3,4] k (fun kq v3 v4 w'=>∃ (x3_1 : List ByteArray) (x4_1 : Int),v4 = .int .i64 x4_1 ∧ Aside0 (quarryref00_CopyTexts.l0 kq l0 x3_1 x4_1 = some r) ∧ Aside0 (kq ≤ k) ∧ Aside0 (Kd.R Kd.string 9 w' w.heap.size (fun _=>True) v3 x3_1) ∧ Aside0 (Below w.heap.size w w'))
 case atStart=>exact ⟨(([] : List ByteArray)),(0),rr_,H',⟨Nat.le_refl _⟩,⟨by first|exact Kd.R_nil _ _ _ _ _|exact Kd.N_nil _ _ _ _ _|exact Kd.V_nil _ _ _ _ _|exact Kd.Q_nil _ _ _ _ _|exact Kd.S_nil _ _ _ _ _⟩,⟨(hb_ HB)⟩⟩
 case round =>
  clear H'
  try clear HB
  obtain ⟨x3_1,x4_1,rfl,HA,HK1,HO_3,HB⟩:=hrel
  cases gk with
  | zero=>exact absurd HA.out (by simp [quarryref00_CopyTexts.l0])
  | succ k1 =>
   have H:=HA.out;clear HA
   simp only [quarryref00_CopyTexts.l0] at H
   by_cases c2 : x4_1 < (l0.length : Int)
   ·rw [if_pos c2] at H
    have c2b0 : decide (x4_1 < (l0.length : Int)) = true:=decide_eq_true c2;clear c2
    by_cases c3 : 0 ≤ x4_1
    ·rw [if_pos c3] at H
     have c3b0 : decide (0 ≤ x4_1) = true:=decide_eq_true c3;clear c3
     by_cases c4 : x3_1.length < 8796093022208
     ·rw [if_pos c4] at H
      have LMc4:=Aside0.mk c4;clear c4
      obtain ⟨y169,hy169⟩ : ∃ y_ : List ByteArray,y_ = (x3_1 ++ [rdOf ByteArray.empty l0 x4_1]):=⟨_,rfl⟩
      replace H : (quarryref00_CopyTexts.l0 k1 l0 y169 (wrap64 (x4_1 + 1))) = some r:=by first|(rw [hy169];with_reducible exact H)|(have H2_:=(Option.bind_some _ _).symm.trans H;rw [hy169];with_reducible exact H2_)|(have H2_:=(Option.bind_some _ _).symm.trans H;with_reducible exact H2_)|with_reducible exact H|(rw [hy169];exact H)|exact H
      have Ny169:=Aside0.mk hy169;clear hy169;have H':=Aside0.mk H;clear H;have p168 : 0 ≤ (x4_1 : Int):=of_decide_eq_true aa_;have q168 : x4_1 < (l0.length : Int):=of_decide_eq_true aa_;obtain ⟨ad168,e168,hx168_0⟩:=Kd.at_string HR0.out x4_1 p168 q168;cases e168;replace hx168_0:=(HB.out.cell (World.block_lt_of_cell? w _ hx168_0)).trans hx168_0;replace p168:=eq_true p168;replace q168:=eq_true q168
      go_wp2_with (first|((with_reducible refine gate_builtin (b:=.append) (xs:=#[.tmp 11,.tmp 16]) rfl ?_);at_builtin;refine Kd.R_append Kd.string (w0:=w) w.heap.size rfl (.tmp 11) (.tmp 16) 22 9 (.string ⟨#[]⟩) 16 rfl Tryz.underlying22 info9 rfl (by decide) (by omega) u3 x3_1 (rdOf ByteArray.empty l0 x4_1) [.string (rdOf ByteArray.empty l0 x4_1)] (fun _=>True) (fun _=>False) rfl rfl ?aP (fun _ hk=>hk.elim) ?aF ?aO ?aB ?aS ?aL ?_;(case aP=>exact rfl);(case aB=>exact (hb_ HB));(case aF=>exact (fun _ _=>trivial));(case aO=>exact (rk_ HO_3));(case aS=>exact (below_size (hb_ HB)));(case aL=>have:=LMc4.out;first|omega|exact Nat.le_of_lt this);intro v170 w5 ho hb hg hat;rw [← Ny169.out] at ho;have n_:=J_ (hb) (Aside0.mk (ho));clear HB HO_3;obtain ⟨HB,HO171⟩:=n_;clear ho hb hg hat))
      go_roundg k1
      case measure=>have:=HK1.out;omega
      case rel=>exact ⟨(y169),(wrap64 (x4_1 + 1)),rr_,(by first|exact H'|(subst_vars;exact H')),⟨by have:=HK1.out;omega⟩,⟨(rk_ HO171)⟩,⟨(hb_ HB)⟩⟩
     rw [if_neg c4] at H
     exact absurd H (by simp)
    rw [if_neg c3] at H
    exact absurd H (by simp)
   rw [if_neg c2] at H
   have c2b0 : decide (x4_1 < (l0.length : Int)) = false:=decide_eq_false c2;clear c2;obtain rfl:=Option.some.inj H;go_wp2
   go_ret;exact ⟨_,er_,(rk_ HO_3),(hb_ HB)⟩
end Go.Proofs.YtlgamjgdkljfiacGreatDoor.PWritePretties
