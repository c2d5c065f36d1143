-- Written by shrink.py, a program of this session: what the law needs of the print and its words. Lean checks it.
import Derived.Test.YtppenppagkfigaaDoorZPPointerFindsx0
namespace Go.Proofs.YtppenppagkfigaaDoor.PPointerFinds
open Go.RowKit Go.Proofs.YtppenppagkfigaaDoorW.PrintWords Go.Proofs.YtppenppagkfigaaDoorW.PrintLast Go.Proofs.YtppenppagkfigaaDoorW.PrintMore
attribute [local go_sem] max2_int min2_int max_two min_two max_three min_three max_four min_four
set_option linter.unusedVariables false
set_option linter.unusedSimpArgs false
def quarryref00_told.f (a0 : Int) (a1 : Int) (a2 : Int) : Option (Int):=if a1 > 1025 then (some (wrap64 (1 + a0))) else (some (wrap64 ((wrap64 ((wrap64 (16 + (wrap64 (6 * a0)))) + (wrap64 (16 * a1)))) + a2)))
set_option maxHeartbeats 8000000 in
set_option maxRecDepth 100000 in
theorem quarryref00_told.calls (a0 : Int) (a1 : Int) (a2 : Int) (r : Int) (w : World) (h : quarryref00_told.f a0 a1 a2 = some r) :
  Calls Tryd.prog 45 #[.int .i64 a0,.int .i64 a1,.int .i64 a2] w fun e w'=>e = .returned (.int .i64 r) ∧ Drawn0 w w':=by
 have H : (if a1 > 1025 then (some (wrap64 (1 + a0))) else (some (wrap64 ((wrap64 ((wrap64 (16 + (wrap64 (6 * a0)))) + (wrap64 (16 * a1)))) + a2)))) = some r:=h
 clear h
 by_cases c4 : a1 > 1025
 ·rw [if_pos c4] at H
  have c4b0 : decide (1025 < a1) = true:=decide_eq_true c4
  clear c4
  obtain rfl:=Option.some.inj H
  go_enter Tryd.func45,Tryd.ntmps45
  go_wp2
  go_ret
  exact ⟨by first|rfl|(simp;done)|(simp [*];done),by repeat (first|exact Drawn0.refl _|apply Drawn0.step)⟩
 ·rw [if_neg c4] at H
  have c4b0 : decide (1025 < a1) = false:=decide_eq_false c4
  clear c4
  obtain rfl:=Option.some.inj H
  go_enter Tryd.func45,Tryd.ntmps45
  go_wp2
  go_ret
  exact ⟨by first|rfl|(simp;done)|(simp [*];done),by repeat (first|exact Drawn0.refl _|apply Drawn0.step)⟩
mutual
def quarryref00_leftOfValue.j1 : Nat → Int → Int → Int → Int → Bool → ByteArray → ByteArray → List ByteArray → List (S25) → Option (Int)
 | 0,_,_,_,_,_,_,_,_,_=>none
 | k + 1,x1,x2,x3,x212000,x212001,x212002,x212003,x212004,x212005=>quarryref00_leftOfValue.l1 k x1 x2 x3 0 x212000 x212001 x212002 x212003 x212004 x212005
def quarryref00_leftOfValue.l1 : Nat → Int → Int → Int → Int → Int → Bool → ByteArray → ByteArray → List ByteArray → List (S25) → Option (Int)
 | 0,_,_,_,_,_,_,_,_,_,_=>none
 | k + 1,x1,x2,x3,x10,x212000,x212001,x212002,x212003,x212004,x212005=>if x10 < (x212005.length : Int) then (quarryref00_leftOfValue.j3 k x1 x2 x3 x10 (decide (x3 ≥ 0)) x212000 x212001 x212002 x212003 x212004 x212005) else (quarryref00_leftOfValue.j3 k x1 x2 x3 x10 false x212000 x212001 x212002 x212003 x212004 x212005)
def quarryref00_leftOfValue.j3 : Nat → Int → Int → Int → Int → Bool → Int → Bool → ByteArray → ByteArray → List ByteArray → List (S25) → Option (Int)
 | 0,_,_,_,_,_,_,_,_,_,_,_=>none
 | k + 1,x1,x2,x3,x10,x55,x212000,x212001,x212002,x212003,x212004,x212005=>if x55 = true then (if x10 < (x212004.length : Int) then (if 0 ≤ x10 then (if x10 < (x212005.length : Int) then ((quarryref00_leftOfValue.f k ((rd_T25 x212005 x10).f0) ((rd_T25 x212005 x10).f1) ((rd_T25 x212005 x10).f2) ((rd_T25 x212005 x10).f3) ((rd_T25 x212005 x10).f4) ((rd_T25 x212005 x10).f5) (wrap64 (x1 + 1)) (wrap64 ((wrap64 (x2 + 21)) + (wrap64 (2 * ((rdOf ByteArray.empty x212004 x10).size : Int))))) x3).bind fun t217=>(quarryref00_leftOfValue.l1 k x1 x2 t217 (wrap64 (x10 + 1)) x212000 x212001 x212002 x212003 x212004 x212005)) else (none)) else (none)) else (if 0 ≤ x10 then (if x10 < (x212005.length : Int) then ((quarryref00_leftOfValue.f k ((rd_T25 x212005 x10).f0) ((rd_T25 x212005 x10).f1) ((rd_T25 x212005 x10).f2) ((rd_T25 x212005 x10).f3) ((rd_T25 x212005 x10).f4) ((rd_T25 x212005 x10).f5) (wrap64 (x1 + 1)) (wrap64 (x2 + 21)) x3).bind fun t219=>(quarryref00_leftOfValue.l1 k x1 x2 t219 (wrap64 (x10 + 1)) x212000 x212001 x212002 x212003 x212004 x212005)) else (none)) else (none))) else (some x3)
def quarryref00_leftOfValue.l0 : Nat → Int → Int → Int → Int → Int → Bool → ByteArray → ByteArray → List ByteArray → List (S25) → Option (Int)
 | 0,_,_,_,_,_,_,_,_,_,_=>none
 | k + 1,x1,x2,x3,x9,x212000,x212001,x212002,x212003,x212004,x212005=>if x9 < (x212004.length : Int) then (if x3 ≥ 0 then (if 0 ≤ x9 then ((quarryref00_told.f ((rdOf ByteArray.empty x212004 x9).size : Int) x1 0).bind fun t214=>(quarryref00_leftOfValue.l0 k x1 x2 (wrap64 (x3 - t214)) (wrap64 (x9 + 1)) x212000 x212001 x212002 x212003 x212004 x212005)) else (none)) else (quarryref00_leftOfValue.j1 k x1 x2 x3 x212000 x212001 x212002 x212003 x212004 x212005)) else (quarryref00_leftOfValue.j1 k x1 x2 x3 x212000 x212001 x212002 x212003 x212004 x212005)
def quarryref00_leftOfValue.f : Nat → Int → Bool → ByteArray → ByteArray → List ByteArray → List (S25) → Int → Int → Int → Option (Int)
 | 0,_,_,_,_,_,_,_,_,_=>none
 | k + 1,a0_0,a0_1,a0_2,a0_3,l0_4,l0_5,a1,a2,a3=>if a1 > 65536 then (some (-1)) else ((quarryref00_told.f (wrap64 ((a0_2.size : Int) + (a0_3.size : Int))) a1 a2).bind fun t212=>(quarryref00_leftOfValue.l0 k a1 a2 (wrap64 (a3 - t212)) 0 a0_0 a0_1 a0_2 a0_3 l0_4 l0_5))
end
set_option maxHeartbeats 8000000 in
set_option maxRecDepth 100000 in
theorem quarryref00_leftOfValue.calls (k : Nat) : ∀ (a0_0 : Int) (a0_1 : Bool) (a0_2 : ByteArray) (a0_3 : ByteArray) (A0_4 : Option Addr) (c0_4 : Nat) (l0_4 : List ByteArray) (A0_5 : Option Addr) (c0_5 : Nat) (l0_5 : List (S25)) (a1 : Int) (a2 : Int) (a3 : Int) (r : Int) (w : World) (hr0_4 : Kd.C Kd.string w A0_4 l0_4.length l0_4) (hc0_4 : l0_4.length ≤ c0_4) (hr0_5 : Kd.C k25 w A0_5 l0_5.length l0_5) (hc0_5 : l0_5.length ≤ c0_5) (h : quarryref00_leftOfValue.f k a0_0 a0_1 a0_2 a0_3 l0_4 l0_5 a1 a2 a3 = some r),
  Calls Tryd.prog 30 #[.agg #[.int .i64 a0_0,.bool a0_1,.string a0_2,.string a0_3,.slice A0_4 l0_4.length c0_4,.slice A0_5 l0_5.length c0_5],.int .i64 a1,.int .i64 a2,.int .i64 a3] w fun e w'=>e = .returned (.int .i64 r) ∧ Below w.heap.size w w':=by
 induction k using Nat.strongRecOn with
 | _ k ih =>
 intro a0_0 a0_1 a0_2 a0_3 A0_4 c0_4 l0_4 A0_5 c0_5 l0_5 a1 a2 a3 r w hr0_4 hc0_4 hr0_5 hc0_5 h
 cases k with
 | zero=>exact absurd h (by simp [quarryref00_leftOfValue.f])
 | succ k =>
 simp only [quarryref00_leftOfValue.f] at h
 have hu25:=Tryd.underlying25
 have HR0_4:=Aside0.mk hr0_4
 have HC0_4:=Aside0.mk hc0_4
 clear hr0_4 hc0_4
 have HR0_5:=Aside0.mk hr0_5
 have HC0_5:=Aside0.mk hc0_5
 clear hr0_5 hc0_5
 have HB:=Aside0.mk (Below.refl w.heap.size w)
 have H : (if a1 > 65536 then (some (-1)) else ((quarryref00_told.f (wrap64 ((a0_2.size : Int) + (a0_3.size : Int))) a1 a2).bind fun t212=>(quarryref00_leftOfValue.l0 k a1 a2 (wrap64 (a3 - t212)) 0 a0_0 a0_1 a0_2 a0_3 l0_4 l0_5))) = some r:=h
 clear h
 by_cases c5 : a1 > 65536
 ·rw [if_pos c5] at H
  have c5b0 : decide (65536 < a1) = true:=decide_eq_true c5
  clear c5
  obtain rfl:=Option.some.inj H
  go_enter Tryd.func30,Tryd.ntmps30
  go_wp2_with (first|((with_reducible refine gate_dst (N:=4) rfl ?_);refine box_event ?hg (N:=4) ?hd (cs:=#[.int .i64 a0_0,.bool a0_1,.string a0_2,.string a0_3,.slice A0_4 l0_4.length c0_4,.slice A0_5 l0_5.length c0_5]) (t:=25) ?hr ?_;(case hd=>rfl);(case hg=>rfl);(case hr=>first|(go_simp;done)|(go_simp;rfl));intro gb211 hg w6 hbox hb;have n_:=J_ (below_step (hb_ HB) hb) (J_ (hbox) (J_ (bs_ hg HB) (Aside0.mk (bs_ hg HB))));clear HB;obtain ⟨HB,BK211,GW211,GE211⟩:=n_;clear hb hbox hg))
  go_ret
  exact ⟨er_,(hb_ HB)⟩
 ·rw [if_neg c5] at H
  have c5b0 : decide (65536 < a1) = false:=decide_eq_false c5
  clear c5
  replace H:=Option.bind_eq_some_iff.mp H
  obtain ⟨t212,A70,H⟩:=H
  replace H : (quarryref00_leftOfValue.l0 k a1 a2 (wrap64 (a3 - t212)) 0 a0_0 a0_1 a0_2 a0_3 l0_4 l0_5) = some r:=H
  have A7:=Aside0.mk A70
  clear A70
  have HC8:=Aside0.mk H
  clear H
  go_enter Tryd.func30,Tryd.ntmps30
  go_upto_block 0 with (first|((with_reducible refine gate_dst (N:=4) rfl ?_);refine box_event ?hg (N:=4) ?hd (cs:=#[.int .i64 a0_0,.bool a0_1,.string a0_2,.string a0_3,.slice A0_4 l0_4.length c0_4,.slice A0_5 l0_5.length c0_5]) (t:=25) ?hr ?_;(case hd=>rfl);(case hg=>rfl);(case hr=>first|(go_simp;done)|(go_simp;rfl));intro gb211 hg w9 hbox hb;have n_:=J_ (below_step (hb_ HB) hb) (J_ (hbox) (J_ (bs_ hg HB) (Aside0.mk (bs_ hg HB))));clear HB;obtain ⟨HB,BK211,GW211,GE211⟩:=n_;clear hb hbox hg;obtain ⟨hcz10_0,hcz10_1,hcz10_2,hcz10_3,hcz10_4,hcz10_5,hfz10_0,hfz10_1,hfz10_2,hfz10_3,hfz10_4,hfz10_5⟩:=cf6_ BK211)|((with_reducible refine gate_callee (f:=45) rfl ?_);refine goesL_ (some 24) rfl rfl Tryd.func45 (by kernel_rfl) rfl #[.int .i64 (wrap64 ((a0_2.size : Int) + (a0_3.size : Int))),.int .i64 a1,.int .i64 a2] rfl am_ ?_;(with_reducible refine (quarryref00_told.calls (wrap64 ((a0_2.size : Int) + (a0_3.size : Int))) a1 a2 t212 _ A7.out).mono ?_);rintro e w' ⟨rfl,⟨nd,rfl⟩⟩;refine ⟨_,rfl,?_⟩))
  (try simp only [Act.put,List.setIfInBounds_toArray,List.set_cons_zero,List.set_cons_succ])
  go_cut [3] (fun v3 wc=>∃ (kq : Nat) (x3_7 : Int),v3 = .int .i64 x3_7 ∧ Aside0 (quarryref00_leftOfValue.j1 kq a1 a2 x3_7 a0_0 a0_1 a0_2 a0_3 l0_4 l0_5 = some r) ∧ Aside0 (kq ≤ k) ∧ Aside0 (wc.heap[gb211]? = some (.cells #[.int .i64 a0_0,.bool a0_1,.string a0_2,.string a0_3,(.slice A0_4 l0_4.length c0_4),(.slice A0_5 l0_5.length c0_5)] 25 (0,0))) ∧ Aside0 (Below w.heap.size w wc))
  case first =>
   have H:=HC8.out
   clear HC8
   have H':=Aside0.mk H
   clear H
   go_wp2
   go_loopg [3,9] k (fun kq v3 v9 w'=>∃ (x3_1 : Int) (x9_1 : Int),v3 = .int .i64 x3_1 ∧ v9 = .int .i64 x9_1 ∧ Aside0 (quarryref00_leftOfValue.l0 kq a1 a2 x3_1 x9_1 a0_0 a0_1 a0_2 a0_3 l0_4 l0_5 = some r) ∧ Aside0 (kq ≤ k) ∧ Aside0 (w'.heap[gb211]? = some (.cells #[.int .i64 a0_0,.bool a0_1,.string a0_2,.string a0_3,(.slice A0_4 l0_4.length c0_4),(.slice A0_5 l0_5.length c0_5)] 25 (0,0))) ∧ Aside0 (Below w.heap.size w w'))
   case atStart=>exact ⟨(wrap64 (a3 - t212)),(0),rr_,rr_,H',⟨Nat.le_refl _⟩,⟨(bk_ BK211)⟩,⟨(hb_ HB)⟩⟩
   case round =>
    clear H'
    try clear BK211
    try clear HB
    obtain ⟨x3_1,x9_1,rfl,rfl,HA,HK1,BK211,HB⟩:=hrel
    cases gk with
    | zero=>exact absurd HA.out (by simp [quarryref00_leftOfValue.l0])
    | succ k1 =>
     have H:=HA.out
     clear HA
     simp only [quarryref00_leftOfValue.l0] at H
     by_cases c11 : x9_1 < (l0_4.length : Int)
     ·rw [if_pos c11] at H
      have c11b0 : decide (x9_1 < (l0_4.length : Int)) = true:=decide_eq_true c11
      clear c11
      (first|rw [c11b0]|(simp only [i64_w,i32_w];rw [c11b0])|skip)
      by_cases c12 : x3_1 ≥ 0
      ·rw [if_pos c12] at H
       have c12b0 : decide (0 ≤ x3_1) = true:=decide_eq_true c12
       clear c12
       by_cases c13 : 0 ≤ x9_1
       ·rw [if_pos c13] at H
        have c13b0 : decide (0 ≤ x9_1) = true:=decide_eq_true c13
        clear c13
        replace H:=Option.bind_eq_some_iff.mp H
        obtain ⟨t214,A140,H⟩:=H
        replace H : (quarryref00_leftOfValue.l0 k1 a1 a2 (wrap64 (x3_1 - t214)) (wrap64 (x9_1 + 1)) a0_0 a0_1 a0_2 a0_3 l0_4 l0_5) = some r:=H
        have A14:=Aside0.mk A140
        clear A140
        have H':=Aside0.mk H
        clear H
        obtain ⟨hcz15_0,hcz15_1,hcz15_2,hcz15_3,hcz15_4,hcz15_5,hfz15_0,hfz15_1,hfz15_2,hfz15_3,hfz15_4,hfz15_5⟩:=cf6_ BK211
        have p213 : 0 ≤ (x9_1 : Int):=of_decide_eq_true aa_
        have q213 : x9_1 < (l0_4.length : Int):=of_decide_eq_true aa_
        obtain ⟨ad213,e213,hx213_0⟩:=Kd.at_string HR0_4.out x9_1 p213 q213
        cases e213
        replace hx213_0:=(HB.out.cell (World.block_lt_of_cell? w _ hx213_0)).trans hx213_0
        replace p213:=eq_true p213
        replace q213:=eq_true q213
        go_wp2_with (first|((with_reducible refine gate_callee (f:=45) rfl ?_);refine goesL_ (some 45) rfl rfl Tryd.func45 (by kernel_rfl) rfl #[.int .i64 ((rdOf ByteArray.empty l0_4 x9_1).size : Int),.int .i64 a1,.int .i64 0] rfl am_ ?_;(with_reducible refine (quarryref00_told.calls ((rdOf ByteArray.empty l0_4 x9_1).size : Int) a1 0 t214 _ A14.out).mono ?_);rintro e w' ⟨rfl,⟨nd,rfl⟩⟩;refine ⟨_,rfl,?_⟩))
        go_roundg k1
        case measure=>have:=HK1.out;omega
        case rel=>exact ⟨(wrap64 (x3_1 - t214)),(wrap64 (x9_1 + 1)),rr_,rr_,(by first|exact H'|(subst_vars;exact H')),⟨by have:=HK1.out;omega⟩,⟨(bk_ BK211)⟩,⟨(hb_ HB)⟩⟩
       ·rw [if_neg c13] at H
        exact absurd H (by simp)
      ·rw [if_neg c12] at H
       have c12b0 : decide (0 ≤ x3_1) = false:=decide_eq_false c12
       clear c12
       have H':=Aside0.mk H
       clear H
       obtain ⟨hcz16_0,hcz16_1,hcz16_2,hcz16_3,hcz16_4,hcz16_5,hfz16_0,hfz16_1,hfz16_2,hfz16_3,hfz16_4,hfz16_5⟩:=cf6_ BK211
       go_wp2
       go_meet
       case rel=>exact ⟨_,(x3_1),rr_,(by first|exact H'|(subst_vars;exact H')),⟨by have:=HK1.out;first|omega|exact Nat.le_refl _⟩,⟨(bk_ BK211)⟩,⟨(hb_ HB)⟩⟩
     ·rw [if_neg c11] at H
      have c11b0 : decide (x9_1 < (l0_4.length : Int)) = false:=decide_eq_false c11
      clear c11
      (first|rw [c11b0]|(simp only [i64_w,i32_w];rw [c11b0])|skip)
      have H':=Aside0.mk H
      clear H
      obtain ⟨hcz17_0,hcz17_1,hcz17_2,hcz17_3,hcz17_4,hcz17_5,hfz17_0,hfz17_1,hfz17_2,hfz17_3,hfz17_4,hfz17_5⟩:=cf6_ BK211
      go_wp2
      go_meet
      case rel=>exact ⟨_,(x3_1),rr_,(by first|exact H'|(subst_vars;exact H')),⟨by have:=HK1.out;first|omega|exact Nat.le_refl _⟩,⟨(bk_ BK211)⟩,⟨(hb_ HB)⟩⟩
  case rest =>
   clear HC8
   obtain ⟨kq,x3_7,rfl,HA,HJ7,BK211,HB⟩:=hcut
   cases kq with
   | zero=>exact absurd HA.out (by simp [quarryref00_leftOfValue.j1])
   | succ kj7 =>
    have H:=HA.out
    clear HA
    simp only [quarryref00_leftOfValue.j1] at H
    have H':=Aside0.mk H
    clear H
    go_wp2
    go_loopg [3,10] kj7 (fun kq v3 v10 w'=>∃ (x3_2 : Int) (x10_2 : Int),v3 = .int .i64 x3_2 ∧ v10 = .int .i64 x10_2 ∧ Aside0 (quarryref00_leftOfValue.l1 kq a1 a2 x3_2 x10_2 a0_0 a0_1 a0_2 a0_3 l0_4 l0_5 = some r) ∧ Aside0 (kq ≤ kj7) ∧ Aside0 (w'.heap[gb211]? = some (.cells #[.int .i64 a0_0,.bool a0_1,.string a0_2,.string a0_3,(.slice A0_4 l0_4.length c0_4),(.slice A0_5 l0_5.length c0_5)] 25 (0,0))) ∧ Aside0 (Below w.heap.size w w'))
    case atStart=>exact ⟨(x3_7),(0),rr_,rr_,H',⟨Nat.le_refl _⟩,⟨(bk_ BK211)⟩,⟨(hb_ HB)⟩⟩
    case round =>
     clear H'
     try clear BK211
     try clear HB
     obtain ⟨x3_2,x10_2,rfl,rfl,HA,HK2,BK211,HB⟩:=hrel
     cases gk with
     | zero=>exact absurd HA.out (by simp [quarryref00_leftOfValue.l1])
     | succ k2 =>
      have H:=HA.out
      clear HA
      simp only [quarryref00_leftOfValue.l1] at H
      have HC18:=Aside0.mk H
      clear H
      go_upto_region 9 with (fail)
      go_cut [55] (fun v55 wc=>∃ (kq : Nat) (x55_17 : Bool),v55 = .bool x55_17 ∧ Aside0 (quarryref00_leftOfValue.j3 kq a1 a2 x3_2 x10_2 x55_17 a0_0 a0_1 a0_2 a0_3 l0_4 l0_5 = some r) ∧ Aside0 (kq ≤ k2) ∧ Aside0 (wc.heap[gb211]? = some (.cells #[.int .i64 a0_0,.bool a0_1,.string a0_2,.string a0_3,(.slice A0_4 l0_4.length c0_4),(.slice A0_5 l0_5.length c0_5)] 25 (0,0))) ∧ Aside0 (Below w.heap.size w wc))
      case first =>
       have H:=HC18.out
       clear HC18
       by_cases c19 : x10_2 < (l0_5.length : Int)
       ·rw [if_pos c19] at H
        have c19b0 : decide (x10_2 < (l0_5.length : Int)) = true:=decide_eq_true c19
        clear c19
        (first|rw [c19b0]|(simp only [i64_w,i32_w];rw [c19b0])|skip)
        have H':=Aside0.mk H
        clear H
        obtain ⟨hcz20_0,hcz20_1,hcz20_2,hcz20_3,hcz20_4,hcz20_5,hfz20_0,hfz20_1,hfz20_2,hfz20_3,hfz20_4,hfz20_5⟩:=cf6_ BK211
        go_wp2
        go_meet
        case rel=>exact ⟨_,(decide (x3_2 ≥ 0)),rr_,(by first|exact H'|(subst_vars;exact H')),⟨by have:=HJ7.out;have:=HK2.out;first|omega|exact Nat.le_refl _⟩,⟨(bk_ BK211)⟩,⟨(hb_ HB)⟩⟩
       ·rw [if_neg c19] at H
        have c19b0 : decide (x10_2 < (l0_5.length : Int)) = false:=decide_eq_false c19
        clear c19
        (first|rw [c19b0]|(simp only [i64_w,i32_w];rw [c19b0])|skip)
        have H':=Aside0.mk H
        clear H
        obtain ⟨hcz21_0,hcz21_1,hcz21_2,hcz21_3,hcz21_4,hcz21_5,hfz21_0,hfz21_1,hfz21_2,hfz21_3,hfz21_4,hfz21_5⟩:=cf6_ BK211
        go_wp2
        go_meet
        case rel=>exact ⟨_,(false),rr_,(by first|exact H'|(subst_vars;exact H')),⟨by have:=HJ7.out;have:=HK2.out;first|omega|exact Nat.le_refl _⟩,⟨(bk_ BK211)⟩,⟨(hb_ HB)⟩⟩
      case rest =>
       clear HC18
       obtain ⟨kq,x55_17,rfl,HA,HJ17,BK211,HB⟩:=hcut
       cases kq with
       | zero=>exact absurd HA.out (by simp [quarryref00_leftOfValue.j3])
       | succ kj17 =>
        have H:=HA.out
        clear HA
        simp only [quarryref00_leftOfValue.j3] at H
        by_cases c22 : x55_17 = true
        ·subst c22
         have H1 : (if x10_2 < (l0_4.length : Int) then (if 0 ≤ x10_2 then (if x10_2 < (l0_5.length : Int) then ((quarryref00_leftOfValue.f kj17 ((rd_T25 l0_5 x10_2).f0) ((rd_T25 l0_5 x10_2).f1) ((rd_T25 l0_5 x10_2).f2) ((rd_T25 l0_5 x10_2).f3) ((rd_T25 l0_5 x10_2).f4) ((rd_T25 l0_5 x10_2).f5) (wrap64 (a1 + 1)) (wrap64 ((wrap64 (a2 + 21)) + (wrap64 (2 * ((rdOf ByteArray.empty l0_4 x10_2).size : Int))))) x3_2).bind fun t217=>(quarryref00_leftOfValue.l1 kj17 a1 a2 t217 (wrap64 (x10_2 + 1)) a0_0 a0_1 a0_2 a0_3 l0_4 l0_5)) else (none)) else (none)) else (if 0 ≤ x10_2 then (if x10_2 < (l0_5.length : Int) then ((quarryref00_leftOfValue.f kj17 ((rd_T25 l0_5 x10_2).f0) ((rd_T25 l0_5 x10_2).f1) ((rd_T25 l0_5 x10_2).f2) ((rd_T25 l0_5 x10_2).f3) ((rd_T25 l0_5 x10_2).f4) ((rd_T25 l0_5 x10_2).f5) (wrap64 (a1 + 1)) (wrap64 (a2 + 21)) x3_2).bind fun t219=>(quarryref00_leftOfValue.l1 kj17 a1 a2 t219 (wrap64 (x10_2 + 1)) a0_0 a0_1 a0_2 a0_3 l0_4 l0_5)) else (none)) else (none))) = some r:=by rw [if_pos rfl] at H;exact H
         clear H
         have H:=H1
         clear H1
         by_cases c23 : x10_2 < (l0_4.length : Int)
         ·rw [if_pos c23] at H
          have c23b0 : decide (x10_2 < (l0_4.length : Int)) = true:=decide_eq_true c23
          clear c23
          by_cases c24 : 0 ≤ x10_2
          ·rw [if_pos c24] at H
           have c24b0 : decide (0 ≤ x10_2) = true:=decide_eq_true c24
           clear c24
           by_cases c25 : x10_2 < (l0_5.length : Int)
           ·rw [if_pos c25] at H
            have c25b0 : decide (x10_2 < (l0_5.length : Int)) = true:=decide_eq_true c25
            clear c25
            replace H:=Option.bind_eq_some_iff.mp H
            obtain ⟨t217,A260,H⟩:=H
            replace H : (quarryref00_leftOfValue.l1 kj17 a1 a2 t217 (wrap64 (x10_2 + 1)) a0_0 a0_1 a0_2 a0_3 l0_4 l0_5) = some r:=H
            have A26:=Aside0.mk A260
            clear A260
            have H':=Aside0.mk H
            clear H
            obtain ⟨hcz27_0,hcz27_1,hcz27_2,hcz27_3,hcz27_4,hcz27_5,hfz27_0,hfz27_1,hfz27_2,hfz27_3,hfz27_4,hfz27_5⟩:=cf6_ BK211
            have p215 : 0 ≤ (x10_2 : Int):=of_decide_eq_true aa_
            have q215 : x10_2 < (l0_4.length : Int):=of_decide_eq_true aa_
            obtain ⟨ad215,e215,hx215_0⟩:=Kd.at_string HR0_4.out x10_2 p215 q215
            cases e215
            replace hx215_0:=(HB.out.cell (World.block_lt_of_cell? w _ hx215_0)).trans hx215_0
            replace p215:=eq_true p215
            replace q215:=eq_true q215
            have p216 : 0 ≤ (x10_2 : Int):=of_decide_eq_true aa_
            have q216 : x10_2 < (l0_5.length : Int):=of_decide_eq_true aa_
            obtain ⟨ad216,A216_4,c216_4,A216_5,c216_5,e216,hx216_0,hx216_1,hx216_2,hx216_3,hx216_4,hx216_5,hl216_4,hi216_4,hl216_5,hi216_5⟩:=at_T25 HR0_5.out x10_2 p216 q216
            cases e216
            replace hx216_0:=(HB.out.cell (World.block_lt_of_cell? w _ hx216_0)).trans hx216_0
            replace hx216_1:=(HB.out.cell (World.block_lt_of_cell? w _ hx216_1)).trans hx216_1
            replace hx216_2:=(HB.out.cell (World.block_lt_of_cell? w _ hx216_2)).trans hx216_2
            replace hx216_3:=(HB.out.cell (World.block_lt_of_cell? w _ hx216_3)).trans hx216_3
            replace hx216_4:=(HB.out.cell (World.block_lt_of_cell? w _ hx216_4)).trans hx216_4
            replace hx216_5:=(HB.out.cell (World.block_lt_of_cell? w _ hx216_5)).trans hx216_5
            have HR216_4:=Aside0.mk hi216_4
            have HC216_4:=Aside0.mk hl216_4
            clear hi216_4 hl216_4
            have HR216_5:=Aside0.mk hi216_5
            have HC216_5:=Aside0.mk hl216_5
            clear hi216_5 hl216_5
            replace p216:=eq_true p216
            replace q216:=eq_true q216
            go_wp2_with (first|((with_reducible refine gate_callee (f:=30) rfl ?_);refine goesL_ (some 83) rfl rfl Tryd.func30 (by kernel_rfl) rfl #[.agg #[.int .i64 ((rd_T25 l0_5 x10_2).f0),.bool ((rd_T25 l0_5 x10_2).f1),.string ((rd_T25 l0_5 x10_2).f2),.string ((rd_T25 l0_5 x10_2).f3),.slice A216_4 ((rd_T25 l0_5 x10_2).f4).length c216_4,.slice A216_5 ((rd_T25 l0_5 x10_2).f5).length c216_5],.int .i64 (wrap64 (a1 + 1)),.int .i64 (wrap64 ((wrap64 (a2 + 21)) + (wrap64 (2 * ((rdOf ByteArray.empty l0_4 x10_2).size : Int))))),.int .i64 x3_2] rfl am_ ?_;(with_reducible refine (ih kj17 (by have:=HJ7.out;have:=HK2.out;have:=HJ17.out;omega) ((rd_T25 l0_5 x10_2).f0) ((rd_T25 l0_5 x10_2).f1) ((rd_T25 l0_5 x10_2).f2) ((rd_T25 l0_5 x10_2).f3) _ _ ((rd_T25 l0_5 x10_2).f4) _ _ ((rd_T25 l0_5 x10_2).f5) (wrap64 (a1 + 1)) (wrap64 ((wrap64 (a2 + 21)) + (wrap64 (2 * ((rdOf ByteArray.empty l0_4 x10_2).size : Int))))) x3_2 t217 _ ?side1 ?side2 ?side3 ?side4 A26.out).mono ?_);(case side1=>repeat (first|exact (Kd.C_below HR216_4.out HB.out)|(with_reducible refine Kd.C_alloc ?_ _)|(with_reducible refine Kd.C_drewN ?_ _)|(with_reducible refine Kd.C_drew ?_)));(case side2=>exact HC216_4.out);(case side3=>repeat (first|exact (Kd.C_below HR216_5.out HB.out)|(with_reducible refine Kd.C_alloc ?_ _)|(with_reducible refine Kd.C_drewN ?_ _)|(with_reducible refine Kd.C_drew ?_)));(case side4=>exact HC216_5.out);rintro e w28 ⟨rfl,hb⟩;refine ⟨_,rfl,?_⟩;have n_:=J_ (bkb_ BK211 hb) (Aside0.mk (below_step (hb_ HB) hb));clear BK211 HB;obtain ⟨BK211,HB⟩:=n_;(try clear hb);(try clear hb2);(try clear hk);(try clear hi)))
            go_roundg kj17
            case measure=>have:=HJ7.out;have:=HK2.out;have:=HJ17.out;omega
            case rel=>exact ⟨(t217),(wrap64 (x10_2 + 1)),rr_,rr_,(by first|exact H'|(subst_vars;exact H')),⟨by have:=HJ7.out;have:=HK2.out;have:=HJ17.out;omega⟩,⟨(bk_ BK211)⟩,⟨(hb_ HB)⟩⟩
           ·rw [if_neg c25] at H
            exact absurd H (by simp)
          ·rw [if_neg c24] at H
           exact absurd H (by simp)
         ·rw [if_neg c23] at H
          have c23b0 : decide (x10_2 < (l0_4.length : Int)) = false:=decide_eq_false c23
          clear c23
          by_cases c29 : 0 ≤ x10_2
          ·rw [if_pos c29] at H
           have c29b0 : decide (0 ≤ x10_2) = true:=decide_eq_true c29
           clear c29
           by_cases c30 : x10_2 < (l0_5.length : Int)
           ·rw [if_pos c30] at H
            have c30b0 : decide (x10_2 < (l0_5.length : Int)) = true:=decide_eq_true c30
            clear c30
            replace H:=Option.bind_eq_some_iff.mp H
            obtain ⟨t219,A310,H⟩:=H
            replace H : (quarryref00_leftOfValue.l1 kj17 a1 a2 t219 (wrap64 (x10_2 + 1)) a0_0 a0_1 a0_2 a0_3 l0_4 l0_5) = some r:=H
            have A31:=Aside0.mk A310
            clear A310
            have H':=Aside0.mk H
            clear H
            obtain ⟨hcz32_0,hcz32_1,hcz32_2,hcz32_3,hcz32_4,hcz32_5,hfz32_0,hfz32_1,hfz32_2,hfz32_3,hfz32_4,hfz32_5⟩:=cf6_ BK211
            have p218 : 0 ≤ (x10_2 : Int):=of_decide_eq_true aa_
            have q218 : x10_2 < (l0_5.length : Int):=of_decide_eq_true aa_
            obtain ⟨ad218,A218_4,c218_4,A218_5,c218_5,e218,hx218_0,hx218_1,hx218_2,hx218_3,hx218_4,hx218_5,hl218_4,hi218_4,hl218_5,hi218_5⟩:=at_T25 HR0_5.out x10_2 p218 q218
            cases e218
            replace hx218_0:=(HB.out.cell (World.block_lt_of_cell? w _ hx218_0)).trans hx218_0
            replace hx218_1:=(HB.out.cell (World.block_lt_of_cell? w _ hx218_1)).trans hx218_1
            replace hx218_2:=(HB.out.cell (World.block_lt_of_cell? w _ hx218_2)).trans hx218_2
            replace hx218_3:=(HB.out.cell (World.block_lt_of_cell? w _ hx218_3)).trans hx218_3
            replace hx218_4:=(HB.out.cell (World.block_lt_of_cell? w _ hx218_4)).trans hx218_4
            replace hx218_5:=(HB.out.cell (World.block_lt_of_cell? w _ hx218_5)).trans hx218_5
            have HR218_4:=Aside0.mk hi218_4
            have HC218_4:=Aside0.mk hl218_4
            clear hi218_4 hl218_4
            have HR218_5:=Aside0.mk hi218_5
            have HC218_5:=Aside0.mk hl218_5
            clear hi218_5 hl218_5
            replace p218:=eq_true p218
            replace q218:=eq_true q218
            go_wp2_with (first|((with_reducible refine gate_callee (f:=30) rfl ?_);refine goesL_ (some 83) rfl rfl Tryd.func30 (by kernel_rfl) rfl #[.agg #[.int .i64 ((rd_T25 l0_5 x10_2).f0),.bool ((rd_T25 l0_5 x10_2).f1),.string ((rd_T25 l0_5 x10_2).f2),.string ((rd_T25 l0_5 x10_2).f3),.slice A218_4 ((rd_T25 l0_5 x10_2).f4).length c218_4,.slice A218_5 ((rd_T25 l0_5 x10_2).f5).length c218_5],.int .i64 (wrap64 (a1 + 1)),.int .i64 (wrap64 (a2 + 21)),.int .i64 x3_2] rfl am_ ?_;(with_reducible refine (ih kj17 (by have:=HJ7.out;have:=HK2.out;have:=HJ17.out;omega) ((rd_T25 l0_5 x10_2).f0) ((rd_T25 l0_5 x10_2).f1) ((rd_T25 l0_5 x10_2).f2) ((rd_T25 l0_5 x10_2).f3) _ _ ((rd_T25 l0_5 x10_2).f4) _ _ ((rd_T25 l0_5 x10_2).f5) (wrap64 (a1 + 1)) (wrap64 (a2 + 21)) x3_2 t219 _ ?side1 ?side2 ?side3 ?side4 A31.out).mono ?_);(case side1=>repeat (first|exact (Kd.C_below HR218_4.out HB.out)|(with_reducible refine Kd.C_alloc ?_ _)|(with_reducible refine Kd.C_drewN ?_ _)|(with_reducible refine Kd.C_drew ?_)));(case side2=>exact HC218_4.out);(case side3=>repeat (first|exact (Kd.C_below HR218_5.out HB.out)|(with_reducible refine Kd.C_alloc ?_ _)|(with_reducible refine Kd.C_drewN ?_ _)|(with_reducible refine Kd.C_drew ?_)));(case side4=>exact HC218_5.out);rintro e w33 ⟨rfl,hb⟩;refine ⟨_,rfl,?_⟩;have n_:=J_ (bkb_ BK211 hb) (Aside0.mk (below_step (hb_ HB) hb));clear BK211 HB;obtain ⟨BK211,HB⟩:=n_;(try clear hb);(try clear hb2);(try clear hk);(try clear hi)))
            go_roundg kj17
            case measure=>have:=HJ7.out;have:=HK2.out;have:=HJ17.out;omega
            case rel=>exact ⟨(t219),(wrap64 (x10_2 + 1)),rr_,rr_,(by first|exact H'|(subst_vars;exact H')),⟨by have:=HJ7.out;have:=HK2.out;have:=HJ17.out;omega⟩,⟨(bk_ BK211)⟩,⟨(hb_ HB)⟩⟩
           ·rw [if_neg c30] at H
            exact absurd H (by simp)
          ·rw [if_neg c29] at H
           exact absurd H (by simp)
        ·replace c22:=Bool.eq_false_iff.mpr c22
         subst c22
         have H1 : (some x3_2) = some r:=by rw [if_neg (show ¬ (false = true) by decide)] at H;exact H
         clear H
         have H:=H1
         clear H1
         obtain rfl:=Option.some.inj H
         go_wp2
         go_ret
         exact ⟨er_,(hb_ HB)⟩
def quarryref00_BeyondValue.f (k : Nat) (a0_0 : Int) (a0_1 : Bool) (a0_2 : ByteArray) (a0_3 : ByteArray) (l0_4 : List ByteArray) (l0_5 : List (S25)) : Option (Bool):=(quarryref00_leftOfValue.f k a0_0 a0_1 a0_2 a0_3 l0_4 l0_5 1 0 2147483647).bind fun t221=>(some (decide (t221 < 0)))
set_option maxHeartbeats 8000000 in
set_option maxRecDepth 100000 in
theorem quarryref00_BeyondValue.calls (k : Nat) (a0_0 : Int) (a0_1 : Bool) (a0_2 : ByteArray) (a0_3 : ByteArray) (A0_4 : Option Addr) (c0_4 : Nat) (l0_4 : List ByteArray) (A0_5 : Option Addr) (c0_5 : Nat) (l0_5 : List (S25)) (r : Bool) (w : World) (hr0_4 : Kd.C Kd.string w A0_4 l0_4.length l0_4) (hc0_4 : l0_4.length ≤ c0_4) (hr0_5 : Kd.C k25 w A0_5 l0_5.length l0_5) (hc0_5 : l0_5.length ≤ c0_5) (h : quarryref00_BeyondValue.f k a0_0 a0_1 a0_2 a0_3 l0_4 l0_5 = some r) :
  Calls Tryd.prog 10 #[.agg #[.int .i64 a0_0,.bool a0_1,.string a0_2,.string a0_3,.slice A0_4 l0_4.length c0_4,.slice A0_5 l0_5.length c0_5]] w fun e w'=>e = .returned (.bool r) ∧ Below w.heap.size w w':=by
 have hu25:=Tryd.underlying25
 have HR0_4:=Aside0.mk hr0_4
 have HC0_4:=Aside0.mk hc0_4
 clear hr0_4 hc0_4
 have HR0_5:=Aside0.mk hr0_5
 have HC0_5:=Aside0.mk hc0_5
 clear hr0_5 hc0_5
 have HB:=Aside0.mk (Below.refl w.heap.size w)
 have H : ((quarryref00_leftOfValue.f k a0_0 a0_1 a0_2 a0_3 l0_4 l0_5 1 0 2147483647).bind fun t221=>(some (decide (t221 < 0)))) = some r:=h
 clear h
 replace H:=Option.bind_eq_some_iff.mp H
 obtain ⟨t221,A20,H⟩:=H
 replace H : (some (decide (t221 < 0))) = some r:=H
 have A2:=Aside0.mk A20
 clear A20
 obtain rfl:=Option.some.inj H
 go_enter Tryd.func10,Tryd.ntmps10
 go_wp2_with (first|((with_reducible refine gate_dst (N:=1) rfl ?_);refine box_event ?hg (N:=1) ?hd (cs:=#[.int .i64 a0_0,.bool a0_1,.string a0_2,.string a0_3,.slice A0_4 l0_4.length c0_4,.slice A0_5 l0_5.length c0_5]) (t:=25) ?hr ?_;(case hd=>rfl);(case hg=>rfl);(case hr=>first|(go_simp;done)|(go_simp;rfl));intro gb220 hg w3 hbox hb;have n_:=J_ (below_step (hb_ HB) hb) (J_ (hbox) (J_ (bs_ hg HB) (Aside0.mk (bs_ hg HB))));clear HB;obtain ⟨HB,BK220,GW220,GE220⟩:=n_;clear hb hbox hg;obtain ⟨hcz4_0,hcz4_1,hcz4_2,hcz4_3,hcz4_4,hcz4_5,hfz4_0,hfz4_1,hfz4_2,hfz4_3,hfz4_4,hfz4_5⟩:=cf6_ BK220)|((with_reducible refine gate_callee (f:=30) rfl ?_);refine goesL_ (some 4) rfl rfl Tryd.func30 (by kernel_rfl) rfl #[.agg #[.int .i64 a0_0,.bool a0_1,.string a0_2,.string a0_3,.slice A0_4 l0_4.length c0_4,.slice A0_5 l0_5.length c0_5],.int .i64 1,.int .i64 0,.int .i64 2147483647] rfl am_ ?_;(with_reducible refine (quarryref00_leftOfValue.calls k a0_0 a0_1 a0_2 a0_3 _ _ l0_4 _ _ l0_5 1 0 2147483647 t221 _ ?side1 ?side2 ?side3 ?side4 A2.out).mono ?_);(case side1=>repeat (first|exact (Kd.C_below HR0_4.out HB.out)|(with_reducible refine Kd.C_alloc ?_ _)|(with_reducible refine Kd.C_drewN ?_ _)|(with_reducible refine Kd.C_drew ?_)));(case side2=>exact HC0_4.out);(case side3=>repeat (first|exact (Kd.C_below HR0_5.out HB.out)|(with_reducible refine Kd.C_alloc ?_ _)|(with_reducible refine Kd.C_drewN ?_ _)|(with_reducible refine Kd.C_drew ?_)));(case side4=>exact HC0_5.out);rintro e w5 ⟨rfl,hb⟩;refine ⟨_,rfl,?_⟩;have n_:=J_ (bkb_ BK220 hb) (Aside0.mk (below_step (hb_ HB) hb));clear BK220 HB;obtain ⟨BK220,HB⟩:=n_;(try clear hb);(try clear hb2);(try clear hk);(try clear hi)))
 go_ret
 exact ⟨er_,(hb_ HB)⟩
def quarryref11_is.f (a0 : ByteArray) (a1 : Int) (a2 : Int) (a3 : Int) : Option (Bool):=if a1 < (a0.size : Int) then (if 0 ≤ a1 then (if (bt a0 a1) = a2 then (some true) else (some ((bt a0 a1) == a3))) else (none)) else (some false)
set_option maxHeartbeats 8000000 in
set_option maxRecDepth 100000 in
theorem quarryref11_is.calls (a0 : ByteArray) (a1 : Int) (a2 : Int) (a3 : Int) (r : Bool) (w : World) (h : quarryref11_is.f a0 a1 a2 a3 = some r) :
  Calls Tryd.prog 94 #[.string a0,.int .i64 a1,.int .u8 a2,.int .u8 a3] w fun e w'=>e = .returned (.bool r) ∧ Drawn0 w w':=by
 have H : (if a1 < (a0.size : Int) then (if 0 ≤ a1 then (if (bt a0 a1) = a2 then (some true) else (some ((bt a0 a1) == a3))) else (none)) else (some false)) = some r:=h
 clear h
 by_cases c5 : a1 < (a0.size : Int)
 ·rw [if_pos c5] at H
  have c5b0 : decide (a1 < (a0.size : Int)) = true:=decide_eq_true c5
  clear c5
  by_cases c6 : 0 ≤ a1
  ·rw [if_pos c6] at H
   have c6b0 : decide (0 ≤ a1) = true:=decide_eq_true c6
   clear c6
   by_cases c8 : (bt a0 a1) = a2
   ·rw [if_pos c8] at H
    have c8b0 : ((bt a0 a1) == a2) = true:=beq_iff_eq.mpr c8
    have c8b1 : ((bt a0 a1) != a2) = false:=bne_eq_false_iff_eq.mpr c8
    clear c8
    obtain rfl:=Option.some.inj H
    have p7 : 0 ≤ (a1 : Int):=of_decide_eq_true aa_
    have q7 : a1 < (a0.size : Int):=of_decide_eq_true aa_
    have hx7:=bt_at a0 a1
    replace p7:=eq_true p7
    replace q7:=eq_true q7
    go_enter Tryd.func94,Tryd.ntmps94
    go_wp2
    go_ret
    exact ⟨by first|rfl|(simp;done)|(simp [*];done),by repeat (first|exact Drawn0.refl _|apply Drawn0.step)⟩
   ·rw [if_neg c8] at H
    have c8b0 : ((bt a0 a1) == a2) = false:=beq_eq_false_iff_ne.mpr c8
    have c8b1 : ((bt a0 a1) != a2) = true:=bne_iff_ne.mpr c8
    obtain rfl:=Option.some.inj H
    have p7 : 0 ≤ (a1 : Int):=of_decide_eq_true aa_
    have q7 : a1 < (a0.size : Int):=of_decide_eq_true aa_
    have hx7:=bt_at a0 a1
    replace p7:=eq_true p7
    replace q7:=eq_true q7
    have p9 : 0 ≤ (a1 : Int):=of_decide_eq_true aa_
    have q9 : a1 < (a0.size : Int):=of_decide_eq_true aa_
    have hx9:=bt_at a0 a1
    replace p9:=eq_true p9
    replace q9:=eq_true q9
    go_enter Tryd.func94,Tryd.ntmps94
    go_wp2
    go_ret
    exact ⟨by first|rfl|(simp;done)|(simp [*];done),by repeat (first|exact Drawn0.refl _|apply Drawn0.step)⟩
  ·rw [if_neg c6] at H
   exact absurd H (by simp)
 ·rw [if_neg c5] at H
  have c5b0 : decide (a1 < (a0.size : Int)) = false:=decide_eq_false c5
  clear c5
  obtain rfl:=Option.some.inj H
  go_enter Tryd.func94,Tryd.ntmps94
  go_wp2
  go_ret
  exact ⟨by first|rfl|(simp;done)|(simp [*];done),by repeat (first|exact Drawn0.refl _|apply Drawn0.step)⟩
end Go.Proofs.YtppenppagkfigaaDoor.PPointerFinds
