-- Written by shrink.py, a program of this session: what the law needs of the print and its words. Lean checks it.
import Derived.Test.YtppenppagkfigaaDoorZPPointerBackx0
import Derived.Test.YtppenppagkfigaaDoorZPPointerBackx1
import Derived.Test.YtppenppagkfigaaDoorZPPointerBackx14
import Derived.Test.YtppenppagkfigaaDoorZPPointerBackx16
namespace Go.Proofs.YtppenppagkfigaaDoor.PPointerBack
open Go.RowKit Go.Proofs.YtppenppagkfigaaDoorW.PrintWords Go.Proofs.YtppenppagkfigaaDoorW.PrintLast Go.Proofs.YtppenppagkfigaaDoorW.PrintMore
attribute [local go_sem] max2_int min2_int max_two min_two max_three min_three max_four min_four
set_option linter.unusedVariables false
set_option linter.unusedSimpArgs false
mutual
def pointer_Place.j0 : Nat → ByteArray → Bool → Option (Int × Bool)
 | 0,_,_=>none
 | k + 1,x0,x22=>if x22 = true then (some (0,false)) else (pointer_Place.l0 k x0 0 (x0.size : Int) 0)
def pointer_Place.l0 : Nat → ByteArray → Int → Int → Int → Option (Int × Bool)
 | 0,_,_,_,_=>none
 | k + 1,x0,x4,x24,x25=>if x25 < x24 then (if 0 ≤ x25 then (if x25 < (x0.size : Int) then (if (((bt x0 x25) - 48) % 256) > 9 then (some (0,false)) else (pointer_Place.l0 k x0 (wrap64 ((wrap64 (10 * x4)) + (((bt x0 x25) - 48) % 256))) x24 (wrap64 (x25 + 1)))) else (none)) else (none)) else (some (x4,true))
end
def pointer_Place.f (k : Nat) (a0 : ByteArray) : Option (Int × Bool):=if a0.toList = ([] : List UInt8) then (pointer_Place.j0 k a0 true) else (if (a0.size : Int) > 18 then (pointer_Place.j0 k a0 true) else (if (a0.size : Int) > 1 then (if 0 < (a0.size : Int) then (pointer_Place.j0 k a0 ((bt a0 0) == 48)) else (none)) else (pointer_Place.j0 k a0 false)))
theorem pointer_Place.mono_l : ∀ k,(∀ y0 y1,LeO (pointer_Place.j0 k y0 y1) (pointer_Place.j0 (k + 1) y0 y1)) ∧ (∀ y0 y1 y2 y3,LeO (pointer_Place.l0 k y0 y1 y2 y3) (pointer_Place.l0 (k + 1) y0 y1 y2 y3))
 | 0=>⟨fun _ _ r h=>by simp [pointer_Place.j0] at h,fun _ _ _ _ r h=>by simp [pointer_Place.l0] at h⟩
 | k + 1=>by
  obtain ⟨ih0,ih1⟩:=pointer_Place.mono_l k
  refine ⟨?_,?_⟩
  ·intro y0 y1
   unfold pointer_Place.j0
   repeat' first
   | (with_reducible exact ih0 _ _)
   | (with_reducible exact ih1 _ _ _ _)
   | (with_reducible exact LeO.refl _)
   | (with_reducible exact LeO.none _)
   | (with_reducible refine LeO.ite ?_ ?_)
   | (with_reducible refine LeO.bind ?_ (fun _=>?_))
   | exact ih0 _ _
   | exact ih1 _ _ _ _
   | exact LeO.none _
   | refine LeO.ite ?_ ?_
   | refine LeO.bind ?_ (fun _=>?_)
  ·intro y0 y1 y2 y3
   unfold pointer_Place.l0
   repeat' first
   | (with_reducible exact ih0 _ _)
   | (with_reducible exact ih1 _ _ _ _)
   | (with_reducible exact LeO.refl _)
   | (with_reducible exact LeO.none _)
   | (with_reducible refine LeO.ite ?_ ?_)
   | (with_reducible refine LeO.bind ?_ (fun _=>?_))
   | exact ih0 _ _
   | exact ih1 _ _ _ _
   | exact LeO.none _
   | refine LeO.ite ?_ ?_
   | refine LeO.bind ?_ (fun _=>?_)
theorem pointer_Place.mono : ∀ a0 k,LeO (pointer_Place.f k a0) (pointer_Place.f (k + 1) a0):=by
 intro a0 k
 obtain ⟨ih0,ih1⟩:=pointer_Place.mono_l k
 unfold pointer_Place.f
 repeat' first
   | (with_reducible exact ih0 _ _)
   | (with_reducible exact ih1 _ _ _ _)
   | (with_reducible exact LeO.refl _)
   | (with_reducible exact LeO.none _)
   | (with_reducible refine LeO.ite ?_ ?_)
   | (with_reducible refine LeO.bind ?_ (fun _=>?_))
   | exact ih0 _ _
   | exact ih1 _ _ _ _
   | exact LeO.none _
   | refine LeO.ite ?_ ?_
   | refine LeO.bind ?_ (fun _=>?_)
set_option maxHeartbeats 8000000 in
set_option maxRecDepth 100000 in
theorem pointer_Place.calls (k : Nat) (a0 : ByteArray) (r1 : Int) (r2 : Bool) (w : World) (h : pointer_Place.f k a0 = some (r1,r2)) :
  Calls Tryd.prog 44 #[.string a0] w fun e w'=>e = .returned (.tuple #[.int .i64 r1,.bool r2]) ∧ Drawn0 w w':=by
 have H : (if a0.toList = ([] : List UInt8) then (pointer_Place.j0 k a0 true) else (if (a0.size : Int) > 18 then (pointer_Place.j0 k a0 true) else (if (a0.size : Int) > 1 then (if 0 < (a0.size : Int) then (pointer_Place.j0 k a0 ((bt a0 0) == 48)) else (none)) else (pointer_Place.j0 k a0 false)))) = some (r1,r2):=h
 clear h
 have HC2:=Aside0.mk H
 clear H
 go_enter Tryd.func44,Tryd.ntmps44
 go_upto_region 1 with (fail)
 go_cut [22] (fun v22 wc=>∃ (kq : Nat) (x22_1 : Bool),v22 = .bool x22_1 ∧ Aside0 (pointer_Place.j0 kq a0 x22_1 = some (r1,r2)) ∧ Aside0 (kq ≤ k) ∧ Drawn0 w wc)
 case first =>
  have H:=HC2.out
  clear HC2
  by_cases c3 : a0.toList = ([] : List UInt8)
  ·rw [if_pos c3] at H
   have c3b0 : (a0.toList == ([] : List UInt8)) = true:=beq_iff_eq.mpr c3
   have c3b1 : (a0.toList != ([] : List UInt8)) = false:=bne_eq_false_iff_eq.mpr c3
   clear c3
   (first|rw [c3b0]|(simp only [i64_w,i32_w];rw [c3b0])|skip)
   have H':=Aside0.mk H
   clear H
   go_wp2
   go_meet
   case rel=>exact ⟨_,(true),rr_,(by first|exact H'|(subst_vars;exact H')),⟨by first|omega|exact Nat.le_refl _⟩,by repeat (first|exact Drawn0.refl _|apply Drawn0.step)⟩
  ·rw [if_neg c3] at H
   have c3b0 : (a0.toList == ([] : List UInt8)) = false:=beq_eq_false_iff_ne.mpr c3
   have c3b1 : (a0.toList != ([] : List UInt8)) = true:=bne_iff_ne.mpr c3
   (first|rw [c3b0]|(simp only [i64_w,i32_w];rw [c3b0])|skip)
   by_cases c4 : (a0.size : Int) > 18
   ·rw [if_pos c4] at H
    have c4b0 : decide (18 < (a0.size : Int)) = true:=decide_eq_true c4
    have c4b1 : decide (18 < a0.size) = true:=decide_eq_true (by omega)
    clear c4
    have H':=Aside0.mk H
    clear H
    go_wp2
    go_meet
    case rel=>exact ⟨_,(true),rr_,(by first|exact H'|(subst_vars;exact H')),⟨by first|omega|exact Nat.le_refl _⟩,by repeat (first|exact Drawn0.refl _|apply Drawn0.step)⟩
   ·rw [if_neg c4] at H
    have c4b0 : decide (18 < (a0.size : Int)) = false:=decide_eq_false c4
    have c4b1 : decide (18 < a0.size) = false:=decide_eq_false (by omega)
    clear c4
    by_cases c5 : (a0.size : Int) > 1
    ·rw [if_pos c5] at H
     have c5b0 : decide (1 < (a0.size : Int)) = true:=decide_eq_true c5
     have c5b1 : decide (1 < a0.size) = true:=decide_eq_true (by omega)
     clear c5
     by_cases c6 : 0 < (a0.size : Int)
     ·rw [if_pos c6] at H
      have c6b0 : decide (0 < (a0.size : Int)) = true:=decide_eq_true c6
      have c6b1 : decide (0 < a0.size) = true:=decide_eq_true (by omega)
      clear c6
      have H':=Aside0.mk H
      clear H
      have p7 : 0 ≤ (0 : Int):=(by omega)
      have q7 : 0 < a0.size:=(by have : (0 : Int) < (a0.size : Int):=of_decide_eq_true aa_;omega)
      have hx7 : ∀ h : 0 < a0.size,((a0[0]'h).toNat : Int) = bt a0 0:=bt_at a0 0
      clear p7
      have qi7 : (0 < (a0.size : Int)) = True:=eq_true (of_decide_eq_true aa_)
      replace q7:=eq_true q7
      go_wp2
      go_meet
      case rel=>exact ⟨_,(((bt a0 0) == 48)),rr_,(by first|exact H'|(subst_vars;exact H')),⟨by first|omega|exact Nat.le_refl _⟩,by repeat (first|exact Drawn0.refl _|apply Drawn0.step)⟩
     ·rw [if_neg c6] at H
      exact absurd H (by simp)
    ·rw [if_neg c5] at H
     have c5b0 : decide (1 < (a0.size : Int)) = false:=decide_eq_false c5
     have c5b1 : decide (1 < a0.size) = false:=decide_eq_false (by omega)
     clear c5
     have H':=Aside0.mk H
     clear H
     go_wp2
     go_meet
     case rel=>exact ⟨_,(false),rr_,(by first|exact H'|(subst_vars;exact H')),⟨by first|omega|exact Nat.le_refl _⟩,by repeat (first|exact Drawn0.refl _|apply Drawn0.step)⟩
 case rest =>
  clear HC2
  obtain ⟨kq,x22_1,rfl,HA,HJ1,⟨mc1,rfl⟩⟩:=hcut
  cases kq with
  | zero=>exact absurd HA.out (by simp [pointer_Place.j0])
  | succ kj1 =>
   have H:=HA.out
   clear HA
   simp only [pointer_Place.j0] at H
   by_cases c8 : x22_1 = true
   ·subst c8
    have H1 : (some (0,false)) = some (r1,r2):=by rw [if_pos rfl] at H;exact H
    clear H
    have H:=H1
    clear H1
    simp only [Option.some.injEq,Prod.mk.injEq] at H
    obtain ⟨rfl,rfl⟩:=H
    go_wp2
    go_ret2
    exact ⟨by first|rfl|(simp;done)|(simp [*];done),by repeat (first|exact Drawn0.refl _|apply Drawn0.step)⟩
   ·replace c8:=Bool.eq_false_iff.mpr c8
    subst c8
    have H1 : (pointer_Place.l0 kj1 a0 0 (a0.size : Int) 0) = some (r1,r2):=by rw [if_neg (show ¬ (false = true) by decide)] at H;exact H
    clear H
    have H:=H1
    clear H1
    have H':=Aside0.mk H
    clear H
    go_wp2
    go_loopg [4,25] kj1 (fun kq v4 v25 w'=>∃ (x4_2 : Int) (x25_2 : Int),v4 = .int .i64 x4_2 ∧ v25 = .int .i64 x25_2 ∧ Aside0 (pointer_Place.l0 kq a0 x4_2 (a0.size : Int) x25_2 = some (r1,r2)) ∧ Aside0 (kq ≤ kj1) ∧ Drawn0 w w')
    case atStart=>exact ⟨(0),(0),rr_,rr_,H',⟨Nat.le_refl _⟩,by repeat (first|exact Drawn0.refl _|apply Drawn0.step)⟩
    case round =>
     clear H'
     obtain ⟨x4_2,x25_2,rfl,rfl,HA,HK2,⟨m2,rfl⟩⟩:=hrel
     cases gk with
     | zero=>exact absurd HA.out (by simp [pointer_Place.l0])
     | succ k2 =>
      have H:=HA.out
      clear HA
      simp only [pointer_Place.l0] at H
      by_cases c9 : x25_2 < (a0.size : Int)
      ·rw [if_pos c9] at H
       have c9b0 : decide (x25_2 < (a0.size : Int)) = true:=decide_eq_true c9
       clear c9
       by_cases c10 : 0 ≤ x25_2
       ·rw [if_pos c10] at H
        have c10b0 : decide (0 ≤ x25_2) = true:=decide_eq_true c10
        clear c10
        by_cases c11 : x25_2 < (a0.size : Int)
        ·rw [if_pos c11] at H
         have c11b0 : decide (x25_2 < (a0.size : Int)) = true:=decide_eq_true c11
         clear c11
         by_cases c13 : (((bt a0 x25_2) - 48) % 256) > 9
         ·rw [if_pos c13] at H
          have c13b0 : decide (9 < (((bt a0 x25_2) - 48) % 256)) = true:=decide_eq_true c13
          clear c13
          simp only [Option.some.injEq,Prod.mk.injEq] at H
          obtain ⟨rfl,rfl⟩:=H
          have p12 : 0 ≤ (x25_2 : Int):=of_decide_eq_true aa_
          have q12 : x25_2 < (a0.size : Int):=of_decide_eq_true aa_
          have hx12:=bt_at a0 x25_2
          replace p12:=eq_true p12
          replace q12:=eq_true q12
          go_wp2
          go_ret2
          exact ⟨by first|rfl|(simp;done)|(simp [*];done),by repeat (first|exact Drawn0.refl _|apply Drawn0.step)⟩
         ·rw [if_neg c13] at H
          have c13b0 : decide (9 < (((bt a0 x25_2) - 48) % 256)) = false:=decide_eq_false c13
          clear c13
          have H':=Aside0.mk H
          clear H
          have p12 : 0 ≤ (x25_2 : Int):=of_decide_eq_true aa_
          have q12 : x25_2 < (a0.size : Int):=of_decide_eq_true aa_
          have hx12:=bt_at a0 x25_2
          replace p12:=eq_true p12
          replace q12:=eq_true q12
          have p14 : 0 ≤ (x25_2 : Int):=of_decide_eq_true aa_
          have q14 : x25_2 < (a0.size : Int):=of_decide_eq_true aa_
          have hx14:=bt_at a0 x25_2
          replace p14:=eq_true p14
          replace q14:=eq_true q14
          go_wp2
          go_roundg k2
          case measure=>have:=HJ1.out;have:=HK2.out;omega
          case rel=>exact ⟨(wrap64 ((wrap64 (10 * x4_2)) + (((bt a0 x25_2) - 48) % 256))),(wrap64 (x25_2 + 1)),rr_,rr_,(by first|exact H'|(subst_vars;exact H')),⟨by have:=HJ1.out;have:=HK2.out;omega⟩,by repeat (first|exact Drawn0.refl _|apply Drawn0.step)⟩
        ·rw [if_neg c11] at H
         exact absurd H (by simp)
       ·rw [if_neg c10] at H
        exact absurd H (by simp)
      ·rw [if_neg c9] at H
       have c9b0 : decide (x25_2 < (a0.size : Int)) = false:=decide_eq_false c9
       clear c9
       simp only [Option.some.injEq,Prod.mk.injEq] at H
       obtain ⟨rfl,rfl⟩:=H
       go_wp2
       go_ret2
       exact ⟨by first|rfl|(simp;done)|(simp [*];done),by repeat (first|exact Drawn0.refl _|apply Drawn0.step)⟩
def pointer_step.f (k : Nat) (a0_0 : Int) (a0_1 : Bool) (a0_2 : ByteArray) (a0_3 : ByteArray) (l0_4 : List ByteArray) (l0_5 : List (S25)) (a1 : ByteArray) : Option (Int × Bool × ByteArray × ByteArray × List ByteArray × (List (S25)) × Bool):=if a0_0 = 5 then ((pointer_Place.f k a1).bind fun bt147=>(if bt147.2 = true then (if bt147.1 ≥ (l0_5.length : Int) then (some (0,false,(⟨#[]⟩ : ByteArray),(⟨#[]⟩ : ByteArray),([] : List ByteArray),([] : List (S25)),false)) else (if 0 ≤ bt147.1 then (if bt147.1 < (l0_5.length : Int) then (some ((rd_T25 l0_5 bt147.1).f0,(rd_T25 l0_5 bt147.1).f1,(rd_T25 l0_5 bt147.1).f2,(rd_T25 l0_5 bt147.1).f3,(rd_T25 l0_5 bt147.1).f4,(rd_T25 l0_5 bt147.1).f5,true)) else (none)) else (none))) else (some (0,false,(⟨#[]⟩ : ByteArray),(⟨#[]⟩ : ByteArray),([] : List ByteArray),([] : List (S25)),false)))) else ((tree_Member.f k a0_0 a0_1 a0_2 a0_3 l0_4 l0_5 a1).bind fun bt150=>(some (bt150.1,bt150.2.1,bt150.2.2.1,bt150.2.2.2.1,bt150.2.2.2.2.1,bt150.2.2.2.2.2.1,bt150.2.2.2.2.2.2)))
theorem pointer_step.mono : ∀ a0 a1 a2 a3 a4 a5 a6 k,LeO (pointer_step.f k a0 a1 a2 a3 a4 a5 a6) (pointer_step.f (k + 1) a0 a1 a2 a3 a4 a5 a6):=by
 intro a0 a1 a2 a3 a4 a5 a6 k
 unfold pointer_step.f
 repeat' first
   | (with_reducible exact pointer_Place.mono _ _)
   | (with_reducible exact tree_Member.mono _ _ _ _ _ _ _ _)
   | (with_reducible exact LeO.refl _)
   | (with_reducible exact LeO.none _)
   | (with_reducible refine LeO.ite ?_ ?_)
   | (with_reducible refine LeO.bind ?_ (fun _=>?_))
   | exact LeO.none _
   | refine LeO.ite ?_ ?_
   | refine LeO.bind ?_ (fun _=>?_)
set_option maxHeartbeats 8000000 in
set_option maxRecDepth 100000 in
theorem pointer_step.calls (k : Nat) (a0_0 : Int) (a0_1 : Bool) (a0_2 : ByteArray) (a0_3 : ByteArray) (A0_4 : Option Addr) (c0_4 : Nat) (l0_4 : List ByteArray) (P0_5_ : Nat → Prop) (A0_5 : Option Addr) (c0_5 : Nat) (l0_5 : List (S25)) (a1 : ByteArray) (r1 : Int) (r2 : Bool) (r3 : ByteArray) (r4 : ByteArray) (r5 : List ByteArray) (r6 : List (S25)) (r7 : Bool) (w : World) (hr0_4 : Kd.C Kd.string w A0_4 l0_4.length l0_4) (hc0_4 : l0_4.length ≤ c0_4) (hs0_5 : Kd.V k25 25 w w.heap.size (fun k_=>P0_5_ k_) (.slice A0_5 l0_5.length c0_5) l0_5) (h : pointer_step.f k a0_0 a0_1 a0_2 a0_3 l0_4 l0_5 a1 = some (r1,r2,r3,r4,r5,r6,r7)) :
  Calls Tryd.prog 28 #[.agg #[.int .i64 a0_0,.bool a0_1,.string a0_2,.string a0_3,.slice A0_4 l0_4.length c0_4,.slice A0_5 l0_5.length c0_5],.string a1] w fun e w'=>∃ v4_ v5_ : Value,e = .returned (.tuple #[.agg #[.int .i64 r1,.bool r2,.string r3,.string r4,v4_,v5_],.bool r7]) ∧ Kd.V Kd.string 9 w' w.heap.size (fun k_=>(P0_5_ k_ ∨ w.heap.size ≤ k_)) v4_ r5 ∧ Kd.V k25 25 w' w.heap.size (fun k_=>(P0_5_ k_ ∨ w.heap.size ≤ k_)) v5_ r6 ∧ Below w.heap.size w w':=by
 have hu25:=Tryd.underlying25
 have HR0_4:=Aside0.mk hr0_4
 have HC0_4:=Aside0.mk hc0_4
 clear hr0_4 hc0_4
 have HO0_5:=Aside0.mk (show Kd.V k25 25 w w.heap.size (fun k_=>(P0_5_ k_ ∨ w.heap.size ≤ k_)) (.slice A0_5 l0_5.length c0_5) l0_5 from Kd.V_mono hs0_5 (fun k_ hk=>.inl hk))
 have HB:=Aside0.mk (Below.refl w.heap.size w)
 have H : (if a0_0 = 5 then ((pointer_Place.f k a1).bind fun bt147=>(if bt147.2 = true then (if bt147.1 ≥ (l0_5.length : Int) then (some (0,false,(⟨#[]⟩ : ByteArray),(⟨#[]⟩ : ByteArray),([] : List ByteArray),([] : List (S25)),false)) else (if 0 ≤ bt147.1 then (if bt147.1 < (l0_5.length : Int) then (some ((rd_T25 l0_5 bt147.1).f0,(rd_T25 l0_5 bt147.1).f1,(rd_T25 l0_5 bt147.1).f2,(rd_T25 l0_5 bt147.1).f3,(rd_T25 l0_5 bt147.1).f4,(rd_T25 l0_5 bt147.1).f5,true)) else (none)) else (none))) else (some (0,false,(⟨#[]⟩ : ByteArray),(⟨#[]⟩ : ByteArray),([] : List ByteArray),([] : List (S25)),false)))) else ((tree_Member.f k a0_0 a0_1 a0_2 a0_3 l0_4 l0_5 a1).bind fun bt150=>(some (bt150.1,bt150.2.1,bt150.2.2.1,bt150.2.2.2.1,bt150.2.2.2.2.1,bt150.2.2.2.2.2.1,bt150.2.2.2.2.2.2)))) = some (r1,r2,r3,r4,r5,r6,r7):=h
 clear h
 by_cases c3 : a0_0 = 5
 ·rw [if_pos c3] at H
  have c3b0 : (a0_0 == 5) = true:=beq_iff_eq.mpr c3
  have c3b1 : (a0_0 != 5) = false:=bne_eq_false_iff_eq.mpr c3
  clear c3
  replace H:=Option.bind_eq_some_iff.mp H
  obtain ⟨⟨t147,t148⟩,A40,H⟩:=H
  replace H : (if t148 = true then (if t147 ≥ (l0_5.length : Int) then (some (0,false,(⟨#[]⟩ : ByteArray),(⟨#[]⟩ : ByteArray),([] : List ByteArray),([] : List (S25)),false)) else (if 0 ≤ t147 then (if t147 < (l0_5.length : Int) then (some ((rd_T25 l0_5 t147).f0,(rd_T25 l0_5 t147).f1,(rd_T25 l0_5 t147).f2,(rd_T25 l0_5 t147).f3,(rd_T25 l0_5 t147).f4,(rd_T25 l0_5 t147).f5,true)) else (none)) else (none))) else (some (0,false,(⟨#[]⟩ : ByteArray),(⟨#[]⟩ : ByteArray),([] : List ByteArray),([] : List (S25)),false))) = some (r1,r2,r3,r4,r5,r6,r7):=H
  have A4:=Aside0.mk A40
  clear A40
  by_cases c5 : t148 = true
  ·subst c5
   have H1 : (if t147 ≥ (l0_5.length : Int) then (some (0,false,(⟨#[]⟩ : ByteArray),(⟨#[]⟩ : ByteArray),([] : List ByteArray),([] : List (S25)),false)) else (if 0 ≤ t147 then (if t147 < (l0_5.length : Int) then (some ((rd_T25 l0_5 t147).f0,(rd_T25 l0_5 t147).f1,(rd_T25 l0_5 t147).f2,(rd_T25 l0_5 t147).f3,(rd_T25 l0_5 t147).f4,(rd_T25 l0_5 t147).f5,true)) else (none)) else (none))) = some (r1,r2,r3,r4,r5,r6,r7):=by rw [if_pos rfl] at H;exact H
   clear H
   have H:=H1
   clear H1
   by_cases c6 : t147 ≥ (l0_5.length : Int)
   ·rw [if_pos c6] at H
    have c6b0 : decide ((l0_5.length : Int) ≤ t147) = true:=decide_eq_true c6
    clear c6
    simp only [Option.some.injEq,Prod.mk.injEq] at H
    obtain ⟨rfl,rfl,rfl,rfl,rfl,rfl,rfl⟩:=H
    go_enter Tryd.func28,Tryd.ntmps28
    go_wp2_with (first|((with_reducible refine gate_dst (N:=2) rfl ?_);(try (refine gate_guard (by rfl) ?_;dsimp only));refine box_event ?hg (N:=2) ?hd (cs:=#[.int .i64 a0_0,.bool a0_1,.string a0_2,.string a0_3,.slice A0_4 l0_4.length c0_4,.slice A0_5 l0_5.length c0_5]) (t:=25) ?hr ?_;(case hd=>rfl);(case hg=>rfl);(case hr=>first|(go_simp;done)|(go_simp;rfl));intro gb145 hg w7 hbox hb;have n_:=J_ (Kd.V_below (Kd.V_elderB (vk_ HO0_5) gb145 (Nat.le_of_eq hg.symm)) hb) (J_ (below_step (hb_ HB) hb) (J_ (hbox) (J_ (bs_ hg HB) (Aside0.mk (bs_ hg HB)))));clear HO0_5 HB;obtain ⟨HO0_5,HB,BK145,GW145,GE145⟩:=n_;clear hb hbox hg)|((with_reducible refine gate_dst (N:=4) rfl ?_);(try (refine gate_guard (by rfl) ?_;dsimp only));refine box_event ?hg (N:=4) ?hd (cs:=#[.int .i64 0,.bool false,.string (⟨#[]⟩ : ByteArray),.string (⟨#[]⟩ : ByteArray),.slice none 0 0,.slice none 0 0]) (t:=25) ?hr ?_;(case hd=>rfl);(case hg=>rfl);(case hr=>first|(go_simp;done)|(go_simp;rfl));intro gb146 hg w8 hbox hb;have n_:=J_ (Kd.V_below (Kd.V_elderB (vk_ HO0_5) gb146 (Nat.le_of_eq hg.symm)) hb) (J_ (bkb_ BK145 hb) (J_ (below_step (hb_ HB) hb) (J_ (hbox) (J_ (bs_ hg HB) (J_ (bs_ hg HB) (J_ ((by rw [hg];exact Nat.ne_of_lt (bkl_ BK145) : gb145 ≠ gb146)) (Aside0.mk ((by rw [hg];exact Nat.ne_of_gt (bkl_ BK145) : gb146 ≠ gb145)))))))));clear HO0_5 BK145 HB;obtain ⟨HO0_5,BK145,HB,BK146,GW146,GE146,NB145_146,NB146_145⟩:=n_;clear hb hbox hg;have hnb9:=NB145_146.out;have hnc9:=NB146_145.out;obtain ⟨hcz10_0,hcz10_1,hcz10_2,hcz10_3,hcz10_4,hcz10_5,hfz10_0,hfz10_1,hfz10_2,hfz10_3,hfz10_4,hfz10_5⟩:=cf6_ BK145)|((with_reducible refine gate_callee (f:=44) rfl ?_);refine goesL_ (some 18) rfl rfl Tryd.func44 (by kernel_rfl) rfl #[.string a1] rfl am_ ?_;(with_reducible refine (pointer_Place.calls k a1 t147 true _ A4.out).mono ?_);rintro e w' ⟨rfl,⟨nd,rfl⟩⟩;refine ⟨_,rfl,?_⟩;obtain ⟨hcz11_0,hcz11_1,hcz11_2,hcz11_3,hcz11_4,hcz11_5,hfz11_0,hfz11_1,hfz11_2,hfz11_3,hfz11_4,hfz11_5⟩:=cf6_ BK146))
    refine bodyPost_ret (results_ct rfl _ _ gb146 25 #[.int .i64 0,.bool false,.string (⟨#[]⟩ : ByteArray),.string (⟨#[]⟩ : ByteArray),.slice none 0 0,.slice none 0 0] (0,0) _ rfl (by (with_reducible repeat (first|refine blk_drewN ?_ _|refine blk_drew ?_|refine blk_alloc ?_ _));refine bp_ (cs:=#[.int .i64 0,.bool false,.string (⟨#[]⟩ : ByteArray),.string (⟨#[]⟩ : ByteArray),.slice none 0 0,.slice none 0 0]) ?_ 5 _;refine bp_ (cs:=#[.int .i64 0,.bool false,.string (⟨#[]⟩ : ByteArray),.string (⟨#[]⟩ : ByteArray),.slice none 0 0,.slice none 0 0]) ?_ 4 _;refine bp_ (cs:=#[.int .i64 0,.bool false,.string (⟨#[]⟩ : ByteArray),.string (⟨#[]⟩ : ByteArray),.slice none 0 0,.slice none 0 0]) ?_ 3 _;refine bp_ (cs:=#[.int .i64 0,.bool false,.string (⟨#[]⟩ : ByteArray),.string (⟨#[]⟩ : ByteArray),.slice none 0 0,.slice none 0 0]) ?_ 2 _;refine bp_ (cs:=#[.int .i64 0,.bool false,.string (⟨#[]⟩ : ByteArray),.string (⟨#[]⟩ : ByteArray),.slice none 0 0,.slice none 0 0]) ?_ 1 _;refine bp_ (cs:=#[.int .i64 0,.bool false,.string (⟨#[]⟩ : ByteArray),.string (⟨#[]⟩ : ByteArray),.slice none 0 0,.slice none 0 0]) ?_ 0 _;(with_reducible repeat (first|refine blk_drewN ?_ _|refine blk_drew ?_|refine blk_alloc ?_ _));exact BK146.out) Tryd.underlying25 rfl (by kernel_rfl)) rfl ?_
    exact ⟨_,_,er_,Kd.V_nil _ _ _ _ _,Kd.V_nil _ _ _ _ _,(hb_ HB)⟩
   ·rw [if_neg c6] at H
    have c6b0 : decide ((l0_5.length : Int) ≤ t147) = false:=decide_eq_false c6
    clear c6
    by_cases c12 : 0 ≤ t147
    ·rw [if_pos c12] at H
     have c12b0 : decide (0 ≤ t147) = true:=decide_eq_true c12
     clear c12
     by_cases c13 : t147 < (l0_5.length : Int)
     ·rw [if_pos c13] at H
      have c13b0 : decide (t147 < (l0_5.length : Int)) = true:=decide_eq_true c13
      clear c13
      simp only [Option.some.injEq,Prod.mk.injEq] at H
      obtain ⟨rfl,rfl,rfl,rfl,rfl,rfl,rfl⟩:=H
      go_enter Tryd.func28,Tryd.ntmps28
      go_wp2_with (first|((with_reducible refine gate_dst (N:=2) rfl ?_);(try (refine gate_guard (by rfl) ?_;dsimp only));refine box_event ?hg (N:=2) ?hd (cs:=#[.int .i64 a0_0,.bool a0_1,.string a0_2,.string a0_3,.slice A0_4 l0_4.length c0_4,.slice A0_5 l0_5.length c0_5]) (t:=25) ?hr ?_;(case hd=>rfl);(case hg=>rfl);(case hr=>first|(go_simp;done)|(go_simp;rfl));intro gb145 hg w14 hbox hb;have n_:=J_ (Kd.V_below (Kd.V_elderB (vk_ HO0_5) gb145 (Nat.le_of_eq hg.symm)) hb) (J_ (below_step (hb_ HB) hb) (J_ (hbox) (J_ (bs_ hg HB) (Aside0.mk (bs_ hg HB)))));clear HO0_5 HB;obtain ⟨HO0_5,HB,BK145,GW145,GE145⟩:=n_;clear hb hbox hg)|((with_reducible refine gate_dst (N:=4) rfl ?_);(try (refine gate_guard (by rfl) ?_;dsimp only));refine box_event ?hg (N:=4) ?hd (cs:=#[.int .i64 0,.bool false,.string (⟨#[]⟩ : ByteArray),.string (⟨#[]⟩ : ByteArray),.slice none 0 0,.slice none 0 0]) (t:=25) ?hr ?_;(case hd=>rfl);(case hg=>rfl);(case hr=>first|(go_simp;done)|(go_simp;rfl));intro gb146 hg w15 hbox hb;have n_:=J_ (Kd.V_below (Kd.V_elderB (vk_ HO0_5) gb146 (Nat.le_of_eq hg.symm)) hb) (J_ (bkb_ BK145 hb) (J_ (below_step (hb_ HB) hb) (J_ (hbox) (J_ (bs_ hg HB) (J_ (bs_ hg HB) (J_ ((by rw [hg];exact Nat.ne_of_lt (bkl_ BK145) : gb145 ≠ gb146)) (Aside0.mk ((by rw [hg];exact Nat.ne_of_gt (bkl_ BK145) : gb146 ≠ gb145)))))))));clear HO0_5 BK145 HB;obtain ⟨HO0_5,BK145,HB,BK146,GW146,GE146,NB145_146,NB146_145⟩:=n_;clear hb hbox hg;have hnb16:=NB145_146.out;have hnc16:=NB146_145.out;obtain ⟨hcz17_0,hcz17_1,hcz17_2,hcz17_3,hcz17_4,hcz17_5,hfz17_0,hfz17_1,hfz17_2,hfz17_3,hfz17_4,hfz17_5⟩:=cf6_ BK145)|((with_reducible refine gate_callee (f:=44) rfl ?_);refine goesL_ (some 18) rfl rfl Tryd.func44 (by kernel_rfl) rfl #[.string a1] rfl am_ ?_;(with_reducible refine (pointer_Place.calls k a1 t147 true _ A4.out).mono ?_);rintro e w' ⟨rfl,⟨nd,rfl⟩⟩;refine ⟨_,rfl,?_⟩;have p149 : 0 ≤ (t147 : Int):=of_decide_eq_true aa_;have q149 : t147 < (l0_5.length : Int):=of_decide_eq_true aa_;obtain ⟨ad149,A149_4,c149_4,A149_5,c149_5,e149,hx149_0,hx149_1,hx149_2,hx149_3,hx149_4,hx149_5,hl149_4,hi149_4,hl149_5,hi149_5⟩:=at_T25 (Kd.V_reads' HO0_5.out).2.2 t147 p149 q149;cases e149;obtain ⟨ce149,hce149,hMe149,hcc149⟩:=Kd.V_get HO0_5.out z25 t147 p149 (by first|exact q149|exact of_decide_eq_true aa_|(have e_:=(Kd.V_reads' HO0_5.out).1;omega));obtain ⟨ua149_4,uc149_4,ua149_5,uc149_5,rfl,ul149_4,ge149_4,ul149_5,ge149_5⟩:=k25_openF hMe149;have hv149_4:=hcc149 4 _ rfl;rw [add_field _ _ 4 (by omega)] at hv149_4;replace hv149_4:=Option.some.inj (hv149_4.symm.trans hx149_4);injection hv149_4 with hva_ hvn_ hvc_;rw [hva_] at ge149_4;rw [hvc_] at ul149_4;have HL149_4:=Aside0.mk (show Kd.V Kd.string 9 _ w.heap.size _ _ ((rd_T25 l0_5 t147).f4) from Kd.V_mk ul149_4 ge149_4);clear hva_ hvn_ hvc_ ge149_4 ul149_4;have hv149_5:=hcc149 5 _ rfl;rw [add_field _ _ 5 (by omega)] at hv149_5;replace hv149_5:=Option.some.inj (hv149_5.symm.trans hx149_5);injection hv149_5 with hva_ hvn_ hvc_;rw [hva_] at ge149_5;rw [hvc_] at ul149_5;have HL149_5:=Aside0.mk (show Kd.V k25 25 _ w.heap.size _ _ ((rd_T25 l0_5 t147).f5) from Kd.V_mk ul149_5 ge149_5);clear hva_ hvn_ hvc_ ge149_5 ul149_5;clear hcc149 hce149;have HR149_4:=Aside0.mk hi149_4;have HC149_4:=Aside0.mk hl149_4;clear hi149_4 hl149_4;have HR149_5:=Aside0.mk hi149_5;have HC149_5:=Aside0.mk hl149_5;clear hi149_5 hl149_5;replace p149:=eq_true p149;replace q149:=eq_true q149;obtain ⟨hcz18_0,hcz18_1,hcz18_2,hcz18_3,hcz18_4,hcz18_5,hfz18_0,hfz18_1,hfz18_2,hfz18_3,hfz18_4,hfz18_5⟩:=cf6_ BK146))
      refine bodyPost_ret (results_ct rfl _ _ gb146 25 #[.int .i64 ((rd_T25 l0_5 t147).f0),.bool ((rd_T25 l0_5 t147).f1),.string ((rd_T25 l0_5 t147).f2),.string ((rd_T25 l0_5 t147).f3),.slice A149_4 ((rd_T25 l0_5 t147).f4).length c149_4,.slice A149_5 ((rd_T25 l0_5 t147).f5).length c149_5] (0,0) _ rfl (by (with_reducible repeat (first|refine blk_drewN ?_ _|refine blk_drew ?_|refine blk_alloc ?_ _));refine bp_ (cs:=#[.int .i64 ((rd_T25 l0_5 t147).f0),.bool ((rd_T25 l0_5 t147).f1),.string ((rd_T25 l0_5 t147).f2),.string ((rd_T25 l0_5 t147).f3),.slice A149_4 ((rd_T25 l0_5 t147).f4).length c149_4,.slice none 0 0]) ?_ 5 _;refine bp_ (cs:=#[.int .i64 ((rd_T25 l0_5 t147).f0),.bool ((rd_T25 l0_5 t147).f1),.string ((rd_T25 l0_5 t147).f2),.string ((rd_T25 l0_5 t147).f3),.slice none 0 0,.slice none 0 0]) ?_ 4 _;refine bp_ (cs:=#[.int .i64 ((rd_T25 l0_5 t147).f0),.bool ((rd_T25 l0_5 t147).f1),.string ((rd_T25 l0_5 t147).f2),.string (⟨#[]⟩ : ByteArray),.slice none 0 0,.slice none 0 0]) ?_ 3 _;refine bp_ (cs:=#[.int .i64 ((rd_T25 l0_5 t147).f0),.bool ((rd_T25 l0_5 t147).f1),.string (⟨#[]⟩ : ByteArray),.string (⟨#[]⟩ : ByteArray),.slice none 0 0,.slice none 0 0]) ?_ 2 _;refine bp_ (cs:=#[.int .i64 ((rd_T25 l0_5 t147).f0),.bool false,.string (⟨#[]⟩ : ByteArray),.string (⟨#[]⟩ : ByteArray),.slice none 0 0,.slice none 0 0]) ?_ 1 _;refine bp_ (cs:=#[.int .i64 0,.bool false,.string (⟨#[]⟩ : ByteArray),.string (⟨#[]⟩ : ByteArray),.slice none 0 0,.slice none 0 0]) ?_ 0 _;(with_reducible repeat (first|refine blk_drewN ?_ _|refine blk_drew ?_|refine blk_alloc ?_ _));exact BK146.out) Tryd.underlying25 rfl (by kernel_rfl)) rfl ?_
      exact ⟨_,_,er_,by (with_reducible repeat (first|apply Kd.V_alloc|apply Kd.V_drewN|apply Kd.V_drew));exact Kd.V_mono (vf6_ (g:=gb146) (Kd.V_mono HL149_4.out (fun k_ hk=>(⟨hk,hk.2⟩ : _ ∧ k_ ≠ gb146))) (fun _ hk=>hk.2)) (fun _ hk=>hk.1.1.1),by (with_reducible repeat (first|apply Kd.V_alloc|apply Kd.V_drewN|apply Kd.V_drew));exact Kd.V_mono (vf6_ (g:=gb146) (Kd.V_mono HL149_5.out (fun k_ hk=>(⟨hk,hk.2⟩ : _ ∧ k_ ≠ gb146))) (fun _ hk=>hk.2)) (fun _ hk=>hk.1.1.1),(hb_ HB)⟩
     ·rw [if_neg c13] at H
      exact absurd H (by simp)
    ·rw [if_neg c12] at H
     exact absurd H (by simp)
  ·replace c5:=Bool.eq_false_iff.mpr c5
   subst c5
   have H1 : (some (0,false,(⟨#[]⟩ : ByteArray),(⟨#[]⟩ : ByteArray),([] : List ByteArray),([] : List (S25)),false)) = some (r1,r2,r3,r4,r5,r6,r7):=by rw [if_neg (show ¬ (false = true) by decide)] at H;exact H
   clear H
   have H:=H1
   clear H1
   simp only [Option.some.injEq,Prod.mk.injEq] at H
   obtain ⟨rfl,rfl,rfl,rfl,rfl,rfl,rfl⟩:=H
   go_enter Tryd.func28,Tryd.ntmps28
   go_wp2_with (first|((with_reducible refine gate_dst (N:=2) rfl ?_);(try (refine gate_guard (by rfl) ?_;dsimp only));refine box_event ?hg (N:=2) ?hd (cs:=#[.int .i64 a0_0,.bool a0_1,.string a0_2,.string a0_3,.slice A0_4 l0_4.length c0_4,.slice A0_5 l0_5.length c0_5]) (t:=25) ?hr ?_;(case hd=>rfl);(case hg=>rfl);(case hr=>first|(go_simp;done)|(go_simp;rfl));intro gb145 hg w19 hbox hb;have n_:=J_ (Kd.V_below (Kd.V_elderB (vk_ HO0_5) gb145 (Nat.le_of_eq hg.symm)) hb) (J_ (below_step (hb_ HB) hb) (J_ (hbox) (J_ (bs_ hg HB) (Aside0.mk (bs_ hg HB)))));clear HO0_5 HB;obtain ⟨HO0_5,HB,BK145,GW145,GE145⟩:=n_;clear hb hbox hg)|((with_reducible refine gate_dst (N:=4) rfl ?_);(try (refine gate_guard (by rfl) ?_;dsimp only));refine box_event ?hg (N:=4) ?hd (cs:=#[.int .i64 0,.bool false,.string (⟨#[]⟩ : ByteArray),.string (⟨#[]⟩ : ByteArray),.slice none 0 0,.slice none 0 0]) (t:=25) ?hr ?_;(case hd=>rfl);(case hg=>rfl);(case hr=>first|(go_simp;done)|(go_simp;rfl));intro gb146 hg w20 hbox hb;have n_:=J_ (Kd.V_below (Kd.V_elderB (vk_ HO0_5) gb146 (Nat.le_of_eq hg.symm)) hb) (J_ (bkb_ BK145 hb) (J_ (below_step (hb_ HB) hb) (J_ (hbox) (J_ (bs_ hg HB) (J_ (bs_ hg HB) (J_ ((by rw [hg];exact Nat.ne_of_lt (bkl_ BK145) : gb145 ≠ gb146)) (Aside0.mk ((by rw [hg];exact Nat.ne_of_gt (bkl_ BK145) : gb146 ≠ gb145)))))))));clear HO0_5 BK145 HB;obtain ⟨HO0_5,BK145,HB,BK146,GW146,GE146,NB145_146,NB146_145⟩:=n_;clear hb hbox hg;have hnb21:=NB145_146.out;have hnc21:=NB146_145.out;obtain ⟨hcz22_0,hcz22_1,hcz22_2,hcz22_3,hcz22_4,hcz22_5,hfz22_0,hfz22_1,hfz22_2,hfz22_3,hfz22_4,hfz22_5⟩:=cf6_ BK145)|((with_reducible refine gate_callee (f:=44) rfl ?_);refine goesL_ (some 18) rfl rfl Tryd.func44 (by kernel_rfl) rfl #[.string a1] rfl am_ ?_;(with_reducible refine (pointer_Place.calls k a1 t147 false _ A4.out).mono ?_);rintro e w' ⟨rfl,⟨nd,rfl⟩⟩;refine ⟨_,rfl,?_⟩;obtain ⟨hcz23_0,hcz23_1,hcz23_2,hcz23_3,hcz23_4,hcz23_5,hfz23_0,hfz23_1,hfz23_2,hfz23_3,hfz23_4,hfz23_5⟩:=cf6_ BK146))
   refine bodyPost_ret (results_ct rfl _ _ gb146 25 #[.int .i64 0,.bool false,.string (⟨#[]⟩ : ByteArray),.string (⟨#[]⟩ : ByteArray),.slice none 0 0,.slice none 0 0] (0,0) _ rfl (by (with_reducible repeat (first|refine blk_drewN ?_ _|refine blk_drew ?_|refine blk_alloc ?_ _));refine bp_ (cs:=#[.int .i64 0,.bool false,.string (⟨#[]⟩ : ByteArray),.string (⟨#[]⟩ : ByteArray),.slice none 0 0,.slice none 0 0]) ?_ 5 _;refine bp_ (cs:=#[.int .i64 0,.bool false,.string (⟨#[]⟩ : ByteArray),.string (⟨#[]⟩ : ByteArray),.slice none 0 0,.slice none 0 0]) ?_ 4 _;refine bp_ (cs:=#[.int .i64 0,.bool false,.string (⟨#[]⟩ : ByteArray),.string (⟨#[]⟩ : ByteArray),.slice none 0 0,.slice none 0 0]) ?_ 3 _;refine bp_ (cs:=#[.int .i64 0,.bool false,.string (⟨#[]⟩ : ByteArray),.string (⟨#[]⟩ : ByteArray),.slice none 0 0,.slice none 0 0]) ?_ 2 _;refine bp_ (cs:=#[.int .i64 0,.bool false,.string (⟨#[]⟩ : ByteArray),.string (⟨#[]⟩ : ByteArray),.slice none 0 0,.slice none 0 0]) ?_ 1 _;refine bp_ (cs:=#[.int .i64 0,.bool false,.string (⟨#[]⟩ : ByteArray),.string (⟨#[]⟩ : ByteArray),.slice none 0 0,.slice none 0 0]) ?_ 0 _;(with_reducible repeat (first|refine blk_drewN ?_ _|refine blk_drew ?_|refine blk_alloc ?_ _));exact BK146.out) Tryd.underlying25 rfl (by kernel_rfl)) rfl ?_
   exact ⟨_,_,er_,Kd.V_nil _ _ _ _ _,Kd.V_nil _ _ _ _ _,(hb_ HB)⟩
 ·rw [if_neg c3] at H
  have c3b0 : (a0_0 == 5) = false:=beq_eq_false_iff_ne.mpr c3
  have c3b1 : (a0_0 != 5) = true:=bne_iff_ne.mpr c3
  replace H:=Option.bind_eq_some_iff.mp H
  obtain ⟨⟨t150,t151,t152,t153,t154,t157,t160⟩,A240,H⟩:=H
  replace H : (some (t150,t151,t152,t153,t154,t157,t160)) = some (r1,r2,r3,r4,r5,r6,r7):=H
  have A24:=Aside0.mk A240
  clear A240
  simp only [Option.some.injEq,Prod.mk.injEq] at H
  obtain ⟨rfl,rfl,rfl,rfl,rfl,rfl,rfl⟩:=H
  go_enter Tryd.func28,Tryd.ntmps28
  go_wp2_with (first|((with_reducible refine gate_dst (N:=2) rfl ?_);(try (refine gate_guard (by rfl) ?_;dsimp only));refine box_event ?hg (N:=2) ?hd (cs:=#[.int .i64 a0_0,.bool a0_1,.string a0_2,.string a0_3,.slice A0_4 l0_4.length c0_4,.slice A0_5 l0_5.length c0_5]) (t:=25) ?hr ?_;(case hd=>rfl);(case hg=>rfl);(case hr=>first|(go_simp;done)|(go_simp;rfl));intro gb145 hg w25 hbox hb;have n_:=J_ (Kd.V_below (Kd.V_elderB (vk_ HO0_5) gb145 (Nat.le_of_eq hg.symm)) hb) (J_ (below_step (hb_ HB) hb) (J_ (hbox) (J_ (bs_ hg HB) (Aside0.mk (bs_ hg HB)))));clear HO0_5 HB;obtain ⟨HO0_5,HB,BK145,GW145,GE145⟩:=n_;clear hb hbox hg)|((with_reducible refine gate_dst (N:=4) rfl ?_);(try (refine gate_guard (by rfl) ?_;dsimp only));refine box_event ?hg (N:=4) ?hd (cs:=#[.int .i64 0,.bool false,.string (⟨#[]⟩ : ByteArray),.string (⟨#[]⟩ : ByteArray),.slice none 0 0,.slice none 0 0]) (t:=25) ?hr ?_;(case hd=>rfl);(case hg=>rfl);(case hr=>first|(go_simp;done)|(go_simp;rfl));intro gb146 hg w26 hbox hb;have n_:=J_ (Kd.V_below (Kd.V_elderB (vk_ HO0_5) gb146 (Nat.le_of_eq hg.symm)) hb) (J_ (bkb_ BK145 hb) (J_ (below_step (hb_ HB) hb) (J_ (hbox) (J_ (bs_ hg HB) (J_ (bs_ hg HB) (J_ ((by rw [hg];exact Nat.ne_of_lt (bkl_ BK145) : gb145 ≠ gb146)) (Aside0.mk ((by rw [hg];exact Nat.ne_of_gt (bkl_ BK145) : gb146 ≠ gb145)))))))));clear HO0_5 BK145 HB;obtain ⟨HO0_5,BK145,HB,BK146,GW146,GE146,NB145_146,NB146_145⟩:=n_;clear hb hbox hg;have hnb27:=NB145_146.out;have hnc27:=NB146_145.out;obtain ⟨hcz28_0,hcz28_1,hcz28_2,hcz28_3,hcz28_4,hcz28_5,hfz28_0,hfz28_1,hfz28_2,hfz28_3,hfz28_4,hfz28_5⟩:=cf6_ BK145)|((with_reducible refine gate_callee (f:=43) rfl ?_);refine goesL_ (some 13) rfl rfl Tryd.func43 (by kernel_rfl) rfl #[.agg #[.int .i64 a0_0,.bool a0_1,.string a0_2,.string a0_3,.slice A0_4 l0_4.length c0_4,.slice A0_5 l0_5.length c0_5],.string a1] rfl am_ ?_;(with_reducible refine (tree_Member.calls k a0_0 a0_1 a0_2 a0_3 _ _ l0_4 _ _ l0_5 a1 t150 t151 t152 t153 t154 t157 t160 _ ?side1 ?side2 ?side3 ?side4 A24.out).mono ?_);(case side1=>repeat (first|exact (Kd.C_below HR0_4.out HB.out)|(with_reducible refine Kd.C_alloc ?_ _)|(with_reducible refine Kd.C_drewN ?_ _)|(with_reducible refine Kd.C_drew ?_)));(case side2=>exact HC0_4.out);(case side3=>repeat (first|exact (Kd.V_reads' HO0_5.out).2.2|(with_reducible refine Kd.C_alloc ?_ _)|(with_reducible refine Kd.C_drewN ?_ _)|(with_reducible refine Kd.C_drew ?_)));(case side4=>exact (Kd.V_reads' HO0_5.out).2.1);rintro e w29 ⟨v155,v158,rfl,ho0,ho1,hb⟩;refine ⟨_,rfl,?_⟩;have n_:=J_ (Kd.V_below (vk_ HO0_5) hb) (J_ (Kd.V_lower (Kd.V_mono (ok':=fun k_=>(P0_5_ k_ ∨ w.heap.size ≤ k_) ∧ k_ ≠ gb145 ∧ k_ ≠ gb146) ho0 (fun k_ hk_=>⟨(.inr (Nat.le_trans (below_size (hb_ HB)) hk_)),(Kd.freshB (g:=gb145) (o:=.cells #[.int .i64 a0_0,.bool a0_1,.string a0_2,.string a0_3,.slice A0_4 l0_4.length c0_4,.slice A0_5 l0_5.length c0_5] 25 (0,0)) (bk_ BK145) k_ hk_),(Kd.freshB (g:=gb146) (o:=.cells #[.int .i64 0,.bool false,.string (⟨#[]⟩ : ByteArray),.string (⟨#[]⟩ : ByteArray),.slice none 0 0,.slice none 0 0] 25 (0,0)) (bk_ BK146) k_ hk_)⟩)) (below_size (hb_ HB))) (J_ (Kd.V_lower (Kd.V_mono (ok':=fun k_=>(P0_5_ k_ ∨ w.heap.size ≤ k_) ∧ k_ ≠ gb145 ∧ k_ ≠ gb146) ho1 (fun k_ hk_=>⟨(.inr (Nat.le_trans (below_size (hb_ HB)) hk_)),(Kd.freshB (g:=gb145) (o:=.cells #[.int .i64 a0_0,.bool a0_1,.string a0_2,.string a0_3,.slice A0_4 l0_4.length c0_4,.slice A0_5 l0_5.length c0_5] 25 (0,0)) (bk_ BK145) k_ hk_),(Kd.freshB (g:=gb146) (o:=.cells #[.int .i64 0,.bool false,.string (⟨#[]⟩ : ByteArray),.string (⟨#[]⟩ : ByteArray),.slice none 0 0,.slice none 0 0] 25 (0,0)) (bk_ BK146) k_ hk_)⟩)) (below_size (hb_ HB))) (J_ (bkb_ BK145 hb) (J_ (bkb_ BK146 hb) (Aside0.mk (below_step (hb_ HB) hb))))));clear HO0_5 BK145 BK146 HB;obtain ⟨HO0_5,HO156,HO159,BK145,BK146,HB⟩:=n_;(try clear hb);(try clear hb2);(try clear hk);(try clear hi);(try clear ho0);(try clear ho1);obtain ⟨hcz30_0,hcz30_1,hcz30_2,hcz30_3,hcz30_4,hcz30_5,hfz30_0,hfz30_1,hfz30_2,hfz30_3,hfz30_4,hfz30_5⟩:=cf6_ BK146;obtain ⟨Ao31,co31,eo31⟩:=Kd.V_slice HO156.out;subst eo31;obtain ⟨Ao32,co32,eo32⟩:=Kd.V_slice HO159.out;subst eo32))
  refine bodyPost_ret (results_ct rfl _ _ gb146 25 #[.int .i64 t150,.bool t151,.string t152,.string t153,.slice Ao31 t154.length co31,.slice Ao32 t157.length co32] (0,0) _ rfl (by (with_reducible repeat (first|refine blk_drewN ?_ _|refine blk_drew ?_|refine blk_alloc ?_ _));refine bp_ (cs:=#[.int .i64 t150,.bool t151,.string t152,.string t153,.slice Ao31 t154.length co31,.slice none 0 0]) ?_ 5 _;refine bp_ (cs:=#[.int .i64 t150,.bool t151,.string t152,.string t153,.slice none 0 0,.slice none 0 0]) ?_ 4 _;refine bp_ (cs:=#[.int .i64 t150,.bool t151,.string t152,.string (⟨#[]⟩ : ByteArray),.slice none 0 0,.slice none 0 0]) ?_ 3 _;refine bp_ (cs:=#[.int .i64 t150,.bool t151,.string (⟨#[]⟩ : ByteArray),.string (⟨#[]⟩ : ByteArray),.slice none 0 0,.slice none 0 0]) ?_ 2 _;refine bp_ (cs:=#[.int .i64 t150,.bool false,.string (⟨#[]⟩ : ByteArray),.string (⟨#[]⟩ : ByteArray),.slice none 0 0,.slice none 0 0]) ?_ 1 _;refine bp_ (cs:=#[.int .i64 0,.bool false,.string (⟨#[]⟩ : ByteArray),.string (⟨#[]⟩ : ByteArray),.slice none 0 0,.slice none 0 0]) ?_ 0 _;(with_reducible repeat (first|refine blk_drewN ?_ _|refine blk_drew ?_|refine blk_alloc ?_ _));exact BK146.out) Tryd.underlying25 rfl (by kernel_rfl)) rfl ?_
  exact ⟨_,_,er_,by (with_reducible repeat (first|apply Kd.V_alloc|apply Kd.V_drewN|apply Kd.V_drew));exact Kd.V_mono (vf6_ (g:=gb146) (Kd.V_mono HO156.out (fun k_ hk=>(⟨hk,hk.2.2⟩ : _ ∧ k_ ≠ gb146))) (fun _ hk=>hk.2)) (fun _ hk=>hk.1.1),by (with_reducible repeat (first|apply Kd.V_alloc|apply Kd.V_drewN|apply Kd.V_drew));exact Kd.V_mono (vf6_ (g:=gb146) (Kd.V_mono HO159.out (fun k_ hk=>(⟨hk,hk.2.2⟩ : _ ∧ k_ ≠ gb146))) (fun _ hk=>hk.2)) (fun _ hk=>hk.1.1),(hb_ HB)⟩
def pointer_own.f (k : Nat) (a0_0 : Int) (a0_1 : Bool) (a0_2 : ByteArray) (a0_3 : ByteArray) (l0_4 : List ByteArray) (l0_5 : List (S25)) : Option (Int × Bool × ByteArray × ByteArray × List ByteArray × (List (S25))):=(tree_Member.f k 6 false (⟨#[]⟩ : ByteArray) (⟨#[]⟩ : ByteArray) (([(⟨#[]⟩ : ByteArray)] : List ByteArray)) (([(⟨a0_0,a0_1,a0_2,a0_3,l0_4,l0_5⟩ : S25)] : List (S25))) (⟨#[]⟩ : ByteArray)).bind fun bt169=>(some (bt169.1,bt169.2.1,bt169.2.2.1,bt169.2.2.2.1,bt169.2.2.2.2.1,bt169.2.2.2.2.2.1))
theorem pointer_own.mono : ∀ a0 a1 a2 a3 a4 a5 k,LeO (pointer_own.f k a0 a1 a2 a3 a4 a5) (pointer_own.f (k + 1) a0 a1 a2 a3 a4 a5):=by
 intro a0 a1 a2 a3 a4 a5 k
 unfold pointer_own.f
 repeat' first
   | (with_reducible exact tree_Member.mono _ _ _ _ _ _ _ _)
   | (with_reducible exact LeO.refl _)
   | (with_reducible exact LeO.none _)
   | (with_reducible refine LeO.ite ?_ ?_)
   | (with_reducible refine LeO.bind ?_ (fun _=>?_))
   | exact LeO.none _
   | refine LeO.ite ?_ ?_
   | refine LeO.bind ?_ (fun _=>?_)
set_option maxHeartbeats 8000000 in
set_option maxRecDepth 100000 in
theorem pointer_own.calls (k : Nat) (a0_0 : Int) (a0_1 : Bool) (a0_2 : ByteArray) (a0_3 : ByteArray) (P0_4_ : Nat → Prop) (A0_4 : Option Addr) (c0_4 : Nat) (l0_4 : List ByteArray) (P0_5_ : Nat → Prop) (A0_5 : Option Addr) (c0_5 : Nat) (l0_5 : List (S25)) (r1 : Int) (r2 : Bool) (r3 : ByteArray) (r4 : ByteArray) (r5 : List ByteArray) (r6 : List (S25)) (w : World) (hs0_4 : Kd.V Kd.string 9 w w.heap.size (fun k_=>P0_4_ k_) (.slice A0_4 l0_4.length c0_4) l0_4) (hs0_5 : Kd.V k25 25 w w.heap.size (fun k_=>P0_5_ k_) (.slice A0_5 l0_5.length c0_5) l0_5) (h : pointer_own.f k a0_0 a0_1 a0_2 a0_3 l0_4 l0_5 = some (r1,r2,r3,r4,r5,r6)) :
  Calls Tryd.prog 29 #[.agg #[.int .i64 a0_0,.bool a0_1,.string a0_2,.string a0_3,.slice A0_4 l0_4.length c0_4,.slice A0_5 l0_5.length c0_5]] w fun e w'=>∃ v4_ v5_ : Value,e = .returned (.agg #[.int .i64 r1,.bool r2,.string r3,.string r4,v4_,v5_]) ∧ Kd.V Kd.string 9 w' w.heap.size (fun k_=>((P0_4_ k_ ∨ P0_5_ k_) ∨ w.heap.size ≤ k_)) v4_ r5 ∧ Kd.V k25 25 w' w.heap.size (fun k_=>((P0_4_ k_ ∨ P0_5_ k_) ∨ w.heap.size ≤ k_)) v5_ r6 ∧ Below w.heap.size w w':=by
 have hu25:=Tryd.underlying25
 have HO0_4:=Aside0.mk (show Kd.V Kd.string 9 w w.heap.size (fun k_=>((P0_4_ k_ ∨ P0_5_ k_) ∨ w.heap.size ≤ k_)) (.slice A0_4 l0_4.length c0_4) l0_4 from Kd.V_mono hs0_4 (fun k_ hk=>.inl (.inl hk)))
 have HO0_5:=Aside0.mk (show Kd.V k25 25 w w.heap.size (fun k_=>((P0_4_ k_ ∨ P0_5_ k_) ∨ w.heap.size ≤ k_)) (.slice A0_5 l0_5.length c0_5) l0_5 from Kd.V_mono hs0_5 (fun k_ hk=>.inl (.inr hk)))
 have HB:=Aside0.mk (Below.refl w.heap.size w)
 have H : ((tree_Member.f k 6 false (⟨#[]⟩ : ByteArray) (⟨#[]⟩ : ByteArray) (([(⟨#[]⟩ : ByteArray)] : List ByteArray)) (([(⟨a0_0,a0_1,a0_2,a0_3,l0_4,l0_5⟩ : S25)] : List (S25))) (⟨#[]⟩ : ByteArray)).bind fun bt169=>(some (bt169.1,bt169.2.1,bt169.2.2.1,bt169.2.2.2.1,bt169.2.2.2.2.1,bt169.2.2.2.2.2.1))) = some (r1,r2,r3,r4,r5,r6):=h
 clear h
 obtain ⟨y163,hy163⟩ : ∃ y_ : List ByteArray,y_ = (([(⟨#[]⟩ : ByteArray)] : List ByteArray)):=⟨_,rfl⟩
 replace H : ((tree_Member.f k 6 false (⟨#[]⟩ : ByteArray) (⟨#[]⟩ : ByteArray) y163 (([(⟨a0_0,a0_1,a0_2,a0_3,l0_4,l0_5⟩ : S25)] : List (S25))) (⟨#[]⟩ : ByteArray)).bind fun bt169=>(some (bt169.1,bt169.2.1,bt169.2.2.1,bt169.2.2.2.1,bt169.2.2.2.2.1,bt169.2.2.2.2.2.1))) = some (r1,r2,r3,r4,r5,r6):=by first|(rw [hy163];with_reducible exact H)|(have H2_:=(Option.bind_some _ _).symm.trans H;rw [hy163];with_reducible exact H2_)|(have H2_:=(Option.bind_some _ _).symm.trans H;with_reducible exact H2_)|with_reducible exact H|(rw [hy163];exact H)|exact H
 have Ny163:=Aside0.mk hy163
 clear hy163
 obtain ⟨y166,hy166⟩ : ∃ y_ : List (S25),y_ = (([(⟨a0_0,a0_1,a0_2,a0_3,l0_4,l0_5⟩ : S25)] : List (S25))):=⟨_,rfl⟩
 replace H : ((tree_Member.f k 6 false (⟨#[]⟩ : ByteArray) (⟨#[]⟩ : ByteArray) y163 y166 (⟨#[]⟩ : ByteArray)).bind fun bt169=>(some (bt169.1,bt169.2.1,bt169.2.2.1,bt169.2.2.2.1,bt169.2.2.2.2.1,bt169.2.2.2.2.2.1))) = some (r1,r2,r3,r4,r5,r6):=by first|(rw [hy166];with_reducible exact H)|(have H2_:=(Option.bind_some _ _).symm.trans H;rw [hy166];with_reducible exact H2_)|(have H2_:=(Option.bind_some _ _).symm.trans H;with_reducible exact H2_)|with_reducible exact H|(rw [hy166];exact H)|exact H
 have Ny166:=Aside0.mk hy166
 clear hy166
 replace H:=Option.bind_eq_some_iff.mp H
 obtain ⟨⟨t169,t170,t171,t172,t173,t176,t179⟩,A20,H⟩:=H
 replace H : (some (t169,t170,t171,t172,t173,t176)) = some (r1,r2,r3,r4,r5,r6):=H
 have A2:=Aside0.mk A20
 clear A20
 simp only [Option.some.injEq,Prod.mk.injEq] at H
 obtain ⟨rfl,rfl,rfl,rfl,rfl,rfl⟩:=H
 go_enter Tryd.func29,Tryd.ntmps29
 go_wp2_with (first|((with_reducible refine gate_dst (N:=1) rfl ?_);refine box_event ?hg (N:=1) ?hd (cs:=#[.int .i64 a0_0,.bool a0_1,.string a0_2,.string a0_3,.slice A0_4 l0_4.length c0_4,.slice A0_5 l0_5.length c0_5]) (t:=25) ?hr ?_;(case hd=>rfl);(case hg=>rfl);(case hr=>first|(go_simp;done)|(go_simp;rfl));intro gb161 hg w3 hbox hb;have n_:=J_ (Kd.V_below (Kd.V_elderB (vk_ HO0_4) gb161 (Nat.le_of_eq hg.symm)) hb) (J_ (Kd.V_below (Kd.V_elderB (vk_ HO0_5) gb161 (Nat.le_of_eq hg.symm)) hb) (J_ (below_step (hb_ HB) hb) (J_ (hbox) (J_ (bs_ hg HB) (Aside0.mk (bs_ hg HB))))));clear HO0_4 HO0_5 HB;obtain ⟨HO0_4,HO0_5,HB,BK161,GW161,GE161⟩:=n_;clear hb hbox hg)|((with_reducible refine gate_dst (N:=2) rfl ?_);refine box_event ?hg (N:=2) ?hd (cs:=#[.int .i64 0,.bool false,.string (⟨#[]⟩ : ByteArray),.string (⟨#[]⟩ : ByteArray),.slice none 0 0,.slice none 0 0]) (t:=25) ?hr ?_;(case hd=>rfl);(case hg=>rfl);(case hr=>first|(go_simp;done)|(go_simp;rfl));intro gb162 hg w4 hbox hb;have n_:=J_ (Kd.V_below (Kd.V_elderB (vk_ HO0_4) gb162 (Nat.le_of_eq hg.symm)) hb) (J_ (Kd.V_below (Kd.V_elderB (vk_ HO0_5) gb162 (Nat.le_of_eq hg.symm)) hb) (J_ (bkb_ BK161 hb) (J_ (below_step (hb_ HB) hb) (J_ (hbox) (J_ (bs_ hg HB) (J_ (bs_ hg HB) (J_ ((by rw [hg];exact Nat.ne_of_lt (bkl_ BK161) : gb161 ≠ gb162)) (Aside0.mk ((by rw [hg];exact Nat.ne_of_gt (bkl_ BK161) : gb162 ≠ gb161))))))))));clear HO0_4 HO0_5 BK161 HB;obtain ⟨HO0_4,HO0_5,BK161,HB,BK162,GW162,GE162,NB161_162,NB162_161⟩:=n_;clear hb hbox hg)|((with_reducible refine gate_dst (N:=6) rfl ?_);refine Kd.R_lit Kd.string _ 9 ?hg (N:=6) ?hd (xs:=([(⟨#[]⟩ : ByteArray)] : List ByteArray)) (inner:=[.string (⟨#[]⟩ : ByteArray)]) (ok:=fun _=>True) (okp:=fun _=>True) ?hr ?hp (fun _ hk=>hk) trivial (Below.refl _ _) (Nat.le_refl _) (by simp) ?_;(case hd=>rfl);(case hg=>rfl);(case hr=>first|(go_simp;done)|(go_simp;rfl));(case hp=>exact (Reps.one (show Kd.M Kd.string _ _ _ (⟨#[]⟩ : ByteArray) [.string (⟨#[]⟩ : ByteArray)] from rfl) (Reps.none _ _)));intro v164 w5 ho6 hb hg_ hnew_;clear hg_ hnew_;(first|rw [← Ny163.out] at ho6|(simp only [Int.reduceToNat] at ho6;rw [← Ny163.out] at ho6));have n_:=J_ (Kd.V_elder' (vk_ HO0_4) (Kd.R_base ho6) hb) (J_ (Kd.V_elder' (vk_ HO0_5) (Kd.R_base ho6) hb) (J_ (Kd.R_lower (Kd.R_newM (M:=fun k_=>(w.heap.size ≤ k_)) ho6 (below_size (hb_ HB)) (fun k_ h_=>h_)) (below_size (hb_ HB))) (J_ (bkb_ BK161 hb) (J_ (bkb_ BK162 hb) (Aside0.mk (below_step (hb_ HB) hb))))));clear HO0_4 HO0_5 BK161 BK162 HB;obtain ⟨HO0_4,HO0_5,HO165,BK161,BK162,HB⟩:=n_;clear hb ho6;have hnb7:=NB161_162.out;have hnc7:=NB162_161.out;obtain ⟨hcz8_0,hcz8_1,hcz8_2,hcz8_3,hcz8_4,hcz8_5,hfz8_0,hfz8_1,hfz8_2,hfz8_3,hfz8_4,hfz8_5⟩:=cf6_ BK161)|((with_reducible refine gate_dst (N:=8) rfl ?_);refine Kd.N_lit k25 _ 25 ?hg (N':=8) ?hd (xs:=([(⟨a0_0,a0_1,a0_2,a0_3,l0_4,l0_5⟩ : S25)] : List (S25))) (inner:=[.int .i64 a0_0,.bool a0_1,.string a0_2,.string a0_3,.slice A0_4 l0_4.length c0_4,.slice A0_5 l0_5.length c0_5]) (ok:=(fun k_=>((P0_4_ k_ ∨ P0_5_ k_) ∨ w.heap.size ≤ k_) ∧ some k_ ≠ (v164 : Value).ownBlock ∧ k_ ≠ gb161 ∧ k_ ≠ gb162)) (okp:=(fun k_=>((P0_4_ k_ ∨ P0_5_ k_) ∨ w.heap.size ≤ k_) ∧ some k_ ≠ (v164 : Value).ownBlock ∧ k_ ≠ gb161 ∧ k_ ≠ gb162)) ?hr ?hp (fun _ hk=>hk) ((show ∀ k_,w5.heap.size ≤ k_ → (fun k_=>((P0_4_ k_ ∨ P0_5_ k_) ∨ w.heap.size ≤ k_) ∧ some k_ ≠ (v164 : Value).ownBlock ∧ k_ ≠ gb161 ∧ k_ ≠ gb162) k_ from fun k_ hk=>⟨(.inr (Nat.le_trans (below_size (hb_ HB)) hk)),Kd.fresh' (Kd.R_lt (rk_ HO165)) k_ hk,Kd.freshB (g:=gb161) (o:=.cells #[.int .i64 a0_0,.bool a0_1,.string a0_2,.string a0_3,.slice A0_4 l0_4.length c0_4,.slice A0_5 l0_5.length c0_5] 25 (0,0)) (bk_ BK161) k_ hk,Kd.freshB (g:=gb162) (o:=.cells #[.int .i64 0,.bool false,.string (⟨#[]⟩ : ByteArray),.string (⟨#[]⟩ : ByteArray),.slice none 0 0,.slice none 0 0] 25 (0,0)) (bk_ BK162) k_ hk⟩) _ (Nat.le_refl _)) (Below.refl _ _) (Nat.le_refl _) (by simp) ?_;(case hd=>rfl);(case hg=>rfl);(case hr=>first|(go_simp;done)|(go_simp;rfl));(case hp=>exact (Reps.c6 (show Kd.FK k25 _ _ (⟨a0_0,a0_1,a0_2,a0_3,l0_4,l0_5⟩ : S25) [.int .i64 a0_0,.bool a0_1,.string a0_2,.string a0_3,.slice A0_4 l0_4.length c0_4,.slice A0_5 l0_5.length c0_5] from (k25_mkF _ _ (⟨a0_0,a0_1,a0_2,a0_3,l0_4,l0_5⟩ : S25) (Kd.V_reads' (Kd.V_mono (ok':=(fun k_=>((P0_4_ k_ ∨ P0_5_ k_) ∨ w.heap.size ≤ k_) ∧ some k_ ≠ (v164 : Value).ownBlock ∧ k_ ≠ gb161 ∧ k_ ≠ gb162)) (HO0_4.out) (fun k_ hk=>⟨hk.1.1.1,⟨hk.2,⟨hk.1.1.2,hk.1.2⟩⟩⟩))).2.1 (Kd.V_F (Kd.V_mono (ok':=(fun k_=>((P0_4_ k_ ∨ P0_5_ k_) ∨ w.heap.size ≤ k_) ∧ some k_ ≠ (v164 : Value).ownBlock ∧ k_ ≠ gb161 ∧ k_ ≠ gb162)) (HO0_4.out) (fun k_ hk=>⟨hk.1.1.1,⟨hk.2,⟨hk.1.1.2,hk.1.2⟩⟩⟩))) (Kd.V_reads' (Kd.V_mono (ok':=(fun k_=>((P0_4_ k_ ∨ P0_5_ k_) ∨ w.heap.size ≤ k_) ∧ some k_ ≠ (v164 : Value).ownBlock ∧ k_ ≠ gb161 ∧ k_ ≠ gb162)) (HO0_5.out) (fun k_ hk=>⟨hk.1.1.1,⟨hk.2,⟨hk.1.1.2,hk.1.2⟩⟩⟩))).2.1 (Kd.V_F (Kd.V_mono (ok':=(fun k_=>((P0_4_ k_ ∨ P0_5_ k_) ∨ w.heap.size ≤ k_) ∧ some k_ ≠ (v164 : Value).ownBlock ∧ k_ ≠ gb161 ∧ k_ ≠ gb162)) (HO0_5.out) (fun k_ hk=>⟨hk.1.1.1,⟨hk.2,⟨hk.1.1.2,hk.1.2⟩⟩⟩))))) (Reps.none _ _)));intro v167 w9 ho10 hb hg_ hnew_;clear hg_ hnew_;(first|rw [← Ny166.out] at ho10|(simp only [Int.reduceToNat] at ho10;rw [← Ny166.out] at ho10));have n_:=J_ (Kd.V_elder' (vk_ HO0_4) (Kd.N_base ho10) hb) (J_ (Kd.V_elder' (vk_ HO0_5) (Kd.N_base ho10) hb) (J_ (Kd.R_below (rk_ HO165) hb) (J_ (Kd.N_lower ho10 (below_size (hb_ HB))) (J_ (bkb_ BK161 hb) (J_ (bkb_ BK162 hb) (Aside0.mk (below_step (hb_ HB) hb)))))));clear HO0_4 HO0_5 HO165 BK161 BK162 HB;obtain ⟨HO0_4,HO0_5,HO165,HO168,BK161,BK162,HB⟩:=n_;clear hb ho10;obtain ⟨Ao11,co11,eo11⟩:=Kd.N_slice HO168.out;subst eo11;obtain ⟨Ao12,co12,eo12⟩:=Kd.R_slice HO165.out;subst eo12)|((with_reducible refine gate_callee (f:=43) rfl ?_);refine goesL_ (some 10) rfl rfl Tryd.func43 (by kernel_rfl) rfl #[.agg #[.int .i64 6,.bool false,.string (⟨#[]⟩ : ByteArray),.string (⟨#[]⟩ : ByteArray),.slice Ao12 y163.length co12,.slice Ao11 y166.length co11],.string (⟨#[]⟩ : ByteArray)] rfl am_ ?_;(with_reducible refine (tree_Member.calls k 6 false (⟨#[]⟩ : ByteArray) (⟨#[]⟩ : ByteArray) _ _ y163 _ _ y166 (⟨#[]⟩ : ByteArray) t169 t170 t171 t172 t173 t176 t179 _ ?side1 ?side2 ?side3 ?side4 A2.out).mono ?_);(case side1=>repeat (first|exact (Kd.R_reads' HO165.out).2.2|(with_reducible refine Kd.C_alloc ?_ _)|(with_reducible refine Kd.C_drewN ?_ _)|(with_reducible refine Kd.C_drew ?_)));(case side2=>exact (Kd.R_reads' HO165.out).2.1);(case side3=>repeat (first|exact (Kd.N_reads' HO168.out).2.2|(with_reducible refine Kd.C_alloc ?_ _)|(with_reducible refine Kd.C_drewN ?_ _)|(with_reducible refine Kd.C_drew ?_)));(case side4=>exact (Kd.N_reads' HO168.out).2.1);rintro e w13 ⟨v174,v177,rfl,ho0,ho1,hb⟩;refine ⟨_,rfl,?_⟩;have n_:=J_ (Kd.V_below (vk_ HO0_4) hb) (J_ (Kd.V_below (vk_ HO0_5) hb) (J_ (Kd.R_below (rk_ HO165) hb) (J_ (Kd.N_below (by (with_reducible repeat (first|apply Kd.N_alloc|apply Kd.N_drewN|apply Kd.N_drew));exact HO168.out) hb) (J_ (Kd.V_lower (Kd.V_mono (ok':=fun k_=>((P0_4_ k_ ∨ P0_5_ k_) ∨ w.heap.size ≤ k_) ∧ some k_ ≠ (.slice Ao12 y163.length co12 : Value).ownBlock ∧ some k_ ≠ (.slice Ao11 y166.length co11 : Value).ownBlock ∧ k_ ≠ gb161 ∧ k_ ≠ gb162) ho0 (fun k_ hk_=>⟨(.inr (Nat.le_trans (below_size (hb_ HB)) hk_)),(Kd.fresh' (Kd.R_lt (rk_ HO165)) k_ hk_),(Kd.fresh' (Kd.N_lt (by (with_reducible repeat (first|apply Kd.N_alloc|apply Kd.N_drewN|apply Kd.N_drew));exact HO168.out)) k_ hk_),(Kd.freshB (g:=gb161) (o:=.cells #[.int .i64 a0_0,.bool a0_1,.string a0_2,.string a0_3,.slice A0_4 l0_4.length c0_4,.slice A0_5 l0_5.length c0_5] 25 (0,0)) (bk_ BK161) k_ hk_),(Kd.freshB (g:=gb162) (o:=.cells #[.int .i64 0,.bool false,.string (⟨#[]⟩ : ByteArray),.string (⟨#[]⟩ : ByteArray),.slice none 0 0,.slice none 0 0] 25 (0,0)) (bk_ BK162) k_ hk_)⟩)) (below_size (hb_ HB))) (J_ (Kd.V_lower (Kd.V_mono (ok':=fun k_=>((P0_4_ k_ ∨ P0_5_ k_) ∨ w.heap.size ≤ k_) ∧ some k_ ≠ (.slice Ao12 y163.length co12 : Value).ownBlock ∧ some k_ ≠ (.slice Ao11 y166.length co11 : Value).ownBlock ∧ k_ ≠ gb161 ∧ k_ ≠ gb162) ho1 (fun k_ hk_=>⟨(.inr (Nat.le_trans (below_size (hb_ HB)) hk_)),(Kd.fresh' (Kd.R_lt (rk_ HO165)) k_ hk_),(Kd.fresh' (Kd.N_lt (by (with_reducible repeat (first|apply Kd.N_alloc|apply Kd.N_drewN|apply Kd.N_drew));exact HO168.out)) k_ hk_),(Kd.freshB (g:=gb161) (o:=.cells #[.int .i64 a0_0,.bool a0_1,.string a0_2,.string a0_3,.slice A0_4 l0_4.length c0_4,.slice A0_5 l0_5.length c0_5] 25 (0,0)) (bk_ BK161) k_ hk_),(Kd.freshB (g:=gb162) (o:=.cells #[.int .i64 0,.bool false,.string (⟨#[]⟩ : ByteArray),.string (⟨#[]⟩ : ByteArray),.slice none 0 0,.slice none 0 0] 25 (0,0)) (bk_ BK162) k_ hk_)⟩)) (below_size (hb_ HB))) (J_ (bkb_ BK161 hb) (J_ (bkb_ BK162 hb) (Aside0.mk (below_step (hb_ HB) hb)))))))));clear HO0_4 HO0_5 HO165 HO168 BK161 BK162 HB;obtain ⟨HO0_4,HO0_5,HO165,HO168,HO175,HO178,BK161,BK162,HB⟩:=n_;(try clear hb);(try clear hb2);(try clear hk);(try clear hi);(try clear ho0);(try clear ho1))|((with_reducible refine gate_dst (N:=3) rfl ?_);refine box_event ?hg (N:=3) ?hd (cs:=#[.int .i64 0,.bool false,.string (⟨#[]⟩ : ByteArray),.string (⟨#[]⟩ : ByteArray),.slice none 0 0,.slice none 0 0]) (t:=25) ?hr ?_;(case hd=>rfl);(case hg=>rfl);(case hr=>first|(go_simp;done)|(go_simp;rfl));intro gb180 hg w14 hbox hb;have n_:=J_ (Kd.V_below (Kd.V_elderB (vk_ HO0_4) gb180 (Nat.le_of_eq hg.symm)) hb) (J_ (Kd.V_below (Kd.V_elderB (vk_ HO0_5) gb180 (Nat.le_of_eq hg.symm)) hb) (J_ (Kd.R_below (rk_ HO165) hb) (J_ (Kd.N_below (Kd.N_elderB (by (with_reducible repeat (first|apply Kd.N_alloc|apply Kd.N_drewN|apply Kd.N_drew));exact HO168.out) gb180 (Nat.le_of_eq hg.symm)) hb) (J_ (Kd.V_below (Kd.V_elderB (vk_ HO175) gb180 (Nat.le_of_eq hg.symm)) hb) (J_ (Kd.V_below (Kd.V_elderB (vk_ HO178) gb180 (Nat.le_of_eq hg.symm)) hb) (J_ (bkb_ BK161 hb) (J_ (bkb_ BK162 hb) (J_ (below_step (hb_ HB) hb) (J_ (hbox) (J_ (bs_ hg HB) (J_ (bs_ hg HB) (J_ ((by rw [hg];exact Nat.ne_of_lt (bkl_ BK161) : gb161 ≠ gb180)) (J_ ((by rw [hg];exact Nat.ne_of_gt (bkl_ BK161) : gb180 ≠ gb161)) (J_ ((by rw [hg];exact Nat.ne_of_lt (bkl_ BK162) : gb162 ≠ gb180)) (Aside0.mk ((by rw [hg];exact Nat.ne_of_gt (bkl_ BK162) : gb180 ≠ gb162)))))))))))))))));clear HO0_4 HO0_5 HO165 HO168 HO175 HO178 BK161 BK162 HB;obtain ⟨HO0_4,HO0_5,HO165,HO168,HO175,HO178,BK161,BK162,HB,BK180,GW180,GE180,NB161_180,NB180_161,NB162_180,NB180_162⟩:=n_;clear hb hbox hg;have hnb15:=NB180_161.out;have hnc15:=NB161_180.out;have hnb16:=NB180_162.out;have hnc16:=NB162_180.out;obtain ⟨hcz17_0,hcz17_1,hcz17_2,hcz17_3,hcz17_4,hcz17_5,hfz17_0,hfz17_1,hfz17_2,hfz17_3,hfz17_4,hfz17_5⟩:=cf6_ BK180;obtain ⟨Ao18,co18,eo18⟩:=Kd.V_slice HO175.out;subst eo18;obtain ⟨Ao19,co19,eo19⟩:=Kd.V_slice HO178.out;subst eo19;obtain ⟨hcz20_0,hcz20_1,hcz20_2,hcz20_3,hcz20_4,hcz20_5,hfz20_0,hfz20_1,hfz20_2,hfz20_3,hfz20_4,hfz20_5⟩:=cf6_ BK162))
 refine bodyPost_ret (results_cell_row rfl _ _ gb162 25 #[.int .i64 t169,.bool t170,.string t171,.string t172,.slice Ao18 t173.length co18,.slice Ao19 t176.length co19] (0,0) _ rfl (by (with_reducible repeat (first|refine blk_drewN ?_ _|refine blk_drew ?_|refine blk_alloc ?_ _));refine bp_ (cs:=#[.int .i64 t169,.bool t170,.string t171,.string t172,.slice Ao18 t173.length co18,.slice none 0 0]) ?_ 5 _;refine bp_ (cs:=#[.int .i64 t169,.bool t170,.string t171,.string t172,.slice none 0 0,.slice none 0 0]) ?_ 4 _;refine bp_ (cs:=#[.int .i64 t169,.bool t170,.string t171,.string (⟨#[]⟩ : ByteArray),.slice none 0 0,.slice none 0 0]) ?_ 3 _;refine bp_ (cs:=#[.int .i64 t169,.bool t170,.string (⟨#[]⟩ : ByteArray),.string (⟨#[]⟩ : ByteArray),.slice none 0 0,.slice none 0 0]) ?_ 2 _;refine bp_ (cs:=#[.int .i64 t169,.bool false,.string (⟨#[]⟩ : ByteArray),.string (⟨#[]⟩ : ByteArray),.slice none 0 0,.slice none 0 0]) ?_ 1 _;refine bp_ (cs:=#[.int .i64 0,.bool false,.string (⟨#[]⟩ : ByteArray),.string (⟨#[]⟩ : ByteArray),.slice none 0 0,.slice none 0 0]) ?_ 0 _;(with_reducible repeat (first|refine blk_drewN ?_ _|refine blk_drew ?_|refine blk_alloc ?_ _));refine blk_far ?_ NB162_180.out _;(with_reducible repeat (first|refine blk_drewN ?_ _|refine blk_drew ?_|refine blk_alloc ?_ _));refine blk_far ?_ NB162_180.out _;(with_reducible repeat (first|refine blk_drewN ?_ _|refine blk_drew ?_|refine blk_alloc ?_ _));refine blk_far ?_ NB162_180.out _;(with_reducible repeat (first|refine blk_drewN ?_ _|refine blk_drew ?_|refine blk_alloc ?_ _));refine blk_far ?_ NB162_180.out _;(with_reducible repeat (first|refine blk_drewN ?_ _|refine blk_drew ?_|refine blk_alloc ?_ _));refine blk_far ?_ NB162_180.out _;(with_reducible repeat (first|refine blk_drewN ?_ _|refine blk_drew ?_|refine blk_alloc ?_ _));refine blk_far ?_ NB162_180.out _;(with_reducible repeat (first|refine blk_drewN ?_ _|refine blk_drew ?_|refine blk_alloc ?_ _));exact BK162.out) Tryd.underlying25 rfl (by kernel_rfl)) rfl ?_
 exact ⟨_,_,er_,by (with_reducible repeat (first|apply Kd.V_alloc|apply Kd.V_drewN|apply Kd.V_drew));exact Kd.V_mono (vf6_ (g:=gb162) (vf6_ (g:=gb180) (Kd.V_mono (Kd.V_mono HO175.out (fun k_ hk=>(⟨hk,hk.2⟩ : _ ∧ k_ ≠ gb180))) (fun k_ hk=>(⟨hk,hk.1.1.2.2.2.2⟩ : _ ∧ k_ ≠ gb162))) (fun _ hk=>hk.1.2)) (fun _ hk=>hk.2)) (fun _ hk=>hk.1.1.1.1),by (with_reducible repeat (first|apply Kd.V_alloc|apply Kd.V_drewN|apply Kd.V_drew));exact Kd.V_mono (vf6_ (g:=gb162) (vf6_ (g:=gb180) (Kd.V_mono (Kd.V_mono HO178.out (fun k_ hk=>(⟨hk,hk.2⟩ : _ ∧ k_ ≠ gb180))) (fun k_ hk=>(⟨hk,hk.1.1.2.2.2.2⟩ : _ ∧ k_ ≠ gb162))) (fun _ hk=>hk.1.2)) (fun _ hk=>hk.2)) (fun _ hk=>hk.1.1.1.1),(hb_ HB)⟩
def pointer_Find.l0 : Nat → List ByteArray → Int → Int → Int → Bool → ByteArray → ByteArray → List ByteArray → List (S25) → Option (Int × Bool × ByteArray × ByteArray × List ByteArray × (List (S25)) × Bool × Int)
 | 0,_,_,_,_,_,_,_,_,_=>none
 | k + 1,x26,x27,x28,x182000,x182001,x182002,x182003,x182004,x182005=>if x28 < x27 then (if 0 ≤ x28 then (if x28 < (x26.length : Int) then ((pointer_step.f k x182000 x182001 x182002 x182003 x182004 x182005 (rdOf ByteArray.empty x26 x28)).bind fun bt189=>(if bt189.2.2.2.2.2.2 = true then (pointer_Find.l0 k x26 x27 (wrap64 (x28 + 1)) bt189.1 bt189.2.1 bt189.2.2.1 bt189.2.2.2.1 bt189.2.2.2.2.1 bt189.2.2.2.2.2.1) else (some (0,false,(⟨#[]⟩ : ByteArray),(⟨#[]⟩ : ByteArray),([] : List ByteArray),([] : List (S25)),false,0)))) else (none)) else (none)) else ((pointer_own.f k x182000 x182001 x182002 x182003 x182004 x182005).bind fun bt201=>(some (bt201.1,bt201.2.1,bt201.2.2.1,bt201.2.2.2.1,bt201.2.2.2.2.1,bt201.2.2.2.2.2,true,0)))
def pointer_Find.f (k : Nat) (a0_0 : Int) (a0_1 : Bool) (a0_2 : ByteArray) (a0_3 : ByteArray) (l0_4 : List ByteArray) (l0_5 : List (S25)) (a1 : ByteArray) : Option (Int × Bool × ByteArray × ByteArray × List ByteArray × (List (S25)) × Bool × Int):=(tree_Formed.f k a0_0 a0_1 a0_2 a0_3 l0_4 l0_5).bind fun t183=>(if t183 = true then ((pointer_Parse.f a1).bind fun bt184=>(if bt184.2 = 0 then (pointer_Find.l0 k bt184.1 (bt184.1.length : Int) 0 a0_0 a0_1 a0_2 a0_3 l0_4 l0_5) else (some (0,false,(⟨#[]⟩ : ByteArray),(⟨#[]⟩ : ByteArray),([] : List ByteArray),([] : List (S25)),false,bt184.2)))) else (some (0,false,(⟨#[]⟩ : ByteArray),(⟨#[]⟩ : ByteArray),([] : List ByteArray),([] : List (S25)),false,1)))
theorem pointer_Find.mono_l : ∀ k,(∀ y0 y1 y2 y3 y4 y5 y6 y7 y8,LeO (pointer_Find.l0 k y0 y1 y2 y3 y4 y5 y6 y7 y8) (pointer_Find.l0 (k + 1) y0 y1 y2 y3 y4 y5 y6 y7 y8))
 | 0=>fun _ _ _ _ _ _ _ _ _ r h=>by simp [pointer_Find.l0] at h
 | k + 1=>by
  have ih0:=pointer_Find.mono_l k
  ·intro y0 y1 y2 y3 y4 y5 y6 y7 y8
   unfold pointer_Find.l0
   repeat' first
   | (with_reducible exact ih0 _ _ _ _ _ _ _ _ _)
   | (with_reducible exact pointer_own.mono _ _ _ _ _ _ _)
   | (with_reducible exact pointer_step.mono _ _ _ _ _ _ _ _)
   | (with_reducible exact tree_Formed.mono _ _ _ _ _ _ _)
   | (with_reducible exact LeO.refl _)
   | (with_reducible exact LeO.none _)
   | (with_reducible refine LeO.ite ?_ ?_)
   | (with_reducible refine LeO.bind ?_ (fun _=>?_))
   | exact ih0 _ _ _ _ _ _ _ _ _
   | exact LeO.none _
   | refine LeO.ite ?_ ?_
   | refine LeO.bind ?_ (fun _=>?_)
theorem pointer_Find.mono : ∀ a0 a1 a2 a3 a4 a5 a6 k,LeO (pointer_Find.f k a0 a1 a2 a3 a4 a5 a6) (pointer_Find.f (k + 1) a0 a1 a2 a3 a4 a5 a6):=by
 intro a0 a1 a2 a3 a4 a5 a6 k
 have ih0:=pointer_Find.mono_l k
 unfold pointer_Find.f
 repeat' first
   | (with_reducible exact ih0 _ _ _ _ _ _ _ _ _)
   | (with_reducible exact pointer_own.mono _ _ _ _ _ _ _)
   | (with_reducible exact pointer_step.mono _ _ _ _ _ _ _ _)
   | (with_reducible exact tree_Formed.mono _ _ _ _ _ _ _)
   | (with_reducible exact LeO.refl _)
   | (with_reducible exact LeO.none _)
   | (with_reducible refine LeO.ite ?_ ?_)
   | (with_reducible refine LeO.bind ?_ (fun _=>?_))
   | exact ih0 _ _ _ _ _ _ _ _ _
   | exact LeO.none _
   | refine LeO.ite ?_ ?_
   | refine LeO.bind ?_ (fun _=>?_)
set_option maxHeartbeats 8000000 in
set_option maxRecDepth 100000 in
theorem pointer_Find.calls (k : Nat) (a0_0 : Int) (a0_1 : Bool) (a0_2 : ByteArray) (a0_3 : ByteArray) (P0_4_ : Nat → Prop) (A0_4 : Option Addr) (c0_4 : Nat) (l0_4 : List ByteArray) (P0_5_ : Nat → Prop) (A0_5 : Option Addr) (c0_5 : Nat) (l0_5 : List (S25)) (a1 : ByteArray) (r1 : Int) (r2 : Bool) (r3 : ByteArray) (r4 : ByteArray) (r5 : List ByteArray) (r6 : List (S25)) (r7 : Bool) (r8 : Int) (w : World) (hs0_4 : Kd.V Kd.string 9 w w.heap.size (fun k_=>P0_4_ k_) (.slice A0_4 l0_4.length c0_4) l0_4) (hs0_5 : Kd.V k25 25 w w.heap.size (fun k_=>P0_5_ k_) (.slice A0_5 l0_5.length c0_5) l0_5) (h : pointer_Find.f k a0_0 a0_1 a0_2 a0_3 l0_4 l0_5 a1 = some (r1,r2,r3,r4,r5,r6,r7,r8)) :
  Calls Tryd.prog 8 #[.agg #[.int .i64 a0_0,.bool a0_1,.string a0_2,.string a0_3,.slice A0_4 l0_4.length c0_4,.slice A0_5 l0_5.length c0_5],.string a1] w fun e w'=>∃ v4_ v5_ : Value,e = .returned (.tuple #[.agg #[.int .i64 r1,.bool r2,.string r3,.string r4,v4_,v5_],.bool r7,.int .i64 r8]) ∧ Kd.V Kd.string 9 w' w.heap.size (fun k_=>((P0_4_ k_ ∨ P0_5_ k_) ∨ w.heap.size ≤ k_)) v4_ r5 ∧ Kd.V k25 25 w' w.heap.size (fun k_=>((P0_4_ k_ ∨ P0_5_ k_) ∨ w.heap.size ≤ k_)) v5_ r6 ∧ Below w.heap.size w w':=by
 have hu25:=Tryd.underlying25
 have HO0_4:=Aside0.mk (show Kd.V Kd.string 9 w w.heap.size (fun k_=>((P0_4_ k_ ∨ P0_5_ k_) ∨ w.heap.size ≤ k_)) (.slice A0_4 l0_4.length c0_4) l0_4 from Kd.V_mono hs0_4 (fun k_ hk=>.inl (.inl hk)))
 have HO0_5:=Aside0.mk (show Kd.V k25 25 w w.heap.size (fun k_=>((P0_4_ k_ ∨ P0_5_ k_) ∨ w.heap.size ≤ k_)) (.slice A0_5 l0_5.length c0_5) l0_5 from Kd.V_mono hs0_5 (fun k_ hk=>.inl (.inr hk)))
 have HB:=Aside0.mk (Below.refl w.heap.size w)
 have H : ((tree_Formed.f k a0_0 a0_1 a0_2 a0_3 l0_4 l0_5).bind fun t183=>(if t183 = true then ((pointer_Parse.f a1).bind fun bt184=>(if bt184.2 = 0 then (pointer_Find.l0 k bt184.1 (bt184.1.length : Int) 0 a0_0 a0_1 a0_2 a0_3 l0_4 l0_5) else (some (0,false,(⟨#[]⟩ : ByteArray),(⟨#[]⟩ : ByteArray),([] : List ByteArray),([] : List (S25)),false,bt184.2)))) else (some (0,false,(⟨#[]⟩ : ByteArray),(⟨#[]⟩ : ByteArray),([] : List ByteArray),([] : List (S25)),false,1)))) = some (r1,r2,r3,r4,r5,r6,r7,r8):=h
 clear h
 replace H:=Option.bind_eq_some_iff.mp H
 obtain ⟨t183,A30,H⟩:=H
 replace H : (if t183 = true then ((pointer_Parse.f a1).bind fun bt184=>(if bt184.2 = 0 then (pointer_Find.l0 k bt184.1 (bt184.1.length : Int) 0 a0_0 a0_1 a0_2 a0_3 l0_4 l0_5) else (some (0,false,(⟨#[]⟩ : ByteArray),(⟨#[]⟩ : ByteArray),([] : List ByteArray),([] : List (S25)),false,bt184.2)))) else (some (0,false,(⟨#[]⟩ : ByteArray),(⟨#[]⟩ : ByteArray),([] : List ByteArray),([] : List (S25)),false,1))) = some (r1,r2,r3,r4,r5,r6,r7,r8):=H
 have A3:=Aside0.mk A30
 clear A30
 by_cases c4 : t183 = true
 ·subst c4
  have H1 : ((pointer_Parse.f a1).bind fun bt184=>(if bt184.2 = 0 then (pointer_Find.l0 k bt184.1 (bt184.1.length : Int) 0 a0_0 a0_1 a0_2 a0_3 l0_4 l0_5) else (some (0,false,(⟨#[]⟩ : ByteArray),(⟨#[]⟩ : ByteArray),([] : List ByteArray),([] : List (S25)),false,bt184.2)))) = some (r1,r2,r3,r4,r5,r6,r7,r8):=by rw [if_pos rfl] at H;exact H
  clear H
  have H:=H1
  clear H1
  replace H:=Option.bind_eq_some_iff.mp H
  obtain ⟨⟨t184,t185⟩,A50,H⟩:=H
  replace H : (if t185 = 0 then (pointer_Find.l0 k t184 (t184.length : Int) 0 a0_0 a0_1 a0_2 a0_3 l0_4 l0_5) else (some (0,false,(⟨#[]⟩ : ByteArray),(⟨#[]⟩ : ByteArray),([] : List ByteArray),([] : List (S25)),false,t185))) = some (r1,r2,r3,r4,r5,r6,r7,r8):=H
  have A5:=Aside0.mk A50
  clear A50
  by_cases c6 : t185 = 0
  ·rw [if_pos c6] at H
   have c6b0 : (t185 == 0) = true:=beq_iff_eq.mpr c6
   have c6b1 : (t185 != 0) = false:=bne_eq_false_iff_eq.mpr c6
   clear c6
   have H':=Aside0.mk H
   clear H
   go_enter Tryd.func8,Tryd.ntmps8
   go_wp2_with (first|((with_reducible refine gate_dst (N:=2) rfl ?_);refine box_event ?hg (N:=2) ?hd (cs:=#[.int .i64 a0_0,.bool a0_1,.string a0_2,.string a0_3,.slice A0_4 l0_4.length c0_4,.slice A0_5 l0_5.length c0_5]) (t:=25) ?hr ?_;(case hd=>rfl);(case hg=>rfl);(case hr=>first|(go_simp;done)|(go_simp;rfl));intro gb181 hg w7 hbox hb;have n_:=J_ (Kd.V_below (Kd.V_elderB (vk_ HO0_4) gb181 (Nat.le_of_eq hg.symm)) hb) (J_ (Kd.V_below (Kd.V_elderB (vk_ HO0_5) gb181 (Nat.le_of_eq hg.symm)) hb) (J_ (below_step (hb_ HB) hb) (J_ (hbox) (J_ (bs_ hg HB) (Aside0.mk (bs_ hg HB))))));clear HO0_4 HO0_5 HB;obtain ⟨HO0_4,HO0_5,HB,BK181,GW181,GE181⟩:=n_;clear hb hbox hg)|((with_reducible refine gate_dst (N:=4) rfl ?_);refine box_event ?hg (N:=4) ?hd (cs:=#[.int .i64 0,.bool false,.string (⟨#[]⟩ : ByteArray),.string (⟨#[]⟩ : ByteArray),.slice none 0 0,.slice none 0 0]) (t:=25) ?hr ?_;(case hd=>rfl);(case hg=>rfl);(case hr=>first|(go_simp;done)|(go_simp;rfl));intro gb182 hg w8 hbox hb;have n_:=J_ (Kd.V_below (Kd.V_elderB (vk_ HO0_4) gb182 (Nat.le_of_eq hg.symm)) hb) (J_ (Kd.V_below (Kd.V_elderB (vk_ HO0_5) gb182 (Nat.le_of_eq hg.symm)) hb) (J_ (bkb_ BK181 hb) (J_ (below_step (hb_ HB) hb) (J_ (hbox) (J_ (bs_ hg HB) (J_ (bs_ hg HB) (J_ ((by rw [hg];exact Nat.ne_of_lt (bkl_ BK181) : gb181 ≠ gb182)) (Aside0.mk ((by rw [hg];exact Nat.ne_of_gt (bkl_ BK181) : gb182 ≠ gb181))))))))));clear HO0_4 HO0_5 BK181 HB;obtain ⟨HO0_4,HO0_5,BK181,HB,BK182,GW182,GE182,NB181_182,NB182_181⟩:=n_;clear hb hbox hg;have hnb9:=NB181_182.out;have hnc9:=NB182_181.out;obtain ⟨hcz10_0,hcz10_1,hcz10_2,hcz10_3,hcz10_4,hcz10_5,hfz10_0,hfz10_1,hfz10_2,hfz10_3,hfz10_4,hfz10_5⟩:=cf6_ BK181)|((with_reducible refine gate_callee (f:=27) rfl ?_);refine goesL_ (some 14) rfl rfl Tryd.func27 (by kernel_rfl) rfl #[.agg #[.int .i64 a0_0,.bool a0_1,.string a0_2,.string a0_3,.slice A0_4 l0_4.length c0_4,.slice A0_5 l0_5.length c0_5]] rfl am_ ?_;(with_reducible refine (tree_Formed.calls k a0_0 a0_1 a0_2 a0_3 _ _ l0_4 _ _ l0_5 true _ ?side1 ?side2 ?side3 ?side4 A3.out).mono ?_);(case side1=>repeat (first|exact (Kd.V_reads' HO0_4.out).2.2|(with_reducible refine Kd.C_alloc ?_ _)|(with_reducible refine Kd.C_drewN ?_ _)|(with_reducible refine Kd.C_drew ?_)));(case side2=>exact (Kd.V_reads' HO0_4.out).2.1);(case side3=>repeat (first|exact (Kd.V_reads' HO0_5.out).2.2|(with_reducible refine Kd.C_alloc ?_ _)|(with_reducible refine Kd.C_drewN ?_ _)|(with_reducible refine Kd.C_drew ?_)));(case side4=>exact (Kd.V_reads' HO0_5.out).2.1);rintro e w11 ⟨rfl,hb⟩;refine ⟨_,rfl,?_⟩;have n_:=J_ (Kd.V_below (vk_ HO0_4) hb) (J_ (Kd.V_below (vk_ HO0_5) hb) (J_ (bkb_ BK181 hb) (J_ (bkb_ BK182 hb) (Aside0.mk (below_step (hb_ HB) hb)))));clear HO0_4 HO0_5 BK181 BK182 HB;obtain ⟨HO0_4,HO0_5,BK181,BK182,HB⟩:=n_;(try clear hb);(try clear hb2);(try clear hk);(try clear hi))|((with_reducible refine gate_callee (f:=15) rfl ?_);refine goesL_ (some 19) rfl rfl Tryd.func15 (by kernel_rfl) rfl #[.string a1] rfl am_ ?_;(with_reducible refine (pointer_Parse.calls a1 t184 t185 _ A5.out).mono ?_);rintro e w12 ⟨v186,rfl,ho0,hb⟩;refine ⟨_,rfl,?_⟩;have n_:=J_ (Kd.V_elder' (vk_ HO0_4) (Kd.R_base ho0) hb) (J_ (Kd.V_elder' (vk_ HO0_5) (Kd.R_base ho0) hb) (J_ (Kd.R_lower (Kd.R_newM (M:=fun k_=>(w.heap.size ≤ k_)) ho0 (below_size (hb_ HB)) (fun k_ h_=>h_)) (below_size (hb_ HB))) (J_ (bkb_ BK181 hb) (J_ (bkb_ BK182 hb) (Aside0.mk (below_step (hb_ HB) hb))))));clear HO0_4 HO0_5 BK181 BK182 HB;obtain ⟨HO0_4,HO0_5,HO187,BK181,BK182,HB⟩:=n_;(try clear hb);(try clear hb2);(try clear hk);(try clear hi);(try clear ho0);obtain ⟨Ao13,co13,eo13⟩:=Kd.R_slice HO187.out;subst eo13))
   go_loopg [28] k (fun kq v28 w'=>∃ (x28_1 : Int) (x182000_1 : Int) (x182001_1 : Bool) (x182002_1 : ByteArray) (x182003_1 : ByteArray) (x182004_1 : List ByteArray) (x182005_1 : List (S25)) (x183000_1 : Int) (x183001_1 : Bool) (x183002_1 : ByteArray) (x183003_1 : ByteArray) (u182004 : Value) (u182005 : Value),v28 = .int .i64 x28_1 ∧ Aside0 (pointer_Find.l0 kq t184 (t184.length : Int) x28_1 x182000_1 x182001_1 x182002_1 x182003_1 x182004_1 x182005_1 = some (r1,r2,r3,r4,r5,r6,r7,r8)) ∧ Aside0 (kq ≤ k) ∧ Aside0 (Kd.R Kd.string 9 w' w.heap.size (fun k_=>(w.heap.size ≤ k_)) (.slice Ao13 t184.length co13) t184) ∧ Aside0 (Kd.V Kd.string 9 w' w.heap.size (fun k_=>((P0_4_ k_ ∨ P0_5_ k_) ∨ w.heap.size ≤ k_) ∧ some k_ ≠ ((.slice Ao13 t184.length co13) : Value).ownBlock ∧ k_ ≠ gb181 ∧ k_ ≠ gb182) u182004 x182004_1) ∧ Aside0 (Kd.V k25 25 w' w.heap.size (fun k_=>((P0_4_ k_ ∨ P0_5_ k_) ∨ w.heap.size ≤ k_) ∧ some k_ ≠ ((.slice Ao13 t184.length co13) : Value).ownBlock ∧ k_ ≠ gb181 ∧ k_ ≠ gb182) u182005 x182005_1) ∧ Aside0 (w'.heap[gb181]? = some (.cells #[.int .i64 x182000_1,.bool x182001_1,.string x182002_1,.string x182003_1,u182004,u182005] 25 (0,0))) ∧ Aside0 (w'.heap[gb182]? = some (.cells #[.int .i64 x183000_1,.bool x183001_1,.string x183002_1,.string x183003_1,(.slice none 0 0),(.slice none 0 0)] 25 (0,0))) ∧ Aside0 (Below w.heap.size w w'))
   case atStart=>exact ⟨(0),(a0_0),(a0_1),(a0_2),(a0_3),(l0_4),(l0_5),(0),(false),((⟨#[]⟩ : ByteArray)),((⟨#[]⟩ : ByteArray)),(.slice A0_4 l0_4.length c0_4),(.slice A0_5 l0_5.length c0_5),rr_,H',⟨Nat.le_refl _⟩,⟨by (with_reducible repeat (first|apply Kd.R_alloc|apply Kd.R_drewN|apply Kd.R_drew));exact Kd.R_mono HO187.out (fun _ hk=>hk.1)⟩,⟨by (with_reducible repeat (first|apply Kd.V_alloc|apply Kd.V_drewN|apply Kd.V_drew));exact Kd.V_mono HO0_4.out (fun _ hk=>⟨hk.1.1.1,⟨hk.2,⟨hk.1.1.2,hk.1.2⟩⟩⟩)⟩,⟨by (with_reducible repeat (first|apply Kd.V_alloc|apply Kd.V_drewN|apply Kd.V_drew));exact Kd.V_mono HO0_5.out (fun _ hk=>⟨hk.1.1.1,⟨hk.2,⟨hk.1.1.2,hk.1.2⟩⟩⟩)⟩,⟨(bk_ BK181)⟩,⟨(bk_ BK182)⟩,⟨(hb_ HB)⟩⟩
   case round =>
    clear H'
    try clear BK181
    try clear BK182
    try clear HB
    obtain ⟨x28_1,x182000_1,x182001_1,x182002_1,x182003_1,x182004_1,x182005_1,x183000_1,x183001_1,x183002_1,x183003_1,u182004,u182005,rfl,HA,HK1,HO_26,HO_182004,HO_182005,BK181,BK182,HB⟩:=hrel
    cases gk with
    | zero=>exact absurd HA.out (by simp [pointer_Find.l0])
    | succ k1 =>
     have H:=HA.out
     clear HA
     simp only [pointer_Find.l0] at H
     by_cases c14 : x28_1 < (t184.length : Int)
     ·rw [if_pos c14] at H
      have c14b0 : decide (x28_1 < (t184.length : Int)) = true:=decide_eq_true c14
      clear c14
      by_cases c15 : 0 ≤ x28_1
      ·rw [if_pos c15] at H
       have c15b0 : decide (0 ≤ x28_1) = true:=decide_eq_true c15
       clear c15
       by_cases c16 : x28_1 < (t184.length : Int)
       ·rw [if_pos c16] at H
        have c16b0 : decide (x28_1 < (t184.length : Int)) = true:=decide_eq_true c16
        clear c16
        replace H:=Option.bind_eq_some_iff.mp H
        obtain ⟨⟨t189,t190,t191,t192,t193,t196,t199⟩,A170,H⟩:=H
        replace H : (if t199 = true then (pointer_Find.l0 k1 t184 (t184.length : Int) (wrap64 (x28_1 + 1)) t189 t190 t191 t192 t193 t196) else (some (0,false,(⟨#[]⟩ : ByteArray),(⟨#[]⟩ : ByteArray),([] : List ByteArray),([] : List (S25)),false,0))) = some (r1,r2,r3,r4,r5,r6,r7,r8):=H
        have A17:=Aside0.mk A170
        clear A170
        by_cases c18 : t199 = true
        ·subst c18
         have H1 : (pointer_Find.l0 k1 t184 (t184.length : Int) (wrap64 (x28_1 + 1)) t189 t190 t191 t192 t193 t196) = some (r1,r2,r3,r4,r5,r6,r7,r8):=by rw [if_pos rfl] at H;exact H
         clear H
         have H:=H1
         clear H1
         have H':=Aside0.mk H
         clear H
         have p188 : 0 ≤ (x28_1 : Int):=of_decide_eq_true aa_
         have q188 : x28_1 < (t184.length : Int):=of_decide_eq_true aa_
         obtain ⟨ad188,e188,hx188_0⟩:=Kd.at_string (Kd.R_reads' HO_26.out).2.2 x28_1 p188 q188
         cases e188
         replace p188:=eq_true p188
         replace q188:=eq_true q188
         have hnb19:=NB181_182.out
         have hnc19:=NB182_181.out
         obtain ⟨hcz20_0,hcz20_1,hcz20_2,hcz20_3,hcz20_4,hcz20_5,hfz20_0,hfz20_1,hfz20_2,hfz20_3,hfz20_4,hfz20_5⟩:=cf6_ BK181
         obtain ⟨Ao21,co21,eo21⟩:=Kd.V_slice HO_182004.out
         subst eo21
         obtain ⟨Ao22,co22,eo22⟩:=Kd.V_slice HO_182005.out
         subst eo22
         go_wp2_with (first|((with_reducible refine gate_callee (f:=28) rfl ?_);refine goesL_ (some 35) rfl rfl Tryd.func28 (by kernel_rfl) rfl #[.agg #[.int .i64 x182000_1,.bool x182001_1,.string x182002_1,.string x182003_1,.slice Ao21 x182004_1.length co21,.slice Ao22 x182005_1.length co22],.string (rdOf ByteArray.empty t184 x28_1)] rfl am_ ?_;(with_reducible refine (pointer_step.calls k1 x182000_1 x182001_1 x182002_1 x182003_1 _ _ x182004_1 (fun k_=>(((P0_4_ k_ ∨ P0_5_ k_) ∨ w.heap.size ≤ k_) ∧ (some k_ ≠ (.slice (some ad188) t184.length co13 : Value).ownBlock ∧ (k_ ≠ gb181 ∧ k_ ≠ gb182)))) _ _ x182005_1 (rdOf ByteArray.empty t184 x28_1) t189 t190 t191 t192 t193 t196 true _ ?side1 ?side2 ?side3 A17.out).mono ?_);(case side1=>repeat (first|exact (Kd.V_reads' HO_182004.out).2.2|(with_reducible refine Kd.C_alloc ?_ _)|(with_reducible refine Kd.C_drewN ?_ _)|(with_reducible refine Kd.C_drew ?_)));(case side2=>exact (Kd.V_reads' HO_182004.out).2.1);(case side3=>exact HO_182005.out);rintro e w23 ⟨v194,v197,rfl,ho0,ho1,hb⟩;refine ⟨_,rfl,?_⟩;have n_:=J_ (Kd.R_below (rk_ HO_26) hb) (J_ (Kd.V_below (vk_ HO_182004) hb) (J_ (Kd.V_below (vk_ HO_182005) hb) (J_ (Kd.V_lower (Kd.V_mono (ok':=fun k_=>((P0_4_ k_ ∨ P0_5_ k_) ∨ w.heap.size ≤ k_) ∧ some k_ ≠ (.slice (some ad188) t184.length co13 : Value).ownBlock ∧ k_ ≠ gb181 ∧ k_ ≠ gb182) ho0 (fun k_ hk_=>⟨Or.elim hk_ (fun hs_=>hs_.1) (fun hn_=>(.inr (Nat.le_trans (below_size (hb_ HB)) hn_))),Or.elim hk_ (fun hs_=>hs_.2.1) (fun hn_=>(Kd.fresh' (Kd.R_lt (rk_ HO_26)) k_ hn_)),Or.elim hk_ (fun hs_=>hs_.2.2.1) (fun hn_=>(Kd.freshB (g:=gb181) (o:=.cells #[.int .i64 x182000_1,.bool x182001_1,.string x182002_1,.string x182003_1,.slice Ao21 x182004_1.length co21,.slice Ao22 x182005_1.length co22] 25 (0,0)) (bk_ BK181) k_ hn_)),Or.elim hk_ (fun hs_=>hs_.2.2.2) (fun hn_=>(Kd.freshB (g:=gb182) (o:=.cells #[.int .i64 x183000_1,.bool x183001_1,.string x183002_1,.string x183003_1,.slice none 0 0,.slice none 0 0] 25 (0,0)) (bk_ BK182) k_ hn_))⟩)) (below_size (hb_ HB))) (J_ (Kd.V_lower (Kd.V_mono (ok':=fun k_=>((P0_4_ k_ ∨ P0_5_ k_) ∨ w.heap.size ≤ k_) ∧ some k_ ≠ (.slice (some ad188) t184.length co13 : Value).ownBlock ∧ k_ ≠ gb181 ∧ k_ ≠ gb182) ho1 (fun k_ hk_=>⟨Or.elim hk_ (fun hs_=>hs_.1) (fun hn_=>(.inr (Nat.le_trans (below_size (hb_ HB)) hn_))),Or.elim hk_ (fun hs_=>hs_.2.1) (fun hn_=>(Kd.fresh' (Kd.R_lt (rk_ HO_26)) k_ hn_)),Or.elim hk_ (fun hs_=>hs_.2.2.1) (fun hn_=>(Kd.freshB (g:=gb181) (o:=.cells #[.int .i64 x182000_1,.bool x182001_1,.string x182002_1,.string x182003_1,.slice Ao21 x182004_1.length co21,.slice Ao22 x182005_1.length co22] 25 (0,0)) (bk_ BK181) k_ hn_)),Or.elim hk_ (fun hs_=>hs_.2.2.2) (fun hn_=>(Kd.freshB (g:=gb182) (o:=.cells #[.int .i64 x183000_1,.bool x183001_1,.string x183002_1,.string x183003_1,.slice none 0 0,.slice none 0 0] 25 (0,0)) (bk_ BK182) k_ hn_))⟩)) (below_size (hb_ HB))) (J_ (bkb_ BK181 hb) (J_ (bkb_ BK182 hb) (Aside0.mk (below_step (hb_ HB) hb))))))));clear HO_26 HO_182004 HO_182005 BK181 BK182 HB;obtain ⟨HO_26,HO_182004,HO_182005,HO195,HO198,BK181,BK182,HB⟩:=n_;(try clear hb);(try clear hb2);(try clear hk);(try clear hi);(try clear ho0);(try clear ho1))|((with_reducible refine gate_dst (N:=11) rfl ?_);refine box_event ?hg (N:=11) ?hd (cs:=#[.int .i64 0,.bool false,.string (⟨#[]⟩ : ByteArray),.string (⟨#[]⟩ : ByteArray),.slice none 0 0,.slice none 0 0]) (t:=25) ?hr ?_;(case hd=>rfl);(case hg=>rfl);(case hr=>first|(go_simp;done)|(go_simp;rfl));intro gb200 hg w24 hbox hb;have n_:=J_ (Kd.R_below (rk_ HO_26) hb) (J_ (Kd.V_below (Kd.V_elderB (vk_ HO_182004) gb200 (Nat.le_of_eq hg.symm)) hb) (J_ (Kd.V_below (Kd.V_elderB (vk_ HO_182005) gb200 (Nat.le_of_eq hg.symm)) hb) (J_ (Kd.V_below (Kd.V_elderB (vk_ HO195) gb200 (Nat.le_of_eq hg.symm)) hb) (J_ (Kd.V_below (Kd.V_elderB (vk_ HO198) gb200 (Nat.le_of_eq hg.symm)) hb) (J_ (bkb_ BK181 hb) (J_ (bkb_ BK182 hb) (J_ (below_step (hb_ HB) hb) (J_ (hbox) (J_ (bs_ hg HB) (J_ (bs_ hg HB) (J_ ((by rw [hg];exact Nat.ne_of_lt (bkl_ BK181) : gb181 ≠ gb200)) (J_ ((by rw [hg];exact Nat.ne_of_gt (bkl_ BK181) : gb200 ≠ gb181)) (J_ ((by rw [hg];exact Nat.ne_of_lt (bkl_ BK182) : gb182 ≠ gb200)) (Aside0.mk ((by rw [hg];exact Nat.ne_of_gt (bkl_ BK182) : gb200 ≠ gb182))))))))))))))));clear HO_26 HO_182004 HO_182005 HO195 HO198 BK181 BK182 HB;obtain ⟨HO_26,HO_182004,HO_182005,HO195,HO198,BK181,BK182,HB,BK200,GW200,GE200,NB181_200,NB200_181,NB182_200,NB200_182⟩:=n_;clear hb hbox hg;have hnb25:=NB200_181.out;have hnc25:=NB181_200.out;have hnb26:=NB200_182.out;have hnc26:=NB182_200.out;obtain ⟨hcz27_0,hcz27_1,hcz27_2,hcz27_3,hcz27_4,hcz27_5,hfz27_0,hfz27_1,hfz27_2,hfz27_3,hfz27_4,hfz27_5⟩:=cf6_ BK200;obtain ⟨Ao28,co28,eo28⟩:=Kd.V_slice HO195.out;subst eo28;obtain ⟨Ao29,co29,eo29⟩:=Kd.V_slice HO198.out;subst eo29;obtain ⟨hcz30_0,hcz30_1,hcz30_2,hcz30_3,hcz30_4,hcz30_5,hfz30_0,hfz30_1,hfz30_2,hfz30_3,hfz30_4,hfz30_5⟩:=cf6_ BK181))
         go_roundg k1
         case measure=>have:=HK1.out;omega
         case rel=>exact ⟨(wrap64 (x28_1 + 1)),(t189),(t190),(t191),(t192),(t193),(t196),(x183000_1),(x183001_1),(x183002_1),(x183003_1),(.slice Ao28 t193.length co28),(.slice Ao29 t196.length co29),rr_,(by first|exact H'|(subst_vars;exact H')),⟨by have:=HK1.out;omega⟩,⟨by (with_reducible repeat (first|apply Kd.R_alloc|apply Kd.R_drewN|apply Kd.R_drew));exact Kd.R_mono (Kd.R_far (p:=⟨gb181,5,none⟩) (Kd.R_far (p:=⟨gb181,4,none⟩) (Kd.R_far (p:=⟨gb181,3,none⟩) (Kd.R_far (p:=⟨gb181,2,none⟩) (Kd.R_far (p:=⟨gb181,1,none⟩) (Kd.R_far (p:=⟨gb181,0,none⟩) (Kd.R_far (p:=⟨gb200,5,none⟩) (Kd.R_far (p:=⟨gb200,4,none⟩) (Kd.R_far (p:=⟨gb200,3,none⟩) (Kd.R_far (p:=⟨gb200,2,none⟩) (Kd.R_far (p:=⟨gb200,1,none⟩) (Kd.R_far (p:=⟨gb200,0,none⟩) (Kd.R_types (Kd.R_types HO_26.out BK200.out (by decide)) BK181.out (by decide)) (fun _ hk=>hk.1.2) (.int .i64 t189)) (fun _ hk=>hk.1.2) (.bool t190)) (fun _ hk=>hk.1.2) (.string t191)) (fun _ hk=>hk.1.2) (.string t192)) (fun _ hk=>hk.1.2) (.slice Ao28 t193.length co28)) (fun _ hk=>hk.1.2) (.slice Ao29 t196.length co29)) (fun _ hk=>hk.2) (.int .i64 t189)) (fun _ hk=>hk.2) (.bool t190)) (fun _ hk=>hk.2) (.string t191)) (fun _ hk=>hk.2) (.string t192)) (fun _ hk=>hk.2) (.slice Ao28 t193.length co28)) (fun _ hk=>hk.2) (.slice Ao29 t196.length co29)) (fun _ hk=>hk.1.1)⟩,⟨by (with_reducible repeat (first|apply Kd.V_alloc|apply Kd.V_drewN|apply Kd.V_drew));exact Kd.V_mono (vf6_ (g:=gb181) (vf6_ (g:=gb200) (Kd.V_mono (Kd.V_mono HO195.out (fun k_ hk=>(⟨hk,hk.2⟩ : _ ∧ k_ ≠ gb200))) (fun k_ hk=>(⟨hk,hk.1.1.2.2.1⟩ : _ ∧ k_ ≠ gb181))) (fun _ hk=>hk.1.2)) (fun _ hk=>hk.2)) (fun _ hk=>⟨hk.1.1.1.1,⟨hk.1.1.1.2.1,⟨hk.1.1.1.2.2.1,hk.1.1.1.2.2.2⟩⟩⟩)⟩,⟨by (with_reducible repeat (first|apply Kd.V_alloc|apply Kd.V_drewN|apply Kd.V_drew));exact Kd.V_mono (vf6_ (g:=gb181) (vf6_ (g:=gb200) (Kd.V_mono (Kd.V_mono HO198.out (fun k_ hk=>(⟨hk,hk.2⟩ : _ ∧ k_ ≠ gb200))) (fun k_ hk=>(⟨hk,hk.1.1.2.2.1⟩ : _ ∧ k_ ≠ gb181))) (fun _ hk=>hk.1.2)) (fun _ hk=>hk.2)) (fun _ hk=>⟨hk.1.1.1.1,⟨hk.1.1.1.2.1,⟨hk.1.1.1.2.2.1,hk.1.1.1.2.2.2⟩⟩⟩)⟩,⟨by (with_reducible repeat (first|refine blk_drewN ?_ _|refine blk_drew ?_|refine blk_alloc ?_ _));refine bp_ (cs:=#[.int .i64 t189,.bool t190,.string t191,.string t192,.slice Ao28 t193.length co28,.slice Ao22 x182005_1.length co22]) ?_ 5 _;refine bp_ (cs:=#[.int .i64 t189,.bool t190,.string t191,.string t192,.slice Ao21 x182004_1.length co21,.slice Ao22 x182005_1.length co22]) ?_ 4 _;refine bp_ (cs:=#[.int .i64 t189,.bool t190,.string t191,.string x182003_1,.slice Ao21 x182004_1.length co21,.slice Ao22 x182005_1.length co22]) ?_ 3 _;refine bp_ (cs:=#[.int .i64 t189,.bool t190,.string x182002_1,.string x182003_1,.slice Ao21 x182004_1.length co21,.slice Ao22 x182005_1.length co22]) ?_ 2 _;refine bp_ (cs:=#[.int .i64 t189,.bool x182001_1,.string x182002_1,.string x182003_1,.slice Ao21 x182004_1.length co21,.slice Ao22 x182005_1.length co22]) ?_ 1 _;refine bp_ (cs:=#[.int .i64 x182000_1,.bool x182001_1,.string x182002_1,.string x182003_1,.slice Ao21 x182004_1.length co21,.slice Ao22 x182005_1.length co22]) ?_ 0 _;(with_reducible repeat (first|refine blk_drewN ?_ _|refine blk_drew ?_|refine blk_alloc ?_ _));refine blk_far ?_ NB181_200.out _;(with_reducible repeat (first|refine blk_drewN ?_ _|refine blk_drew ?_|refine blk_alloc ?_ _));refine blk_far ?_ NB181_200.out _;(with_reducible repeat (first|refine blk_drewN ?_ _|refine blk_drew ?_|refine blk_alloc ?_ _));refine blk_far ?_ NB181_200.out _;(with_reducible repeat (first|refine blk_drewN ?_ _|refine blk_drew ?_|refine blk_alloc ?_ _));refine blk_far ?_ NB181_200.out _;(with_reducible repeat (first|refine blk_drewN ?_ _|refine blk_drew ?_|refine blk_alloc ?_ _));refine blk_far ?_ NB181_200.out _;(with_reducible repeat (first|refine blk_drewN ?_ _|refine blk_drew ?_|refine blk_alloc ?_ _));refine blk_far ?_ NB181_200.out _;(with_reducible repeat (first|refine blk_drewN ?_ _|refine blk_drew ?_|refine blk_alloc ?_ _));exact BK181.out⟩,⟨by (with_reducible repeat (first|refine blk_drewN ?_ _|refine blk_drew ?_|refine blk_alloc ?_ _));refine blk_far ?_ NB182_181.out _;(with_reducible repeat (first|refine blk_drewN ?_ _|refine blk_drew ?_|refine blk_alloc ?_ _));refine blk_far ?_ NB182_181.out _;(with_reducible repeat (first|refine blk_drewN ?_ _|refine blk_drew ?_|refine blk_alloc ?_ _));refine blk_far ?_ NB182_181.out _;(with_reducible repeat (first|refine blk_drewN ?_ _|refine blk_drew ?_|refine blk_alloc ?_ _));refine blk_far ?_ NB182_181.out _;(with_reducible repeat (first|refine blk_drewN ?_ _|refine blk_drew ?_|refine blk_alloc ?_ _));refine blk_far ?_ NB182_181.out _;(with_reducible repeat (first|refine blk_drewN ?_ _|refine blk_drew ?_|refine blk_alloc ?_ _));refine blk_far ?_ NB182_181.out _;(with_reducible repeat (first|refine blk_drewN ?_ _|refine blk_drew ?_|refine blk_alloc ?_ _));refine blk_far ?_ NB182_200.out _;(with_reducible repeat (first|refine blk_drewN ?_ _|refine blk_drew ?_|refine blk_alloc ?_ _));refine blk_far ?_ NB182_200.out _;(with_reducible repeat (first|refine blk_drewN ?_ _|refine blk_drew ?_|refine blk_alloc ?_ _));refine blk_far ?_ NB182_200.out _;(with_reducible repeat (first|refine blk_drewN ?_ _|refine blk_drew ?_|refine blk_alloc ?_ _));refine blk_far ?_ NB182_200.out _;(with_reducible repeat (first|refine blk_drewN ?_ _|refine blk_drew ?_|refine blk_alloc ?_ _));refine blk_far ?_ NB182_200.out _;(with_reducible repeat (first|refine blk_drewN ?_ _|refine blk_drew ?_|refine blk_alloc ?_ _));refine blk_far ?_ NB182_200.out _;(with_reducible repeat (first|refine blk_drewN ?_ _|refine blk_drew ?_|refine blk_alloc ?_ _));exact BK182.out⟩,⟨(hb_ HB)⟩⟩
        ·replace c18:=Bool.eq_false_iff.mpr c18
         subst c18
         have H1 : (some (0,false,(⟨#[]⟩ : ByteArray),(⟨#[]⟩ : ByteArray),([] : List ByteArray),([] : List (S25)),false,0)) = some (r1,r2,r3,r4,r5,r6,r7,r8):=by rw [if_neg (show ¬ (false = true) by decide)] at H;exact H
         clear H
         have H:=H1
         clear H1
         simp only [Option.some.injEq,Prod.mk.injEq] at H
         obtain ⟨rfl,rfl,rfl,rfl,rfl,rfl,rfl,rfl⟩:=H
         have p188 : 0 ≤ (x28_1 : Int):=of_decide_eq_true aa_
         have q188 : x28_1 < (t184.length : Int):=of_decide_eq_true aa_
         obtain ⟨ad188,e188,hx188_0⟩:=Kd.at_string (Kd.R_reads' HO_26.out).2.2 x28_1 p188 q188
         cases e188
         replace p188:=eq_true p188
         replace q188:=eq_true q188
         have hnb31:=NB181_182.out
         have hnc31:=NB182_181.out
         obtain ⟨hcz32_0,hcz32_1,hcz32_2,hcz32_3,hcz32_4,hcz32_5,hfz32_0,hfz32_1,hfz32_2,hfz32_3,hfz32_4,hfz32_5⟩:=cf6_ BK181
         obtain ⟨Ao33,co33,eo33⟩:=Kd.V_slice HO_182004.out
         subst eo33
         obtain ⟨Ao34,co34,eo34⟩:=Kd.V_slice HO_182005.out
         subst eo34
         go_wp2_with (first|((with_reducible refine gate_callee (f:=28) rfl ?_);refine goesL_ (some 35) rfl rfl Tryd.func28 (by kernel_rfl) rfl #[.agg #[.int .i64 x182000_1,.bool x182001_1,.string x182002_1,.string x182003_1,.slice Ao33 x182004_1.length co33,.slice Ao34 x182005_1.length co34],.string (rdOf ByteArray.empty t184 x28_1)] rfl am_ ?_;(with_reducible refine (pointer_step.calls k1 x182000_1 x182001_1 x182002_1 x182003_1 _ _ x182004_1 (fun k_=>(((P0_4_ k_ ∨ P0_5_ k_) ∨ w.heap.size ≤ k_) ∧ (some k_ ≠ (.slice (some ad188) t184.length co13 : Value).ownBlock ∧ (k_ ≠ gb181 ∧ k_ ≠ gb182)))) _ _ x182005_1 (rdOf ByteArray.empty t184 x28_1) t189 t190 t191 t192 t193 t196 false _ ?side1 ?side2 ?side3 A17.out).mono ?_);(case side1=>repeat (first|exact (Kd.V_reads' HO_182004.out).2.2|(with_reducible refine Kd.C_alloc ?_ _)|(with_reducible refine Kd.C_drewN ?_ _)|(with_reducible refine Kd.C_drew ?_)));(case side2=>exact (Kd.V_reads' HO_182004.out).2.1);(case side3=>exact HO_182005.out);rintro e w35 ⟨v194,v197,rfl,ho0,ho1,hb⟩;refine ⟨_,rfl,?_⟩;have n_:=J_ (Kd.R_below (rk_ HO_26) hb) (J_ (Kd.V_below (vk_ HO_182004) hb) (J_ (Kd.V_below (vk_ HO_182005) hb) (J_ (Kd.V_lower (Kd.V_mono (ok':=fun k_=>((P0_4_ k_ ∨ P0_5_ k_) ∨ w.heap.size ≤ k_) ∧ some k_ ≠ (.slice (some ad188) t184.length co13 : Value).ownBlock ∧ k_ ≠ gb181 ∧ k_ ≠ gb182) ho0 (fun k_ hk_=>⟨Or.elim hk_ (fun hs_=>hs_.1) (fun hn_=>(.inr (Nat.le_trans (below_size (hb_ HB)) hn_))),Or.elim hk_ (fun hs_=>hs_.2.1) (fun hn_=>(Kd.fresh' (Kd.R_lt (rk_ HO_26)) k_ hn_)),Or.elim hk_ (fun hs_=>hs_.2.2.1) (fun hn_=>(Kd.freshB (g:=gb181) (o:=.cells #[.int .i64 x182000_1,.bool x182001_1,.string x182002_1,.string x182003_1,.slice Ao33 x182004_1.length co33,.slice Ao34 x182005_1.length co34] 25 (0,0)) (bk_ BK181) k_ hn_)),Or.elim hk_ (fun hs_=>hs_.2.2.2) (fun hn_=>(Kd.freshB (g:=gb182) (o:=.cells #[.int .i64 x183000_1,.bool x183001_1,.string x183002_1,.string x183003_1,.slice none 0 0,.slice none 0 0] 25 (0,0)) (bk_ BK182) k_ hn_))⟩)) (below_size (hb_ HB))) (J_ (Kd.V_lower (Kd.V_mono (ok':=fun k_=>((P0_4_ k_ ∨ P0_5_ k_) ∨ w.heap.size ≤ k_) ∧ some k_ ≠ (.slice (some ad188) t184.length co13 : Value).ownBlock ∧ k_ ≠ gb181 ∧ k_ ≠ gb182) ho1 (fun k_ hk_=>⟨Or.elim hk_ (fun hs_=>hs_.1) (fun hn_=>(.inr (Nat.le_trans (below_size (hb_ HB)) hn_))),Or.elim hk_ (fun hs_=>hs_.2.1) (fun hn_=>(Kd.fresh' (Kd.R_lt (rk_ HO_26)) k_ hn_)),Or.elim hk_ (fun hs_=>hs_.2.2.1) (fun hn_=>(Kd.freshB (g:=gb181) (o:=.cells #[.int .i64 x182000_1,.bool x182001_1,.string x182002_1,.string x182003_1,.slice Ao33 x182004_1.length co33,.slice Ao34 x182005_1.length co34] 25 (0,0)) (bk_ BK181) k_ hn_)),Or.elim hk_ (fun hs_=>hs_.2.2.2) (fun hn_=>(Kd.freshB (g:=gb182) (o:=.cells #[.int .i64 x183000_1,.bool x183001_1,.string x183002_1,.string x183003_1,.slice none 0 0,.slice none 0 0] 25 (0,0)) (bk_ BK182) k_ hn_))⟩)) (below_size (hb_ HB))) (J_ (bkb_ BK181 hb) (J_ (bkb_ BK182 hb) (Aside0.mk (below_step (hb_ HB) hb))))))));clear HO_26 HO_182004 HO_182005 BK181 BK182 HB;obtain ⟨HO_26,HO_182004,HO_182005,HO195,HO198,BK181,BK182,HB⟩:=n_;(try clear hb);(try clear hb2);(try clear hk);(try clear hi);(try clear ho0);(try clear ho1))|((with_reducible refine gate_dst (N:=11) rfl ?_);refine box_event ?hg (N:=11) ?hd (cs:=#[.int .i64 0,.bool false,.string (⟨#[]⟩ : ByteArray),.string (⟨#[]⟩ : ByteArray),.slice none 0 0,.slice none 0 0]) (t:=25) ?hr ?_;(case hd=>rfl);(case hg=>rfl);(case hr=>first|(go_simp;done)|(go_simp;rfl));intro gb200 hg w36 hbox hb;have n_:=J_ (Kd.R_below (rk_ HO_26) hb) (J_ (Kd.V_below (Kd.V_elderB (vk_ HO_182004) gb200 (Nat.le_of_eq hg.symm)) hb) (J_ (Kd.V_below (Kd.V_elderB (vk_ HO_182005) gb200 (Nat.le_of_eq hg.symm)) hb) (J_ (Kd.V_below (Kd.V_elderB (vk_ HO195) gb200 (Nat.le_of_eq hg.symm)) hb) (J_ (Kd.V_below (Kd.V_elderB (vk_ HO198) gb200 (Nat.le_of_eq hg.symm)) hb) (J_ (bkb_ BK181 hb) (J_ (bkb_ BK182 hb) (J_ (below_step (hb_ HB) hb) (J_ (hbox) (J_ (bs_ hg HB) (J_ (bs_ hg HB) (J_ ((by rw [hg];exact Nat.ne_of_lt (bkl_ BK181) : gb181 ≠ gb200)) (J_ ((by rw [hg];exact Nat.ne_of_gt (bkl_ BK181) : gb200 ≠ gb181)) (J_ ((by rw [hg];exact Nat.ne_of_lt (bkl_ BK182) : gb182 ≠ gb200)) (Aside0.mk ((by rw [hg];exact Nat.ne_of_gt (bkl_ BK182) : gb200 ≠ gb182))))))))))))))));clear HO_26 HO_182004 HO_182005 HO195 HO198 BK181 BK182 HB;obtain ⟨HO_26,HO_182004,HO_182005,HO195,HO198,BK181,BK182,HB,BK200,GW200,GE200,NB181_200,NB200_181,NB182_200,NB200_182⟩:=n_;clear hb hbox hg;have hnb37:=NB200_181.out;have hnc37:=NB181_200.out;have hnb38:=NB200_182.out;have hnc38:=NB182_200.out;obtain ⟨hcz39_0,hcz39_1,hcz39_2,hcz39_3,hcz39_4,hcz39_5,hfz39_0,hfz39_1,hfz39_2,hfz39_3,hfz39_4,hfz39_5⟩:=cf6_ BK200;obtain ⟨Ao40,co40,eo40⟩:=Kd.V_slice HO195.out;subst eo40;obtain ⟨Ao41,co41,eo41⟩:=Kd.V_slice HO198.out;subst eo41;obtain ⟨hcz42_0,hcz42_1,hcz42_2,hcz42_3,hcz42_4,hcz42_5,hfz42_0,hfz42_1,hfz42_2,hfz42_3,hfz42_4,hfz42_5⟩:=cf6_ BK182))
         refine bodyPost_ret (results_ctt rfl _ _ gb182 25 #[.int .i64 0,.bool false,.string (⟨#[]⟩ : ByteArray),.string (⟨#[]⟩ : ByteArray),.slice none 0 0,.slice none 0 0] (0,0) _ rfl (by (with_reducible repeat (first|refine blk_drewN ?_ _|refine blk_drew ?_|refine blk_alloc ?_ _));refine bp_ (cs:=#[.int .i64 0,.bool false,.string (⟨#[]⟩ : ByteArray),.string (⟨#[]⟩ : ByteArray),.slice none 0 0,.slice none 0 0]) ?_ 5 _;refine bp_ (cs:=#[.int .i64 0,.bool false,.string (⟨#[]⟩ : ByteArray),.string (⟨#[]⟩ : ByteArray),.slice none 0 0,.slice none 0 0]) ?_ 4 _;refine bp_ (cs:=#[.int .i64 0,.bool false,.string (⟨#[]⟩ : ByteArray),.string x183003_1,.slice none 0 0,.slice none 0 0]) ?_ 3 _;refine bp_ (cs:=#[.int .i64 0,.bool false,.string x183002_1,.string x183003_1,.slice none 0 0,.slice none 0 0]) ?_ 2 _;refine bp_ (cs:=#[.int .i64 0,.bool x183001_1,.string x183002_1,.string x183003_1,.slice none 0 0,.slice none 0 0]) ?_ 1 _;refine bp_ (cs:=#[.int .i64 x183000_1,.bool x183001_1,.string x183002_1,.string x183003_1,.slice none 0 0,.slice none 0 0]) ?_ 0 _;(with_reducible repeat (first|refine blk_drewN ?_ _|refine blk_drew ?_|refine blk_alloc ?_ _));refine blk_far ?_ NB182_200.out _;(with_reducible repeat (first|refine blk_drewN ?_ _|refine blk_drew ?_|refine blk_alloc ?_ _));refine blk_far ?_ NB182_200.out _;(with_reducible repeat (first|refine blk_drewN ?_ _|refine blk_drew ?_|refine blk_alloc ?_ _));refine blk_far ?_ NB182_200.out _;(with_reducible repeat (first|refine blk_drewN ?_ _|refine blk_drew ?_|refine blk_alloc ?_ _));refine blk_far ?_ NB182_200.out _;(with_reducible repeat (first|refine blk_drewN ?_ _|refine blk_drew ?_|refine blk_alloc ?_ _));refine blk_far ?_ NB182_200.out _;(with_reducible repeat (first|refine blk_drewN ?_ _|refine blk_drew ?_|refine blk_alloc ?_ _));refine blk_far ?_ NB182_200.out _;(with_reducible repeat (first|refine blk_drewN ?_ _|refine blk_drew ?_|refine blk_alloc ?_ _));exact BK182.out) Tryd.underlying25 rfl (by kernel_rfl)) rfl ?_
         exact ⟨_,_,er_,Kd.V_nil _ _ _ _ _,Kd.V_nil _ _ _ _ _,(hb_ HB)⟩
       ·rw [if_neg c16] at H
        exact absurd H (by simp)
      ·rw [if_neg c15] at H
       exact absurd H (by simp)
     ·rw [if_neg c14] at H
      have c14b0 : decide (x28_1 < (t184.length : Int)) = false:=decide_eq_false c14
      clear c14
      replace H:=Option.bind_eq_some_iff.mp H
      obtain ⟨⟨t201,t202,t203,t204,t205,t208⟩,A430,H⟩:=H
      replace H : (some (t201,t202,t203,t204,t205,t208,true,0)) = some (r1,r2,r3,r4,r5,r6,r7,r8):=H
      have A43:=Aside0.mk A430
      clear A430
      simp only [Option.some.injEq,Prod.mk.injEq] at H
      obtain ⟨rfl,rfl,rfl,rfl,rfl,rfl,rfl,rfl⟩:=H
      have hnb44:=NB181_182.out
      have hnc44:=NB182_181.out
      obtain ⟨hcz45_0,hcz45_1,hcz45_2,hcz45_3,hcz45_4,hcz45_5,hfz45_0,hfz45_1,hfz45_2,hfz45_3,hfz45_4,hfz45_5⟩:=cf6_ BK181
      obtain ⟨Ao46,co46,eo46⟩:=Kd.V_slice HO_182004.out
      subst eo46
      obtain ⟨Ao47,co47,eo47⟩:=Kd.V_slice HO_182005.out
      subst eo47
      go_wp2_with (first|((with_reducible refine gate_callee (f:=29) rfl ?_);refine goesL_ (some 44) rfl rfl Tryd.func29 (by kernel_rfl) rfl #[.agg #[.int .i64 x182000_1,.bool x182001_1,.string x182002_1,.string x182003_1,.slice Ao46 x182004_1.length co46,.slice Ao47 x182005_1.length co47]] rfl am_ ?_;(with_reducible refine (pointer_own.calls k1 x182000_1 x182001_1 x182002_1 x182003_1 (fun k_=>(((P0_4_ k_ ∨ P0_5_ k_) ∨ w.heap.size ≤ k_) ∧ (some k_ ≠ (.slice Ao13 t184.length co13 : Value).ownBlock ∧ (k_ ≠ gb181 ∧ k_ ≠ gb182)))) _ _ x182004_1 (fun k_=>(((P0_4_ k_ ∨ P0_5_ k_) ∨ w.heap.size ≤ k_) ∧ (some k_ ≠ (.slice Ao13 t184.length co13 : Value).ownBlock ∧ (k_ ≠ gb181 ∧ k_ ≠ gb182)))) _ _ x182005_1 t201 t202 t203 t204 t205 t208 _ ?side1 ?side2 A43.out).mono ?_);(case side1=>exact HO_182004.out);(case side2=>exact HO_182005.out);rintro e w48 ⟨v206,v209,rfl,ho0,ho1,hb⟩;refine ⟨_,rfl,?_⟩;have n_:=J_ (Kd.R_below (rk_ HO_26) hb) (J_ (Kd.V_below (vk_ HO_182004) hb) (J_ (Kd.V_below (vk_ HO_182005) hb) (J_ (Kd.V_lower (Kd.V_mono (ok':=fun k_=>((P0_4_ k_ ∨ P0_5_ k_) ∨ w.heap.size ≤ k_) ∧ some k_ ≠ (.slice Ao13 t184.length co13 : Value).ownBlock ∧ k_ ≠ gb181 ∧ k_ ≠ gb182) ho0 (fun k_ hk_=>⟨Or.elim hk_ (fun hs_=>Or.elim hs_ (fun hs_=>hs_.1) (fun hs_=>hs_.1)) (fun hn_=>(.inr (Nat.le_trans (below_size (hb_ HB)) hn_))),Or.elim hk_ (fun hs_=>Or.elim hs_ (fun hs_=>hs_.2.1) (fun hs_=>hs_.2.1)) (fun hn_=>(Kd.fresh' (Kd.R_lt (rk_ HO_26)) k_ hn_)),Or.elim hk_ (fun hs_=>Or.elim hs_ (fun hs_=>hs_.2.2.1) (fun hs_=>hs_.2.2.1)) (fun hn_=>(Kd.freshB (g:=gb181) (o:=.cells #[.int .i64 x182000_1,.bool x182001_1,.string x182002_1,.string x182003_1,.slice Ao46 x182004_1.length co46,.slice Ao47 x182005_1.length co47] 25 (0,0)) (bk_ BK181) k_ hn_)),Or.elim hk_ (fun hs_=>Or.elim hs_ (fun hs_=>hs_.2.2.2) (fun hs_=>hs_.2.2.2)) (fun hn_=>(Kd.freshB (g:=gb182) (o:=.cells #[.int .i64 x183000_1,.bool x183001_1,.string x183002_1,.string x183003_1,.slice none 0 0,.slice none 0 0] 25 (0,0)) (bk_ BK182) k_ hn_))⟩)) (below_size (hb_ HB))) (J_ (Kd.V_lower (Kd.V_mono (ok':=fun k_=>((P0_4_ k_ ∨ P0_5_ k_) ∨ w.heap.size ≤ k_) ∧ some k_ ≠ (.slice Ao13 t184.length co13 : Value).ownBlock ∧ k_ ≠ gb181 ∧ k_ ≠ gb182) ho1 (fun k_ hk_=>⟨Or.elim hk_ (fun hs_=>Or.elim hs_ (fun hs_=>hs_.1) (fun hs_=>hs_.1)) (fun hn_=>(.inr (Nat.le_trans (below_size (hb_ HB)) hn_))),Or.elim hk_ (fun hs_=>Or.elim hs_ (fun hs_=>hs_.2.1) (fun hs_=>hs_.2.1)) (fun hn_=>(Kd.fresh' (Kd.R_lt (rk_ HO_26)) k_ hn_)),Or.elim hk_ (fun hs_=>Or.elim hs_ (fun hs_=>hs_.2.2.1) (fun hs_=>hs_.2.2.1)) (fun hn_=>(Kd.freshB (g:=gb181) (o:=.cells #[.int .i64 x182000_1,.bool x182001_1,.string x182002_1,.string x182003_1,.slice Ao46 x182004_1.length co46,.slice Ao47 x182005_1.length co47] 25 (0,0)) (bk_ BK181) k_ hn_)),Or.elim hk_ (fun hs_=>Or.elim hs_ (fun hs_=>hs_.2.2.2) (fun hs_=>hs_.2.2.2)) (fun hn_=>(Kd.freshB (g:=gb182) (o:=.cells #[.int .i64 x183000_1,.bool x183001_1,.string x183002_1,.string x183003_1,.slice none 0 0,.slice none 0 0] 25 (0,0)) (bk_ BK182) k_ hn_))⟩)) (below_size (hb_ HB))) (J_ (bkb_ BK181 hb) (J_ (bkb_ BK182 hb) (Aside0.mk (below_step (hb_ HB) hb))))))));clear HO_26 HO_182004 HO_182005 BK181 BK182 HB;obtain ⟨HO_26,HO_182004,HO_182005,HO207,HO210,BK181,BK182,HB⟩:=n_;(try clear hb);(try clear hb2);(try clear hk);(try clear hi);(try clear ho0);(try clear ho1);obtain ⟨hcz49_0,hcz49_1,hcz49_2,hcz49_3,hcz49_4,hcz49_5,hfz49_0,hfz49_1,hfz49_2,hfz49_3,hfz49_4,hfz49_5⟩:=cf6_ BK182;obtain ⟨Ao50,co50,eo50⟩:=Kd.V_slice HO207.out;subst eo50;obtain ⟨Ao51,co51,eo51⟩:=Kd.V_slice HO210.out;subst eo51))
      refine bodyPost_ret (results_ctt rfl _ _ gb182 25 #[.int .i64 t201,.bool t202,.string t203,.string t204,.slice Ao50 t205.length co50,.slice Ao51 t208.length co51] (0,0) _ rfl (by (with_reducible repeat (first|refine blk_drewN ?_ _|refine blk_drew ?_|refine blk_alloc ?_ _));refine bp_ (cs:=#[.int .i64 t201,.bool t202,.string t203,.string t204,.slice Ao50 t205.length co50,.slice none 0 0]) ?_ 5 _;refine bp_ (cs:=#[.int .i64 t201,.bool t202,.string t203,.string t204,.slice none 0 0,.slice none 0 0]) ?_ 4 _;refine bp_ (cs:=#[.int .i64 t201,.bool t202,.string t203,.string x183003_1,.slice none 0 0,.slice none 0 0]) ?_ 3 _;refine bp_ (cs:=#[.int .i64 t201,.bool t202,.string x183002_1,.string x183003_1,.slice none 0 0,.slice none 0 0]) ?_ 2 _;refine bp_ (cs:=#[.int .i64 t201,.bool x183001_1,.string x183002_1,.string x183003_1,.slice none 0 0,.slice none 0 0]) ?_ 1 _;refine bp_ (cs:=#[.int .i64 x183000_1,.bool x183001_1,.string x183002_1,.string x183003_1,.slice none 0 0,.slice none 0 0]) ?_ 0 _;(with_reducible repeat (first|refine blk_drewN ?_ _|refine blk_drew ?_|refine blk_alloc ?_ _));exact BK182.out) Tryd.underlying25 rfl (by kernel_rfl)) rfl ?_
      exact ⟨_,_,er_,by (with_reducible repeat (first|apply Kd.V_alloc|apply Kd.V_drewN|apply Kd.V_drew));exact Kd.V_mono (vf6_ (g:=gb182) (Kd.V_mono HO207.out (fun k_ hk=>(⟨hk,hk.2.2.2⟩ : _ ∧ k_ ≠ gb182))) (fun _ hk=>hk.2)) (fun _ hk=>hk.1.1),by (with_reducible repeat (first|apply Kd.V_alloc|apply Kd.V_drewN|apply Kd.V_drew));exact Kd.V_mono (vf6_ (g:=gb182) (Kd.V_mono HO210.out (fun k_ hk=>(⟨hk,hk.2.2.2⟩ : _ ∧ k_ ≠ gb182))) (fun _ hk=>hk.2)) (fun _ hk=>hk.1.1),(hb_ HB)⟩
  ·rw [if_neg c6] at H
   have c6b0 : (t185 == 0) = false:=beq_eq_false_iff_ne.mpr c6
   have c6b1 : (t185 != 0) = true:=bne_iff_ne.mpr c6
   simp only [Option.some.injEq,Prod.mk.injEq] at H
   obtain ⟨rfl,rfl,rfl,rfl,rfl,rfl,rfl,rfl⟩:=H
   go_enter Tryd.func8,Tryd.ntmps8
   go_wp2_with (first|((with_reducible refine gate_dst (N:=2) rfl ?_);refine box_event ?hg (N:=2) ?hd (cs:=#[.int .i64 a0_0,.bool a0_1,.string a0_2,.string a0_3,.slice A0_4 l0_4.length c0_4,.slice A0_5 l0_5.length c0_5]) (t:=25) ?hr ?_;(case hd=>rfl);(case hg=>rfl);(case hr=>first|(go_simp;done)|(go_simp;rfl));intro gb181 hg w52 hbox hb;have n_:=J_ (Kd.V_below (Kd.V_elderB (vk_ HO0_4) gb181 (Nat.le_of_eq hg.symm)) hb) (J_ (Kd.V_below (Kd.V_elderB (vk_ HO0_5) gb181 (Nat.le_of_eq hg.symm)) hb) (J_ (below_step (hb_ HB) hb) (J_ (hbox) (J_ (bs_ hg HB) (Aside0.mk (bs_ hg HB))))));clear HO0_4 HO0_5 HB;obtain ⟨HO0_4,HO0_5,HB,BK181,GW181,GE181⟩:=n_;clear hb hbox hg)|((with_reducible refine gate_dst (N:=4) rfl ?_);refine box_event ?hg (N:=4) ?hd (cs:=#[.int .i64 0,.bool false,.string (⟨#[]⟩ : ByteArray),.string (⟨#[]⟩ : ByteArray),.slice none 0 0,.slice none 0 0]) (t:=25) ?hr ?_;(case hd=>rfl);(case hg=>rfl);(case hr=>first|(go_simp;done)|(go_simp;rfl));intro gb182 hg w53 hbox hb;have n_:=J_ (Kd.V_below (Kd.V_elderB (vk_ HO0_4) gb182 (Nat.le_of_eq hg.symm)) hb) (J_ (Kd.V_below (Kd.V_elderB (vk_ HO0_5) gb182 (Nat.le_of_eq hg.symm)) hb) (J_ (bkb_ BK181 hb) (J_ (below_step (hb_ HB) hb) (J_ (hbox) (J_ (bs_ hg HB) (J_ (bs_ hg HB) (J_ ((by rw [hg];exact Nat.ne_of_lt (bkl_ BK181) : gb181 ≠ gb182)) (Aside0.mk ((by rw [hg];exact Nat.ne_of_gt (bkl_ BK181) : gb182 ≠ gb181))))))))));clear HO0_4 HO0_5 BK181 HB;obtain ⟨HO0_4,HO0_5,BK181,HB,BK182,GW182,GE182,NB181_182,NB182_181⟩:=n_;clear hb hbox hg;have hnb54:=NB181_182.out;have hnc54:=NB182_181.out;obtain ⟨hcz55_0,hcz55_1,hcz55_2,hcz55_3,hcz55_4,hcz55_5,hfz55_0,hfz55_1,hfz55_2,hfz55_3,hfz55_4,hfz55_5⟩:=cf6_ BK181)|((with_reducible refine gate_callee (f:=27) rfl ?_);refine goesL_ (some 14) rfl rfl Tryd.func27 (by kernel_rfl) rfl #[.agg #[.int .i64 a0_0,.bool a0_1,.string a0_2,.string a0_3,.slice A0_4 l0_4.length c0_4,.slice A0_5 l0_5.length c0_5]] rfl am_ ?_;(with_reducible refine (tree_Formed.calls k a0_0 a0_1 a0_2 a0_3 _ _ l0_4 _ _ l0_5 true _ ?side1 ?side2 ?side3 ?side4 A3.out).mono ?_);(case side1=>repeat (first|exact (Kd.V_reads' HO0_4.out).2.2|(with_reducible refine Kd.C_alloc ?_ _)|(with_reducible refine Kd.C_drewN ?_ _)|(with_reducible refine Kd.C_drew ?_)));(case side2=>exact (Kd.V_reads' HO0_4.out).2.1);(case side3=>repeat (first|exact (Kd.V_reads' HO0_5.out).2.2|(with_reducible refine Kd.C_alloc ?_ _)|(with_reducible refine Kd.C_drewN ?_ _)|(with_reducible refine Kd.C_drew ?_)));(case side4=>exact (Kd.V_reads' HO0_5.out).2.1);rintro e w56 ⟨rfl,hb⟩;refine ⟨_,rfl,?_⟩;have n_:=J_ (Kd.V_below (vk_ HO0_4) hb) (J_ (Kd.V_below (vk_ HO0_5) hb) (J_ (bkb_ BK181 hb) (J_ (bkb_ BK182 hb) (Aside0.mk (below_step (hb_ HB) hb)))));clear HO0_4 HO0_5 BK181 BK182 HB;obtain ⟨HO0_4,HO0_5,BK181,BK182,HB⟩:=n_;(try clear hb);(try clear hb2);(try clear hk);(try clear hi))|((with_reducible refine gate_callee (f:=15) rfl ?_);refine goesL_ (some 19) rfl rfl Tryd.func15 (by kernel_rfl) rfl #[.string a1] rfl am_ ?_;(with_reducible refine (pointer_Parse.calls a1 t184 t185 _ A5.out).mono ?_);rintro e w57 ⟨v186,rfl,ho0,hb⟩;refine ⟨_,rfl,?_⟩;have n_:=J_ (Kd.V_elder' (vk_ HO0_4) (Kd.R_base ho0) hb) (J_ (Kd.V_elder' (vk_ HO0_5) (Kd.R_base ho0) hb) (J_ (Kd.R_lower (Kd.R_newM (M:=fun k_=>(w.heap.size ≤ k_)) ho0 (below_size (hb_ HB)) (fun k_ h_=>h_)) (below_size (hb_ HB))) (J_ (bkb_ BK181 hb) (J_ (bkb_ BK182 hb) (Aside0.mk (below_step (hb_ HB) hb))))));clear HO0_4 HO0_5 BK181 BK182 HB;obtain ⟨HO0_4,HO0_5,HO187,BK181,BK182,HB⟩:=n_;(try clear hb);(try clear hb2);(try clear hk);(try clear hi);(try clear ho0);obtain ⟨hcz58_0,hcz58_1,hcz58_2,hcz58_3,hcz58_4,hcz58_5,hfz58_0,hfz58_1,hfz58_2,hfz58_3,hfz58_4,hfz58_5⟩:=cf6_ BK182))
   refine bodyPost_ret (results_ctt rfl _ _ gb182 25 #[.int .i64 0,.bool false,.string (⟨#[]⟩ : ByteArray),.string (⟨#[]⟩ : ByteArray),.slice none 0 0,.slice none 0 0] (0,0) _ rfl (by (with_reducible repeat (first|refine blk_drewN ?_ _|refine blk_drew ?_|refine blk_alloc ?_ _));refine bp_ (cs:=#[.int .i64 0,.bool false,.string (⟨#[]⟩ : ByteArray),.string (⟨#[]⟩ : ByteArray),.slice none 0 0,.slice none 0 0]) ?_ 5 _;refine bp_ (cs:=#[.int .i64 0,.bool false,.string (⟨#[]⟩ : ByteArray),.string (⟨#[]⟩ : ByteArray),.slice none 0 0,.slice none 0 0]) ?_ 4 _;refine bp_ (cs:=#[.int .i64 0,.bool false,.string (⟨#[]⟩ : ByteArray),.string (⟨#[]⟩ : ByteArray),.slice none 0 0,.slice none 0 0]) ?_ 3 _;refine bp_ (cs:=#[.int .i64 0,.bool false,.string (⟨#[]⟩ : ByteArray),.string (⟨#[]⟩ : ByteArray),.slice none 0 0,.slice none 0 0]) ?_ 2 _;refine bp_ (cs:=#[.int .i64 0,.bool false,.string (⟨#[]⟩ : ByteArray),.string (⟨#[]⟩ : ByteArray),.slice none 0 0,.slice none 0 0]) ?_ 1 _;refine bp_ (cs:=#[.int .i64 0,.bool false,.string (⟨#[]⟩ : ByteArray),.string (⟨#[]⟩ : ByteArray),.slice none 0 0,.slice none 0 0]) ?_ 0 _;(with_reducible repeat (first|refine blk_drewN ?_ _|refine blk_drew ?_|refine blk_alloc ?_ _));exact BK182.out) Tryd.underlying25 rfl (by kernel_rfl)) rfl ?_
   exact ⟨_,_,er_,Kd.V_nil _ _ _ _ _,Kd.V_nil _ _ _ _ _,(hb_ HB)⟩
 ·replace c4:=Bool.eq_false_iff.mpr c4
  subst c4
  have H1 : (some (0,false,(⟨#[]⟩ : ByteArray),(⟨#[]⟩ : ByteArray),([] : List ByteArray),([] : List (S25)),false,1)) = some (r1,r2,r3,r4,r5,r6,r7,r8):=by rw [if_neg (show ¬ (false = true) by decide)] at H;exact H
  clear H
  have H:=H1
  clear H1
  simp only [Option.some.injEq,Prod.mk.injEq] at H
  obtain ⟨rfl,rfl,rfl,rfl,rfl,rfl,rfl,rfl⟩:=H
  go_enter Tryd.func8,Tryd.ntmps8
  go_wp2_with (first|((with_reducible refine gate_dst (N:=2) rfl ?_);refine box_event ?hg (N:=2) ?hd (cs:=#[.int .i64 a0_0,.bool a0_1,.string a0_2,.string a0_3,.slice A0_4 l0_4.length c0_4,.slice A0_5 l0_5.length c0_5]) (t:=25) ?hr ?_;(case hd=>rfl);(case hg=>rfl);(case hr=>first|(go_simp;done)|(go_simp;rfl));intro gb181 hg w59 hbox hb;have n_:=J_ (Kd.V_below (Kd.V_elderB (vk_ HO0_4) gb181 (Nat.le_of_eq hg.symm)) hb) (J_ (Kd.V_below (Kd.V_elderB (vk_ HO0_5) gb181 (Nat.le_of_eq hg.symm)) hb) (J_ (below_step (hb_ HB) hb) (J_ (hbox) (J_ (bs_ hg HB) (Aside0.mk (bs_ hg HB))))));clear HO0_4 HO0_5 HB;obtain ⟨HO0_4,HO0_5,HB,BK181,GW181,GE181⟩:=n_;clear hb hbox hg)|((with_reducible refine gate_dst (N:=4) rfl ?_);refine box_event ?hg (N:=4) ?hd (cs:=#[.int .i64 0,.bool false,.string (⟨#[]⟩ : ByteArray),.string (⟨#[]⟩ : ByteArray),.slice none 0 0,.slice none 0 0]) (t:=25) ?hr ?_;(case hd=>rfl);(case hg=>rfl);(case hr=>first|(go_simp;done)|(go_simp;rfl));intro gb182 hg w60 hbox hb;have n_:=J_ (Kd.V_below (Kd.V_elderB (vk_ HO0_4) gb182 (Nat.le_of_eq hg.symm)) hb) (J_ (Kd.V_below (Kd.V_elderB (vk_ HO0_5) gb182 (Nat.le_of_eq hg.symm)) hb) (J_ (bkb_ BK181 hb) (J_ (below_step (hb_ HB) hb) (J_ (hbox) (J_ (bs_ hg HB) (J_ (bs_ hg HB) (J_ ((by rw [hg];exact Nat.ne_of_lt (bkl_ BK181) : gb181 ≠ gb182)) (Aside0.mk ((by rw [hg];exact Nat.ne_of_gt (bkl_ BK181) : gb182 ≠ gb181))))))))));clear HO0_4 HO0_5 BK181 HB;obtain ⟨HO0_4,HO0_5,BK181,HB,BK182,GW182,GE182,NB181_182,NB182_181⟩:=n_;clear hb hbox hg;have hnb61:=NB181_182.out;have hnc61:=NB182_181.out;obtain ⟨hcz62_0,hcz62_1,hcz62_2,hcz62_3,hcz62_4,hcz62_5,hfz62_0,hfz62_1,hfz62_2,hfz62_3,hfz62_4,hfz62_5⟩:=cf6_ BK181)|((with_reducible refine gate_callee (f:=27) rfl ?_);refine goesL_ (some 14) rfl rfl Tryd.func27 (by kernel_rfl) rfl #[.agg #[.int .i64 a0_0,.bool a0_1,.string a0_2,.string a0_3,.slice A0_4 l0_4.length c0_4,.slice A0_5 l0_5.length c0_5]] rfl am_ ?_;(with_reducible refine (tree_Formed.calls k a0_0 a0_1 a0_2 a0_3 _ _ l0_4 _ _ l0_5 false _ ?side1 ?side2 ?side3 ?side4 A3.out).mono ?_);(case side1=>repeat (first|exact (Kd.V_reads' HO0_4.out).2.2|(with_reducible refine Kd.C_alloc ?_ _)|(with_reducible refine Kd.C_drewN ?_ _)|(with_reducible refine Kd.C_drew ?_)));(case side2=>exact (Kd.V_reads' HO0_4.out).2.1);(case side3=>repeat (first|exact (Kd.V_reads' HO0_5.out).2.2|(with_reducible refine Kd.C_alloc ?_ _)|(with_reducible refine Kd.C_drewN ?_ _)|(with_reducible refine Kd.C_drew ?_)));(case side4=>exact (Kd.V_reads' HO0_5.out).2.1);rintro e w63 ⟨rfl,hb⟩;refine ⟨_,rfl,?_⟩;have n_:=J_ (Kd.V_below (vk_ HO0_4) hb) (J_ (Kd.V_below (vk_ HO0_5) hb) (J_ (bkb_ BK181 hb) (J_ (bkb_ BK182 hb) (Aside0.mk (below_step (hb_ HB) hb)))));clear HO0_4 HO0_5 BK181 BK182 HB;obtain ⟨HO0_4,HO0_5,BK181,BK182,HB⟩:=n_;(try clear hb);(try clear hb2);(try clear hk);(try clear hi);obtain ⟨hcz64_0,hcz64_1,hcz64_2,hcz64_3,hcz64_4,hcz64_5,hfz64_0,hfz64_1,hfz64_2,hfz64_3,hfz64_4,hfz64_5⟩:=cf6_ BK182))
  refine bodyPost_ret (results_ctt rfl _ _ gb182 25 #[.int .i64 0,.bool false,.string (⟨#[]⟩ : ByteArray),.string (⟨#[]⟩ : ByteArray),.slice none 0 0,.slice none 0 0] (0,0) _ rfl (by (with_reducible repeat (first|refine blk_drewN ?_ _|refine blk_drew ?_|refine blk_alloc ?_ _));refine bp_ (cs:=#[.int .i64 0,.bool false,.string (⟨#[]⟩ : ByteArray),.string (⟨#[]⟩ : ByteArray),.slice none 0 0,.slice none 0 0]) ?_ 5 _;refine bp_ (cs:=#[.int .i64 0,.bool false,.string (⟨#[]⟩ : ByteArray),.string (⟨#[]⟩ : ByteArray),.slice none 0 0,.slice none 0 0]) ?_ 4 _;refine bp_ (cs:=#[.int .i64 0,.bool false,.string (⟨#[]⟩ : ByteArray),.string (⟨#[]⟩ : ByteArray),.slice none 0 0,.slice none 0 0]) ?_ 3 _;refine bp_ (cs:=#[.int .i64 0,.bool false,.string (⟨#[]⟩ : ByteArray),.string (⟨#[]⟩ : ByteArray),.slice none 0 0,.slice none 0 0]) ?_ 2 _;refine bp_ (cs:=#[.int .i64 0,.bool false,.string (⟨#[]⟩ : ByteArray),.string (⟨#[]⟩ : ByteArray),.slice none 0 0,.slice none 0 0]) ?_ 1 _;refine bp_ (cs:=#[.int .i64 0,.bool false,.string (⟨#[]⟩ : ByteArray),.string (⟨#[]⟩ : ByteArray),.slice none 0 0,.slice none 0 0]) ?_ 0 _;(with_reducible repeat (first|refine blk_drewN ?_ _|refine blk_drew ?_|refine blk_alloc ?_ _));exact BK182.out) Tryd.underlying25 rfl (by kernel_rfl)) rfl ?_
  exact ⟨_,_,er_,Kd.V_nil _ _ _ _ _,Kd.V_nil _ _ _ _ _,(hb_ HB)⟩
end Go.Proofs.YtppenppagkfigaaDoor.PPointerBack
