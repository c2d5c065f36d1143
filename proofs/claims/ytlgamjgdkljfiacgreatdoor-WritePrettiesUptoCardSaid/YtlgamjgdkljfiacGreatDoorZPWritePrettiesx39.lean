-- Written by shrink.py, a program of this session: what the law needs of the print and its words. Lean checks it.
import Derived.Test.YtlgamjgdkljfiacGreatDoorZPWritePrettiesx0
import Derived.Test.YtlgamjgdkljfiacGreatDoorZPWritePrettiesx38
namespace Go.Proofs.YtlgamjgdkljfiacGreatDoor.PWritePretties
open Go.RowKit Go.Proofs.YtlgamjgdkljfiacGreatDoorW.PrintWords Go.Proofs.YtlgamjgdkljfiacGreatDoorW.PrintLast Go.Proofs.YtlgamjgdkljfiacGreatDoorW.PrintMore
attribute [local go_sem] max2_int min2_int max_two min_two max_three min_three max_four min_four
set_option linter.unusedVariables false
set_option linter.unusedSimpArgs false
def quarryref05_Size.j0 : Nat → Int → Bool → Option (Int)
 | 0,_,_=>none
 | k + 1,x0,x16=>if x16 = true then (some 0) else (if x0 < 128 then (some 1) else (if x0 < 2048 then (some 2) else (if x0 < 65536 then (some 3) else (some 4))))
def quarryref05_Size.f (k : Nat) (a0 : Int) : Option (Int):=if a0 < 0 then (quarryref05_Size.j0 k a0 true) else (if a0 > 1114111 then (quarryref05_Size.j0 k a0 true) else (if a0 ≥ 55296 then (quarryref05_Size.j0 k a0 (decide (a0 ≤ 57343))) else (quarryref05_Size.j0 k a0 false)))
set_option maxHeartbeats 8000000 in
set_option maxRecDepth 100000 in
theorem quarryref05_Size.calls (k : Nat) (a0 : Int) (r : Int) (w : World) (h : quarryref05_Size.f k a0 = some r) :
  Calls Tryz.prog 129 #[.int .i32 a0] w fun e w'=>e = .returned (.int .i64 r) ∧ Drawn0 w w':=by
 have H : (if a0 < 0 then (quarryref05_Size.j0 k a0 true) else (if a0 > 1114111 then (quarryref05_Size.j0 k a0 true) else (if a0 ≥ 55296 then (quarryref05_Size.j0 k a0 (decide (a0 ≤ 57343))) else (quarryref05_Size.j0 k a0 false)))) = some r:=h;clear h;have HC2:=Aside0.mk H;clear H;go_enter Tryz.func129,Tryz.ntmps129
 go_upto_region 1 with (fail)
 go_cut [16] (fun v16 wc=>∃ (kq : Nat) (x16_1 : Bool),v16 = .bool x16_1 ∧ Aside0 (quarryref05_Size.j0 kq a0 x16_1 = some r) ∧ Aside0 (kq ≤ k) ∧ Drawn0 w wc)
 case first =>
  have H:=HC2.out;clear HC2
  by_cases c3 : a0 < 0
  ·rw [if_pos c3] at H
   have c3b0 : decide (a0 < 0) = true:=decide_eq_true c3;clear c3
   (first|rw [c3b0]|(simp only [i64_w,i32_w];rw [c3b0])|skip)
   have H':=Aside0.mk H;clear H;go_wp2
   go_meet
   case rel=>exact ⟨_,(true),rr_,(by first|exact H'|(subst_vars;exact H')),⟨by first|omega|exact Nat.le_refl _⟩,by repeat (first|exact Drawn0.refl _|apply Drawn0.step)⟩
  rw [if_neg c3] at H
  have c3b0 : decide (a0 < 0) = false:=decide_eq_false c3;clear c3
  (first|rw [c3b0]|(simp only [i64_w,i32_w];rw [c3b0])|skip)
  by_cases c4 : a0 > 1114111
  ·rw [if_pos c4] at H
   have c4b0 : decide (1114111 < a0) = true:=decide_eq_true c4;clear c4;have H':=Aside0.mk H;clear H;go_wp2
   go_meet
   case rel=>exact ⟨_,(true),rr_,(by first|exact H'|(subst_vars;exact H')),⟨by first|omega|exact Nat.le_refl _⟩,by repeat (first|exact Drawn0.refl _|apply Drawn0.step)⟩
  rw [if_neg c4] at H
  have c4b0 : decide (1114111 < a0) = false:=decide_eq_false c4;clear c4
  by_cases c5 : a0 ≥ 55296
  ·rw [if_pos c5] at H
   have c5b0 : decide (55296 ≤ a0) = true:=decide_eq_true c5;clear c5;have H':=Aside0.mk H;clear H;go_wp2
   go_meet
   case rel=>exact ⟨_,(decide (a0 ≤ 57343)),rr_,(by first|exact H'|(subst_vars;exact H')),⟨by first|omega|exact Nat.le_refl _⟩,by repeat (first|exact Drawn0.refl _|apply Drawn0.step)⟩
  rw [if_neg c5] at H
  have c5b0 : decide (55296 ≤ a0) = false:=decide_eq_false c5;clear c5;have H':=Aside0.mk H;clear H;go_wp2
  go_meet
  case rel=>exact ⟨_,(false),rr_,(by first|exact H'|(subst_vars;exact H')),⟨by first|omega|exact Nat.le_refl _⟩,by repeat (first|exact Drawn0.refl _|apply Drawn0.step)⟩
 case rest =>
  clear HC2;obtain ⟨kq,x16_1,rfl,HA,HJ1,⟨mc1,rfl⟩⟩:=hcut
  cases kq with
  | zero=>exact absurd HA.out (by simp [quarryref05_Size.j0])
  | succ kj1 =>
   have H:=HA.out;clear HA
   simp only [quarryref05_Size.j0] at H
   by_cases c6 : x16_1 = true
   ·subst c6
    have H1 : (some 0) = some r:=by rw [if_pos rfl] at H;exact H
    clear H;have H:=H1;clear H1;obtain rfl:=Option.some.inj H;go_wp2
    go_ret;exact ⟨by first|rfl|(simp;done)|(simp [*];done),by repeat (first|exact Drawn0.refl _|apply Drawn0.step)⟩
   replace c6:=Bool.eq_false_iff.mpr c6;subst c6
   have H1 : (if a0 < 128 then (some 1) else (if a0 < 2048 then (some 2) else (if a0 < 65536 then (some 3) else (some 4)))) = some r:=by rw [if_neg (show ¬ (false = true) by decide)] at H;exact H
   clear H;have H:=H1;clear H1
   by_cases c7 : a0 < 128
   ·rw [if_pos c7] at H
    have c7b0 : decide (a0 < 128) = true:=decide_eq_true c7;clear c7;obtain rfl:=Option.some.inj H;go_wp2
    go_ret;exact ⟨by first|rfl|(simp;done)|(simp [*];done),by repeat (first|exact Drawn0.refl _|apply Drawn0.step)⟩
   rw [if_neg c7] at H
   have c7b0 : decide (a0 < 128) = false:=decide_eq_false c7;clear c7
   by_cases c8 : a0 < 2048
   ·rw [if_pos c8] at H
    have c8b0 : decide (a0 < 2048) = true:=decide_eq_true c8;clear c8;obtain rfl:=Option.some.inj H;go_wp2
    go_ret;exact ⟨by first|rfl|(simp;done)|(simp [*];done),by repeat (first|exact Drawn0.refl _|apply Drawn0.step)⟩
   rw [if_neg c8] at H
   have c8b0 : decide (a0 < 2048) = false:=decide_eq_false c8;clear c8
   by_cases c9 : a0 < 65536
   ·rw [if_pos c9] at H
    have c9b0 : decide (a0 < 65536) = true:=decide_eq_true c9;clear c9;obtain rfl:=Option.some.inj H;go_wp2
    go_ret;exact ⟨by first|rfl|(simp;done)|(simp [*];done),by repeat (first|exact Drawn0.refl _|apply Drawn0.step)⟩
   rw [if_neg c9] at H
   have c9b0 : decide (a0 < 65536) = false:=decide_eq_false c9;clear c9;obtain rfl:=Option.some.inj H;go_wp2
   go_ret;exact ⟨by first|rfl|(simp;done)|(simp [*];done),by repeat (first|exact Drawn0.refl _|apply Drawn0.step)⟩
def quarryref05_Begins.l0 : Nat → List Int → Int → Int → Int → Option (Bool × Int × Bool)
 | 0,_,_,_,_=>none
 | k + 1,x0,x5,x7,x8=>if x8 ≤ x7 then ((quarryref05_Size.f k (wrap32 (x8))).bind fun t462=>(if t462 = x5 then (some (true,wrap32 (x8),((x0.length : Int) == x5))) else (if x8 = 55296 then (if x7 > 57343 then (quarryref05_Begins.l0 k x0 x5 x7 (57343 + 1)) else (quarryref05_Begins.l0 k x0 x5 x7 (wrap64 (x8 + 1)))) else (quarryref05_Begins.l0 k x0 x5 x7 (wrap64 (x8 + 1)))))) else (some (false,0,false))
def quarryref05_Begins.f (k : Nat) (l0 : List Int) : Option (Bool × Int × Bool):=(quarryref05_span.f k l0).bind fun bt459=>(quarryref05_Begins.l0 k l0 bt459.1 bt459.2.2 bt459.2.1)
set_option maxHeartbeats 8000000 in
set_option maxRecDepth 100000 in
theorem quarryref05_Begins.calls (k : Nat) (A0 : Option Addr) (c0 : Nat) (l0 : List Int) (r1 : Bool) (r2 : Int) (r3 : Bool) (w : World) (hr0 : Kd.C (Kd.int .u8) w A0 l0.length l0) (hc0 : l0.length ≤ c0) (h : quarryref05_Begins.f k l0 = some (r1,r2,r3)) :
  Calls Tryz.prog 111 #[.slice A0 l0.length c0] w fun e w'=>e = .returned (.tuple #[.bool r1,.int .i32 r2,.bool r3]) ∧ Drawn0 w w':=by
 have HR0:=Aside0.mk hr0;have HC0:=Aside0.mk hc0;clear hr0 hc0;have H : ((quarryref05_span.f k l0).bind fun bt459=>(quarryref05_Begins.l0 k l0 bt459.1 bt459.2.2 bt459.2.1)) = some (r1,r2,r3):=h;clear h;replace H:=Option.bind_eq_some_iff.mp H;obtain ⟨⟨t459,t460,t461⟩,A20,H⟩:=H;replace H : (quarryref05_Begins.l0 k l0 t459 t461 t460) = some (r1,r2,r3):=H;have A2:=Aside0.mk A20;clear A20;have H':=Aside0.mk H;clear H;go_enter Tryz.func111,Tryz.ntmps111
 go_wp2_with (first|((with_reducible refine gate_callee (f:=128) rfl ?_);refine goesL_ (some 11) rfl rfl Tryz.func128 (by kernel_rfl) rfl #[.slice A0 l0.length c0] rfl am_ ?_;(with_reducible refine (quarryref05_span.calls k _ _ l0 t459 t460 t461 _ ?side1 ?side2 A2.out).mono ?_);(case side1=>repeat (first|exact HR0.out|(with_reducible refine Kd.C_alloc ?_ _)|(with_reducible refine Kd.C_drewN ?_ _)|(with_reducible refine Kd.C_drew ?_)));(case side2=>exact HC0.out);rintro e w' ⟨rfl,⟨nd,rfl⟩⟩;refine ⟨_,rfl,?_⟩))
 go_loopg [8] k (fun kq v8 w'=>∃ (x8_1 : Int),v8 = .int .i64 x8_1 ∧ Aside0 (quarryref05_Begins.l0 kq l0 t459 t461 x8_1 = some (r1,r2,r3)) ∧ Aside0 (kq ≤ k) ∧ Drawn0 w w')
 case atStart=>exact ⟨(t460),rr_,H',⟨Nat.le_refl _⟩,by repeat (first|exact Drawn0.refl _|apply Drawn0.step)⟩
 case round =>
  clear H';obtain ⟨x8_1,rfl,HA,HK1,⟨m1,rfl⟩⟩:=hrel
  cases gk with
  | zero=>exact absurd HA.out (by simp [quarryref05_Begins.l0])
  | succ k1 =>
   have H:=HA.out;clear HA
   simp only [quarryref05_Begins.l0] at H
   by_cases c3 : x8_1 ≤ t461
   ·rw [if_pos c3] at H
    have c3b0 : decide (x8_1 ≤ t461) = true:=decide_eq_true c3;clear c3;replace H:=Option.bind_eq_some_iff.mp H;obtain ⟨t462,A40,H⟩:=H;replace H : (if t462 = t459 then (some (true,wrap32 (x8_1),((l0.length : Int) == t459))) else (if x8_1 = 55296 then (if t461 > 57343 then (quarryref05_Begins.l0 k1 l0 t459 t461 (57343 + 1)) else (quarryref05_Begins.l0 k1 l0 t459 t461 (wrap64 (x8_1 + 1)))) else (quarryref05_Begins.l0 k1 l0 t459 t461 (wrap64 (x8_1 + 1))))) = some (r1,r2,r3):=H;have A4:=Aside0.mk A40;clear A40
    by_cases c5 : t462 = t459
    ·rw [if_pos c5] at H
     have c5b0 : (t462 == t459) = true:=beq_iff_eq.mpr c5;have c5b1 : (t462 != t459) = false:=bne_eq_false_iff_eq.mpr c5;clear c5
     simp only [Option.some.injEq,Prod.mk.injEq] at H
     obtain ⟨rfl,rfl,rfl⟩:=H
     go_wp2_with (first|((with_reducible refine gate_callee (f:=129) rfl ?_);refine goesL_ (some 23) rfl rfl Tryz.func129 (by kernel_rfl) rfl #[.int .i32 (wrap32 (x8_1))] rfl am_ ?_;(with_reducible refine (quarryref05_Size.calls k1 (wrap32 (x8_1)) t462 _ A4.out).mono ?_);rintro e w' ⟨rfl,⟨nd,rfl⟩⟩;refine ⟨_,rfl,?_⟩))
     go_ret3
     exact ⟨by first|rfl|(simp;done)|(simp [*];done),by repeat (first|exact Drawn0.refl _|apply Drawn0.step)⟩
    rw [if_neg c5] at H
    have c5b0 : (t462 == t459) = false:=beq_eq_false_iff_ne.mpr c5;have c5b1 : (t462 != t459) = true:=bne_iff_ne.mpr c5
    by_cases c6 : x8_1 = 55296
    ·rw [if_pos c6] at H
     have c6b0 : (x8_1 == 55296) = true:=beq_iff_eq.mpr c6;have c6b1 : (x8_1 != 55296) = false:=bne_eq_false_iff_eq.mpr c6;clear c6
     by_cases c7 : t461 > 57343
     ·rw [if_pos c7] at H
      have c7b0 : decide (57343 < t461) = true:=decide_eq_true c7;clear c7;have H':=Aside0.mk H;clear H
      go_wp2_with (first|((with_reducible refine gate_callee (f:=129) rfl ?_);refine goesL_ (some 23) rfl rfl Tryz.func129 (by kernel_rfl) rfl #[.int .i32 (wrap32 (x8_1))] rfl am_ ?_;(with_reducible refine (quarryref05_Size.calls k1 (wrap32 (x8_1)) t462 _ A4.out).mono ?_);rintro e w' ⟨rfl,⟨nd,rfl⟩⟩;refine ⟨_,rfl,?_⟩))
      go_roundg k1
      case measure=>have:=HK1.out;omega
      case rel=>exact ⟨(57343 + 1),rr_,(by first|exact H'|(subst_vars;exact H')),⟨by have:=HK1.out;omega⟩,by repeat (first|exact Drawn0.refl _|apply Drawn0.step)⟩
     rw [if_neg c7] at H
     have c7b0 : decide (57343 < t461) = false:=decide_eq_false c7;clear c7;have H':=Aside0.mk H;clear H
     go_wp2_with (first|((with_reducible refine gate_callee (f:=129) rfl ?_);refine goesL_ (some 23) rfl rfl Tryz.func129 (by kernel_rfl) rfl #[.int .i32 (wrap32 (x8_1))] rfl am_ ?_;(with_reducible refine (quarryref05_Size.calls k1 (wrap32 (x8_1)) t462 _ A4.out).mono ?_);rintro e w' ⟨rfl,⟨nd,rfl⟩⟩;refine ⟨_,rfl,?_⟩))
     go_roundg k1
     case measure=>have:=HK1.out;omega
     case rel=>exact ⟨(wrap64 (x8_1 + 1)),rr_,(by first|exact H'|(subst_vars;exact H')),⟨by have:=HK1.out;omega⟩,by repeat (first|exact Drawn0.refl _|apply Drawn0.step)⟩
    rw [if_neg c6] at H
    have c6b0 : (x8_1 == 55296) = false:=beq_eq_false_iff_ne.mpr c6;have c6b1 : (x8_1 != 55296) = true:=bne_iff_ne.mpr c6;have H':=Aside0.mk H;clear H
    go_wp2_with (first|((with_reducible refine gate_callee (f:=129) rfl ?_);refine goesL_ (some 23) rfl rfl Tryz.func129 (by kernel_rfl) rfl #[.int .i32 (wrap32 (x8_1))] rfl am_ ?_;(with_reducible refine (quarryref05_Size.calls k1 (wrap32 (x8_1)) t462 _ A4.out).mono ?_);rintro e w' ⟨rfl,⟨nd,rfl⟩⟩;refine ⟨_,rfl,?_⟩))
    go_roundg k1
    case measure=>have:=HK1.out;omega
    case rel=>exact ⟨(wrap64 (x8_1 + 1)),rr_,(by first|exact H'|(subst_vars;exact H')),⟨by have:=HK1.out;omega⟩,by repeat (first|exact Drawn0.refl _|apply Drawn0.step)⟩
   rw [if_neg c3] at H
   have c3b0 : decide (x8_1 ≤ t461) = false:=decide_eq_false c3;clear c3
   simp only [Option.some.injEq,Prod.mk.injEq] at H
   obtain ⟨rfl,rfl,rfl⟩:=H;go_wp2
   go_ret3
   exact ⟨by first|rfl|(simp;done)|(simp [*];done),by repeat (first|exact Drawn0.refl _|apply Drawn0.step)⟩
end Go.Proofs.YtlgamjgdkljfiacGreatDoor.PWritePretties
