-- Written by shrink.py, a program of this session: what the law needs of the print and its words. Lean checks it.
import Derived.Test.YtlgamjgdkljfiacGreatDoorZPWritePrettiesx0
namespace Go.Proofs.YtlgamjgdkljfiacGreatDoor.PWritePretties
open Go.RowKit Go.Proofs.YtlgamjgdkljfiacGreatDoorW.PrintWords Go.Proofs.YtlgamjgdkljfiacGreatDoorW.PrintLast Go.Proofs.YtlgamjgdkljfiacGreatDoorW.PrintMore
attribute [local go_sem] max2_int min2_int max_two min_two max_three min_three max_four min_four
set_option linter.unusedVariables false
set_option linter.unusedSimpArgs false
def quarryref11_number.l0 : Nat → ByteArray → Int → Bool → Int → Int → Option (Int)
 | 0,_,_,_,_,_=>none
 | k + 1,x0,x1,x5,x6,x7=>if x7 < (x0.size : Int) then (if 0 ≤ x7 then (if (bt x0 x7) = 45 then (if (bt x0 x7) ≥ 48 then (if (bt x0 x7) ≤ 57 then (if x6 ≤ x1 then (quarryref11_number.l0 k x0 x1 true (wrap64 ((wrap64 ((wrap64 (x6 * 10)) + (wrap64 (bt x0 x7)))) - 48)) (wrap64 (x7 + 1))) else (quarryref11_number.l0 k x0 x1 true x6 (wrap64 (x7 + 1)))) else (quarryref11_number.l0 k x0 x1 true x6 (wrap64 (x7 + 1)))) else (quarryref11_number.l0 k x0 x1 true x6 (wrap64 (x7 + 1)))) else (if (bt x0 x7) ≥ 48 then (if (bt x0 x7) ≤ 57 then (if x6 ≤ x1 then (quarryref11_number.l0 k x0 x1 x5 (wrap64 ((wrap64 ((wrap64 (x6 * 10)) + (wrap64 (bt x0 x7)))) - 48)) (wrap64 (x7 + 1))) else (quarryref11_number.l0 k x0 x1 x5 x6 (wrap64 (x7 + 1)))) else (quarryref11_number.l0 k x0 x1 x5 x6 (wrap64 (x7 + 1)))) else (quarryref11_number.l0 k x0 x1 x5 x6 (wrap64 (x7 + 1))))) else (none)) else (if x6 > x1 then (if x5 = true then (some (wrap64 (-(wrap64 (x1 + 1))))) else (some (wrap64 (x1 + 1)))) else (if x5 = true then (some (wrap64 (-x6))) else (some x6)))
def quarryref11_number.f (k : Nat) (a0 : ByteArray) (a1 : Int) : Option (Int):=quarryref11_number.l0 k a0 a1 false 0 0
set_option maxHeartbeats 8000000 in
set_option maxRecDepth 100000 in
theorem quarryref11_number.calls (k : Nat) (a0 : ByteArray) (a1 : Int) (r : Int) (w : World) (h : quarryref11_number.f k a0 a1 = some r) :
  Calls Tryz.prog 109 #[.string a0,.int .i64 a1] w fun e w'=>e = .returned (.int .i64 r) ∧ Drawn0 w w':=by
 have H : (quarryref11_number.l0 k a0 a1 false 0 0) = some r:=h;clear h;have H':=Aside0.mk H;clear H;go_enter Tryz.func109,Tryz.ntmps109;go_wp2
 go_loopg [5,6,7] k (fun kq v5 v6 v7 w'=>∃ (x5_1 : Bool) (x6_1 : Int) (x7_1 : Int),v5 = .bool x5_1 ∧ v6 = .int .i64 x6_1 ∧ v7 = .int .i64 x7_1 ∧ Aside0 (quarryref11_number.l0 kq a0 a1 x5_1 x6_1 x7_1 = some r) ∧ Aside0 (kq ≤ k) ∧ Drawn0 w w')
 case atStart=>exact ⟨(false),(0),(0),rr_,rr_,rr_,H',⟨Nat.le_refl _⟩,by repeat (first|exact Drawn0.refl _|apply Drawn0.step)⟩
 case round =>
  clear H';obtain ⟨x5_1,x6_1,x7_1,rfl,rfl,rfl,HA,HK1,⟨m1,rfl⟩⟩:=hrel
  cases gk with
  | zero=>exact absurd HA.out (by simp [quarryref11_number.l0])
  | succ k1 =>
   have H:=HA.out;clear HA
   simp only [quarryref11_number.l0] at H
   by_cases c3 : x7_1 < (a0.size : Int)
   ·rw [if_pos c3] at H
    have c3b0 : decide (x7_1 < (a0.size : Int)) = true:=decide_eq_true c3;clear c3
    by_cases c4 : 0 ≤ x7_1
    ·rw [if_pos c4] at H
     have c4b0 : decide (0 ≤ x7_1) = true:=decide_eq_true c4;clear c4
     by_cases c6 : (bt a0 x7_1) = 45
     ·rw [if_pos c6] at H
      have c6b0 : ((bt a0 x7_1) == 45) = true:=beq_iff_eq.mpr c6;have c6b1 : ((bt a0 x7_1) != 45) = false:=bne_eq_false_iff_eq.mpr c6;clear c6
      by_cases c8 : (bt a0 x7_1) ≥ 48
      ·rw [if_pos c8] at H
       have c8b0 : decide (48 ≤ (bt a0 x7_1)) = true:=decide_eq_true c8;clear c8
       by_cases c10 : (bt a0 x7_1) ≤ 57
       ·rw [if_pos c10] at H
        have c10b0 : decide ((bt a0 x7_1) ≤ 57) = true:=decide_eq_true c10;clear c10
        by_cases c11 : x6_1 ≤ a1
        ·rw [if_pos c11] at H
         have c11b0 : decide (x6_1 ≤ a1) = true:=decide_eq_true c11;clear c11;have H':=Aside0.mk H;clear H;have p5 : 0 ≤ (x7_1 : Int):=of_decide_eq_true aa_;have q5 : x7_1 < (a0.size : Int):=of_decide_eq_true aa_;have hx5:=bt_at a0 x7_1;replace p5:=eq_true p5;replace q5:=eq_true q5;have p7 : 0 ≤ (x7_1 : Int):=of_decide_eq_true aa_;have q7 : x7_1 < (a0.size : Int):=of_decide_eq_true aa_;have hx7:=bt_at a0 x7_1;replace p7:=eq_true p7;replace q7:=eq_true q7;have p9 : 0 ≤ (x7_1 : Int):=of_decide_eq_true aa_;have q9 : x7_1 < (a0.size : Int):=of_decide_eq_true aa_;have hx9:=bt_at a0 x7_1;replace p9:=eq_true p9;replace q9:=eq_true q9;have p12 : 0 ≤ (x7_1 : Int):=of_decide_eq_true aa_;have q12 : x7_1 < (a0.size : Int):=of_decide_eq_true aa_;have hx12:=bt_at a0 x7_1;replace p12:=eq_true p12;replace q12:=eq_true q12;go_wp2
         go_roundg k1
         case measure=>have:=HK1.out;omega
         case rel=>exact ⟨(true),(wrap64 ((wrap64 ((wrap64 (x6_1 * 10)) + (wrap64 (bt a0 x7_1)))) - 48)),(wrap64 (x7_1 + 1)),rr_,rr_,rr_,(by first|exact H'|(subst_vars;exact H')),⟨by have:=HK1.out;omega⟩,by repeat (first|exact Drawn0.refl _|apply Drawn0.step)⟩
        rw [if_neg c11] at H
        have c11b0 : decide (x6_1 ≤ a1) = false:=decide_eq_false c11;clear c11;have H':=Aside0.mk H;clear H;have p5 : 0 ≤ (x7_1 : Int):=of_decide_eq_true aa_;have q5 : x7_1 < (a0.size : Int):=of_decide_eq_true aa_;have hx5:=bt_at a0 x7_1;replace p5:=eq_true p5;replace q5:=eq_true q5;have p7 : 0 ≤ (x7_1 : Int):=of_decide_eq_true aa_;have q7 : x7_1 < (a0.size : Int):=of_decide_eq_true aa_;have hx7:=bt_at a0 x7_1;replace p7:=eq_true p7;replace q7:=eq_true q7;have p9 : 0 ≤ (x7_1 : Int):=of_decide_eq_true aa_;have q9 : x7_1 < (a0.size : Int):=of_decide_eq_true aa_;have hx9:=bt_at a0 x7_1;replace p9:=eq_true p9;replace q9:=eq_true q9;go_wp2
        go_roundg k1
        case measure=>have:=HK1.out;omega
        case rel=>exact ⟨(true),(x6_1),(wrap64 (x7_1 + 1)),rr_,rr_,rr_,(by first|exact H'|(subst_vars;exact H')),⟨by have:=HK1.out;omega⟩,by repeat (first|exact Drawn0.refl _|apply Drawn0.step)⟩
       rw [if_neg c10] at H
       have c10b0 : decide ((bt a0 x7_1) ≤ 57) = false:=decide_eq_false c10;clear c10;have H':=Aside0.mk H;clear H;have p5 : 0 ≤ (x7_1 : Int):=of_decide_eq_true aa_;have q5 : x7_1 < (a0.size : Int):=of_decide_eq_true aa_;have hx5:=bt_at a0 x7_1;replace p5:=eq_true p5;replace q5:=eq_true q5;have p7 : 0 ≤ (x7_1 : Int):=of_decide_eq_true aa_;have q7 : x7_1 < (a0.size : Int):=of_decide_eq_true aa_;have hx7:=bt_at a0 x7_1;replace p7:=eq_true p7;replace q7:=eq_true q7;have p9 : 0 ≤ (x7_1 : Int):=of_decide_eq_true aa_;have q9 : x7_1 < (a0.size : Int):=of_decide_eq_true aa_;have hx9:=bt_at a0 x7_1;replace p9:=eq_true p9;replace q9:=eq_true q9;go_wp2
       go_roundg k1
       case measure=>have:=HK1.out;omega
       case rel=>exact ⟨(true),(x6_1),(wrap64 (x7_1 + 1)),rr_,rr_,rr_,(by first|exact H'|(subst_vars;exact H')),⟨by have:=HK1.out;omega⟩,by repeat (first|exact Drawn0.refl _|apply Drawn0.step)⟩
      rw [if_neg c8] at H
      have c8b0 : decide (48 ≤ (bt a0 x7_1)) = false:=decide_eq_false c8;clear c8;have H':=Aside0.mk H;clear H;have p5 : 0 ≤ (x7_1 : Int):=of_decide_eq_true aa_;have q5 : x7_1 < (a0.size : Int):=of_decide_eq_true aa_;have hx5:=bt_at a0 x7_1;replace p5:=eq_true p5;replace q5:=eq_true q5;have p7 : 0 ≤ (x7_1 : Int):=of_decide_eq_true aa_;have q7 : x7_1 < (a0.size : Int):=of_decide_eq_true aa_;have hx7:=bt_at a0 x7_1;replace p7:=eq_true p7;replace q7:=eq_true q7;go_wp2
      go_roundg k1
      case measure=>have:=HK1.out;omega
      case rel=>exact ⟨(true),(x6_1),(wrap64 (x7_1 + 1)),rr_,rr_,rr_,(by first|exact H'|(subst_vars;exact H')),⟨by have:=HK1.out;omega⟩,by repeat (first|exact Drawn0.refl _|apply Drawn0.step)⟩
     rw [if_neg c6] at H
     have c6b0 : ((bt a0 x7_1) == 45) = false:=beq_eq_false_iff_ne.mpr c6;have c6b1 : ((bt a0 x7_1) != 45) = true:=bne_iff_ne.mpr c6
     by_cases c14 : (bt a0 x7_1) ≥ 48
     ·rw [if_pos c14] at H
      have c14b0 : decide (48 ≤ (bt a0 x7_1)) = true:=decide_eq_true c14;clear c14
      by_cases c16 : (bt a0 x7_1) ≤ 57
      ·rw [if_pos c16] at H
       have c16b0 : decide ((bt a0 x7_1) ≤ 57) = true:=decide_eq_true c16;clear c16
       by_cases c17 : x6_1 ≤ a1
       ·rw [if_pos c17] at H
        have c17b0 : decide (x6_1 ≤ a1) = true:=decide_eq_true c17;clear c17;have H':=Aside0.mk H;clear H;have p5 : 0 ≤ (x7_1 : Int):=of_decide_eq_true aa_;have q5 : x7_1 < (a0.size : Int):=of_decide_eq_true aa_;have hx5:=bt_at a0 x7_1;replace p5:=eq_true p5;replace q5:=eq_true q5;have p13 : 0 ≤ (x7_1 : Int):=of_decide_eq_true aa_;have q13 : x7_1 < (a0.size : Int):=of_decide_eq_true aa_;have hx13:=bt_at a0 x7_1;replace p13:=eq_true p13;replace q13:=eq_true q13;have p15 : 0 ≤ (x7_1 : Int):=of_decide_eq_true aa_;have q15 : x7_1 < (a0.size : Int):=of_decide_eq_true aa_;have hx15:=bt_at a0 x7_1;replace p15:=eq_true p15;replace q15:=eq_true q15;have p18 : 0 ≤ (x7_1 : Int):=of_decide_eq_true aa_;have q18 : x7_1 < (a0.size : Int):=of_decide_eq_true aa_;have hx18:=bt_at a0 x7_1;replace p18:=eq_true p18;replace q18:=eq_true q18;go_wp2
        go_roundg k1
        case measure=>have:=HK1.out;omega
        case rel=>exact ⟨(x5_1),(wrap64 ((wrap64 ((wrap64 (x6_1 * 10)) + (wrap64 (bt a0 x7_1)))) - 48)),(wrap64 (x7_1 + 1)),rr_,rr_,rr_,(by first|exact H'|(subst_vars;exact H')),⟨by have:=HK1.out;omega⟩,by repeat (first|exact Drawn0.refl _|apply Drawn0.step)⟩
       rw [if_neg c17] at H
       have c17b0 : decide (x6_1 ≤ a1) = false:=decide_eq_false c17;clear c17;have H':=Aside0.mk H;clear H;have p5 : 0 ≤ (x7_1 : Int):=of_decide_eq_true aa_;have q5 : x7_1 < (a0.size : Int):=of_decide_eq_true aa_;have hx5:=bt_at a0 x7_1;replace p5:=eq_true p5;replace q5:=eq_true q5;have p13 : 0 ≤ (x7_1 : Int):=of_decide_eq_true aa_;have q13 : x7_1 < (a0.size : Int):=of_decide_eq_true aa_;have hx13:=bt_at a0 x7_1;replace p13:=eq_true p13;replace q13:=eq_true q13;have p15 : 0 ≤ (x7_1 : Int):=of_decide_eq_true aa_;have q15 : x7_1 < (a0.size : Int):=of_decide_eq_true aa_;have hx15:=bt_at a0 x7_1;replace p15:=eq_true p15;replace q15:=eq_true q15;go_wp2
       go_roundg k1
       case measure=>have:=HK1.out;omega
       case rel=>exact ⟨(x5_1),(x6_1),(wrap64 (x7_1 + 1)),rr_,rr_,rr_,(by first|exact H'|(subst_vars;exact H')),⟨by have:=HK1.out;omega⟩,by repeat (first|exact Drawn0.refl _|apply Drawn0.step)⟩
      rw [if_neg c16] at H
      have c16b0 : decide ((bt a0 x7_1) ≤ 57) = false:=decide_eq_false c16;clear c16;have H':=Aside0.mk H;clear H;have p5 : 0 ≤ (x7_1 : Int):=of_decide_eq_true aa_;have q5 : x7_1 < (a0.size : Int):=of_decide_eq_true aa_;have hx5:=bt_at a0 x7_1;replace p5:=eq_true p5;replace q5:=eq_true q5;have p13 : 0 ≤ (x7_1 : Int):=of_decide_eq_true aa_;have q13 : x7_1 < (a0.size : Int):=of_decide_eq_true aa_;have hx13:=bt_at a0 x7_1;replace p13:=eq_true p13;replace q13:=eq_true q13;have p15 : 0 ≤ (x7_1 : Int):=of_decide_eq_true aa_;have q15 : x7_1 < (a0.size : Int):=of_decide_eq_true aa_;have hx15:=bt_at a0 x7_1;replace p15:=eq_true p15;replace q15:=eq_true q15;go_wp2
      go_roundg k1
      case measure=>have:=HK1.out;omega
      case rel=>exact ⟨(x5_1),(x6_1),(wrap64 (x7_1 + 1)),rr_,rr_,rr_,(by first|exact H'|(subst_vars;exact H')),⟨by have:=HK1.out;omega⟩,by repeat (first|exact Drawn0.refl _|apply Drawn0.step)⟩
     rw [if_neg c14] at H
     have c14b0 : decide (48 ≤ (bt a0 x7_1)) = false:=decide_eq_false c14;clear c14;have H':=Aside0.mk H;clear H;have p5 : 0 ≤ (x7_1 : Int):=of_decide_eq_true aa_;have q5 : x7_1 < (a0.size : Int):=of_decide_eq_true aa_;have hx5:=bt_at a0 x7_1;replace p5:=eq_true p5;replace q5:=eq_true q5;have p13 : 0 ≤ (x7_1 : Int):=of_decide_eq_true aa_;have q13 : x7_1 < (a0.size : Int):=of_decide_eq_true aa_;have hx13:=bt_at a0 x7_1;replace p13:=eq_true p13;replace q13:=eq_true q13;go_wp2
     go_roundg k1
     case measure=>have:=HK1.out;omega
     case rel=>exact ⟨(x5_1),(x6_1),(wrap64 (x7_1 + 1)),rr_,rr_,rr_,(by first|exact H'|(subst_vars;exact H')),⟨by have:=HK1.out;omega⟩,by repeat (first|exact Drawn0.refl _|apply Drawn0.step)⟩
    rw [if_neg c4] at H
    exact absurd H (by simp)
   rw [if_neg c3] at H
   have c3b0 : decide (x7_1 < (a0.size : Int)) = false:=decide_eq_false c3;clear c3
   by_cases c19 : x6_1 > a1
   ·rw [if_pos c19] at H
    have c19b0 : decide (a1 < x6_1) = true:=decide_eq_true c19;clear c19
    by_cases c20 : x5_1 = true
    ·subst c20
     have H1 : (some (wrap64 (-(wrap64 (a1 + 1))))) = some r:=by rw [if_pos rfl] at H;exact H
     clear H;have H:=H1;clear H1;obtain rfl:=Option.some.inj H;go_wp2
     go_ret;exact ⟨by first|rfl|(simp;done)|(simp [*];done),by repeat (first|exact Drawn0.refl _|apply Drawn0.step)⟩
    replace c20:=Bool.eq_false_iff.mpr c20;subst c20
    have H1 : (some (wrap64 (a1 + 1))) = some r:=by rw [if_neg (show ¬ (false = true) by decide)] at H;exact H
    clear H;have H:=H1;clear H1;obtain rfl:=Option.some.inj H;go_wp2
    go_ret;exact ⟨by first|rfl|(simp;done)|(simp [*];done),by repeat (first|exact Drawn0.refl _|apply Drawn0.step)⟩
   rw [if_neg c19] at H
   have c19b0 : decide (a1 < x6_1) = false:=decide_eq_false c19;clear c19
   by_cases c21 : x5_1 = true
   ·subst c21
    have H1 : (some (wrap64 (-x6_1))) = some r:=by rw [if_pos rfl] at H;exact H
    clear H;have H:=H1;clear H1;obtain rfl:=Option.some.inj H;go_wp2
    go_ret;exact ⟨by first|rfl|(simp;done)|(simp [*];done),by repeat (first|exact Drawn0.refl _|apply Drawn0.step)⟩
   replace c21:=Bool.eq_false_iff.mpr c21;subst c21
   have H1 : (some x6_1) = some r:=by rw [if_neg (show ¬ (false = true) by decide)] at H;exact H
   clear H;have H:=H1;clear H1;obtain rfl:=Option.some.inj H;go_wp2
   go_ret;exact ⟨by first|rfl|(simp;done)|(simp [*];done),by repeat (first|exact Drawn0.refl _|apply Drawn0.step)⟩
mutual
def quarryref11_Make.j1 : Nat → Bool → ByteArray → Int → Int → Option (Bool × ByteArray × Int × Bool)
 | 0,_,_,_,_=>none
 | k + 1,x0,x1,x2,x8=>quarryref11_Make.l1 k x0 x1 x2 x8 (x1.size : Int)
def quarryref11_Make.j3 : Nat → Bool → ByteArray → Int → Int → Int → Option (Bool × ByteArray × Int × Bool)
 | 0,_,_,_,_,_=>none
 | k + 1,x0,x1,x2,x8,x9=>if x8 = x9 then (some (x0,(⟨#[]⟩ : ByteArray),0,true)) else (if x2 > 1073741824 then (some (false,(⟨#[]⟩ : ByteArray),0,false)) else (if x2 < (-1073741824) then (some (false,(⟨#[]⟩ : ByteArray),0,false)) else (if 0 ≤ x8 then (if x8 ≤ x9 then (if x9 ≤ (x1.size : Int) then (some (x0,x1.extract (x8 : Int).toNat (x9 : Int).toNat,x2,true)) else (none)) else (none)) else (none))))
def quarryref11_Make.l1 : Nat → Bool → ByteArray → Int → Int → Int → Option (Bool × ByteArray × Int × Bool)
 | 0,_,_,_,_,_=>none
 | k + 1,x0,x1,x2,x8,x9=>if x9 > x8 then (if 0 ≤ (wrap64 (x9 - 1)) then (if (wrap64 (x9 - 1)) < (x1.size : Int) then (if (bt x1 (wrap64 (x9 - 1))) = 48 then (quarryref11_Make.l1 k x0 x1 (wrap64 (x2 + 1)) x8 (wrap64 (x9 - 1))) else (quarryref11_Make.j3 k x0 x1 x2 x8 x9)) else (none)) else (none)) else (quarryref11_Make.j3 k x0 x1 x2 x8 x9)
def quarryref11_Make.l0 : Nat → Bool → ByteArray → Int → Int → Option (Bool × ByteArray × Int × Bool)
 | 0,_,_,_,_=>none
 | k + 1,x0,x1,x2,x8=>if x8 < (x1.size : Int) then (if 0 ≤ x8 then (if (bt x1 x8) = 48 then (quarryref11_Make.l0 k x0 x1 x2 (wrap64 (x8 + 1))) else (quarryref11_Make.j1 k x0 x1 x2 x8)) else (none)) else (quarryref11_Make.j1 k x0 x1 x2 x8)
end
def quarryref11_Make.f (k : Nat) (a0 : Bool) (a1 : ByteArray) (a2 : Int) : Option (Bool × ByteArray × Int × Bool):=quarryref11_Make.l0 k a0 a1 a2 0
set_option maxHeartbeats 8000000 in
set_option maxRecDepth 100000 in
theorem quarryref11_Make.calls (k : Nat) (a0 : Bool) (a1 : ByteArray) (a2 : Int) (r1 : Bool) (r2 : ByteArray) (r3 : Int) (r4 : Bool) (w : World) (h : quarryref11_Make.f k a0 a1 a2 = some (r1,r2,r3,r4)) :
  Calls Tryz.prog 110 #[.bool a0,.string a1,.int .i64 a2] w fun e w'=>e = .returned (.tuple #[.agg #[.bool r1,.string r2,.int .i64 r3],.bool r4]) ∧ Below w.heap.size w w':=by
 have hu81:=Tryz.underlying81;have HB:=Aside0.mk (Below.refl w.heap.size w);have H : (quarryref11_Make.l0 k a0 a1 a2 0) = some (r1,r2,r3,r4):=h;clear h;have HC4:=Aside0.mk H;clear H;go_enter Tryz.func110,Tryz.ntmps110
 go_upto_block 0 with (first|((with_reducible refine gate_dst (N:=6) rfl ?_);refine box_event ?hg (N:=6) ?hd (cs:=#[.bool false,.string (⟨#[]⟩ : ByteArray),.int .i64 0]) (t:=81) ?hr ?_;(case hd=>rfl);(case hg=>rfl);(case hr=>first|(go_simp;done)|(go_simp;rfl));intro gb435 hg w5 hbox hb;have n_:=J_ (below_step (hb_ HB) hb) (J_ (hbox) (J_ (bs_ hg HB) (Aside0.mk (bs_ hg HB))));clear HB;obtain ⟨HB,BK435,GW435,GE435⟩:=n_;clear hb hbox hg))
 (try simp only [Act.put,List.setIfInBounds_toArray,List.set_cons_zero,List.set_cons_succ])
 go_cut [8] (fun v8 wc=>∃ (kq : Nat) (x8_3 : Int),v8 = .int .i64 x8_3 ∧ Aside0 (quarryref11_Make.j1 kq a0 a1 a2 x8_3 = some (r1,r2,r3,r4)) ∧ Aside0 (kq ≤ k) ∧ Aside0 (wc.heap[gb435]? = some (.cells #[.bool false,.string (⟨#[]⟩ : ByteArray),.int .i64 0] 81 (0,0))) ∧ Aside0 (Below w.heap.size w wc))
 case first =>
  have H:=HC4.out;clear HC4;have H':=Aside0.mk H;clear H;go_wp2
  go_loopg [8] k (fun kq v8 w'=>∃ (x8_1 : Int),v8 = .int .i64 x8_1 ∧ Aside0 (quarryref11_Make.l0 kq a0 a1 a2 x8_1 = some (r1,r2,r3,r4)) ∧ Aside0 (kq ≤ k) ∧ Aside0 (w'.heap[gb435]? = some (.cells #[.bool false,.string (⟨#[]⟩ : ByteArray),.int .i64 0] 81 (0,0))) ∧ Aside0 (Below w.heap.size w w'))
  case atStart=>exact ⟨(0),rr_,H',⟨Nat.le_refl _⟩,⟨(bk_ BK435)⟩,⟨(hb_ HB)⟩⟩
  case round =>
   clear H'
   try clear BK435
   try clear HB
   obtain ⟨x8_1,rfl,HA,HK1,BK435,HB⟩:=hrel
   cases gk with
   | zero=>exact absurd HA.out (by simp [quarryref11_Make.l0])
   | succ k1 =>
    have H:=HA.out;clear HA
    simp only [quarryref11_Make.l0] at H
    by_cases c6 : x8_1 < (a1.size : Int)
    ·rw [if_pos c6] at H
     have c6b0 : decide (x8_1 < (a1.size : Int)) = true:=decide_eq_true c6;clear c6
     (first|rw [c6b0]|(simp only [i64_w,i32_w];rw [c6b0])|skip)
     by_cases c7 : 0 ≤ x8_1
     ·rw [if_pos c7] at H
      have c7b0 : decide (0 ≤ x8_1) = true:=decide_eq_true c7;clear c7
      by_cases c9 : (bt a1 x8_1) = 48
      ·rw [if_pos c9] at H
       have c9b0 : ((bt a1 x8_1) == 48) = true:=beq_iff_eq.mpr c9;have c9b1 : ((bt a1 x8_1) != 48) = false:=bne_eq_false_iff_eq.mpr c9;clear c9;have H':=Aside0.mk H;clear H;have p8 : 0 ≤ (x8_1 : Int):=of_decide_eq_true aa_;have q8 : x8_1 < (a1.size : Int):=of_decide_eq_true aa_;have hx8:=bt_at a1 x8_1;replace p8:=eq_true p8;replace q8:=eq_true q8;go_wp2
       go_roundg k1
       case measure=>have:=HK1.out;omega
       case rel=>exact ⟨(wrap64 (x8_1 + 1)),rr_,(by first|exact H'|(subst_vars;exact H')),⟨by have:=HK1.out;omega⟩,⟨(bk_ BK435)⟩,⟨(hb_ HB)⟩⟩
      rw [if_neg c9] at H
      have c9b0 : ((bt a1 x8_1) == 48) = false:=beq_eq_false_iff_ne.mpr c9;have c9b1 : ((bt a1 x8_1) != 48) = true:=bne_iff_ne.mpr c9;have H':=Aside0.mk H;clear H;have p8 : 0 ≤ (x8_1 : Int):=of_decide_eq_true aa_;have q8 : x8_1 < (a1.size : Int):=of_decide_eq_true aa_;have hx8:=bt_at a1 x8_1;replace p8:=eq_true p8;replace q8:=eq_true q8;go_wp2
      go_meet
      case rel=>exact ⟨_,(x8_1),rr_,(by first|exact H'|(subst_vars;exact H')),⟨by have:=HK1.out;first|omega|exact Nat.le_refl _⟩,⟨(bk_ BK435)⟩,⟨(hb_ HB)⟩⟩
     rw [if_neg c7] at H
     exact absurd H (by simp)
    rw [if_neg c6] at H
    have c6b0 : decide (x8_1 < (a1.size : Int)) = false:=decide_eq_false c6;clear c6
    (first|rw [c6b0]|(simp only [i64_w,i32_w];rw [c6b0])|skip)
    have H':=Aside0.mk H;clear H;go_wp2
    go_meet
    case rel=>exact ⟨_,(x8_1),rr_,(by first|exact H'|(subst_vars;exact H')),⟨by have:=HK1.out;first|omega|exact Nat.le_refl _⟩,⟨(bk_ BK435)⟩,⟨(hb_ HB)⟩⟩
 case rest =>
  clear HC4;obtain ⟨kq,x8_3,rfl,HA,HJ3,BK435,HB⟩:=hcut
  cases kq with
  | zero=>exact absurd HA.out (by simp [quarryref11_Make.j1])
  | succ kj3 =>
   have H:=HA.out;clear HA
   simp only [quarryref11_Make.j1] at H
   have HC10:=Aside0.mk H;clear H
   go_upto_block 2 with (fail)
   go_cut [2,9] (fun v2 v9 wc=>∃ (kq : Nat) (x2_9 : Int) (x9_9 : Int),v2 = .int .i64 x2_9 ∧ v9 = .int .i64 x9_9 ∧ Aside0 (quarryref11_Make.j3 kq a0 a1 x2_9 x8_3 x9_9 = some (r1,r2,r3,r4)) ∧ Aside0 (kq ≤ kj3) ∧ Aside0 (wc.heap[gb435]? = some (.cells #[.bool false,.string (⟨#[]⟩ : ByteArray),.int .i64 0] 81 (0,0))) ∧ Aside0 (Below w.heap.size w wc))
   case first =>
    have H:=HC10.out;clear HC10;have H':=Aside0.mk H;clear H;go_wp2
    go_loopg [2,9] kj3 (fun kq v2 v9 w'=>∃ (x2_2 : Int) (x9_2 : Int),v2 = .int .i64 x2_2 ∧ v9 = .int .i64 x9_2 ∧ Aside0 (quarryref11_Make.l1 kq a0 a1 x2_2 x8_3 x9_2 = some (r1,r2,r3,r4)) ∧ Aside0 (kq ≤ kj3) ∧ Aside0 (w'.heap[gb435]? = some (.cells #[.bool false,.string (⟨#[]⟩ : ByteArray),.int .i64 0] 81 (0,0))) ∧ Aside0 (Below w.heap.size w w'))
    case atStart=>exact ⟨(a2),((a1.size : Int)),rr_,rr_,H',⟨Nat.le_refl _⟩,⟨(bk_ BK435)⟩,⟨(hb_ HB)⟩⟩
    case round =>
     clear H'
     try clear BK435
     try clear HB
     obtain ⟨x2_2,x9_2,rfl,rfl,HA,HK2,BK435,HB⟩:=hrel
     cases gk with
     | zero=>exact absurd HA.out (by simp [quarryref11_Make.l1])
     | succ k2 =>
      have H:=HA.out;clear HA
      simp only [quarryref11_Make.l1] at H
      by_cases c11 : x9_2 > x8_3
      ·rw [if_pos c11] at H
       have c11b0 : decide (x8_3 < x9_2) = true:=decide_eq_true c11;clear c11
       (first|rw [c11b0]|(simp only [i64_w,i32_w];rw [c11b0])|skip)
       obtain ⟨ji12,hji12⟩ : ∃ j_ : Int,(wrap64 (x9_2 - 1)) = j_:=⟨_,rfl⟩
       replace H : (if 0 ≤ (ji12) then (if (ji12) < (a1.size : Int) then (if (bt a1 (ji12)) = 48 then (quarryref11_Make.l1 k2 a0 a1 (wrap64 (x2_2 + 1)) x8_3 ji12) else (quarryref11_Make.j3 k2 a0 a1 x2_2 x8_3 x9_2)) else (none)) else (none)) = some (r1,r2,r3,r4):=by first|(rw [hji12] at H;exact H)|(simp only [hji12] at H ⊢;exact H)
       have hji12w : (IntKind.i64.wrap (x9_2 - 1)) = ji12:=(i64_w _).trans hji12
       by_cases c13 : 0 ≤ (ji12)
       ·rw [if_pos c13] at H
        have c13b0 : decide (0 ≤ (ji12)) = true:=decide_eq_true c13;clear c13
        by_cases c14 : (ji12) < (a1.size : Int)
        ·rw [if_pos c14] at H
         have c14b0 : decide ((ji12) < (a1.size : Int)) = true:=decide_eq_true c14;clear c14
         by_cases c16 : (bt a1 (ji12)) = 48
         ·rw [if_pos c16] at H
          have c16b0 : ((bt a1 (ji12)) == 48) = true:=beq_iff_eq.mpr c16;have c16b1 : ((bt a1 (ji12)) != 48) = false:=bne_eq_false_iff_eq.mpr c16;clear c16;have H':=Aside0.mk H;clear H;have p15 : 0 ≤ ((ji12) : Int):=of_decide_eq_true aa_;have q15 : (ji12) < (a1.size : Int):=of_decide_eq_true aa_;have hx15:=bt_at a1 (ji12);replace p15:=eq_true p15;replace q15:=eq_true q15;go_wp2
          go_roundg k2
          case measure=>have:=HJ3.out;have:=HK2.out;omega
          case rel=>exact ⟨(wrap64 (x2_2 + 1)),(ji12),rr_,(by first|rfl|(simp;done)|(simp only [← hji12] <;> (first|rfl|simp))|(simp [*];done)),(by first|exact H'|(subst_vars;exact H')),⟨by have:=HJ3.out;have:=HK2.out;omega⟩,⟨(bk_ BK435)⟩,⟨(hb_ HB)⟩⟩
         rw [if_neg c16] at H
         have c16b0 : ((bt a1 (ji12)) == 48) = false:=beq_eq_false_iff_ne.mpr c16;have c16b1 : ((bt a1 (ji12)) != 48) = true:=bne_iff_ne.mpr c16;have H':=Aside0.mk H;clear H;have p15 : 0 ≤ ((ji12) : Int):=of_decide_eq_true aa_;have q15 : (ji12) < (a1.size : Int):=of_decide_eq_true aa_;have hx15:=bt_at a1 (ji12);replace p15:=eq_true p15;replace q15:=eq_true q15;go_wp2
         go_meet
         case rel=>exact ⟨_,(x2_2),(x9_2),rr_,rr_,(by first|exact H'|(subst_vars;exact H')),⟨by have:=HJ3.out;have:=HK2.out;first|omega|exact Nat.le_refl _⟩,⟨(bk_ BK435)⟩,⟨(hb_ HB)⟩⟩
        rw [if_neg c14] at H
        exact absurd H (by simp)
       rw [if_neg c13] at H
       exact absurd H (by simp)
      rw [if_neg c11] at H
      have c11b0 : decide (x8_3 < x9_2) = false:=decide_eq_false c11;clear c11
      (first|rw [c11b0]|(simp only [i64_w,i32_w];rw [c11b0])|skip)
      have H':=Aside0.mk H;clear H;go_wp2
      go_meet
      case rel=>exact ⟨_,(x2_2),(x9_2),rr_,rr_,(by first|exact H'|(subst_vars;exact H')),⟨by have:=HJ3.out;have:=HK2.out;first|omega|exact Nat.le_refl _⟩,⟨(bk_ BK435)⟩,⟨(hb_ HB)⟩⟩
   case rest =>
    clear HC10;obtain ⟨kq,x2_9,x9_9,rfl,rfl,HA,HJ9,BK435,HB⟩:=hcut
    cases kq with
    | zero=>exact absurd HA.out (by simp [quarryref11_Make.j3])
    | succ kj9 =>
     have H:=HA.out;clear HA
     simp only [quarryref11_Make.j3] at H
     by_cases c17 : x8_3 = x9_9
     ·rw [if_pos c17] at H
      have c17b0 : (x8_3 == x9_9) = true:=beq_iff_eq.mpr c17;have c17b1 : (x8_3 != x9_9) = false:=bne_eq_false_iff_eq.mpr c17;clear c17
      simp only [Option.some.injEq,Prod.mk.injEq] at H
      obtain ⟨rfl,rfl,rfl,rfl⟩:=H;obtain ⟨hcz18_0,hcz18_1,hcz18_2,hfz18_0,hfz18_1,hfz18_2⟩:=cf3_ BK435;go_wp2
      refine bodyPost_ret (results_ct rfl _ _ gb435 81 #[.bool a0,.string (⟨#[]⟩ : ByteArray),.int .i64 0] (0,0) _ rfl (by (with_reducible repeat (first|refine blk_drewN ?_ _|refine blk_drew ?_|refine blk_alloc ?_ _));refine bp_ (cs:=#[.bool a0,.string (⟨#[]⟩ : ByteArray),.int .i64 0]) ?_ 2 _;refine bp_ (cs:=#[.bool a0,.string (⟨#[]⟩ : ByteArray),.int .i64 0]) ?_ 1 _;refine bp_ (cs:=#[.bool false,.string (⟨#[]⟩ : ByteArray),.int .i64 0]) ?_ 0 _;(with_reducible repeat (first|refine blk_drewN ?_ _|refine blk_drew ?_|refine blk_alloc ?_ _));exact BK435.out) Tryz.underlying81 rfl (by kernel_rfl)) rfl ?_;exact ⟨er_,(hb_ HB)⟩
     rw [if_neg c17] at H
     have c17b0 : (x8_3 == x9_9) = false:=beq_eq_false_iff_ne.mpr c17;have c17b1 : (x8_3 != x9_9) = true:=bne_iff_ne.mpr c17
     by_cases c19 : x2_9 > 1073741824
     ·rw [if_pos c19] at H
      have c19b0 : decide (1073741824 < x2_9) = true:=decide_eq_true c19;clear c19
      simp only [Option.some.injEq,Prod.mk.injEq] at H
      obtain ⟨rfl,rfl,rfl,rfl⟩:=H;obtain ⟨hcz20_0,hcz20_1,hcz20_2,hfz20_0,hfz20_1,hfz20_2⟩:=cf3_ BK435;go_wp2
      refine bodyPost_ret (results_ct rfl _ _ gb435 81 #[.bool false,.string (⟨#[]⟩ : ByteArray),.int .i64 0] (0,0) _ rfl (by (with_reducible repeat (first|refine blk_drewN ?_ _|refine blk_drew ?_|refine blk_alloc ?_ _));refine bp_ (cs:=#[.bool false,.string (⟨#[]⟩ : ByteArray),.int .i64 0]) ?_ 2 _;refine bp_ (cs:=#[.bool false,.string (⟨#[]⟩ : ByteArray),.int .i64 0]) ?_ 1 _;refine bp_ (cs:=#[.bool false,.string (⟨#[]⟩ : ByteArray),.int .i64 0]) ?_ 0 _;(with_reducible repeat (first|refine blk_drewN ?_ _|refine blk_drew ?_|refine blk_alloc ?_ _));exact BK435.out) Tryz.underlying81 rfl (by kernel_rfl)) rfl ?_;exact ⟨er_,(hb_ HB)⟩
     rw [if_neg c19] at H
     have c19b0 : decide (1073741824 < x2_9) = false:=decide_eq_false c19;clear c19
     by_cases c21 : x2_9 < (-1073741824)
     ·rw [if_pos c21] at H
      have c21b0 : decide (x2_9 < (-1073741824)) = true:=decide_eq_true c21;clear c21
      simp only [Option.some.injEq,Prod.mk.injEq] at H
      obtain ⟨rfl,rfl,rfl,rfl⟩:=H;obtain ⟨hcz22_0,hcz22_1,hcz22_2,hfz22_0,hfz22_1,hfz22_2⟩:=cf3_ BK435;go_wp2
      refine bodyPost_ret (results_ct rfl _ _ gb435 81 #[.bool false,.string (⟨#[]⟩ : ByteArray),.int .i64 0] (0,0) _ rfl (by (with_reducible repeat (first|refine blk_drewN ?_ _|refine blk_drew ?_|refine blk_alloc ?_ _));refine bp_ (cs:=#[.bool false,.string (⟨#[]⟩ : ByteArray),.int .i64 0]) ?_ 2 _;refine bp_ (cs:=#[.bool false,.string (⟨#[]⟩ : ByteArray),.int .i64 0]) ?_ 1 _;refine bp_ (cs:=#[.bool false,.string (⟨#[]⟩ : ByteArray),.int .i64 0]) ?_ 0 _;(with_reducible repeat (first|refine blk_drewN ?_ _|refine blk_drew ?_|refine blk_alloc ?_ _));exact BK435.out) Tryz.underlying81 rfl (by kernel_rfl)) rfl ?_;exact ⟨er_,(hb_ HB)⟩
     rw [if_neg c21] at H
     have c21b0 : decide (x2_9 < (-1073741824)) = false:=decide_eq_false c21;clear c21
     by_cases c23 : 0 ≤ x8_3
     ·rw [if_pos c23] at H
      have c23b0:=eq_true c23;have c23b1 : decide (0 ≤ x8_3) = true:=decide_eq_true c23;clear c23
      by_cases c24 : x8_3 ≤ x9_9
      ·rw [if_pos c24] at H
       have c24b0:=eq_true c24;have c24b1 : decide (x8_3 ≤ x9_9) = true:=decide_eq_true c24;clear c24
       by_cases c25 : x9_9 ≤ (a1.size : Int)
       ·rw [if_pos c25] at H
        have c25b0:=eq_true c25;have c25b1 : decide (x9_9 ≤ (a1.size : Int)) = true:=decide_eq_true c25;clear c25
        simp only [Option.some.injEq,Prod.mk.injEq] at H
        obtain ⟨rfl,rfl,rfl,rfl⟩:=H;obtain ⟨hcz26_0,hcz26_1,hcz26_2,hfz26_0,hfz26_1,hfz26_2⟩:=cf3_ BK435;go_wp2
        refine bodyPost_ret (results_ct rfl _ _ gb435 81 #[.bool a0,.string (a1.extract (x8_3 : Int).toNat (x9_9 : Int).toNat),.int .i64 x2_9] (0,0) _ rfl (by (with_reducible repeat (first|refine blk_drewN ?_ _|refine blk_drew ?_|refine blk_alloc ?_ _));refine bp_ (cs:=#[.bool a0,.string (a1.extract (x8_3 : Int).toNat (x9_9 : Int).toNat),.int .i64 0]) ?_ 2 _;refine bp_ (cs:=#[.bool a0,.string (⟨#[]⟩ : ByteArray),.int .i64 0]) ?_ 1 _;refine bp_ (cs:=#[.bool false,.string (⟨#[]⟩ : ByteArray),.int .i64 0]) ?_ 0 _;(with_reducible repeat (first|refine blk_drewN ?_ _|refine blk_drew ?_|refine blk_alloc ?_ _));exact BK435.out) Tryz.underlying81 rfl (by kernel_rfl)) rfl ?_;exact ⟨er_,(hb_ HB)⟩
       rw [if_neg c25] at H
       exact absurd H (by simp)
      rw [if_neg c24] at H
      exact absurd H (by simp)
     rw [if_neg c23] at H
     exact absurd H (by simp)
end Go.Proofs.YtlgamjgdkljfiacGreatDoor.PWritePretties
