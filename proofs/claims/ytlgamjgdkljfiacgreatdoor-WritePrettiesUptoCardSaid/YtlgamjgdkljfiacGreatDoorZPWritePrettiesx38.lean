-- Written by shrink.py, a program of this session: what the law needs of the print and its words. Lean checks it.
import Derived.Test.YtlgamjgdkljfiacGreatDoorZPWritePrettiesx0
namespace Go.Proofs.YtlgamjgdkljfiacGreatDoor.PWritePretties
open Go.RowKit Go.Proofs.YtlgamjgdkljfiacGreatDoorW.PrintWords Go.Proofs.YtlgamjgdkljfiacGreatDoorW.PrintLast Go.Proofs.YtlgamjgdkljfiacGreatDoorW.PrintMore
attribute [local go_sem] max2_int min2_int max_two min_two max_three min_three max_four min_four
set_option linter.unusedVariables false
set_option linter.unusedSimpArgs false
mutual
def quarryref05_span.j0 : Nat → List Int → Int → Int → Int → Option (Int × Int × Int)
 | 0,_,_,_,_=>none
 | k + 1,x0,x5,x6,x7=>if x5 ≥ 192 then (quarryref05_span.j1 k x0 x5 x6 x7 (decide (x5 < 224))) else (quarryref05_span.j1 k x0 x5 x6 x7 false)
def quarryref05_span.j1 : Nat → List Int → Int → Int → Int → Bool → Option (Int × Int × Int)
 | 0,_,_,_,_,_=>none
 | k + 1,x0,x5,x6,x7,x24=>if x24 = true then (quarryref05_span.j2 k x0 x5 2 (wrap64 (x5 - 192))) else (quarryref05_span.j2 k x0 x5 x6 x7)
def quarryref05_span.j2 : Nat → List Int → Int → Int → Int → Option (Int × Int × Int)
 | 0,_,_,_,_=>none
 | k + 1,x0,x5,x6,x7=>if x5 ≥ 224 then (quarryref05_span.j3 k x0 x5 x6 x7 (decide (x5 < 240))) else (quarryref05_span.j3 k x0 x5 x6 x7 false)
def quarryref05_span.j3 : Nat → List Int → Int → Int → Int → Bool → Option (Int × Int × Int)
 | 0,_,_,_,_,_=>none
 | k + 1,x0,x5,x6,x7,x32=>if x32 = true then (quarryref05_span.j4 k x0 x5 3 (wrap64 (x5 - 224))) else (quarryref05_span.j4 k x0 x5 x6 x7)
def quarryref05_span.j4 : Nat → List Int → Int → Int → Int → Option (Int × Int × Int)
 | 0,_,_,_,_=>none
 | k + 1,x0,x5,x6,x7=>if x5 ≥ 240 then (quarryref05_span.j5 k x0 x5 x6 x7 (decide (x5 < 248))) else (quarryref05_span.j5 k x0 x5 x6 x7 false)
def quarryref05_span.j5 : Nat → List Int → Int → Int → Int → Bool → Option (Int × Int × Int)
 | 0,_,_,_,_,_=>none
 | k + 1,x0,x5,x6,x7,x40=>if x40 = true then (quarryref05_span.j6 k x0 4 (wrap64 (x5 - 240))) else (quarryref05_span.j6 k x0 x6 x7)
def quarryref05_span.j6 : Nat → List Int → Int → Int → Option (Int × Int × Int)
 | 0,_,_,_=>none
 | k + 1,x0,x6,x7=>if x6 = 0 then (some (0,1,0)) else (quarryref05_span.l0 k x0 x6 x7 1)
def quarryref05_span.l0 : Nat → List Int → Int → Int → Int → Option (Int × Int × Int)
 | 0,_,_,_,_=>none
 | k + 1,x0,x6,x7,x8=>if x8 < (x0.length : Int) then (if 0 ≤ x8 then (if x8 ≥ x6 then (some (0,1,0)) else (if (wrap64 (rd x0 x8)) < 128 then (some (0,1,0)) else (if (wrap64 (rd x0 x8)) ≥ 192 then (some (0,1,0)) else (quarryref05_span.l0 k x0 x6 (wrap64 ((wrap64 ((wrap64 (x7 * 64)) + (wrap64 (rd x0 x8)))) - 128)) (wrap64 (x8 + 1)))))) else (none)) else (quarryref05_span.l1 k x6 x7 x7 (x0.length : Int))
def quarryref05_span.l1 : Nat → Int → Int → Int → Int → Option (Int × Int × Int)
 | 0,_,_,_,_=>none
 | k + 1,x6,x7,x10,x11=>if x11 < x6 then (quarryref05_span.l1 k x6 (wrap64 (x7 * 64)) (wrap64 ((wrap64 (x10 * 64)) + 63)) (wrap64 (x11 + 1))) else (some (x6,x7,x10))
end
def quarryref05_span.f (k : Nat) (l0 : List Int) : Option (Int × Int × Int):=if 0 < (l0.length : Int) then (if (wrap64 (rd l0 0)) < 128 then (quarryref05_span.j0 k l0 (wrap64 (rd l0 0)) 1 (wrap64 (rd l0 0))) else (quarryref05_span.j0 k l0 (wrap64 (rd l0 0)) 0 0)) else (none)
set_option maxHeartbeats 8000000 in
set_option maxRecDepth 100000 in
theorem quarryref05_span.calls (k : Nat) (A0 : Option Addr) (c0 : Nat) (l0 : List Int) (r1 : Int) (r2 : Int) (r3 : Int) (w : World) (hr0 : Kd.C (Kd.int .u8) w A0 l0.length l0) (hc0 : l0.length ≤ c0) (h : quarryref05_span.f k l0 = some (r1,r2,r3)) :
  Calls Tryz.prog 128 #[.slice A0 l0.length c0] w fun e w'=>e = .returned (.tuple #[.int .i64 r1,.int .i64 r2,.int .i64 r3]) ∧ Drawn0 w w':=by
 have HR0:=Aside0.mk hr0;have HC0:=Aside0.mk hc0;clear hr0 hc0;have H : (if 0 < (l0.length : Int) then (if (wrap64 (rd l0 0)) < 128 then (quarryref05_span.j0 k l0 (wrap64 (rd l0 0)) 1 (wrap64 (rd l0 0))) else (quarryref05_span.j0 k l0 (wrap64 (rd l0 0)) 0 0)) else (none)) = some (r1,r2,r3):=h;clear h
 by_cases c2 : 0 < (l0.length : Int)
 ·rw [if_pos c2] at H
  have c2b0 : decide (0 < (l0.length : Int)) = true:=decide_eq_true c2;have c2b1 : decide (0 < l0.length) = true:=decide_eq_true (by omega);clear c2;have HC3:=Aside0.mk H;clear H;have p457 : 0 ≤ (0 : Int):=(by omega);have q457 : 0 < (l0.length : Int):=of_decide_eq_true aa_;obtain ⟨ad457,e457,hx457_0⟩:=Kd.at_int HR0.out 0 p457 q457;cases e457;have qi457 : (0 < l0.length) = True:=eq_true (by omega)
  (try rw [show ((0 : Int)).toNat = 0 from rfl] at hx457_0)
  (try rw [Addr.add_zero'] at hx457_0)
  replace p457:=eq_true p457;replace q457:=eq_true q457;go_enter Tryz.func128,Tryz.ntmps128
  go_upto_if 17 with (fail)
  go_cut [6,7] (fun v6 v7 wc=>∃ (kq : Nat) (x6_2 : Int) (x7_2 : Int),v6 = .int .i64 x6_2 ∧ v7 = .int .i64 x7_2 ∧ Aside0 (quarryref05_span.j0 kq l0 (wrap64 (rd l0 0)) x6_2 x7_2 = some (r1,r2,r3)) ∧ Aside0 (kq ≤ k) ∧ Drawn0 w wc)
  case first =>
   have H:=HC3.out;clear HC3
   by_cases c4 : (wrap64 (rd l0 0)) < 128
   ·rw [if_pos c4] at H
    have c4b0 : decide ((wrap64 (rd l0 0)) < 128) = true:=decide_eq_true c4;clear c4
    (first|rw [c4b0]|(simp only [i64_w,i32_w];rw [c4b0])|skip)
    have H':=Aside0.mk H;clear H;go_wp2
    go_meet
    case rel=>exact ⟨_,(1),(wrap64 (rd l0 0)),rr_,rr_,(by first|exact H'|(subst_vars;exact H')),⟨by first|omega|exact Nat.le_refl _⟩,by repeat (first|exact Drawn0.refl _|apply Drawn0.step)⟩
   rw [if_neg c4] at H
   have c4b0 : decide ((wrap64 (rd l0 0)) < 128) = false:=decide_eq_false c4;clear c4
   (first|rw [c4b0]|(simp only [i64_w,i32_w];rw [c4b0])|skip)
   have H':=Aside0.mk H;clear H;go_wp2
   go_meet
   case rel=>exact ⟨_,(0),(0),rr_,rr_,(by first|exact H'|(subst_vars;exact H')),⟨by first|omega|exact Nat.le_refl _⟩,by repeat (first|exact Drawn0.refl _|apply Drawn0.step)⟩
  case rest =>
   clear HC3;obtain ⟨kq,x6_2,x7_2,rfl,rfl,HA,HJ2,⟨mc2,rfl⟩⟩:=hcut
   cases kq with
   | zero=>exact absurd HA.out (by simp [quarryref05_span.j0])
   | succ kj2 =>
    have H:=HA.out;clear HA
    simp only [quarryref05_span.j0] at H
    have HC5:=Aside0.mk H;clear H
    go_upto_region 5 with (fail)
    go_cut [24] (fun v24 wc=>∃ (kq : Nat) (x24_4 : Bool),v24 = .bool x24_4 ∧ Aside0 (quarryref05_span.j1 kq l0 (wrap64 (rd l0 0)) x6_2 x7_2 x24_4 = some (r1,r2,r3)) ∧ Aside0 (kq ≤ kj2) ∧ Drawn0 w wc)
    case first =>
     have H:=HC5.out;clear HC5
     by_cases c6 : (wrap64 (rd l0 0)) ≥ 192
     ·rw [if_pos c6] at H
      have c6b0 : decide (192 ≤ (wrap64 (rd l0 0))) = true:=decide_eq_true c6;clear c6
      (first|rw [c6b0]|(simp only [i64_w,i32_w];rw [c6b0])|skip)
      have H':=Aside0.mk H;clear H;go_wp2
      go_meet
      case rel=>exact ⟨_,(decide ((wrap64 (rd l0 0)) < 224)),rr_,(by first|exact H'|(subst_vars;exact H')),⟨by have:=HJ2.out;first|omega|exact Nat.le_refl _⟩,by repeat (first|exact Drawn0.refl _|apply Drawn0.step)⟩
     rw [if_neg c6] at H
     have c6b0 : decide (192 ≤ (wrap64 (rd l0 0))) = false:=decide_eq_false c6;clear c6
     (first|rw [c6b0]|(simp only [i64_w,i32_w];rw [c6b0])|skip)
     have H':=Aside0.mk H;clear H;go_wp2
     go_meet
     case rel=>exact ⟨_,(false),rr_,(by first|exact H'|(subst_vars;exact H')),⟨by have:=HJ2.out;first|omega|exact Nat.le_refl _⟩,by repeat (first|exact Drawn0.refl _|apply Drawn0.step)⟩
    case rest =>
     clear HC5;obtain ⟨kq,x24_4,rfl,HA,HJ4,⟨mc4,rfl⟩⟩:=hcut
     cases kq with
     | zero=>exact absurd HA.out (by simp [quarryref05_span.j1])
     | succ kj4 =>
      have H:=HA.out;clear HA
      simp only [quarryref05_span.j1] at H
      have HC7:=Aside0.mk H;clear H
      go_upto_if 24 with (fail)
      go_cut [6,7] (fun v6 v7 wc=>∃ (kq : Nat) (x6_6 : Int) (x7_6 : Int),v6 = .int .i64 x6_6 ∧ v7 = .int .i64 x7_6 ∧ Aside0 (quarryref05_span.j2 kq l0 (wrap64 (rd l0 0)) x6_6 x7_6 = some (r1,r2,r3)) ∧ Aside0 (kq ≤ kj4) ∧ Drawn0 w wc)
      case first =>
       have H:=HC7.out;clear HC7
       by_cases c8 : x24_4 = true
       ·subst c8
        have H1 : (quarryref05_span.j2 kj4 l0 (wrap64 (rd l0 0)) 2 (wrap64 ((wrap64 (rd l0 0)) - 192))) = some (r1,r2,r3):=by rw [if_pos rfl] at H;exact H
        clear H;have H:=H1;clear H1;have H':=Aside0.mk H;clear H;go_wp2
        go_meet
        case rel=>exact ⟨_,(2),(wrap64 ((wrap64 (rd l0 0)) - 192)),rr_,rr_,(by first|exact H'|(subst_vars;exact H')),⟨by have:=HJ2.out;have:=HJ4.out;first|omega|exact Nat.le_refl _⟩,by repeat (first|exact Drawn0.refl _|apply Drawn0.step)⟩
       replace c8:=Bool.eq_false_iff.mpr c8;subst c8
       have H1 : (quarryref05_span.j2 kj4 l0 (wrap64 (rd l0 0)) x6_2 x7_2) = some (r1,r2,r3):=by rw [if_neg (show ¬ (false = true) by decide)] at H;exact H
       clear H;have H:=H1;clear H1;have H':=Aside0.mk H;clear H;go_wp2
       go_meet
       case rel=>exact ⟨_,(x6_2),(x7_2),rr_,rr_,(by first|exact H'|(subst_vars;exact H')),⟨by have:=HJ2.out;have:=HJ4.out;first|omega|exact Nat.le_refl _⟩,by repeat (first|exact Drawn0.refl _|apply Drawn0.step)⟩
      case rest =>
       clear HC7;obtain ⟨kq,x6_6,x7_6,rfl,rfl,HA,HJ6,⟨mc6,rfl⟩⟩:=hcut
       cases kq with
       | zero=>exact absurd HA.out (by simp [quarryref05_span.j2])
       | succ kj6 =>
        have H:=HA.out;clear HA
        simp only [quarryref05_span.j2] at H
        have HC9:=Aside0.mk H;clear H
        go_upto_region 7 with (fail)
        go_cut [32] (fun v32 wc=>∃ (kq : Nat) (x32_8 : Bool),v32 = .bool x32_8 ∧ Aside0 (quarryref05_span.j3 kq l0 (wrap64 (rd l0 0)) x6_6 x7_6 x32_8 = some (r1,r2,r3)) ∧ Aside0 (kq ≤ kj6) ∧ Drawn0 w wc)
        case first =>
         have H:=HC9.out;clear HC9
         by_cases c10 : (wrap64 (rd l0 0)) ≥ 224
         ·rw [if_pos c10] at H
          have c10b0 : decide (224 ≤ (wrap64 (rd l0 0))) = true:=decide_eq_true c10;clear c10
          (first|rw [c10b0]|(simp only [i64_w,i32_w];rw [c10b0])|skip)
          have H':=Aside0.mk H;clear H;go_wp2
          go_meet
          case rel=>exact ⟨_,(decide ((wrap64 (rd l0 0)) < 240)),rr_,(by first|exact H'|(subst_vars;exact H')),⟨by have:=HJ2.out;have:=HJ4.out;have:=HJ6.out;first|omega|exact Nat.le_refl _⟩,by repeat (first|exact Drawn0.refl _|apply Drawn0.step)⟩
         rw [if_neg c10] at H
         have c10b0 : decide (224 ≤ (wrap64 (rd l0 0))) = false:=decide_eq_false c10;clear c10
         (first|rw [c10b0]|(simp only [i64_w,i32_w];rw [c10b0])|skip)
         have H':=Aside0.mk H;clear H;go_wp2
         go_meet
         case rel=>exact ⟨_,(false),rr_,(by first|exact H'|(subst_vars;exact H')),⟨by have:=HJ2.out;have:=HJ4.out;have:=HJ6.out;first|omega|exact Nat.le_refl _⟩,by repeat (first|exact Drawn0.refl _|apply Drawn0.step)⟩
        case rest =>
         clear HC9;obtain ⟨kq,x32_8,rfl,HA,HJ8,⟨mc8,rfl⟩⟩:=hcut
         cases kq with
         | zero=>exact absurd HA.out (by simp [quarryref05_span.j3])
         | succ kj8 =>
          have H:=HA.out;clear HA
          simp only [quarryref05_span.j3] at H
          have HC11:=Aside0.mk H;clear H
          go_upto_if 32 with (fail)
          go_cut [6,7] (fun v6 v7 wc=>∃ (kq : Nat) (x6_10 : Int) (x7_10 : Int),v6 = .int .i64 x6_10 ∧ v7 = .int .i64 x7_10 ∧ Aside0 (quarryref05_span.j4 kq l0 (wrap64 (rd l0 0)) x6_10 x7_10 = some (r1,r2,r3)) ∧ Aside0 (kq ≤ kj8) ∧ Drawn0 w wc)
          case first =>
           have H:=HC11.out;clear HC11
           by_cases c12 : x32_8 = true
           ·subst c12
            have H1 : (quarryref05_span.j4 kj8 l0 (wrap64 (rd l0 0)) 3 (wrap64 ((wrap64 (rd l0 0)) - 224))) = some (r1,r2,r3):=by rw [if_pos rfl] at H;exact H
            clear H;have H:=H1;clear H1;have H':=Aside0.mk H;clear H;go_wp2
            go_meet
            case rel=>exact ⟨_,(3),(wrap64 ((wrap64 (rd l0 0)) - 224)),rr_,rr_,(by first|exact H'|(subst_vars;exact H')),⟨by have:=HJ2.out;have:=HJ4.out;have:=HJ6.out;have:=HJ8.out;first|omega|exact Nat.le_refl _⟩,by repeat (first|exact Drawn0.refl _|apply Drawn0.step)⟩
           replace c12:=Bool.eq_false_iff.mpr c12;subst c12
           have H1 : (quarryref05_span.j4 kj8 l0 (wrap64 (rd l0 0)) x6_6 x7_6) = some (r1,r2,r3):=by rw [if_neg (show ¬ (false = true) by decide)] at H;exact H
           clear H;have H:=H1;clear H1;have H':=Aside0.mk H;clear H;go_wp2
           go_meet
           case rel=>exact ⟨_,(x6_6),(x7_6),rr_,rr_,(by first|exact H'|(subst_vars;exact H')),⟨by have:=HJ2.out;have:=HJ4.out;have:=HJ6.out;have:=HJ8.out;first|omega|exact Nat.le_refl _⟩,by repeat (first|exact Drawn0.refl _|apply Drawn0.step)⟩
          case rest =>
           clear HC11;obtain ⟨kq,x6_10,x7_10,rfl,rfl,HA,HJ10,⟨mc10,rfl⟩⟩:=hcut
           cases kq with
           | zero=>exact absurd HA.out (by simp [quarryref05_span.j4])
           | succ kj10 =>
            have H:=HA.out;clear HA
            simp only [quarryref05_span.j4] at H
            have HC13:=Aside0.mk H;clear H
            go_upto_region 9 with (fail)
            go_cut [40] (fun v40 wc=>∃ (kq : Nat) (x40_12 : Bool),v40 = .bool x40_12 ∧ Aside0 (quarryref05_span.j5 kq l0 (wrap64 (rd l0 0)) x6_10 x7_10 x40_12 = some (r1,r2,r3)) ∧ Aside0 (kq ≤ kj10) ∧ Drawn0 w wc)
            case first =>
             have H:=HC13.out;clear HC13
             by_cases c14 : (wrap64 (rd l0 0)) ≥ 240
             ·rw [if_pos c14] at H
              have c14b0 : decide (240 ≤ (wrap64 (rd l0 0))) = true:=decide_eq_true c14;clear c14
              (first|rw [c14b0]|(simp only [i64_w,i32_w];rw [c14b0])|skip)
              have H':=Aside0.mk H;clear H;go_wp2
              go_meet
              case rel=>exact ⟨_,(decide ((wrap64 (rd l0 0)) < 248)),rr_,(by first|exact H'|(subst_vars;exact H')),⟨by have:=HJ2.out;have:=HJ4.out;have:=HJ6.out;have:=HJ8.out;have:=HJ10.out;first|omega|exact Nat.le_refl _⟩,by repeat (first|exact Drawn0.refl _|apply Drawn0.step)⟩
             rw [if_neg c14] at H
             have c14b0 : decide (240 ≤ (wrap64 (rd l0 0))) = false:=decide_eq_false c14;clear c14
             (first|rw [c14b0]|(simp only [i64_w,i32_w];rw [c14b0])|skip)
             have H':=Aside0.mk H;clear H;go_wp2
             go_meet
             case rel=>exact ⟨_,(false),rr_,(by first|exact H'|(subst_vars;exact H')),⟨by have:=HJ2.out;have:=HJ4.out;have:=HJ6.out;have:=HJ8.out;have:=HJ10.out;first|omega|exact Nat.le_refl _⟩,by repeat (first|exact Drawn0.refl _|apply Drawn0.step)⟩
            case rest =>
             clear HC13;obtain ⟨kq,x40_12,rfl,HA,HJ12,⟨mc12,rfl⟩⟩:=hcut
             cases kq with
             | zero=>exact absurd HA.out (by simp [quarryref05_span.j5])
             | succ kj12 =>
              have H:=HA.out;clear HA
              simp only [quarryref05_span.j5] at H
              have HC15:=Aside0.mk H;clear H
              go_upto_if 40 with (fail)
              go_cut [6,7] (fun v6 v7 wc=>∃ (kq : Nat) (x6_14 : Int) (x7_14 : Int),v6 = .int .i64 x6_14 ∧ v7 = .int .i64 x7_14 ∧ Aside0 (quarryref05_span.j6 kq l0 x6_14 x7_14 = some (r1,r2,r3)) ∧ Aside0 (kq ≤ kj12) ∧ Drawn0 w wc)
              case first =>
               have H:=HC15.out;clear HC15
               by_cases c16 : x40_12 = true
               ·subst c16
                have H1 : (quarryref05_span.j6 kj12 l0 4 (wrap64 ((wrap64 (rd l0 0)) - 240))) = some (r1,r2,r3):=by rw [if_pos rfl] at H;exact H
                clear H;have H:=H1;clear H1;have H':=Aside0.mk H;clear H;go_wp2
                go_meet
                case rel=>exact ⟨_,(4),(wrap64 ((wrap64 (rd l0 0)) - 240)),rr_,rr_,(by first|exact H'|(subst_vars;exact H')),⟨by have:=HJ2.out;have:=HJ4.out;have:=HJ6.out;have:=HJ8.out;have:=HJ10.out;have:=HJ12.out;first|omega|exact Nat.le_refl _⟩,by repeat (first|exact Drawn0.refl _|apply Drawn0.step)⟩
               replace c16:=Bool.eq_false_iff.mpr c16;subst c16
               have H1 : (quarryref05_span.j6 kj12 l0 x6_10 x7_10) = some (r1,r2,r3):=by rw [if_neg (show ¬ (false = true) by decide)] at H;exact H
               clear H;have H:=H1;clear H1;have H':=Aside0.mk H;clear H;go_wp2
               go_meet
               case rel=>exact ⟨_,(x6_10),(x7_10),rr_,rr_,(by first|exact H'|(subst_vars;exact H')),⟨by have:=HJ2.out;have:=HJ4.out;have:=HJ6.out;have:=HJ8.out;have:=HJ10.out;have:=HJ12.out;first|omega|exact Nat.le_refl _⟩,by repeat (first|exact Drawn0.refl _|apply Drawn0.step)⟩
              case rest =>
               clear HC15;obtain ⟨kq,x6_14,x7_14,rfl,rfl,HA,HJ14,⟨mc14,rfl⟩⟩:=hcut
               cases kq with
               | zero=>exact absurd HA.out (by simp [quarryref05_span.j6])
               | succ kj14 =>
                have H:=HA.out;clear HA
                simp only [quarryref05_span.j6] at H
                by_cases c17 : x6_14 = 0
                ·rw [if_pos c17] at H
                 have c17b0 : (x6_14 == 0) = true:=beq_iff_eq.mpr c17;have c17b1 : (x6_14 != 0) = false:=bne_eq_false_iff_eq.mpr c17;clear c17
                 simp only [Option.some.injEq,Prod.mk.injEq] at H
                 obtain ⟨rfl,rfl,rfl⟩:=H;go_wp2
                 go_ret3
                 exact ⟨by first|rfl|(simp;done)|(simp [*];done),by repeat (first|exact Drawn0.refl _|apply Drawn0.step)⟩
                rw [if_neg c17] at H
                have c17b0 : (x6_14 == 0) = false:=beq_eq_false_iff_ne.mpr c17;have c17b1 : (x6_14 != 0) = true:=bne_iff_ne.mpr c17;have H':=Aside0.mk H;clear H;go_wp2
                go_loopg [7,8] kj14 (fun kq v7 v8 w'=>∃ (x7_8 : Int) (x8_8 : Int),v7 = .int .i64 x7_8 ∧ v8 = .int .i64 x8_8 ∧ Aside0 (quarryref05_span.l0 kq l0 x6_14 x7_8 x8_8 = some (r1,r2,r3)) ∧ Aside0 (kq ≤ kj14) ∧ Drawn0 w w')
                case atStart=>exact ⟨(x7_14),(1),rr_,rr_,H',⟨Nat.le_refl _⟩,by repeat (first|exact Drawn0.refl _|apply Drawn0.step)⟩
                case round =>
                 clear H';obtain ⟨x7_8,x8_8,rfl,rfl,HA,HK8,⟨m8,rfl⟩⟩:=hrel
                 cases gk with
                 | zero=>exact absurd HA.out (by simp [quarryref05_span.l0])
                 | succ k8 =>
                  have H:=HA.out;clear HA
                  simp only [quarryref05_span.l0] at H
                  by_cases c18 : x8_8 < (l0.length : Int)
                  ·rw [if_pos c18] at H
                   have c18b0 : decide (x8_8 < (l0.length : Int)) = true:=decide_eq_true c18;clear c18
                   by_cases c19 : 0 ≤ x8_8
                   ·rw [if_pos c19] at H
                    have c19b0 : decide (0 ≤ x8_8) = true:=decide_eq_true c19;clear c19
                    by_cases c20 : x8_8 ≥ x6_14
                    ·rw [if_pos c20] at H
                     have c20b0 : decide (x6_14 ≤ x8_8) = true:=decide_eq_true c20;clear c20
                     simp only [Option.some.injEq,Prod.mk.injEq] at H
                     obtain ⟨rfl,rfl,rfl⟩:=H;have p458 : 0 ≤ (x8_8 : Int):=of_decide_eq_true aa_;have q458 : x8_8 < (l0.length : Int):=of_decide_eq_true aa_;obtain ⟨ad458,e458,hx458_0⟩:=Kd.at_int HR0.out x8_8 p458 q458;obtain rfl : ad457 = ad458:=(by injection e458);replace p458:=eq_true p458;replace q458:=eq_true q458;go_wp2
                     go_ret3
                     exact ⟨by first|rfl|(simp;done)|(simp [*];done),by repeat (first|exact Drawn0.refl _|apply Drawn0.step)⟩
                    rw [if_neg c20] at H
                    have c20b0 : decide (x6_14 ≤ x8_8) = false:=decide_eq_false c20;clear c20
                    by_cases c21 : (wrap64 (rd l0 x8_8)) < 128
                    ·rw [if_pos c21] at H
                     have c21b0 : decide ((wrap64 (rd l0 x8_8)) < 128) = true:=decide_eq_true c21;clear c21
                     simp only [Option.some.injEq,Prod.mk.injEq] at H
                     obtain ⟨rfl,rfl,rfl⟩:=H;have p458 : 0 ≤ (x8_8 : Int):=of_decide_eq_true aa_;have q458 : x8_8 < (l0.length : Int):=of_decide_eq_true aa_;obtain ⟨ad458,e458,hx458_0⟩:=Kd.at_int HR0.out x8_8 p458 q458;obtain rfl : ad457 = ad458:=(by injection e458);replace p458:=eq_true p458;replace q458:=eq_true q458;go_wp2
                     go_ret3
                     exact ⟨by first|rfl|(simp;done)|(simp [*];done),by repeat (first|exact Drawn0.refl _|apply Drawn0.step)⟩
                    rw [if_neg c21] at H
                    have c21b0 : decide ((wrap64 (rd l0 x8_8)) < 128) = false:=decide_eq_false c21;clear c21
                    by_cases c22 : (wrap64 (rd l0 x8_8)) ≥ 192
                    ·rw [if_pos c22] at H
                     have c22b0 : decide (192 ≤ (wrap64 (rd l0 x8_8))) = true:=decide_eq_true c22;clear c22
                     simp only [Option.some.injEq,Prod.mk.injEq] at H
                     obtain ⟨rfl,rfl,rfl⟩:=H;have p458 : 0 ≤ (x8_8 : Int):=of_decide_eq_true aa_;have q458 : x8_8 < (l0.length : Int):=of_decide_eq_true aa_;obtain ⟨ad458,e458,hx458_0⟩:=Kd.at_int HR0.out x8_8 p458 q458;obtain rfl : ad457 = ad458:=(by injection e458);replace p458:=eq_true p458;replace q458:=eq_true q458;go_wp2
                     go_ret3
                     exact ⟨by first|rfl|(simp;done)|(simp [*];done),by repeat (first|exact Drawn0.refl _|apply Drawn0.step)⟩
                    rw [if_neg c22] at H
                    have c22b0 : decide (192 ≤ (wrap64 (rd l0 x8_8))) = false:=decide_eq_false c22;clear c22;have H':=Aside0.mk H;clear H;have p458 : 0 ≤ (x8_8 : Int):=of_decide_eq_true aa_;have q458 : x8_8 < (l0.length : Int):=of_decide_eq_true aa_;obtain ⟨ad458,e458,hx458_0⟩:=Kd.at_int HR0.out x8_8 p458 q458;obtain rfl : ad457 = ad458:=(by injection e458);replace p458:=eq_true p458;replace q458:=eq_true q458;go_wp2
                    go_roundg k8
                    case measure=>have:=HJ2.out;have:=HJ4.out;have:=HJ6.out;have:=HJ8.out;have:=HJ10.out;have:=HJ12.out;have:=HJ14.out;have:=HK8.out;omega
                    case rel=>exact ⟨(wrap64 ((wrap64 ((wrap64 (x7_8 * 64)) + (wrap64 (rd l0 x8_8)))) - 128)),(wrap64 (x8_8 + 1)),rr_,rr_,(by first|exact H'|(subst_vars;exact H')),⟨by have:=HJ2.out;have:=HJ4.out;have:=HJ6.out;have:=HJ8.out;have:=HJ10.out;have:=HJ12.out;have:=HJ14.out;have:=HK8.out;omega⟩,by repeat (first|exact Drawn0.refl _|apply Drawn0.step)⟩
                   rw [if_neg c19] at H
                   exact absurd H (by simp)
                  rw [if_neg c18] at H
                  have c18b0 : decide (x8_8 < (l0.length : Int)) = false:=decide_eq_false c18;clear c18;have H':=Aside0.mk H;clear H;go_wp2
                  go_loopg [7,10,11] k8 (fun kq v7 v10 v11 w'=>∃ (x7_9 : Int) (x10_9 : Int) (x11_9 : Int),v7 = .int .i64 x7_9 ∧ v10 = .int .i64 x10_9 ∧ v11 = .int .i64 x11_9 ∧ Aside0 (quarryref05_span.l1 kq x6_14 x7_9 x10_9 x11_9 = some (r1,r2,r3)) ∧ Aside0 (kq ≤ k8) ∧ Drawn0 w w')
                  case atStart=>exact ⟨(x7_8),(x7_8),((l0.length : Int)),rr_,rr_,rr_,H',⟨Nat.le_refl _⟩,by repeat (first|exact Drawn0.refl _|apply Drawn0.step)⟩
                  case round =>
                   clear H';obtain ⟨x7_9,x10_9,x11_9,rfl,rfl,rfl,HA,HK9,⟨m9,rfl⟩⟩:=hrel
                   cases gk with
                   | zero=>exact absurd HA.out (by simp [quarryref05_span.l1])
                   | succ k9 =>
                    have H:=HA.out;clear HA
                    simp only [quarryref05_span.l1] at H
                    by_cases c23 : x11_9 < x6_14
                    ·rw [if_pos c23] at H
                     have c23b0 : decide (x11_9 < x6_14) = true:=decide_eq_true c23;clear c23;have H':=Aside0.mk H;clear H;go_wp2
                     go_roundg k9
                     case measure=>have:=HJ2.out;have:=HJ4.out;have:=HJ6.out;have:=HJ8.out;have:=HJ10.out;have:=HJ12.out;have:=HJ14.out;have:=HK8.out;have:=HK9.out;omega
                     case rel=>exact ⟨(wrap64 (x7_9 * 64)),(wrap64 ((wrap64 (x10_9 * 64)) + 63)),(wrap64 (x11_9 + 1)),rr_,rr_,rr_,(by first|exact H'|(subst_vars;exact H')),⟨by have:=HJ2.out;have:=HJ4.out;have:=HJ6.out;have:=HJ8.out;have:=HJ10.out;have:=HJ12.out;have:=HJ14.out;have:=HK8.out;have:=HK9.out;omega⟩,by repeat (first|exact Drawn0.refl _|apply Drawn0.step)⟩
                    rw [if_neg c23] at H
                    have c23b0 : decide (x11_9 < x6_14) = false:=decide_eq_false c23;clear c23
                    simp only [Option.some.injEq,Prod.mk.injEq] at H
                    obtain ⟨rfl,rfl,rfl⟩:=H;go_wp2
                    go_ret3
                    exact ⟨by first|rfl|(simp;done)|(simp [*];done),by repeat (first|exact Drawn0.refl _|apply Drawn0.step)⟩
 rw [if_neg c2] at H
 exact absurd H (by simp)
end Go.Proofs.YtlgamjgdkljfiacGreatDoor.PWritePretties
