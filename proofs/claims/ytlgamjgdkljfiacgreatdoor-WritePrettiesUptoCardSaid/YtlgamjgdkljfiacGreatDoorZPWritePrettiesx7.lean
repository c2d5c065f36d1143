-- Written by shrink.py, a program of this session: what the law needs of the print and its words. Lean checks it.
import Derived.Test.YtlgamjgdkljfiacGreatDoorZPWritePrettiesx0
namespace Go.Proofs.YtlgamjgdkljfiacGreatDoor.PWritePretties
open Go.RowKit Go.Proofs.YtlgamjgdkljfiacGreatDoorW.PrintWords Go.Proofs.YtlgamjgdkljfiacGreatDoorW.PrintLast Go.Proofs.YtlgamjgdkljfiacGreatDoorW.PrintMore
attribute [local go_sem] max2_int min2_int max_two min_two max_three min_three max_four min_four
set_option linter.unusedVariables false
set_option linter.unusedSimpArgs false
def strings_trimLeftByte.l0 : Nat → ByteArray → Int → Option (ByteArray)
 | 0,_,_=>none
 | k + 1,x0,x1=>if (x0.size : Int) > 0 then (if 0 < (x0.size : Int) then (if (bt x0 0) = x1 then (if 1 ≤ (x0.size : Int) then (strings_trimLeftByte.l0 k (x0.extract 1 x0.size) x1) else (none)) else (some x0)) else (none)) else (some x0)
def strings_trimLeftByte.f (k : Nat) (a0 : ByteArray) (a1 : Int) : Option (ByteArray):=strings_trimLeftByte.l0 k a0 a1
set_option maxHeartbeats 8000000 in
set_option maxRecDepth 100000 in
theorem strings_trimLeftByte.calls (k : Nat) (a0 : ByteArray) (a1 : Int) (r : ByteArray) (w : World) (h : strings_trimLeftByte.f k a0 a1 = some r) :
  Calls Tryz.prog 112 #[.string a0,.int .u8 a1] w fun e w'=>e = .returned (.string r) ∧ Drawn0 w w':=by
 have H : (strings_trimLeftByte.l0 k a0 a1) = some r:=h;clear h;have H':=Aside0.mk H;clear H;go_enter Tryz.func112,Tryz.ntmps112;go_wp2
 go_loopg [0] k (fun kq v0 w'=>∃ (x0_1 : ByteArray),v0 = .string x0_1 ∧ Aside0 (strings_trimLeftByte.l0 kq x0_1 a1 = some r) ∧ Aside0 (kq ≤ k) ∧ Drawn0 w w')
 case atStart=>exact ⟨(a0),rr_,H',⟨Nat.le_refl _⟩,by repeat (first|exact Drawn0.refl _|apply Drawn0.step)⟩
 case round =>
  clear H';obtain ⟨x0_1,rfl,HA,HK1,⟨m1,rfl⟩⟩:=hrel
  cases gk with
  | zero=>exact absurd HA.out (by simp [strings_trimLeftByte.l0])
  | succ k1 =>
   have H:=HA.out;clear HA
   simp only [strings_trimLeftByte.l0] at H
   by_cases c3 : (x0_1.size : Int) > 0
   ·rw [if_pos c3] at H
    have c3b0 : decide (0 < (x0_1.size : Int)) = true:=decide_eq_true c3;have c3b1 : decide (0 < x0_1.size) = true:=decide_eq_true (by omega);clear c3
    by_cases c4 : 0 < (x0_1.size : Int)
    ·rw [if_pos c4] at H
     have c4b0 : decide (0 < (x0_1.size : Int)) = true:=decide_eq_true c4;have c4b1 : decide (0 < x0_1.size) = true:=decide_eq_true (by omega);clear c4
     by_cases c6 : (bt x0_1 0) = a1
     ·rw [if_pos c6] at H
      have c6b0 : ((bt x0_1 0) == a1) = true:=beq_iff_eq.mpr c6;have c6b1 : ((bt x0_1 0) != a1) = false:=bne_eq_false_iff_eq.mpr c6;clear c6
      by_cases c7 : 1 ≤ (x0_1.size : Int)
      ·rw [if_pos c7] at H
       have c7b0:=eq_true c7;have c7b1 : decide (1 ≤ (x0_1.size : Int)) = true:=decide_eq_true c7;clear c7;have H':=Aside0.mk H;clear H;have p5 : 0 ≤ (0 : Int):=(by omega);have q5 : 0 < x0_1.size:=(by have : (0 : Int) < (x0_1.size : Int):=(by first|exact of_decide_eq_true aa_|exact of_eq_true aa_|omega);omega)
       have hx5 : ∀ h : 0 < x0_1.size,((x0_1[0]'h).toNat : Int) = bt x0_1 0:=bt_at x0_1 0
       clear p5;have qi5 : (0 < (x0_1.size : Int)) = True:=eq_true (of_decide_eq_true aa_);replace q5:=eq_true q5;go_wp2
       go_roundg k1
       case measure=>have:=HK1.out;omega
       case rel=>exact ⟨(x0_1.extract 1 x0_1.size),rr_,(by first|exact H'|(subst_vars;exact H')),⟨by have:=HK1.out;omega⟩,by repeat (first|exact Drawn0.refl _|apply Drawn0.step)⟩
      rw [if_neg c7] at H
      exact absurd H (by simp)
     rw [if_neg c6] at H
     have c6b0 : ((bt x0_1 0) == a1) = false:=beq_eq_false_iff_ne.mpr c6;have c6b1 : ((bt x0_1 0) != a1) = true:=bne_iff_ne.mpr c6;obtain rfl:=Option.some.inj H;have p5 : 0 ≤ (0 : Int):=(by omega);have q5 : 0 < x0_1.size:=(by have : (0 : Int) < (x0_1.size : Int):=(by first|exact of_decide_eq_true aa_|exact of_eq_true aa_|omega);omega)
     have hx5 : ∀ h : 0 < x0_1.size,((x0_1[0]'h).toNat : Int) = bt x0_1 0:=bt_at x0_1 0
     clear p5;have qi5 : (0 < (x0_1.size : Int)) = True:=eq_true (of_decide_eq_true aa_);replace q5:=eq_true q5;go_wp2
     go_ret;exact ⟨by first|rfl|(simp;done)|(simp [*];done),by repeat (first|exact Drawn0.refl _|apply Drawn0.step)⟩
    rw [if_neg c4] at H
    exact absurd H (by simp)
   rw [if_neg c3] at H
   have c3b0 : decide (0 < (x0_1.size : Int)) = false:=decide_eq_false c3;have c3b1 : decide (0 < x0_1.size) = false:=decide_eq_false (by omega);clear c3;obtain rfl:=Option.some.inj H;go_wp2
   go_ret;exact ⟨by first|rfl|(simp;done)|(simp [*];done),by repeat (first|exact Drawn0.refl _|apply Drawn0.step)⟩
mutual
def strings_TrimLeft.j0 : Nat → ByteArray → ByteArray → Bool → Option (ByteArray)
 | 0,_,_,_=>none
 | k + 1,x0,x1,x12=>if x12 = true then (some x0) else (if (x1.size : Int) = 1 then (if 0 < (x1.size : Int) then (strings_TrimLeft.j1 k x0 x1 (decide ((bt x1 0) < 128))) else (none)) else (strings_TrimLeft.j1 k x0 x1 false))
def strings_TrimLeft.j1 : Nat → ByteArray → ByteArray → Bool → Option (ByteArray)
 | 0,_,_,_=>none
 | k + 1,x0,x1,x21=>if x21 = true then (if 0 < (x1.size : Int) then ((strings_trimLeftByte.f k x0 (bt x1 0)).bind fun t195=>(some t195)) else (none)) else (none)
end
def strings_TrimLeft.f (k : Nat) (a0 : ByteArray) (a1 : ByteArray) : Option (ByteArray):=if a0.toList = ([] : List UInt8) then (strings_TrimLeft.j0 k a0 a1 true) else (strings_TrimLeft.j0 k a0 a1 (a1.toList == ([] : List UInt8)))
set_option maxHeartbeats 8000000 in
set_option maxRecDepth 100000 in
theorem strings_TrimLeft.calls (k : Nat) (a0 : ByteArray) (a1 : ByteArray) (r : ByteArray) (w : World) (h : strings_TrimLeft.f k a0 a1 = some r) :
  Calls Tryz.prog 97 #[.string a0,.string a1] w fun e w'=>e = .returned (.string r) ∧ Below w.heap.size w w':=by
 have HB:=Aside0.mk (Below.refl w.heap.size w);have H : (if a0.toList = ([] : List UInt8) then (strings_TrimLeft.j0 k a0 a1 true) else (strings_TrimLeft.j0 k a0 a1 (a1.toList == ([] : List UInt8)))) = some r:=h;clear h;have HC3:=Aside0.mk H;clear H;go_enter Tryz.func97,Tryz.ntmps97
 go_upto_region 1 with (fail)
 go_cut [12] (fun v12 wc=>∃ (kq : Nat) (x12_2 : Bool),v12 = .bool x12_2 ∧ Aside0 (strings_TrimLeft.j0 kq a0 a1 x12_2 = some r) ∧ Aside0 (kq ≤ k) ∧ Aside0 (Below w.heap.size w wc))
 case first =>
  have H:=HC3.out;clear HC3
  by_cases c4 : a0.toList = ([] : List UInt8)
  ·rw [if_pos c4] at H
   have c4b0 : (a0.toList == ([] : List UInt8)) = true:=beq_iff_eq.mpr c4;have c4b1 : (a0.toList != ([] : List UInt8)) = false:=bne_eq_false_iff_eq.mpr c4;clear c4
   (first|rw [c4b0]|(simp only [i64_w,i32_w];rw [c4b0])|skip)
   have H':=Aside0.mk H;clear H;go_wp2
   go_meet
   case rel=>exact ⟨_,(true),rr_,(by first|exact H'|(subst_vars;exact H')),⟨by first|omega|exact Nat.le_refl _⟩,⟨(hb_ HB)⟩⟩
  rw [if_neg c4] at H
  have c4b0 : (a0.toList == ([] : List UInt8)) = false:=beq_eq_false_iff_ne.mpr c4;have c4b1 : (a0.toList != ([] : List UInt8)) = true:=bne_iff_ne.mpr c4
  (first|rw [c4b0]|(simp only [i64_w,i32_w];rw [c4b0])|skip)
  have H':=Aside0.mk H;clear H;go_wp2
  go_meet
  case rel=>exact ⟨_,((a1.toList == ([] : List UInt8))),rr_,(by first|exact H'|(subst_vars;exact H')),⟨by first|omega|exact Nat.le_refl _⟩,⟨(hb_ HB)⟩⟩
 case rest =>
  clear HC3;obtain ⟨kq,x12_2,rfl,HA,HJ2,HB⟩:=hcut
  cases kq with
  | zero=>exact absurd HA.out (by simp [strings_TrimLeft.j0])
  | succ kj2 =>
   have H:=HA.out;clear HA
   simp only [strings_TrimLeft.j0] at H
   by_cases c5 : x12_2 = true
   ·subst c5
    have H1 : (some a0) = some r:=by rw [if_pos rfl] at H;exact H
    clear H;have H:=H1;clear H1;obtain rfl:=Option.some.inj H;go_wp2
    go_ret;exact ⟨er_,(hb_ HB)⟩
   replace c5:=Bool.eq_false_iff.mpr c5;subst c5
   have H1 : (if (a1.size : Int) = 1 then (if 0 < (a1.size : Int) then (strings_TrimLeft.j1 kj2 a0 a1 (decide ((bt a1 0) < 128))) else (none)) else (strings_TrimLeft.j1 kj2 a0 a1 false)) = some r:=by rw [if_neg (show ¬ (false = true) by decide)] at H;exact H
   clear H;have H:=H1;clear H1;have HC6:=Aside0.mk H;clear H
   go_upto_region 3 with (fail)
   go_cut [21] (fun v21 wc=>∃ (kq : Nat) (x21_5 : Bool),v21 = .bool x21_5 ∧ Aside0 (strings_TrimLeft.j1 kq a0 a1 x21_5 = some r) ∧ Aside0 (kq ≤ kj2) ∧ Aside0 (Below w.heap.size w wc))
   case first =>
    have H:=HC6.out;clear HC6
    by_cases c7 : (a1.size : Int) = 1
    ·rw [if_pos c7] at H
     have c7b0 : ((a1.size : Int) == 1) = true:=beq_iff_eq.mpr c7;have c7b1 : ((a1.size : Int) != 1) = false:=bne_eq_false_iff_eq.mpr c7;clear c7
     (first|rw [c7b0]|(simp only [i64_w,i32_w];rw [c7b0])|skip)
     by_cases c8 : 0 < (a1.size : Int)
     ·rw [if_pos c8] at H
      have c8b0 : decide (0 < (a1.size : Int)) = true:=decide_eq_true c8;have c8b1 : decide (0 < a1.size) = true:=decide_eq_true (by omega);clear c8;have H':=Aside0.mk H;clear H;have p9 : 0 ≤ (0 : Int):=(by omega);have q9 : 0 < a1.size:=(by have : (0 : Int) < (a1.size : Int):=(by first|exact of_decide_eq_true aa_|exact of_eq_true aa_|omega);omega)
      have hx9 : ∀ h : 0 < a1.size,((a1[0]'h).toNat : Int) = bt a1 0:=bt_at a1 0
      clear p9;have qi9 : (0 < (a1.size : Int)) = True:=eq_true (of_decide_eq_true aa_);replace q9:=eq_true q9;go_wp2
      go_meet
      case rel=>exact ⟨_,(decide ((bt a1 0) < 128)),rr_,(by first|exact H'|(subst_vars;exact H')),⟨by have:=HJ2.out;first|omega|exact Nat.le_refl _⟩,⟨(hb_ HB)⟩⟩
     rw [if_neg c8] at H
     exact absurd H (by simp)
    rw [if_neg c7] at H
    have c7b0 : ((a1.size : Int) == 1) = false:=beq_eq_false_iff_ne.mpr c7;have c7b1 : ((a1.size : Int) != 1) = true:=bne_iff_ne.mpr c7
    (first|rw [c7b0]|(simp only [i64_w,i32_w];rw [c7b0])|skip)
    have H':=Aside0.mk H;clear H;go_wp2
    go_meet
    case rel=>exact ⟨_,(false),rr_,(by first|exact H'|(subst_vars;exact H')),⟨by have:=HJ2.out;first|omega|exact Nat.le_refl _⟩,⟨(hb_ HB)⟩⟩
   case rest =>
    clear HC6;obtain ⟨kq,x21_5,rfl,HA,HJ5,HB⟩:=hcut
    cases kq with
    | zero=>exact absurd HA.out (by simp [strings_TrimLeft.j1])
    | succ kj5 =>
     have H:=HA.out;clear HA
     simp only [strings_TrimLeft.j1] at H
     by_cases c10 : x21_5 = true
     ·subst c10
      have H1 : (if 0 < (a1.size : Int) then ((strings_trimLeftByte.f kj5 a0 (bt a1 0)).bind fun t195=>(some t195)) else (none)) = some r:=by rw [if_pos rfl] at H;exact H
      clear H;have H:=H1;clear H1
      by_cases c11 : 0 < (a1.size : Int)
      ·rw [if_pos c11] at H
       have c11b0 : decide (0 < (a1.size : Int)) = true:=decide_eq_true c11;have c11b1 : decide (0 < a1.size) = true:=decide_eq_true (by omega);clear c11;replace H:=Option.bind_eq_some_iff.mp H;obtain ⟨t195,A130,H⟩:=H;replace H : (some t195) = some r:=H;have A13:=Aside0.mk A130;clear A130;obtain rfl:=Option.some.inj H;have p12 : 0 ≤ (0 : Int):=(by omega);have q12 : 0 < a1.size:=(by have : (0 : Int) < (a1.size : Int):=(by first|exact of_decide_eq_true aa_|exact of_eq_true aa_|omega);omega)
       have hx12 : ∀ h : 0 < a1.size,((a1[0]'h).toNat : Int) = bt a1 0:=bt_at a1 0
       clear p12;have qi12 : (0 < (a1.size : Int)) = True:=eq_true (of_decide_eq_true aa_);replace q12:=eq_true q12
       go_wp2_with (first|((with_reducible refine gate_callee (f:=112) rfl ?_);refine goesL_ (some 25) rfl rfl Tryz.func112 (by kernel_rfl) rfl #[.string a0,.int .u8 (bt a1 0)] rfl am_ ?_;(with_reducible refine (strings_trimLeftByte.calls kj5 a0 (bt a1 0) t195 _ A13.out).mono ?_);rintro e w' ⟨rfl,⟨nd,rfl⟩⟩;refine ⟨_,rfl,?_⟩))
       go_ret;exact ⟨er_,(hb_ HB)⟩
      rw [if_neg c11] at H
      exact absurd H (by simp)
     replace c10:=Bool.eq_false_iff.mpr c10;subst c10
     have H1 : (none) = some r:=by rw [if_neg (show ¬ (false = true) by decide)] at H;exact H
     clear H;have H:=H1;clear H1;exact absurd H (by simp)
def strings_trimRightByte.l0 : Nat → ByteArray → Int → Option (ByteArray)
 | 0,_,_=>none
 | k + 1,x0,x1=>if (x0.size : Int) > 0 then (if 0 ≤ (wrap64 ((x0.size : Int) - 1)) then (if (wrap64 ((x0.size : Int) - 1)) < (x0.size : Int) then (if (bt x0 (wrap64 ((x0.size : Int) - 1))) = x1 then (if (wrap64 ((x0.size : Int) - 1)) ≤ (x0.size : Int) then (strings_trimRightByte.l0 k (x0.extract 0 ((wrap64 ((x0.size : Int) - 1)) : Int).toNat) x1) else (none)) else (some x0)) else (none)) else (none)) else (some x0)
def strings_trimRightByte.f (k : Nat) (a0 : ByteArray) (a1 : Int) : Option (ByteArray):=strings_trimRightByte.l0 k a0 a1
set_option maxHeartbeats 8000000 in
set_option maxRecDepth 100000 in
theorem strings_trimRightByte.calls (k : Nat) (a0 : ByteArray) (a1 : Int) (r : ByteArray) (w : World) (h : strings_trimRightByte.f k a0 a1 = some r) :
  Calls Tryz.prog 116 #[.string a0,.int .u8 a1] w fun e w'=>e = .returned (.string r) ∧ Drawn0 w w':=by
 have H : (strings_trimRightByte.l0 k a0 a1) = some r:=h;clear h;have H':=Aside0.mk H;clear H;go_enter Tryz.func116,Tryz.ntmps116;go_wp2
 go_loopg [0] k (fun kq v0 w'=>∃ (x0_1 : ByteArray),v0 = .string x0_1 ∧ Aside0 (strings_trimRightByte.l0 kq x0_1 a1 = some r) ∧ Aside0 (kq ≤ k) ∧ Drawn0 w w')
 case atStart=>exact ⟨(a0),rr_,H',⟨Nat.le_refl _⟩,by repeat (first|exact Drawn0.refl _|apply Drawn0.step)⟩
 case round =>
  clear H';obtain ⟨x0_1,rfl,HA,HK1,⟨m1,rfl⟩⟩:=hrel
  cases gk with
  | zero=>exact absurd HA.out (by simp [strings_trimRightByte.l0])
  | succ k1 =>
   have H:=HA.out;clear HA
   simp only [strings_trimRightByte.l0] at H
   by_cases c3 : (x0_1.size : Int) > 0
   ·rw [if_pos c3] at H
    have c3b0 : decide (0 < (x0_1.size : Int)) = true:=decide_eq_true c3;have c3b1 : decide (0 < x0_1.size) = true:=decide_eq_true (by omega);clear c3
    obtain ⟨ji4,hji4⟩ : ∃ j_ : Int,(wrap64 ((x0_1.size : Int) - 1)) = j_:=⟨_,rfl⟩
    replace H : (if 0 ≤ (ji4) then (if (ji4) < (x0_1.size : Int) then (if (bt x0_1 (ji4)) = a1 then (if (ji4) ≤ (x0_1.size : Int) then (strings_trimRightByte.l0 k1 (x0_1.extract 0 ((ji4) : Int).toNat) a1) else (none)) else (some x0_1)) else (none)) else (none)) = some r:=by first|(rw [hji4] at H;exact H)|(simp only [hji4] at H ⊢;exact H)
    have hji4w : (IntKind.i64.wrap ((x0_1.size : Int) - 1)) = ji4:=(i64_w _).trans hji4
    by_cases c5 : 0 ≤ (ji4)
    ·rw [if_pos c5] at H
     have c5b0 : decide (0 ≤ (ji4)) = true:=decide_eq_true c5;clear c5
     by_cases c6 : (ji4) < (x0_1.size : Int)
     ·rw [if_pos c6] at H
      have c6b0 : decide ((ji4) < (x0_1.size : Int)) = true:=decide_eq_true c6;clear c6
      by_cases c8 : (bt x0_1 (ji4)) = a1
      ·rw [if_pos c8] at H
       have c8b0 : ((bt x0_1 (ji4)) == a1) = true:=beq_iff_eq.mpr c8;have c8b1 : ((bt x0_1 (ji4)) != a1) = false:=bne_eq_false_iff_eq.mpr c8;clear c8;have c9b0:=eq_true (of_decide_eq_true aa_ : 0 ≤ (ji4))
       by_cases c10 : (ji4) ≤ (x0_1.size : Int)
       ·rw [if_pos c10] at H
        have c10b0:=eq_true c10;have c10b1 : decide ((ji4) ≤ (x0_1.size : Int)) = true:=decide_eq_true c10;clear c10;have H':=Aside0.mk H;clear H;have p7 : 0 ≤ ((ji4) : Int):=of_decide_eq_true aa_;have q7 : (ji4) < (x0_1.size : Int):=of_decide_eq_true aa_;have hx7:=bt_at x0_1 (ji4);replace p7:=eq_true p7;replace q7:=eq_true q7;go_wp2
        go_roundg k1
        case measure=>have:=HK1.out;omega
        case rel=>exact ⟨(x0_1.extract 0 ((ji4) : Int).toNat),(by first|rfl|(simp;done)|(simp only [← hji4] <;> (first|rfl|simp))|(simp [*];done)),(by first|exact H'|(subst_vars;exact H')),⟨by have:=HK1.out;omega⟩,by repeat (first|exact Drawn0.refl _|apply Drawn0.step)⟩
       rw [if_neg c10] at H
       exact absurd H (by simp)
      rw [if_neg c8] at H
      have c8b0 : ((bt x0_1 (ji4)) == a1) = false:=beq_eq_false_iff_ne.mpr c8;have c8b1 : ((bt x0_1 (ji4)) != a1) = true:=bne_iff_ne.mpr c8;obtain rfl:=Option.some.inj H;have p7 : 0 ≤ ((ji4) : Int):=of_decide_eq_true aa_;have q7 : (ji4) < (x0_1.size : Int):=of_decide_eq_true aa_;have hx7:=bt_at x0_1 (ji4);replace p7:=eq_true p7;replace q7:=eq_true q7;go_wp2
      go_ret;exact ⟨by first|rfl|(simp;done)|(simp only [← hji4] <;> (first|rfl|simp))|(simp [*];done),by repeat (first|exact Drawn0.refl _|apply Drawn0.step)⟩
     rw [if_neg c6] at H
     exact absurd H (by simp)
    rw [if_neg c5] at H
    exact absurd H (by simp)
   rw [if_neg c3] at H
   have c3b0 : decide (0 < (x0_1.size : Int)) = false:=decide_eq_false c3;have c3b1 : decide (0 < x0_1.size) = false:=decide_eq_false (by omega);clear c3;obtain rfl:=Option.some.inj H;go_wp2
   go_ret;exact ⟨by first|rfl|(simp;done)|(simp [*];done),by repeat (first|exact Drawn0.refl _|apply Drawn0.step)⟩
mutual
def strings_TrimRight.j0 : Nat → ByteArray → ByteArray → Bool → Option (ByteArray)
 | 0,_,_,_=>none
 | k + 1,x0,x1,x12=>if x12 = true then (some x0) else (if (x1.size : Int) = 1 then (if 0 < (x1.size : Int) then (strings_TrimRight.j1 k x0 x1 (decide ((bt x1 0) < 128))) else (none)) else (strings_TrimRight.j1 k x0 x1 false))
def strings_TrimRight.j1 : Nat → ByteArray → ByteArray → Bool → Option (ByteArray)
 | 0,_,_,_=>none
 | k + 1,x0,x1,x21=>if x21 = true then (if 0 < (x1.size : Int) then ((strings_trimRightByte.f k x0 (bt x1 0)).bind fun t197=>(some t197)) else (none)) else (none)
end
def strings_TrimRight.f (k : Nat) (a0 : ByteArray) (a1 : ByteArray) : Option (ByteArray):=if a0.toList = ([] : List UInt8) then (strings_TrimRight.j0 k a0 a1 true) else (strings_TrimRight.j0 k a0 a1 (a1.toList == ([] : List UInt8)))
set_option maxHeartbeats 8000000 in
set_option maxRecDepth 100000 in
theorem strings_TrimRight.calls (k : Nat) (a0 : ByteArray) (a1 : ByteArray) (r : ByteArray) (w : World) (h : strings_TrimRight.f k a0 a1 = some r) :
  Calls Tryz.prog 98 #[.string a0,.string a1] w fun e w'=>e = .returned (.string r) ∧ Below w.heap.size w w':=by
 have HB:=Aside0.mk (Below.refl w.heap.size w);have H : (if a0.toList = ([] : List UInt8) then (strings_TrimRight.j0 k a0 a1 true) else (strings_TrimRight.j0 k a0 a1 (a1.toList == ([] : List UInt8)))) = some r:=h;clear h;have HC3:=Aside0.mk H;clear H;go_enter Tryz.func98,Tryz.ntmps98
 go_upto_region 1 with (fail)
 go_cut [12] (fun v12 wc=>∃ (kq : Nat) (x12_2 : Bool),v12 = .bool x12_2 ∧ Aside0 (strings_TrimRight.j0 kq a0 a1 x12_2 = some r) ∧ Aside0 (kq ≤ k) ∧ Aside0 (Below w.heap.size w wc))
 case first =>
  have H:=HC3.out;clear HC3
  by_cases c4 : a0.toList = ([] : List UInt8)
  ·rw [if_pos c4] at H
   have c4b0 : (a0.toList == ([] : List UInt8)) = true:=beq_iff_eq.mpr c4;have c4b1 : (a0.toList != ([] : List UInt8)) = false:=bne_eq_false_iff_eq.mpr c4;clear c4
   (first|rw [c4b0]|(simp only [i64_w,i32_w];rw [c4b0])|skip)
   have H':=Aside0.mk H;clear H;go_wp2
   go_meet
   case rel=>exact ⟨_,(true),rr_,(by first|exact H'|(subst_vars;exact H')),⟨by first|omega|exact Nat.le_refl _⟩,⟨(hb_ HB)⟩⟩
  rw [if_neg c4] at H
  have c4b0 : (a0.toList == ([] : List UInt8)) = false:=beq_eq_false_iff_ne.mpr c4;have c4b1 : (a0.toList != ([] : List UInt8)) = true:=bne_iff_ne.mpr c4
  (first|rw [c4b0]|(simp only [i64_w,i32_w];rw [c4b0])|skip)
  have H':=Aside0.mk H;clear H;go_wp2
  go_meet
  case rel=>exact ⟨_,((a1.toList == ([] : List UInt8))),rr_,(by first|exact H'|(subst_vars;exact H')),⟨by first|omega|exact Nat.le_refl _⟩,⟨(hb_ HB)⟩⟩
 case rest =>
  clear HC3;obtain ⟨kq,x12_2,rfl,HA,HJ2,HB⟩:=hcut
  cases kq with
  | zero=>exact absurd HA.out (by simp [strings_TrimRight.j0])
  | succ kj2 =>
   have H:=HA.out;clear HA
   simp only [strings_TrimRight.j0] at H
   by_cases c5 : x12_2 = true
   ·subst c5
    have H1 : (some a0) = some r:=by rw [if_pos rfl] at H;exact H
    clear H;have H:=H1;clear H1;obtain rfl:=Option.some.inj H;go_wp2
    go_ret;exact ⟨er_,(hb_ HB)⟩
   replace c5:=Bool.eq_false_iff.mpr c5;subst c5
   have H1 : (if (a1.size : Int) = 1 then (if 0 < (a1.size : Int) then (strings_TrimRight.j1 kj2 a0 a1 (decide ((bt a1 0) < 128))) else (none)) else (strings_TrimRight.j1 kj2 a0 a1 false)) = some r:=by rw [if_neg (show ¬ (false = true) by decide)] at H;exact H
   clear H;have H:=H1;clear H1;have HC6:=Aside0.mk H;clear H
   go_upto_region 3 with (fail)
   go_cut [21] (fun v21 wc=>∃ (kq : Nat) (x21_5 : Bool),v21 = .bool x21_5 ∧ Aside0 (strings_TrimRight.j1 kq a0 a1 x21_5 = some r) ∧ Aside0 (kq ≤ kj2) ∧ Aside0 (Below w.heap.size w wc))
   case first =>
    have H:=HC6.out;clear HC6
    by_cases c7 : (a1.size : Int) = 1
    ·rw [if_pos c7] at H
     have c7b0 : ((a1.size : Int) == 1) = true:=beq_iff_eq.mpr c7;have c7b1 : ((a1.size : Int) != 1) = false:=bne_eq_false_iff_eq.mpr c7;clear c7
     (first|rw [c7b0]|(simp only [i64_w,i32_w];rw [c7b0])|skip)
     by_cases c8 : 0 < (a1.size : Int)
     ·rw [if_pos c8] at H
      have c8b0 : decide (0 < (a1.size : Int)) = true:=decide_eq_true c8;have c8b1 : decide (0 < a1.size) = true:=decide_eq_true (by omega);clear c8;have H':=Aside0.mk H;clear H;have p9 : 0 ≤ (0 : Int):=(by omega);have q9 : 0 < a1.size:=(by have : (0 : Int) < (a1.size : Int):=(by first|exact of_decide_eq_true aa_|exact of_eq_true aa_|omega);omega)
      have hx9 : ∀ h : 0 < a1.size,((a1[0]'h).toNat : Int) = bt a1 0:=bt_at a1 0
      clear p9;have qi9 : (0 < (a1.size : Int)) = True:=eq_true (of_decide_eq_true aa_);replace q9:=eq_true q9;go_wp2
      go_meet
      case rel=>exact ⟨_,(decide ((bt a1 0) < 128)),rr_,(by first|exact H'|(subst_vars;exact H')),⟨by have:=HJ2.out;first|omega|exact Nat.le_refl _⟩,⟨(hb_ HB)⟩⟩
     rw [if_neg c8] at H
     exact absurd H (by simp)
    rw [if_neg c7] at H
    have c7b0 : ((a1.size : Int) == 1) = false:=beq_eq_false_iff_ne.mpr c7;have c7b1 : ((a1.size : Int) != 1) = true:=bne_iff_ne.mpr c7
    (first|rw [c7b0]|(simp only [i64_w,i32_w];rw [c7b0])|skip)
    have H':=Aside0.mk H;clear H;go_wp2
    go_meet
    case rel=>exact ⟨_,(false),rr_,(by first|exact H'|(subst_vars;exact H')),⟨by have:=HJ2.out;first|omega|exact Nat.le_refl _⟩,⟨(hb_ HB)⟩⟩
   case rest =>
    clear HC6;obtain ⟨kq,x21_5,rfl,HA,HJ5,HB⟩:=hcut
    cases kq with
    | zero=>exact absurd HA.out (by simp [strings_TrimRight.j1])
    | succ kj5 =>
     have H:=HA.out;clear HA
     simp only [strings_TrimRight.j1] at H
     by_cases c10 : x21_5 = true
     ·subst c10
      have H1 : (if 0 < (a1.size : Int) then ((strings_trimRightByte.f kj5 a0 (bt a1 0)).bind fun t197=>(some t197)) else (none)) = some r:=by rw [if_pos rfl] at H;exact H
      clear H;have H:=H1;clear H1
      by_cases c11 : 0 < (a1.size : Int)
      ·rw [if_pos c11] at H
       have c11b0 : decide (0 < (a1.size : Int)) = true:=decide_eq_true c11;have c11b1 : decide (0 < a1.size) = true:=decide_eq_true (by omega);clear c11;replace H:=Option.bind_eq_some_iff.mp H;obtain ⟨t197,A130,H⟩:=H;replace H : (some t197) = some r:=H;have A13:=Aside0.mk A130;clear A130;obtain rfl:=Option.some.inj H;have p12 : 0 ≤ (0 : Int):=(by omega);have q12 : 0 < a1.size:=(by have : (0 : Int) < (a1.size : Int):=(by first|exact of_decide_eq_true aa_|exact of_eq_true aa_|omega);omega)
       have hx12 : ∀ h : 0 < a1.size,((a1[0]'h).toNat : Int) = bt a1 0:=bt_at a1 0
       clear p12;have qi12 : (0 < (a1.size : Int)) = True:=eq_true (of_decide_eq_true aa_);replace q12:=eq_true q12
       go_wp2_with (first|((with_reducible refine gate_callee (f:=116) rfl ?_);refine goesL_ (some 25) rfl rfl Tryz.func116 (by kernel_rfl) rfl #[.string a0,.int .u8 (bt a1 0)] rfl am_ ?_;(with_reducible refine (strings_trimRightByte.calls kj5 a0 (bt a1 0) t197 _ A13.out).mono ?_);rintro e w' ⟨rfl,⟨nd,rfl⟩⟩;refine ⟨_,rfl,?_⟩))
       go_ret;exact ⟨er_,(hb_ HB)⟩
      rw [if_neg c11] at H
      exact absurd H (by simp)
     replace c10:=Bool.eq_false_iff.mpr c10;subst c10
     have H1 : (none) = some r:=by rw [if_neg (show ¬ (false = true) by decide)] at H;exact H
     clear H;have H:=H1;clear H1;exact absurd H (by simp)
end Go.Proofs.YtlgamjgdkljfiacGreatDoor.PWritePretties
