-- Written by shrink.py, a program of this session: what the law needs of the print and its words. Lean checks it.
import Derived.Test.YtlgamjgdkljfiacGreatDoorZPWritePrettiesx0
namespace Go.Proofs.YtlgamjgdkljfiacGreatDoor.PWritePretties
open Go.RowKit Go.Proofs.YtlgamjgdkljfiacGreatDoorW.PrintWords Go.Proofs.YtlgamjgdkljfiacGreatDoorW.PrintLast Go.Proofs.YtlgamjgdkljfiacGreatDoorW.PrintMore
attribute [local go_sem] max2_int min2_int max_two min_two max_three min_three max_four min_four
set_option linter.unusedVariables false
set_option linter.unusedSimpArgs false
def quarryref11_is.f (a0 : ByteArray) (a1 : Int) (a2 : Int) (a3 : Int) : Option (Bool):=if a1 < (a0.size : Int) then (if 0 ≤ a1 then (if (bt a0 a1) = a2 then (some true) else (some ((bt a0 a1) == a3))) else (none)) else (some false)
set_option maxHeartbeats 8000000 in
set_option maxRecDepth 100000 in
theorem quarryref11_is.calls (a0 : ByteArray) (a1 : Int) (a2 : Int) (a3 : Int) (r : Bool) (w : World) (h : quarryref11_is.f a0 a1 a2 a3 = some r) :
  Calls Tryz.prog 125 #[.string a0,.int .i64 a1,.int .u8 a2,.int .u8 a3] w fun e w'=>e = .returned (.bool r) ∧ Drawn0 w w':=by
 have H : (if a1 < (a0.size : Int) then (if 0 ≤ a1 then (if (bt a0 a1) = a2 then (some true) else (some ((bt a0 a1) == a3))) else (none)) else (some false)) = some r:=h;clear h
 by_cases c5 : a1 < (a0.size : Int)
 ·rw [if_pos c5] at H
  have c5b0 : decide (a1 < (a0.size : Int)) = true:=decide_eq_true c5;clear c5
  by_cases c6 : 0 ≤ a1
  ·rw [if_pos c6] at H
   have c6b0 : decide (0 ≤ a1) = true:=decide_eq_true c6;clear c6
   by_cases c8 : (bt a0 a1) = a2
   ·rw [if_pos c8] at H
    have c8b0 : ((bt a0 a1) == a2) = true:=beq_iff_eq.mpr c8;have c8b1 : ((bt a0 a1) != a2) = false:=bne_eq_false_iff_eq.mpr c8;clear c8;obtain rfl:=Option.some.inj H;have p7 : 0 ≤ (a1 : Int):=of_decide_eq_true aa_;have q7 : a1 < (a0.size : Int):=of_decide_eq_true aa_;have hx7:=bt_at a0 a1;replace p7:=eq_true p7;replace q7:=eq_true q7;go_enter Tryz.func125,Tryz.ntmps125;go_wp2
    go_ret;exact ⟨by first|rfl|(simp;done)|(simp [*];done),by repeat (first|exact Drawn0.refl _|apply Drawn0.step)⟩
   rw [if_neg c8] at H
   have c8b0 : ((bt a0 a1) == a2) = false:=beq_eq_false_iff_ne.mpr c8;have c8b1 : ((bt a0 a1) != a2) = true:=bne_iff_ne.mpr c8;obtain rfl:=Option.some.inj H;have p7 : 0 ≤ (a1 : Int):=of_decide_eq_true aa_;have q7 : a1 < (a0.size : Int):=of_decide_eq_true aa_;have hx7:=bt_at a0 a1;replace p7:=eq_true p7;replace q7:=eq_true q7;have p9 : 0 ≤ (a1 : Int):=of_decide_eq_true aa_;have q9 : a1 < (a0.size : Int):=of_decide_eq_true aa_;have hx9:=bt_at a0 a1;replace p9:=eq_true p9;replace q9:=eq_true q9;go_enter Tryz.func125,Tryz.ntmps125;go_wp2
   go_ret;exact ⟨by first|rfl|(simp;done)|(simp [*];done),by repeat (first|exact Drawn0.refl _|apply Drawn0.step)⟩
  rw [if_neg c6] at H
  exact absurd H (by simp)
 rw [if_neg c5] at H
 have c5b0 : decide (a1 < (a0.size : Int)) = false:=decide_eq_false c5;clear c5;obtain rfl:=Option.some.inj H;go_enter Tryz.func125,Tryz.ntmps125;go_wp2
 go_ret;exact ⟨by first|rfl|(simp;done)|(simp [*];done),by repeat (first|exact Drawn0.refl _|apply Drawn0.step)⟩
def quarryref11_digit.f (a0 : ByteArray) (a1 : Int) : Option (Bool):=if a1 < (a0.size : Int) then (if 0 ≤ a1 then (if (bt a0 a1) ≥ 48 then (some (decide ((bt a0 a1) ≤ 57))) else (some false)) else (none)) else (some false)
set_option maxHeartbeats 8000000 in
set_option maxRecDepth 100000 in
theorem quarryref11_digit.calls (a0 : ByteArray) (a1 : Int) (r : Bool) (w : World) (h : quarryref11_digit.f a0 a1 = some r) :
  Calls Tryz.prog 126 #[.string a0,.int .i64 a1] w fun e w'=>e = .returned (.bool r) ∧ Drawn0 w w':=by
 have H : (if a1 < (a0.size : Int) then (if 0 ≤ a1 then (if (bt a0 a1) ≥ 48 then (some (decide ((bt a0 a1) ≤ 57))) else (some false)) else (none)) else (some false)) = some r:=h;clear h
 by_cases c3 : a1 < (a0.size : Int)
 ·rw [if_pos c3] at H
  have c3b0 : decide (a1 < (a0.size : Int)) = true:=decide_eq_true c3;clear c3
  by_cases c4 : 0 ≤ a1
  ·rw [if_pos c4] at H
   have c4b0 : decide (0 ≤ a1) = true:=decide_eq_true c4;clear c4
   by_cases c6 : (bt a0 a1) ≥ 48
   ·rw [if_pos c6] at H
    have c6b0 : decide (48 ≤ (bt a0 a1)) = true:=decide_eq_true c6;clear c6;obtain rfl:=Option.some.inj H;have p5 : 0 ≤ (a1 : Int):=of_decide_eq_true aa_;have q5 : a1 < (a0.size : Int):=of_decide_eq_true aa_;have hx5:=bt_at a0 a1;replace p5:=eq_true p5;replace q5:=eq_true q5;have p7 : 0 ≤ (a1 : Int):=of_decide_eq_true aa_;have q7 : a1 < (a0.size : Int):=of_decide_eq_true aa_;have hx7:=bt_at a0 a1;replace p7:=eq_true p7;replace q7:=eq_true q7;go_enter Tryz.func126,Tryz.ntmps126;go_wp2
    go_ret;exact ⟨by first|rfl|(simp;done)|(simp [*];done),by repeat (first|exact Drawn0.refl _|apply Drawn0.step)⟩
   rw [if_neg c6] at H
   have c6b0 : decide (48 ≤ (bt a0 a1)) = false:=decide_eq_false c6;clear c6;obtain rfl:=Option.some.inj H;have p5 : 0 ≤ (a1 : Int):=of_decide_eq_true aa_;have q5 : a1 < (a0.size : Int):=of_decide_eq_true aa_;have hx5:=bt_at a0 a1;replace p5:=eq_true p5;replace q5:=eq_true q5;go_enter Tryz.func126,Tryz.ntmps126;go_wp2
   go_ret;exact ⟨by first|rfl|(simp;done)|(simp [*];done),by repeat (first|exact Drawn0.refl _|apply Drawn0.step)⟩
  rw [if_neg c4] at H
  exact absurd H (by simp)
 rw [if_neg c3] at H
 have c3b0 : decide (a1 < (a0.size : Int)) = false:=decide_eq_false c3;clear c3;obtain rfl:=Option.some.inj H;go_enter Tryz.func126,Tryz.ntmps126;go_wp2
 go_ret;exact ⟨by first|rfl|(simp;done)|(simp [*];done),by repeat (first|exact Drawn0.refl _|apply Drawn0.step)⟩
def quarryref11_digits.l0 : Nat → ByteArray → Int → Option (Int)
 | 0,_,_=>none
 | k + 1,x0,x1=>(quarryref11_digit.f x0 x1).bind fun t423=>(if t423 = true then (quarryref11_digits.l0 k x0 (wrap64 (x1 + 1))) else (some x1))
def quarryref11_digits.f (k : Nat) (a0 : ByteArray) (a1 : Int) : Option (Int):=quarryref11_digits.l0 k a0 a1
set_option maxHeartbeats 8000000 in
set_option maxRecDepth 100000 in
theorem quarryref11_digits.calls (k : Nat) (a0 : ByteArray) (a1 : Int) (r : Int) (w : World) (h : quarryref11_digits.f k a0 a1 = some r) :
  Calls Tryz.prog 127 #[.string a0,.int .i64 a1] w fun e w'=>e = .returned (.int .i64 r) ∧ Drawn0 w w':=by
 have H : (quarryref11_digits.l0 k a0 a1) = some r:=h;clear h;have H':=Aside0.mk H;clear H;go_enter Tryz.func127,Tryz.ntmps127;go_wp2
 go_loopg [1] k (fun kq v1 w'=>∃ (x1_1 : Int),v1 = .int .i64 x1_1 ∧ Aside0 (quarryref11_digits.l0 kq a0 x1_1 = some r) ∧ Aside0 (kq ≤ k) ∧ Drawn0 w w')
 case atStart=>exact ⟨(a1),rr_,H',⟨Nat.le_refl _⟩,by repeat (first|exact Drawn0.refl _|apply Drawn0.step)⟩
 case round =>
  clear H';obtain ⟨x1_1,rfl,HA,HK1,⟨m1,rfl⟩⟩:=hrel
  cases gk with
  | zero=>exact absurd HA.out (by simp [quarryref11_digits.l0])
  | succ k1 =>
   have H:=HA.out;clear HA
   simp only [quarryref11_digits.l0] at H
   replace H:=Option.bind_eq_some_iff.mp H;obtain ⟨t423,A30,H⟩:=H;replace H : (if t423 = true then (quarryref11_digits.l0 k1 a0 (wrap64 (x1_1 + 1))) else (some x1_1)) = some r:=H;have A3:=Aside0.mk A30;clear A30
   by_cases c4 : t423 = true
   ·subst c4
    have H1 : (quarryref11_digits.l0 k1 a0 (wrap64 (x1_1 + 1))) = some r:=by rw [if_pos rfl] at H;exact H
    clear H;have H:=H1;clear H1;have H':=Aside0.mk H;clear H
    go_wp2_with (first|((with_reducible refine gate_callee (f:=126) rfl ?_);refine goesL_ (some 7) rfl rfl Tryz.func126 (by kernel_rfl) rfl #[.string a0,.int .i64 x1_1] rfl am_ ?_;(with_reducible refine (quarryref11_digit.calls a0 x1_1 true _ A3.out).mono ?_);rintro e w' ⟨rfl,⟨nd,rfl⟩⟩;refine ⟨_,rfl,?_⟩))
    go_roundg k1
    case measure=>have:=HK1.out;omega
    case rel=>exact ⟨(wrap64 (x1_1 + 1)),rr_,(by first|exact H'|(subst_vars;exact H')),⟨by have:=HK1.out;omega⟩,by repeat (first|exact Drawn0.refl _|apply Drawn0.step)⟩
   replace c4:=Bool.eq_false_iff.mpr c4;subst c4
   have H1 : (some x1_1) = some r:=by rw [if_neg (show ¬ (false = true) by decide)] at H;exact H
   clear H;have H:=H1;clear H1;obtain rfl:=Option.some.inj H
   go_wp2_with (first|((with_reducible refine gate_callee (f:=126) rfl ?_);refine goesL_ (some 7) rfl rfl Tryz.func126 (by kernel_rfl) rfl #[.string a0,.int .i64 x1_1] rfl am_ ?_;(with_reducible refine (quarryref11_digit.calls a0 x1_1 false _ A3.out).mono ?_);rintro e w' ⟨rfl,⟨nd,rfl⟩⟩;refine ⟨_,rfl,?_⟩))
   go_ret;exact ⟨by first|rfl|(simp;done)|(simp [*];done),by repeat (first|exact Drawn0.refl _|apply Drawn0.step)⟩
mutual
def quarryref11_scan.j0 : Nat → ByteArray → Int → Bool → ByteArray → ByteArray → ByteArray → Option (Bool × ByteArray × ByteArray × ByteArray × Int × Bool)
 | 0,_,_,_,_,_,_=>none
 | k + 1,x0,x1,x426000,x426001,x426002,x426003=>(quarryref11_digit.f x0 x1).bind fun t427=>(if t427 = true then ((quarryref11_digits.f k x0 x1).bind fun t428=>(if 0 ≤ x1 then (if x1 < (x0.size : Int) then (if (bt x0 x1) = 48 then (quarryref11_scan.j1 k x0 x1 (wrap64 (x1 + 1)) x426000 x426001 x426002 x426003) else (quarryref11_scan.j1 k x0 x1 t428 x426000 x426001 x426002 x426003)) else (none)) else (none))) else (some (x426000,x426001,x426002,x426003,x1,false)))
def quarryref11_scan.j1 : Nat → ByteArray → Int → Int → Bool → ByteArray → ByteArray → ByteArray → Option (Bool × ByteArray × ByteArray × ByteArray × Int × Bool)
 | 0,_,_,_,_,_,_,_=>none
 | k + 1,x0,x1,x8,x426000,x426001,x426002,x426003=>if 0 ≤ x1 then (if x1 ≤ x8 then (if x8 ≤ (x0.size : Int) then ((quarryref11_is.f x0 x8 46 46).bind fun t429=>(if t429 = true then ((quarryref11_digits.f k x0 (wrap64 (x8 + 1))).bind fun t430=>(if t430 = (wrap64 (x8 + 1)) then (some (x426000,x0.extract (x1 : Int).toNat (x8 : Int).toNat,x426002,x426003,t430,false)) else (if 0 ≤ (wrap64 (x8 + 1)) then (if (wrap64 (x8 + 1)) ≤ t430 then (if t430 ≤ (x0.size : Int) then (quarryref11_scan.j2 k x0 t430 x426000 (x0.extract (x1 : Int).toNat (x8 : Int).toNat) (x0.extract ((wrap64 (x8 + 1)) : Int).toNat (t430 : Int).toNat) x426003) else (none)) else (none)) else (none)))) else (quarryref11_scan.j2 k x0 x8 x426000 (x0.extract (x1 : Int).toNat (x8 : Int).toNat) x426002 x426003))) else (none)) else (none)) else (none)
def quarryref11_scan.j2 : Nat → ByteArray → Int → Bool → ByteArray → ByteArray → ByteArray → Option (Bool × ByteArray × ByteArray × ByteArray × Int × Bool)
 | 0,_,_,_,_,_,_=>none
 | k + 1,x0,x1,x426000,x426001,x426002,x426003=>(quarryref11_is.f x0 x1 101 69).bind fun t431=>(if t431 = true then ((quarryref11_is.f x0 (wrap64 (x1 + 1)) 43 45).bind fun t432=>(if t432 = true then ((quarryref11_digits.f k x0 (wrap64 ((wrap64 (x1 + 1)) + 1))).bind fun t433=>(if t433 = (wrap64 ((wrap64 (x1 + 1)) + 1)) then (some (x426000,x426001,x426002,x426003,t433,false)) else (if 0 ≤ (wrap64 (x1 + 1)) then (if (wrap64 (x1 + 1)) ≤ t433 then (if t433 ≤ (x0.size : Int) then (some (x426000,x426001,x426002,x0.extract ((wrap64 (x1 + 1)) : Int).toNat (t433 : Int).toNat,t433,true)) else (none)) else (none)) else (none)))) else ((quarryref11_digits.f k x0 (wrap64 (x1 + 1))).bind fun t434=>(if t434 = (wrap64 (x1 + 1)) then (some (x426000,x426001,x426002,x426003,t434,false)) else (if 0 ≤ (wrap64 (x1 + 1)) then (if (wrap64 (x1 + 1)) ≤ t434 then (if t434 ≤ (x0.size : Int) then (some (x426000,x426001,x426002,x0.extract ((wrap64 (x1 + 1)) : Int).toNat (t434 : Int).toNat,t434,true)) else (none)) else (none)) else (none)))))) else (some (x426000,x426001,x426002,x426003,x1,true)))
end
def quarryref11_scan.f (k : Nat) (a0 : ByteArray) (a1 : Int) : Option (Bool × ByteArray × ByteArray × ByteArray × Int × Bool):=(quarryref11_is.f a0 a1 45 45).bind fun t426=>(if t426 = true then (quarryref11_scan.j0 k a0 (wrap64 (a1 + 1)) true (⟨#[]⟩ : ByteArray) (⟨#[]⟩ : ByteArray) (⟨#[]⟩ : ByteArray)) else (quarryref11_scan.j0 k a0 a1 false (⟨#[]⟩ : ByteArray) (⟨#[]⟩ : ByteArray) (⟨#[]⟩ : ByteArray)))
set_option maxHeartbeats 8000000 in
set_option maxRecDepth 100000 in
theorem quarryref11_scan.calls (k : Nat) (a0 : ByteArray) (a1 : Int) (r1 : Bool) (r2 : ByteArray) (r3 : ByteArray) (r4 : ByteArray) (r5 : Int) (r6 : Bool) (w : World) (h : quarryref11_scan.f k a0 a1 = some (r1,r2,r3,r4,r5,r6)) :
  Calls Tryz.prog 108 #[.string a0,.int .i64 a1] w fun e w'=>e = .returned (.tuple #[.agg #[.bool r1,.string r2,.string r3,.string r4],.int .i64 r5,.bool r6]) ∧ Below w.heap.size w w':=by
 have hu151:=Tryz.underlying151;have HB:=Aside0.mk (Below.refl w.heap.size w);have H : ((quarryref11_is.f a0 a1 45 45).bind fun t426=>(if t426 = true then (quarryref11_scan.j0 k a0 (wrap64 (a1 + 1)) true (⟨#[]⟩ : ByteArray) (⟨#[]⟩ : ByteArray) (⟨#[]⟩ : ByteArray)) else (quarryref11_scan.j0 k a0 a1 false (⟨#[]⟩ : ByteArray) (⟨#[]⟩ : ByteArray) (⟨#[]⟩ : ByteArray)))) = some (r1,r2,r3,r4,r5,r6):=h;clear h;replace H:=Option.bind_eq_some_iff.mp H;obtain ⟨t426,A30,H⟩:=H;replace H : (if t426 = true then (quarryref11_scan.j0 k a0 (wrap64 (a1 + 1)) true (⟨#[]⟩ : ByteArray) (⟨#[]⟩ : ByteArray) (⟨#[]⟩ : ByteArray)) else (quarryref11_scan.j0 k a0 a1 false (⟨#[]⟩ : ByteArray) (⟨#[]⟩ : ByteArray) (⟨#[]⟩ : ByteArray))) = some (r1,r2,r3,r4,r5,r6):=H;have A3:=Aside0.mk A30;clear A30;have HC4:=Aside0.mk H;clear H;go_enter Tryz.func108,Tryz.ntmps108
 go_upto_if 13 with (first|((with_reducible refine gate_dst (N:=4) rfl ?_);refine box_event ?hg (N:=4) ?hd (cs:=#[.bool false,.string (⟨#[]⟩ : ByteArray),.string (⟨#[]⟩ : ByteArray),.string (⟨#[]⟩ : ByteArray)]) (t:=151) ?hr ?_;(case hd=>rfl);(case hg=>rfl);(case hr=>first|(go_simp;done)|(go_simp;rfl));intro gb424 hg w5 hbox hb;have n_:=J_ (below_step (hb_ HB) hb) (J_ (hbox) (J_ (bs_ hg HB) (Aside0.mk (bs_ hg HB))));clear HB;obtain ⟨HB,BK424,GW424,GE424⟩:=n_;clear hb hbox hg)|((with_reducible refine gate_dst (N:=7) rfl ?_);refine box_event ?hg (N:=7) ?hd (cs:=#[.bool false,.string (⟨#[]⟩ : ByteArray),.string (⟨#[]⟩ : ByteArray),.string (⟨#[]⟩ : ByteArray)]) (t:=151) ?hr ?_;(case hd=>rfl);(case hg=>rfl);(case hr=>first|(go_simp;done)|(go_simp;rfl));intro gb425 hg w6 hbox hb;have n_:=J_ (bkb_ BK424 hb) (J_ (below_step (hb_ HB) hb) (J_ (hbox) (J_ (bs_ hg HB) (J_ (bs_ hg HB) (J_ ((by rw [hg];exact Nat.ne_of_lt (bkl_ BK424) : gb424 ≠ gb425)) (Aside0.mk ((by rw [hg];exact Nat.ne_of_gt (bkl_ BK424) : gb425 ≠ gb424))))))));clear BK424 HB;obtain ⟨BK424,HB,BK425,GW425,GE425,NB424_425,NB425_424⟩:=n_;clear hb hbox hg)|((with_reducible refine gate_callee (f:=125) rfl ?_);refine goesL_ (some 13) rfl rfl Tryz.func125 (by kernel_rfl) rfl #[.string a0,.int .i64 a1,.int .u8 45,.int .u8 45] rfl am_ ?_;(with_reducible refine (quarryref11_is.calls a0 a1 45 45 t426 _ A3.out).mono ?_);rintro e w' ⟨rfl,⟨nd,rfl⟩⟩;refine ⟨_,rfl,?_⟩))
 (try simp only [Act.put,List.setIfInBounds_toArray,List.set_cons_zero,List.set_cons_succ])
 go_cut [1] (fun v1 wc=>∃ (kq : Nat) (x1_3 : Int) (x426000_3 : Bool),v1 = .int .i64 x1_3 ∧ Aside0 (quarryref11_scan.j0 kq a0 x1_3 x426000_3 (⟨#[]⟩ : ByteArray) (⟨#[]⟩ : ByteArray) (⟨#[]⟩ : ByteArray) = some (r1,r2,r3,r4,r5,r6)) ∧ Aside0 (kq ≤ k) ∧ Aside0 (wc.heap[gb424]? = some (.cells #[.bool false,.string (⟨#[]⟩ : ByteArray),.string (⟨#[]⟩ : ByteArray),.string (⟨#[]⟩ : ByteArray)] 151 (0,0))) ∧ Aside0 (wc.heap[gb425]? = some (.cells #[.bool x426000_3,.string (⟨#[]⟩ : ByteArray),.string (⟨#[]⟩ : ByteArray),.string (⟨#[]⟩ : ByteArray)] 151 (0,0))) ∧ Aside0 (Below w.heap.size w wc))
 case first =>
  have H:=HC4.out;clear HC4
  by_cases c7 : t426 = true
  ·subst c7
   have H1 : (quarryref11_scan.j0 k a0 (wrap64 (a1 + 1)) true (⟨#[]⟩ : ByteArray) (⟨#[]⟩ : ByteArray) (⟨#[]⟩ : ByteArray)) = some (r1,r2,r3,r4,r5,r6):=by rw [if_pos rfl] at H;exact H
   clear H;have H:=H1;clear H1;have H':=Aside0.mk H;clear H;have hnb8:=NB425_424.out;have hnc8:=NB424_425.out;obtain ⟨hcz9_0,hcz9_1,hcz9_2,hcz9_3,hfz9_0,hfz9_1,hfz9_2,hfz9_3⟩:=cf4_ BK425;go_wp2
   go_meet
   case rel=>exact ⟨_,(wrap64 (a1 + 1)),(true),rr_,(by first|exact H'|(subst_vars;exact H')),⟨by first|omega|exact Nat.le_refl _⟩,⟨(bf_ NB424_425 BK424)⟩,⟨by (with_reducible repeat (first|refine blk_drewN ?_ _|refine blk_drew ?_|refine blk_alloc ?_ _));refine bp_ (cs:=#[.bool false,.string (⟨#[]⟩ : ByteArray),.string (⟨#[]⟩ : ByteArray),.string (⟨#[]⟩ : ByteArray)]) ?_ 0 _;(with_reducible repeat (first|refine blk_drewN ?_ _|refine blk_drew ?_|refine blk_alloc ?_ _));exact BK425.out⟩,⟨(hb_ HB)⟩⟩
  replace c7:=Bool.eq_false_iff.mpr c7;subst c7
  have H1 : (quarryref11_scan.j0 k a0 a1 false (⟨#[]⟩ : ByteArray) (⟨#[]⟩ : ByteArray) (⟨#[]⟩ : ByteArray)) = some (r1,r2,r3,r4,r5,r6):=by rw [if_neg (show ¬ (false = true) by decide)] at H;exact H
  clear H;have H:=H1;clear H1;have H':=Aside0.mk H;clear H;go_wp2
  go_meet
  case rel=>exact ⟨_,(a1),(false),rr_,(by first|exact H'|(subst_vars;exact H')),⟨by first|omega|exact Nat.le_refl _⟩,⟨(bk_ BK424)⟩,⟨(bk_ BK425)⟩,⟨(hb_ HB)⟩⟩
 case rest =>
  clear HC4;obtain ⟨kq,x1_3,x426000_3,rfl,HA,HJ3,BK424,BK425,HB⟩:=hcut
  cases kq with
  | zero=>exact absurd HA.out (by simp [quarryref11_scan.j0])
  | succ kj3 =>
   have H:=HA.out;clear HA
   simp only [quarryref11_scan.j0] at H
   replace H:=Option.bind_eq_some_iff.mp H;obtain ⟨t427,A100,H⟩:=H;replace H : (if t427 = true then ((quarryref11_digits.f kj3 a0 x1_3).bind fun t428=>(if 0 ≤ x1_3 then (if x1_3 < (a0.size : Int) then (if (bt a0 x1_3) = 48 then (quarryref11_scan.j1 kj3 a0 x1_3 (wrap64 (x1_3 + 1)) x426000_3 (⟨#[]⟩ : ByteArray) (⟨#[]⟩ : ByteArray) (⟨#[]⟩ : ByteArray)) else (quarryref11_scan.j1 kj3 a0 x1_3 t428 x426000_3 (⟨#[]⟩ : ByteArray) (⟨#[]⟩ : ByteArray) (⟨#[]⟩ : ByteArray))) else (none)) else (none))) else (some (x426000_3,(⟨#[]⟩ : ByteArray),(⟨#[]⟩ : ByteArray),(⟨#[]⟩ : ByteArray),x1_3,false))) = some (r1,r2,r3,r4,r5,r6):=H;have A10:=Aside0.mk A100;clear A100
   by_cases c11 : t427 = true
   ·subst c11
    have H1 : ((quarryref11_digits.f kj3 a0 x1_3).bind fun t428=>(if 0 ≤ x1_3 then (if x1_3 < (a0.size : Int) then (if (bt a0 x1_3) = 48 then (quarryref11_scan.j1 kj3 a0 x1_3 (wrap64 (x1_3 + 1)) x426000_3 (⟨#[]⟩ : ByteArray) (⟨#[]⟩ : ByteArray) (⟨#[]⟩ : ByteArray)) else (quarryref11_scan.j1 kj3 a0 x1_3 t428 x426000_3 (⟨#[]⟩ : ByteArray) (⟨#[]⟩ : ByteArray) (⟨#[]⟩ : ByteArray))) else (none)) else (none))) = some (r1,r2,r3,r4,r5,r6):=by rw [if_pos rfl] at H;exact H
    clear H;have H:=H1;clear H1;replace H:=Option.bind_eq_some_iff.mp H;obtain ⟨t428,A120,H⟩:=H;replace H : (if 0 ≤ x1_3 then (if x1_3 < (a0.size : Int) then (if (bt a0 x1_3) = 48 then (quarryref11_scan.j1 kj3 a0 x1_3 (wrap64 (x1_3 + 1)) x426000_3 (⟨#[]⟩ : ByteArray) (⟨#[]⟩ : ByteArray) (⟨#[]⟩ : ByteArray)) else (quarryref11_scan.j1 kj3 a0 x1_3 t428 x426000_3 (⟨#[]⟩ : ByteArray) (⟨#[]⟩ : ByteArray) (⟨#[]⟩ : ByteArray))) else (none)) else (none)) = some (r1,r2,r3,r4,r5,r6):=H;have A12:=Aside0.mk A120;clear A120
    by_cases c13 : 0 ≤ x1_3
    ·rw [if_pos c13] at H
     have c13b0 : decide (0 ≤ x1_3) = true:=decide_eq_true c13;clear c13
     by_cases c14 : x1_3 < (a0.size : Int)
     ·rw [if_pos c14] at H
      have c14b0 : decide (x1_3 < (a0.size : Int)) = true:=decide_eq_true c14;clear c14;have HC16:=Aside0.mk H;clear H
      go_upto_if 29 with (first|((with_reducible refine gate_callee (f:=126) rfl ?_);refine goesL_ (some 19) rfl rfl Tryz.func126 (by kernel_rfl) rfl #[.string a0,.int .i64 x1_3] rfl am_ ?_;(with_reducible refine (quarryref11_digit.calls a0 x1_3 true _ A10.out).mono ?_);rintro e w' ⟨rfl,⟨nd,rfl⟩⟩;refine ⟨_,rfl,?_⟩)|((with_reducible refine gate_callee (f:=127) rfl ?_);refine goesL_ (some 25) rfl rfl Tryz.func127 (by kernel_rfl) rfl #[.string a0,.int .i64 x1_3] rfl am_ ?_;(with_reducible refine (quarryref11_digits.calls kj3 a0 x1_3 t428 _ A12.out).mono ?_);rintro e w' ⟨rfl,⟨nd,rfl⟩⟩;refine ⟨_,rfl,?_⟩;have p15 : 0 ≤ (x1_3 : Int):=of_decide_eq_true aa_;have q15 : x1_3 < (a0.size : Int):=of_decide_eq_true aa_;have hx15:=bt_at a0 x1_3;replace p15:=eq_true p15;replace q15:=eq_true q15))
      (try simp only [Act.put,List.setIfInBounds_toArray,List.set_cons_zero,List.set_cons_succ])
      go_cut [8] (fun v8 wc=>∃ (kq : Nat) (x8_15 : Int),v8 = .int .i64 x8_15 ∧ Aside0 (quarryref11_scan.j1 kq a0 x1_3 x8_15 x426000_3 (⟨#[]⟩ : ByteArray) (⟨#[]⟩ : ByteArray) (⟨#[]⟩ : ByteArray) = some (r1,r2,r3,r4,r5,r6)) ∧ Aside0 (kq ≤ kj3) ∧ Aside0 (wc.heap[gb424]? = some (.cells #[.bool false,.string (⟨#[]⟩ : ByteArray),.string (⟨#[]⟩ : ByteArray),.string (⟨#[]⟩ : ByteArray)] 151 (0,0))) ∧ Aside0 (wc.heap[gb425]? = some (.cells #[.bool x426000_3,.string (⟨#[]⟩ : ByteArray),.string (⟨#[]⟩ : ByteArray),.string (⟨#[]⟩ : ByteArray)] 151 (0,0))) ∧ Aside0 (Below w.heap.size w wc))
      case first =>
       have H:=HC16.out;clear HC16
       by_cases c17 : (bt a0 x1_3) = 48
       ·rw [if_pos c17] at H
        have c17b0 : ((bt a0 x1_3) == 48) = true:=beq_iff_eq.mpr c17;have c17b1 : ((bt a0 x1_3) != 48) = false:=bne_eq_false_iff_eq.mpr c17;clear c17
        (first|rw [c17b0]|(simp only [i64_w,i32_w];rw [c17b0])|skip)
        have H':=Aside0.mk H;clear H;go_wp2
        go_meet
        case rel=>exact ⟨_,(wrap64 (x1_3 + 1)),rr_,(by first|exact H'|(subst_vars;exact H')),⟨by have:=HJ3.out;first|omega|exact Nat.le_refl _⟩,⟨(bk_ BK424)⟩,⟨(bk_ BK425)⟩,⟨(hb_ HB)⟩⟩
       rw [if_neg c17] at H
       have c17b0 : ((bt a0 x1_3) == 48) = false:=beq_eq_false_iff_ne.mpr c17;have c17b1 : ((bt a0 x1_3) != 48) = true:=bne_iff_ne.mpr c17
       (first|rw [c17b0]|(simp only [i64_w,i32_w];rw [c17b0])|skip)
       have H':=Aside0.mk H;clear H;go_wp2
       go_meet
       case rel=>exact ⟨_,(t428),rr_,(by first|exact H'|(subst_vars;exact H')),⟨by have:=HJ3.out;first|omega|exact Nat.le_refl _⟩,⟨(bk_ BK424)⟩,⟨(bk_ BK425)⟩,⟨(hb_ HB)⟩⟩
      case rest =>
       clear HC16;obtain ⟨kq,x8_15,rfl,HA,HJ15,BK424,BK425,HB⟩:=hcut
       cases kq with
       | zero=>exact absurd HA.out (by simp [quarryref11_scan.j1])
       | succ kj15 =>
        have H:=HA.out;clear HA
        simp only [quarryref11_scan.j1] at H
        by_cases c18 : 0 ≤ x1_3
        ·rw [if_pos c18] at H
         have c18b0:=eq_true c18;have c18b1 : decide (0 ≤ x1_3) = true:=decide_eq_true c18;clear c18
         by_cases c19 : x1_3 ≤ x8_15
         ·rw [if_pos c19] at H
          have c19b0:=eq_true c19;have c19b1 : decide (x1_3 ≤ x8_15) = true:=decide_eq_true c19;clear c19
          by_cases c20 : x8_15 ≤ (a0.size : Int)
          ·rw [if_pos c20] at H
           have c20b0:=eq_true c20;have c20b1 : decide (x8_15 ≤ (a0.size : Int)) = true:=decide_eq_true c20;clear c20;replace H:=Option.bind_eq_some_iff.mp H;obtain ⟨t429,A210,H⟩:=H;replace H : (if t429 = true then ((quarryref11_digits.f kj15 a0 (wrap64 (x8_15 + 1))).bind fun t430=>(if t430 = (wrap64 (x8_15 + 1)) then (some (x426000_3,a0.extract (x1_3 : Int).toNat (x8_15 : Int).toNat,(⟨#[]⟩ : ByteArray),(⟨#[]⟩ : ByteArray),t430,false)) else (if 0 ≤ (wrap64 (x8_15 + 1)) then (if (wrap64 (x8_15 + 1)) ≤ t430 then (if t430 ≤ (a0.size : Int) then (quarryref11_scan.j2 kj15 a0 t430 x426000_3 (a0.extract (x1_3 : Int).toNat (x8_15 : Int).toNat) (a0.extract ((wrap64 (x8_15 + 1)) : Int).toNat (t430 : Int).toNat) (⟨#[]⟩ : ByteArray)) else (none)) else (none)) else (none)))) else (quarryref11_scan.j2 kj15 a0 x8_15 x426000_3 (a0.extract (x1_3 : Int).toNat (x8_15 : Int).toNat) (⟨#[]⟩ : ByteArray) (⟨#[]⟩ : ByteArray))) = some (r1,r2,r3,r4,r5,r6):=H;have A21:=Aside0.mk A210;clear A210;have HC22:=Aside0.mk H;clear H;have hnb23:=NB425_424.out;have hnc23:=NB424_425.out;obtain ⟨hcz24_0,hcz24_1,hcz24_2,hcz24_3,hfz24_0,hfz24_1,hfz24_2,hfz24_3⟩:=cf4_ BK425
           go_upto_if 40 with (first|((with_reducible refine gate_callee (f:=125) rfl ?_);refine goesL_ (some 40) rfl rfl Tryz.func125 (by kernel_rfl) rfl #[.string a0,.int .i64 x8_15,.int .u8 46,.int .u8 46] rfl am_ ?_;(with_reducible refine (quarryref11_is.calls a0 x8_15 46 46 t429 _ A21.out).mono ?_);rintro e w' ⟨rfl,⟨nd,rfl⟩⟩;refine ⟨_,rfl,?_⟩))
           (try simp only [Act.put,List.setIfInBounds_toArray,List.set_cons_zero,List.set_cons_succ])
           go_cut [1] (fun v1 wc=>∃ (kq : Nat) (x1_21 : Int) (x425000_21 : Bool) (x425001_21 : ByteArray) (x425002_21 : ByteArray) (x425003_21 : ByteArray) (x426002_21 : ByteArray),v1 = .int .i64 x1_21 ∧ Aside0 (quarryref11_scan.j2 kq a0 x1_21 x426000_3 (a0.extract (x1_3 : Int).toNat (x8_15 : Int).toNat) x426002_21 (⟨#[]⟩ : ByteArray) = some (r1,r2,r3,r4,r5,r6)) ∧ Aside0 (kq ≤ kj15) ∧ Aside0 (wc.heap[gb424]? = some (.cells #[.bool x425000_21,.string x425001_21,.string x425002_21,.string x425003_21] 151 (0,0))) ∧ Aside0 (wc.heap[gb425]? = some (.cells #[.bool x426000_3,.string (a0.extract (x1_3 : Int).toNat (x8_15 : Int).toNat),.string x426002_21,.string (⟨#[]⟩ : ByteArray)] 151 (0,0))) ∧ Aside0 (Below w.heap.size w wc))
           case first =>
            have H:=HC22.out;clear HC22
            by_cases c25 : t429 = true
            ·subst c25
             have H1 : ((quarryref11_digits.f kj15 a0 (wrap64 (x8_15 + 1))).bind fun t430=>(if t430 = (wrap64 (x8_15 + 1)) then (some (x426000_3,a0.extract (x1_3 : Int).toNat (x8_15 : Int).toNat,(⟨#[]⟩ : ByteArray),(⟨#[]⟩ : ByteArray),t430,false)) else (if 0 ≤ (wrap64 (x8_15 + 1)) then (if (wrap64 (x8_15 + 1)) ≤ t430 then (if t430 ≤ (a0.size : Int) then (quarryref11_scan.j2 kj15 a0 t430 x426000_3 (a0.extract (x1_3 : Int).toNat (x8_15 : Int).toNat) (a0.extract ((wrap64 (x8_15 + 1)) : Int).toNat (t430 : Int).toNat) (⟨#[]⟩ : ByteArray)) else (none)) else (none)) else (none)))) = some (r1,r2,r3,r4,r5,r6):=by rw [if_pos rfl] at H;exact H
             clear H;have H:=H1;clear H1;replace H:=Option.bind_eq_some_iff.mp H;obtain ⟨t430,A260,H⟩:=H;replace H : (if t430 = (wrap64 (x8_15 + 1)) then (some (x426000_3,a0.extract (x1_3 : Int).toNat (x8_15 : Int).toNat,(⟨#[]⟩ : ByteArray),(⟨#[]⟩ : ByteArray),t430,false)) else (if 0 ≤ (wrap64 (x8_15 + 1)) then (if (wrap64 (x8_15 + 1)) ≤ t430 then (if t430 ≤ (a0.size : Int) then (quarryref11_scan.j2 kj15 a0 t430 x426000_3 (a0.extract (x1_3 : Int).toNat (x8_15 : Int).toNat) (a0.extract ((wrap64 (x8_15 + 1)) : Int).toNat (t430 : Int).toNat) (⟨#[]⟩ : ByteArray)) else (none)) else (none)) else (none))) = some (r1,r2,r3,r4,r5,r6):=H;have A26:=Aside0.mk A260;clear A260
             by_cases c27 : t430 = (wrap64 (x8_15 + 1))
             ·rw [if_pos c27] at H
              have c27b0 : (t430 == (wrap64 (x8_15 + 1))) = true:=beq_iff_eq.mpr c27;have c27b1 : (t430 != (wrap64 (x8_15 + 1))) = false:=bne_eq_false_iff_eq.mpr c27;clear c27
              (first|rw [c27b0]|(simp only [i64_w,i32_w];rw [c27b0])|skip)
              simp only [Option.some.injEq,Prod.mk.injEq] at H
              obtain ⟨rfl,rfl,rfl,rfl,rfl,rfl⟩:=H
              go_wp2_with (first|((with_reducible refine gate_callee (f:=127) rfl ?_);refine goesL_ (some 44) rfl rfl Tryz.func127 (by kernel_rfl) rfl #[.string a0,.int .i64 (wrap64 (x8_15 + 1))] rfl am_ ?_;(with_reducible refine (quarryref11_digits.calls kj15 a0 (wrap64 (x8_15 + 1)) t430 _ A26.out).mono ?_);rintro e w' ⟨rfl,⟨nd,rfl⟩⟩;refine ⟨_,rfl,?_⟩;have hnb28:=NB425_424.out;have hnc28:=NB424_425.out;obtain ⟨hcz29_0,hcz29_1,hcz29_2,hcz29_3,hfz29_0,hfz29_1,hfz29_2,hfz29_3⟩:=cf4_ BK425;obtain ⟨hcz30_0,hcz30_1,hcz30_2,hcz30_3,hfz30_0,hfz30_1,hfz30_2,hfz30_3⟩:=cf4_ BK424))
              refine bodyPost_ret (results_ctt rfl _ _ gb424 151 #[.bool x426000_3,.string (a0.extract (x1_3 : Int).toNat (x8_15 : Int).toNat),.string (⟨#[]⟩ : ByteArray),.string (⟨#[]⟩ : ByteArray)] (0,0) _ rfl (by (with_reducible repeat (first|refine blk_drewN ?_ _|refine blk_drew ?_|refine blk_alloc ?_ _));refine bp_ (cs:=#[.bool x426000_3,.string (a0.extract (x1_3 : Int).toNat (x8_15 : Int).toNat),.string (⟨#[]⟩ : ByteArray),.string (⟨#[]⟩ : ByteArray)]) ?_ 3 _;refine bp_ (cs:=#[.bool x426000_3,.string (a0.extract (x1_3 : Int).toNat (x8_15 : Int).toNat),.string (⟨#[]⟩ : ByteArray),.string (⟨#[]⟩ : ByteArray)]) ?_ 2 _;refine bp_ (cs:=#[.bool x426000_3,.string (⟨#[]⟩ : ByteArray),.string (⟨#[]⟩ : ByteArray),.string (⟨#[]⟩ : ByteArray)]) ?_ 1 _;refine bp_ (cs:=#[.bool false,.string (⟨#[]⟩ : ByteArray),.string (⟨#[]⟩ : ByteArray),.string (⟨#[]⟩ : ByteArray)]) ?_ 0 _;(with_reducible repeat (first|refine blk_drewN ?_ _|refine blk_drew ?_|refine blk_alloc ?_ _));refine blk_far ?_ NB424_425.out _;(with_reducible repeat (first|refine blk_drewN ?_ _|refine blk_drew ?_|refine blk_alloc ?_ _));exact BK424.out) Tryz.underlying151 rfl (by kernel_rfl)) rfl ?_;exact ⟨er_,(hb_ HB)⟩
             rw [if_neg c27] at H
             have c27b0 : (t430 == (wrap64 (x8_15 + 1))) = false:=beq_eq_false_iff_ne.mpr c27;have c27b1 : (t430 != (wrap64 (x8_15 + 1))) = true:=bne_iff_ne.mpr c27
             (first|rw [c27b0]|(simp only [i64_w,i32_w];rw [c27b0])|skip)
             obtain ⟨ji31,hji31⟩ : ∃ j_ : Int,(wrap64 (x8_15 + 1)) = j_:=⟨_,rfl⟩
             replace H : (if 0 ≤ (ji31) then (if (ji31) ≤ t430 then (if t430 ≤ (a0.size : Int) then (quarryref11_scan.j2 kj15 a0 t430 x426000_3 (a0.extract (x1_3 : Int).toNat (x8_15 : Int).toNat) (a0.extract ((ji31) : Int).toNat (t430 : Int).toNat) (⟨#[]⟩ : ByteArray)) else (none)) else (none)) else (none)) = some (r1,r2,r3,r4,r5,r6):=by first|(rw [hji31] at H;exact H)|(simp only [hji31] at H ⊢;exact H)
             (try rw [hji31] at c27b0)
             (try rw [hji31] at c27b1)
             (try rw [hji31] at A26)
             have hji31w : (IntKind.i64.wrap (x8_15 + 1)) = ji31:=(i64_w _).trans hji31
             by_cases c32 : 0 ≤ (ji31)
             ·rw [if_pos c32] at H
              have c32b0:=eq_true c32;have c32b1 : decide (0 ≤ (ji31)) = true:=decide_eq_true c32;clear c32
              by_cases c33 : (ji31) ≤ t430
              ·rw [if_pos c33] at H
               have c33b0:=eq_true c33;have c33b1 : decide ((ji31) ≤ t430) = true:=decide_eq_true c33;clear c33
               by_cases c34 : t430 ≤ (a0.size : Int)
               ·rw [if_pos c34] at H
                have c34b0:=eq_true c34;have c34b1 : decide (t430 ≤ (a0.size : Int)) = true:=decide_eq_true c34;clear c34;have H':=Aside0.mk H;clear H
                go_wp2_with (first|((with_reducible refine gate_callee (f:=127) rfl ?_);refine goesL_ (some 44) rfl rfl Tryz.func127 (by kernel_rfl) rfl #[.string a0,.int .i64 ji31] rfl (by (try simp only [List.map_toArray,List.map_cons,List.map_nil]);first|done|(simp only [hji31];rfl)|rfl|(simp only [List.length_drop,List.length_take];rfl)) ?_;(with_reducible refine (quarryref11_digits.calls kj15 a0 ji31 t430 _ A26.out).mono ?_);rintro e w' ⟨rfl,⟨nd,rfl⟩⟩;refine ⟨_,rfl,?_⟩;have hnb35:=NB425_424.out;have hnc35:=NB424_425.out;obtain ⟨hcz36_0,hcz36_1,hcz36_2,hcz36_3,hfz36_0,hfz36_1,hfz36_2,hfz36_3⟩:=cf4_ BK425))
                go_meet
                case rel=>exact ⟨_,(t430),(false),((⟨#[]⟩ : ByteArray)),((⟨#[]⟩ : ByteArray)),((⟨#[]⟩ : ByteArray)),(a0.extract ((ji31) : Int).toNat (t430 : Int).toNat),rr_,(by first|exact H'|(subst_vars;exact H')),⟨by have:=HJ3.out;have:=HJ15.out;first|omega|exact Nat.le_refl _⟩,⟨(bf_ NB424_425 BK424)⟩,⟨by (with_reducible repeat (first|refine blk_drewN ?_ _|refine blk_drew ?_|refine blk_alloc ?_ _));refine bp_ (cs:=#[.bool x426000_3,.string (a0.extract (x1_3 : Int).toNat (x8_15 : Int).toNat),.string (⟨#[]⟩ : ByteArray),.string (⟨#[]⟩ : ByteArray)]) ?_ 2 _;refine bp_ (cs:=#[.bool x426000_3,.string (⟨#[]⟩ : ByteArray),.string (⟨#[]⟩ : ByteArray),.string (⟨#[]⟩ : ByteArray)]) ?_ 1 _;(with_reducible repeat (first|refine blk_drewN ?_ _|refine blk_drew ?_|refine blk_alloc ?_ _));exact BK425.out⟩,⟨(hb_ HB)⟩⟩
               rw [if_neg c34] at H
               exact absurd H (by simp)
              rw [if_neg c33] at H
              exact absurd H (by simp)
             rw [if_neg c32] at H
             exact absurd H (by simp)
            replace c25:=Bool.eq_false_iff.mpr c25;subst c25
            have H1 : (quarryref11_scan.j2 kj15 a0 x8_15 x426000_3 (a0.extract (x1_3 : Int).toNat (x8_15 : Int).toNat) (⟨#[]⟩ : ByteArray) (⟨#[]⟩ : ByteArray)) = some (r1,r2,r3,r4,r5,r6):=by rw [if_neg (show ¬ (false = true) by decide)] at H;exact H
            clear H;have H:=H1;clear H1;have H':=Aside0.mk H;clear H;go_wp2
            go_meet
            case rel=>exact ⟨_,(x8_15),(false),((⟨#[]⟩ : ByteArray)),((⟨#[]⟩ : ByteArray)),((⟨#[]⟩ : ByteArray)),((⟨#[]⟩ : ByteArray)),rr_,(by first|exact H'|(subst_vars;exact H')),⟨by have:=HJ3.out;have:=HJ15.out;first|omega|exact Nat.le_refl _⟩,⟨(bf_ NB424_425 BK424)⟩,⟨by (with_reducible repeat (first|refine blk_drewN ?_ _|refine blk_drew ?_|refine blk_alloc ?_ _));refine bp_ (cs:=#[.bool x426000_3,.string (⟨#[]⟩ : ByteArray),.string (⟨#[]⟩ : ByteArray),.string (⟨#[]⟩ : ByteArray)]) ?_ 1 _;(with_reducible repeat (first|refine blk_drewN ?_ _|refine blk_drew ?_|refine blk_alloc ?_ _));exact BK425.out⟩,⟨(hb_ HB)⟩⟩
           case rest =>
            clear HC22;obtain ⟨kq,x1_21,x425000_21,x425001_21,x425002_21,x425003_21,x426002_21,rfl,HA,HJ21,BK424,BK425,HB⟩:=hcut
            cases kq with
            | zero=>exact absurd HA.out (by simp [quarryref11_scan.j2])
            | succ kj21 =>
             have H:=HA.out;clear HA
             simp only [quarryref11_scan.j2] at H
             replace H:=Option.bind_eq_some_iff.mp H;obtain ⟨t431,A370,H⟩:=H;replace H : (if t431 = true then ((quarryref11_is.f a0 (wrap64 (x1_21 + 1)) 43 45).bind fun t432=>(if t432 = true then ((quarryref11_digits.f kj21 a0 (wrap64 ((wrap64 (x1_21 + 1)) + 1))).bind fun t433=>(if t433 = (wrap64 ((wrap64 (x1_21 + 1)) + 1)) then (some (x426000_3,(a0.extract (x1_3 : Int).toNat (x8_15 : Int).toNat),x426002_21,(⟨#[]⟩ : ByteArray),t433,false)) else (if 0 ≤ (wrap64 (x1_21 + 1)) then (if (wrap64 (x1_21 + 1)) ≤ t433 then (if t433 ≤ (a0.size : Int) then (some (x426000_3,(a0.extract (x1_3 : Int).toNat (x8_15 : Int).toNat),x426002_21,a0.extract ((wrap64 (x1_21 + 1)) : Int).toNat (t433 : Int).toNat,t433,true)) else (none)) else (none)) else (none)))) else ((quarryref11_digits.f kj21 a0 (wrap64 (x1_21 + 1))).bind fun t434=>(if t434 = (wrap64 (x1_21 + 1)) then (some (x426000_3,(a0.extract (x1_3 : Int).toNat (x8_15 : Int).toNat),x426002_21,(⟨#[]⟩ : ByteArray),t434,false)) else (if 0 ≤ (wrap64 (x1_21 + 1)) then (if (wrap64 (x1_21 + 1)) ≤ t434 then (if t434 ≤ (a0.size : Int) then (some (x426000_3,(a0.extract (x1_3 : Int).toNat (x8_15 : Int).toNat),x426002_21,a0.extract ((wrap64 (x1_21 + 1)) : Int).toNat (t434 : Int).toNat,t434,true)) else (none)) else (none)) else (none)))))) else (some (x426000_3,(a0.extract (x1_3 : Int).toNat (x8_15 : Int).toNat),x426002_21,(⟨#[]⟩ : ByteArray),x1_21,true))) = some (r1,r2,r3,r4,r5,r6):=H;have A37:=Aside0.mk A370;clear A370
             by_cases c38 : t431 = true
             ·subst c38
              have H1 : ((quarryref11_is.f a0 (wrap64 (x1_21 + 1)) 43 45).bind fun t432=>(if t432 = true then ((quarryref11_digits.f kj21 a0 (wrap64 ((wrap64 (x1_21 + 1)) + 1))).bind fun t433=>(if t433 = (wrap64 ((wrap64 (x1_21 + 1)) + 1)) then (some (x426000_3,(a0.extract (x1_3 : Int).toNat (x8_15 : Int).toNat),x426002_21,(⟨#[]⟩ : ByteArray),t433,false)) else (if 0 ≤ (wrap64 (x1_21 + 1)) then (if (wrap64 (x1_21 + 1)) ≤ t433 then (if t433 ≤ (a0.size : Int) then (some (x426000_3,(a0.extract (x1_3 : Int).toNat (x8_15 : Int).toNat),x426002_21,a0.extract ((wrap64 (x1_21 + 1)) : Int).toNat (t433 : Int).toNat,t433,true)) else (none)) else (none)) else (none)))) else ((quarryref11_digits.f kj21 a0 (wrap64 (x1_21 + 1))).bind fun t434=>(if t434 = (wrap64 (x1_21 + 1)) then (some (x426000_3,(a0.extract (x1_3 : Int).toNat (x8_15 : Int).toNat),x426002_21,(⟨#[]⟩ : ByteArray),t434,false)) else (if 0 ≤ (wrap64 (x1_21 + 1)) then (if (wrap64 (x1_21 + 1)) ≤ t434 then (if t434 ≤ (a0.size : Int) then (some (x426000_3,(a0.extract (x1_3 : Int).toNat (x8_15 : Int).toNat),x426002_21,a0.extract ((wrap64 (x1_21 + 1)) : Int).toNat (t434 : Int).toNat,t434,true)) else (none)) else (none)) else (none)))))) = some (r1,r2,r3,r4,r5,r6):=by rw [if_pos rfl] at H;exact H
              clear H;have H:=H1;clear H1;replace H:=Option.bind_eq_some_iff.mp H;obtain ⟨t432,A390,H⟩:=H;replace H : (if t432 = true then ((quarryref11_digits.f kj21 a0 (wrap64 ((wrap64 (x1_21 + 1)) + 1))).bind fun t433=>(if t433 = (wrap64 ((wrap64 (x1_21 + 1)) + 1)) then (some (x426000_3,(a0.extract (x1_3 : Int).toNat (x8_15 : Int).toNat),x426002_21,(⟨#[]⟩ : ByteArray),t433,false)) else (if 0 ≤ (wrap64 (x1_21 + 1)) then (if (wrap64 (x1_21 + 1)) ≤ t433 then (if t433 ≤ (a0.size : Int) then (some (x426000_3,(a0.extract (x1_3 : Int).toNat (x8_15 : Int).toNat),x426002_21,a0.extract ((wrap64 (x1_21 + 1)) : Int).toNat (t433 : Int).toNat,t433,true)) else (none)) else (none)) else (none)))) else ((quarryref11_digits.f kj21 a0 (wrap64 (x1_21 + 1))).bind fun t434=>(if t434 = (wrap64 (x1_21 + 1)) then (some (x426000_3,(a0.extract (x1_3 : Int).toNat (x8_15 : Int).toNat),x426002_21,(⟨#[]⟩ : ByteArray),t434,false)) else (if 0 ≤ (wrap64 (x1_21 + 1)) then (if (wrap64 (x1_21 + 1)) ≤ t434 then (if t434 ≤ (a0.size : Int) then (some (x426000_3,(a0.extract (x1_3 : Int).toNat (x8_15 : Int).toNat),x426002_21,a0.extract ((wrap64 (x1_21 + 1)) : Int).toNat (t434 : Int).toNat,t434,true)) else (none)) else (none)) else (none))))) = some (r1,r2,r3,r4,r5,r6):=H;have A39:=Aside0.mk A390;clear A390
              by_cases c40 : t432 = true
              ·subst c40
               have H1 : ((quarryref11_digits.f kj21 a0 (wrap64 ((wrap64 (x1_21 + 1)) + 1))).bind fun t433=>(if t433 = (wrap64 ((wrap64 (x1_21 + 1)) + 1)) then (some (x426000_3,(a0.extract (x1_3 : Int).toNat (x8_15 : Int).toNat),x426002_21,(⟨#[]⟩ : ByteArray),t433,false)) else (if 0 ≤ (wrap64 (x1_21 + 1)) then (if (wrap64 (x1_21 + 1)) ≤ t433 then (if t433 ≤ (a0.size : Int) then (some (x426000_3,(a0.extract (x1_3 : Int).toNat (x8_15 : Int).toNat),x426002_21,a0.extract ((wrap64 (x1_21 + 1)) : Int).toNat (t433 : Int).toNat,t433,true)) else (none)) else (none)) else (none)))) = some (r1,r2,r3,r4,r5,r6):=by rw [if_pos rfl] at H;exact H
               clear H;have H:=H1;clear H1;replace H:=Option.bind_eq_some_iff.mp H;obtain ⟨t433,A410,H⟩:=H;replace H : (if t433 = (wrap64 ((wrap64 (x1_21 + 1)) + 1)) then (some (x426000_3,(a0.extract (x1_3 : Int).toNat (x8_15 : Int).toNat),x426002_21,(⟨#[]⟩ : ByteArray),t433,false)) else (if 0 ≤ (wrap64 (x1_21 + 1)) then (if (wrap64 (x1_21 + 1)) ≤ t433 then (if t433 ≤ (a0.size : Int) then (some (x426000_3,(a0.extract (x1_3 : Int).toNat (x8_15 : Int).toNat),x426002_21,a0.extract ((wrap64 (x1_21 + 1)) : Int).toNat (t433 : Int).toNat,t433,true)) else (none)) else (none)) else (none))) = some (r1,r2,r3,r4,r5,r6):=H;have A41:=Aside0.mk A410;clear A410
               by_cases c42 : t433 = (wrap64 ((wrap64 (x1_21 + 1)) + 1))
               ·rw [if_pos c42] at H
                have c42b0 : (t433 == (wrap64 ((wrap64 (x1_21 + 1)) + 1))) = true:=beq_iff_eq.mpr c42;have c42b1 : (t433 != (wrap64 ((wrap64 (x1_21 + 1)) + 1))) = false:=bne_eq_false_iff_eq.mpr c42;clear c42
                simp only [Option.some.injEq,Prod.mk.injEq] at H
                obtain ⟨rfl,rfl,rfl,rfl,rfl,rfl⟩:=H
                go_wp2_with (first|((with_reducible refine gate_callee (f:=125) rfl ?_);refine goesL_ (some 60) rfl rfl Tryz.func125 (by kernel_rfl) rfl #[.string a0,.int .i64 x1_21,.int .u8 101,.int .u8 69] rfl am_ ?_;(with_reducible refine (quarryref11_is.calls a0 x1_21 101 69 true _ A37.out).mono ?_);rintro e w' ⟨rfl,⟨nd,rfl⟩⟩;refine ⟨_,rfl,?_⟩;(try (rw [drewN_self wc];generalize hq_ : World.drewN wc _ = wc;have n0_ : Aside0 (wc.heap[gb424]? = some (.cells #[.bool x425000_21,.string x425001_21,.string x425002_21,.string x425003_21] 151 (0,0))):=⟨by rw [← hq_];exact (bk_ BK424)⟩;have n1_ : Aside0 (wc.heap[gb425]? = some (.cells #[.bool x426000_3,.string (a0.extract (x1_3 : Int).toNat (x8_15 : Int).toNat),.string x426002_21,.string (⟨#[]⟩ : ByteArray)] 151 (0,0))):=⟨by rw [← hq_];exact (bk_ BK425)⟩;have n2_ : Aside0 (Below w.heap.size w wc):=⟨by rw [← hq_];exact (hb_ HB)⟩;clear BK424 BK425 HB hq_;have BK424:=n0_;have BK425:=n1_;have HB:=n2_;clear n0_ n1_ n2_)))|((with_reducible refine gate_callee (f:=125) rfl ?_);refine goesL_ (some 66) rfl rfl Tryz.func125 (by kernel_rfl) rfl #[.string a0,.int .i64 (wrap64 (x1_21 + 1)),.int .u8 43,.int .u8 45] rfl am_ ?_;(with_reducible refine (quarryref11_is.calls a0 (wrap64 (x1_21 + 1)) 43 45 true _ A39.out).mono ?_);rintro e w' ⟨rfl,⟨nd,rfl⟩⟩;refine ⟨_,rfl,?_⟩;(try (rw [drewN_self wc];generalize hq_ : World.drewN wc _ = wc;have n0_ : Aside0 (wc.heap[gb424]? = some (.cells #[.bool x425000_21,.string x425001_21,.string x425002_21,.string x425003_21] 151 (0,0))):=⟨by rw [← hq_];exact (bk_ BK424)⟩;have n1_ : Aside0 (wc.heap[gb425]? = some (.cells #[.bool x426000_3,.string (a0.extract (x1_3 : Int).toNat (x8_15 : Int).toNat),.string x426002_21,.string (⟨#[]⟩ : ByteArray)] 151 (0,0))):=⟨by rw [← hq_];exact (bk_ BK425)⟩;have n2_ : Aside0 (Below w.heap.size w wc):=⟨by rw [← hq_];exact (hb_ HB)⟩;clear BK424 BK425 HB hq_;have BK424:=n0_;have BK425:=n1_;have HB:=n2_;clear n0_ n1_ n2_)))|((with_reducible refine gate_callee (f:=127) rfl ?_);refine goesL_ (some 71) rfl rfl Tryz.func127 (by kernel_rfl) rfl #[.string a0,.int .i64 (wrap64 ((wrap64 (x1_21 + 1)) + 1))] rfl am_ ?_;(with_reducible refine (quarryref11_digits.calls kj21 a0 (wrap64 ((wrap64 (x1_21 + 1)) + 1)) t433 _ A41.out).mono ?_);rintro e w' ⟨rfl,⟨nd,rfl⟩⟩;refine ⟨_,rfl,?_⟩;(try (rw [drewN_self wc];generalize hq_ : World.drewN wc _ = wc;have n0_ : Aside0 (wc.heap[gb424]? = some (.cells #[.bool x425000_21,.string x425001_21,.string x425002_21,.string x425003_21] 151 (0,0))):=⟨by rw [← hq_];exact (bk_ BK424)⟩;have n1_ : Aside0 (wc.heap[gb425]? = some (.cells #[.bool x426000_3,.string (a0.extract (x1_3 : Int).toNat (x8_15 : Int).toNat),.string x426002_21,.string (⟨#[]⟩ : ByteArray)] 151 (0,0))):=⟨by rw [← hq_];exact (bk_ BK425)⟩;have n2_ : Aside0 (Below w.heap.size w wc):=⟨by rw [← hq_];exact (hb_ HB)⟩;clear BK424 BK425 HB hq_;have BK424:=n0_;have BK425:=n1_;have HB:=n2_;clear n0_ n1_ n2_));have hnb43:=NB425_424.out;have hnc43:=NB424_425.out;obtain ⟨hcz44_0,hcz44_1,hcz44_2,hcz44_3,hfz44_0,hfz44_1,hfz44_2,hfz44_3⟩:=cf4_ BK425;obtain ⟨hcz45_0,hcz45_1,hcz45_2,hcz45_3,hfz45_0,hfz45_1,hfz45_2,hfz45_3⟩:=cf4_ BK424))
                refine bodyPost_ret (results_ctt rfl _ _ gb424 151 #[.bool x426000_3,.string (a0.extract (x1_3 : Int).toNat (x8_15 : Int).toNat),.string x426002_21,.string (⟨#[]⟩ : ByteArray)] (0,0) _ rfl (by (with_reducible repeat (first|refine blk_drewN ?_ _|refine blk_drew ?_|refine blk_alloc ?_ _));refine bp_ (cs:=#[.bool x426000_3,.string (a0.extract (x1_3 : Int).toNat (x8_15 : Int).toNat),.string x426002_21,.string x425003_21]) ?_ 3 _;refine bp_ (cs:=#[.bool x426000_3,.string (a0.extract (x1_3 : Int).toNat (x8_15 : Int).toNat),.string x425002_21,.string x425003_21]) ?_ 2 _;refine bp_ (cs:=#[.bool x426000_3,.string x425001_21,.string x425002_21,.string x425003_21]) ?_ 1 _;refine bp_ (cs:=#[.bool x425000_21,.string x425001_21,.string x425002_21,.string x425003_21]) ?_ 0 _;(with_reducible repeat (first|refine blk_drewN ?_ _|refine blk_drew ?_|refine blk_alloc ?_ _));exact BK424.out) Tryz.underlying151 rfl (by kernel_rfl)) rfl ?_;exact ⟨er_,(hb_ HB)⟩
               rw [if_neg c42] at H
               have c42b0 : (t433 == (wrap64 ((wrap64 (x1_21 + 1)) + 1))) = false:=beq_eq_false_iff_ne.mpr c42;have c42b1 : (t433 != (wrap64 ((wrap64 (x1_21 + 1)) + 1))) = true:=bne_iff_ne.mpr c42
               obtain ⟨ji46,hji46⟩ : ∃ j_ : Int,(wrap64 (x1_21 + 1)) = j_:=⟨_,rfl⟩
               replace H : (if 0 ≤ (ji46) then (if (ji46) ≤ t433 then (if t433 ≤ (a0.size : Int) then (some (x426000_3,(a0.extract (x1_3 : Int).toNat (x8_15 : Int).toNat),x426002_21,a0.extract ((ji46) : Int).toNat (t433 : Int).toNat,t433,true)) else (none)) else (none)) else (none)) = some (r1,r2,r3,r4,r5,r6):=by first|(rw [hji46] at H;exact H)|(simp only [hji46] at H ⊢;exact H)
               (try rw [hji46] at c42b0)
               (try rw [hji46] at c42b1)
               (try rw [hji46] at A37)
               (try rw [hji46] at A39)
               (try rw [hji46] at A41)
               have hji46w : (IntKind.i64.wrap (x1_21 + 1)) = ji46:=(i64_w _).trans hji46
               by_cases c47 : 0 ≤ (ji46)
               ·rw [if_pos c47] at H
                have c47b0:=eq_true c47;have c47b1 : decide (0 ≤ (ji46)) = true:=decide_eq_true c47;clear c47
                by_cases c48 : (ji46) ≤ t433
                ·rw [if_pos c48] at H
                 have c48b0:=eq_true c48;have c48b1 : decide ((ji46) ≤ t433) = true:=decide_eq_true c48;clear c48
                 by_cases c49 : t433 ≤ (a0.size : Int)
                 ·rw [if_pos c49] at H
                  have c49b0:=eq_true c49;have c49b1 : decide (t433 ≤ (a0.size : Int)) = true:=decide_eq_true c49;clear c49
                  simp only [Option.some.injEq,Prod.mk.injEq] at H
                  obtain ⟨rfl,rfl,rfl,rfl,rfl,rfl⟩:=H
                  go_wp2_with (first|((with_reducible refine gate_callee (f:=125) rfl ?_);refine goesL_ (some 60) rfl rfl Tryz.func125 (by kernel_rfl) rfl #[.string a0,.int .i64 x1_21,.int .u8 101,.int .u8 69] rfl am_ ?_;(with_reducible refine (quarryref11_is.calls a0 x1_21 101 69 true _ A37.out).mono ?_);rintro e w' ⟨rfl,⟨nd,rfl⟩⟩;refine ⟨_,rfl,?_⟩;(try (rw [drewN_self wc];generalize hq_ : World.drewN wc _ = wc;have n0_ : Aside0 (wc.heap[gb424]? = some (.cells #[.bool x425000_21,.string x425001_21,.string x425002_21,.string x425003_21] 151 (0,0))):=⟨by rw [← hq_];exact (bk_ BK424)⟩;have n1_ : Aside0 (wc.heap[gb425]? = some (.cells #[.bool x426000_3,.string (a0.extract (x1_3 : Int).toNat (x8_15 : Int).toNat),.string x426002_21,.string (⟨#[]⟩ : ByteArray)] 151 (0,0))):=⟨by rw [← hq_];exact (bk_ BK425)⟩;have n2_ : Aside0 (Below w.heap.size w wc):=⟨by rw [← hq_];exact (hb_ HB)⟩;clear BK424 BK425 HB hq_;have BK424:=n0_;have BK425:=n1_;have HB:=n2_;clear n0_ n1_ n2_)))|((with_reducible refine gate_callee (f:=125) rfl ?_);refine goesL_ (some 66) rfl rfl Tryz.func125 (by kernel_rfl) rfl #[.string a0,.int .i64 ji46,.int .u8 43,.int .u8 45] rfl (by (try simp only [List.map_toArray,List.map_cons,List.map_nil]);first|done|(simp only [hji46];rfl)|rfl|(simp only [List.length_drop,List.length_take];rfl)) ?_;(with_reducible refine (quarryref11_is.calls a0 ji46 43 45 true _ A39.out).mono ?_);rintro e w' ⟨rfl,⟨nd,rfl⟩⟩;refine ⟨_,rfl,?_⟩;(try (rw [drewN_self wc];generalize hq_ : World.drewN wc _ = wc;have n0_ : Aside0 (wc.heap[gb424]? = some (.cells #[.bool x425000_21,.string x425001_21,.string x425002_21,.string x425003_21] 151 (0,0))):=⟨by rw [← hq_];exact (bk_ BK424)⟩;have n1_ : Aside0 (wc.heap[gb425]? = some (.cells #[.bool x426000_3,.string (a0.extract (x1_3 : Int).toNat (x8_15 : Int).toNat),.string x426002_21,.string (⟨#[]⟩ : ByteArray)] 151 (0,0))):=⟨by rw [← hq_];exact (bk_ BK425)⟩;have n2_ : Aside0 (Below w.heap.size w wc):=⟨by rw [← hq_];exact (hb_ HB)⟩;clear BK424 BK425 HB hq_;have BK424:=n0_;have BK425:=n1_;have HB:=n2_;clear n0_ n1_ n2_)))|((with_reducible refine gate_callee (f:=127) rfl ?_);refine goesL_ (some 71) rfl rfl Tryz.func127 (by kernel_rfl) rfl #[.string a0,.int .i64 (wrap64 ((ji46) + 1))] rfl (by (try simp only [List.map_toArray,List.map_cons,List.map_nil]);first|done|(simp only [hji46];rfl)|rfl|(simp only [List.length_drop,List.length_take];rfl)) ?_;(with_reducible refine (quarryref11_digits.calls kj21 a0 (wrap64 ((ji46) + 1)) t433 _ A41.out).mono ?_);rintro e w' ⟨rfl,⟨nd,rfl⟩⟩;refine ⟨_,rfl,?_⟩;(try (rw [drewN_self wc];generalize hq_ : World.drewN wc _ = wc;have n0_ : Aside0 (wc.heap[gb424]? = some (.cells #[.bool x425000_21,.string x425001_21,.string x425002_21,.string x425003_21] 151 (0,0))):=⟨by rw [← hq_];exact (bk_ BK424)⟩;have n1_ : Aside0 (wc.heap[gb425]? = some (.cells #[.bool x426000_3,.string (a0.extract (x1_3 : Int).toNat (x8_15 : Int).toNat),.string x426002_21,.string (⟨#[]⟩ : ByteArray)] 151 (0,0))):=⟨by rw [← hq_];exact (bk_ BK425)⟩;have n2_ : Aside0 (Below w.heap.size w wc):=⟨by rw [← hq_];exact (hb_ HB)⟩;clear BK424 BK425 HB hq_;have BK424:=n0_;have BK425:=n1_;have HB:=n2_;clear n0_ n1_ n2_));have hnb50:=NB425_424.out;have hnc50:=NB424_425.out;obtain ⟨hcz51_0,hcz51_1,hcz51_2,hcz51_3,hfz51_0,hfz51_1,hfz51_2,hfz51_3⟩:=cf4_ BK425;obtain ⟨hcz52_0,hcz52_1,hcz52_2,hcz52_3,hfz52_0,hfz52_1,hfz52_2,hfz52_3⟩:=cf4_ BK424))
                  refine bodyPost_ret (results_ctt rfl _ _ gb424 151 #[.bool x426000_3,.string (a0.extract (x1_3 : Int).toNat (x8_15 : Int).toNat),.string x426002_21,.string (a0.extract ((ji46) : Int).toNat (t433 : Int).toNat)] (0,0) _ rfl (by (with_reducible repeat (first|refine blk_drewN ?_ _|refine blk_drew ?_|refine blk_alloc ?_ _));refine bp_ (cs:=#[.bool x426000_3,.string (a0.extract (x1_3 : Int).toNat (x8_15 : Int).toNat),.string x426002_21,.string x425003_21]) ?_ 3 _;refine bp_ (cs:=#[.bool x426000_3,.string (a0.extract (x1_3 : Int).toNat (x8_15 : Int).toNat),.string x425002_21,.string x425003_21]) ?_ 2 _;refine bp_ (cs:=#[.bool x426000_3,.string x425001_21,.string x425002_21,.string x425003_21]) ?_ 1 _;refine bp_ (cs:=#[.bool x425000_21,.string x425001_21,.string x425002_21,.string x425003_21]) ?_ 0 _;(with_reducible repeat (first|refine blk_drewN ?_ _|refine blk_drew ?_|refine blk_alloc ?_ _));refine blk_far ?_ NB424_425.out _;(with_reducible repeat (first|refine blk_drewN ?_ _|refine blk_drew ?_|refine blk_alloc ?_ _));exact BK424.out) Tryz.underlying151 rfl (by kernel_rfl)) rfl ?_;exact ⟨by first|rfl|(simp [errW_none,errW_some] <;> rfl)|(simp only [← hji46];first|rfl|(simp [errW_none,errW_some] <;> rfl))|(simp [*,errW_none,errW_some] <;> rfl),(hb_ HB)⟩
                 rw [if_neg c49] at H
                 exact absurd H (by simp)
                rw [if_neg c48] at H
                exact absurd H (by simp)
               rw [if_neg c47] at H
               exact absurd H (by simp)
              replace c40:=Bool.eq_false_iff.mpr c40;subst c40
              have H1 : ((quarryref11_digits.f kj21 a0 (wrap64 (x1_21 + 1))).bind fun t434=>(if t434 = (wrap64 (x1_21 + 1)) then (some (x426000_3,(a0.extract (x1_3 : Int).toNat (x8_15 : Int).toNat),x426002_21,(⟨#[]⟩ : ByteArray),t434,false)) else (if 0 ≤ (wrap64 (x1_21 + 1)) then (if (wrap64 (x1_21 + 1)) ≤ t434 then (if t434 ≤ (a0.size : Int) then (some (x426000_3,(a0.extract (x1_3 : Int).toNat (x8_15 : Int).toNat),x426002_21,a0.extract ((wrap64 (x1_21 + 1)) : Int).toNat (t434 : Int).toNat,t434,true)) else (none)) else (none)) else (none)))) = some (r1,r2,r3,r4,r5,r6):=by rw [if_neg (show ¬ (false = true) by decide)] at H;exact H
              clear H;have H:=H1;clear H1;replace H:=Option.bind_eq_some_iff.mp H;obtain ⟨t434,A530,H⟩:=H;replace H : (if t434 = (wrap64 (x1_21 + 1)) then (some (x426000_3,(a0.extract (x1_3 : Int).toNat (x8_15 : Int).toNat),x426002_21,(⟨#[]⟩ : ByteArray),t434,false)) else (if 0 ≤ (wrap64 (x1_21 + 1)) then (if (wrap64 (x1_21 + 1)) ≤ t434 then (if t434 ≤ (a0.size : Int) then (some (x426000_3,(a0.extract (x1_3 : Int).toNat (x8_15 : Int).toNat),x426002_21,a0.extract ((wrap64 (x1_21 + 1)) : Int).toNat (t434 : Int).toNat,t434,true)) else (none)) else (none)) else (none))) = some (r1,r2,r3,r4,r5,r6):=H;have A53:=Aside0.mk A530;clear A530
              by_cases c54 : t434 = (wrap64 (x1_21 + 1))
              ·rw [if_pos c54] at H
               have c54b0 : (t434 == (wrap64 (x1_21 + 1))) = true:=beq_iff_eq.mpr c54;have c54b1 : (t434 != (wrap64 (x1_21 + 1))) = false:=bne_eq_false_iff_eq.mpr c54;clear c54
               simp only [Option.some.injEq,Prod.mk.injEq] at H
               obtain ⟨rfl,rfl,rfl,rfl,rfl,rfl⟩:=H
               go_wp2_with (first|((with_reducible refine gate_callee (f:=125) rfl ?_);refine goesL_ (some 60) rfl rfl Tryz.func125 (by kernel_rfl) rfl #[.string a0,.int .i64 x1_21,.int .u8 101,.int .u8 69] rfl am_ ?_;(with_reducible refine (quarryref11_is.calls a0 x1_21 101 69 true _ A37.out).mono ?_);rintro e w' ⟨rfl,⟨nd,rfl⟩⟩;refine ⟨_,rfl,?_⟩;(try (rw [drewN_self wc];generalize hq_ : World.drewN wc _ = wc;have n0_ : Aside0 (wc.heap[gb424]? = some (.cells #[.bool x425000_21,.string x425001_21,.string x425002_21,.string x425003_21] 151 (0,0))):=⟨by rw [← hq_];exact (bk_ BK424)⟩;have n1_ : Aside0 (wc.heap[gb425]? = some (.cells #[.bool x426000_3,.string (a0.extract (x1_3 : Int).toNat (x8_15 : Int).toNat),.string x426002_21,.string (⟨#[]⟩ : ByteArray)] 151 (0,0))):=⟨by rw [← hq_];exact (bk_ BK425)⟩;have n2_ : Aside0 (Below w.heap.size w wc):=⟨by rw [← hq_];exact (hb_ HB)⟩;clear BK424 BK425 HB hq_;have BK424:=n0_;have BK425:=n1_;have HB:=n2_;clear n0_ n1_ n2_)))|((with_reducible refine gate_callee (f:=125) rfl ?_);refine goesL_ (some 66) rfl rfl Tryz.func125 (by kernel_rfl) rfl #[.string a0,.int .i64 (wrap64 (x1_21 + 1)),.int .u8 43,.int .u8 45] rfl am_ ?_;(with_reducible refine (quarryref11_is.calls a0 (wrap64 (x1_21 + 1)) 43 45 false _ A39.out).mono ?_);rintro e w' ⟨rfl,⟨nd,rfl⟩⟩;refine ⟨_,rfl,?_⟩;(try (rw [drewN_self wc];generalize hq_ : World.drewN wc _ = wc;have n0_ : Aside0 (wc.heap[gb424]? = some (.cells #[.bool x425000_21,.string x425001_21,.string x425002_21,.string x425003_21] 151 (0,0))):=⟨by rw [← hq_];exact (bk_ BK424)⟩;have n1_ : Aside0 (wc.heap[gb425]? = some (.cells #[.bool x426000_3,.string (a0.extract (x1_3 : Int).toNat (x8_15 : Int).toNat),.string x426002_21,.string (⟨#[]⟩ : ByteArray)] 151 (0,0))):=⟨by rw [← hq_];exact (bk_ BK425)⟩;have n2_ : Aside0 (Below w.heap.size w wc):=⟨by rw [← hq_];exact (hb_ HB)⟩;clear BK424 BK425 HB hq_;have BK424:=n0_;have BK425:=n1_;have HB:=n2_;clear n0_ n1_ n2_)))|((with_reducible refine gate_callee (f:=127) rfl ?_);refine goesL_ (some 71) rfl rfl Tryz.func127 (by kernel_rfl) rfl #[.string a0,.int .i64 (wrap64 (x1_21 + 1))] rfl am_ ?_;(with_reducible refine (quarryref11_digits.calls kj21 a0 (wrap64 (x1_21 + 1)) t434 _ A53.out).mono ?_);rintro e w' ⟨rfl,⟨nd,rfl⟩⟩;refine ⟨_,rfl,?_⟩;(try (rw [drewN_self wc];generalize hq_ : World.drewN wc _ = wc;have n0_ : Aside0 (wc.heap[gb424]? = some (.cells #[.bool x425000_21,.string x425001_21,.string x425002_21,.string x425003_21] 151 (0,0))):=⟨by rw [← hq_];exact (bk_ BK424)⟩;have n1_ : Aside0 (wc.heap[gb425]? = some (.cells #[.bool x426000_3,.string (a0.extract (x1_3 : Int).toNat (x8_15 : Int).toNat),.string x426002_21,.string (⟨#[]⟩ : ByteArray)] 151 (0,0))):=⟨by rw [← hq_];exact (bk_ BK425)⟩;have n2_ : Aside0 (Below w.heap.size w wc):=⟨by rw [← hq_];exact (hb_ HB)⟩;clear BK424 BK425 HB hq_;have BK424:=n0_;have BK425:=n1_;have HB:=n2_;clear n0_ n1_ n2_));have hnb55:=NB425_424.out;have hnc55:=NB424_425.out;obtain ⟨hcz56_0,hcz56_1,hcz56_2,hcz56_3,hfz56_0,hfz56_1,hfz56_2,hfz56_3⟩:=cf4_ BK425;obtain ⟨hcz57_0,hcz57_1,hcz57_2,hcz57_3,hfz57_0,hfz57_1,hfz57_2,hfz57_3⟩:=cf4_ BK424))
               refine bodyPost_ret (results_ctt rfl _ _ gb424 151 #[.bool x426000_3,.string (a0.extract (x1_3 : Int).toNat (x8_15 : Int).toNat),.string x426002_21,.string (⟨#[]⟩ : ByteArray)] (0,0) _ rfl (by (with_reducible repeat (first|refine blk_drewN ?_ _|refine blk_drew ?_|refine blk_alloc ?_ _));refine bp_ (cs:=#[.bool x426000_3,.string (a0.extract (x1_3 : Int).toNat (x8_15 : Int).toNat),.string x426002_21,.string x425003_21]) ?_ 3 _;refine bp_ (cs:=#[.bool x426000_3,.string (a0.extract (x1_3 : Int).toNat (x8_15 : Int).toNat),.string x425002_21,.string x425003_21]) ?_ 2 _;refine bp_ (cs:=#[.bool x426000_3,.string x425001_21,.string x425002_21,.string x425003_21]) ?_ 1 _;refine bp_ (cs:=#[.bool x425000_21,.string x425001_21,.string x425002_21,.string x425003_21]) ?_ 0 _;(with_reducible repeat (first|refine blk_drewN ?_ _|refine blk_drew ?_|refine blk_alloc ?_ _));exact BK424.out) Tryz.underlying151 rfl (by kernel_rfl)) rfl ?_;exact ⟨er_,(hb_ HB)⟩
              rw [if_neg c54] at H
              have c54b0 : (t434 == (wrap64 (x1_21 + 1))) = false:=beq_eq_false_iff_ne.mpr c54;have c54b1 : (t434 != (wrap64 (x1_21 + 1))) = true:=bne_iff_ne.mpr c54
              obtain ⟨ji58,hji58⟩ : ∃ j_ : Int,(wrap64 (x1_21 + 1)) = j_:=⟨_,rfl⟩
              replace H : (if 0 ≤ (ji58) then (if (ji58) ≤ t434 then (if t434 ≤ (a0.size : Int) then (some (x426000_3,(a0.extract (x1_3 : Int).toNat (x8_15 : Int).toNat),x426002_21,a0.extract ((ji58) : Int).toNat (t434 : Int).toNat,t434,true)) else (none)) else (none)) else (none)) = some (r1,r2,r3,r4,r5,r6):=by first|(rw [hji58] at H;exact H)|(simp only [hji58] at H ⊢;exact H)
              (try rw [hji58] at c54b0)
              (try rw [hji58] at c54b1)
              (try rw [hji58] at A37)
              (try rw [hji58] at A39)
              (try rw [hji58] at A53)
              have hji58w : (IntKind.i64.wrap (x1_21 + 1)) = ji58:=(i64_w _).trans hji58
              by_cases c59 : 0 ≤ (ji58)
              ·rw [if_pos c59] at H
               have c59b0:=eq_true c59;have c59b1 : decide (0 ≤ (ji58)) = true:=decide_eq_true c59;clear c59
               by_cases c60 : (ji58) ≤ t434
               ·rw [if_pos c60] at H
                have c60b0:=eq_true c60;have c60b1 : decide ((ji58) ≤ t434) = true:=decide_eq_true c60;clear c60
                by_cases c61 : t434 ≤ (a0.size : Int)
                ·rw [if_pos c61] at H
                 have c61b0:=eq_true c61;have c61b1 : decide (t434 ≤ (a0.size : Int)) = true:=decide_eq_true c61;clear c61
                 simp only [Option.some.injEq,Prod.mk.injEq] at H
                 obtain ⟨rfl,rfl,rfl,rfl,rfl,rfl⟩:=H
                 go_wp2_with (first|((with_reducible refine gate_callee (f:=125) rfl ?_);refine goesL_ (some 60) rfl rfl Tryz.func125 (by kernel_rfl) rfl #[.string a0,.int .i64 x1_21,.int .u8 101,.int .u8 69] rfl am_ ?_;(with_reducible refine (quarryref11_is.calls a0 x1_21 101 69 true _ A37.out).mono ?_);rintro e w' ⟨rfl,⟨nd,rfl⟩⟩;refine ⟨_,rfl,?_⟩;(try (rw [drewN_self wc];generalize hq_ : World.drewN wc _ = wc;have n0_ : Aside0 (wc.heap[gb424]? = some (.cells #[.bool x425000_21,.string x425001_21,.string x425002_21,.string x425003_21] 151 (0,0))):=⟨by rw [← hq_];exact (bk_ BK424)⟩;have n1_ : Aside0 (wc.heap[gb425]? = some (.cells #[.bool x426000_3,.string (a0.extract (x1_3 : Int).toNat (x8_15 : Int).toNat),.string x426002_21,.string (⟨#[]⟩ : ByteArray)] 151 (0,0))):=⟨by rw [← hq_];exact (bk_ BK425)⟩;have n2_ : Aside0 (Below w.heap.size w wc):=⟨by rw [← hq_];exact (hb_ HB)⟩;clear BK424 BK425 HB hq_;have BK424:=n0_;have BK425:=n1_;have HB:=n2_;clear n0_ n1_ n2_)))|((with_reducible refine gate_callee (f:=125) rfl ?_);refine goesL_ (some 66) rfl rfl Tryz.func125 (by kernel_rfl) rfl #[.string a0,.int .i64 ji58,.int .u8 43,.int .u8 45] rfl (by (try simp only [List.map_toArray,List.map_cons,List.map_nil]);first|done|(simp only [hji58];rfl)|rfl|(simp only [List.length_drop,List.length_take];rfl)) ?_;(with_reducible refine (quarryref11_is.calls a0 ji58 43 45 false _ A39.out).mono ?_);rintro e w' ⟨rfl,⟨nd,rfl⟩⟩;refine ⟨_,rfl,?_⟩;(try (rw [drewN_self wc];generalize hq_ : World.drewN wc _ = wc;have n0_ : Aside0 (wc.heap[gb424]? = some (.cells #[.bool x425000_21,.string x425001_21,.string x425002_21,.string x425003_21] 151 (0,0))):=⟨by rw [← hq_];exact (bk_ BK424)⟩;have n1_ : Aside0 (wc.heap[gb425]? = some (.cells #[.bool x426000_3,.string (a0.extract (x1_3 : Int).toNat (x8_15 : Int).toNat),.string x426002_21,.string (⟨#[]⟩ : ByteArray)] 151 (0,0))):=⟨by rw [← hq_];exact (bk_ BK425)⟩;have n2_ : Aside0 (Below w.heap.size w wc):=⟨by rw [← hq_];exact (hb_ HB)⟩;clear BK424 BK425 HB hq_;have BK424:=n0_;have BK425:=n1_;have HB:=n2_;clear n0_ n1_ n2_)))|((with_reducible refine gate_callee (f:=127) rfl ?_);refine goesL_ (some 71) rfl rfl Tryz.func127 (by kernel_rfl) rfl #[.string a0,.int .i64 ji58] rfl (by (try simp only [List.map_toArray,List.map_cons,List.map_nil]);first|done|(simp only [hji58];rfl)|rfl|(simp only [List.length_drop,List.length_take];rfl)) ?_;(with_reducible refine (quarryref11_digits.calls kj21 a0 ji58 t434 _ A53.out).mono ?_);rintro e w' ⟨rfl,⟨nd,rfl⟩⟩;refine ⟨_,rfl,?_⟩;(try (rw [drewN_self wc];generalize hq_ : World.drewN wc _ = wc;have n0_ : Aside0 (wc.heap[gb424]? = some (.cells #[.bool x425000_21,.string x425001_21,.string x425002_21,.string x425003_21] 151 (0,0))):=⟨by rw [← hq_];exact (bk_ BK424)⟩;have n1_ : Aside0 (wc.heap[gb425]? = some (.cells #[.bool x426000_3,.string (a0.extract (x1_3 : Int).toNat (x8_15 : Int).toNat),.string x426002_21,.string (⟨#[]⟩ : ByteArray)] 151 (0,0))):=⟨by rw [← hq_];exact (bk_ BK425)⟩;have n2_ : Aside0 (Below w.heap.size w wc):=⟨by rw [← hq_];exact (hb_ HB)⟩;clear BK424 BK425 HB hq_;have BK424:=n0_;have BK425:=n1_;have HB:=n2_;clear n0_ n1_ n2_));have hnb62:=NB425_424.out;have hnc62:=NB424_425.out;obtain ⟨hcz63_0,hcz63_1,hcz63_2,hcz63_3,hfz63_0,hfz63_1,hfz63_2,hfz63_3⟩:=cf4_ BK425;obtain ⟨hcz64_0,hcz64_1,hcz64_2,hcz64_3,hfz64_0,hfz64_1,hfz64_2,hfz64_3⟩:=cf4_ BK424))
                 refine bodyPost_ret (results_ctt rfl _ _ gb424 151 #[.bool x426000_3,.string (a0.extract (x1_3 : Int).toNat (x8_15 : Int).toNat),.string x426002_21,.string (a0.extract ((ji58) : Int).toNat (t434 : Int).toNat)] (0,0) _ rfl (by (with_reducible repeat (first|refine blk_drewN ?_ _|refine blk_drew ?_|refine blk_alloc ?_ _));refine bp_ (cs:=#[.bool x426000_3,.string (a0.extract (x1_3 : Int).toNat (x8_15 : Int).toNat),.string x426002_21,.string x425003_21]) ?_ 3 _;refine bp_ (cs:=#[.bool x426000_3,.string (a0.extract (x1_3 : Int).toNat (x8_15 : Int).toNat),.string x425002_21,.string x425003_21]) ?_ 2 _;refine bp_ (cs:=#[.bool x426000_3,.string x425001_21,.string x425002_21,.string x425003_21]) ?_ 1 _;refine bp_ (cs:=#[.bool x425000_21,.string x425001_21,.string x425002_21,.string x425003_21]) ?_ 0 _;(with_reducible repeat (first|refine blk_drewN ?_ _|refine blk_drew ?_|refine blk_alloc ?_ _));refine blk_far ?_ NB424_425.out _;(with_reducible repeat (first|refine blk_drewN ?_ _|refine blk_drew ?_|refine blk_alloc ?_ _));exact BK424.out) Tryz.underlying151 rfl (by kernel_rfl)) rfl ?_;exact ⟨by first|rfl|(simp [errW_none,errW_some] <;> rfl)|(simp only [← hji58];first|rfl|(simp [errW_none,errW_some] <;> rfl))|(simp [*,errW_none,errW_some] <;> rfl),(hb_ HB)⟩
                rw [if_neg c61] at H
                exact absurd H (by simp)
               rw [if_neg c60] at H
               exact absurd H (by simp)
              rw [if_neg c59] at H
              exact absurd H (by simp)
             replace c38:=Bool.eq_false_iff.mpr c38;subst c38
             have H1 : (some (x426000_3,(a0.extract (x1_3 : Int).toNat (x8_15 : Int).toNat),x426002_21,(⟨#[]⟩ : ByteArray),x1_21,true)) = some (r1,r2,r3,r4,r5,r6):=by rw [if_neg (show ¬ (false = true) by decide)] at H;exact H
             clear H;have H:=H1;clear H1
             simp only [Option.some.injEq,Prod.mk.injEq] at H
             obtain ⟨rfl,rfl,rfl,rfl,rfl,rfl⟩:=H
             go_wp2_with (first|((with_reducible refine gate_callee (f:=125) rfl ?_);refine goesL_ (some 60) rfl rfl Tryz.func125 (by kernel_rfl) rfl #[.string a0,.int .i64 x1_21,.int .u8 101,.int .u8 69] rfl am_ ?_;(with_reducible refine (quarryref11_is.calls a0 x1_21 101 69 false _ A37.out).mono ?_);rintro e w' ⟨rfl,⟨nd,rfl⟩⟩;refine ⟨_,rfl,?_⟩;(try (rw [drewN_self wc];generalize hq_ : World.drewN wc _ = wc;have n0_ : Aside0 (wc.heap[gb424]? = some (.cells #[.bool x425000_21,.string x425001_21,.string x425002_21,.string x425003_21] 151 (0,0))):=⟨by rw [← hq_];exact (bk_ BK424)⟩;have n1_ : Aside0 (wc.heap[gb425]? = some (.cells #[.bool x426000_3,.string (a0.extract (x1_3 : Int).toNat (x8_15 : Int).toNat),.string x426002_21,.string (⟨#[]⟩ : ByteArray)] 151 (0,0))):=⟨by rw [← hq_];exact (bk_ BK425)⟩;have n2_ : Aside0 (Below w.heap.size w wc):=⟨by rw [← hq_];exact (hb_ HB)⟩;clear BK424 BK425 HB hq_;have BK424:=n0_;have BK425:=n1_;have HB:=n2_;clear n0_ n1_ n2_));have hnb65:=NB425_424.out;have hnc65:=NB424_425.out;obtain ⟨hcz66_0,hcz66_1,hcz66_2,hcz66_3,hfz66_0,hfz66_1,hfz66_2,hfz66_3⟩:=cf4_ BK425;obtain ⟨hcz67_0,hcz67_1,hcz67_2,hcz67_3,hfz67_0,hfz67_1,hfz67_2,hfz67_3⟩:=cf4_ BK424))
             refine bodyPost_ret (results_ctt rfl _ _ gb424 151 #[.bool x426000_3,.string (a0.extract (x1_3 : Int).toNat (x8_15 : Int).toNat),.string x426002_21,.string (⟨#[]⟩ : ByteArray)] (0,0) _ rfl (by (with_reducible repeat (first|refine blk_drewN ?_ _|refine blk_drew ?_|refine blk_alloc ?_ _));refine bp_ (cs:=#[.bool x426000_3,.string (a0.extract (x1_3 : Int).toNat (x8_15 : Int).toNat),.string x426002_21,.string x425003_21]) ?_ 3 _;refine bp_ (cs:=#[.bool x426000_3,.string (a0.extract (x1_3 : Int).toNat (x8_15 : Int).toNat),.string x425002_21,.string x425003_21]) ?_ 2 _;refine bp_ (cs:=#[.bool x426000_3,.string x425001_21,.string x425002_21,.string x425003_21]) ?_ 1 _;refine bp_ (cs:=#[.bool x425000_21,.string x425001_21,.string x425002_21,.string x425003_21]) ?_ 0 _;(with_reducible repeat (first|refine blk_drewN ?_ _|refine blk_drew ?_|refine blk_alloc ?_ _));exact BK424.out) Tryz.underlying151 rfl (by kernel_rfl)) rfl ?_;exact ⟨er_,(hb_ HB)⟩
          rw [if_neg c20] at H
          exact absurd H (by simp)
         rw [if_neg c19] at H
         exact absurd H (by simp)
        rw [if_neg c18] at H
        exact absurd H (by simp)
     rw [if_neg c14] at H
     exact absurd H (by simp)
    rw [if_neg c13] at H
    exact absurd H (by simp)
   replace c11:=Bool.eq_false_iff.mpr c11;subst c11
   have H1 : (some (x426000_3,(⟨#[]⟩ : ByteArray),(⟨#[]⟩ : ByteArray),(⟨#[]⟩ : ByteArray),x1_3,false)) = some (r1,r2,r3,r4,r5,r6):=by rw [if_neg (show ¬ (false = true) by decide)] at H;exact H
   clear H;have H:=H1;clear H1
   simp only [Option.some.injEq,Prod.mk.injEq] at H
   obtain ⟨rfl,rfl,rfl,rfl,rfl,rfl⟩:=H
   go_wp2_with (first|((with_reducible refine gate_callee (f:=126) rfl ?_);refine goesL_ (some 19) rfl rfl Tryz.func126 (by kernel_rfl) rfl #[.string a0,.int .i64 x1_3] rfl am_ ?_;(with_reducible refine (quarryref11_digit.calls a0 x1_3 false _ A10.out).mono ?_);rintro e w' ⟨rfl,⟨nd,rfl⟩⟩;refine ⟨_,rfl,?_⟩;(try (rw [drewN_self wc];generalize hq_ : World.drewN wc _ = wc;have n0_ : Aside0 (wc.heap[gb424]? = some (.cells #[.bool false,.string (⟨#[]⟩ : ByteArray),.string (⟨#[]⟩ : ByteArray),.string (⟨#[]⟩ : ByteArray)] 151 (0,0))):=⟨by rw [← hq_];exact (bk_ BK424)⟩;have n1_ : Aside0 (wc.heap[gb425]? = some (.cells #[.bool x426000_3,.string (⟨#[]⟩ : ByteArray),.string (⟨#[]⟩ : ByteArray),.string (⟨#[]⟩ : ByteArray)] 151 (0,0))):=⟨by rw [← hq_];exact (bk_ BK425)⟩;have n2_ : Aside0 (Below w.heap.size w wc):=⟨by rw [← hq_];exact (hb_ HB)⟩;clear BK424 BK425 HB hq_;have BK424:=n0_;have BK425:=n1_;have HB:=n2_;clear n0_ n1_ n2_));have hnb68:=NB425_424.out;have hnc68:=NB424_425.out;obtain ⟨hcz69_0,hcz69_1,hcz69_2,hcz69_3,hfz69_0,hfz69_1,hfz69_2,hfz69_3⟩:=cf4_ BK425;obtain ⟨hcz70_0,hcz70_1,hcz70_2,hcz70_3,hfz70_0,hfz70_1,hfz70_2,hfz70_3⟩:=cf4_ BK424))
   refine bodyPost_ret (results_ctt rfl _ _ gb424 151 #[.bool x426000_3,.string (⟨#[]⟩ : ByteArray),.string (⟨#[]⟩ : ByteArray),.string (⟨#[]⟩ : ByteArray)] (0,0) _ rfl (by (with_reducible repeat (first|refine blk_drewN ?_ _|refine blk_drew ?_|refine blk_alloc ?_ _));refine bp_ (cs:=#[.bool x426000_3,.string (⟨#[]⟩ : ByteArray),.string (⟨#[]⟩ : ByteArray),.string (⟨#[]⟩ : ByteArray)]) ?_ 3 _;refine bp_ (cs:=#[.bool x426000_3,.string (⟨#[]⟩ : ByteArray),.string (⟨#[]⟩ : ByteArray),.string (⟨#[]⟩ : ByteArray)]) ?_ 2 _;refine bp_ (cs:=#[.bool x426000_3,.string (⟨#[]⟩ : ByteArray),.string (⟨#[]⟩ : ByteArray),.string (⟨#[]⟩ : ByteArray)]) ?_ 1 _;refine bp_ (cs:=#[.bool false,.string (⟨#[]⟩ : ByteArray),.string (⟨#[]⟩ : ByteArray),.string (⟨#[]⟩ : ByteArray)]) ?_ 0 _;(with_reducible repeat (first|refine blk_drewN ?_ _|refine blk_drew ?_|refine blk_alloc ?_ _));exact BK424.out) Tryz.underlying151 rfl (by kernel_rfl)) rfl ?_;exact ⟨er_,(hb_ HB)⟩
end Go.Proofs.YtlgamjgdkljfiacGreatDoor.PWritePretties
