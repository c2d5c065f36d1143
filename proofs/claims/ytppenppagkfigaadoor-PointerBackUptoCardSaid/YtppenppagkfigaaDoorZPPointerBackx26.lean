-- Written by shrink.py, a program of this session: what the law needs of the print and its words. Lean checks it.
import Derived.Test.YtppenppagkfigaaDoorZPPointerBackx0
import Derived.Test.YtppenppagkfigaaDoorZPPointerBackx1
import Derived.Test.YtppenppagkfigaaDoorZPPointerBackx19
import Derived.Test.YtppenppagkfigaaDoorZPPointerBackx25
namespace Go.Proofs.YtppenppagkfigaaDoor.PPointerBack
open Go.RowKit Go.Proofs.YtppenppagkfigaaDoorW.PrintWords Go.Proofs.YtppenppagkfigaaDoorW.PrintLast Go.Proofs.YtppenppagkfigaaDoorW.PrintMore
attribute [local go_sem] max2_int min2_int max_two min_two max_three min_three max_four min_four
set_option linter.unusedVariables false
set_option linter.unusedSimpArgs false
def quarryref00_SameTexts.l0 : Nat → List ByteArray → List ByteArray → Int → Option (Bool)
 | 0,_,_,_=>none
 | k + 1,x0,x1,x5=>if x5 < (x0.length : Int) then (if 0 ≤ x5 then (if x5 < (x1.length : Int) then (if (rdOf ByteArray.empty x0 x5).toList = (rdOf ByteArray.empty x1 x5).toList then (quarryref00_SameTexts.l0 k x0 x1 (wrap64 (x5 + 1))) else (some false)) else (none)) else (none)) else (some true)
def quarryref00_SameTexts.f (k : Nat) (l0 : List ByteArray) (l1 : List ByteArray) : Option (Bool):=if (l0.length : Int) = (l1.length : Int) then (quarryref00_SameTexts.l0 k l0 l1 0) else (some false)
set_option maxHeartbeats 8000000 in
set_option maxRecDepth 100000 in
theorem quarryref00_SameTexts.calls (k : Nat) (A0 : Option Addr) (c0 : Nat) (l0 : List ByteArray) (A1 : Option Addr) (c1 : Nat) (l1 : List ByteArray) (r : Bool) (w : World) (hr0 : Kd.C Kd.string w A0 l0.length l0) (hc0 : l0.length ≤ c0) (hr1 : Kd.C Kd.string w A1 l1.length l1) (hc1 : l1.length ≤ c1) (h : quarryref00_SameTexts.f k l0 l1 = some r) :
  Calls Tryd.prog 17 #[.slice A0 l0.length c0,.slice A1 l1.length c1] w fun e w'=>e = .returned (.bool r) ∧ Drawn0 w w':=by
 have HR0:=Aside0.mk hr0
 have HC0:=Aside0.mk hc0
 clear hr0 hc0
 have HR1:=Aside0.mk hr1
 have HC1:=Aside0.mk hc1
 clear hr1 hc1
 have H : (if (l0.length : Int) = (l1.length : Int) then (quarryref00_SameTexts.l0 k l0 l1 0) else (some false)) = some r:=h
 clear h
 by_cases c3 : (l0.length : Int) = (l1.length : Int)
 ·rw [if_pos c3] at H
  have c3b0 : ((l0.length : Int) == (l1.length : Int)) = true:=beq_iff_eq.mpr c3
  have c3b1 : ((l0.length : Int) != (l1.length : Int)) = false:=bne_eq_false_iff_eq.mpr c3
  have c3b2 : (l0.length == l1.length) = true:=by first|simpa using c3|(simp at c3 ⊢;omega)
  clear c3
  have H':=Aside0.mk H
  clear H
  go_enter Tryd.func17,Tryd.ntmps17
  go_wp2
  repeat (go_quiet (fail);try go_wp2)
  go_loopg [5] k (fun kq v5 w'=>∃ (x5_1 : Int),v5 = .int .i64 x5_1 ∧ Aside0 (quarryref00_SameTexts.l0 kq l0 l1 x5_1 = some r) ∧ Aside0 (kq ≤ k) ∧ Drawn0 w w')
  case atStart=>exact ⟨(0),rr_,H',⟨Nat.le_refl _⟩,by repeat (first|exact Drawn0.refl _|apply Drawn0.step)⟩
  case round =>
   clear H'
   obtain ⟨x5_1,rfl,HA,HK1,⟨m1,rfl⟩⟩:=hrel
   cases gk with
   | zero=>exact absurd HA.out (by simp [quarryref00_SameTexts.l0])
   | succ k1 =>
    have H:=HA.out
    clear HA
    simp only [quarryref00_SameTexts.l0] at H
    by_cases c4 : x5_1 < (l0.length : Int)
    ·rw [if_pos c4] at H
     have c4b0 : decide (x5_1 < (l0.length : Int)) = true:=decide_eq_true c4
     clear c4
     by_cases c5 : 0 ≤ x5_1
     ·rw [if_pos c5] at H
      have c5b0 : decide (0 ≤ x5_1) = true:=decide_eq_true c5
      clear c5
      by_cases c6 : x5_1 < (l1.length : Int)
      ·rw [if_pos c6] at H
       have c6b0 : decide (x5_1 < (l1.length : Int)) = true:=decide_eq_true c6
       clear c6
       by_cases c7 : (rdOf ByteArray.empty l0 x5_1).toList = (rdOf ByteArray.empty l1 x5_1).toList
       ·rw [if_pos c7] at H
        have c7b0 : ((rdOf ByteArray.empty l0 x5_1).toList == (rdOf ByteArray.empty l1 x5_1).toList) = true:=beq_iff_eq.mpr c7
        have c7b1 : ((rdOf ByteArray.empty l0 x5_1).toList != (rdOf ByteArray.empty l1 x5_1).toList) = false:=bne_eq_false_iff_eq.mpr c7
        clear c7
        have H':=Aside0.mk H
        clear H
        have p247 : 0 ≤ (x5_1 : Int):=of_decide_eq_true aa_
        have q247 : x5_1 < (l0.length : Int):=of_decide_eq_true aa_
        obtain ⟨ad247,e247,hx247_0⟩:=Kd.at_string HR0.out x5_1 p247 q247
        cases e247
        replace p247:=eq_true p247
        replace q247:=eq_true q247
        have p248 : 0 ≤ (x5_1 : Int):=of_decide_eq_true aa_
        have q248 : x5_1 < (l1.length : Int):=of_decide_eq_true aa_
        obtain ⟨ad248,e248,hx248_0⟩:=Kd.at_string HR1.out x5_1 p248 q248
        cases e248
        replace p248:=eq_true p248
        replace q248:=eq_true q248
        go_wp2
        repeat (go_quiet (fail);try go_wp2)
        go_roundg k1
        case measure=>have:=HK1.out;omega
        case rel=>exact ⟨(wrap64 (x5_1 + 1)),rr_,(by first|exact H'|(subst_vars;exact H')),⟨by have:=HK1.out;omega⟩,by repeat (first|exact Drawn0.refl _|apply Drawn0.step)⟩
       ·rw [if_neg c7] at H
        have c7b0 : ((rdOf ByteArray.empty l0 x5_1).toList == (rdOf ByteArray.empty l1 x5_1).toList) = false:=beq_eq_false_iff_ne.mpr c7
        have c7b1 : ((rdOf ByteArray.empty l0 x5_1).toList != (rdOf ByteArray.empty l1 x5_1).toList) = true:=bne_iff_ne.mpr c7
        obtain rfl:=Option.some.inj H
        have p247 : 0 ≤ (x5_1 : Int):=of_decide_eq_true aa_
        have q247 : x5_1 < (l0.length : Int):=of_decide_eq_true aa_
        obtain ⟨ad247,e247,hx247_0⟩:=Kd.at_string HR0.out x5_1 p247 q247
        cases e247
        replace p247:=eq_true p247
        replace q247:=eq_true q247
        have p248 : 0 ≤ (x5_1 : Int):=of_decide_eq_true aa_
        have q248 : x5_1 < (l1.length : Int):=of_decide_eq_true aa_
        obtain ⟨ad248,e248,hx248_0⟩:=Kd.at_string HR1.out x5_1 p248 q248
        cases e248
        replace p248:=eq_true p248
        replace q248:=eq_true q248
        go_wp2
        repeat (go_quiet (fail);try go_wp2)
        go_ret
        exact ⟨by first|rfl|(simp;done)|(simp [*];done),by repeat (first|exact Drawn0.refl _|apply Drawn0.step)⟩
      ·rw [if_neg c6] at H
       exact absurd H (by simp)
     ·rw [if_neg c5] at H
      exact absurd H (by simp)
    ·rw [if_neg c4] at H
     have c4b0 : decide (x5_1 < (l0.length : Int)) = false:=decide_eq_false c4
     clear c4
     obtain rfl:=Option.some.inj H
     go_wp2
     repeat (go_quiet (fail);try go_wp2)
     go_ret
     exact ⟨by first|rfl|(simp;done)|(simp [*];done),by repeat (first|exact Drawn0.refl _|apply Drawn0.step)⟩
 ·rw [if_neg c3] at H
  have c3b0 : ((l0.length : Int) == (l1.length : Int)) = false:=beq_eq_false_iff_ne.mpr c3
  have c3b1 : ((l0.length : Int) != (l1.length : Int)) = true:=bne_iff_ne.mpr c3
  have c3b2 : (l0.length == l1.length) = false:=by first|simpa using c3|(simp at c3 ⊢;omega)
  obtain rfl:=Option.some.inj H
  go_enter Tryd.func17,Tryd.ntmps17
  go_wp2
  repeat (go_quiet (fail);try go_wp2)
  go_ret
  exact ⟨by first|rfl|(simp;done)|(simp [*];done),by repeat (first|exact Drawn0.refl _|apply Drawn0.step)⟩
def quarrylaw20_PointerBack.j0 : Nat → ByteArray → Bool → Option (Bool)
 | 0,_,_=>none
 | k + 1,x1,x22=>if x22 = true then (some false) else ((pointer_Parse.f x1).bind fun bt256=>(if bt256.2 = 0 then ((pointer_Print.f bt256.1).bind fun t260=>(some (t260.toList == x1.toList))) else (if (bt256.1.length : Int) = 0 then (some (x1.toList != ([] : List UInt8))) else (some false))))
def quarrylaw20_PointerBack.f (k : Nat) (l0 : List ByteArray) (a1 : ByteArray) : Option (Bool):=(quarrylaw20_awake.f k).bind fun t249=>(if t249 = true then ((pointer_Print.f l0).bind fun t250=>((pointer_Parse.f t250).bind fun bt251=>(if bt251.2 = 0 then ((quarryref00_SameTexts.f k bt251.1 l0).bind fun t255=>(quarrylaw20_PointerBack.j0 k a1 (!t255))) else (quarrylaw20_PointerBack.j0 k a1 true)))) else (some false))
set_option maxHeartbeats 8000000 in
set_option maxRecDepth 100000 in
theorem quarrylaw20_PointerBack.calls (k : Nat) (A0 : Option Addr) (c0 : Nat) (l0 : List ByteArray) (a1 : ByteArray) (r : Bool) (w : World) (hr0 : Kd.C Kd.string w A0 l0.length l0) (hc0 : l0.length ≤ c0) (h : quarrylaw20_PointerBack.f k l0 a1 = some r) :
  Calls Tryd.prog 5 #[.slice A0 l0.length c0,.string a1] w fun e w'=>e = .returned (.bool r) ∧ Below w.heap.size w w':=by
 have HR0:=Aside0.mk hr0
 have HC0:=Aside0.mk hc0
 clear hr0 hc0
 have HB:=Aside0.mk (Below.refl w.heap.size w)
 have H : ((quarrylaw20_awake.f k).bind fun t249=>(if t249 = true then ((pointer_Print.f l0).bind fun t250=>((pointer_Parse.f t250).bind fun bt251=>(if bt251.2 = 0 then ((quarryref00_SameTexts.f k bt251.1 l0).bind fun t255=>(quarrylaw20_PointerBack.j0 k a1 (!t255))) else (quarrylaw20_PointerBack.j0 k a1 true)))) else (some false))) = some r:=h
 clear h
 replace H:=Option.bind_eq_some_iff.mp H
 obtain ⟨t249,A30,H⟩:=H
 replace H : (if t249 = true then ((pointer_Print.f l0).bind fun t250=>((pointer_Parse.f t250).bind fun bt251=>(if bt251.2 = 0 then ((quarryref00_SameTexts.f k bt251.1 l0).bind fun t255=>(quarrylaw20_PointerBack.j0 k a1 (!t255))) else (quarrylaw20_PointerBack.j0 k a1 true)))) else (some false)) = some r:=H
 have A3:=Aside0.mk A30
 clear A30
 by_cases c4 : t249 = true
 ·subst c4
  have H1 : ((pointer_Print.f l0).bind fun t250=>((pointer_Parse.f t250).bind fun bt251=>(if bt251.2 = 0 then ((quarryref00_SameTexts.f k bt251.1 l0).bind fun t255=>(quarrylaw20_PointerBack.j0 k a1 (!t255))) else (quarrylaw20_PointerBack.j0 k a1 true)))) = some r:=by rw [if_pos rfl] at H;exact H
  clear H
  have H:=H1
  clear H1
  replace H:=Option.bind_eq_some_iff.mp H
  obtain ⟨t250,A50,H⟩:=H
  replace H : ((pointer_Parse.f t250).bind fun bt251=>(if bt251.2 = 0 then ((quarryref00_SameTexts.f k bt251.1 l0).bind fun t255=>(quarrylaw20_PointerBack.j0 k a1 (!t255))) else (quarrylaw20_PointerBack.j0 k a1 true))) = some r:=H
  have A5:=Aside0.mk A50
  clear A50
  replace H:=Option.bind_eq_some_iff.mp H
  obtain ⟨⟨t251,t252⟩,A60,H⟩:=H
  replace H : (if t252 = 0 then ((quarryref00_SameTexts.f k t251 l0).bind fun t255=>(quarrylaw20_PointerBack.j0 k a1 (!t255))) else (quarrylaw20_PointerBack.j0 k a1 true)) = some r:=H
  have A6:=Aside0.mk A60
  clear A60
  have HC7:=Aside0.mk H
  clear H
  go_enter Tryd.func5,Tryd.ntmps5
  go_upto_region 4 with (first|((with_reducible refine gate_callee (f:=13) rfl ?_);refine goesL_ (some 7) rfl rfl Tryd.func13 (by kernel_rfl) rfl #[] rfl am_ ?_;(with_reducible refine (quarrylaw20_awake.calls k  true _ A3.out).mono ?_);rintro e w8 ⟨rfl,hb⟩;refine ⟨_,rfl,?_⟩;have n0_:=Aside0.mk (below_step (hb_ HB) hb);clear HB;have HB:=n0_;clear n0_;(try clear hb);(try clear hb2);(try clear hk);(try clear hi))|((with_reducible refine gate_callee (f:=16) rfl ?_);refine goesL_ (some 11) rfl rfl Tryd.func16 (by kernel_rfl) rfl #[.slice A0 l0.length c0] rfl am_ ?_;(with_reducible refine (pointer_Print.calls _ _ l0 t250 _ ?side1 ?side2 A5.out).mono ?_);(case side1=>repeat (first|exact (Kd.C_below HR0.out HB.out)|(with_reducible refine Kd.C_alloc ?_ _)|(with_reducible refine Kd.C_drewN ?_ _)|(with_reducible refine Kd.C_drew ?_)));(case side2=>exact HC0.out);rintro e w9 ⟨rfl,hb⟩;refine ⟨_,rfl,?_⟩;have n0_:=Aside0.mk (below_step (hb_ HB) hb);clear HB;have HB:=n0_;clear n0_;(try clear hb);(try clear hb2);(try clear hk);(try clear hi))|((with_reducible refine gate_callee (f:=15) rfl ?_);refine goesL_ (some 12) rfl rfl Tryd.func15 (by kernel_rfl) rfl #[.string t250] rfl am_ ?_;(with_reducible refine (pointer_Parse.calls t250 t251 t252 _ A6.out).mono ?_);rintro e w10 ⟨v253,rfl,ho0,hb⟩;refine ⟨_,rfl,?_⟩;have n_:=J_ (Kd.R_lower ho0 (below_size (hb_ HB))) (Aside0.mk (below_step (hb_ HB) hb));clear HB;obtain ⟨HO254,HB⟩:=n_;(try clear hb);(try clear hb2);(try clear hk);(try clear hi);(try clear ho0)))
  (try simp only [Act.put,List.setIfInBounds_toArray,List.set_cons_zero,List.set_cons_succ])
  go_cut [22] (fun v22 wc=>∃ (kq : Nat) (x22_6 : Bool),v22 = .bool x22_6 ∧ Aside0 (quarrylaw20_PointerBack.j0 kq a1 x22_6 = some r) ∧ Aside0 (kq ≤ k) ∧ Aside0 (Below w.heap.size w wc))
  case first =>
   have H:=HC7.out
   clear HC7
   by_cases c11 : t252 = 0
   ·rw [if_pos c11] at H
    have c11b0 : (t252 == 0) = true:=beq_iff_eq.mpr c11
    have c11b1 : (t252 != 0) = false:=bne_eq_false_iff_eq.mpr c11
    clear c11
    (first|rw [c11b0]|(simp only [i64_w,i32_w];rw [c11b0])|skip)
    replace H:=Option.bind_eq_some_iff.mp H
    obtain ⟨t255,A120,H⟩:=H
    replace H : (quarrylaw20_PointerBack.j0 k a1 (!t255)) = some r:=H
    have A12:=Aside0.mk A120
    clear A120
    have H':=Aside0.mk H
    clear H
    obtain ⟨Ao13,co13,eo13⟩:=Kd.R_slice HO254.out
    subst eo13
    go_wp2_with (first|(go_at_call 17;(with_reducible refine (quarryref00_SameTexts.calls k _ _ t251 _ _ l0 t255 _ ?side1 ?side2 ?side3 ?side4 A12.out).mono ?_);(case side1=>repeat (first|exact (Kd.R_reads' HO254.out).2.2|(with_reducible refine Kd.C_alloc ?_ _)|(with_reducible refine Kd.C_drewN ?_ _)|(with_reducible refine Kd.C_drew ?_)));(case side2=>exact (Kd.R_reads' HO254.out).2.1);(case side3=>repeat (first|exact (Kd.C_below HR0.out HB.out)|(with_reducible refine Kd.C_alloc ?_ _)|(with_reducible refine Kd.C_drewN ?_ _)|(with_reducible refine Kd.C_drew ?_)));(case side4=>exact HC0.out);rintro e w' ⟨rfl,⟨nd,rfl⟩⟩))
    go_meet
    case rel=>exact ⟨_,(!t255),rr_,(by first|exact H'|(subst_vars;exact H')),⟨by first|omega|exact Nat.le_refl _⟩,⟨(hb_ HB)⟩⟩
   ·rw [if_neg c11] at H
    have c11b0 : (t252 == 0) = false:=beq_eq_false_iff_ne.mpr c11
    have c11b1 : (t252 != 0) = true:=bne_iff_ne.mpr c11
    (first|rw [c11b0]|(simp only [i64_w,i32_w];rw [c11b0])|skip)
    have H':=Aside0.mk H
    clear H
    go_wp2
    go_meet
    case rel=>exact ⟨_,(true),rr_,(by first|exact H'|(subst_vars;exact H')),⟨by first|omega|exact Nat.le_refl _⟩,⟨(hb_ HB)⟩⟩
  case rest =>
   clear HC7
   obtain ⟨kq,x22_6,rfl,HA,HJ6,HB⟩:=hcut
   cases kq with
   | zero=>exact absurd HA.out (by simp [quarrylaw20_PointerBack.j0])
   | succ kj6 =>
    have H:=HA.out
    clear HA
    simp only [quarrylaw20_PointerBack.j0] at H
    by_cases c14 : x22_6 = true
    ·subst c14
     have H1 : (some false) = some r:=by rw [if_pos rfl] at H;exact H
     clear H
     have H:=H1
     clear H1
     obtain rfl:=Option.some.inj H
     go_wp2
     go_ret
     exact ⟨er_,(hb_ HB)⟩
    ·replace c14:=Bool.eq_false_iff.mpr c14
     subst c14
     have H1 : ((pointer_Parse.f a1).bind fun bt256=>(if bt256.2 = 0 then ((pointer_Print.f bt256.1).bind fun t260=>(some (t260.toList == a1.toList))) else (if (bt256.1.length : Int) = 0 then (some (a1.toList != ([] : List UInt8))) else (some false)))) = some r:=by rw [if_neg (show ¬ (false = true) by decide)] at H;exact H
     clear H
     have H:=H1
     clear H1
     replace H:=Option.bind_eq_some_iff.mp H
     obtain ⟨⟨t256,t257⟩,A150,H⟩:=H
     replace H : (if t257 = 0 then ((pointer_Print.f t256).bind fun t260=>(some (t260.toList == a1.toList))) else (if (t256.length : Int) = 0 then (some (a1.toList != ([] : List UInt8))) else (some false))) = some r:=H
     have A15:=Aside0.mk A150
     clear A150
     by_cases c16 : t257 = 0
     ·rw [if_pos c16] at H
      have c16b0 : (t257 == 0) = true:=beq_iff_eq.mpr c16
      have c16b1 : (t257 != 0) = false:=bne_eq_false_iff_eq.mpr c16
      clear c16
      replace H:=Option.bind_eq_some_iff.mp H
      obtain ⟨t260,A170,H⟩:=H
      replace H : (some (t260.toList == a1.toList)) = some r:=H
      have A17:=Aside0.mk A170
      clear A170
      obtain rfl:=Option.some.inj H
      go_wp2_with (first|((with_reducible refine gate_callee (f:=15) rfl ?_);refine goesL_ (some 25) rfl rfl Tryd.func15 (by kernel_rfl) rfl #[.string a1] rfl am_ ?_;(with_reducible refine (pointer_Parse.calls a1 t256 t257 _ A15.out).mono ?_);rintro e w18 ⟨v258,rfl,ho0,hb⟩;refine ⟨_,rfl,?_⟩;have n_:=J_ (Kd.R_lower ho0 (below_size (hb_ HB))) (Aside0.mk (below_step (hb_ HB) hb));clear HB;obtain ⟨HO259,HB⟩:=n_;(try clear hb);(try clear hb2);(try clear hk);(try clear hi);(try clear ho0);obtain ⟨Ao19,co19,eo19⟩:=Kd.R_slice HO259.out;subst eo19)|((with_reducible refine gate_callee (f:=16) rfl ?_);refine goesL_ (some 38) rfl rfl Tryd.func16 (by kernel_rfl) rfl #[.slice Ao19 t256.length co19] rfl am_ ?_;(with_reducible refine (pointer_Print.calls _ _ t256 t260 _ ?side1 ?side2 A17.out).mono ?_);(case side1=>repeat (first|exact (Kd.R_reads' HO259.out).2.2|(with_reducible refine Kd.C_alloc ?_ _)|(with_reducible refine Kd.C_drewN ?_ _)|(with_reducible refine Kd.C_drew ?_)));(case side2=>exact (Kd.R_reads' HO259.out).2.1);rintro e w20 ⟨rfl,hb⟩;refine ⟨_,rfl,?_⟩;have n_:=J_ (Kd.R_below (rk_ HO259) hb) (Aside0.mk (below_step (hb_ HB) hb));clear HO259 HB;obtain ⟨HO259,HB⟩:=n_;(try clear hb);(try clear hb2);(try clear hk);(try clear hi)))
      go_ret
      exact ⟨er_,(hb_ HB)⟩
     ·rw [if_neg c16] at H
      have c16b0 : (t257 == 0) = false:=beq_eq_false_iff_ne.mpr c16
      have c16b1 : (t257 != 0) = true:=bne_iff_ne.mpr c16
      by_cases c21 : (t256.length : Int) = 0
      ·rw [if_pos c21] at H
       have c21b0 : ((t256.length : Int) == 0) = true:=beq_iff_eq.mpr c21
       have c21b1 : ((t256.length : Int) != 0) = false:=bne_eq_false_iff_eq.mpr c21
       clear c21
       obtain rfl:=Option.some.inj H
       go_wp2_with (first|((with_reducible refine gate_callee (f:=15) rfl ?_);refine goesL_ (some 25) rfl rfl Tryd.func15 (by kernel_rfl) rfl #[.string a1] rfl am_ ?_;(with_reducible refine (pointer_Parse.calls a1 t256 t257 _ A15.out).mono ?_);rintro e w22 ⟨v258,rfl,ho0,hb⟩;refine ⟨_,rfl,?_⟩;have n_:=J_ (Kd.R_lower ho0 (below_size (hb_ HB))) (Aside0.mk (below_step (hb_ HB) hb));clear HB;obtain ⟨HO259,HB⟩:=n_;(try clear hb);(try clear hb2);(try clear hk);(try clear hi);(try clear ho0);obtain ⟨Ao23,co23,eo23⟩:=Kd.R_slice HO259.out;subst eo23))
       go_ret
       exact ⟨er_,(hb_ HB)⟩
      ·rw [if_neg c21] at H
       have c21b0 : ((t256.length : Int) == 0) = false:=beq_eq_false_iff_ne.mpr c21
       have c21b1 : ((t256.length : Int) != 0) = true:=bne_iff_ne.mpr c21
       have c21b2 : ¬ (t256 = []):=fun h_=>c21 (by rw [h_];rfl)
       obtain rfl:=Option.some.inj H
       go_wp2_with (first|((with_reducible refine gate_callee (f:=15) rfl ?_);refine goesL_ (some 25) rfl rfl Tryd.func15 (by kernel_rfl) rfl #[.string a1] rfl am_ ?_;(with_reducible refine (pointer_Parse.calls a1 t256 t257 _ A15.out).mono ?_);rintro e w24 ⟨v258,rfl,ho0,hb⟩;refine ⟨_,rfl,?_⟩;have n_:=J_ (Kd.R_lower ho0 (below_size (hb_ HB))) (Aside0.mk (below_step (hb_ HB) hb));clear HB;obtain ⟨HO259,HB⟩:=n_;(try clear hb);(try clear hb2);(try clear hk);(try clear hi);(try clear ho0);obtain ⟨Ao25,co25,eo25⟩:=Kd.R_slice HO259.out;subst eo25))
       go_ret
       exact ⟨er_,(hb_ HB)⟩
 ·replace c4:=Bool.eq_false_iff.mpr c4
  subst c4
  have H1 : (some false) = some r:=by rw [if_neg (show ¬ (false = true) by decide)] at H;exact H
  clear H
  have H:=H1
  clear H1
  obtain rfl:=Option.some.inj H
  go_enter Tryd.func5,Tryd.ntmps5
  go_wp2_with (first|((with_reducible refine gate_callee (f:=13) rfl ?_);refine goesL_ (some 7) rfl rfl Tryd.func13 (by kernel_rfl) rfl #[] rfl am_ ?_;(with_reducible refine (quarrylaw20_awake.calls k  false _ A3.out).mono ?_);rintro e w26 ⟨rfl,hb⟩;refine ⟨_,rfl,?_⟩;have n0_:=Aside0.mk (below_step (hb_ HB) hb);clear HB;have HB:=n0_;clear n0_;(try clear hb);(try clear hb2);(try clear hk);(try clear hi)))
  go_ret
  exact ⟨er_,(hb_ HB)⟩
end Go.Proofs.YtppenppagkfigaaDoor.PPointerBack
