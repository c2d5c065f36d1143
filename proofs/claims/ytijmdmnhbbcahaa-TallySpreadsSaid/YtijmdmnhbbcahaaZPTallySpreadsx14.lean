-- Written by shrink.py, a program of this session: what the law needs of the print and its words. Lean checks it.
import Derived.Test.YtijmdmnhbbcahaaZPTallySpreadsx0
import Derived.Test.YtijmdmnhbbcahaaZPTallySpreadsx8
import Derived.Test.YtijmdmnhbbcahaaZPTallySpreadsx11
import Derived.Test.YtijmdmnhbbcahaaZPTallySpreadsx13
namespace Go.Proofs.Ytijmdmnhbbcahaa.PTallySpreads
open Go.RowKit Go.Proofs.YtijmdmnhbbcahaaW.PrintWords Go.Proofs.YtijmdmnhbbcahaaW.PrintLast Go.Proofs.YtijmdmnhbbcahaaW.PrintMore
attribute [local go_sem] run_fadd run_fsub run_fmul run_fquo unary_fneg run_store_f64 run_store_c128 run_cadd
attribute [local go_sem] max2_int min2_int max_two min_two max_three min_three max_four min_four
set_option linter.unusedVariables false
set_option linter.unusedSimpArgs false
mutual
def quarryref31_Root.l0 : Nat → Int → Int → Option (Nat)
 | 0,_,_=>none
 | k + 1,x3,x4=>if (Int.tmod x4 2) = 0 then (if x3 < 18014398509481984 then (quarryref31_Root.l0 k (IntKind.u64.wrap (2 * x3)) (wrap64 (x4 - 1))) else (quarryref31_Root.l1 k x3 x4 0 0 0 62)) else (quarryref31_Root.l0 k (IntKind.u64.wrap (2 * x3)) (wrap64 (x4 - 1)))
def quarryref31_Root.l1 : Nat → Int → Int → Int → Int → Int → Int → Option (Nat)
 | 0,_,_,_,_,_,_=>none
 | k + 1,x3,x4,x5,x6,x7,x8=>if x5 < 9007199254740992 then (if x8 ≥ 0 then (if 0 ≤ (IntKind.u64.wrap (x8)) then (quarryref31_Root.j2 k x3 x4 x5 x6 x7 x8 (Int.tmod (shr .u64 x3 (IntKind.u64.wrap (x8))) 4)) else (none)) else (quarryref31_Root.j2 k x3 x4 x5 x6 x7 x8 0)) else ((quarryref13_Made.f k (IntKind.u64.wrap ((IntKind.u64.wrap (Int.tdiv x5 2)) + (Int.tmod x5 2))) (wrap64 ((wrap64 ((wrap64 (Int.tdiv x4 2)) - x7)) + 1))).bind fun t160=>(some t160))
def quarryref31_Root.j2 : Nat → Int → Int → Int → Int → Int → Int → Int → Option (Nat)
 | 0,_,_,_,_,_,_,_=>none
 | k + 1,x3,x4,x5,x6,x7,x8,x9=>if (IntKind.u64.wrap ((IntKind.u64.wrap (4 * x6)) + x9)) ≥ (IntKind.u64.wrap ((IntKind.u64.wrap (4 * x5)) + 1)) then (if x8 < 0 then (quarryref31_Root.l1 k x3 x4 (IntKind.u64.wrap ((IntKind.u64.wrap (2 * x5)) + 1)) (IntKind.u64.wrap ((IntKind.u64.wrap ((IntKind.u64.wrap (4 * x6)) + x9)) - (IntKind.u64.wrap ((IntKind.u64.wrap (4 * x5)) + 1)))) (wrap64 (x7 + 1)) (wrap64 (x8 - 2))) else (quarryref31_Root.l1 k x3 x4 (IntKind.u64.wrap ((IntKind.u64.wrap (2 * x5)) + 1)) (IntKind.u64.wrap ((IntKind.u64.wrap ((IntKind.u64.wrap (4 * x6)) + x9)) - (IntKind.u64.wrap ((IntKind.u64.wrap (4 * x5)) + 1)))) x7 (wrap64 (x8 - 2)))) else (if x8 < 0 then (quarryref31_Root.l1 k x3 x4 (IntKind.u64.wrap (2 * x5)) (IntKind.u64.wrap ((IntKind.u64.wrap (4 * x6)) + x9)) (wrap64 (x7 + 1)) (wrap64 (x8 - 2))) else (quarryref31_Root.l1 k x3 x4 (IntKind.u64.wrap (2 * x5)) (IntKind.u64.wrap ((IntKind.u64.wrap (4 * x6)) + x9)) x7 (wrap64 (x8 - 2))))
end
def quarryref31_Root.f (k : Nat) (a0 : Nat) : Option (Nat):=if (FloatKind.f64.format.order a0 0 == some .eq) = true then (some 0) else ((quarryref13_Long.f).bind fun bt154=>((quarryref13_Number.f k a0).bind fun t157=>((quarryref13_At.f bt154.1 bt154.2.1 bt154.2.2 t157).bind fun bt158=>(quarryref31_Root.l0 k bt158.1 bt158.2))))
set_option maxHeartbeats 8000000 in
set_option maxRecDepth 100000 in
theorem quarryref31_Root.calls (k : Nat) (a0 : Nat) (r : Nat) (w : World) (h : quarryref31_Root.f k a0 = some r) :
  Calls Try.prog 50 #[.float .f64 a0] w fun e w'=>e = .returned (.float .f64 r) ∧ Below w.heap.size w w':=by
 have HB:=Aside0.mk (Below.refl w.heap.size w)
 have H : (if (FloatKind.f64.format.order a0 0 == some .eq) = true then (some 0) else ((quarryref13_Long.f).bind fun bt154=>((quarryref13_Number.f k a0).bind fun t157=>((quarryref13_At.f bt154.1 bt154.2.1 bt154.2.2 t157).bind fun bt158=>(quarryref31_Root.l0 k bt158.1 bt158.2))))) = some r:=h
 clear h
 by_cases c2 : (FloatKind.f64.format.order a0 0 == some .eq) = true
 ·rw [if_pos c2] at H
  have c2b0 : (FloatKind.f64.format.order a0 0 == some .eq) = true:=c2
  (try (have c2b1 : decide (FloatKind.f64.format.order a0 0 = some .eq) = true:=by simpa using c2))
  (try (have c2b2 : (FloatKind.f64.format.order a0 0 == some .eq) = true:=by simpa using c2))
  clear c2
  obtain rfl:=Option.some.inj H
  go_enter Try.func50,Try.ntmps50
  go_wp2
  go_ret
  exact ⟨er_,(hb_ HB)⟩
 ·rw [if_neg c2] at H
  have c2b0 : (FloatKind.f64.format.order a0 0 == some .eq) = false:=by simpa using c2
  (try (have c2b1 : decide (FloatKind.f64.format.order a0 0 = some .eq) = false:=by simpa using c2))
  (try (have c2b2 : (FloatKind.f64.format.order a0 0 == some .eq) = false:=by simpa using c2))
  (try (have c2b3 : ¬ (FloatKind.f64.format.order a0 0 = some .eq):=by simpa using c2))
  clear c2
  replace H:=Option.bind_eq_some_iff.mp H
  obtain ⟨⟨t154,t155,t156⟩,A30,H⟩:=H
  replace H : ((quarryref13_Number.f k a0).bind fun t157=>((quarryref13_At.f t154 t155 t156 t157).bind fun bt158=>(quarryref31_Root.l0 k bt158.1 bt158.2))) = some r:=H
  have A3:=Aside0.mk A30
  clear A30
  replace H:=Option.bind_eq_some_iff.mp H
  obtain ⟨t157,A40,H⟩:=H
  replace H : ((quarryref13_At.f t154 t155 t156 t157).bind fun bt158=>(quarryref31_Root.l0 k bt158.1 bt158.2)) = some r:=H
  have A4:=Aside0.mk A40
  clear A40
  replace H:=Option.bind_eq_some_iff.mp H
  obtain ⟨⟨t158,t159⟩,A50,H⟩:=H
  replace H : (quarryref31_Root.l0 k t158 t159) = some r:=H
  have A5:=Aside0.mk A50
  clear A50
  have H':=Aside0.mk H
  clear H
  go_enter Try.func50,Try.ntmps50
  go_wp2_with (first|((with_reducible refine gate_callee (f:=75) rfl ?_);refine goesL_ (some 14) rfl rfl Try.func75 (by kernel_rfl) rfl #[] rfl am_ ?_;(with_reducible refine (quarryref13_Long.calls  t154 t155 t156 _ A3.out).mono ?_);rintro e w6 ⟨rfl,hb⟩;refine ⟨_,rfl,?_⟩;have n0_:=Aside0.mk (below_step (hb_ HB) hb);clear HB;have HB:=n0_;clear n0_;(try clear hb);(try clear hb2);(try clear hk);(try clear hi))|((with_reducible refine gate_callee (f:=76) rfl ?_);refine goesL_ (some 16) rfl rfl Try.func76 (by kernel_rfl) rfl #[.float .f64 a0] rfl am_ ?_;(with_reducible refine (quarryref13_Number.calls k a0 t157 _ A4.out).mono ?_);rintro e w7 ⟨rfl,hb⟩;refine ⟨_,rfl,?_⟩;have n0_:=Aside0.mk (below_step (hb_ HB) hb);clear HB;have HB:=n0_;clear n0_;(try clear hb);(try clear hb2);(try clear hk);(try clear hi))|((with_reducible refine gate_callee (f:=74) rfl ?_);refine goesL_ (some 17) rfl rfl Try.func74 (by kernel_rfl) rfl #[.agg #[.int .i64 t154,.int .i64 t155,.int .u64 t156],.int .u64 t157] rfl am_ ?_;(with_reducible refine (quarryref13_At.calls t154 t155 t156 t157 t158 t159 _ A5.out).mono ?_);rintro e w8 ⟨rfl,hb⟩;refine ⟨_,rfl,?_⟩;have n0_:=Aside0.mk (below_step (hb_ HB) hb);clear HB;have HB:=n0_;clear n0_;(try clear hb);(try clear hb2);(try clear hk);(try clear hi)))
  go_loopg [3,4] k (fun kq v3 v4 w'=>∃ (x3_1 : Int) (x4_1 : Int),v3 = .int .u64 x3_1 ∧ v4 = .int .i64 x4_1 ∧ Aside0 (quarryref31_Root.l0 kq x3_1 x4_1 = some r) ∧ Aside0 (kq ≤ k) ∧ Aside0 (Below w.heap.size w w'))
  case atStart=>exact ⟨(t158),(t159),rr_,rr_,H',⟨Nat.le_refl _⟩,⟨(hb_ HB)⟩⟩
  case round =>
   clear H'
   try clear HB
   obtain ⟨x3_1,x4_1,rfl,rfl,HA,HK1,HB⟩:=hrel
   cases gk with
   | zero=>exact absurd HA.out (by simp [quarryref31_Root.l0])
   | succ k1 =>
    have H:=HA.out
    clear HA
    simp only [quarryref31_Root.l0] at H
    by_cases c9 : (Int.tmod x4_1 2) = 0
    ·rw [if_pos c9] at H
     have c9b0 : ((Int.tmod x4_1 2) == 0) = true:=beq_iff_eq.mpr c9
     have c9b1 : ((Int.tmod x4_1 2) != 0) = false:=bne_eq_false_iff_eq.mpr c9
     clear c9
     by_cases c10 : x3_1 < 18014398509481984
     ·rw [if_pos c10] at H
      have c10b0 : decide (x3_1 < 18014398509481984) = true:=decide_eq_true c10
      clear c10
      have H':=Aside0.mk H
      clear H
      go_wp2
      go_roundg k1
      case measure=>have:=HK1.out;omega
      case rel=>exact ⟨(IntKind.u64.wrap (2 * x3_1)),(wrap64 (x4_1 - 1)),rr_,rr_,(by first|exact H'|(subst_vars;exact H')),⟨by have:=HK1.out;omega⟩,⟨(hb_ HB)⟩⟩
     ·rw [if_neg c10] at H
      have c10b0 : decide (x3_1 < 18014398509481984) = false:=decide_eq_false c10
      clear c10
      have H':=Aside0.mk H
      clear H
      go_wp2
      go_loopg [5,6,7,8] k1 (fun kq v5 v6 v7 v8 w'=>∃ (x5_2 : Int) (x6_2 : Int) (x7_2 : Int) (x8_2 : Int),v5 = .int .u64 x5_2 ∧ v6 = .int .u64 x6_2 ∧ v7 = .int .i64 x7_2 ∧ v8 = .int .i64 x8_2 ∧ Aside0 (quarryref31_Root.l1 kq x3_1 x4_1 x5_2 x6_2 x7_2 x8_2 = some r) ∧ Aside0 (kq ≤ k1) ∧ Aside0 (Below w.heap.size w w'))
      case atStart=>exact ⟨(0),(0),(0),(62),rr_,rr_,rr_,rr_,H',⟨Nat.le_refl _⟩,⟨(hb_ HB)⟩⟩
      case round =>
       clear H'
       try clear HB
       obtain ⟨x5_2,x6_2,x7_2,x8_2,rfl,rfl,rfl,rfl,HA,HK2,HB⟩:=hrel
       cases gk with
       | zero=>exact absurd HA.out (by simp [quarryref31_Root.l1])
       | succ k2 =>
        have H:=HA.out
        clear HA
        simp only [quarryref31_Root.l1] at H
        by_cases c11 : x5_2 < 9007199254740992
        ·rw [if_pos c11] at H
         have c11b0 : decide (x5_2 < 9007199254740992) = true:=decide_eq_true c11
         clear c11
         have HC12:=Aside0.mk H
         clear H
         go_upto_if 36 with (fail)
         go_cut [9] (fun v9 wc=>∃ (kq : Nat) (x9_11 : Int),v9 = .int .u64 x9_11 ∧ Aside0 (quarryref31_Root.j2 kq x3_1 x4_1 x5_2 x6_2 x7_2 x8_2 x9_11 = some r) ∧ Aside0 (kq ≤ k2) ∧ Aside0 (Below w.heap.size w wc))
         case first =>
          have H:=HC12.out
          clear HC12
          by_cases c13 : x8_2 ≥ 0
          ·rw [if_pos c13] at H
           have c13b0 : decide (0 ≤ x8_2) = true:=decide_eq_true c13
           clear c13
           (first|rw [c13b0]|(simp only [i64_w,i32_w];rw [c13b0])|skip)
           obtain ⟨ji14,hji14⟩ : ∃ j_ : Int,(IntKind.u64.wrap (x8_2)) = j_:=⟨_,rfl⟩
           replace H : (if 0 ≤ (ji14) then (quarryref31_Root.j2 k2 x3_1 x4_1 x5_2 x6_2 x7_2 x8_2 (Int.tmod (shr .u64 x3_1 (ji14)) 4)) else (none)) = some r:=by first|(rw [hji14] at H;exact H)|(simp only [hji14] at H ⊢;exact H)
           by_cases c15 : 0 ≤ (ji14)
           ·rw [if_pos c15] at H
            have c15b0:=eq_true c15
            have c15b1 : decide (0 ≤ (ji14)) = true:=decide_eq_true c15
            clear c15
            obtain ⟨ji16,hji16⟩ : ∃ j_ : Int,(shr .u64 x3_1 (ji14)) = j_:=⟨_,rfl⟩
            replace H : (quarryref31_Root.j2 k2 x3_1 x4_1 x5_2 x6_2 x7_2 x8_2 (Int.tmod (ji16) 4)) = some r:=by first|(rw [hji16] at H;exact H)|(simp only [hji16] at H ⊢;exact H)
            have hji16_ : (x3_1 / 2 ^ min (ji14).toNat 64) = ji16:=hji16
            have hji16z : (ji14) ≤ 64 → (x3_1 / 2 ^ (ji14).toNat) = ji16:=shr_small hji16
            have H':=Aside0.mk H
            clear H
            go_wp2
            go_meet
            case rel=>exact ⟨_,(Int.tmod (ji16) 4),(by first|rfl|(simp;done)|(simp only [← hji16] <;> (first|rfl|simp))|(simp [*];done)),(by first|exact H'|(subst_vars;exact H')),⟨by have:=HK1.out;have:=HK2.out;first|omega|exact Nat.le_refl _⟩,⟨(hb_ HB)⟩⟩
           ·rw [if_neg c15] at H
            exact absurd H (by simp)
          ·rw [if_neg c13] at H
           have c13b0 : decide (0 ≤ x8_2) = false:=decide_eq_false c13
           clear c13
           (first|rw [c13b0]|(simp only [i64_w,i32_w];rw [c13b0])|skip)
           have H':=Aside0.mk H
           clear H
           go_wp2
           go_meet
           case rel=>exact ⟨_,(0),rr_,(by first|exact H'|(subst_vars;exact H')),⟨by have:=HK1.out;have:=HK2.out;first|omega|exact Nat.le_refl _⟩,⟨(hb_ HB)⟩⟩
         case rest =>
          clear HC12
          obtain ⟨kq,x9_11,rfl,HA,HJ11,HB⟩:=hcut
          cases kq with
          | zero=>exact absurd HA.out (by simp [quarryref31_Root.j2])
          | succ kj11 =>
           have H:=HA.out
           clear HA
           simp only [quarryref31_Root.j2] at H
           by_cases c17 : (IntKind.u64.wrap ((IntKind.u64.wrap (4 * x6_2)) + x9_11)) ≥ (IntKind.u64.wrap ((IntKind.u64.wrap (4 * x5_2)) + 1))
           ·rw [if_pos c17] at H
            have c17b0 : decide ((IntKind.u64.wrap ((IntKind.u64.wrap (4 * x5_2)) + 1)) ≤ (IntKind.u64.wrap ((IntKind.u64.wrap (4 * x6_2)) + x9_11))) = true:=decide_eq_true c17
            clear c17
            by_cases c18 : x8_2 < 0
            ·rw [if_pos c18] at H
             have c18b0 : decide (x8_2 < 0) = true:=decide_eq_true c18
             clear c18
             have H':=Aside0.mk H
             clear H
             go_wp2
             go_roundg kj11
             case measure=>have:=HK1.out;have:=HK2.out;have:=HJ11.out;omega
             case rel=>exact ⟨(IntKind.u64.wrap ((IntKind.u64.wrap (2 * x5_2)) + 1)),(IntKind.u64.wrap ((IntKind.u64.wrap ((IntKind.u64.wrap (4 * x6_2)) + x9_11)) - (IntKind.u64.wrap ((IntKind.u64.wrap (4 * x5_2)) + 1)))),(wrap64 (x7_2 + 1)),(wrap64 (x8_2 - 2)),rr_,rr_,rr_,rr_,(by first|exact H'|(subst_vars;exact H')),⟨by have:=HK1.out;have:=HK2.out;have:=HJ11.out;omega⟩,⟨(hb_ HB)⟩⟩
            ·rw [if_neg c18] at H
             have c18b0 : decide (x8_2 < 0) = false:=decide_eq_false c18
             clear c18
             have H':=Aside0.mk H
             clear H
             go_wp2
             go_roundg kj11
             case measure=>have:=HK1.out;have:=HK2.out;have:=HJ11.out;omega
             case rel=>exact ⟨(IntKind.u64.wrap ((IntKind.u64.wrap (2 * x5_2)) + 1)),(IntKind.u64.wrap ((IntKind.u64.wrap ((IntKind.u64.wrap (4 * x6_2)) + x9_11)) - (IntKind.u64.wrap ((IntKind.u64.wrap (4 * x5_2)) + 1)))),(x7_2),(wrap64 (x8_2 - 2)),rr_,rr_,rr_,rr_,(by first|exact H'|(subst_vars;exact H')),⟨by have:=HK1.out;have:=HK2.out;have:=HJ11.out;omega⟩,⟨(hb_ HB)⟩⟩
           ·rw [if_neg c17] at H
            have c17b0 : decide ((IntKind.u64.wrap ((IntKind.u64.wrap (4 * x5_2)) + 1)) ≤ (IntKind.u64.wrap ((IntKind.u64.wrap (4 * x6_2)) + x9_11))) = false:=decide_eq_false c17
            clear c17
            by_cases c19 : x8_2 < 0
            ·rw [if_pos c19] at H
             have c19b0 : decide (x8_2 < 0) = true:=decide_eq_true c19
             clear c19
             have H':=Aside0.mk H
             clear H
             go_wp2
             go_roundg kj11
             case measure=>have:=HK1.out;have:=HK2.out;have:=HJ11.out;omega
             case rel=>exact ⟨(IntKind.u64.wrap (2 * x5_2)),(IntKind.u64.wrap ((IntKind.u64.wrap (4 * x6_2)) + x9_11)),(wrap64 (x7_2 + 1)),(wrap64 (x8_2 - 2)),rr_,rr_,rr_,rr_,(by first|exact H'|(subst_vars;exact H')),⟨by have:=HK1.out;have:=HK2.out;have:=HJ11.out;omega⟩,⟨(hb_ HB)⟩⟩
            ·rw [if_neg c19] at H
             have c19b0 : decide (x8_2 < 0) = false:=decide_eq_false c19
             clear c19
             have H':=Aside0.mk H
             clear H
             go_wp2
             go_roundg kj11
             case measure=>have:=HK1.out;have:=HK2.out;have:=HJ11.out;omega
             case rel=>exact ⟨(IntKind.u64.wrap (2 * x5_2)),(IntKind.u64.wrap ((IntKind.u64.wrap (4 * x6_2)) + x9_11)),(x7_2),(wrap64 (x8_2 - 2)),rr_,rr_,rr_,rr_,(by first|exact H'|(subst_vars;exact H')),⟨by have:=HK1.out;have:=HK2.out;have:=HJ11.out;omega⟩,⟨(hb_ HB)⟩⟩
        ·rw [if_neg c11] at H
         have c11b0 : decide (x5_2 < 9007199254740992) = false:=decide_eq_false c11
         clear c11
         replace H:=Option.bind_eq_some_iff.mp H
         obtain ⟨t160,A200,H⟩:=H
         replace H : (some t160) = some r:=H
         have A20:=Aside0.mk A200
         clear A200
         obtain rfl:=Option.some.inj H
         go_wp2_with (first|((with_reducible refine gate_callee (f:=77) rfl ?_);refine goesL_ (some 73) rfl rfl Try.func77 (by kernel_rfl) rfl #[.int .u64 (IntKind.u64.wrap ((IntKind.u64.wrap (Int.tdiv x5_2 2)) + (Int.tmod x5_2 2))),.int .i64 (wrap64 ((wrap64 ((wrap64 (Int.tdiv x4_1 2)) - x7_2)) + 1))] rfl am_ ?_;(with_reducible refine (quarryref13_Made.calls k2 (IntKind.u64.wrap ((IntKind.u64.wrap (Int.tdiv x5_2 2)) + (Int.tmod x5_2 2))) (wrap64 ((wrap64 ((wrap64 (Int.tdiv x4_1 2)) - x7_2)) + 1)) t160 _ A20.out).mono ?_);rintro e w' ⟨rfl,⟨nd,rfl⟩⟩;refine ⟨_,rfl,?_⟩))
         go_ret
         exact ⟨er_,(hb_ HB)⟩
    ·rw [if_neg c9] at H
     have c9b0 : ((Int.tmod x4_1 2) == 0) = false:=beq_eq_false_iff_ne.mpr c9
     have c9b1 : ((Int.tmod x4_1 2) != 0) = true:=bne_iff_ne.mpr c9
     have H':=Aside0.mk H
     clear H
     go_wp2
     go_roundg k1
     case measure=>have:=HK1.out;omega
     case rel=>exact ⟨(IntKind.u64.wrap (2 * x3_1)),(wrap64 (x4_1 - 1)),rr_,rr_,(by first|exact H'|(subst_vars;exact H')),⟨by have:=HK1.out;omega⟩,⟨(hb_ HB)⟩⟩
def quarryref31_Spread.f (k : Nat) (a0_0 : Int) (a0_1 : Nat) (a0_2 : Nat) (a0_3 : Nat) (a0_4 : Nat) (a0_5 : Nat) (a0_6 : Nat) : Option (Nat × Int):=(quarryref31_Formed.f k a0_0 a0_1 a0_2 a0_3 a0_4 a0_5 a0_6).bind fun t162=>(if t162 = true then (if a0_0 = 0 then (some (0,0)) else (if fok .quo a0_6 (floatOfInt .f64 a0_0) = true then ((quarryref31_Root.f k (fop .quo a0_6 (floatOfInt .f64 a0_0))).bind fun t163=>(some (t163,0))) else (none))) else (some (0,1)))
set_option maxHeartbeats 8000000 in
set_option maxRecDepth 100000 in
theorem quarryref31_Spread.calls (k : Nat) (a0_0 : Int) (a0_1 : Nat) (a0_2 : Nat) (a0_3 : Nat) (a0_4 : Nat) (a0_5 : Nat) (a0_6 : Nat) (r1 : Nat) (r2 : Int) (w : World) (h : quarryref31_Spread.f k a0_0 a0_1 a0_2 a0_3 a0_4 a0_5 a0_6 = some (r1,r2)) :
  Calls Try.prog 21 #[.agg #[.int .i64 a0_0,.float .f64 a0_1,.float .f64 a0_2,.float .f64 a0_3,.float .f64 a0_4,.float .f64 a0_5,.float .f64 a0_6]] w fun e w'=>e = .returned (.tuple #[.float .f64 r1,.int .i64 r2]) ∧ Below w.heap.size w w':=by
 have hu26:=Try.underlying26
 have HB:=Aside0.mk (Below.refl w.heap.size w)
 have H : ((quarryref31_Formed.f k a0_0 a0_1 a0_2 a0_3 a0_4 a0_5 a0_6).bind fun t162=>(if t162 = true then (if a0_0 = 0 then (some (0,0)) else (if fok .quo a0_6 (floatOfInt .f64 a0_0) = true then ((quarryref31_Root.f k (fop .quo a0_6 (floatOfInt .f64 a0_0))).bind fun t163=>(some (t163,0))) else (none))) else (some (0,1)))) = some (r1,r2):=h
 clear h
 replace H:=Option.bind_eq_some_iff.mp H
 obtain ⟨t162,A20,H⟩:=H
 replace H : (if t162 = true then (if a0_0 = 0 then (some (0,0)) else (if fok .quo a0_6 (floatOfInt .f64 a0_0) = true then ((quarryref31_Root.f k (fop .quo a0_6 (floatOfInt .f64 a0_0))).bind fun t163=>(some (t163,0))) else (none))) else (some (0,1))) = some (r1,r2):=H
 have A2:=Aside0.mk A20
 clear A20
 by_cases c3 : t162 = true
 ·subst c3
  have H1 : (if a0_0 = 0 then (some (0,0)) else (if fok .quo a0_6 (floatOfInt .f64 a0_0) = true then ((quarryref31_Root.f k (fop .quo a0_6 (floatOfInt .f64 a0_0))).bind fun t163=>(some (t163,0))) else (none))) = some (r1,r2):=by rw [if_pos rfl] at H;exact H
  clear H
  have H:=H1
  clear H1
  by_cases c4 : a0_0 = 0
  ·rw [if_pos c4] at H
   have c4b0 : (a0_0 == 0) = true:=beq_iff_eq.mpr c4
   have c4b1 : (a0_0 != 0) = false:=bne_eq_false_iff_eq.mpr c4
   clear c4
   simp only [Option.some.injEq,Prod.mk.injEq] at H
   obtain ⟨rfl,rfl⟩:=H
   go_enter Try.func21,Try.ntmps21
   go_wp2_with (first|((with_reducible refine gate_dst (N:=1) rfl ?_);refine box_event ?hg (N:=1) ?hd (cs:=#[.int .i64 a0_0,.float .f64 a0_1,.float .f64 a0_2,.float .f64 a0_3,.float .f64 a0_4,.float .f64 a0_5,.float .f64 a0_6]) (t:=26) ?hr ?_;(case hd=>rfl);(case hg=>rfl);(case hr=>first|(go_simp;done)|(go_simp;rfl));intro gb161 hg w5 hbox hb;have n_:=J_ (below_step (hb_ HB) hb) (J_ (hbox) (J_ (bs_ hg HB) (Aside0.mk (bs_ hg HB))));clear HB;obtain ⟨HB,BK161,GW161,GE161⟩:=n_;clear hb hbox hg;obtain ⟨hcz6_0,hcz6_1,hcz6_2,hcz6_3,hcz6_4,hcz6_5,hcz6_6,hfz6_0,hfz6_1,hfz6_2,hfz6_3,hfz6_4,hfz6_5,hfz6_6⟩:=cf7_ BK161)|((with_reducible refine gate_callee (f:=46) rfl ?_);refine goesL_ (some 5) rfl rfl Try.func46 (by kernel_rfl) rfl #[.agg #[.int .i64 a0_0,.float .f64 a0_1,.float .f64 a0_2,.float .f64 a0_3,.float .f64 a0_4,.float .f64 a0_5,.float .f64 a0_6]] rfl am_ ?_;(with_reducible refine (quarryref31_Formed.calls k a0_0 a0_1 a0_2 a0_3 a0_4 a0_5 a0_6 true _ A2.out).mono ?_);rintro e w7 ⟨rfl,hb⟩;refine ⟨_,rfl,?_⟩;have n_:=J_ (bkb_ BK161 hb) (Aside0.mk (below_step (hb_ HB) hb));clear BK161 HB;obtain ⟨BK161,HB⟩:=n_;(try clear hb);(try clear hb2);(try clear hk);(try clear hi);obtain ⟨hcz8_0,hcz8_1,hcz8_2,hcz8_3,hcz8_4,hcz8_5,hcz8_6,hfz8_0,hfz8_1,hfz8_2,hfz8_3,hfz8_4,hfz8_5,hfz8_6⟩:=cf7_ BK161))
   go_ret2
   exact ⟨er_,(hb_ HB)⟩
  ·rw [if_neg c4] at H
   have c4b0 : (a0_0 == 0) = false:=beq_eq_false_iff_ne.mpr c4
   have c4b1 : (a0_0 != 0) = true:=bne_iff_ne.mpr c4
   by_cases c9 : fok .quo a0_6 (floatOfInt .f64 a0_0) = true
   ·rw [if_pos c9] at H
    have c9b0:=eq_true c9
    have c9b1 : decide (fok .quo a0_6 (floatOfInt .f64 a0_0) = true) = true:=decide_eq_true c9
    clear c9
    replace H:=Option.bind_eq_some_iff.mp H
    obtain ⟨t163,A100,H⟩:=H
    replace H : (some (t163,0)) = some (r1,r2):=H
    have A10:=Aside0.mk A100
    clear A100
    simp only [Option.some.injEq,Prod.mk.injEq] at H
    obtain ⟨rfl,rfl⟩:=H
    go_enter Try.func21,Try.ntmps21
    go_wp2_with (first|((with_reducible refine gate_dst (N:=1) rfl ?_);refine box_event ?hg (N:=1) ?hd (cs:=#[.int .i64 a0_0,.float .f64 a0_1,.float .f64 a0_2,.float .f64 a0_3,.float .f64 a0_4,.float .f64 a0_5,.float .f64 a0_6]) (t:=26) ?hr ?_;(case hd=>rfl);(case hg=>rfl);(case hr=>first|(go_simp;done)|(go_simp;rfl));intro gb161 hg w11 hbox hb;have n_:=J_ (below_step (hb_ HB) hb) (J_ (hbox) (J_ (bs_ hg HB) (Aside0.mk (bs_ hg HB))));clear HB;obtain ⟨HB,BK161,GW161,GE161⟩:=n_;clear hb hbox hg;obtain ⟨hcz12_0,hcz12_1,hcz12_2,hcz12_3,hcz12_4,hcz12_5,hcz12_6,hfz12_0,hfz12_1,hfz12_2,hfz12_3,hfz12_4,hfz12_5,hfz12_6⟩:=cf7_ BK161)|((with_reducible refine gate_callee (f:=46) rfl ?_);refine goesL_ (some 5) rfl rfl Try.func46 (by kernel_rfl) rfl #[.agg #[.int .i64 a0_0,.float .f64 a0_1,.float .f64 a0_2,.float .f64 a0_3,.float .f64 a0_4,.float .f64 a0_5,.float .f64 a0_6]] rfl am_ ?_;(with_reducible refine (quarryref31_Formed.calls k a0_0 a0_1 a0_2 a0_3 a0_4 a0_5 a0_6 true _ A2.out).mono ?_);rintro e w13 ⟨rfl,hb⟩;refine ⟨_,rfl,?_⟩;have n_:=J_ (bkb_ BK161 hb) (Aside0.mk (below_step (hb_ HB) hb));clear BK161 HB;obtain ⟨BK161,HB⟩:=n_;(try clear hb);(try clear hb2);(try clear hk);(try clear hi);obtain ⟨hcz14_0,hcz14_1,hcz14_2,hcz14_3,hcz14_4,hcz14_5,hcz14_6,hfz14_0,hfz14_1,hfz14_2,hfz14_3,hfz14_4,hfz14_5,hfz14_6⟩:=cf7_ BK161)|((with_reducible refine gate_callee (f:=50) rfl ?_);refine goesL_ (some 16) rfl rfl Try.func50 (by kernel_rfl) rfl #[.float .f64 (fop .quo a0_6 (floatOfInt .f64 a0_0))] rfl am_ ?_;(with_reducible refine (quarryref31_Root.calls k (fop .quo a0_6 (floatOfInt .f64 a0_0)) t163 _ A10.out).mono ?_);rintro e w15 ⟨rfl,hb⟩;refine ⟨_,rfl,?_⟩;have n_:=J_ (bkb_ BK161 hb) (Aside0.mk (below_step (hb_ HB) hb));clear BK161 HB;obtain ⟨BK161,HB⟩:=n_;(try clear hb);(try clear hb2);(try clear hk);(try clear hi)))
    go_ret2
    exact ⟨er_,(hb_ HB)⟩
   ·rw [if_neg c9] at H
    exact absurd H (by simp)
 ·replace c3:=Bool.eq_false_iff.mpr c3
  subst c3
  have H1 : (some (0,1)) = some (r1,r2):=by rw [if_neg (show ¬ (false = true) by decide)] at H;exact H
  clear H
  have H:=H1
  clear H1
  simp only [Option.some.injEq,Prod.mk.injEq] at H
  obtain ⟨rfl,rfl⟩:=H
  go_enter Try.func21,Try.ntmps21
  go_wp2_with (first|((with_reducible refine gate_dst (N:=1) rfl ?_);refine box_event ?hg (N:=1) ?hd (cs:=#[.int .i64 a0_0,.float .f64 a0_1,.float .f64 a0_2,.float .f64 a0_3,.float .f64 a0_4,.float .f64 a0_5,.float .f64 a0_6]) (t:=26) ?hr ?_;(case hd=>rfl);(case hg=>rfl);(case hr=>first|(go_simp;done)|(go_simp;rfl));intro gb161 hg w16 hbox hb;have n_:=J_ (below_step (hb_ HB) hb) (J_ (hbox) (J_ (bs_ hg HB) (Aside0.mk (bs_ hg HB))));clear HB;obtain ⟨HB,BK161,GW161,GE161⟩:=n_;clear hb hbox hg;obtain ⟨hcz17_0,hcz17_1,hcz17_2,hcz17_3,hcz17_4,hcz17_5,hcz17_6,hfz17_0,hfz17_1,hfz17_2,hfz17_3,hfz17_4,hfz17_5,hfz17_6⟩:=cf7_ BK161)|((with_reducible refine gate_callee (f:=46) rfl ?_);refine goesL_ (some 5) rfl rfl Try.func46 (by kernel_rfl) rfl #[.agg #[.int .i64 a0_0,.float .f64 a0_1,.float .f64 a0_2,.float .f64 a0_3,.float .f64 a0_4,.float .f64 a0_5,.float .f64 a0_6]] rfl am_ ?_;(with_reducible refine (quarryref31_Formed.calls k a0_0 a0_1 a0_2 a0_3 a0_4 a0_5 a0_6 false _ A2.out).mono ?_);rintro e w18 ⟨rfl,hb⟩;refine ⟨_,rfl,?_⟩;have n_:=J_ (bkb_ BK161 hb) (Aside0.mk (below_step (hb_ HB) hb));clear BK161 HB;obtain ⟨BK161,HB⟩:=n_;(try clear hb);(try clear hb2);(try clear hk);(try clear hi)))
  go_ret2
  exact ⟨er_,(hb_ HB)⟩
def quarryref13_Below.f (a0 : Nat) : Option (Bool):=if (FloatKind.f64.format.order a0 0 == some .lt) = true then (some true) else (if (FloatKind.f64.format.order a0 0 == some .eq) = true then (if fok .quo 4607182418800017408 a0 = true then (some (FloatKind.f64.format.order (fop .quo 4607182418800017408 a0) 0 == some .lt)) else (none)) else (some false))
set_option maxHeartbeats 8000000 in
set_option maxRecDepth 100000 in
theorem quarryref13_Below.calls (a0 : Nat) (r : Bool) (w : World) (h : quarryref13_Below.f a0 = some r) :
  Calls Try.prog 51 #[.float .f64 a0] w fun e w'=>e = .returned (.bool r) ∧ Drawn0 w w':=by
 have H : (if (FloatKind.f64.format.order a0 0 == some .lt) = true then (some true) else (if (FloatKind.f64.format.order a0 0 == some .eq) = true then (if fok .quo 4607182418800017408 a0 = true then (some (FloatKind.f64.format.order (fop .quo 4607182418800017408 a0) 0 == some .lt)) else (none)) else (some false))) = some r:=h
 clear h
 by_cases c2 : (FloatKind.f64.format.order a0 0 == some .lt) = true
 ·rw [if_pos c2] at H
  have c2b0 : (FloatKind.f64.format.order a0 0 == some .lt) = true:=c2
  (try (have c2b1 : decide (FloatKind.f64.format.order a0 0 = some .lt) = true:=by simpa using c2))
  (try (have c2b2 : (FloatKind.f64.format.order a0 0 == some .lt) = true:=by simpa using c2))
  clear c2
  obtain rfl:=Option.some.inj H
  go_enter Try.func51,Try.ntmps51
  go_wp2
  go_ret
  exact ⟨by first|rfl|(simp;done)|(simp [*];done),by repeat (first|exact Drawn0.refl _|apply Drawn0.step)⟩
 ·rw [if_neg c2] at H
  have c2b0 : (FloatKind.f64.format.order a0 0 == some .lt) = false:=by simpa using c2
  (try (have c2b1 : decide (FloatKind.f64.format.order a0 0 = some .lt) = false:=by simpa using c2))
  (try (have c2b2 : (FloatKind.f64.format.order a0 0 == some .lt) = false:=by simpa using c2))
  (try (have c2b3 : ¬ (FloatKind.f64.format.order a0 0 = some .lt):=by simpa using c2))
  clear c2
  by_cases c3 : (FloatKind.f64.format.order a0 0 == some .eq) = true
  ·rw [if_pos c3] at H
   have c3b0 : (FloatKind.f64.format.order a0 0 == some .eq) = true:=c3
   (try (have c3b1 : decide (FloatKind.f64.format.order a0 0 = some .eq) = true:=by simpa using c3))
   (try (have c3b2 : (FloatKind.f64.format.order a0 0 == some .eq) = true:=by simpa using c3))
   clear c3
   by_cases c4 : fok .quo 4607182418800017408 a0 = true
   ·rw [if_pos c4] at H
    have c4b0:=eq_true c4
    have c4b1 : decide (fok .quo 4607182418800017408 a0 = true) = true:=decide_eq_true c4
    clear c4
    obtain rfl:=Option.some.inj H
    go_enter Try.func51,Try.ntmps51
    go_wp2
    go_ret
    exact ⟨by first|rfl|(simp;done)|(simp [*];done),by repeat (first|exact Drawn0.refl _|apply Drawn0.step)⟩
   ·rw [if_neg c4] at H
    exact absurd H (by simp)
  ·rw [if_neg c3] at H
   have c3b0 : (FloatKind.f64.format.order a0 0 == some .eq) = false:=by simpa using c3
   (try (have c3b1 : decide (FloatKind.f64.format.order a0 0 = some .eq) = false:=by simpa using c3))
   (try (have c3b2 : (FloatKind.f64.format.order a0 0 == some .eq) = false:=by simpa using c3))
   (try (have c3b3 : ¬ (FloatKind.f64.format.order a0 0 = some .eq):=by simpa using c3))
   clear c3
   obtain rfl:=Option.some.inj H
   go_enter Try.func51,Try.ntmps51
   go_wp2
   go_ret
   exact ⟨by first|rfl|(simp;done)|(simp [*];done),by repeat (first|exact Drawn0.refl _|apply Drawn0.step)⟩
def quarryref13_Same.f (a0 : Nat) (a1 : Nat) : Option (Bool):=if (FloatKind.f64.format.order a0 a1 == some .eq) = true then ((quarryref13_Below.f a0).bind fun t164=>((quarryref13_Below.f a1).bind fun t165=>(if (t164 == t165) = true then (some true) else (if (FloatKind.f64.format.order a0 a0 != some .eq) = true then (some (FloatKind.f64.format.order a1 a1 != some .eq)) else (some false))))) else (if (FloatKind.f64.format.order a0 a0 != some .eq) = true then (some (FloatKind.f64.format.order a1 a1 != some .eq)) else (some false))
set_option maxHeartbeats 8000000 in
set_option maxRecDepth 100000 in
theorem quarryref13_Same.calls (a0 : Nat) (a1 : Nat) (r : Bool) (w : World) (h : quarryref13_Same.f a0 a1 = some r) :
  Calls Try.prog 22 #[.float .f64 a0,.float .f64 a1] w fun e w'=>e = .returned (.bool r) ∧ Drawn0 w w':=by
 have H : (if (FloatKind.f64.format.order a0 a1 == some .eq) = true then ((quarryref13_Below.f a0).bind fun t164=>((quarryref13_Below.f a1).bind fun t165=>(if (t164 == t165) = true then (some true) else (if (FloatKind.f64.format.order a0 a0 != some .eq) = true then (some (FloatKind.f64.format.order a1 a1 != some .eq)) else (some false))))) else (if (FloatKind.f64.format.order a0 a0 != some .eq) = true then (some (FloatKind.f64.format.order a1 a1 != some .eq)) else (some false))) = some r:=h
 clear h
 by_cases c3 : (FloatKind.f64.format.order a0 a1 == some .eq) = true
 ·rw [if_pos c3] at H
  have c3b0 : (FloatKind.f64.format.order a0 a1 == some .eq) = true:=c3
  (try (have c3b1 : decide (FloatKind.f64.format.order a0 a1 = some .eq) = true:=by simpa using c3))
  (try (have c3b2 : (FloatKind.f64.format.order a0 a1 == some .eq) = true:=by simpa using c3))
  clear c3
  replace H:=Option.bind_eq_some_iff.mp H
  obtain ⟨t164,A40,H⟩:=H
  replace H : ((quarryref13_Below.f a1).bind fun t165=>(if (t164 == t165) = true then (some true) else (if (FloatKind.f64.format.order a0 a0 != some .eq) = true then (some (FloatKind.f64.format.order a1 a1 != some .eq)) else (some false)))) = some r:=H
  have A4:=Aside0.mk A40
  clear A40
  replace H:=Option.bind_eq_some_iff.mp H
  obtain ⟨t165,A50,H⟩:=H
  replace H : (if (t164 == t165) = true then (some true) else (if (FloatKind.f64.format.order a0 a0 != some .eq) = true then (some (FloatKind.f64.format.order a1 a1 != some .eq)) else (some false))) = some r:=H
  have A5:=Aside0.mk A50
  clear A50
  by_cases c6 : (t164 == t165) = true
  ·rw [if_pos c6] at H
   have c6b0 : (t164 == t165) = true:=c6
   (try (have c6b1 : decide (t164 = t165) = true:=by simpa using c6))
   (try (have c6b2 : (t164 == t165) = true:=by simpa using c6))
   clear c6
   obtain rfl:=Option.some.inj H
   go_enter Try.func22,Try.ntmps22
   go_wp2_with (first|(go_at_call 51;(with_reducible refine (quarryref13_Below.calls a0 t164 _ A4.out).mono ?_);rintro e w' ⟨rfl,⟨nd,rfl⟩⟩)|(go_at_call 51;(with_reducible refine (quarryref13_Below.calls a1 t165 _ A5.out).mono ?_);rintro e w' ⟨rfl,⟨nd,rfl⟩⟩))
   go_ret
   exact ⟨by first|rfl|(simp;done)|(simp [*];done),by repeat (first|exact Drawn0.refl _|apply Drawn0.step)⟩
  ·rw [if_neg c6] at H
   have c6b0 : (t164 == t165) = false:=by simpa using c6
   (try (have c6b1 : decide (t164 = t165) = false:=by simpa using c6))
   (try (have c6b2 : (t164 == t165) = false:=by simpa using c6))
   (try (have c6b3 : ¬ (t164 = t165):=by simpa using c6))
   clear c6
   by_cases c7 : (FloatKind.f64.format.order a0 a0 != some .eq) = true
   ·rw [if_pos c7] at H
    have c7b0 : (FloatKind.f64.format.order a0 a0 != some .eq) = true:=c7
    (try (have c7b1 : decide (FloatKind.f64.format.order a0 a0 = some .eq) = false:=by simpa using c7))
    (try (have c7b2 : (FloatKind.f64.format.order a0 a0 == some .eq) = false:=by simpa using c7))
    (try (have c7b3 : ¬ (FloatKind.f64.format.order a0 a0 = some .eq):=by simpa using c7))
    clear c7
    obtain rfl:=Option.some.inj H
    go_enter Try.func22,Try.ntmps22
    go_wp2_with (first|(go_at_call 51;(with_reducible refine (quarryref13_Below.calls a0 t164 _ A4.out).mono ?_);rintro e w' ⟨rfl,⟨nd,rfl⟩⟩)|(go_at_call 51;(with_reducible refine (quarryref13_Below.calls a1 t165 _ A5.out).mono ?_);rintro e w' ⟨rfl,⟨nd,rfl⟩⟩))
    go_ret
    exact ⟨by first|rfl|(simp;done)|(simp [*];done),by repeat (first|exact Drawn0.refl _|apply Drawn0.step)⟩
   ·rw [if_neg c7] at H
    have c7b0 : (FloatKind.f64.format.order a0 a0 != some .eq) = false:=by simpa using c7
    (try (have c7b1 : decide (FloatKind.f64.format.order a0 a0 = some .eq) = true:=by simpa using c7))
    (try (have c7b2 : (FloatKind.f64.format.order a0 a0 == some .eq) = true:=by simpa using c7))
    clear c7
    obtain rfl:=Option.some.inj H
    go_enter Try.func22,Try.ntmps22
    go_wp2_with (first|(go_at_call 51;(with_reducible refine (quarryref13_Below.calls a0 t164 _ A4.out).mono ?_);rintro e w' ⟨rfl,⟨nd,rfl⟩⟩)|(go_at_call 51;(with_reducible refine (quarryref13_Below.calls a1 t165 _ A5.out).mono ?_);rintro e w' ⟨rfl,⟨nd,rfl⟩⟩))
    go_ret
    exact ⟨by first|rfl|(simp;done)|(simp [*];done),by repeat (first|exact Drawn0.refl _|apply Drawn0.step)⟩
 ·rw [if_neg c3] at H
  have c3b0 : (FloatKind.f64.format.order a0 a1 == some .eq) = false:=by simpa using c3
  (try (have c3b1 : decide (FloatKind.f64.format.order a0 a1 = some .eq) = false:=by simpa using c3))
  (try (have c3b2 : (FloatKind.f64.format.order a0 a1 == some .eq) = false:=by simpa using c3))
  (try (have c3b3 : ¬ (FloatKind.f64.format.order a0 a1 = some .eq):=by simpa using c3))
  clear c3
  by_cases c8 : (FloatKind.f64.format.order a0 a0 != some .eq) = true
  ·rw [if_pos c8] at H
   have c8b0 : (FloatKind.f64.format.order a0 a0 != some .eq) = true:=c8
   (try (have c8b1 : decide (FloatKind.f64.format.order a0 a0 = some .eq) = false:=by simpa using c8))
   (try (have c8b2 : (FloatKind.f64.format.order a0 a0 == some .eq) = false:=by simpa using c8))
   (try (have c8b3 : ¬ (FloatKind.f64.format.order a0 a0 = some .eq):=by simpa using c8))
   clear c8
   obtain rfl:=Option.some.inj H
   go_enter Try.func22,Try.ntmps22
   go_wp2
   go_ret
   exact ⟨by first|rfl|(simp;done)|(simp [*];done),by repeat (first|exact Drawn0.refl _|apply Drawn0.step)⟩
  ·rw [if_neg c8] at H
   have c8b0 : (FloatKind.f64.format.order a0 a0 != some .eq) = false:=by simpa using c8
   (try (have c8b1 : decide (FloatKind.f64.format.order a0 a0 = some .eq) = true:=by simpa using c8))
   (try (have c8b2 : (FloatKind.f64.format.order a0 a0 == some .eq) = true:=by simpa using c8))
   clear c8
   obtain rfl:=Option.some.inj H
   go_enter Try.func22,Try.ntmps22
   go_wp2
   go_ret
   exact ⟨by first|rfl|(simp;done)|(simp [*];done),by repeat (first|exact Drawn0.refl _|apply Drawn0.step)⟩
def quarrylaw31_TallySpreads.f (k : Nat) (a0_0 : Int) (a0_1 : Nat) (a0_2 : Nat) (a0_3 : Nat) (a0_4 : Nat) (a0_5 : Nat) (a0_6 : Nat) : Option (Bool):=(tally_Spread.f k a0_0 a0_1 a0_2 a0_3 a0_4 a0_5 a0_6).bind fun bt167=>((quarryref31_Spread.f k a0_0 a0_1 a0_2 a0_3 a0_4 a0_5 a0_6).bind fun bt169=>(if bt167.2 = bt169.2 then ((quarryref13_Same.f bt167.1 bt169.1).bind fun t171=>(if t171 = true then ((quarrylaw31_awake.f).bind fun t172=>(some t172)) else (some false))) else (some false)))
set_option maxHeartbeats 8000000 in
set_option maxRecDepth 100000 in
theorem quarrylaw31_TallySpreads.calls (k : Nat) (a0_0 : Int) (a0_1 : Nat) (a0_2 : Nat) (a0_3 : Nat) (a0_4 : Nat) (a0_5 : Nat) (a0_6 : Nat) (r : Bool) (w : World) (h : quarrylaw31_TallySpreads.f k a0_0 a0_1 a0_2 a0_3 a0_4 a0_5 a0_6 = some r) :
  Calls Try.prog 5 #[.agg #[.int .i64 a0_0,.float .f64 a0_1,.float .f64 a0_2,.float .f64 a0_3,.float .f64 a0_4,.float .f64 a0_5,.float .f64 a0_6]] w fun e w'=>e = .returned (.bool r) ∧ Below w.heap.size w w':=by
 have hu26:=Try.underlying26
 have HB:=Aside0.mk (Below.refl w.heap.size w)
 have H : ((tally_Spread.f k a0_0 a0_1 a0_2 a0_3 a0_4 a0_5 a0_6).bind fun bt167=>((quarryref31_Spread.f k a0_0 a0_1 a0_2 a0_3 a0_4 a0_5 a0_6).bind fun bt169=>(if bt167.2 = bt169.2 then ((quarryref13_Same.f bt167.1 bt169.1).bind fun t171=>(if t171 = true then ((quarrylaw31_awake.f).bind fun t172=>(some t172)) else (some false))) else (some false)))) = some r:=h
 clear h
 replace H:=Option.bind_eq_some_iff.mp H
 obtain ⟨⟨t167,t168⟩,A20,H⟩:=H
 replace H : ((quarryref31_Spread.f k a0_0 a0_1 a0_2 a0_3 a0_4 a0_5 a0_6).bind fun bt169=>(if t168 = bt169.2 then ((quarryref13_Same.f t167 bt169.1).bind fun t171=>(if t171 = true then ((quarrylaw31_awake.f).bind fun t172=>(some t172)) else (some false))) else (some false))) = some r:=H
 have A2:=Aside0.mk A20
 clear A20
 replace H:=Option.bind_eq_some_iff.mp H
 obtain ⟨⟨t169,t170⟩,A30,H⟩:=H
 replace H : (if t168 = t170 then ((quarryref13_Same.f t167 t169).bind fun t171=>(if t171 = true then ((quarrylaw31_awake.f).bind fun t172=>(some t172)) else (some false))) else (some false)) = some r:=H
 have A3:=Aside0.mk A30
 clear A30
 by_cases c4 : t168 = t170
 ·rw [if_pos c4] at H
  have c4b0 : (t168 == t170) = true:=beq_iff_eq.mpr c4
  have c4b1 : (t168 != t170) = false:=bne_eq_false_iff_eq.mpr c4
  clear c4
  replace H:=Option.bind_eq_some_iff.mp H
  obtain ⟨t171,A50,H⟩:=H
  replace H : (if t171 = true then ((quarrylaw31_awake.f).bind fun t172=>(some t172)) else (some false)) = some r:=H
  have A5:=Aside0.mk A50
  clear A50
  by_cases c6 : t171 = true
  ·subst c6
   have H1 : ((quarrylaw31_awake.f).bind fun t172=>(some t172)) = some r:=by rw [if_pos rfl] at H;exact H
   clear H
   have H:=H1
   clear H1
   replace H:=Option.bind_eq_some_iff.mp H
   obtain ⟨t172,A70,H⟩:=H
   replace H : (some t172) = some r:=H
   have A7:=Aside0.mk A70
   clear A70
   obtain rfl:=Option.some.inj H
   go_enter Try.func5,Try.ntmps5
   go_wp2_with (first|((with_reducible refine gate_dst (N:=1) rfl ?_);refine box_event ?hg (N:=1) ?hd (cs:=#[.int .i64 a0_0,.float .f64 a0_1,.float .f64 a0_2,.float .f64 a0_3,.float .f64 a0_4,.float .f64 a0_5,.float .f64 a0_6]) (t:=26) ?hr ?_;(case hd=>rfl);(case hg=>rfl);(case hr=>first|(go_simp;done)|(go_simp;rfl));intro gb166 hg w8 hbox hb;have n_:=J_ (below_step (hb_ HB) hb) (J_ (hbox) (J_ (bs_ hg HB) (Aside0.mk (bs_ hg HB))));clear HB;obtain ⟨HB,BK166,GW166,GE166⟩:=n_;clear hb hbox hg;obtain ⟨hcz9_0,hcz9_1,hcz9_2,hcz9_3,hcz9_4,hcz9_5,hcz9_6,hfz9_0,hfz9_1,hfz9_2,hfz9_3,hfz9_4,hfz9_5,hfz9_6⟩:=cf7_ BK166)|((with_reducible refine gate_callee (f:=20) rfl ?_);refine goesL_ (some 9) rfl rfl Try.func20 (by kernel_rfl) rfl #[.agg #[.int .i64 a0_0,.float .f64 a0_1,.float .f64 a0_2,.float .f64 a0_3,.float .f64 a0_4,.float .f64 a0_5,.float .f64 a0_6]] rfl am_ ?_;(with_reducible refine (tally_Spread.calls k a0_0 a0_1 a0_2 a0_3 a0_4 a0_5 a0_6 t167 t168 _ A2.out).mono ?_);rintro e w10 ⟨rfl,hb⟩;refine ⟨_,rfl,?_⟩;have n_:=J_ (bkb_ BK166 hb) (Aside0.mk (below_step (hb_ HB) hb));clear BK166 HB;obtain ⟨BK166,HB⟩:=n_;(try clear hb);(try clear hb2);(try clear hk);(try clear hi);obtain ⟨hcz11_0,hcz11_1,hcz11_2,hcz11_3,hcz11_4,hcz11_5,hcz11_6,hfz11_0,hfz11_1,hfz11_2,hfz11_3,hfz11_4,hfz11_5,hfz11_6⟩:=cf7_ BK166)|((with_reducible refine gate_callee (f:=21) rfl ?_);refine goesL_ (some 14) rfl rfl Try.func21 (by kernel_rfl) rfl #[.agg #[.int .i64 a0_0,.float .f64 a0_1,.float .f64 a0_2,.float .f64 a0_3,.float .f64 a0_4,.float .f64 a0_5,.float .f64 a0_6]] rfl am_ ?_;(with_reducible refine (quarryref31_Spread.calls k a0_0 a0_1 a0_2 a0_3 a0_4 a0_5 a0_6 t169 t170 _ A3.out).mono ?_);rintro e w12 ⟨rfl,hb⟩;refine ⟨_,rfl,?_⟩;have n_:=J_ (bkb_ BK166 hb) (Aside0.mk (below_step (hb_ HB) hb));clear BK166 HB;obtain ⟨BK166,HB⟩:=n_;(try clear hb);(try clear hb2);(try clear hk);(try clear hi))|(go_at_call 22;(with_reducible refine (quarryref13_Same.calls t167 t169 true _ A5.out).mono ?_);rintro e w' ⟨rfl,⟨nd,rfl⟩⟩)|(go_at_call 17;(with_reducible refine (quarrylaw31_awake.calls  t172 _ A7.out).mono ?_);rintro e w13 ⟨rfl,hb⟩;have n_:=J_ (bkb_ BK166 hb) (Aside0.mk (below_step (hb_ HB) hb));clear BK166 HB;obtain ⟨BK166,HB⟩:=n_;(try clear hb);(try clear hb2);(try clear hk);(try clear hi)))
   go_ret
   exact ⟨er_,(hb_ HB)⟩
  ·replace c6:=Bool.eq_false_iff.mpr c6
   subst c6
   have H1 : (some false) = some r:=by rw [if_neg (show ¬ (false = true) by decide)] at H;exact H
   clear H
   have H:=H1
   clear H1
   obtain rfl:=Option.some.inj H
   go_enter Try.func5,Try.ntmps5
   go_wp2_with (first|((with_reducible refine gate_dst (N:=1) rfl ?_);refine box_event ?hg (N:=1) ?hd (cs:=#[.int .i64 a0_0,.float .f64 a0_1,.float .f64 a0_2,.float .f64 a0_3,.float .f64 a0_4,.float .f64 a0_5,.float .f64 a0_6]) (t:=26) ?hr ?_;(case hd=>rfl);(case hg=>rfl);(case hr=>first|(go_simp;done)|(go_simp;rfl));intro gb166 hg w14 hbox hb;have n_:=J_ (below_step (hb_ HB) hb) (J_ (hbox) (J_ (bs_ hg HB) (Aside0.mk (bs_ hg HB))));clear HB;obtain ⟨HB,BK166,GW166,GE166⟩:=n_;clear hb hbox hg;obtain ⟨hcz15_0,hcz15_1,hcz15_2,hcz15_3,hcz15_4,hcz15_5,hcz15_6,hfz15_0,hfz15_1,hfz15_2,hfz15_3,hfz15_4,hfz15_5,hfz15_6⟩:=cf7_ BK166)|((with_reducible refine gate_callee (f:=20) rfl ?_);refine goesL_ (some 9) rfl rfl Try.func20 (by kernel_rfl) rfl #[.agg #[.int .i64 a0_0,.float .f64 a0_1,.float .f64 a0_2,.float .f64 a0_3,.float .f64 a0_4,.float .f64 a0_5,.float .f64 a0_6]] rfl am_ ?_;(with_reducible refine (tally_Spread.calls k a0_0 a0_1 a0_2 a0_3 a0_4 a0_5 a0_6 t167 t168 _ A2.out).mono ?_);rintro e w16 ⟨rfl,hb⟩;refine ⟨_,rfl,?_⟩;have n_:=J_ (bkb_ BK166 hb) (Aside0.mk (below_step (hb_ HB) hb));clear BK166 HB;obtain ⟨BK166,HB⟩:=n_;(try clear hb);(try clear hb2);(try clear hk);(try clear hi);obtain ⟨hcz17_0,hcz17_1,hcz17_2,hcz17_3,hcz17_4,hcz17_5,hcz17_6,hfz17_0,hfz17_1,hfz17_2,hfz17_3,hfz17_4,hfz17_5,hfz17_6⟩:=cf7_ BK166)|((with_reducible refine gate_callee (f:=21) rfl ?_);refine goesL_ (some 14) rfl rfl Try.func21 (by kernel_rfl) rfl #[.agg #[.int .i64 a0_0,.float .f64 a0_1,.float .f64 a0_2,.float .f64 a0_3,.float .f64 a0_4,.float .f64 a0_5,.float .f64 a0_6]] rfl am_ ?_;(with_reducible refine (quarryref31_Spread.calls k a0_0 a0_1 a0_2 a0_3 a0_4 a0_5 a0_6 t169 t170 _ A3.out).mono ?_);rintro e w18 ⟨rfl,hb⟩;refine ⟨_,rfl,?_⟩;have n_:=J_ (bkb_ BK166 hb) (Aside0.mk (below_step (hb_ HB) hb));clear BK166 HB;obtain ⟨BK166,HB⟩:=n_;(try clear hb);(try clear hb2);(try clear hk);(try clear hi))|(go_at_call 22;(with_reducible refine (quarryref13_Same.calls t167 t169 false _ A5.out).mono ?_);rintro e w' ⟨rfl,⟨nd,rfl⟩⟩))
   go_ret
   exact ⟨er_,(hb_ HB)⟩
 ·rw [if_neg c4] at H
  have c4b0 : (t168 == t170) = false:=beq_eq_false_iff_ne.mpr c4
  have c4b1 : (t168 != t170) = true:=bne_iff_ne.mpr c4
  obtain rfl:=Option.some.inj H
  go_enter Try.func5,Try.ntmps5
  go_wp2_with (first|((with_reducible refine gate_dst (N:=1) rfl ?_);refine box_event ?hg (N:=1) ?hd (cs:=#[.int .i64 a0_0,.float .f64 a0_1,.float .f64 a0_2,.float .f64 a0_3,.float .f64 a0_4,.float .f64 a0_5,.float .f64 a0_6]) (t:=26) ?hr ?_;(case hd=>rfl);(case hg=>rfl);(case hr=>first|(go_simp;done)|(go_simp;rfl));intro gb166 hg w19 hbox hb;have n_:=J_ (below_step (hb_ HB) hb) (J_ (hbox) (J_ (bs_ hg HB) (Aside0.mk (bs_ hg HB))));clear HB;obtain ⟨HB,BK166,GW166,GE166⟩:=n_;clear hb hbox hg;obtain ⟨hcz20_0,hcz20_1,hcz20_2,hcz20_3,hcz20_4,hcz20_5,hcz20_6,hfz20_0,hfz20_1,hfz20_2,hfz20_3,hfz20_4,hfz20_5,hfz20_6⟩:=cf7_ BK166)|((with_reducible refine gate_callee (f:=20) rfl ?_);refine goesL_ (some 9) rfl rfl Try.func20 (by kernel_rfl) rfl #[.agg #[.int .i64 a0_0,.float .f64 a0_1,.float .f64 a0_2,.float .f64 a0_3,.float .f64 a0_4,.float .f64 a0_5,.float .f64 a0_6]] rfl am_ ?_;(with_reducible refine (tally_Spread.calls k a0_0 a0_1 a0_2 a0_3 a0_4 a0_5 a0_6 t167 t168 _ A2.out).mono ?_);rintro e w21 ⟨rfl,hb⟩;refine ⟨_,rfl,?_⟩;have n_:=J_ (bkb_ BK166 hb) (Aside0.mk (below_step (hb_ HB) hb));clear BK166 HB;obtain ⟨BK166,HB⟩:=n_;(try clear hb);(try clear hb2);(try clear hk);(try clear hi);obtain ⟨hcz22_0,hcz22_1,hcz22_2,hcz22_3,hcz22_4,hcz22_5,hcz22_6,hfz22_0,hfz22_1,hfz22_2,hfz22_3,hfz22_4,hfz22_5,hfz22_6⟩:=cf7_ BK166)|((with_reducible refine gate_callee (f:=21) rfl ?_);refine goesL_ (some 14) rfl rfl Try.func21 (by kernel_rfl) rfl #[.agg #[.int .i64 a0_0,.float .f64 a0_1,.float .f64 a0_2,.float .f64 a0_3,.float .f64 a0_4,.float .f64 a0_5,.float .f64 a0_6]] rfl am_ ?_;(with_reducible refine (quarryref31_Spread.calls k a0_0 a0_1 a0_2 a0_3 a0_4 a0_5 a0_6 t169 t170 _ A3.out).mono ?_);rintro e w23 ⟨rfl,hb⟩;refine ⟨_,rfl,?_⟩;have n_:=J_ (bkb_ BK166 hb) (Aside0.mk (below_step (hb_ HB) hb));clear BK166 HB;obtain ⟨BK166,HB⟩:=n_;(try clear hb);(try clear hb2);(try clear hk);(try clear hi)))
  go_ret
  exact ⟨er_,(hb_ HB)⟩
end Go.Proofs.Ytijmdmnhbbcahaa.PTallySpreads
