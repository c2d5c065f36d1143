-- Written by shrink.py, a program of this session: what the law needs of the print and its words. Lean checks it.
import Derived.Test.YtppenppagkfigaaDoorZPPointerFindsx0
namespace Go.Proofs.YtppenppagkfigaaDoor.PPointerFinds
open Go.RowKit Go.Proofs.YtppenppagkfigaaDoorW.PrintWords Go.Proofs.YtppenppagkfigaaDoorW.PrintLast Go.Proofs.YtppenppagkfigaaDoorW.PrintMore
attribute [local go_sem] max2_int min2_int max_two min_two max_three min_three max_four min_four
set_option linter.unusedVariables false
set_option linter.unusedSimpArgs false
mutual
def quarryref20_Parse.j0 : Nat → ByteArray → Bool → Option (List ByteArray × Int)
 | 0,_,_=>none
 | k + 1,x0,x13=>if x13 = true then (some (([] : List ByteArray),200)) else (quarryref20_Parse.l0 k x0 ([] : List ByteArray) 0)
def quarryref20_Parse.l0 : Nat → ByteArray → List ByteArray → Int → Option (List ByteArray × Int)
 | 0,_,_,_=>none
 | k + 1,x0,x4,x5=>if x5 < (x0.size : Int) then (if 0 ≤ x5 then (if (bt x0 x5) = 47 then (if x4.length < 8796093022208 then (quarryref20_Parse.l0 k x0 (x4 ++ [(⟨#[]⟩ : ByteArray)]) (wrap64 (x5 + 1))) else (none)) else (if (bt x0 x5) = 126 then (if (wrap64 (x5 + 1)) = (x0.size : Int) then (quarryref20_Parse.j2 k x0 x4 (wrap64 (x5 + 1)) (wrap64 ((x4.length : Int) - 1)) true) else (if 0 ≤ (wrap64 (x5 + 1)) then (if (wrap64 (x5 + 1)) < (x0.size : Int) then (if (bt x0 (wrap64 (x5 + 1))) = 48 then (quarryref20_Parse.j2 k x0 x4 (wrap64 (x5 + 1)) (wrap64 ((x4.length : Int) - 1)) false) else (quarryref20_Parse.j2 k x0 x4 (wrap64 (x5 + 1)) (wrap64 ((x4.length : Int) - 1)) ((bt x0 (wrap64 (x5 + 1))) != 49))) else (none)) else (none))) else (if 0 ≤ (wrap64 ((x4.length : Int) - 1)) then (if (wrap64 ((x4.length : Int) - 1)) < (x4.length : Int) then (if x5 ≤ (wrap64 (x5 + 1)) then (if (wrap64 (x5 + 1)) ≤ (x0.size : Int) then (if (rdOf ByteArray.empty x4 (wrap64 ((x4.length : Int) - 1))).size + (x0.extract (x5 : Int).toNat ((wrap64 (x5 + 1)) : Int).toNat).size ≤ 9223372036854775807 then (quarryref20_Parse.l0 k x0 (x4.set ((wrap64 ((x4.length : Int) - 1)) : Int).toNat ((rdOf ByteArray.empty x4 (wrap64 ((x4.length : Int) - 1))) ++ (x0.extract (x5 : Int).toNat ((wrap64 (x5 + 1)) : Int).toNat))) (wrap64 (x5 + 1))) else (none)) else (none)) else (none)) else (none)) else (none)))) else (none)) else (some (x4,0))
def quarryref20_Parse.j2 : Nat → ByteArray → List ByteArray → Int → Int → Bool → Option (List ByteArray × Int)
 | 0,_,_,_,_,_=>none
 | k + 1,x0,x4,x5,x6,x63=>if x63 = true then (some (([] : List ByteArray),200)) else (if 0 ≤ x5 then (if x5 < (x0.size : Int) then (if (bt x0 x5) = 48 then (if 0 ≤ x6 then (if x6 < (x4.length : Int) then (if (rdOf ByteArray.empty x4 x6).size + 1 ≤ 9223372036854775807 then (quarryref20_Parse.l0 k x0 (x4.set (x6 : Int).toNat ((rdOf ByteArray.empty x4 x6) ++ (⟨#[126]⟩ : ByteArray))) (wrap64 (x5 + 1))) else (none)) else (none)) else (none)) else (if 0 ≤ x6 then (if x6 < (x4.length : Int) then (if (rdOf ByteArray.empty x4 x6).size + 1 ≤ 9223372036854775807 then (quarryref20_Parse.l0 k x0 (x4.set (x6 : Int).toNat ((rdOf ByteArray.empty x4 x6) ++ (⟨#[47]⟩ : ByteArray))) (wrap64 (x5 + 1))) else (none)) else (none)) else (none))) else (none)) else (none))
end
def quarryref20_Parse.f (k : Nat) (a0 : ByteArray) : Option (List ByteArray × Int):=if a0.toList = ([] : List UInt8) then (quarryref20_Parse.j0 k a0 false) else (if 0 < (a0.size : Int) then (quarryref20_Parse.j0 k a0 ((bt a0 0) != 47)) else (none))
def quarryref20_Parse.T9 : Bool × List (List Nat × List Nat):=(true,[([],[]),([],[]),([],[]),([],[]),([2,3],[2,3]),([4],[4]),([],[]),([],[]),([],[]),([8],[8]),([6,7,9],[6,7,9]),([5,10],[5,10]),([0,1,0,1,2,3,4,5,6,7,8,9,10,11],[0,1]),([12,11,0,1,2,3,4,5,6,7,8,9,10,11],[11,12])])
def quarryref20_Parse.B9 : List Nat:=[0,0,0,0,12,28,0,0,0,256,960,2044,4095,8191]
theorem quarryref20_Parse.tab9 : rtab .any (opsOf Tryd.f32 9) = quarryref20_Parse.T9:=by kernel_rfl
theorem quarryref20_Parse.bits9 : waitsOk quarryref20_Parse.T9.2 quarryref20_Parse.B9 = true:=by kernel_rfl
set_option maxHeartbeats 8000000 in
set_option maxRecDepth 100000 in
theorem quarryref20_Parse.calls (k : Nat) (a0 : ByteArray) (r1 : List ByteArray) (r2 : Int) (w : World) (h : quarryref20_Parse.f k a0 = some (r1,r2)) :
  Calls Tryd.prog 32 #[.string a0] w fun e w'=>∃ v0_ : Value,e = .returned (.tuple #[v0_,.int .i64 r2]) ∧ Kd.R Kd.string 9 w' w.heap.size (fun _=>True) v0_ r1 ∧ Below w.heap.size w w':=by
 have HB:=Aside0.mk (Below.refl w.heap.size w)
 have H : (if a0.toList = ([] : List UInt8) then (quarryref20_Parse.j0 k a0 false) else (if 0 < (a0.size : Int) then (quarryref20_Parse.j0 k a0 ((bt a0 0) != 47)) else (none))) = some (r1,r2):=h
 clear h
 have HC2:=Aside0.mk H
 clear H
 go_enter Tryd.func32,Tryd.ntmps32
 go_upto_region 1 with (fail)
 go_cut [13] (fun v13 wc=>∃ (kq : Nat) (x13_1 : Bool),v13 = .bool x13_1 ∧ Aside0 (quarryref20_Parse.j0 kq a0 x13_1 = some (r1,r2)) ∧ Aside0 (kq ≤ k) ∧ Aside0 (Below w.heap.size w wc))
 case first =>
  have H:=HC2.out
  clear HC2
  by_cases c3 : a0.toList = ([] : List UInt8)
  ·rw [if_pos c3] at H
   have c3b0 : (a0.toList == ([] : List UInt8)) = true:=beq_iff_eq.mpr c3
   have c3b1 : (a0.toList != ([] : List UInt8)) = false:=bne_eq_false_iff_eq.mpr c3
   clear c3
   (first|rw [c3b0]|(simp only [i64_w,i32_w];rw [c3b0])|skip)
   have H':=Aside0.mk H
   clear H
   go_wp2
   go_meet
   case rel=>exact ⟨_,(false),rr_,(by first|exact H'|(subst_vars;exact H')),⟨by first|omega|exact Nat.le_refl _⟩,⟨(hb_ HB)⟩⟩
  ·rw [if_neg c3] at H
   have c3b0 : (a0.toList == ([] : List UInt8)) = false:=beq_eq_false_iff_ne.mpr c3
   have c3b1 : (a0.toList != ([] : List UInt8)) = true:=bne_iff_ne.mpr c3
   (first|rw [c3b0]|(simp only [i64_w,i32_w];rw [c3b0])|skip)
   by_cases c4 : 0 < (a0.size : Int)
   ·rw [if_pos c4] at H
    have c4b0 : decide (0 < (a0.size : Int)) = true:=decide_eq_true c4
    have c4b1 : decide (0 < a0.size) = true:=decide_eq_true (by omega)
    clear c4
    have H':=Aside0.mk H
    clear H
    have p5 : 0 ≤ (0 : Int):=(by omega)
    have q5 : 0 < a0.size:=(by have : (0 : Int) < (a0.size : Int):=of_decide_eq_true aa_;omega)
    have hx5 : ∀ h : 0 < a0.size,((a0[0]'h).toNat : Int) = bt a0 0:=bt_at a0 0
    clear p5
    have qi5 : (0 < (a0.size : Int)) = True:=eq_true (of_decide_eq_true aa_)
    replace q5:=eq_true q5
    go_wp2
    go_meet
    case rel=>exact ⟨_,(((bt a0 0) != 47)),rr_,(by first|exact H'|(subst_vars;exact H')),⟨by first|omega|exact Nat.le_refl _⟩,⟨(hb_ HB)⟩⟩
   ·rw [if_neg c4] at H
    exact absurd H (by simp)
 case rest =>
  clear HC2
  obtain ⟨kq,x13_1,rfl,HA,HJ1,HB⟩:=hcut
  cases kq with
  | zero=>exact absurd HA.out (by simp [quarryref20_Parse.j0])
  | succ kj1 =>
   have H:=HA.out
   clear HA
   simp only [quarryref20_Parse.j0] at H
   by_cases c6 : x13_1 = true
   ·subst c6
    have H1 : (some (([] : List ByteArray),200)) = some (r1,r2):=by rw [if_pos rfl] at H;exact H
    clear H
    have H:=H1
    clear H1
    simp only [Option.some.injEq,Prod.mk.injEq] at H
    obtain ⟨rfl,rfl⟩:=H
    go_wp2
    go_ret2
    exact ⟨_,er_,by first|exact Kd.R_nil _ _ _ _ _|exact Kd.N_nil _ _ _ _ _|exact Kd.V_nil _ _ _ _ _|exact Kd.Q_nil _ _ _ _ _|exact Kd.S_nil _ _ _ _ _,(hb_ HB)⟩
   ·replace c6:=Bool.eq_false_iff.mpr c6
    subst c6
    have H1 : (quarryref20_Parse.l0 kj1 a0 ([] : List ByteArray) 0) = some (r1,r2):=by rw [if_neg (show ¬ (false = true) by decide)] at H;exact H
    clear H
    have H:=H1
    clear H1
    have H':=Aside0.mk H
    clear H
    go_wp2
    go_loopg [4,5] kj1 (fun kq v4 v5 w'=>∃ (x4_2 : List ByteArray) (x5_2 : Int),v5 = .int .i64 x5_2 ∧ Aside0 (quarryref20_Parse.l0 kq a0 x4_2 x5_2 = some (r1,r2)) ∧ Aside0 (kq ≤ kj1) ∧ Aside0 (Kd.R Kd.string 9 w' w.heap.size (fun _=>True) v4 x4_2) ∧ Aside0 (Below w.heap.size w w'))
    case atStart=>exact ⟨(([] : List ByteArray)),(0),rr_,H',⟨Nat.le_refl _⟩,⟨by first|exact Kd.R_nil _ _ _ _ _|exact Kd.N_nil _ _ _ _ _|exact Kd.V_nil _ _ _ _ _|exact Kd.Q_nil _ _ _ _ _|exact Kd.S_nil _ _ _ _ _⟩,⟨(hb_ HB)⟩⟩
    case round =>
     clear H'
     try clear HB
     obtain ⟨x4_2,x5_2,rfl,HA,HK2,HO_4,HB⟩:=hrel
     cases gk with
     | zero=>exact absurd HA.out (by simp [quarryref20_Parse.l0])
     | succ k2 =>
      have H:=HA.out
      clear HA
      simp only [quarryref20_Parse.l0] at H
      by_cases c7 : x5_2 < (a0.size : Int)
      ·rw [if_pos c7] at H
       have c7b0 : decide (x5_2 < (a0.size : Int)) = true:=decide_eq_true c7
       clear c7
       by_cases c8 : 0 ≤ x5_2
       ·rw [if_pos c8] at H
        have c8b0 : decide (0 ≤ x5_2) = true:=decide_eq_true c8
        clear c8
        by_cases c10 : (bt a0 x5_2) = 47
        ·rw [if_pos c10] at H
         have c10b0 : ((bt a0 x5_2) == 47) = true:=beq_iff_eq.mpr c10
         have c10b1 : ((bt a0 x5_2) != 47) = false:=bne_eq_false_iff_eq.mpr c10
         clear c10
         by_cases c11 : x4_2.length < 8796093022208
         ·rw [if_pos c11] at H
          have LMc11:=Aside0.mk c11
          clear c11
          obtain ⟨y277,hy277⟩ : ∃ y_ : List ByteArray,y_ = (x4_2 ++ [(⟨#[]⟩ : ByteArray)]):=⟨_,rfl⟩
          replace H : (quarryref20_Parse.l0 k2 a0 y277 (wrap64 (x5_2 + 1))) = some (r1,r2):=by first|(rw [hy277];with_reducible exact H)|(have H2_:=(Option.bind_some _ _).symm.trans H;rw [hy277];with_reducible exact H2_)|(have H2_:=(Option.bind_some _ _).symm.trans H;with_reducible exact H2_)|with_reducible exact H|(rw [hy277];exact H)|exact H
          have Ny277:=Aside0.mk hy277
          clear hy277
          have H':=Aside0.mk H
          clear H
          obtain ⟨Ao12,co12,eo12⟩:=Kd.R_slice HO_4.out
          subst eo12
          have p9 : 0 ≤ (x5_2 : Int):=of_decide_eq_true aa_
          have q9 : x5_2 < (a0.size : Int):=of_decide_eq_true aa_
          have hx9:=bt_at a0 x5_2
          replace p9:=eq_true p9
          replace q9:=eq_true q9
          go_wp2_with (first|((with_reducible refine gate_builtin (b:=.append) (xs:=#[.tmp 41,.tmp 42]) rfl ?_);at_builtin;refine Kd.R_append Kd.string (w0:=w) w.heap.size rfl (.tmp 41) (.tmp 42) 22 9 (.string ⟨#[]⟩) 16 rfl Tryd.underlying22 info9 rfl (by decide) (by omega) (.slice Ao12 x4_2.length co12) x4_2 (⟨#[]⟩ : ByteArray) [.string (⟨#[]⟩ : ByteArray)] (fun _=>True) (fun _=>False) rfl rfl ?aP (fun _ hk=>hk.elim) ?aF ?aO ?aB ?aS ?aL ?_;(case aP=>exact rfl);(case aB=>exact (hb_ HB));(case aF=>exact (fun _ _=>trivial));(case aO=>exact (rk_ HO_4));(case aS=>exact (below_size (hb_ HB)));(case aL=>have:=LMc11.out;first|omega|exact Nat.le_of_lt this);intro v278 w13 ho hb hg hat;rw [← Ny277.out] at ho;have n_:=J_ (hb) (Aside0.mk (ho));clear HB HO_4;obtain ⟨HB,HO279⟩:=n_;clear ho hb hg hat))
          go_roundg k2
          case measure=>have:=HJ1.out;have:=HK2.out;omega
          case rel=>exact ⟨(y277),(wrap64 (x5_2 + 1)),rr_,(by first|exact H'|(subst_vars;exact H')),⟨by have:=HJ1.out;have:=HK2.out;omega⟩,⟨(rk_ HO279)⟩,⟨(hb_ HB)⟩⟩
         ·rw [if_neg c11] at H
          exact absurd H (by simp)
        ·rw [if_neg c10] at H
         have c10b0 : ((bt a0 x5_2) == 47) = false:=beq_eq_false_iff_ne.mpr c10
         have c10b1 : ((bt a0 x5_2) != 47) = true:=bne_iff_ne.mpr c10
         by_cases c14 : (bt a0 x5_2) = 126
         ·rw [if_pos c14] at H
          have c14b0 : ((bt a0 x5_2) == 126) = true:=beq_iff_eq.mpr c14
          have c14b1 : ((bt a0 x5_2) != 126) = false:=bne_eq_false_iff_eq.mpr c14
          clear c14
          have HC15:=Aside0.mk H
          clear H
          obtain ⟨Ao16,co16,eo16⟩:=Kd.R_slice HO_4.out
          subst eo16
          have p9 : 0 ≤ (x5_2 : Int):=of_decide_eq_true aa_
          have q9 : x5_2 < (a0.size : Int):=of_decide_eq_true aa_
          have hx9:=bt_at a0 x5_2
          replace p9:=eq_true p9
          replace q9:=eq_true q9
          go_upto_region 14 with (fail)
          go_cut [63] (fun v63 wc=>∃ (kq : Nat) (x63_14 : Bool),v63 = .bool x63_14 ∧ Aside0 (quarryref20_Parse.j2 kq a0 x4_2 (wrap64 (x5_2 + 1)) (wrap64 ((x4_2.length : Int) - 1)) x63_14 = some (r1,r2)) ∧ Aside0 (kq ≤ k2) ∧ Aside0 (Kd.R Kd.string 9 wc w.heap.size (fun _=>True) (.slice Ao16 x4_2.length co16) x4_2) ∧ Aside0 (Below w.heap.size w wc))
          case first =>
           have H:=HC15.out
           clear HC15
           by_cases c17 : (wrap64 (x5_2 + 1)) = (a0.size : Int)
           ·rw [if_pos c17] at H
            have c17b0 : ((wrap64 (x5_2 + 1)) == (a0.size : Int)) = true:=beq_iff_eq.mpr c17
            have c17b1 : ((wrap64 (x5_2 + 1)) != (a0.size : Int)) = false:=bne_eq_false_iff_eq.mpr c17
            clear c17
            (first|rw [c17b0]|(simp only [i64_w,i32_w];rw [c17b0])|skip)
            have H':=Aside0.mk H
            clear H
            go_wp2
            go_meet
            case rel=>exact ⟨_,(true),rr_,(by first|exact H'|(subst_vars;exact H')),⟨by have:=HJ1.out;have:=HK2.out;first|omega|exact Nat.le_refl _⟩,⟨(rk_ HO_4)⟩,⟨(hb_ HB)⟩⟩
           ·rw [if_neg c17] at H
            have c17b0 : ((wrap64 (x5_2 + 1)) == (a0.size : Int)) = false:=beq_eq_false_iff_ne.mpr c17
            have c17b1 : ((wrap64 (x5_2 + 1)) != (a0.size : Int)) = true:=bne_iff_ne.mpr c17
            (first|rw [c17b0]|(simp only [i64_w,i32_w];rw [c17b0])|skip)
            obtain ⟨ji18,hji18⟩ : ∃ j_ : Int,(wrap64 (x5_2 + 1)) = j_:=⟨_,rfl⟩
            replace H : (if 0 ≤ (ji18) then (if (ji18) < (a0.size : Int) then (if (bt a0 (ji18)) = 48 then (quarryref20_Parse.j2 k2 a0 x4_2 ji18 (wrap64 ((x4_2.length : Int) - 1)) false) else (quarryref20_Parse.j2 k2 a0 x4_2 ji18 (wrap64 ((x4_2.length : Int) - 1)) ((bt a0 (ji18)) != 49))) else (none)) else (none)) = some (r1,r2):=by first|(rw [hji18] at H;exact H)|(simp only [hji18] at H ⊢;exact H)
            (try rw [hji18] at c17b0)
            (try rw [hji18] at c17b1)
            have hji18w : (IntKind.i64.wrap (x5_2 + 1)) = ji18:=(i64_w _).trans hji18
            by_cases c19 : 0 ≤ (ji18)
            ·rw [if_pos c19] at H
             have c19b0 : decide (0 ≤ (ji18)) = true:=decide_eq_true c19
             clear c19
             by_cases c20 : (ji18) < (a0.size : Int)
             ·rw [if_pos c20] at H
              have c20b0 : decide ((ji18) < (a0.size : Int)) = true:=decide_eq_true c20
              clear c20
              by_cases c22 : (bt a0 (ji18)) = 48
              ·rw [if_pos c22] at H
               have c22b0 : ((bt a0 (ji18)) == 48) = true:=beq_iff_eq.mpr c22
               have c22b1 : ((bt a0 (ji18)) != 48) = false:=bne_eq_false_iff_eq.mpr c22
               clear c22
               have H':=Aside0.mk H
               clear H
               have p21 : 0 ≤ ((ji18) : Int):=of_decide_eq_true aa_
               have q21 : (ji18) < (a0.size : Int):=of_decide_eq_true aa_
               have hx21:=bt_at a0 (ji18)
               replace p21:=eq_true p21
               replace q21:=eq_true q21
               go_wp2
               go_meet
               case rel=>exact ⟨_,(false),rr_,(by first|exact H'|(subst_vars;exact H')),⟨by have:=HJ1.out;have:=HK2.out;first|omega|exact Nat.le_refl _⟩,⟨(rk_ HO_4)⟩,⟨(hb_ HB)⟩⟩
              ·rw [if_neg c22] at H
               have c22b0 : ((bt a0 (ji18)) == 48) = false:=beq_eq_false_iff_ne.mpr c22
               have c22b1 : ((bt a0 (ji18)) != 48) = true:=bne_iff_ne.mpr c22
               have H':=Aside0.mk H
               clear H
               have p21 : 0 ≤ ((ji18) : Int):=of_decide_eq_true aa_
               have q21 : (ji18) < (a0.size : Int):=of_decide_eq_true aa_
               have hx21:=bt_at a0 (ji18)
               replace p21:=eq_true p21
               replace q21:=eq_true q21
               have p23 : 0 ≤ ((ji18) : Int):=of_decide_eq_true aa_
               have q23 : (ji18) < (a0.size : Int):=of_decide_eq_true aa_
               have hx23:=bt_at a0 (ji18)
               replace p23:=eq_true p23
               replace q23:=eq_true q23
               go_wp2
               go_meet
               case rel=>exact ⟨_,(((bt a0 (ji18)) != 49)),(by first|rfl|(simp;done)|(simp only [← hji18] <;> (first|rfl|simp))|(simp [*];done)),(by first|exact H'|(subst_vars;exact H')),⟨by have:=HJ1.out;have:=HK2.out;first|omega|exact Nat.le_refl _⟩,⟨(rk_ HO_4)⟩,⟨(hb_ HB)⟩⟩
             ·rw [if_neg c20] at H
              exact absurd H (by simp)
            ·rw [if_neg c19] at H
             exact absurd H (by simp)
          case rest =>
           clear HC15
           obtain ⟨kq,x63_14,rfl,HA,HJ14,HO_4,HB⟩:=hcut
           cases kq with
           | zero=>exact absurd HA.out (by simp [quarryref20_Parse.j2])
           | succ kj14 =>
            have H:=HA.out
            clear HA
            simp only [quarryref20_Parse.j2] at H
            by_cases c24 : x63_14 = true
            ·subst c24
             have H1 : (some (([] : List ByteArray),200)) = some (r1,r2):=by rw [if_pos rfl] at H;exact H
             clear H
             have H:=H1
             clear H1
             simp only [Option.some.injEq,Prod.mk.injEq] at H
             obtain ⟨rfl,rfl⟩:=H
             go_wp2
             go_ret2
             exact ⟨_,er_,by first|exact Kd.R_nil _ _ _ _ _|exact Kd.N_nil _ _ _ _ _|exact Kd.V_nil _ _ _ _ _|exact Kd.Q_nil _ _ _ _ _|exact Kd.S_nil _ _ _ _ _,(hb_ HB)⟩
            ·replace c24:=Bool.eq_false_iff.mpr c24
             subst c24
             have H1 : (if 0 ≤ (wrap64 (x5_2 + 1)) then (if (wrap64 (x5_2 + 1)) < (a0.size : Int) then (if (bt a0 (wrap64 (x5_2 + 1))) = 48 then (if 0 ≤ (wrap64 ((x4_2.length : Int) - 1)) then (if (wrap64 ((x4_2.length : Int) - 1)) < (x4_2.length : Int) then (if (rdOf ByteArray.empty x4_2 (wrap64 ((x4_2.length : Int) - 1))).size + 1 ≤ 9223372036854775807 then (quarryref20_Parse.l0 kj14 a0 (x4_2.set ((wrap64 ((x4_2.length : Int) - 1)) : Int).toNat ((rdOf ByteArray.empty x4_2 (wrap64 ((x4_2.length : Int) - 1))) ++ (⟨#[126]⟩ : ByteArray))) (wrap64 ((wrap64 (x5_2 + 1)) + 1))) else (none)) else (none)) else (none)) else (if 0 ≤ (wrap64 ((x4_2.length : Int) - 1)) then (if (wrap64 ((x4_2.length : Int) - 1)) < (x4_2.length : Int) then (if (rdOf ByteArray.empty x4_2 (wrap64 ((x4_2.length : Int) - 1))).size + 1 ≤ 9223372036854775807 then (quarryref20_Parse.l0 kj14 a0 (x4_2.set ((wrap64 ((x4_2.length : Int) - 1)) : Int).toNat ((rdOf ByteArray.empty x4_2 (wrap64 ((x4_2.length : Int) - 1))) ++ (⟨#[47]⟩ : ByteArray))) (wrap64 ((wrap64 (x5_2 + 1)) + 1))) else (none)) else (none)) else (none))) else (none)) else (none)) = some (r1,r2):=by rw [if_neg (show ¬ (false = true) by decide)] at H;exact H
             clear H
             have H:=H1
             clear H1
             obtain ⟨ji25,hji25⟩ : ∃ j_ : Int,(wrap64 (x5_2 + 1)) = j_:=⟨_,rfl⟩
             replace H : (if 0 ≤ (ji25) then (if (ji25) < (a0.size : Int) then (if (bt a0 (ji25)) = 48 then (if 0 ≤ (wrap64 ((x4_2.length : Int) - 1)) then (if (wrap64 ((x4_2.length : Int) - 1)) < (x4_2.length : Int) then (if (rdOf ByteArray.empty x4_2 (wrap64 ((x4_2.length : Int) - 1))).size + 1 ≤ 9223372036854775807 then (quarryref20_Parse.l0 kj14 a0 (x4_2.set ((wrap64 ((x4_2.length : Int) - 1)) : Int).toNat ((rdOf ByteArray.empty x4_2 (wrap64 ((x4_2.length : Int) - 1))) ++ (⟨#[126]⟩ : ByteArray))) (wrap64 ((ji25) + 1))) else (none)) else (none)) else (none)) else (if 0 ≤ (wrap64 ((x4_2.length : Int) - 1)) then (if (wrap64 ((x4_2.length : Int) - 1)) < (x4_2.length : Int) then (if (rdOf ByteArray.empty x4_2 (wrap64 ((x4_2.length : Int) - 1))).size + 1 ≤ 9223372036854775807 then (quarryref20_Parse.l0 kj14 a0 (x4_2.set ((wrap64 ((x4_2.length : Int) - 1)) : Int).toNat ((rdOf ByteArray.empty x4_2 (wrap64 ((x4_2.length : Int) - 1))) ++ (⟨#[47]⟩ : ByteArray))) (wrap64 ((ji25) + 1))) else (none)) else (none)) else (none))) else (none)) else (none)) = some (r1,r2):=by first|(rw [hji25] at H;exact H)|(simp only [hji25] at H ⊢;exact H)
             have hji25w : (IntKind.i64.wrap (x5_2 + 1)) = ji25:=(i64_w _).trans hji25
             by_cases c26 : 0 ≤ (ji25)
             ·rw [if_pos c26] at H
              have c26b0 : decide (0 ≤ (ji25)) = true:=decide_eq_true c26
              clear c26
              by_cases c27 : (ji25) < (a0.size : Int)
              ·rw [if_pos c27] at H
               have c27b0 : decide ((ji25) < (a0.size : Int)) = true:=decide_eq_true c27
               clear c27
               by_cases c29 : (bt a0 (ji25)) = 48
               ·rw [if_pos c29] at H
                have c29b0 : ((bt a0 (ji25)) == 48) = true:=beq_iff_eq.mpr c29
                have c29b1 : ((bt a0 (ji25)) != 48) = false:=bne_eq_false_iff_eq.mpr c29
                clear c29
                obtain ⟨ji30,hji30⟩ : ∃ j_ : Int,(wrap64 ((x4_2.length : Int) - 1)) = j_:=⟨_,rfl⟩
                replace H : (if 0 ≤ (ji30) then (if (ji30) < (x4_2.length : Int) then (if (rdOf ByteArray.empty x4_2 (ji30)).size + 1 ≤ 9223372036854775807 then (quarryref20_Parse.l0 kj14 a0 (x4_2.set ((ji30) : Int).toNat ((rdOf ByteArray.empty x4_2 (ji30)) ++ (⟨#[126]⟩ : ByteArray))) (wrap64 ((ji25) + 1))) else (none)) else (none)) else (none)) = some (r1,r2):=by first|(rw [hji30] at H;exact H)|(simp only [hji30] at H ⊢;exact H)
                have hji30w : (IntKind.i64.wrap ((x4_2.length : Int) - 1)) = ji30:=(i64_w _).trans hji30
                by_cases c31 : 0 ≤ (ji30)
                ·rw [if_pos c31] at H
                 have c31b0 : decide (0 ≤ (ji30)) = true:=decide_eq_true c31
                 clear c31
                 by_cases c32 : (ji30) < (x4_2.length : Int)
                 ·rw [if_pos c32] at H
                  have c32b0 : decide ((ji30) < (x4_2.length : Int)) = true:=decide_eq_true c32
                  clear c32
                  by_cases c33 : (rdOf ByteArray.empty x4_2 (ji30)).size + 1 ≤ 9223372036854775807
                  ·rw [if_pos c33] at H
                   have c33b0:=eq_true c33
                   have c33b1 : decide ((rdOf ByteArray.empty x4_2 (ji30)).size + 1 ≤ 9223372036854775807) = true:=decide_eq_true c33
                   try have c33b2 : (9223372036854775807 < (rdOf ByteArray.empty x4_2 (ji30)).size + 1) = False:=eq_false (Nat.not_lt.2 c33)
                   obtain ⟨y281,hy281⟩ : ∃ y_ : List ByteArray,y_ = (x4_2.set ((ji30) : Int).toNat ((rdOf ByteArray.empty x4_2 (ji30)) ++ (⟨#[126]⟩ : ByteArray))):=⟨_,rfl⟩
                   replace H : (quarryref20_Parse.l0 kj14 a0 y281 (wrap64 ((ji25) + 1))) = some (r1,r2):=by first|(rw [hy281];with_reducible exact H)|(have H2_:=(Option.bind_some _ _).symm.trans H;rw [hy281];with_reducible exact H2_)|(have H2_:=(Option.bind_some _ _).symm.trans H;with_reducible exact H2_)|with_reducible exact H|(rw [hy281];exact H)|exact H
                   have Ny281:=Aside0.mk hy281
                   clear hy281
                   have H':=Aside0.mk H
                   clear H
                   have p28 : 0 ≤ ((ji25) : Int):=of_decide_eq_true aa_
                   have q28 : (ji25) < (a0.size : Int):=of_decide_eq_true aa_
                   have hx28:=bt_at a0 (ji25)
                   replace p28:=eq_true p28
                   replace q28:=eq_true q28
                   have p280 : 0 ≤ ((ji30) : Int):=of_decide_eq_true aa_
                   have q280 : (ji30) < (x4_2.length : Int):=of_decide_eq_true aa_
                   obtain ⟨ad280,e280,hx280_0⟩:=Kd.at_string (Kd.R_reads' HO_4.out).2.2 (ji30) p280 q280
                   cases e280
                   replace p280:=eq_true p280
                   replace q280:=eq_true q280
                   have p34 : 0 ≤ ((ji30) : Int):=of_decide_eq_true aa_
                   have q34 : ((ji30) : Int) < ((x4_2.length : Int) : Int):=of_decide_eq_true aa_
                   obtain ⟨go34,co34,eo34,gb34,gl34,cl34,HG34⟩:=Kd.R_form HO_4.out (by omega)
                   (first|cases eo34|(injection eo34 with ea_ en_ ec_;(first|subst ea_|(injection ea_ with ea_;subst ea_));subst ec_;clear en_))
                   have GB34:=Aside0.mk gb34
                   have GG34:=Aside0.mk HG34
                   clear gb34 gl34 HG34
                   (first|simp only [add_plain] at hx280_0|skip)
                   obtain ⟨hx34_0,hf34_0⟩:=Kd.R_celln (⟨#[]⟩ : ByteArray) HO_4.out ((ji30) : Int) p34 q34
                   replace p34:=eq_true p34
                   replace q34:=eq_true q34
                   have HP35:=Kd.R_putg HO_4.out ((ji30) : Int) ((rdOf ByteArray.empty x4_2 (ji30)) ++ (⟨#[126]⟩ : ByteArray))
                   go_wp2_with (first|((with_reducible refine gate_store (t:=9) (p:=75) rfl ?_);refine store_event (t:=9) (p:=75) (v:=?vo_w36) (w1:=(wc.setCell ⟨go34,((ji30) : Int).toNat,none⟩ (.string ((rdOf ByteArray.empty x4_2 (ji30)) ++ (⟨#[126]⟩ : ByteArray))))) ?hg ?ho ?hn ?hr ?_;(case ho=>rfl);(case hg=>rfl);(case hn=>rfl);(case hr=>first|(go_simp;done)|(go_simp;rfl));intro w36 hw;have hg : wc.grownBy w36 (some go34):=(by rw [hw];exact HP35.2);have hp_ : Kd.R Kd.string 9 w36 w.heap.size (fun _=>True) (.slice (some ⟨go34,0,none⟩) x4_2.length co16) y281:=(by rw [hw,Ny281.out];exact HP35.1);clear HP35;have n_:=J_ (hp_) (Aside0.mk ((by rw [hw];exact below_set (HB.out) GB34.out : Below w.heap.size w w36)));clear HO_4 HB;obtain ⟨HO_4,HB⟩:=n_;clear hg hw hp_))
                   go_roundg kj14
                   case measure=>have:=HJ1.out;have:=HK2.out;have:=HJ14.out;omega
                   case rel=>exact ⟨(y281),(wrap64 ((ji25) + 1)),(by first|rfl|(simp;done)|(simp only [← hji25] <;> (first|rfl|simp))|(simp [*];done)),(by first|exact H'|(subst_vars;exact H')),⟨by have:=HJ1.out;have:=HK2.out;have:=HJ14.out;omega⟩,⟨(rk_ HO_4)⟩,⟨(hb_ HB)⟩⟩
                  ·rw [if_neg c33] at H
                   exact absurd H (by simp)
                 ·rw [if_neg c32] at H
                  exact absurd H (by simp)
                ·rw [if_neg c31] at H
                 exact absurd H (by simp)
               ·rw [if_neg c29] at H
                have c29b0 : ((bt a0 (ji25)) == 48) = false:=beq_eq_false_iff_ne.mpr c29
                have c29b1 : ((bt a0 (ji25)) != 48) = true:=bne_iff_ne.mpr c29
                obtain ⟨ji37,hji37⟩ : ∃ j_ : Int,(wrap64 ((x4_2.length : Int) - 1)) = j_:=⟨_,rfl⟩
                replace H : (if 0 ≤ (ji37) then (if (ji37) < (x4_2.length : Int) then (if (rdOf ByteArray.empty x4_2 (ji37)).size + 1 ≤ 9223372036854775807 then (quarryref20_Parse.l0 kj14 a0 (x4_2.set ((ji37) : Int).toNat ((rdOf ByteArray.empty x4_2 (ji37)) ++ (⟨#[47]⟩ : ByteArray))) (wrap64 ((ji25) + 1))) else (none)) else (none)) else (none)) = some (r1,r2):=by first|(rw [hji37] at H;exact H)|(simp only [hji37] at H ⊢;exact H)
                have hji37w : (IntKind.i64.wrap ((x4_2.length : Int) - 1)) = ji37:=(i64_w _).trans hji37
                by_cases c38 : 0 ≤ (ji37)
                ·rw [if_pos c38] at H
                 have c38b0 : decide (0 ≤ (ji37)) = true:=decide_eq_true c38
                 clear c38
                 by_cases c39 : (ji37) < (x4_2.length : Int)
                 ·rw [if_pos c39] at H
                  have c39b0 : decide ((ji37) < (x4_2.length : Int)) = true:=decide_eq_true c39
                  clear c39
                  by_cases c40 : (rdOf ByteArray.empty x4_2 (ji37)).size + 1 ≤ 9223372036854775807
                  ·rw [if_pos c40] at H
                   have c40b0:=eq_true c40
                   have c40b1 : decide ((rdOf ByteArray.empty x4_2 (ji37)).size + 1 ≤ 9223372036854775807) = true:=decide_eq_true c40
                   try have c40b2 : (9223372036854775807 < (rdOf ByteArray.empty x4_2 (ji37)).size + 1) = False:=eq_false (Nat.not_lt.2 c40)
                   obtain ⟨y283,hy283⟩ : ∃ y_ : List ByteArray,y_ = (x4_2.set ((ji37) : Int).toNat ((rdOf ByteArray.empty x4_2 (ji37)) ++ (⟨#[47]⟩ : ByteArray))):=⟨_,rfl⟩
                   replace H : (quarryref20_Parse.l0 kj14 a0 y283 (wrap64 ((ji25) + 1))) = some (r1,r2):=by first|(rw [hy283];with_reducible exact H)|(have H2_:=(Option.bind_some _ _).symm.trans H;rw [hy283];with_reducible exact H2_)|(have H2_:=(Option.bind_some _ _).symm.trans H;with_reducible exact H2_)|with_reducible exact H|(rw [hy283];exact H)|exact H
                   have Ny283:=Aside0.mk hy283
                   clear hy283
                   have H':=Aside0.mk H
                   clear H
                   have p28 : 0 ≤ ((ji25) : Int):=of_decide_eq_true aa_
                   have q28 : (ji25) < (a0.size : Int):=of_decide_eq_true aa_
                   have hx28:=bt_at a0 (ji25)
                   replace p28:=eq_true p28
                   replace q28:=eq_true q28
                   have p282 : 0 ≤ ((ji37) : Int):=of_decide_eq_true aa_
                   have q282 : (ji37) < (x4_2.length : Int):=of_decide_eq_true aa_
                   obtain ⟨ad282,e282,hx282_0⟩:=Kd.at_string (Kd.R_reads' HO_4.out).2.2 (ji37) p282 q282
                   cases e282
                   replace p282:=eq_true p282
                   replace q282:=eq_true q282
                   have p41 : 0 ≤ ((ji37) : Int):=of_decide_eq_true aa_
                   have q41 : ((ji37) : Int) < ((x4_2.length : Int) : Int):=of_decide_eq_true aa_
                   obtain ⟨go41,co41,eo41,gb41,gl41,cl41,HG41⟩:=Kd.R_form HO_4.out (by omega)
                   (first|cases eo41|(injection eo41 with ea_ en_ ec_;(first|subst ea_|(injection ea_ with ea_;subst ea_));subst ec_;clear en_))
                   have GB41:=Aside0.mk gb41
                   have GG41:=Aside0.mk HG41
                   clear gb41 gl41 HG41
                   (first|simp only [add_plain] at hx282_0|skip)
                   obtain ⟨hx41_0,hf41_0⟩:=Kd.R_celln (⟨#[]⟩ : ByteArray) HO_4.out ((ji37) : Int) p41 q41
                   replace p41:=eq_true p41
                   replace q41:=eq_true q41
                   have HP42:=Kd.R_putg HO_4.out ((ji37) : Int) ((rdOf ByteArray.empty x4_2 (ji37)) ++ (⟨#[47]⟩ : ByteArray))
                   go_wp2_with (first|((with_reducible refine gate_store (t:=9) (p:=83) rfl ?_);refine store_event (t:=9) (p:=83) (v:=?vo_w43) (w1:=(wc.setCell ⟨go41,((ji37) : Int).toNat,none⟩ (.string ((rdOf ByteArray.empty x4_2 (ji37)) ++ (⟨#[47]⟩ : ByteArray))))) ?hg ?ho ?hn ?hr ?_;(case ho=>rfl);(case hg=>rfl);(case hn=>rfl);(case hr=>first|(go_simp;done)|(go_simp;rfl));intro w43 hw;have hg : wc.grownBy w43 (some go41):=(by rw [hw];exact HP42.2);have hp_ : Kd.R Kd.string 9 w43 w.heap.size (fun _=>True) (.slice (some ⟨go41,0,none⟩) x4_2.length co16) y283:=(by rw [hw,Ny283.out];exact HP42.1);clear HP42;have n_:=J_ (hp_) (Aside0.mk ((by rw [hw];exact below_set (HB.out) GB41.out : Below w.heap.size w w43)));clear HO_4 HB;obtain ⟨HO_4,HB⟩:=n_;clear hg hw hp_))
                   go_roundg kj14
                   case measure=>have:=HJ1.out;have:=HK2.out;have:=HJ14.out;omega
                   case rel=>exact ⟨(y283),(wrap64 ((ji25) + 1)),(by first|rfl|(simp;done)|(simp only [← hji25] <;> (first|rfl|simp))|(simp [*];done)),(by first|exact H'|(subst_vars;exact H')),⟨by have:=HJ1.out;have:=HK2.out;have:=HJ14.out;omega⟩,⟨(rk_ HO_4)⟩,⟨(hb_ HB)⟩⟩
                  ·rw [if_neg c40] at H
                   exact absurd H (by simp)
                 ·rw [if_neg c39] at H
                  exact absurd H (by simp)
                ·rw [if_neg c38] at H
                 exact absurd H (by simp)
              ·rw [if_neg c27] at H
               exact absurd H (by simp)
             ·rw [if_neg c26] at H
              exact absurd H (by simp)
         ·rw [if_neg c14] at H
          have c14b0 : ((bt a0 x5_2) == 126) = false:=beq_eq_false_iff_ne.mpr c14
          have c14b1 : ((bt a0 x5_2) != 126) = true:=bne_iff_ne.mpr c14
          obtain ⟨ji44,hji44⟩ : ∃ j_ : Int,(wrap64 ((x4_2.length : Int) - 1)) = j_:=⟨_,rfl⟩
          replace H : (if 0 ≤ (ji44) then (if (ji44) < (x4_2.length : Int) then (if x5_2 ≤ (wrap64 (x5_2 + 1)) then (if (wrap64 (x5_2 + 1)) ≤ (a0.size : Int) then (if (rdOf ByteArray.empty x4_2 (ji44)).size + (a0.extract (x5_2 : Int).toNat ((wrap64 (x5_2 + 1)) : Int).toNat).size ≤ 9223372036854775807 then (quarryref20_Parse.l0 k2 a0 (x4_2.set ((ji44) : Int).toNat ((rdOf ByteArray.empty x4_2 (ji44)) ++ (a0.extract (x5_2 : Int).toNat ((wrap64 (x5_2 + 1)) : Int).toNat))) (wrap64 (x5_2 + 1))) else (none)) else (none)) else (none)) else (none)) else (none)) = some (r1,r2):=by first|(rw [hji44] at H;exact H)|(simp only [hji44] at H ⊢;exact H)
          have hji44w : (IntKind.i64.wrap ((x4_2.length : Int) - 1)) = ji44:=(i64_w _).trans hji44
          by_cases c45 : 0 ≤ (ji44)
          ·rw [if_pos c45] at H
           have c45b0 : decide (0 ≤ (ji44)) = true:=decide_eq_true c45
           clear c45
           by_cases c46 : (ji44) < (x4_2.length : Int)
           ·rw [if_pos c46] at H
            have c46b0 : decide ((ji44) < (x4_2.length : Int)) = true:=decide_eq_true c46
            clear c46
            have c47b0:=eq_true (of_decide_eq_true aa_ : 0 ≤ x5_2)
            by_cases c48 : x5_2 ≤ (wrap64 (x5_2 + 1))
            ·rw [if_pos c48] at H
             have c48b0:=eq_true c48
             have c48b1 : decide (x5_2 ≤ (wrap64 (x5_2 + 1))) = true:=decide_eq_true c48
             by_cases c49 : (wrap64 (x5_2 + 1)) ≤ (a0.size : Int)
             ·rw [if_pos c49] at H
              have c49b0:=eq_true c49
              have c49b1 : decide ((wrap64 (x5_2 + 1)) ≤ (a0.size : Int)) = true:=decide_eq_true c49
              by_cases c50 : (rdOf ByteArray.empty x4_2 (ji44)).size + (a0.extract (x5_2 : Int).toNat ((wrap64 (x5_2 + 1)) : Int).toNat).size ≤ 9223372036854775807
              ·rw [if_pos c50] at H
               have c50b0:=eq_true c50
               have c50b1 : decide ((rdOf ByteArray.empty x4_2 (ji44)).size + (a0.extract (x5_2 : Int).toNat ((wrap64 (x5_2 + 1)) : Int).toNat).size ≤ 9223372036854775807) = true:=decide_eq_true c50
               try have c50b2 : (9223372036854775807 < (rdOf ByteArray.empty x4_2 (ji44)).size + (a0.extract (x5_2 : Int).toNat ((wrap64 (x5_2 + 1)) : Int).toNat).size) = False:=eq_false (Nat.not_lt.2 c50)
               try have c50b3 : (9223372036854775807 < (rdOf ByteArray.empty x4_2 (ji44)).size + ((wrap64 (x5_2 + 1)).toNat - x5_2.toNat)) = False:=eq_false (by have u_:=c50;have v_ : wrap64 (x5_2 + 1) ≤ (a0.size : Int):=of_eq_true (by assumption);rw [ByteArray.size_extract] at u_;omega)
               obtain ⟨y285,hy285⟩ : ∃ y_ : List ByteArray,y_ = (x4_2.set ((ji44) : Int).toNat ((rdOf ByteArray.empty x4_2 (ji44)) ++ (a0.extract (x5_2 : Int).toNat ((wrap64 (x5_2 + 1)) : Int).toNat))):=⟨_,rfl⟩
               replace H : (quarryref20_Parse.l0 k2 a0 y285 (wrap64 (x5_2 + 1))) = some (r1,r2):=by first|(rw [hy285];with_reducible exact H)|(have H2_:=(Option.bind_some _ _).symm.trans H;rw [hy285];with_reducible exact H2_)|(have H2_:=(Option.bind_some _ _).symm.trans H;with_reducible exact H2_)|with_reducible exact H|(rw [hy285];exact H)|exact H
               have Ny285:=Aside0.mk hy285
               clear hy285
               have H':=Aside0.mk H
               clear H
               obtain ⟨Ao52,co52,eo52⟩:=Kd.R_slice HO_4.out
               subst eo52
               have p9 : 0 ≤ (x5_2 : Int):=of_decide_eq_true aa_
               have q9 : x5_2 < (a0.size : Int):=of_decide_eq_true aa_
               have hx9:=bt_at a0 x5_2
               replace p9:=eq_true p9
               replace q9:=eq_true q9
               try go_wp2
               have n0_:=Aside0.mk (Kd.R_drew HO_4.out)
               have n1_:=Aside0.mk (below_drew1 HB.out)
               clear HO_4
               clear HB
               have HO_4:=n0_
               have HB:=n1_
               clear n0_ n1_
               have p284 : 0 ≤ ((ji44) : Int):=of_decide_eq_true aa_
               have q284 : (ji44) < (x4_2.length : Int):=of_decide_eq_true aa_
               obtain ⟨ad284,e284,hx284_0⟩:=Kd.at_string (Kd.R_reads' HO_4.out).2.2 (ji44) p284 q284
               cases e284
               replace p284:=eq_true p284
               replace q284:=eq_true q284
               have p51 : 0 ≤ ((ji44) : Int):=of_decide_eq_true aa_
               have q51 : ((ji44) : Int) < ((x4_2.length : Int) : Int):=of_decide_eq_true aa_
               obtain ⟨go51,co51,eo51,gb51,gl51,cl51,HG51⟩:=Kd.R_form HO_4.out (by omega)
               (first|cases eo51|(injection eo51 with ea_ en_ ec_;(first|subst ea_|(injection ea_ with ea_;subst ea_));subst ec_;clear en_))
               have GB51:=Aside0.mk gb51
               have GG51:=Aside0.mk HG51
               clear gb51 gl51 HG51
               (first|simp only [add_plain] at hx284_0|skip)
               obtain ⟨hx51_0,hf51_0⟩:=Kd.R_celln (⟨#[]⟩ : ByteArray) HO_4.out ((ji44) : Int) p51 q51
               replace p51:=eq_true p51
               replace q51:=eq_true q51
               have HP54:=Kd.R_putn HO_4.out ((ji44) : Int) ((rdOf ByteArray.empty x4_2 (ji44)) ++ (a0.extract (x5_2 : Int).toNat ((wrap64 (x5_2 + 1)) : Int).toNat))
               rw [← Ny285.out] at HP54
               have HQ54:=Aside0.mk HP54
               clear HP54
               refine start_ (n:=14) (S:=fun w'=>w'.cell? ⟨go51,((ji44)).toNat,none⟩ = some (.string (rdOf ByteArray.empty x4_2 (ji44)))) (ds:=[13]) #[false,false,false,false,false,false,false,false,false,false,false,false,false,false] (by kernel_rfl) rfl rfl (hx284_0) (fun hHeld=>?_);refine with_tabW quarryref20_Parse.tab9 quarryref20_Parse.bits9 (fun HT_ HW_=>?_)
               generalize wr.drew = w53 at HO_4 HB GG51 HQ54 hf51_0 hx284_0 hx51_0 hHeld ⊢
               refine pure_ (i:=0) (N:=some 26) (v:=?_) (a':=?_) #[true,false,false,false,false,false,false,false,false,false,false,false,false,false] rfl rfl (any_of HT_.out (by kernel_rfl)) (fun _ _ _ h=>h) (Or.inl ⟨by rfl,?_⟩) ?_ ?_
               rotate_left
               ·intro w'
                go_simp
                with_reducible rfl
               rotate_left
               ·simp only [Act.put,List.setIfInBounds_toArray,List.set_cons_zero,List.set_cons_succ,i64_w,i32_w]
                rfl
               refine pure_ (i:=1) (N:=some 27) (v:=?_) (a':=?_) #[true,true,false,false,false,false,false,false,false,false,false,false,false,false] rfl rfl (any_of HT_.out (by kernel_rfl)) (fun _ _ _ h=>h) (Or.inl ⟨by rfl,?_⟩) ?_ ?_
               rotate_left
               ·intro w'
                go_simp
                with_reducible rfl
               rotate_left
               ·simp only [Act.put,List.setIfInBounds_toArray,List.set_cons_zero,List.set_cons_succ,i64_w,i32_w]
                rfl
               refine pure_ (i:=2) (N:=some 28) (v:=?_) (a':=?_) #[true,true,true,false,false,false,false,false,false,false,false,false,false,false] rfl rfl (any_of HT_.out (by kernel_rfl)) (fun _ _ _ h=>h) (Or.inl ⟨by rfl,?_⟩) ?_ ?_
               rotate_left
               ·intro w'
                go_simp
                with_reducible rfl
               rotate_left
               ·simp only [Act.put,List.setIfInBounds_toArray,List.set_cons_zero,List.set_cons_succ,i64_w,i32_w]
                rfl
               refine pure_ (i:=3) (N:=some 29) (v:=?_) (a':=?_) #[true,true,true,true,false,false,false,false,false,false,false,false,false,false] rfl rfl (any_of HT_.out (by kernel_rfl)) (fun _ _ _ h=>h) (Or.inl ⟨by rfl,?_⟩) ?_ ?_
               rotate_left
               ·intro w'
                go_simp
                with_reducible rfl
               rotate_left
               ·simp only [Act.put,List.setIfInBounds_toArray,List.set_cons_zero,List.set_cons_succ,i64_w,i32_w]
                rfl
               refine pure_ (i:=4) (N:=some 30) (v:=?_) (a':=?_) #[true,true,true,true,true,false,false,false,false,false,false,false,false,false] rfl rfl (any_of HT_.out (by kernel_rfl)) (fun _ _ _ h=>h) (Or.inl ⟨by rfl,?_⟩) ?_ ?_
               rotate_left
               ·intro w'
                go_simp
                with_reducible rfl
               rotate_left
               ·simp only [Act.put,List.setIfInBounds_toArray,List.set_cons_zero,List.set_cons_succ,i64_w,i32_w]
                rfl
               refine pure_ (i:=6) (N:=some 32) (v:=?_) (a':=?_) #[true,true,true,true,true,false,true,false,false,false,false,false,false,false] rfl rfl (any_of HT_.out (by kernel_rfl)) (fun _ _ _ h=>h) (Or.inl ⟨by rfl,?_⟩) ?_ ?_
               rotate_left
               ·intro w'
                go_simp
                with_reducible rfl
               rotate_left
               ·simp only [Act.put,List.setIfInBounds_toArray,List.set_cons_zero,List.set_cons_succ,i64_w,i32_w]
                rfl
               refine pure_ (i:=7) (N:=some 33) (v:=?_) (a':=?_) #[true,true,true,true,true,false,true,true,false,false,false,false,false,false] rfl rfl (any_of HT_.out (by kernel_rfl)) (fun _ _ _ h=>h) (Or.inl ⟨by rfl,?_⟩) ?_ ?_
               rotate_left
               ·intro w'
                go_simp
                with_reducible rfl
               rotate_left
               ·simp only [Act.put,List.setIfInBounds_toArray,List.set_cons_zero,List.set_cons_succ,i64_w,i32_w]
                rfl
               refine pure_ (i:=8) (N:=some 34) (v:=?_) (a':=?_) #[true,true,true,true,true,false,true,true,true,false,false,false,false,false] rfl rfl (any_of HT_.out (by kernel_rfl)) (fun _ _ _ h=>h) (Or.inl ⟨by rfl,?_⟩) ?_ ?_
               rotate_left
               ·intro w'
                go_simp
                with_reducible rfl
               rotate_left
               ·simp only [Act.put,List.setIfInBounds_toArray,List.set_cons_zero,List.set_cons_succ,i64_w,i32_w]
                rfl
               refine pure_ (i:=9) (N:=some 35) (v:=?_) (a':=?_) #[true,true,true,true,true,false,true,true,true,true,false,false,false,false] rfl rfl (any_of HT_.out (by kernel_rfl)) (fun _ _ _ h=>h) (Or.inl ⟨by rfl,?_⟩) ?_ ?_
               rotate_left
               ·intro w'
                go_simp
                with_reducible rfl
               rotate_left
               ·simp only [Act.put,List.setIfInBounds_toArray,List.set_cons_zero,List.set_cons_succ,i64_w,i32_w]
                rfl
               refine pure_ (i:=10) (N:=some 36) (v:=?_) (a':=?_) #[true,true,true,true,true,false,true,true,true,true,true,false,false,false] rfl rfl (any_of HT_.out (by kernel_rfl)) (fun _ _ _ h=>h) (Or.inl ⟨by rfl,?_⟩) ?_ ?_
               rotate_left
               ·intro w'
                go_simp
                with_reducible rfl
               rotate_left
               ·simp only [Act.put,List.setIfInBounds_toArray,List.set_cons_zero,List.set_cons_succ,i64_w,i32_w]
                rfl
               refine take_ (i:=5) (N:=some 31) (v:=?_) (a':=?_) #[true,true,true,true,true,true,true,true,true,true,true,false,false,false] rfl rfl (take_ofW HT_.out HW_.out (by kernel_rfl)) (fun _ _ _ h=>h) (Or.inl ⟨by rfl,?_⟩) hHeld ?_ ?_
               rotate_left
               ·intro w' s0
                go_simp
                with_reducible rfl
               rotate_left
               ·simp only [Act.put,List.setIfInBounds_toArray,List.set_cons_zero,List.set_cons_succ,i64_w,i32_w]
                rfl
               refine pure_ (i:=11) (N:=some 37) (v:=?_) (a':=?_) #[true,true,true,true,true,true,true,true,true,true,true,true,false,false] rfl rfl (any_of HT_.out (by kernel_rfl)) (fun _ _ _ h=>h) (Or.inl ⟨by rfl,?_⟩) ?_ ?_
               rotate_left
               ·intro w'
                go_simp
                with_reducible rfl
               rotate_left
               ·simp only [Act.put,List.setIfInBounds_toArray,List.set_cons_zero,List.set_cons_succ,i64_w,i32_w]
                rfl
               refine pure_ (i:=12) (N:=some 38) (v:=?_) (a':=?_) #[true,true,true,true,true,true,true,true,true,true,true,true,true,false] rfl rfl (any_of HT_.out (by kernel_rfl)) (fun _ _ _ h=>h) (Or.inl ⟨by rfl,?_⟩) ?_ ?_
               rotate_left
               ·intro w'
                go_simp
                with_reducible rfl
               rotate_left
               ·simp only [Act.put,List.setIfInBounds_toArray,List.set_cons_zero,List.set_cons_succ,i64_w,i32_w]
                rfl
               refine last_ (i:=13) (N:=none) #[true,true,true,true,true,true,true,true,true,true,true,true,true,true] rfl rfl (one_of HT_.out (by kernel_rfl)) (by decide) (fun K hK=>?_)
               refine skip_ (w1:=?_) (by rfl) rfl ?_ ?_
               rotate_left
               ·go_simp
                rfl
               refine hK.out _ _ ?_
               clear hK K
               refine done_ (done_of HT_.out (by kernel_rfl)) ?_
               try go_wp2
               go_roundg k2
               case measure=>have:=HJ1.out;have:=HK2.out;omega
               case rel=>exact ⟨(y285),(wrap64 (x5_2 + 1)),rr_,(by first|exact H'|(subst_vars;exact H')),⟨by have:=HJ1.out;have:=HK2.out;omega⟩,⟨(rk_ HQ54)⟩,⟨(hb_ HB)⟩⟩
              ·rw [if_neg c50] at H
               exact absurd H (by simp)
             ·rw [if_neg c49] at H
              exact absurd H (by simp)
            ·rw [if_neg c48] at H
             exact absurd H (by simp)
           ·rw [if_neg c46] at H
            exact absurd H (by simp)
          ·rw [if_neg c45] at H
           exact absurd H (by simp)
       ·rw [if_neg c8] at H
        exact absurd H (by simp)
      ·rw [if_neg c7] at H
       have c7b0 : decide (x5_2 < (a0.size : Int)) = false:=decide_eq_false c7
       clear c7
       simp only [Option.some.injEq,Prod.mk.injEq] at H
       obtain ⟨rfl,rfl⟩:=H
       go_wp2
       go_ret2
       exact ⟨_,er_,(rk_ HO_4),(hb_ HB)⟩
end Go.Proofs.YtppenppagkfigaaDoor.PPointerFinds
