-- Written by shrink.py, a program of this session: what the law needs of the print and its words. Lean checks it.
import Derived.Test.YtijmdmnhbbcahaaZPTallySpreadsx0
import Derived.Test.YtijmdmnhbbcahaaZPTallySpreadsx1
import Derived.Test.YtijmdmnhbbcahaaZPTallySpreadsx12
namespace Go.Proofs.Ytijmdmnhbbcahaa.PTallySpreads
open Go.RowKit Go.Proofs.YtijmdmnhbbcahaaW.PrintWords Go.Proofs.YtijmdmnhbbcahaaW.PrintLast Go.Proofs.YtijmdmnhbbcahaaW.PrintMore
attribute [local go_sem] run_fadd run_fsub run_fmul run_fquo unary_fneg run_store_f64 run_store_c128 run_cadd
attribute [local go_sem] max2_int min2_int max_two min_two max_three min_three max_four min_four
set_option linter.unusedVariables false
set_option linter.unusedSimpArgs false
attribute [local go_sem high] eqA26
attribute [local go_sem] Instr.field asAgg
def quarryref31_All.l0 : Nat → List Nat → Int → Option (Bool)
 | 0,_,_=>none
 | k + 1,x0,x3=>if x3 < (x0.length : Int) then (if 0 ≤ x3 then ((quarryref13_Finite.f (rdOf (0 : Nat) x0 x3)).bind fun t131=>(if t131 = true then (quarryref31_All.l0 k x0 (wrap64 (x3 + 1))) else (some false))) else (none)) else (some true)
def quarryref31_All.f (k : Nat) (l0 : List Nat) : Option (Bool):=quarryref31_All.l0 k l0 0
set_option maxHeartbeats 8000000 in
set_option maxRecDepth 100000 in
theorem quarryref31_All.calls (k : Nat) (A0 : Option Addr) (c0 : Nat) (l0 : List Nat) (r : Bool) (w : World) (hr0 : Kd.C Kd.f64 w A0 l0.length l0) (hc0 : l0.length ≤ c0) (h : quarryref31_All.f k l0 = some r) :
  Calls Try.prog 41 #[.slice A0 l0.length c0] w fun e w'=>e = .returned (.bool r) ∧ Drawn0 w w':=by
 have HR0:=Aside0.mk hr0
 have HC0:=Aside0.mk hc0
 clear hr0 hc0
 have H : (quarryref31_All.l0 k l0 0) = some r:=h
 clear h
 have H':=Aside0.mk H
 clear H
 go_enter Try.func41,Try.ntmps41
 go_wp2
 go_loopg [3] k (fun kq v3 w'=>∃ (x3_1 : Int),v3 = .int .i64 x3_1 ∧ Aside0 (quarryref31_All.l0 kq l0 x3_1 = some r) ∧ Aside0 (kq ≤ k) ∧ Drawn0 w w')
 case atStart=>exact ⟨(0),rr_,H',⟨Nat.le_refl _⟩,by repeat (first|exact Drawn0.refl _|apply Drawn0.step)⟩
 case round =>
  clear H'
  obtain ⟨x3_1,rfl,HA,HK1,⟨m1,rfl⟩⟩:=hrel
  cases gk with
  | zero=>exact absurd HA.out (by simp [quarryref31_All.l0])
  | succ k1 =>
   have H:=HA.out
   clear HA
   simp only [quarryref31_All.l0] at H
   by_cases c2 : x3_1 < (l0.length : Int)
   ·rw [if_pos c2] at H
    have c2b0 : decide (x3_1 < (l0.length : Int)) = true:=decide_eq_true c2
    clear c2
    by_cases c3 : 0 ≤ x3_1
    ·rw [if_pos c3] at H
     have c3b0 : decide (0 ≤ x3_1) = true:=decide_eq_true c3
     clear c3
     replace H:=Option.bind_eq_some_iff.mp H
     obtain ⟨t131,A40,H⟩:=H
     replace H : (if t131 = true then (quarryref31_All.l0 k1 l0 (wrap64 (x3_1 + 1))) else (some false)) = some r:=H
     have A4:=Aside0.mk A40
     clear A40
     by_cases c5 : t131 = true
     ·subst c5
      have H1 : (quarryref31_All.l0 k1 l0 (wrap64 (x3_1 + 1))) = some r:=by rw [if_pos rfl] at H;exact H
      clear H
      have H:=H1
      clear H1
      have H':=Aside0.mk H
      clear H
      have p130 : 0 ≤ (x3_1 : Int):=of_decide_eq_true aa_
      have q130 : x3_1 < (l0.length : Int):=of_decide_eq_true aa_
      obtain ⟨ad130,e130,hx130_0⟩:=Kd.at_f64 HR0.out x3_1 p130 q130
      cases e130
      replace p130:=eq_true p130
      replace q130:=eq_true q130
      go_wp2_with (first|((with_reducible refine gate_callee (f:=29) rfl ?_);refine goesL_ (some 14) rfl rfl Try.func29 (by kernel_rfl) rfl #[.float .f64 (rdOf (0 : Nat) l0 x3_1)] rfl am_ ?_;(with_reducible refine (quarryref13_Finite.calls (rdOf (0 : Nat) l0 x3_1) true _ A4.out).mono ?_);rintro e w' ⟨rfl,⟨nd,rfl⟩⟩;refine ⟨_,rfl,?_⟩))
      go_roundg k1
      case measure=>have:=HK1.out;omega
      case rel=>exact ⟨(wrap64 (x3_1 + 1)),rr_,(by first|exact H'|(subst_vars;exact H')),⟨by have:=HK1.out;omega⟩,by repeat (first|exact Drawn0.refl _|apply Drawn0.step)⟩
     ·replace c5:=Bool.eq_false_iff.mpr c5
      subst c5
      have H1 : (some false) = some r:=by rw [if_neg (show ¬ (false = true) by decide)] at H;exact H
      clear H
      have H:=H1
      clear H1
      obtain rfl:=Option.some.inj H
      have p130 : 0 ≤ (x3_1 : Int):=of_decide_eq_true aa_
      have q130 : x3_1 < (l0.length : Int):=of_decide_eq_true aa_
      obtain ⟨ad130,e130,hx130_0⟩:=Kd.at_f64 HR0.out x3_1 p130 q130
      cases e130
      replace p130:=eq_true p130
      replace q130:=eq_true q130
      go_wp2_with (first|((with_reducible refine gate_callee (f:=29) rfl ?_);refine goesL_ (some 14) rfl rfl Try.func29 (by kernel_rfl) rfl #[.float .f64 (rdOf (0 : Nat) l0 x3_1)] rfl am_ ?_;(with_reducible refine (quarryref13_Finite.calls (rdOf (0 : Nat) l0 x3_1) false _ A4.out).mono ?_);rintro e w' ⟨rfl,⟨nd,rfl⟩⟩;refine ⟨_,rfl,?_⟩))
      go_ret
      exact ⟨by first|rfl|(simp;done)|(simp [*];done),by repeat (first|exact Drawn0.refl _|apply Drawn0.step)⟩
    ·rw [if_neg c3] at H
     exact absurd H (by simp)
   ·rw [if_neg c2] at H
    have c2b0 : decide (x3_1 < (l0.length : Int)) = false:=decide_eq_false c2
    clear c2
    obtain rfl:=Option.some.inj H
    go_wp2
    go_ret
    exact ⟨by first|rfl|(simp;done)|(simp [*];done),by repeat (first|exact Drawn0.refl _|apply Drawn0.step)⟩
def quarryref31_floats.f (a0_0 : Int) (a0_1 : Nat) (a0_2 : Nat) (a0_3 : Nat) (a0_4 : Nat) (a0_5 : Nat) (a0_6 : Nat) : Option (List Nat):=some (([a0_1,a0_2,a0_3,a0_4,a0_5,a0_6] : List Nat))
set_option maxHeartbeats 8000000 in
set_option maxRecDepth 100000 in
theorem quarryref31_floats.calls (a0_0 : Int) (a0_1 : Nat) (a0_2 : Nat) (a0_3 : Nat) (a0_4 : Nat) (a0_5 : Nat) (a0_6 : Nat) (r : List Nat) (w : World) (h : quarryref31_floats.f a0_0 a0_1 a0_2 a0_3 a0_4 a0_5 a0_6 = some r) :
  Calls Try.prog 71 #[.agg #[.int .i64 a0_0,.float .f64 a0_1,.float .f64 a0_2,.float .f64 a0_3,.float .f64 a0_4,.float .f64 a0_5,.float .f64 a0_6]] w fun e w'=>∃ v0_ : Value,e = .returned (v0_) ∧ Kd.R Kd.f64 24 w' w.heap.size (fun _=>True) v0_ r ∧ Below w.heap.size w w':=by
 have hu26:=Try.underlying26
 have HB:=Aside0.mk (Below.refl w.heap.size w)
 have H : (some (([a0_1,a0_2,a0_3,a0_4,a0_5,a0_6] : List Nat))) = some r:=h
 clear h
 obtain ⟨y133,hy133⟩ : ∃ y_ : List Nat,y_ = (([a0_1,a0_2,a0_3,a0_4,a0_5,a0_6] : List Nat)):=⟨_,rfl⟩
 replace H : (some y133) = some r:=by first|(rw [hy133];with_reducible exact H)|(have H2_:=(Option.bind_some _ _).symm.trans H;rw [hy133];with_reducible exact H2_)|(have H2_:=(Option.bind_some _ _).symm.trans H;with_reducible exact H2_)|with_reducible exact H|(rw [hy133];exact H)|exact H
 have Ny133:=Aside0.mk hy133
 clear hy133
 obtain rfl:=Option.some.inj H
 go_enter Try.func71,Try.ntmps71
 go_wp2_with (first|((with_reducible refine gate_dst (N:=1) rfl ?_);refine box_event ?hg (N:=1) ?hd (cs:=#[.int .i64 a0_0,.float .f64 a0_1,.float .f64 a0_2,.float .f64 a0_3,.float .f64 a0_4,.float .f64 a0_5,.float .f64 a0_6]) (t:=26) ?hr ?_;(case hd=>rfl);(case hg=>rfl);(case hr=>first|(go_simp;done)|(go_simp;rfl));intro gb132 hg w2 hbox hb;have n_:=J_ (below_step (hb_ HB) hb) (J_ (hbox) (J_ (bs_ hg HB) (Aside0.mk (bs_ hg HB))));clear HB;obtain ⟨HB,BK132,GW132,GE132⟩:=n_;clear hb hbox hg;obtain ⟨hcz3_0,hcz3_1,hcz3_2,hcz3_3,hcz3_4,hcz3_5,hcz3_6,hfz3_0,hfz3_1,hfz3_2,hfz3_3,hfz3_4,hfz3_5,hfz3_6⟩:=cf7_ BK132)|((with_reducible refine gate_dst (N:=15) rfl ?_);refine Kd.R_lit Kd.f64 _ 24 ?hg (N:=15) ?hd (xs:=([a0_1,a0_2,a0_3,a0_4,a0_5,a0_6] : List Nat)) (inner:=[.float .f64 a0_1,.float .f64 a0_2,.float .f64 a0_3,.float .f64 a0_4,.float .f64 a0_5,.float .f64 a0_6]) (ok:=fun _=>True) (okp:=fun _=>True) ?hr ?hp (fun _ hk=>hk) trivial (Below.refl _ _) (Nat.le_refl _) (by simp) ?_;(case hd=>rfl);(case hg=>rfl);(case hr=>first|(go_simp;done)|(go_simp;rfl));(case hp=>exact (Reps.one (show Kd.M Kd.f64 _ _ _ a0_1 [.float .f64 a0_1] from rfl) (Reps.one (show Kd.M Kd.f64 _ _ _ a0_2 [.float .f64 a0_2] from rfl) (Reps.one (show Kd.M Kd.f64 _ _ _ a0_3 [.float .f64 a0_3] from rfl) (Reps.one (show Kd.M Kd.f64 _ _ _ a0_4 [.float .f64 a0_4] from rfl) (Reps.one (show Kd.M Kd.f64 _ _ _ a0_5 [.float .f64 a0_5] from rfl) (Reps.one (show Kd.M Kd.f64 _ _ _ a0_6 [.float .f64 a0_6] from rfl) (Reps.none _ _))))))));intro v134 w4 ho5 hb hg_ hnew_;clear hg_ hnew_;(first|rw [← Ny133.out] at ho5|(simp only [Int.reduceToNat] at ho5;rw [← Ny133.out] at ho5));have n_:=J_ (Kd.R_lower ho5 (below_size (hb_ HB))) (J_ (bkb_ BK132 hb) (Aside0.mk (below_step (hb_ HB) hb)));clear BK132 HB;obtain ⟨HO135,BK132,HB⟩:=n_;clear hb ho5))
 go_ret
 exact ⟨_,er_,(rk_ HO135),(hb_ HB)⟩
def quarryref31_Formed.j0 : Nat → Bool → Int → Nat → Nat → Nat → Nat → Nat → Nat → Option (Bool)
 | 0,_,_,_,_,_,_,_,_=>none
 | k + 1,x10,x137000,x137001,x137002,x137003,x137004,x137005,x137006=>if x10 = true then (some (x137000 == 0 && (Op.floatEq .f64 x137001 0 && (Op.floatEq .f64 x137002 0 && (Op.floatEq .f64 x137003 0 && (Op.floatEq .f64 x137004 0 && (Op.floatEq .f64 x137005 0 && (Op.floatEq .f64 x137006 0)))))))) else ((quarryref31_floats.f x137000 x137001 x137002 x137003 x137004 x137005 x137006).bind fun t137=>((quarryref31_All.f k t137).bind fun t140=>(if t140 = true then (if (FloatKind.f64.format.order x137001 x137002 == some .lt || FloatKind.f64.format.order x137001 x137002 == some .eq) = true then (some (FloatKind.f64.format.order x137006 0 == some .gt || FloatKind.f64.format.order x137006 0 == some .eq)) else (some false)) else (some false))))
def quarryref31_Formed.f (k : Nat) (a0_0 : Int) (a0_1 : Nat) (a0_2 : Nat) (a0_3 : Nat) (a0_4 : Nat) (a0_5 : Nat) (a0_6 : Nat) : Option (Bool):=if a0_0 < 1 then (quarryref31_Formed.j0 k true a0_0 a0_1 a0_2 a0_3 a0_4 a0_5 a0_6) else (quarryref31_Formed.j0 k (decide (a0_0 > 4611686018427387904)) a0_0 a0_1 a0_2 a0_3 a0_4 a0_5 a0_6)
set_option maxHeartbeats 8000000 in
set_option maxRecDepth 100000 in
theorem quarryref31_Formed.calls (k : Nat) (a0_0 : Int) (a0_1 : Nat) (a0_2 : Nat) (a0_3 : Nat) (a0_4 : Nat) (a0_5 : Nat) (a0_6 : Nat) (r : Bool) (w : World) (h : quarryref31_Formed.f k a0_0 a0_1 a0_2 a0_3 a0_4 a0_5 a0_6 = some r) :
  Calls Try.prog 46 #[.agg #[.int .i64 a0_0,.float .f64 a0_1,.float .f64 a0_2,.float .f64 a0_3,.float .f64 a0_4,.float .f64 a0_5,.float .f64 a0_6]] w fun e w'=>e = .returned (.bool r) ∧ Below w.heap.size w w':=by
 have hu26:=Try.underlying26
 have HB:=Aside0.mk (Below.refl w.heap.size w)
 have H : (if a0_0 < 1 then (quarryref31_Formed.j0 k true a0_0 a0_1 a0_2 a0_3 a0_4 a0_5 a0_6) else (quarryref31_Formed.j0 k (decide (a0_0 > 4611686018427387904)) a0_0 a0_1 a0_2 a0_3 a0_4 a0_5 a0_6)) = some r:=h
 clear h
 have HC2:=Aside0.mk H
 clear H
 go_enter Try.func46,Try.ntmps46
 go_upto_region 1 with (first|((with_reducible refine gate_dst (N:=1) rfl ?_);refine box_event ?hg (N:=1) ?hd (cs:=#[.int .i64 a0_0,.float .f64 a0_1,.float .f64 a0_2,.float .f64 a0_3,.float .f64 a0_4,.float .f64 a0_5,.float .f64 a0_6]) (t:=26) ?hr ?_;(case hd=>rfl);(case hg=>rfl);(case hr=>first|(go_simp;done)|(go_simp;rfl));intro gb136 hg w3 hbox hb;have n_:=J_ (below_step (hb_ HB) hb) (J_ (hbox) (J_ (bs_ hg HB) (Aside0.mk (bs_ hg HB))));clear HB;obtain ⟨HB,BK136,GW136,GE136⟩:=n_;clear hb hbox hg))
 (try simp only [Act.put,List.setIfInBounds_toArray,List.set_cons_zero,List.set_cons_succ])
 go_cut [10] (fun v10 wc=>∃ (kq : Nat) (x10_1 : Bool),v10 = .bool x10_1 ∧ Aside0 (quarryref31_Formed.j0 kq x10_1 a0_0 a0_1 a0_2 a0_3 a0_4 a0_5 a0_6 = some r) ∧ Aside0 (kq ≤ k) ∧ Aside0 (wc.heap[gb136]? = some (.cells #[.int .i64 a0_0,.float .f64 a0_1,.float .f64 a0_2,.float .f64 a0_3,.float .f64 a0_4,.float .f64 a0_5,.float .f64 a0_6] 26 (0,0))) ∧ Aside0 (Below w.heap.size w wc))
 case first =>
  have H:=HC2.out
  clear HC2
  by_cases c4 : a0_0 < 1
  ·rw [if_pos c4] at H
   have c4b0 : decide (a0_0 < 1) = true:=decide_eq_true c4
   clear c4
   (first|rw [c4b0]|(simp only [i64_w,i32_w];rw [c4b0])|skip)
   have H':=Aside0.mk H
   clear H
   obtain ⟨hcz5_0,hcz5_1,hcz5_2,hcz5_3,hcz5_4,hcz5_5,hcz5_6,hfz5_0,hfz5_1,hfz5_2,hfz5_3,hfz5_4,hfz5_5,hfz5_6⟩:=cf7_ BK136
   go_wp2
   go_meet
   case rel=>exact ⟨_,(true),rr_,(by first|exact H'|(subst_vars;exact H')),⟨by first|omega|exact Nat.le_refl _⟩,⟨(bk_ BK136)⟩,⟨(hb_ HB)⟩⟩
  ·rw [if_neg c4] at H
   have c4b0 : decide (a0_0 < 1) = false:=decide_eq_false c4
   clear c4
   (first|rw [c4b0]|(simp only [i64_w,i32_w];rw [c4b0])|skip)
   have H':=Aside0.mk H
   clear H
   obtain ⟨hcz6_0,hcz6_1,hcz6_2,hcz6_3,hcz6_4,hcz6_5,hcz6_6,hfz6_0,hfz6_1,hfz6_2,hfz6_3,hfz6_4,hfz6_5,hfz6_6⟩:=cf7_ BK136
   go_wp2
   go_meet
   case rel=>exact ⟨_,(decide (a0_0 > 4611686018427387904)),rr_,(by first|exact H'|(subst_vars;exact H')),⟨by first|omega|exact Nat.le_refl _⟩,⟨(bk_ BK136)⟩,⟨(hb_ HB)⟩⟩
 case rest =>
  clear HC2
  obtain ⟨kq,x10_1,rfl,HA,HJ1,BK136,HB⟩:=hcut
  cases kq with
  | zero=>exact absurd HA.out (by simp [quarryref31_Formed.j0])
  | succ kj1 =>
   have H:=HA.out
   clear HA
   simp only [quarryref31_Formed.j0] at H
   by_cases c7 : x10_1 = true
   ·subst c7
    have H1 : (some (a0_0 == 0 && (Op.floatEq .f64 a0_1 0 && (Op.floatEq .f64 a0_2 0 && (Op.floatEq .f64 a0_3 0 && (Op.floatEq .f64 a0_4 0 && (Op.floatEq .f64 a0_5 0 && (Op.floatEq .f64 a0_6 0)))))))) = some r:=by rw [if_pos rfl] at H;exact H
    clear H
    have H:=H1
    clear H1
    obtain rfl:=Option.some.inj H
    obtain ⟨hcz8_0,hcz8_1,hcz8_2,hcz8_3,hcz8_4,hcz8_5,hcz8_6,hfz8_0,hfz8_1,hfz8_2,hfz8_3,hfz8_4,hfz8_5,hfz8_6⟩:=cf7_ BK136
    go_wp2
    go_ret
    exact ⟨er_,(hb_ HB)⟩
   ·replace c7:=Bool.eq_false_iff.mpr c7
    subst c7
    have H1 : ((quarryref31_floats.f a0_0 a0_1 a0_2 a0_3 a0_4 a0_5 a0_6).bind fun t137=>((quarryref31_All.f kj1 t137).bind fun t140=>(if t140 = true then (if (FloatKind.f64.format.order a0_1 a0_2 == some .lt || FloatKind.f64.format.order a0_1 a0_2 == some .eq) = true then (some (FloatKind.f64.format.order a0_6 0 == some .gt || FloatKind.f64.format.order a0_6 0 == some .eq)) else (some false)) else (some false)))) = some r:=by rw [if_neg (show ¬ (false = true) by decide)] at H;exact H
    clear H
    have H:=H1
    clear H1
    replace H:=Option.bind_eq_some_iff.mp H
    obtain ⟨t137,A90,H⟩:=H
    replace H : ((quarryref31_All.f kj1 t137).bind fun t140=>(if t140 = true then (if (FloatKind.f64.format.order a0_1 a0_2 == some .lt || FloatKind.f64.format.order a0_1 a0_2 == some .eq) = true then (some (FloatKind.f64.format.order a0_6 0 == some .gt || FloatKind.f64.format.order a0_6 0 == some .eq)) else (some false)) else (some false))) = some r:=H
    have A9:=Aside0.mk A90
    clear A90
    replace H:=Option.bind_eq_some_iff.mp H
    obtain ⟨t140,A100,H⟩:=H
    replace H : (if t140 = true then (if (FloatKind.f64.format.order a0_1 a0_2 == some .lt || FloatKind.f64.format.order a0_1 a0_2 == some .eq) = true then (some (FloatKind.f64.format.order a0_6 0 == some .gt || FloatKind.f64.format.order a0_6 0 == some .eq)) else (some false)) else (some false)) = some r:=H
    have A10:=Aside0.mk A100
    clear A100
    by_cases c11 : t140 = true
    ·subst c11
     have H1 : (if (FloatKind.f64.format.order a0_1 a0_2 == some .lt || FloatKind.f64.format.order a0_1 a0_2 == some .eq) = true then (some (FloatKind.f64.format.order a0_6 0 == some .gt || FloatKind.f64.format.order a0_6 0 == some .eq)) else (some false)) = some r:=by rw [if_pos rfl] at H;exact H
     clear H
     have H:=H1
     clear H1
     by_cases c12 : (FloatKind.f64.format.order a0_1 a0_2 == some .lt || FloatKind.f64.format.order a0_1 a0_2 == some .eq) = true
     ·rw [if_pos c12] at H
      have c12b0 : (FloatKind.f64.format.order a0_1 a0_2 == some .lt || FloatKind.f64.format.order a0_1 a0_2 == some .eq) = true:=c12
      (try (have c12b1 : decide (FloatKind.f64.format.order a0_1 a0_2 = some .lt || FloatKind.f64.format.order a0_1 a0_2 == some .eq) = true:=by simpa using c12))
      (try (have c12b2 : (FloatKind.f64.format.order a0_1 a0_2 == some .lt || FloatKind.f64.format.order a0_1 a0_2 == some .eq) = true:=by simpa using c12))
      clear c12
      obtain rfl:=Option.some.inj H
      obtain ⟨hcz13_0,hcz13_1,hcz13_2,hcz13_3,hcz13_4,hcz13_5,hcz13_6,hfz13_0,hfz13_1,hfz13_2,hfz13_3,hfz13_4,hfz13_5,hfz13_6⟩:=cf7_ BK136
      go_wp2_with (first|((with_reducible refine gate_callee (f:=71) rfl ?_);refine goesL_ (some 15) rfl rfl Try.func71 (by kernel_rfl) rfl #[.agg #[.int .i64 a0_0,.float .f64 a0_1,.float .f64 a0_2,.float .f64 a0_3,.float .f64 a0_4,.float .f64 a0_5,.float .f64 a0_6]] rfl am_ ?_;(with_reducible refine (quarryref31_floats.calls a0_0 a0_1 a0_2 a0_3 a0_4 a0_5 a0_6 t137 _ A9.out).mono ?_);rintro e w14 ⟨v138,rfl,ho0,hb⟩;refine ⟨_,rfl,?_⟩;have n_:=J_ (Kd.R_lower ho0 (below_size (hb_ HB))) (J_ (bkb_ BK136 hb) (Aside0.mk (below_step (hb_ HB) hb)));clear BK136 HB;obtain ⟨HO139,BK136,HB⟩:=n_;(try clear hb);(try clear hb2);(try clear hk);(try clear hi);(try clear ho0);obtain ⟨Ao15,co15,eo15⟩:=Kd.R_slice HO139.out;subst eo15)|((with_reducible refine gate_callee (f:=41) rfl ?_);refine goesL_ (some 16) rfl rfl Try.func41 (by kernel_rfl) rfl #[.slice Ao15 t137.length co15] rfl am_ ?_;(with_reducible refine (quarryref31_All.calls kj1 _ _ t137 true _ ?side1 ?side2 A10.out).mono ?_);(case side1=>repeat (first|exact (Kd.R_reads' HO139.out).2.2|(with_reducible refine Kd.C_alloc ?_ _)|(with_reducible refine Kd.C_drewN ?_ _)|(with_reducible refine Kd.C_drew ?_)));(case side2=>exact (Kd.R_reads' HO139.out).2.1);rintro e w' ⟨rfl,⟨nd,rfl⟩⟩;refine ⟨_,rfl,?_⟩;obtain ⟨hcz16_0,hcz16_1,hcz16_2,hcz16_3,hcz16_4,hcz16_5,hcz16_6,hfz16_0,hfz16_1,hfz16_2,hfz16_3,hfz16_4,hfz16_5,hfz16_6⟩:=cf7_ BK136))
      go_ret
      exact ⟨er_,(hb_ HB)⟩
     ·rw [if_neg c12] at H
      have c12b0 : (FloatKind.f64.format.order a0_1 a0_2 == some .lt || FloatKind.f64.format.order a0_1 a0_2 == some .eq) = false:=by simpa using c12
      (try (have c12b1 : decide (FloatKind.f64.format.order a0_1 a0_2 = some .lt || FloatKind.f64.format.order a0_1 a0_2 == some .eq) = false:=by simpa using c12))
      (try (have c12b2 : (FloatKind.f64.format.order a0_1 a0_2 == some .lt || FloatKind.f64.format.order a0_1 a0_2 == some .eq) = false:=by simpa using c12))
      (try (have c12b3 : ¬ (FloatKind.f64.format.order a0_1 a0_2 = some .lt || FloatKind.f64.format.order a0_1 a0_2 == some .eq):=by simpa using c12))
      clear c12
      obtain rfl:=Option.some.inj H
      obtain ⟨hcz17_0,hcz17_1,hcz17_2,hcz17_3,hcz17_4,hcz17_5,hcz17_6,hfz17_0,hfz17_1,hfz17_2,hfz17_3,hfz17_4,hfz17_5,hfz17_6⟩:=cf7_ BK136
      go_wp2_with (first|((with_reducible refine gate_callee (f:=71) rfl ?_);refine goesL_ (some 15) rfl rfl Try.func71 (by kernel_rfl) rfl #[.agg #[.int .i64 a0_0,.float .f64 a0_1,.float .f64 a0_2,.float .f64 a0_3,.float .f64 a0_4,.float .f64 a0_5,.float .f64 a0_6]] rfl am_ ?_;(with_reducible refine (quarryref31_floats.calls a0_0 a0_1 a0_2 a0_3 a0_4 a0_5 a0_6 t137 _ A9.out).mono ?_);rintro e w18 ⟨v138,rfl,ho0,hb⟩;refine ⟨_,rfl,?_⟩;have n_:=J_ (Kd.R_lower ho0 (below_size (hb_ HB))) (J_ (bkb_ BK136 hb) (Aside0.mk (below_step (hb_ HB) hb)));clear BK136 HB;obtain ⟨HO139,BK136,HB⟩:=n_;(try clear hb);(try clear hb2);(try clear hk);(try clear hi);(try clear ho0);obtain ⟨Ao19,co19,eo19⟩:=Kd.R_slice HO139.out;subst eo19)|((with_reducible refine gate_callee (f:=41) rfl ?_);refine goesL_ (some 16) rfl rfl Try.func41 (by kernel_rfl) rfl #[.slice Ao19 t137.length co19] rfl am_ ?_;(with_reducible refine (quarryref31_All.calls kj1 _ _ t137 true _ ?side1 ?side2 A10.out).mono ?_);(case side1=>repeat (first|exact (Kd.R_reads' HO139.out).2.2|(with_reducible refine Kd.C_alloc ?_ _)|(with_reducible refine Kd.C_drewN ?_ _)|(with_reducible refine Kd.C_drew ?_)));(case side2=>exact (Kd.R_reads' HO139.out).2.1);rintro e w' ⟨rfl,⟨nd,rfl⟩⟩;refine ⟨_,rfl,?_⟩;obtain ⟨hcz20_0,hcz20_1,hcz20_2,hcz20_3,hcz20_4,hcz20_5,hcz20_6,hfz20_0,hfz20_1,hfz20_2,hfz20_3,hfz20_4,hfz20_5,hfz20_6⟩:=cf7_ BK136))
      go_ret
      exact ⟨er_,(hb_ HB)⟩
    ·replace c11:=Bool.eq_false_iff.mpr c11
     subst c11
     have H1 : (some false) = some r:=by rw [if_neg (show ¬ (false = true) by decide)] at H;exact H
     clear H
     have H:=H1
     clear H1
     obtain rfl:=Option.some.inj H
     obtain ⟨hcz21_0,hcz21_1,hcz21_2,hcz21_3,hcz21_4,hcz21_5,hcz21_6,hfz21_0,hfz21_1,hfz21_2,hfz21_3,hfz21_4,hfz21_5,hfz21_6⟩:=cf7_ BK136
     go_wp2_with (first|((with_reducible refine gate_callee (f:=71) rfl ?_);refine goesL_ (some 15) rfl rfl Try.func71 (by kernel_rfl) rfl #[.agg #[.int .i64 a0_0,.float .f64 a0_1,.float .f64 a0_2,.float .f64 a0_3,.float .f64 a0_4,.float .f64 a0_5,.float .f64 a0_6]] rfl am_ ?_;(with_reducible refine (quarryref31_floats.calls a0_0 a0_1 a0_2 a0_3 a0_4 a0_5 a0_6 t137 _ A9.out).mono ?_);rintro e w22 ⟨v138,rfl,ho0,hb⟩;refine ⟨_,rfl,?_⟩;have n_:=J_ (Kd.R_lower ho0 (below_size (hb_ HB))) (J_ (bkb_ BK136 hb) (Aside0.mk (below_step (hb_ HB) hb)));clear BK136 HB;obtain ⟨HO139,BK136,HB⟩:=n_;(try clear hb);(try clear hb2);(try clear hk);(try clear hi);(try clear ho0);obtain ⟨Ao23,co23,eo23⟩:=Kd.R_slice HO139.out;subst eo23)|((with_reducible refine gate_callee (f:=41) rfl ?_);refine goesL_ (some 16) rfl rfl Try.func41 (by kernel_rfl) rfl #[.slice Ao23 t137.length co23] rfl am_ ?_;(with_reducible refine (quarryref31_All.calls kj1 _ _ t137 false _ ?side1 ?side2 A10.out).mono ?_);(case side1=>repeat (first|exact (Kd.R_reads' HO139.out).2.2|(with_reducible refine Kd.C_alloc ?_ _)|(with_reducible refine Kd.C_drewN ?_ _)|(with_reducible refine Kd.C_drew ?_)));(case side2=>exact (Kd.R_reads' HO139.out).2.1);rintro e w' ⟨rfl,⟨nd,rfl⟩⟩;refine ⟨_,rfl,?_⟩))
     go_ret
     exact ⟨er_,(hb_ HB)⟩
def quarryref13_At.f (a0_0 : Int) (a0_1 : Int) (a0_2 : Int) (a1 : Int) : Option (Int × Int):=if 0 ≤ (IntKind.u64.wrap (a0_0)) then (if a1 < (shl .u64 1 (IntKind.u64.wrap (a0_0))) then (some (a1,a0_1)) else (if (shl .u64 1 (IntKind.u64.wrap (a0_0))) = 0 then (none) else (some (IntKind.u64.wrap ((shl .u64 1 (IntKind.u64.wrap (a0_0))) + (Int.tmod a1 (shl .u64 1 (IntKind.u64.wrap (a0_0))))),wrap64 ((wrap64 (a0_1 + (wrap64 (IntKind.u64.wrap (Int.tdiv a1 (shl .u64 1 (IntKind.u64.wrap (a0_0)))))))) - 1))))) else (none)
set_option maxHeartbeats 8000000 in
set_option maxRecDepth 100000 in
theorem quarryref13_At.calls (a0_0 : Int) (a0_1 : Int) (a0_2 : Int) (a1 : Int) (r1 : Int) (r2 : Int) (w : World) (h : quarryref13_At.f a0_0 a0_1 a0_2 a1 = some (r1,r2)) :
  Calls Try.prog 74 #[.agg #[.int .i64 a0_0,.int .i64 a0_1,.int .u64 a0_2],.int .u64 a1] w fun e w'=>e = .returned (.tuple #[.int .u64 r1,.int .i64 r2]) ∧ Below w.heap.size w w':=by
 have hu90:=Try.underlying90
 have HB:=Aside0.mk (Below.refl w.heap.size w)
 have H : (if 0 ≤ (IntKind.u64.wrap (a0_0)) then (if a1 < (shl .u64 1 (IntKind.u64.wrap (a0_0))) then (some (a1,a0_1)) else (if (shl .u64 1 (IntKind.u64.wrap (a0_0))) = 0 then (none) else (some (IntKind.u64.wrap ((shl .u64 1 (IntKind.u64.wrap (a0_0))) + (Int.tmod a1 (shl .u64 1 (IntKind.u64.wrap (a0_0))))),wrap64 ((wrap64 (a0_1 + (wrap64 (IntKind.u64.wrap (Int.tdiv a1 (shl .u64 1 (IntKind.u64.wrap (a0_0)))))))) - 1))))) else (none)) = some (r1,r2):=h
 clear h
 obtain ⟨ji3,hji3⟩ : ∃ j_ : Int,(IntKind.u64.wrap (a0_0)) = j_:=⟨_,rfl⟩
 replace H : (if 0 ≤ (ji3) then (if a1 < (shl .u64 1 (ji3)) then (some (a1,a0_1)) else (if (shl .u64 1 (ji3)) = 0 then (none) else (some (IntKind.u64.wrap ((shl .u64 1 (ji3)) + (Int.tmod a1 (shl .u64 1 (ji3)))),wrap64 ((wrap64 (a0_1 + (wrap64 (IntKind.u64.wrap (Int.tdiv a1 (shl .u64 1 (ji3))))))) - 1))))) else (none)) = some (r1,r2):=by first|(rw [hji3] at H;exact H)|(simp only [hji3] at H ⊢;exact H)
 by_cases c4 : 0 ≤ (ji3)
 ·rw [if_pos c4] at H
  have c4b0:=eq_true c4
  have c4b1 : decide (0 ≤ (ji3)) = true:=decide_eq_true c4
  clear c4
  obtain ⟨ji5,hji5⟩ : ∃ j_ : Int,(shl .u64 1 (ji3)) = j_:=⟨_,rfl⟩
  replace H : (if a1 < (ji5) then (some (a1,a0_1)) else (if (ji5) = 0 then (none) else (some (IntKind.u64.wrap ((ji5) + (Int.tmod a1 (ji5))),wrap64 ((wrap64 (a0_1 + (wrap64 (IntKind.u64.wrap (Int.tdiv a1 (ji5)))))) - 1))))) = some (r1,r2):=by first|(rw [hji5] at H;exact H)|(simp only [hji5] at H ⊢;exact H)
  have hji5_ : (IntKind.u64.wrap (1 * 2 ^ min (ji3).toNat 64)) = ji5:=hji5
  have hji5z : (ji3) ≤ 64 → (IntKind.u64.wrap (1 * 2 ^ (ji3).toNat)) = ji5:=shl_small hji5
  have hji5u : (IntKind.u64.wrap (2 ^ min (ji3).toNat 64)) = ji5:=by have h_:=hji5_;rw [Int.one_mul] at h_;exact h_
  have hji5v : (ji3) ≤ 64 → (IntKind.u64.wrap (2 ^ (ji3).toNat)) = ji5:=fun hle_=>by have h_:=hji5z hle_;rw [Int.one_mul] at h_;exact h_
  by_cases c6 : a1 < (ji5)
  ·rw [if_pos c6] at H
   have c6b0 : decide (a1 < (ji5)) = true:=decide_eq_true c6
   clear c6
   simp only [Option.some.injEq,Prod.mk.injEq] at H
   obtain ⟨rfl,rfl⟩:=H
   go_enter Try.func74,Try.ntmps74
   go_wp2_with (first|((with_reducible refine gate_dst (N:=2) rfl ?_);refine box_event ?hg (N:=2) ?hd (cs:=#[.int .i64 a0_0,.int .i64 a0_1,.int .u64 a0_2]) (t:=90) ?hr ?_;(case hd=>rfl);(case hg=>rfl);(case hr=>first|(go_simp;done)|(go_simp;rfl));intro gb141 hg w7 hbox hb;have n_:=J_ (below_step (hb_ HB) hb) (J_ (hbox) (J_ (bs_ hg HB) (Aside0.mk (bs_ hg HB))));clear HB;obtain ⟨HB,BK141,GW141,GE141⟩:=n_;clear hb hbox hg;obtain ⟨hcz8_0,hcz8_1,hcz8_2,hfz8_0,hfz8_1,hfz8_2⟩:=cf3_ BK141))
   repeat (go_quiet (first|((with_reducible refine gate_dst (N:=2) rfl ?_);refine box_event ?hg (N:=2) ?hd (cs:=#[.int .i64 a0_0,.int .i64 a0_1,.int .u64 a0_2]) (t:=90) ?hr ?_;(case hd=>rfl);(case hg=>rfl);(case hr=>first|(go_simp;done)|(go_simp;rfl));intro gb141 hg w7 hbox hb;have n_:=J_ (below_step (hb_ HB) hb) (J_ (hbox) (J_ (bs_ hg HB) (Aside0.mk (bs_ hg HB))));clear HB;obtain ⟨HB,BK141,GW141,GE141⟩:=n_;clear hb hbox hg;obtain ⟨hcz8_0,hcz8_1,hcz8_2,hfz8_0,hfz8_1,hfz8_2⟩:=cf3_ BK141));try go_wp2_with (first|((with_reducible refine gate_dst (N:=2) rfl ?_);refine box_event ?hg (N:=2) ?hd (cs:=#[.int .i64 a0_0,.int .i64 a0_1,.int .u64 a0_2]) (t:=90) ?hr ?_;(case hd=>rfl);(case hg=>rfl);(case hr=>first|(go_simp;done)|(go_simp;rfl));intro gb141 hg w7 hbox hb;have n_:=J_ (below_step (hb_ HB) hb) (J_ (hbox) (J_ (bs_ hg HB) (Aside0.mk (bs_ hg HB))));clear HB;obtain ⟨HB,BK141,GW141,GE141⟩:=n_;clear hb hbox hg;obtain ⟨hcz8_0,hcz8_1,hcz8_2,hfz8_0,hfz8_1,hfz8_2⟩:=cf3_ BK141)))
   go_ret2
   exact ⟨by first|rfl|(simp [errW_none,errW_some] <;> rfl)|(simp only [← hji3,← hji5];first|rfl|(simp [errW_none,errW_some] <;> rfl))|(simp [*,errW_none,errW_some] <;> rfl),(hb_ HB)⟩
  ·rw [if_neg c6] at H
   have c6b0 : decide (a1 < (ji5)) = false:=decide_eq_false c6
   clear c6
   by_cases c9 : (ji5) = 0
   ·rw [if_pos c9] at H
    exact absurd H (by simp)
   ·rw [if_neg c9] at H
    have c9b0 : ((ji5) == 0) = false:=beq_eq_false_iff_ne.mpr c9
    have c9b1 : ((ji5) != 0) = true:=bne_iff_ne.mpr c9
    simp only [Option.some.injEq,Prod.mk.injEq] at H
    obtain ⟨rfl,rfl⟩:=H
    go_enter Try.func74,Try.ntmps74
    go_wp2_with (first|((with_reducible refine gate_dst (N:=2) rfl ?_);refine box_event ?hg (N:=2) ?hd (cs:=#[.int .i64 a0_0,.int .i64 a0_1,.int .u64 a0_2]) (t:=90) ?hr ?_;(case hd=>rfl);(case hg=>rfl);(case hr=>first|(go_simp;done)|(go_simp;rfl));intro gb141 hg w10 hbox hb;have n_:=J_ (below_step (hb_ HB) hb) (J_ (hbox) (J_ (bs_ hg HB) (Aside0.mk (bs_ hg HB))));clear HB;obtain ⟨HB,BK141,GW141,GE141⟩:=n_;clear hb hbox hg;obtain ⟨hcz11_0,hcz11_1,hcz11_2,hfz11_0,hfz11_1,hfz11_2⟩:=cf3_ BK141))
    repeat (go_quiet (first|((with_reducible refine gate_dst (N:=2) rfl ?_);refine box_event ?hg (N:=2) ?hd (cs:=#[.int .i64 a0_0,.int .i64 a0_1,.int .u64 a0_2]) (t:=90) ?hr ?_;(case hd=>rfl);(case hg=>rfl);(case hr=>first|(go_simp;done)|(go_simp;rfl));intro gb141 hg w10 hbox hb;have n_:=J_ (below_step (hb_ HB) hb) (J_ (hbox) (J_ (bs_ hg HB) (Aside0.mk (bs_ hg HB))));clear HB;obtain ⟨HB,BK141,GW141,GE141⟩:=n_;clear hb hbox hg;obtain ⟨hcz11_0,hcz11_1,hcz11_2,hfz11_0,hfz11_1,hfz11_2⟩:=cf3_ BK141));try go_wp2_with (first|((with_reducible refine gate_dst (N:=2) rfl ?_);refine box_event ?hg (N:=2) ?hd (cs:=#[.int .i64 a0_0,.int .i64 a0_1,.int .u64 a0_2]) (t:=90) ?hr ?_;(case hd=>rfl);(case hg=>rfl);(case hr=>first|(go_simp;done)|(go_simp;rfl));intro gb141 hg w10 hbox hb;have n_:=J_ (below_step (hb_ HB) hb) (J_ (hbox) (J_ (bs_ hg HB) (Aside0.mk (bs_ hg HB))));clear HB;obtain ⟨HB,BK141,GW141,GE141⟩:=n_;clear hb hbox hg;obtain ⟨hcz11_0,hcz11_1,hcz11_2,hfz11_0,hfz11_1,hfz11_2⟩:=cf3_ BK141)))
    go_ret2
    exact ⟨by first|rfl|(simp [errW_none,errW_some] <;> rfl)|(simp only [← hji3,← hji5];first|rfl|(simp [errW_none,errW_some] <;> rfl))|(simp [*,errW_none,errW_some] <;> rfl),(hb_ HB)⟩
 ·rw [if_neg c4] at H
  exact absurd H (by simp)
def quarryref13_Long.f  : Option (Int × Int × Int):=some (52,(-1074),9218868437227405312)
set_option maxHeartbeats 8000000 in
set_option maxRecDepth 100000 in
theorem quarryref13_Long.calls  (r1 : Int) (r2 : Int) (r3 : Int) (w : World) (h : quarryref13_Long.f  = some (r1,r2,r3)) :
  Calls Try.prog 75 #[] w fun e w'=>e = .returned (.agg #[.int .i64 r1,.int .i64 r2,.int .u64 r3]) ∧ Below w.heap.size w w':=by
 have hu90:=Try.underlying90
 have HB:=Aside0.mk (Below.refl w.heap.size w)
 have H : (some (52,(-1074),9218868437227405312)) = some (r1,r2,r3):=h
 clear h
 simp only [Option.some.injEq,Prod.mk.injEq] at H
 obtain ⟨rfl,rfl,rfl⟩:=H
 go_enter Try.func75,Try.ntmps75
 go_wp2_with (first|((with_reducible refine gate_dst (N:=0) rfl ?_);refine box_event ?hg (N:=0) ?hd (cs:=#[.int .i64 0,.int .i64 0,.int .u64 0]) (t:=90) ?hr ?_;(case hd=>rfl);(case hg=>rfl);(case hr=>first|(go_simp;done)|(go_simp;rfl));intro gb142 hg w1 hbox hb;have n_:=J_ (below_step (hb_ HB) hb) (J_ (hbox) (J_ (bs_ hg HB) (Aside0.mk (bs_ hg HB))));clear HB;obtain ⟨HB,BK142,GW142,GE142⟩:=n_;clear hb hbox hg;obtain ⟨hcz2_0,hcz2_1,hcz2_2,hfz2_0,hfz2_1,hfz2_2⟩:=cf3_ BK142))
 refine bodyPost_ret (results_cell_row rfl _ _ gb142 90 #[.int .i64 52,.int .i64 (-1074),.int .u64 9218868437227405312] (0,0) _ rfl (by (with_reducible repeat (first|refine blk_drewN ?_ _|refine blk_drew ?_|refine blk_alloc ?_ _));refine bp_ (cs:=#[.int .i64 52,.int .i64 (-1074),.int .u64 0]) ?_ 2 _;refine bp_ (cs:=#[.int .i64 52,.int .i64 0,.int .u64 0]) ?_ 1 _;refine bp_ (cs:=#[.int .i64 0,.int .i64 0,.int .u64 0]) ?_ 0 _;(with_reducible repeat (first|refine blk_drewN ?_ _|refine blk_drew ?_|refine blk_alloc ?_ _));exact BK142.out) Try.underlying90 rfl (by kernel_rfl)) rfl ?_
 exact ⟨er_,(hb_ HB)⟩
mutual
def quarryref13_float.l0 : Nat → Bool → Int → Nat → Int → Option (Nat)
 | 0,_,_,_,_=>none
 | k + 1,x0,x2,x7,x8=>if x8 < x2 then (if fok .mul x7 4611686018427387904 = true then (quarryref13_float.l0 k x0 x2 (fop .mul x7 4611686018427387904) (wrap64 (x8 + 1))) else (none)) else (quarryref13_float.l1 k x0 x7 x2)
def quarryref13_float.l1 : Nat → Bool → Nat → Int → Option (Nat)
 | 0,_,_,_=>none
 | k + 1,x0,x7,x9=>if x9 < 0 then (if fok .quo x7 4611686018427387904 = true then (quarryref13_float.l1 k x0 (fop .quo x7 4611686018427387904) (wrap64 (x9 + 1))) else (none)) else (if x0 = true then (some (Op.negFloat .f64 x7)) else (some x7))
end
def quarryref13_float.f (k : Nat) (a0 : Bool) (a1 : Int) (a2 : Int) : Option (Nat):=quarryref13_float.l0 k a0 a2 (floatOfInt .f64 a1) 0
set_option maxHeartbeats 8000000 in
set_option maxRecDepth 100000 in
theorem quarryref13_float.calls (k : Nat) (a0 : Bool) (a1 : Int) (a2 : Int) (r : Nat) (w : World) (h : quarryref13_float.f k a0 a1 a2 = some r) :
  Calls Try.prog 87 #[.bool a0,.int .u64 a1,.int .i64 a2] w fun e w'=>e = .returned (.float .f64 r) ∧ Drawn0 w w':=by
 have H : (quarryref13_float.l0 k a0 a2 (floatOfInt .f64 a1) 0) = some r:=h
 clear h
 have H':=Aside0.mk H
 clear H
 go_enter Try.func87,Try.ntmps87
 go_wp2
 go_loopg [7,8] k (fun kq v7 v8 w'=>∃ (x7_1 : Nat) (x8_1 : Int),v7 = .float .f64 x7_1 ∧ v8 = .int .i64 x8_1 ∧ Aside0 (quarryref13_float.l0 kq a0 a2 x7_1 x8_1 = some r) ∧ Aside0 (kq ≤ k) ∧ Drawn0 w w')
 case atStart=>exact ⟨(floatOfInt .f64 a1),(0),rr_,rr_,H',⟨Nat.le_refl _⟩,by repeat (first|exact Drawn0.refl _|apply Drawn0.step)⟩
 case round =>
  clear H'
  obtain ⟨x7_1,x8_1,rfl,rfl,HA,HK1,⟨m1,rfl⟩⟩:=hrel
  cases gk with
  | zero=>exact absurd HA.out (by simp [quarryref13_float.l0])
  | succ k1 =>
   have H:=HA.out
   clear HA
   simp only [quarryref13_float.l0] at H
   by_cases c4 : x8_1 < a2
   ·rw [if_pos c4] at H
    have c4b0 : decide (x8_1 < a2) = true:=decide_eq_true c4
    clear c4
    by_cases c5 : fok .mul x7_1 4611686018427387904 = true
    ·rw [if_pos c5] at H
     have c5b0:=eq_true c5
     have c5b1 : decide (fok .mul x7_1 4611686018427387904 = true) = true:=decide_eq_true c5
     clear c5
     have H':=Aside0.mk H
     clear H
     go_wp2
     go_roundg k1
     case measure=>have:=HK1.out;omega
     case rel=>exact ⟨(fop .mul x7_1 4611686018427387904),(wrap64 (x8_1 + 1)),rr_,rr_,(by first|exact H'|(subst_vars;exact H')),⟨by have:=HK1.out;omega⟩,by repeat (first|exact Drawn0.refl _|apply Drawn0.step)⟩
    ·rw [if_neg c5] at H
     exact absurd H (by simp)
   ·rw [if_neg c4] at H
    have c4b0 : decide (x8_1 < a2) = false:=decide_eq_false c4
    clear c4
    have H':=Aside0.mk H
    clear H
    go_wp2
    go_loopg [7,9] k1 (fun kq v7 v9 w'=>∃ (x7_2 : Nat) (x9_2 : Int),v7 = .float .f64 x7_2 ∧ v9 = .int .i64 x9_2 ∧ Aside0 (quarryref13_float.l1 kq a0 x7_2 x9_2 = some r) ∧ Aside0 (kq ≤ k1) ∧ Drawn0 w w')
    case atStart=>exact ⟨(x7_1),(a2),rr_,rr_,H',⟨Nat.le_refl _⟩,by repeat (first|exact Drawn0.refl _|apply Drawn0.step)⟩
    case round =>
     clear H'
     obtain ⟨x7_2,x9_2,rfl,rfl,HA,HK2,⟨m2,rfl⟩⟩:=hrel
     cases gk with
     | zero=>exact absurd HA.out (by simp [quarryref13_float.l1])
     | succ k2 =>
      have H:=HA.out
      clear HA
      simp only [quarryref13_float.l1] at H
      by_cases c6 : x9_2 < 0
      ·rw [if_pos c6] at H
       have c6b0 : decide (x9_2 < 0) = true:=decide_eq_true c6
       clear c6
       by_cases c7 : fok .quo x7_2 4611686018427387904 = true
       ·rw [if_pos c7] at H
        have c7b0:=eq_true c7
        have c7b1 : decide (fok .quo x7_2 4611686018427387904 = true) = true:=decide_eq_true c7
        clear c7
        have H':=Aside0.mk H
        clear H
        go_wp2
        go_roundg k2
        case measure=>have:=HK1.out;have:=HK2.out;omega
        case rel=>exact ⟨(fop .quo x7_2 4611686018427387904),(wrap64 (x9_2 + 1)),rr_,rr_,(by first|exact H'|(subst_vars;exact H')),⟨by have:=HK1.out;have:=HK2.out;omega⟩,by repeat (first|exact Drawn0.refl _|apply Drawn0.step)⟩
       ·rw [if_neg c7] at H
        exact absurd H (by simp)
      ·rw [if_neg c6] at H
       have c6b0 : decide (x9_2 < 0) = false:=decide_eq_false c6
       clear c6
       by_cases c8 : a0 = true
       ·subst c8
        have H1 : (some (Op.negFloat .f64 x7_2)) = some r:=by rw [if_pos rfl] at H;exact H
        clear H
        have H:=H1
        clear H1
        obtain rfl:=Option.some.inj H
        go_wp2
        go_ret
        exact ⟨by first|rfl|(simp;done)|(simp [*];done),by repeat (first|exact Drawn0.refl _|apply Drawn0.step)⟩
       ·replace c8:=Bool.eq_false_iff.mpr c8
        subst c8
        have H1 : (some x7_2) = some r:=by rw [if_neg (show ¬ (false = true) by decide)] at H;exact H
        clear H
        have H:=H1
        clear H1
        obtain rfl:=Option.some.inj H
        go_wp2
        go_ret
        exact ⟨by first|rfl|(simp;done)|(simp [*];done),by repeat (first|exact Drawn0.refl _|apply Drawn0.step)⟩
def quarryref13_Float.f (k : Nat) (a0 : Bool) (a1 : Int) : Option (Nat):=(quarryref13_Long.f).bind fun bt143=>((quarryref13_At.f bt143.1 bt143.2.1 bt143.2.2 a1).bind fun bt146=>((quarryref13_float.f k a0 bt146.1 bt146.2).bind fun t148=>(some t148)))
set_option maxHeartbeats 8000000 in
set_option maxRecDepth 100000 in
theorem quarryref13_Float.calls (k : Nat) (a0 : Bool) (a1 : Int) (r : Nat) (w : World) (h : quarryref13_Float.f k a0 a1 = some r) :
  Calls Try.prog 86 #[.bool a0,.int .u64 a1] w fun e w'=>e = .returned (.float .f64 r) ∧ Below w.heap.size w w':=by
 have HB:=Aside0.mk (Below.refl w.heap.size w)
 have H : ((quarryref13_Long.f).bind fun bt143=>((quarryref13_At.f bt143.1 bt143.2.1 bt143.2.2 a1).bind fun bt146=>((quarryref13_float.f k a0 bt146.1 bt146.2).bind fun t148=>(some t148)))) = some r:=h
 clear h
 replace H:=Option.bind_eq_some_iff.mp H
 obtain ⟨⟨t143,t144,t145⟩,A30,H⟩:=H
 replace H : ((quarryref13_At.f t143 t144 t145 a1).bind fun bt146=>((quarryref13_float.f k a0 bt146.1 bt146.2).bind fun t148=>(some t148))) = some r:=H
 have A3:=Aside0.mk A30
 clear A30
 replace H:=Option.bind_eq_some_iff.mp H
 obtain ⟨⟨t146,t147⟩,A40,H⟩:=H
 replace H : ((quarryref13_float.f k a0 t146 t147).bind fun t148=>(some t148)) = some r:=H
 have A4:=Aside0.mk A40
 clear A40
 replace H:=Option.bind_eq_some_iff.mp H
 obtain ⟨t148,A50,H⟩:=H
 replace H : (some t148) = some r:=H
 have A5:=Aside0.mk A50
 clear A50
 obtain rfl:=Option.some.inj H
 go_enter Try.func86,Try.ntmps86
 go_wp2_with (first|((with_reducible refine gate_callee (f:=75) rfl ?_);refine goesL_ (some 8) rfl rfl Try.func75 (by kernel_rfl) rfl #[] rfl am_ ?_;(with_reducible refine (quarryref13_Long.calls  t143 t144 t145 _ A3.out).mono ?_);rintro e w6 ⟨rfl,hb⟩;refine ⟨_,rfl,?_⟩;have n0_:=Aside0.mk (below_step (hb_ HB) hb);clear HB;have HB:=n0_;clear n0_;(try clear hb);(try clear hb2);(try clear hk);(try clear hi))|((with_reducible refine gate_callee (f:=74) rfl ?_);refine goesL_ (some 10) rfl rfl Try.func74 (by kernel_rfl) rfl #[.agg #[.int .i64 t143,.int .i64 t144,.int .u64 t145],.int .u64 a1] rfl am_ ?_;(with_reducible refine (quarryref13_At.calls t143 t144 t145 a1 t146 t147 _ A4.out).mono ?_);rintro e w7 ⟨rfl,hb⟩;refine ⟨_,rfl,?_⟩;have n0_:=Aside0.mk (below_step (hb_ HB) hb);clear HB;have HB:=n0_;clear n0_;(try clear hb);(try clear hb2);(try clear hk);(try clear hi))|((with_reducible refine gate_callee (f:=87) rfl ?_);refine goesL_ (some 16) rfl rfl Try.func87 (by kernel_rfl) rfl #[.bool a0,.int .u64 t146,.int .i64 t147] rfl am_ ?_;(with_reducible refine (quarryref13_float.calls k a0 t146 t147 t148 _ A5.out).mono ?_);rintro e w' ⟨rfl,⟨nd,rfl⟩⟩;refine ⟨_,rfl,?_⟩))
 go_ret
 exact ⟨er_,(hb_ HB)⟩
mutual
def quarryref13_Number.j0 : Nat → Nat → Option (Int)
 | 0,_=>none
 | k + 1,x0=>(quarryref13_Long.f).bind fun bt149=>(quarryref13_Number.l0 k x0 0 bt149.2.2)
def quarryref13_Number.l0 : Nat → Nat → Int → Int → Option (Int)
 | 0,_,_,_=>none
 | k + 1,x0,x3,x4=>if (IntKind.u64.wrap (x4 - x3)) > 1 then ((quarryref13_Float.f k false (IntKind.u64.wrap (x3 + (IntKind.u64.wrap (Int.tdiv (IntKind.u64.wrap (x4 - x3)) 2))))).bind fun t152=>(if (FloatKind.f64.format.order t152 x0 == some .lt || FloatKind.f64.format.order t152 x0 == some .eq) = true then (quarryref13_Number.l0 k x0 (IntKind.u64.wrap (x3 + (IntKind.u64.wrap (Int.tdiv (IntKind.u64.wrap (x4 - x3)) 2)))) x4) else (quarryref13_Number.l0 k x0 x3 (IntKind.u64.wrap (x3 + (IntKind.u64.wrap (Int.tdiv (IntKind.u64.wrap (x4 - x3)) 2))))))) else (some x3)
end
def quarryref13_Number.f (k : Nat) (a0 : Nat) : Option (Int):=if (FloatKind.f64.format.order a0 0 == some .lt) = true then (quarryref13_Number.j0 k (Op.negFloat .f64 a0)) else (quarryref13_Number.j0 k a0)
set_option maxHeartbeats 8000000 in
set_option maxRecDepth 100000 in
theorem quarryref13_Number.calls (k : Nat) (a0 : Nat) (r : Int) (w : World) (h : quarryref13_Number.f k a0 = some r) :
  Calls Try.prog 76 #[.float .f64 a0] w fun e w'=>e = .returned (.int .u64 r) ∧ Below w.heap.size w w':=by
 have hu90:=Try.underlying90
 have HB:=Aside0.mk (Below.refl w.heap.size w)
 have H : (if (FloatKind.f64.format.order a0 0 == some .lt) = true then (quarryref13_Number.j0 k (Op.negFloat .f64 a0)) else (quarryref13_Number.j0 k a0)) = some r:=h
 clear h
 have HC2:=Aside0.mk H
 clear H
 go_enter Try.func76,Try.ntmps76
 go_upto_if 7 with (fail)
 go_cut [0] (fun v0 wc=>∃ (kq : Nat) (x0_1 : Nat),v0 = .float .f64 x0_1 ∧ Aside0 (quarryref13_Number.j0 kq x0_1 = some r) ∧ Aside0 (kq ≤ k) ∧ Aside0 (Below w.heap.size w wc))
 case first =>
  have H:=HC2.out
  clear HC2
  by_cases c3 : (FloatKind.f64.format.order a0 0 == some .lt) = true
  ·rw [if_pos c3] at H
   have c3b0 : (FloatKind.f64.format.order a0 0 == some .lt) = true:=c3
   (try (have c3b1 : decide (FloatKind.f64.format.order a0 0 = some .lt) = true:=by simpa using c3))
   (try (have c3b2 : (FloatKind.f64.format.order a0 0 == some .lt) = true:=by simpa using c3))
   clear c3
   (first|rw [c3b0]|(simp only [i64_w,i32_w];rw [c3b0])|skip)
   have H':=Aside0.mk H
   clear H
   go_wp2
   go_meet
   case rel=>exact ⟨_,(Op.negFloat .f64 a0),rr_,(by first|exact H'|(subst_vars;exact H')),⟨by first|omega|exact Nat.le_refl _⟩,⟨(hb_ HB)⟩⟩
  ·rw [if_neg c3] at H
   have c3b0 : (FloatKind.f64.format.order a0 0 == some .lt) = false:=by simpa using c3
   (try (have c3b1 : decide (FloatKind.f64.format.order a0 0 = some .lt) = false:=by simpa using c3))
   (try (have c3b2 : (FloatKind.f64.format.order a0 0 == some .lt) = false:=by simpa using c3))
   (try (have c3b3 : ¬ (FloatKind.f64.format.order a0 0 = some .lt):=by simpa using c3))
   clear c3
   (first|rw [c3b0]|(simp only [i64_w,i32_w];rw [c3b0])|skip)
   have H':=Aside0.mk H
   clear H
   go_wp2
   go_meet
   case rel=>exact ⟨_,(a0),rr_,(by first|exact H'|(subst_vars;exact H')),⟨by first|omega|exact Nat.le_refl _⟩,⟨(hb_ HB)⟩⟩
 case rest =>
  clear HC2
  obtain ⟨kq,x0_1,rfl,HA,HJ1,HB⟩:=hcut
  cases kq with
  | zero=>exact absurd HA.out (by simp [quarryref13_Number.j0])
  | succ kj1 =>
   have H:=HA.out
   clear HA
   simp only [quarryref13_Number.j0] at H
   replace H:=Option.bind_eq_some_iff.mp H
   obtain ⟨⟨t149,t150,t151⟩,A40,H⟩:=H
   replace H : (quarryref13_Number.l0 kj1 x0_1 0 t151) = some r:=H
   have A4:=Aside0.mk A40
   clear A40
   have H':=Aside0.mk H
   clear H
   go_wp2_with (first|((with_reducible refine gate_callee (f:=75) rfl ?_);refine goesL_ (some 10) rfl rfl Try.func75 (by kernel_rfl) rfl #[] rfl am_ ?_;(with_reducible refine (quarryref13_Long.calls  t149 t150 t151 _ A4.out).mono ?_);rintro e w5 ⟨rfl,hb⟩;refine ⟨_,rfl,?_⟩;have n0_:=Aside0.mk (below_step (hb_ HB) hb);clear HB;have HB:=n0_;clear n0_;(try clear hb);(try clear hb2);(try clear hk);(try clear hi)))
   go_loopg [3,4] kj1 (fun kq v3 v4 w'=>∃ (x3_2 : Int) (x4_2 : Int),v3 = .int .u64 x3_2 ∧ v4 = .int .u64 x4_2 ∧ Aside0 (quarryref13_Number.l0 kq x0_1 x3_2 x4_2 = some r) ∧ Aside0 (kq ≤ kj1) ∧ Aside0 (Below w.heap.size w w'))
   case atStart=>exact ⟨(0),(t151),rr_,rr_,H',⟨Nat.le_refl _⟩,⟨(hb_ HB)⟩⟩
   case round =>
    clear H'
    try clear HB
    obtain ⟨x3_2,x4_2,rfl,rfl,HA,HK2,HB⟩:=hrel
    cases gk with
    | zero=>exact absurd HA.out (by simp [quarryref13_Number.l0])
    | succ k2 =>
     have H:=HA.out
     clear HA
     simp only [quarryref13_Number.l0] at H
     by_cases c6 : (IntKind.u64.wrap (x4_2 - x3_2)) > 1
     ·rw [if_pos c6] at H
      have c6b0 : decide (1 < (IntKind.u64.wrap (x4_2 - x3_2))) = true:=decide_eq_true c6
      clear c6
      replace H:=Option.bind_eq_some_iff.mp H
      obtain ⟨t152,A70,H⟩:=H
      replace H : (if (FloatKind.f64.format.order t152 x0_1 == some .lt || FloatKind.f64.format.order t152 x0_1 == some .eq) = true then (quarryref13_Number.l0 k2 x0_1 (IntKind.u64.wrap (x3_2 + (IntKind.u64.wrap (Int.tdiv (IntKind.u64.wrap (x4_2 - x3_2)) 2)))) x4_2) else (quarryref13_Number.l0 k2 x0_1 x3_2 (IntKind.u64.wrap (x3_2 + (IntKind.u64.wrap (Int.tdiv (IntKind.u64.wrap (x4_2 - x3_2)) 2)))))) = some r:=H
      have A7:=Aside0.mk A70
      clear A70
      by_cases c8 : (FloatKind.f64.format.order t152 x0_1 == some .lt || FloatKind.f64.format.order t152 x0_1 == some .eq) = true
      ·rw [if_pos c8] at H
       have c8b0 : (FloatKind.f64.format.order t152 x0_1 == some .lt || FloatKind.f64.format.order t152 x0_1 == some .eq) = true:=c8
       (try (have c8b1 : decide (FloatKind.f64.format.order t152 x0_1 = some .lt || FloatKind.f64.format.order t152 x0_1 == some .eq) = true:=by simpa using c8))
       (try (have c8b2 : (FloatKind.f64.format.order t152 x0_1 == some .lt || FloatKind.f64.format.order t152 x0_1 == some .eq) = true:=by simpa using c8))
       clear c8
       have H':=Aside0.mk H
       clear H
       go_wp2_with (first|((with_reducible refine gate_callee (f:=86) rfl ?_);refine goesL_ (some 23) rfl rfl Try.func86 (by kernel_rfl) rfl #[.bool false,.int .u64 (IntKind.u64.wrap (x3_2 + (IntKind.u64.wrap (Int.tdiv (IntKind.u64.wrap (x4_2 - x3_2)) 2))))] rfl am_ ?_;(with_reducible refine (quarryref13_Float.calls k2 false (IntKind.u64.wrap (x3_2 + (IntKind.u64.wrap (Int.tdiv (IntKind.u64.wrap (x4_2 - x3_2)) 2)))) t152 _ A7.out).mono ?_);rintro e w9 ⟨rfl,hb⟩;refine ⟨_,rfl,?_⟩;have n0_:=Aside0.mk (below_step (hb_ HB) hb);clear HB;have HB:=n0_;clear n0_;(try clear hb);(try clear hb2);(try clear hk);(try clear hi)))
       go_roundg k2
       case measure=>have:=HJ1.out;have:=HK2.out;omega
       case rel=>exact ⟨(IntKind.u64.wrap (x3_2 + (IntKind.u64.wrap (Int.tdiv (IntKind.u64.wrap (x4_2 - x3_2)) 2)))),(x4_2),rr_,rr_,(by first|exact H'|(subst_vars;exact H')),⟨by have:=HJ1.out;have:=HK2.out;omega⟩,⟨(hb_ HB)⟩⟩
      ·rw [if_neg c8] at H
       have c8b0 : (FloatKind.f64.format.order t152 x0_1 == some .lt || FloatKind.f64.format.order t152 x0_1 == some .eq) = false:=by simpa using c8
       (try (have c8b1 : decide (FloatKind.f64.format.order t152 x0_1 = some .lt || FloatKind.f64.format.order t152 x0_1 == some .eq) = false:=by simpa using c8))
       (try (have c8b2 : (FloatKind.f64.format.order t152 x0_1 == some .lt || FloatKind.f64.format.order t152 x0_1 == some .eq) = false:=by simpa using c8))
       (try (have c8b3 : ¬ (FloatKind.f64.format.order t152 x0_1 = some .lt || FloatKind.f64.format.order t152 x0_1 == some .eq):=by simpa using c8))
       clear c8
       have H':=Aside0.mk H
       clear H
       go_wp2_with (first|((with_reducible refine gate_callee (f:=86) rfl ?_);refine goesL_ (some 23) rfl rfl Try.func86 (by kernel_rfl) rfl #[.bool false,.int .u64 (IntKind.u64.wrap (x3_2 + (IntKind.u64.wrap (Int.tdiv (IntKind.u64.wrap (x4_2 - x3_2)) 2))))] rfl am_ ?_;(with_reducible refine (quarryref13_Float.calls k2 false (IntKind.u64.wrap (x3_2 + (IntKind.u64.wrap (Int.tdiv (IntKind.u64.wrap (x4_2 - x3_2)) 2)))) t152 _ A7.out).mono ?_);rintro e w10 ⟨rfl,hb⟩;refine ⟨_,rfl,?_⟩;have n0_:=Aside0.mk (below_step (hb_ HB) hb);clear HB;have HB:=n0_;clear n0_;(try clear hb);(try clear hb2);(try clear hk);(try clear hi)))
       go_roundg k2
       case measure=>have:=HJ1.out;have:=HK2.out;omega
       case rel=>exact ⟨(x3_2),(IntKind.u64.wrap (x3_2 + (IntKind.u64.wrap (Int.tdiv (IntKind.u64.wrap (x4_2 - x3_2)) 2)))),rr_,rr_,(by first|exact H'|(subst_vars;exact H')),⟨by have:=HJ1.out;have:=HK2.out;omega⟩,⟨(hb_ HB)⟩⟩
     ·rw [if_neg c6] at H
      have c6b0 : decide (1 < (IntKind.u64.wrap (x4_2 - x3_2))) = false:=decide_eq_false c6
      clear c6
      obtain rfl:=Option.some.inj H
      go_wp2
      go_ret
      exact ⟨er_,(hb_ HB)⟩
def quarryref13_Made.f (k : Nat) (a0 : Int) (a1 : Int) : Option (Nat):=(quarryref13_float.f k false a0 a1).bind fun t153=>(some t153)
set_option maxHeartbeats 8000000 in
set_option maxRecDepth 100000 in
theorem quarryref13_Made.calls (k : Nat) (a0 : Int) (a1 : Int) (r : Nat) (w : World) (h : quarryref13_Made.f k a0 a1 = some r) :
  Calls Try.prog 77 #[.int .u64 a0,.int .i64 a1] w fun e w'=>e = .returned (.float .f64 r) ∧ Drawn0 w w':=by
 have H : ((quarryref13_float.f k false a0 a1).bind fun t153=>(some t153)) = some r:=h
 clear h
 replace H:=Option.bind_eq_some_iff.mp H
 obtain ⟨t153,A30,H⟩:=H
 replace H : (some t153) = some r:=H
 have A3:=Aside0.mk A30
 clear A30
 obtain rfl:=Option.some.inj H
 go_enter Try.func77,Try.ntmps77
 go_wp2_with (first|((with_reducible refine gate_callee (f:=87) rfl ?_);refine goesL_ (some 7) rfl rfl Try.func87 (by kernel_rfl) rfl #[.bool false,.int .u64 a0,.int .i64 a1] rfl am_ ?_;(with_reducible refine (quarryref13_float.calls k false a0 a1 t153 _ A3.out).mono ?_);rintro e w' ⟨rfl,⟨nd,rfl⟩⟩;refine ⟨_,rfl,?_⟩))
 go_ret
 exact ⟨by first|rfl|(simp;done)|(simp [*];done),by repeat (first|exact Drawn0.refl _|apply Drawn0.step)⟩
end Go.Proofs.Ytijmdmnhbbcahaa.PTallySpreads
