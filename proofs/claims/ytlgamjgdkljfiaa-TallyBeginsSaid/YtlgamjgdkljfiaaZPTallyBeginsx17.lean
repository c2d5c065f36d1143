-- Written by shrink.py, a program of this session: what the law needs of the print and its words. Lean checks it.
import Derived.Test.YtlgamjgdkljfiaaZPTallyBeginsx0
import Derived.Test.YtlgamjgdkljfiaaZPTallyBeginsx11
import Derived.Test.YtlgamjgdkljfiaaZPTallyBeginsx16
namespace Go.Proofs.Ytlgamjgdkljfiaa.PTallyBegins
open Go.RowKit Go.Proofs.YtlgamjgdkljfiaaW.PrintWords Go.Proofs.YtlgamjgdkljfiaaW.PrintLast Go.Proofs.YtlgamjgdkljfiaaW.PrintMore
attribute [local go_sem] run_fadd run_fsub run_fmul run_fquo unary_fneg run_store_f64 run_store_c128 run_cadd
attribute [local go_sem] max2_int min2_int max_two min_two max_three min_three max_four min_four
set_option linter.unusedVariables false
set_option linter.unusedSimpArgs false
mutual
def quarrylaw31_TallyBegins.j0 : Nat → List Int → List Int → List Int → Bool → Option (Bool)
 | 0,_,_,_,_=>none
 | k + 1,x0,x5,x6,x42=>if x42 = true then (none) else (quarrylaw31_TallyBegins.l0 k x0 x5 x6 0)
def quarrylaw31_TallyBegins.l0 : Nat → List Int → List Int → List Int → Int → Option (Bool)
 | 0,_,_,_,_=>none
 | k + 1,x0,x5,x6,x7=>if x7 < (x5.length : Int) then (if x7 > 0 then (if 0 ≤ x7 then (if 0 ≤ (wrap64 (x7 - 1)) then (if (wrap64 (x7 - 1)) < (x5.length : Int) then (if (rd x5 x7) > (rd x5 (wrap64 (x7 - 1))) then (quarrylaw31_TallyBegins.j2 k x0 x5 x6 x7 true) else (if x7 < (x6.length : Int) then (quarrylaw31_TallyBegins.j2 k x0 x5 x6 x7 ((rd x6 x7) != (rd x5 x7))) else (quarrylaw31_TallyBegins.j2 k x0 x5 x6 x7 false))) else (none)) else (none)) else (none)) else (if x7 < (x6.length : Int) then (if 0 ≤ x7 then (quarrylaw31_TallyBegins.j2 k x0 x5 x6 x7 ((rd x6 x7) != (rd x5 x7))) else (none)) else (quarrylaw31_TallyBegins.j2 k x0 x5 x6 x7 false))) else (some true)
def quarrylaw31_TallyBegins.j2 : Nat → List Int → List Int → List Int → Int → Bool → Option (Bool)
 | 0,_,_,_,_,_=>none
 | k + 1,x0,x5,x6,x7,x79=>if x79 = true then (none) else (quarrylaw31_TallyBegins.l1 k x0 x5 x6 x7 0 0 0)
def quarrylaw31_TallyBegins.l1 : Nat → List Int → List Int → List Int → Int → Int → Int → Int → Option (Bool)
 | 0,_,_,_,_,_,_,_=>none
 | k + 1,x0,x5,x6,x7,x8,x9,x10=>if x10 < (x0.length : Int) then (quarrylaw31_TallyBegins.j4 k x0 x5 x6 x7 x8 x9 x10 (decide ((x0.length : Int) < 2000))) else (quarrylaw31_TallyBegins.j4 k x0 x5 x6 x7 x8 x9 x10 false)
def quarrylaw31_TallyBegins.j4 : Nat → List Int → List Int → List Int → Int → Int → Int → Int → Bool → Option (Bool)
 | 0,_,_,_,_,_,_,_,_=>none
 | k + 1,x0,x5,x6,x7,x8,x9,x10,x88=>if x88 = true then (if 0 ≤ x10 then (if x10 < (x0.length : Int) then (if 0 ≤ x7 then (if x7 < (x5.length : Int) then (if (rd x0 x10) = (rd x5 x7) then (if x10 < (x5.length : Int) then (if (rd x5 x10) = (rd x5 x7) then (quarrylaw31_TallyBegins.l1 k x0 x5 x6 x7 (wrap64 (x8 + 1)) (wrap64 (x9 + 1)) (wrap64 (x10 + 1))) else (quarrylaw31_TallyBegins.l1 k x0 x5 x6 x7 (wrap64 (x8 + 1)) x9 (wrap64 (x10 + 1)))) else (none)) else (if x10 < (x5.length : Int) then (if (rd x5 x10) = (rd x5 x7) then (quarrylaw31_TallyBegins.l1 k x0 x5 x6 x7 x8 (wrap64 (x9 + 1)) (wrap64 (x10 + 1))) else (quarrylaw31_TallyBegins.l1 k x0 x5 x6 x7 x8 x9 (wrap64 (x10 + 1)))) else (none))) else (none)) else (none)) else (none)) else (none)) else (if x8 = x9 then (quarrylaw31_TallyBegins.l0 k x0 x5 x6 (wrap64 (x7 + 1))) else (none))
end
def quarrylaw31_TallyBegins.f (k : Nat) (l0 : List Int) (a1 : Int) : Option (Bool):=(quarrylaw31_awake.f).bind fun t180=>(if t180 = true then ((tally_Top_int.f k l0 (wrap64 ((l0.length : Int) + 1))).bind fun t181=>((tally_Top_int.f k l0 a1).bind fun t184=>(if (t181.length : Int) = (l0.length : Int) then (if (t184.length : Int) > (t181.length : Int) then (quarrylaw31_TallyBegins.j0 k l0 t181 t184 true) else (quarrylaw31_TallyBegins.j0 k l0 t181 t184 ((t184.length : Int) != (mx 0 (mn a1 (l0.length : Int)))))) else (quarrylaw31_TallyBegins.j0 k l0 t181 t184 true)))) else (none))
set_option maxHeartbeats 8000000 in
set_option maxRecDepth 100000 in
theorem quarrylaw31_TallyBegins.calls (k : Nat) (A0 : Option Addr) (c0 : Nat) (l0 : List Int) (a1 : Int) (r : Bool) (w : World) (hr0 : Kd.C (Kd.int .i64) w A0 l0.length l0) (hc0 : l0.length ≤ c0) (h : quarrylaw31_TallyBegins.f k l0 a1 = some r) :
  Calls Try.prog 4 #[.slice A0 l0.length c0,.int .i64 a1] w fun e w'=>e = .returned (.bool r) ∧ Below w.heap.size w w':=by
 have HR0:=Aside0.mk hr0;have HC0:=Aside0.mk hc0;clear hr0 hc0;have HB:=Aside0.mk (Below.refl w.heap.size w);have H : ((quarrylaw31_awake.f).bind fun t180=>(if t180 = true then ((tally_Top_int.f k l0 (wrap64 ((l0.length : Int) + 1))).bind fun t181=>((tally_Top_int.f k l0 a1).bind fun t184=>(if (t181.length : Int) = (l0.length : Int) then (if (t184.length : Int) > (t181.length : Int) then (quarrylaw31_TallyBegins.j0 k l0 t181 t184 true) else (quarrylaw31_TallyBegins.j0 k l0 t181 t184 ((t184.length : Int) != (mx 0 (mn a1 (l0.length : Int)))))) else (quarrylaw31_TallyBegins.j0 k l0 t181 t184 true)))) else (none))) = some r:=h;clear h;replace H:=Option.bind_eq_some_iff.mp H;obtain ⟨t180,A30,H⟩:=H;replace H : (if t180 = true then ((tally_Top_int.f k l0 (wrap64 ((l0.length : Int) + 1))).bind fun t181=>((tally_Top_int.f k l0 a1).bind fun t184=>(if (t181.length : Int) = (l0.length : Int) then (if (t184.length : Int) > (t181.length : Int) then (quarrylaw31_TallyBegins.j0 k l0 t181 t184 true) else (quarrylaw31_TallyBegins.j0 k l0 t181 t184 ((t184.length : Int) != (mx 0 (mn a1 (l0.length : Int)))))) else (quarrylaw31_TallyBegins.j0 k l0 t181 t184 true)))) else (none)) = some r:=H;have A3:=Aside0.mk A30;clear A30
 by_cases c4 : t180 = true
 ·subst c4
  have H1 : ((tally_Top_int.f k l0 (wrap64 ((l0.length : Int) + 1))).bind fun t181=>((tally_Top_int.f k l0 a1).bind fun t184=>(if (t181.length : Int) = (l0.length : Int) then (if (t184.length : Int) > (t181.length : Int) then (quarrylaw31_TallyBegins.j0 k l0 t181 t184 true) else (quarrylaw31_TallyBegins.j0 k l0 t181 t184 ((t184.length : Int) != (mx 0 (mn a1 (l0.length : Int)))))) else (quarrylaw31_TallyBegins.j0 k l0 t181 t184 true)))) = some r:=by rw [if_pos rfl] at H;exact H
  clear H;have H:=H1;clear H1;replace H:=Option.bind_eq_some_iff.mp H;obtain ⟨t181,A50,H⟩:=H;replace H : ((tally_Top_int.f k l0 a1).bind fun t184=>(if (t181.length : Int) = (l0.length : Int) then (if (t184.length : Int) > (t181.length : Int) then (quarrylaw31_TallyBegins.j0 k l0 t181 t184 true) else (quarrylaw31_TallyBegins.j0 k l0 t181 t184 ((t184.length : Int) != (mx 0 (mn a1 (l0.length : Int)))))) else (quarrylaw31_TallyBegins.j0 k l0 t181 t184 true))) = some r:=H;have A5:=Aside0.mk A50;clear A50;replace H:=Option.bind_eq_some_iff.mp H;obtain ⟨t184,A60,H⟩:=H;replace H : (if (t181.length : Int) = (l0.length : Int) then (if (t184.length : Int) > (t181.length : Int) then (quarrylaw31_TallyBegins.j0 k l0 t181 t184 true) else (quarrylaw31_TallyBegins.j0 k l0 t181 t184 ((t184.length : Int) != (mx 0 (mn a1 (l0.length : Int)))))) else (quarrylaw31_TallyBegins.j0 k l0 t181 t184 true)) = some r:=H;have A6:=Aside0.mk A60;clear A60;have HC7:=Aside0.mk H;clear H;go_enter Try.func4,Try.ntmps4
  go_upto_region 4 with (first|(go_at_call 16;(with_reducible refine (quarrylaw31_awake.calls  true _ A3.out).mono ?_);rintro e w8 ⟨rfl,hb⟩;have n0_:=Aside0.mk (below_step (by repeat (first|(with_reducible first|exact HB.out|apply below_alloc|apply pw_below_drewN|apply below_drew1)|exact HB.out)) hb);clear HB;have HB:=n0_;clear n0_;(try clear hb);(try clear hb2);(try clear hk);(try clear hi))|(go_at_call 17;(with_reducible refine (tally_Top_int.calls k _ _ l0 (wrap64 ((l0.length : Int) + 1)) t181 _ ?side1 ?side2 A5.out).mono ?_);(case side1=>repeat (first|exact (Kd.C_below HR0.out HB.out)|(with_reducible refine Kd.C_alloc ?_ _)|(with_reducible refine Kd.C_drewN ?_ _)|(with_reducible refine Kd.C_drew ?_)));(case side2=>exact HC0.out);rintro e w9 ⟨v182,rfl,ho0,hb⟩;have n0_:=Aside0.mk (Kd.R_lower ho0 (below_size (by repeat (first|(with_reducible first|exact HB.out|apply below_alloc|apply pw_below_drewN|apply below_drew1)|exact HB.out))));have n1_:=Aside0.mk (below_step (by repeat (first|(with_reducible first|exact HB.out|apply below_alloc|apply pw_below_drewN|apply below_drew1)|exact HB.out)) hb);clear HB;have HO183:=n0_;have HB:=n1_;clear n0_ n1_;(try clear hb);(try clear hb2);(try clear hk);(try clear hi);(try clear ho0))|(go_at_call 17;(with_reducible refine (tally_Top_int.calls k _ _ l0 a1 t184 _ ?side1 ?side2 A6.out).mono ?_);(case side1=>repeat (first|exact (Kd.C_below HR0.out HB.out)|(with_reducible refine Kd.C_alloc ?_ _)|(with_reducible refine Kd.C_drewN ?_ _)|(with_reducible refine Kd.C_drew ?_)));(case side2=>exact HC0.out);rintro e w10 ⟨v185,rfl,ho0,hb⟩;have n0_:=Aside0.mk (Kd.R_elder' (by (with_reducible repeat (first|apply Kd.R_alloc|apply Kd.R_drewN|apply Kd.R_drew));exact HO183.out) (Kd.R_base ho0) hb);have n1_:=Aside0.mk (Kd.R_lower (Kd.R_new' ho0 (Kd.R_lt (by (with_reducible repeat (first|apply Kd.R_alloc|apply Kd.R_drewN|apply Kd.R_drew));exact HO183.out))) (below_size (by repeat (first|(with_reducible first|exact HB.out|apply below_alloc|apply pw_below_drewN|apply below_drew1)|exact HB.out))));have n2_:=Aside0.mk (below_step (by repeat (first|(with_reducible first|exact HB.out|apply below_alloc|apply pw_below_drewN|apply below_drew1)|exact HB.out)) hb);clear HO183;clear HB;have HO183:=n0_;have HO186:=n1_;have HB:=n2_;clear n0_ n1_ n2_;(try clear hb);(try clear hb2);(try clear hk);(try clear hi);(try clear ho0)))
  have pxt1 : True:=trivial;have pxt2 : True:=trivial
  repeat (go_quiet (first|(clear pxt1;go_at_call 16;(with_reducible refine (quarrylaw31_awake.calls  true _ A3.out).mono ?_);rintro e w8 ⟨rfl,hb⟩;have n0_:=Aside0.mk (below_step (by repeat (first|(with_reducible first|exact HB.out|apply below_alloc|apply pw_below_drewN|apply below_drew1)|exact HB.out)) hb);clear HB;have HB:=n0_;clear n0_;(try clear hb);(try clear hb2);(try clear hk);(try clear hi))|(go_at_call 17;(with_reducible refine (tally_Top_int.calls k _ _ l0 (wrap64 ((l0.length : Int) + 1)) t181 _ ?side1 ?side2 A5.out).mono ?_);(case side1=>repeat (first|exact (Kd.C_below HR0.out HB.out)|(with_reducible refine Kd.C_alloc ?_ _)|(with_reducible refine Kd.C_drewN ?_ _)|(with_reducible refine Kd.C_drew ?_)));(case side2=>exact HC0.out);rintro e w9 ⟨v182,rfl,ho0,hb⟩;have n0_:=Aside0.mk (Kd.R_lower ho0 (below_size (by repeat (first|(with_reducible first|exact HB.out|apply below_alloc|apply pw_below_drewN|apply below_drew1)|exact HB.out))));have n1_:=Aside0.mk (below_step (by repeat (first|(with_reducible first|exact HB.out|apply below_alloc|apply pw_below_drewN|apply below_drew1)|exact HB.out)) hb);clear HB;have HO183:=n0_;have HB:=n1_;clear n0_ n1_;(try clear hb);(try clear hb2);(try clear hk);(try clear hi);(try clear ho0))|(go_at_call 17;(with_reducible refine (tally_Top_int.calls k _ _ l0 a1 t184 _ ?side1 ?side2 A6.out).mono ?_);(case side1=>repeat (first|exact (Kd.C_below HR0.out HB.out)|(with_reducible refine Kd.C_alloc ?_ _)|(with_reducible refine Kd.C_drewN ?_ _)|(with_reducible refine Kd.C_drew ?_)));(case side2=>exact HC0.out);rintro e w10 ⟨v185,rfl,ho0,hb⟩;have n0_:=Aside0.mk (Kd.R_elder' (by (with_reducible repeat (first|apply Kd.R_alloc|apply Kd.R_drewN|apply Kd.R_drew));exact HO183.out) (Kd.R_base ho0) hb);have n1_:=Aside0.mk (Kd.R_lower (Kd.R_new' ho0 (Kd.R_lt (by (with_reducible repeat (first|apply Kd.R_alloc|apply Kd.R_drewN|apply Kd.R_drew));exact HO183.out))) (below_size (by repeat (first|(with_reducible first|exact HB.out|apply below_alloc|apply pw_below_drewN|apply below_drew1)|exact HB.out))));have n2_:=Aside0.mk (below_step (by repeat (first|(with_reducible first|exact HB.out|apply below_alloc|apply pw_below_drewN|apply below_drew1)|exact HB.out)) hb);clear HO183;clear HB;have HO183:=n0_;have HO186:=n1_;have HB:=n2_;clear n0_ n1_ n2_;(try clear hb);(try clear hb2);(try clear hk);(try clear hi);(try clear ho0)));go_upto_region 4 with (first|(clear pxt2;go_at_call 16;(with_reducible refine (quarrylaw31_awake.calls  true _ A3.out).mono ?_);rintro e w8 ⟨rfl,hb⟩;have n0_:=Aside0.mk (below_step (by repeat (first|(with_reducible first|exact HB.out|apply below_alloc|apply pw_below_drewN|apply below_drew1)|exact HB.out)) hb);clear HB;have HB:=n0_;clear n0_;(try clear hb);(try clear hb2);(try clear hk);(try clear hi))|(go_at_call 17;(with_reducible refine (tally_Top_int.calls k _ _ l0 (wrap64 ((l0.length : Int) + 1)) t181 _ ?side1 ?side2 A5.out).mono ?_);(case side1=>repeat (first|exact (Kd.C_below HR0.out HB.out)|(with_reducible refine Kd.C_alloc ?_ _)|(with_reducible refine Kd.C_drewN ?_ _)|(with_reducible refine Kd.C_drew ?_)));(case side2=>exact HC0.out);rintro e w9 ⟨v182,rfl,ho0,hb⟩;have n0_:=Aside0.mk (Kd.R_lower ho0 (below_size (by repeat (first|(with_reducible first|exact HB.out|apply below_alloc|apply pw_below_drewN|apply below_drew1)|exact HB.out))));have n1_:=Aside0.mk (below_step (by repeat (first|(with_reducible first|exact HB.out|apply below_alloc|apply pw_below_drewN|apply below_drew1)|exact HB.out)) hb);clear HB;have HO183:=n0_;have HB:=n1_;clear n0_ n1_;(try clear hb);(try clear hb2);(try clear hk);(try clear hi);(try clear ho0))|(go_at_call 17;(with_reducible refine (tally_Top_int.calls k _ _ l0 a1 t184 _ ?side1 ?side2 A6.out).mono ?_);(case side1=>repeat (first|exact (Kd.C_below HR0.out HB.out)|(with_reducible refine Kd.C_alloc ?_ _)|(with_reducible refine Kd.C_drewN ?_ _)|(with_reducible refine Kd.C_drew ?_)));(case side2=>exact HC0.out);rintro e w10 ⟨v185,rfl,ho0,hb⟩;have n0_:=Aside0.mk (Kd.R_elder' (by (with_reducible repeat (first|apply Kd.R_alloc|apply Kd.R_drewN|apply Kd.R_drew));exact HO183.out) (Kd.R_base ho0) hb);have n1_:=Aside0.mk (Kd.R_lower (Kd.R_new' ho0 (Kd.R_lt (by (with_reducible repeat (first|apply Kd.R_alloc|apply Kd.R_drewN|apply Kd.R_drew));exact HO183.out))) (below_size (by repeat (first|(with_reducible first|exact HB.out|apply below_alloc|apply pw_below_drewN|apply below_drew1)|exact HB.out))));have n2_:=Aside0.mk (below_step (by repeat (first|(with_reducible first|exact HB.out|apply below_alloc|apply pw_below_drewN|apply below_drew1)|exact HB.out)) hb);clear HO183;clear HB;have HO183:=n0_;have HO186:=n1_;have HB:=n2_;clear n0_ n1_ n2_;(try clear hb);(try clear hb2);(try clear hk);(try clear hi);(try clear ho0))))
  (try simp only [Act.put,List.setIfInBounds_toArray,List.set_cons_zero,List.set_cons_succ])
  go_cut [42] (fun v42 wc=>∃ (kq : Nat) (x42_6 : Bool),v42 = .bool x42_6 ∧ Aside0 (quarrylaw31_TallyBegins.j0 kq l0 t181 t184 x42_6 = some r) ∧ Aside0 (kq ≤ k) ∧ Aside0 (Kd.R (Kd.int .i64) 3 wc w.heap.size (fun k_=>some k_ ≠ (v185 : Value).ownBlock) v182 t181) ∧ Aside0 (Kd.R (Kd.int .i64) 3 wc w.heap.size (fun k_=>some k_ ≠ (v182 : Value).ownBlock) v185 t184) ∧ Aside0 (Below w.heap.size w wc))
  case first =>
   have H:=HC7.out;clear HC7
   by_cases c11 : (t181.length : Int) = (l0.length : Int)
   ·rw [if_pos c11] at H
    have c11b0 : ((t181.length : Int) == (l0.length : Int)) = true:=beq_iff_eq.mpr c11;have c11b1 : ((t181.length : Int) != (l0.length : Int)) = false:=bne_eq_false_iff_eq.mpr c11
    have c11b2 : (t181.length == l0.length) = true:=by first|simpa using c11|(simp at c11 ⊢;omega)
    clear c11
    (first|rw [c11b0]|(simp only [i64_w,i32_w];rw [c11b0])|skip)
    by_cases c12 : (t184.length : Int) > (t181.length : Int)
    ·rw [if_pos c12] at H
     have c12b0 : decide ((t181.length : Int) < (t184.length : Int)) = true:=decide_eq_true c12;have c12b1 : decide (t181.length < t184.length) = true:=decide_eq_true (Int.ofNat_lt.mp c12);clear c12;have H':=Aside0.mk H;clear H;obtain ⟨Ao13,co13,eo13⟩:=Kd.R_slice HO183.out;subst eo13;obtain ⟨Ao14,co14,eo14⟩:=Kd.R_slice HO186.out;subst eo14;go_wp2
     repeat (go_quiet (fail);try go_wp2)
     go_meet
     case rel=>exact ⟨_,(true),(by first|rfl|(simp;done)|(simp [*];done)),(by first|exact H'|(subst_vars;exact H')),⟨by first|omega|exact Nat.le_refl _⟩,⟨by (with_reducible repeat (first|apply Kd.R_alloc|apply Kd.R_drewN|apply Kd.R_drew));exact Kd.R_mono HO183.out (fun _ hk=>hk.2)⟩,⟨by (with_reducible repeat (first|apply Kd.R_alloc|apply Kd.R_drewN|apply Kd.R_drew));exact Kd.R_mono HO186.out (fun _ hk=>hk.2)⟩,⟨by repeat (first|(with_reducible first|exact HB.out|apply below_alloc|apply pw_below_drewN|apply below_drew1)|exact HB.out)⟩⟩
    rw [if_neg c12] at H
    have c12b0 : decide ((t181.length : Int) < (t184.length : Int)) = false:=decide_eq_false c12;have c12b1 : decide (t181.length < t184.length) = false:=decide_eq_false (fun h=>c12 (Int.ofNat_lt.mpr h));clear c12
    obtain ⟨ji15,hji15⟩ : ∃ j_ : Int,(mn a1 (l0.length : Int)) = j_:=⟨_,rfl⟩
    replace H : (quarrylaw31_TallyBegins.j0 k l0 t181 t184 ((t184.length : Int) != (mx 0 (ji15)))) = some r:=by first|(rw [hji15] at H;exact H)|(simp only [hji15] at H ⊢;exact H)
    have hji15_ : (if (l0.length : Int) < a1 then (l0.length : Int) else a1) = ji15:=hji15
    obtain ⟨ji16,hji16⟩ : ∃ j_ : Int,(mx 0 (ji15)) = j_:=⟨_,rfl⟩
    replace H : (quarrylaw31_TallyBegins.j0 k l0 t181 t184 ((t184.length : Int) != (ji16))) = some r:=by first|(rw [hji16] at H;exact H)|(simp only [hji16] at H ⊢;exact H)
    have hji16_ : (if 0 < (ji15) then (ji15) else 0) = ji16:=hji16;have H':=Aside0.mk H;clear H;obtain ⟨Ao17,co17,eo17⟩:=Kd.R_slice HO183.out;subst eo17;obtain ⟨Ao18,co18,eo18⟩:=Kd.R_slice HO186.out;subst eo18;go_wp2
    repeat (go_quiet (fail);try go_wp2)
    go_meet
    case rel=>exact ⟨_,(((t184.length : Int) != (ji16))),(by first|rfl|(simp;done)|(simp only [← hji16] <;> (first|rfl|simp))|(simp [*];done)),(by first|exact H'|(subst_vars;exact H')),⟨by first|omega|exact Nat.le_refl _⟩,⟨by (with_reducible repeat (first|apply Kd.R_alloc|apply Kd.R_drewN|apply Kd.R_drew));exact Kd.R_mono HO183.out (fun _ hk=>hk.2)⟩,⟨by (with_reducible repeat (first|apply Kd.R_alloc|apply Kd.R_drewN|apply Kd.R_drew));exact Kd.R_mono HO186.out (fun _ hk=>hk.2)⟩,⟨by repeat (first|(with_reducible first|exact HB.out|apply below_alloc|apply pw_below_drewN|apply below_drew1)|exact HB.out)⟩⟩
   rw [if_neg c11] at H
   have c11b0 : ((t181.length : Int) == (l0.length : Int)) = false:=beq_eq_false_iff_ne.mpr c11;have c11b1 : ((t181.length : Int) != (l0.length : Int)) = true:=bne_iff_ne.mpr c11
   have c11b2 : (t181.length == l0.length) = false:=by first|simpa using c11|(simp at c11 ⊢;omega)
   (first|rw [c11b0]|(simp only [i64_w,i32_w];rw [c11b0])|skip)
   have H':=Aside0.mk H;clear H;obtain ⟨Ao19,co19,eo19⟩:=Kd.R_slice HO183.out;subst eo19;go_wp2
   repeat (go_quiet (fail);try go_wp2)
   go_meet
   case rel=>exact ⟨_,(true),(by first|rfl|(simp;done)|(simp [*];done)),(by first|exact H'|(subst_vars;exact H')),⟨by first|omega|exact Nat.le_refl _⟩,⟨by (with_reducible repeat (first|apply Kd.R_alloc|apply Kd.R_drewN|apply Kd.R_drew));exact Kd.R_mono HO183.out (fun _ hk=>hk.2)⟩,⟨by (with_reducible repeat (first|apply Kd.R_alloc|apply Kd.R_drewN|apply Kd.R_drew));exact Kd.R_mono HO186.out (fun _ hk=>hk.2)⟩,⟨by repeat (first|(with_reducible first|exact HB.out|apply below_alloc|apply pw_below_drewN|apply below_drew1)|exact HB.out)⟩⟩
  case rest =>
   clear HC7
   try clear c1
   try clear p2
   try clear c4
   try clear p6
   try clear c11
   try clear c11b0
   try clear c11b1
   try clear c11b2
   try clear c12
   try clear c12b0
   try clear c12b1
   obtain ⟨kq,x42_6,rfl,HA,HJ6,HO_5,HO_6,HB⟩:=hcut
   cases kq with
   | zero=>exact absurd HA.out (by simp [quarrylaw31_TallyBegins.j0])
   | succ kj6 =>
    have H:=HA.out;clear HA
    simp only [quarrylaw31_TallyBegins.j0] at H
    by_cases c20 : x42_6 = true
    ·subst c20
     have H1 : (none) = some r:=by rw [if_pos rfl] at H;exact H
     clear H;have H:=H1;clear H1;exact absurd H (by simp)
    replace c20:=Bool.eq_false_iff.mpr c20;subst c20
    have H1 : (quarrylaw31_TallyBegins.l0 kj6 l0 t181 t184 0) = some r:=by rw [if_neg (show ¬ (false = true) by decide)] at H;exact H
    clear H;have H:=H1;clear H1;have H':=Aside0.mk H;clear H;go_wp2
    repeat (go_quiet (fail);try go_wp2)
    go_loopg [7] kj6 (fun kq v7 w'=>∃ (x7_2 : Int),v7 = .int .i64 x7_2 ∧ Aside0 (quarrylaw31_TallyBegins.l0 kq l0 t181 t184 x7_2 = some r) ∧ Aside0 (kq ≤ kj6) ∧ Aside0 (Kd.R (Kd.int .i64) 3 w' w.heap.size (fun k_=>some k_ ≠ (v185 : Value).ownBlock) v182 t181) ∧ Aside0 (Kd.R (Kd.int .i64) 3 w' w.heap.size (fun k_=>some k_ ≠ (v182 : Value).ownBlock) v185 t184) ∧ Aside0 (Below w.heap.size w w'))
    case atStart=>exact ⟨(0),(by first|rfl|(simp;done)|(simp [*];done)),H',⟨Nat.le_refl _⟩,⟨by (with_reducible repeat (first|apply Kd.R_alloc|apply Kd.R_drewN|apply Kd.R_drew));exact HO_5.out⟩,⟨by (with_reducible repeat (first|apply Kd.R_alloc|apply Kd.R_drewN|apply Kd.R_drew));exact HO_6.out⟩,⟨by repeat (first|(with_reducible first|exact HB.out|apply below_alloc|apply pw_below_drewN|apply below_drew1)|exact HB.out)⟩⟩
    case round =>
     clear H'
     try clear c1
     try clear c2
     try clear p2
     try clear c4
     try clear p6
     try clear c11
     try clear c11b0
     try clear c11b1
     try clear c11b2
     try clear c12
     try clear c12b0
     try clear c12b1
     try clear c20
     try clear p2
     try clear p6
     try clear HK2
     try clear HO_5
     try clear HO_6
     try clear HB
     obtain ⟨x7_2,rfl,HA,HK2,HO_5,HO_6,HB⟩:=hrel
     cases gk with
     | zero=>exact absurd HA.out (by simp [quarrylaw31_TallyBegins.l0])
     | succ k2 =>
      have H:=HA.out;clear HA
      simp only [quarrylaw31_TallyBegins.l0] at H
      by_cases c21 : x7_2 < (t181.length : Int)
      ·rw [if_pos c21] at H
       have c21b0 : decide (x7_2 < (t181.length : Int)) = true:=decide_eq_true c21;clear c21;have HC22:=Aside0.mk H;clear H;obtain ⟨Ao23,co23,eo23⟩:=Kd.R_slice HO_5.out;subst eo23
       go_upto_region 9 with (fail)
       repeat (go_quiet (fail);go_upto_region 9 with (fail))
       go_cut [79] (fun v79 wc=>∃ (kq : Nat) (x79_21 : Bool),v79 = .bool x79_21 ∧ Aside0 (quarrylaw31_TallyBegins.j2 kq l0 t181 t184 x7_2 x79_21 = some r) ∧ Aside0 (kq ≤ k2) ∧ Aside0 (Kd.R (Kd.int .i64) 3 wc w.heap.size (fun k_=>some k_ ≠ (v185 : Value).ownBlock) (.slice Ao23 t181.length co23) t181) ∧ Aside0 (Kd.R (Kd.int .i64) 3 wc w.heap.size (fun k_=>some k_ ≠ ((.slice Ao23 t181.length co23) : Value).ownBlock) v185 t184) ∧ Aside0 (Below w.heap.size w wc))
       case first =>
        have H:=HC22.out;clear HC22
        by_cases c24 : x7_2 > 0
        ·rw [if_pos c24] at H
         have c24b0 : decide (0 < x7_2) = true:=decide_eq_true c24;clear c24
         (first|rw [c24b0]|(simp only [i64_w,i32_w];rw [c24b0])|skip)
         by_cases c25 : 0 ≤ x7_2
         ·rw [if_pos c25] at H
          have c25b0 : decide (0 ≤ x7_2) = true:=decide_eq_true c25;clear c25
          obtain ⟨ji26,hji26⟩ : ∃ j_ : Int,(wrap64 (x7_2 - 1)) = j_:=⟨_,rfl⟩
          replace H : (if 0 ≤ (ji26) then (if (ji26) < (t181.length : Int) then (if (rd t181 x7_2) > (rd t181 (ji26)) then (quarrylaw31_TallyBegins.j2 k2 l0 t181 t184 x7_2 true) else (if x7_2 < (t184.length : Int) then (quarrylaw31_TallyBegins.j2 k2 l0 t181 t184 x7_2 ((rd t184 x7_2) != (rd t181 x7_2))) else (quarrylaw31_TallyBegins.j2 k2 l0 t181 t184 x7_2 false))) else (none)) else (none)) = some r:=by first|(rw [hji26] at H;exact H)|(simp only [hji26] at H ⊢;exact H)
          have hji26w : (IntKind.i64.wrap (x7_2 - 1)) = ji26:=(i64_w _).trans hji26
          by_cases c27 : 0 ≤ (ji26)
          ·rw [if_pos c27] at H
           have c27b0 : decide (0 ≤ (ji26)) = true:=decide_eq_true c27;clear c27
           by_cases c28 : (ji26) < (t181.length : Int)
           ·rw [if_pos c28] at H
            have c28b0 : decide ((ji26) < (t181.length : Int)) = true:=decide_eq_true c28;clear c28
            by_cases c29 : (rd t181 x7_2) > (rd t181 (ji26))
            ·rw [if_pos c29] at H
             have c29b0 : decide ((rd t181 (ji26)) < (rd t181 x7_2)) = true:=decide_eq_true c29;clear c29;have H':=Aside0.mk H;clear H;have p187 : 0 ≤ (x7_2 : Int):=of_decide_eq_true (by first|(with_reducible assumption)|assumption);have q187 : x7_2 < (t181.length : Int):=of_decide_eq_true (by first|(with_reducible assumption)|assumption);obtain ⟨ad187,e187,hx187_0⟩:=Kd.at_int (Kd.R_reads' HO_5.out).2.2 x7_2 p187 q187;cases e187;replace p187:=eq_true p187;replace q187:=eq_true q187;have p188 : 0 ≤ ((ji26) : Int):=of_decide_eq_true (by first|(with_reducible assumption)|assumption);have q188 : (ji26) < (t181.length : Int):=of_decide_eq_true (by first|(with_reducible assumption)|assumption);obtain ⟨ad188,e188,hx188_0⟩:=Kd.at_int (Kd.R_reads' HO_5.out).2.2 (ji26) p188 q188;obtain rfl : ad187 = ad188:=(by injection e188);replace p188:=eq_true p188;replace q188:=eq_true q188;go_wp2
             repeat (go_quiet (fail);try go_wp2)
             go_meet
             case rel=>exact ⟨_,(true),(by first|rfl|(simp;done)|(simp [*];done)),(by first|exact H'|(subst_vars;exact H')),⟨by have:=HJ6.out;have:=HK2.out;first|omega|exact Nat.le_refl _⟩,⟨by (with_reducible repeat (first|apply Kd.R_alloc|apply Kd.R_drewN|apply Kd.R_drew));exact HO_5.out⟩,⟨by (with_reducible repeat (first|apply Kd.R_alloc|apply Kd.R_drewN|apply Kd.R_drew));exact HO_6.out⟩,⟨by repeat (first|(with_reducible first|exact HB.out|apply below_alloc|apply pw_below_drewN|apply below_drew1)|exact HB.out)⟩⟩
            rw [if_neg c29] at H
            have c29b0 : decide ((rd t181 (ji26)) < (rd t181 x7_2)) = false:=decide_eq_false c29;clear c29
            by_cases c30 : x7_2 < (t184.length : Int)
            ·rw [if_pos c30] at H
             have c30b0 : decide (x7_2 < (t184.length : Int)) = true:=decide_eq_true c30;clear c30;have H':=Aside0.mk H;clear H;have p187 : 0 ≤ (x7_2 : Int):=of_decide_eq_true (by first|(with_reducible assumption)|assumption);have q187 : x7_2 < (t181.length : Int):=of_decide_eq_true (by first|(with_reducible assumption)|assumption);obtain ⟨ad187,e187,hx187_0⟩:=Kd.at_int (Kd.R_reads' HO_5.out).2.2 x7_2 p187 q187;cases e187;replace p187:=eq_true p187;replace q187:=eq_true q187;have p188 : 0 ≤ ((ji26) : Int):=of_decide_eq_true (by first|(with_reducible assumption)|assumption);have q188 : (ji26) < (t181.length : Int):=of_decide_eq_true (by first|(with_reducible assumption)|assumption);obtain ⟨ad188,e188,hx188_0⟩:=Kd.at_int (Kd.R_reads' HO_5.out).2.2 (ji26) p188 q188;obtain rfl : ad187 = ad188:=(by injection e188);replace p188:=eq_true p188;replace q188:=eq_true q188;obtain ⟨Ao31,co31,eo31⟩:=Kd.R_slice HO_6.out;subst eo31;have p189 : 0 ≤ (x7_2 : Int):=of_decide_eq_true (by first|(with_reducible assumption)|assumption);have q189 : x7_2 < (t184.length : Int):=of_decide_eq_true (by first|(with_reducible assumption)|assumption);obtain ⟨ad189,e189,hx189_0⟩:=Kd.at_int (Kd.R_reads' HO_6.out).2.2 x7_2 p189 q189;cases e189;replace p189:=eq_true p189;replace q189:=eq_true q189;have p190 : 0 ≤ (x7_2 : Int):=of_decide_eq_true (by first|(with_reducible assumption)|assumption);have q190 : x7_2 < (t181.length : Int):=of_decide_eq_true (by first|(with_reducible assumption)|assumption);obtain ⟨ad190,e190,hx190_0⟩:=Kd.at_int (Kd.R_reads' HO_5.out).2.2 x7_2 p190 q190
             obtain rfl : ad187 = ad190:=(by injection e190);replace p190:=eq_true p190;replace q190:=eq_true q190;go_wp2
             repeat (go_quiet (fail);try go_wp2)
             go_meet
             case rel=>exact ⟨_,(((rd t184 x7_2) != (rd t181 x7_2))),(by first|rfl|(simp;done)|(simp [*];done)),(by first|exact H'|(subst_vars;exact H')),⟨by have:=HJ6.out;have:=HK2.out;first|omega|exact Nat.le_refl _⟩,⟨by (with_reducible repeat (first|apply Kd.R_alloc|apply Kd.R_drewN|apply Kd.R_drew));exact HO_5.out⟩,⟨by (with_reducible repeat (first|apply Kd.R_alloc|apply Kd.R_drewN|apply Kd.R_drew));exact HO_6.out⟩,⟨by repeat (first|(with_reducible first|exact HB.out|apply below_alloc|apply pw_below_drewN|apply below_drew1)|exact HB.out)⟩⟩
            rw [if_neg c30] at H
            have c30b0 : decide (x7_2 < (t184.length : Int)) = false:=decide_eq_false c30;clear c30;have H':=Aside0.mk H;clear H;have p187 : 0 ≤ (x7_2 : Int):=of_decide_eq_true (by first|(with_reducible assumption)|assumption);have q187 : x7_2 < (t181.length : Int):=of_decide_eq_true (by first|(with_reducible assumption)|assumption);obtain ⟨ad187,e187,hx187_0⟩:=Kd.at_int (Kd.R_reads' HO_5.out).2.2 x7_2 p187 q187;cases e187;replace p187:=eq_true p187;replace q187:=eq_true q187;have p188 : 0 ≤ ((ji26) : Int):=of_decide_eq_true (by first|(with_reducible assumption)|assumption);have q188 : (ji26) < (t181.length : Int):=of_decide_eq_true (by first|(with_reducible assumption)|assumption);obtain ⟨ad188,e188,hx188_0⟩:=Kd.at_int (Kd.R_reads' HO_5.out).2.2 (ji26) p188 q188;obtain rfl : ad187 = ad188:=(by injection e188);replace p188:=eq_true p188;replace q188:=eq_true q188;obtain ⟨Ao32,co32,eo32⟩:=Kd.R_slice HO_6.out;subst eo32;go_wp2
            repeat (go_quiet (fail);try go_wp2)
            go_meet
            case rel=>exact ⟨_,(false),(by first|rfl|(simp;done)|(simp [*];done)),(by first|exact H'|(subst_vars;exact H')),⟨by have:=HJ6.out;have:=HK2.out;first|omega|exact Nat.le_refl _⟩,⟨by (with_reducible repeat (first|apply Kd.R_alloc|apply Kd.R_drewN|apply Kd.R_drew));exact HO_5.out⟩,⟨by (with_reducible repeat (first|apply Kd.R_alloc|apply Kd.R_drewN|apply Kd.R_drew));exact HO_6.out⟩,⟨by repeat (first|(with_reducible first|exact HB.out|apply below_alloc|apply pw_below_drewN|apply below_drew1)|exact HB.out)⟩⟩
           rw [if_neg c28] at H
           exact absurd H (by simp)
          rw [if_neg c27] at H
          exact absurd H (by simp)
         rw [if_neg c25] at H
         exact absurd H (by simp)
        rw [if_neg c24] at H
        have c24b0 : decide (0 < x7_2) = false:=decide_eq_false c24;clear c24
        (first|rw [c24b0]|(simp only [i64_w,i32_w];rw [c24b0])|skip)
        by_cases c33 : x7_2 < (t184.length : Int)
        ·rw [if_pos c33] at H
         have c33b0 : decide (x7_2 < (t184.length : Int)) = true:=decide_eq_true c33;clear c33
         by_cases c34 : 0 ≤ x7_2
         ·rw [if_pos c34] at H
          have c34b0 : decide (0 ≤ x7_2) = true:=decide_eq_true c34;clear c34;have H':=Aside0.mk H;clear H;obtain ⟨Ao35,co35,eo35⟩:=Kd.R_slice HO_6.out;subst eo35;have p191 : 0 ≤ (x7_2 : Int):=of_decide_eq_true (by first|(with_reducible assumption)|assumption);have q191 : x7_2 < (t184.length : Int):=of_decide_eq_true (by first|(with_reducible assumption)|assumption);obtain ⟨ad191,e191,hx191_0⟩:=Kd.at_int (Kd.R_reads' HO_6.out).2.2 x7_2 p191 q191;cases e191;replace p191:=eq_true p191;replace q191:=eq_true q191;have p192 : 0 ≤ (x7_2 : Int):=of_decide_eq_true (by first|(with_reducible assumption)|assumption);have q192 : x7_2 < (t181.length : Int):=of_decide_eq_true (by first|(with_reducible assumption)|assumption);obtain ⟨ad192,e192,hx192_0⟩:=Kd.at_int (Kd.R_reads' HO_5.out).2.2 x7_2 p192 q192;cases e192;replace p192:=eq_true p192;replace q192:=eq_true q192;go_wp2
          repeat (go_quiet (fail);try go_wp2)
          go_meet
          case rel=>exact ⟨_,(((rd t184 x7_2) != (rd t181 x7_2))),(by first|rfl|(simp;done)|(simp [*];done)),(by first|exact H'|(subst_vars;exact H')),⟨by have:=HJ6.out;have:=HK2.out;first|omega|exact Nat.le_refl _⟩,⟨by (with_reducible repeat (first|apply Kd.R_alloc|apply Kd.R_drewN|apply Kd.R_drew));exact HO_5.out⟩,⟨by (with_reducible repeat (first|apply Kd.R_alloc|apply Kd.R_drewN|apply Kd.R_drew));exact HO_6.out⟩,⟨by repeat (first|(with_reducible first|exact HB.out|apply below_alloc|apply pw_below_drewN|apply below_drew1)|exact HB.out)⟩⟩
         rw [if_neg c34] at H
         exact absurd H (by simp)
        rw [if_neg c33] at H
        have c33b0 : decide (x7_2 < (t184.length : Int)) = false:=decide_eq_false c33;clear c33;have H':=Aside0.mk H;clear H;obtain ⟨Ao36,co36,eo36⟩:=Kd.R_slice HO_6.out;subst eo36;go_wp2
        repeat (go_quiet (fail);try go_wp2)
        go_meet
        case rel=>exact ⟨_,(false),(by first|rfl|(simp;done)|(simp [*];done)),(by first|exact H'|(subst_vars;exact H')),⟨by have:=HJ6.out;have:=HK2.out;first|omega|exact Nat.le_refl _⟩,⟨by (with_reducible repeat (first|apply Kd.R_alloc|apply Kd.R_drewN|apply Kd.R_drew));exact HO_5.out⟩,⟨by (with_reducible repeat (first|apply Kd.R_alloc|apply Kd.R_drewN|apply Kd.R_drew));exact HO_6.out⟩,⟨by repeat (first|(with_reducible first|exact HB.out|apply below_alloc|apply pw_below_drewN|apply below_drew1)|exact HB.out)⟩⟩
       case rest =>
        clear HC22
        try clear c1
        try clear p1
        try clear q1
        try clear hx1
        try clear c2
        try clear p2
        try clear c3
        try clear c4
        try clear p6
        try clear c11
        try clear c11b0
        try clear c11b1
        try clear c11b2
        try clear c12
        try clear c12b0
        try clear c12b1
        try clear p18
        try clear q18
        try clear hx18
        try clear p19
        try clear q19
        try clear hx19
        try clear c20
        try clear c21
        try clear c21b0
        try clear c24
        try clear c24b0
        try clear c25
        try clear c25b0
        try clear c27
        try clear c27b0
        try clear c28
        try clear c28b0
        try clear c29
        try clear c29b0
        try clear c30
        try clear c30b0
        try clear c33
        try clear c33b0
        try clear c34
        try clear c34b0
        try clear hx187_0
        try clear hx188_0
        try clear hx189_0
        try clear hx190_0
        try clear hx191_0
        try clear hx192_0
        try clear p187
        try clear p188
        try clear p189
        try clear p190
        try clear p191
        try clear p192
        try clear p2
        try clear p6
        try clear q187
        try clear q188
        try clear q189
        try clear q190
        try clear q191
        try clear q192
        obtain ⟨kq,x79_21,rfl,HA,HJ21,HO_5,HO_6,HB⟩:=hcut
        cases kq with
        | zero=>exact absurd HA.out (by simp [quarrylaw31_TallyBegins.j2])
        | succ kj21 =>
         have H:=HA.out;clear HA
         simp only [quarrylaw31_TallyBegins.j2] at H
         by_cases c37 : x79_21 = true
         ·subst c37
          have H1 : (none) = some r:=by rw [if_pos rfl] at H;exact H
          clear H;have H:=H1;clear H1;exact absurd H (by simp)
         replace c37:=Bool.eq_false_iff.mpr c37;subst c37
         have H1 : (quarrylaw31_TallyBegins.l1 kj21 l0 t181 t184 x7_2 0 0 0) = some r:=by rw [if_neg (show ¬ (false = true) by decide)] at H;exact H
         clear H;have H:=H1;clear H1;have H':=Aside0.mk H;clear H;go_wp2
         repeat (go_quiet (fail);try go_wp2)
         go_loopg [8,9,10] kj21 (fun kq v8 v9 v10 w'=>∃ (x8_4 : Int) (x9_4 : Int) (x10_4 : Int),v8 = .int .i64 x8_4 ∧ v9 = .int .i64 x9_4 ∧ v10 = .int .i64 x10_4 ∧ Aside0 (quarrylaw31_TallyBegins.l1 kq l0 t181 t184 x7_2 x8_4 x9_4 x10_4 = some r) ∧ Aside0 (kq ≤ kj21) ∧ Aside0 (Kd.R (Kd.int .i64) 3 w' w.heap.size (fun k_=>some k_ ≠ (v185 : Value).ownBlock) (.slice Ao23 t181.length co23) t181) ∧ Aside0 (Kd.R (Kd.int .i64) 3 w' w.heap.size (fun k_=>some k_ ≠ ((.slice Ao23 t181.length co23) : Value).ownBlock) v185 t184) ∧ Aside0 (Below w.heap.size w w'))
         case atStart=>exact ⟨(0),(0),(0),(by first|rfl|(simp;done)|(simp [*];done)),(by first|rfl|(simp;done)|(simp [*];done)),(by first|rfl|(simp;done)|(simp [*];done)),H',⟨Nat.le_refl _⟩,⟨by (with_reducible repeat (first|apply Kd.R_alloc|apply Kd.R_drewN|apply Kd.R_drew));exact HO_5.out⟩,⟨by (with_reducible repeat (first|apply Kd.R_alloc|apply Kd.R_drewN|apply Kd.R_drew));exact HO_6.out⟩,⟨by repeat (first|(with_reducible first|exact HB.out|apply below_alloc|apply pw_below_drewN|apply below_drew1)|exact HB.out)⟩⟩
         case round =>
          clear H'
          try clear c1
          try clear p1
          try clear q1
          try clear hx1
          try clear c2
          try clear p2
          try clear c3
          try clear c4
          try clear p6
          try clear c11
          try clear c11b0
          try clear c11b1
          try clear c11b2
          try clear c12
          try clear c12b0
          try clear c12b1
          try clear p18
          try clear q18
          try clear hx18
          try clear p19
          try clear q19
          try clear hx19
          try clear c20
          try clear c21
          try clear c21b0
          try clear c24
          try clear c24b0
          try clear c25
          try clear c25b0
          try clear c27
          try clear c27b0
          try clear c28
          try clear c28b0
          try clear c29
          try clear c29b0
          try clear c30
          try clear c30b0
          try clear c33
          try clear c33b0
          try clear c34
          try clear c34b0
          try clear c37
          try clear hx187_0
          try clear hx188_0
          try clear hx189_0
          try clear hx190_0
          try clear hx191_0
          try clear hx192_0
          try clear p1
          try clear p18
          try clear p187
          try clear p188
          try clear p189
          try clear p19
          try clear p190
          try clear p191
          try clear p192
          try clear p2
          try clear p6
          try clear q1
          try clear q18
          try clear q187
          try clear q188
          try clear q189
          try clear q19
          try clear q190
          try clear q191
          try clear q192
          try clear HK4
          try clear HO_5
          try clear HO_6
          try clear HB
          obtain ⟨x8_4,x9_4,x10_4,rfl,rfl,rfl,HA,HK4,HO_5,HO_6,HB⟩:=hrel
          cases gk with
          | zero=>exact absurd HA.out (by simp [quarrylaw31_TallyBegins.l1])
          | succ k4 =>
           have H:=HA.out;clear HA
           simp only [quarrylaw31_TallyBegins.l1] at H
           have HC38:=Aside0.mk H;clear H
           go_upto_region 13 with (fail)
           repeat (go_quiet (fail);go_upto_region 13 with (fail))
           go_cut [88] (fun v88 wc=>∃ (kq : Nat) (x88_37 : Bool),v88 = .bool x88_37 ∧ Aside0 (quarrylaw31_TallyBegins.j4 kq l0 t181 t184 x7_2 x8_4 x9_4 x10_4 x88_37 = some r) ∧ Aside0 (kq ≤ k4) ∧ Aside0 (Kd.R (Kd.int .i64) 3 wc w.heap.size (fun k_=>some k_ ≠ (v185 : Value).ownBlock) (.slice Ao23 t181.length co23) t181) ∧ Aside0 (Kd.R (Kd.int .i64) 3 wc w.heap.size (fun k_=>some k_ ≠ ((.slice Ao23 t181.length co23) : Value).ownBlock) v185 t184) ∧ Aside0 (Below w.heap.size w wc))
           case first =>
            have H:=HC38.out;clear HC38
            by_cases c39 : x10_4 < (l0.length : Int)
            ·rw [if_pos c39] at H
             have c39b0 : decide (x10_4 < (l0.length : Int)) = true:=decide_eq_true c39;clear c39
             (first|rw [c39b0]|(simp only [i64_w,i32_w];rw [c39b0])|skip)
             have H':=Aside0.mk H;clear H;go_wp2
             repeat (go_quiet (fail);try go_wp2)
             go_meet
             case rel=>exact ⟨_,(decide ((l0.length : Int) < 2000)),(by first|rfl|(simp;done)|(simp [*];done)),(by first|exact H'|(subst_vars;exact H')),⟨by have:=HJ6.out;have:=HK2.out;have:=HJ21.out;have:=HK4.out;first|omega|exact Nat.le_refl _⟩,⟨by (with_reducible repeat (first|apply Kd.R_alloc|apply Kd.R_drewN|apply Kd.R_drew));exact HO_5.out⟩,⟨by (with_reducible repeat (first|apply Kd.R_alloc|apply Kd.R_drewN|apply Kd.R_drew));exact HO_6.out⟩,⟨by repeat (first|(with_reducible first|exact HB.out|apply below_alloc|apply pw_below_drewN|apply below_drew1)|exact HB.out)⟩⟩
            rw [if_neg c39] at H
            have c39b0 : decide (x10_4 < (l0.length : Int)) = false:=decide_eq_false c39;clear c39
            (first|rw [c39b0]|(simp only [i64_w,i32_w];rw [c39b0])|skip)
            have H':=Aside0.mk H;clear H;go_wp2
            repeat (go_quiet (fail);try go_wp2)
            go_meet
            case rel=>exact ⟨_,(false),(by first|rfl|(simp;done)|(simp [*];done)),(by first|exact H'|(subst_vars;exact H')),⟨by have:=HJ6.out;have:=HK2.out;have:=HJ21.out;have:=HK4.out;first|omega|exact Nat.le_refl _⟩,⟨by (with_reducible repeat (first|apply Kd.R_alloc|apply Kd.R_drewN|apply Kd.R_drew));exact HO_5.out⟩,⟨by (with_reducible repeat (first|apply Kd.R_alloc|apply Kd.R_drewN|apply Kd.R_drew));exact HO_6.out⟩,⟨by repeat (first|(with_reducible first|exact HB.out|apply below_alloc|apply pw_below_drewN|apply below_drew1)|exact HB.out)⟩⟩
           case rest =>
            clear HC38
            try clear c1
            try clear p1
            try clear q1
            try clear hx1
            try clear c2
            try clear p2
            try clear c3
            try clear c4
            try clear p6
            try clear c11
            try clear c11b0
            try clear c11b1
            try clear c11b2
            try clear c12
            try clear c12b0
            try clear c12b1
            try clear p18
            try clear q18
            try clear hx18
            try clear p19
            try clear q19
            try clear hx19
            try clear c20
            try clear c21
            try clear c21b0
            try clear c24
            try clear c24b0
            try clear c25
            try clear c25b0
            try clear c27
            try clear c27b0
            try clear c28
            try clear c28b0
            try clear c29
            try clear c29b0
            try clear c30
            try clear c30b0
            try clear c33
            try clear c33b0
            try clear c34
            try clear c34b0
            try clear c37
            try clear c39
            try clear c39b0
            try clear hx187_0
            try clear hx188_0
            try clear hx189_0
            try clear hx190_0
            try clear hx191_0
            try clear hx192_0
            try clear p1
            try clear p18
            try clear p187
            try clear p188
            try clear p189
            try clear p19
            try clear p190
            try clear p191
            try clear p192
            try clear p2
            try clear p6
            try clear q1
            try clear q18
            try clear q187
            try clear q188
            try clear q189
            try clear q19
            try clear q190
            try clear q191
            try clear q192
            obtain ⟨kq,x88_37,rfl,HA,HJ37,HO_5,HO_6,HB⟩:=hcut
            cases kq with
            | zero=>exact absurd HA.out (by simp [quarrylaw31_TallyBegins.j4])
            | succ kj37 =>
             have H:=HA.out;clear HA
             simp only [quarrylaw31_TallyBegins.j4] at H
             by_cases c40 : x88_37 = true
             ·subst c40
              have H1 : (if 0 ≤ x10_4 then (if x10_4 < (l0.length : Int) then (if 0 ≤ x7_2 then (if x7_2 < (t181.length : Int) then (if (rd l0 x10_4) = (rd t181 x7_2) then (if x10_4 < (t181.length : Int) then (if (rd t181 x10_4) = (rd t181 x7_2) then (quarrylaw31_TallyBegins.l1 kj37 l0 t181 t184 x7_2 (wrap64 (x8_4 + 1)) (wrap64 (x9_4 + 1)) (wrap64 (x10_4 + 1))) else (quarrylaw31_TallyBegins.l1 kj37 l0 t181 t184 x7_2 (wrap64 (x8_4 + 1)) x9_4 (wrap64 (x10_4 + 1)))) else (none)) else (if x10_4 < (t181.length : Int) then (if (rd t181 x10_4) = (rd t181 x7_2) then (quarrylaw31_TallyBegins.l1 kj37 l0 t181 t184 x7_2 x8_4 (wrap64 (x9_4 + 1)) (wrap64 (x10_4 + 1))) else (quarrylaw31_TallyBegins.l1 kj37 l0 t181 t184 x7_2 x8_4 x9_4 (wrap64 (x10_4 + 1)))) else (none))) else (none)) else (none)) else (none)) else (none)) = some r:=by rw [if_pos rfl] at H;exact H
              clear H;have H:=H1;clear H1
              by_cases c41 : 0 ≤ x10_4
              ·rw [if_pos c41] at H
               have c41b0 : decide (0 ≤ x10_4) = true:=decide_eq_true c41;clear c41
               by_cases c42 : x10_4 < (l0.length : Int)
               ·rw [if_pos c42] at H
                have c42b0 : decide (x10_4 < (l0.length : Int)) = true:=decide_eq_true c42;clear c42
                by_cases c43 : 0 ≤ x7_2
                ·rw [if_pos c43] at H
                 have c43b0 : decide (0 ≤ x7_2) = true:=decide_eq_true c43;clear c43
                 by_cases c44 : x7_2 < (t181.length : Int)
                 ·rw [if_pos c44] at H
                  have c44b0 : decide (x7_2 < (t181.length : Int)) = true:=decide_eq_true c44;clear c44
                  by_cases c45 : (rd l0 x10_4) = (rd t181 x7_2)
                  ·rw [if_pos c45] at H
                   have c45b0 : ((rd l0 x10_4) == (rd t181 x7_2)) = true:=beq_iff_eq.mpr c45;have c45b1 : ((rd l0 x10_4) != (rd t181 x7_2)) = false:=bne_eq_false_iff_eq.mpr c45;clear c45
                   by_cases c46 : x10_4 < (t181.length : Int)
                   ·rw [if_pos c46] at H
                    have c46b0 : decide (x10_4 < (t181.length : Int)) = true:=decide_eq_true c46;clear c46
                    by_cases c47 : (rd t181 x10_4) = (rd t181 x7_2)
                    ·rw [if_pos c47] at H
                     have c47b0 : ((rd t181 x10_4) == (rd t181 x7_2)) = true:=beq_iff_eq.mpr c47;have c47b1 : ((rd t181 x10_4) != (rd t181 x7_2)) = false:=bne_eq_false_iff_eq.mpr c47;clear c47;have H':=Aside0.mk H;clear H;have p193 : 0 ≤ (x10_4 : Int):=of_decide_eq_true (by first|(with_reducible assumption)|assumption);have q193 : x10_4 < (l0.length : Int):=of_decide_eq_true (by first|(with_reducible assumption)|assumption);obtain ⟨ad193,e193,hx193_0⟩:=Kd.at_int HR0.out x10_4 p193 q193;cases e193;replace hx193_0:=(HB.out.cell (World.block_lt_of_cell? w _ hx193_0)).trans hx193_0;replace p193:=eq_true p193;replace q193:=eq_true q193;have p194 : 0 ≤ (x7_2 : Int):=of_decide_eq_true (by first|(with_reducible assumption)|assumption);have q194 : x7_2 < (t181.length : Int):=of_decide_eq_true (by first|(with_reducible assumption)|assumption);obtain ⟨ad194,e194,hx194_0⟩:=Kd.at_int (Kd.R_reads' HO_5.out).2.2 x7_2 p194 q194;cases e194;replace p194:=eq_true p194;replace q194:=eq_true q194;have p195 : 0 ≤ (x10_4 : Int):=of_decide_eq_true (by first|(with_reducible assumption)|assumption);have q195 : x10_4 < (t181.length : Int):=of_decide_eq_true (by first|(with_reducible assumption)|assumption);obtain ⟨ad195,e195,hx195_0⟩:=Kd.at_int (Kd.R_reads' HO_5.out).2.2 x10_4 p195 q195;obtain rfl : ad194 = ad195:=(by injection e195);replace p195:=eq_true p195;replace q195:=eq_true q195;have p196 : 0 ≤ (x7_2 : Int):=of_decide_eq_true (by first|(with_reducible assumption)|assumption);have q196 : x7_2 < (t181.length : Int):=of_decide_eq_true (by first|(with_reducible assumption)|assumption)
                     obtain ⟨ad196,e196,hx196_0⟩:=Kd.at_int (Kd.R_reads' HO_5.out).2.2 x7_2 p196 q196;obtain rfl : ad194 = ad196:=(by injection e196);replace p196:=eq_true p196;replace q196:=eq_true q196;go_wp2
                     repeat (go_quiet (fail);try go_wp2)
                     go_roundg kj37
                     case measure=>have:=HJ6.out;have:=HK2.out;have:=HJ21.out;have:=HK4.out;have:=HJ37.out;omega
                     case rel=>exact ⟨(wrap64 (x8_4 + 1)),(wrap64 (x9_4 + 1)),(wrap64 (x10_4 + 1)),(by first|rfl|(simp;done)|(simp [*];done)),(by first|rfl|(simp;done)|(simp [*];done)),(by first|rfl|(simp;done)|(simp [*];done)),(by first|exact H'|(subst_vars;exact H')),⟨by have:=HJ6.out;have:=HK2.out;have:=HJ21.out;have:=HK4.out;have:=HJ37.out;omega⟩,⟨by (with_reducible repeat (first|apply Kd.R_alloc|apply Kd.R_drewN|apply Kd.R_drew));exact HO_5.out⟩,⟨by (with_reducible repeat (first|apply Kd.R_alloc|apply Kd.R_drewN|apply Kd.R_drew));exact HO_6.out⟩,⟨by repeat (first|(with_reducible first|exact HB.out|apply below_alloc|apply pw_below_drewN|apply below_drew1)|exact HB.out)⟩⟩
                    rw [if_neg c47] at H
                    have c47b0 : ((rd t181 x10_4) == (rd t181 x7_2)) = false:=beq_eq_false_iff_ne.mpr c47;have c47b1 : ((rd t181 x10_4) != (rd t181 x7_2)) = true:=bne_iff_ne.mpr c47;have H':=Aside0.mk H;clear H;have p193 : 0 ≤ (x10_4 : Int):=of_decide_eq_true (by first|(with_reducible assumption)|assumption);have q193 : x10_4 < (l0.length : Int):=of_decide_eq_true (by first|(with_reducible assumption)|assumption);obtain ⟨ad193,e193,hx193_0⟩:=Kd.at_int HR0.out x10_4 p193 q193;cases e193;replace hx193_0:=(HB.out.cell (World.block_lt_of_cell? w _ hx193_0)).trans hx193_0;replace p193:=eq_true p193;replace q193:=eq_true q193;have p194 : 0 ≤ (x7_2 : Int):=of_decide_eq_true (by first|(with_reducible assumption)|assumption);have q194 : x7_2 < (t181.length : Int):=of_decide_eq_true (by first|(with_reducible assumption)|assumption);obtain ⟨ad194,e194,hx194_0⟩:=Kd.at_int (Kd.R_reads' HO_5.out).2.2 x7_2 p194 q194;cases e194;replace p194:=eq_true p194;replace q194:=eq_true q194;have p195 : 0 ≤ (x10_4 : Int):=of_decide_eq_true (by first|(with_reducible assumption)|assumption);have q195 : x10_4 < (t181.length : Int):=of_decide_eq_true (by first|(with_reducible assumption)|assumption);obtain ⟨ad195,e195,hx195_0⟩:=Kd.at_int (Kd.R_reads' HO_5.out).2.2 x10_4 p195 q195;obtain rfl : ad194 = ad195:=(by injection e195);replace p195:=eq_true p195;replace q195:=eq_true q195;have p196 : 0 ≤ (x7_2 : Int):=of_decide_eq_true (by first|(with_reducible assumption)|assumption);have q196 : x7_2 < (t181.length : Int):=of_decide_eq_true (by first|(with_reducible assumption)|assumption)
                    obtain ⟨ad196,e196,hx196_0⟩:=Kd.at_int (Kd.R_reads' HO_5.out).2.2 x7_2 p196 q196;obtain rfl : ad194 = ad196:=(by injection e196);replace p196:=eq_true p196;replace q196:=eq_true q196;go_wp2
                    repeat (go_quiet (fail);try go_wp2)
                    go_roundg kj37
                    case measure=>have:=HJ6.out;have:=HK2.out;have:=HJ21.out;have:=HK4.out;have:=HJ37.out;omega
                    case rel=>exact ⟨(wrap64 (x8_4 + 1)),(x9_4),(wrap64 (x10_4 + 1)),(by first|rfl|(simp;done)|(simp [*];done)),(by first|rfl|(simp;done)|(simp [*];done)),(by first|rfl|(simp;done)|(simp [*];done)),(by first|exact H'|(subst_vars;exact H')),⟨by have:=HJ6.out;have:=HK2.out;have:=HJ21.out;have:=HK4.out;have:=HJ37.out;omega⟩,⟨by (with_reducible repeat (first|apply Kd.R_alloc|apply Kd.R_drewN|apply Kd.R_drew));exact HO_5.out⟩,⟨by (with_reducible repeat (first|apply Kd.R_alloc|apply Kd.R_drewN|apply Kd.R_drew));exact HO_6.out⟩,⟨by repeat (first|(with_reducible first|exact HB.out|apply below_alloc|apply pw_below_drewN|apply below_drew1)|exact HB.out)⟩⟩
                   rw [if_neg c46] at H
                   exact absurd H (by simp)
                  rw [if_neg c45] at H
                  have c45b0 : ((rd l0 x10_4) == (rd t181 x7_2)) = false:=beq_eq_false_iff_ne.mpr c45;have c45b1 : ((rd l0 x10_4) != (rd t181 x7_2)) = true:=bne_iff_ne.mpr c45
                  by_cases c48 : x10_4 < (t181.length : Int)
                  ·rw [if_pos c48] at H
                   have c48b0 : decide (x10_4 < (t181.length : Int)) = true:=decide_eq_true c48;clear c48
                   by_cases c49 : (rd t181 x10_4) = (rd t181 x7_2)
                   ·rw [if_pos c49] at H
                    have c49b0 : ((rd t181 x10_4) == (rd t181 x7_2)) = true:=beq_iff_eq.mpr c49;have c49b1 : ((rd t181 x10_4) != (rd t181 x7_2)) = false:=bne_eq_false_iff_eq.mpr c49;clear c49;have H':=Aside0.mk H;clear H;have p193 : 0 ≤ (x10_4 : Int):=of_decide_eq_true (by first|(with_reducible assumption)|assumption);have q193 : x10_4 < (l0.length : Int):=of_decide_eq_true (by first|(with_reducible assumption)|assumption);obtain ⟨ad193,e193,hx193_0⟩:=Kd.at_int HR0.out x10_4 p193 q193;cases e193;replace hx193_0:=(HB.out.cell (World.block_lt_of_cell? w _ hx193_0)).trans hx193_0;replace p193:=eq_true p193;replace q193:=eq_true q193;have p194 : 0 ≤ (x7_2 : Int):=of_decide_eq_true (by first|(with_reducible assumption)|assumption);have q194 : x7_2 < (t181.length : Int):=of_decide_eq_true (by first|(with_reducible assumption)|assumption);obtain ⟨ad194,e194,hx194_0⟩:=Kd.at_int (Kd.R_reads' HO_5.out).2.2 x7_2 p194 q194;cases e194;replace p194:=eq_true p194;replace q194:=eq_true q194;have p197 : 0 ≤ (x10_4 : Int):=of_decide_eq_true (by first|(with_reducible assumption)|assumption);have q197 : x10_4 < (t181.length : Int):=of_decide_eq_true (by first|(with_reducible assumption)|assumption);obtain ⟨ad197,e197,hx197_0⟩:=Kd.at_int (Kd.R_reads' HO_5.out).2.2 x10_4 p197 q197;obtain rfl : ad194 = ad197:=(by injection e197);replace p197:=eq_true p197;replace q197:=eq_true q197;have p198 : 0 ≤ (x7_2 : Int):=of_decide_eq_true (by first|(with_reducible assumption)|assumption);have q198 : x7_2 < (t181.length : Int):=of_decide_eq_true (by first|(with_reducible assumption)|assumption)
                    obtain ⟨ad198,e198,hx198_0⟩:=Kd.at_int (Kd.R_reads' HO_5.out).2.2 x7_2 p198 q198;obtain rfl : ad194 = ad198:=(by injection e198);replace p198:=eq_true p198;replace q198:=eq_true q198;go_wp2
                    repeat (go_quiet (fail);try go_wp2)
                    go_roundg kj37
                    case measure=>have:=HJ6.out;have:=HK2.out;have:=HJ21.out;have:=HK4.out;have:=HJ37.out;omega
                    case rel=>exact ⟨(x8_4),(wrap64 (x9_4 + 1)),(wrap64 (x10_4 + 1)),(by first|rfl|(simp;done)|(simp [*];done)),(by first|rfl|(simp;done)|(simp [*];done)),(by first|rfl|(simp;done)|(simp [*];done)),(by first|exact H'|(subst_vars;exact H')),⟨by have:=HJ6.out;have:=HK2.out;have:=HJ21.out;have:=HK4.out;have:=HJ37.out;omega⟩,⟨by (with_reducible repeat (first|apply Kd.R_alloc|apply Kd.R_drewN|apply Kd.R_drew));exact HO_5.out⟩,⟨by (with_reducible repeat (first|apply Kd.R_alloc|apply Kd.R_drewN|apply Kd.R_drew));exact HO_6.out⟩,⟨by repeat (first|(with_reducible first|exact HB.out|apply below_alloc|apply pw_below_drewN|apply below_drew1)|exact HB.out)⟩⟩
                   rw [if_neg c49] at H
                   have c49b0 : ((rd t181 x10_4) == (rd t181 x7_2)) = false:=beq_eq_false_iff_ne.mpr c49;have c49b1 : ((rd t181 x10_4) != (rd t181 x7_2)) = true:=bne_iff_ne.mpr c49;have H':=Aside0.mk H;clear H;have p193 : 0 ≤ (x10_4 : Int):=of_decide_eq_true (by first|(with_reducible assumption)|assumption);have q193 : x10_4 < (l0.length : Int):=of_decide_eq_true (by first|(with_reducible assumption)|assumption);obtain ⟨ad193,e193,hx193_0⟩:=Kd.at_int HR0.out x10_4 p193 q193;cases e193;replace hx193_0:=(HB.out.cell (World.block_lt_of_cell? w _ hx193_0)).trans hx193_0;replace p193:=eq_true p193;replace q193:=eq_true q193;have p194 : 0 ≤ (x7_2 : Int):=of_decide_eq_true (by first|(with_reducible assumption)|assumption);have q194 : x7_2 < (t181.length : Int):=of_decide_eq_true (by first|(with_reducible assumption)|assumption);obtain ⟨ad194,e194,hx194_0⟩:=Kd.at_int (Kd.R_reads' HO_5.out).2.2 x7_2 p194 q194;cases e194;replace p194:=eq_true p194;replace q194:=eq_true q194;have p197 : 0 ≤ (x10_4 : Int):=of_decide_eq_true (by first|(with_reducible assumption)|assumption);have q197 : x10_4 < (t181.length : Int):=of_decide_eq_true (by first|(with_reducible assumption)|assumption);obtain ⟨ad197,e197,hx197_0⟩:=Kd.at_int (Kd.R_reads' HO_5.out).2.2 x10_4 p197 q197;obtain rfl : ad194 = ad197:=(by injection e197);replace p197:=eq_true p197;replace q197:=eq_true q197;have p198 : 0 ≤ (x7_2 : Int):=of_decide_eq_true (by first|(with_reducible assumption)|assumption);have q198 : x7_2 < (t181.length : Int):=of_decide_eq_true (by first|(with_reducible assumption)|assumption)
                   obtain ⟨ad198,e198,hx198_0⟩:=Kd.at_int (Kd.R_reads' HO_5.out).2.2 x7_2 p198 q198;obtain rfl : ad194 = ad198:=(by injection e198);replace p198:=eq_true p198;replace q198:=eq_true q198;go_wp2
                   repeat (go_quiet (fail);try go_wp2)
                   go_roundg kj37
                   case measure=>have:=HJ6.out;have:=HK2.out;have:=HJ21.out;have:=HK4.out;have:=HJ37.out;omega
                   case rel=>exact ⟨(x8_4),(x9_4),(wrap64 (x10_4 + 1)),(by first|rfl|(simp;done)|(simp [*];done)),(by first|rfl|(simp;done)|(simp [*];done)),(by first|rfl|(simp;done)|(simp [*];done)),(by first|exact H'|(subst_vars;exact H')),⟨by have:=HJ6.out;have:=HK2.out;have:=HJ21.out;have:=HK4.out;have:=HJ37.out;omega⟩,⟨by (with_reducible repeat (first|apply Kd.R_alloc|apply Kd.R_drewN|apply Kd.R_drew));exact HO_5.out⟩,⟨by (with_reducible repeat (first|apply Kd.R_alloc|apply Kd.R_drewN|apply Kd.R_drew));exact HO_6.out⟩,⟨by repeat (first|(with_reducible first|exact HB.out|apply below_alloc|apply pw_below_drewN|apply below_drew1)|exact HB.out)⟩⟩
                  rw [if_neg c48] at H
                  exact absurd H (by simp)
                 rw [if_neg c44] at H
                 exact absurd H (by simp)
                rw [if_neg c43] at H
                exact absurd H (by simp)
               rw [if_neg c42] at H
               exact absurd H (by simp)
              rw [if_neg c41] at H
              exact absurd H (by simp)
             replace c40:=Bool.eq_false_iff.mpr c40;subst c40
             have H1 : (if x8_4 = x9_4 then (quarrylaw31_TallyBegins.l0 kj37 l0 t181 t184 (wrap64 (x7_2 + 1))) else (none)) = some r:=by rw [if_neg (show ¬ (false = true) by decide)] at H;exact H
             clear H;have H:=H1;clear H1
             by_cases c50 : x8_4 = x9_4
             ·rw [if_pos c50] at H
              have c50b0 : (x8_4 == x9_4) = true:=beq_iff_eq.mpr c50;have c50b1 : (x8_4 != x9_4) = false:=bne_eq_false_iff_eq.mpr c50;clear c50;have H':=Aside0.mk H;clear H;go_wp2
              repeat (go_quiet (fail);try go_wp2)
              go_roundg kj37
              case measure=>have:=HJ6.out;have:=HK2.out;have:=HJ21.out;have:=HK4.out;have:=HJ37.out;omega
              case rel=>exact ⟨(wrap64 (x7_2 + 1)),(by first|rfl|(simp;done)|(simp [*];done)),(by first|exact H'|(subst_vars;exact H')),⟨by have:=HJ6.out;have:=HK2.out;have:=HJ21.out;have:=HK4.out;have:=HJ37.out;omega⟩,⟨by (with_reducible repeat (first|apply Kd.R_alloc|apply Kd.R_drewN|apply Kd.R_drew));exact HO_5.out⟩,⟨by (with_reducible repeat (first|apply Kd.R_alloc|apply Kd.R_drewN|apply Kd.R_drew));exact HO_6.out⟩,⟨by repeat (first|(with_reducible first|exact HB.out|apply below_alloc|apply pw_below_drewN|apply below_drew1)|exact HB.out)⟩⟩
             rw [if_neg c50] at H
             exact absurd H (by simp)
      rw [if_neg c21] at H
      have c21b0 : decide (x7_2 < (t181.length : Int)) = false:=decide_eq_false c21;clear c21;obtain rfl:=Option.some.inj H;obtain ⟨Ao51,co51,eo51⟩:=Kd.R_slice HO_5.out;subst eo51;go_wp2
      repeat (go_quiet (fail);try go_wp2)
      go_ret;exact ⟨by first|rfl|(rw [px_ne];rfl)|(simp [errW_none,errW_some] <;> rfl)|(simp [*,errW_none,errW_some] <;> rfl),by repeat (first|(with_reducible first|exact HB.out|apply below_alloc|apply pw_below_drewN|apply below_drew1)|exact HB.out)⟩
 replace c4:=Bool.eq_false_iff.mpr c4;subst c4
 have H1 : (none) = some r:=by rw [if_neg (show ¬ (false = true) by decide)] at H;exact H
 clear H;have H:=H1;clear H1;exact absurd H (by simp)
def quarrylaw31_TallyBegins.Pure : Prop:=∀ (l0 : List Int) (a1 : Int),l0.length ≤ maxLen → l0.length * 8 ≤ 140737488351232 → (∀ x ∈ l0,(Lit.int .i64 x).wf = true) → (Lit.int .i64 a1).wf = true → ∃ k,quarrylaw31_TallyBegins.f k l0 a1 = some true
theorem quarrylaw31_TallyBegins.walk (P : quarrylaw31_TallyBegins.Pure) (a0 : Option Addr) (len0 cap0 : Nat) (z0 : List Int) (a1 : Int) (w : World) (w0 : (a0 = none ∧ len0 = 0 ∧ cap0 = 0 ∧ z0 = []) ∨ ∃ x,a0 = some x ∧ len0 ≤ cap0 ∧ cap0 ≤ maxLen ∧ z0.length = cap0 ∧ (∀ i,i < z0.length → w.cell? (x.add i) = some (.int .i64 (z0.getD i 0))) ∧ ∀ n ∈ z0,(Lit.int .i64 n).wf = true) (y0 : len0 * 8 ≤ 140737488351232) (w1 : (Lit.int .i64 a1).wf = true) :
  Calls Try.prog 4 #[.slice a0 len0 cap0,.int .i64 a1] w fun e w'=>e = .returned (.bool true) ∧ Below w.heap.size w w':=by
 obtain ⟨l0,rfl,hr0,hm0,hw0,hc0⟩:=ReadsInt.ofRowC w0;obtain ⟨k,h⟩:=P l0 a1 hm0 y0 hw0 w1;refine (quarrylaw31_TallyBegins.calls k _ _ l0 a1 true w (Kd.C_of_reads (d:=(0 : Int)) (h1:=fun _=>rfl) hr0) hc0 h).mono ?_;rintro e w' ⟨rfl,hd⟩;exact ⟨rfl,hd⟩
end Go.Proofs.Ytlgamjgdkljfiaa.PTallyBegins
