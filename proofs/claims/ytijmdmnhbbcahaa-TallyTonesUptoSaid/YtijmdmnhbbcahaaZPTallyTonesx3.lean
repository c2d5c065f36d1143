-- Written by shrink.py, a program of this session: what the law needs of the print and its words. Lean checks it.
import Derived.Test.YtijmdmnhbbcahaaZPTallyTonesx0
import Derived.Test.YtijmdmnhbbcahaaZPTallyTonesx2
namespace Go.Proofs.Ytijmdmnhbbcahaa.PTallyTones
open Go.RowKit Go.Proofs.YtijmdmnhbbcahaaW.PrintWords Go.Proofs.YtijmdmnhbbcahaaW.PrintLast Go.Proofs.YtijmdmnhbbcahaaW.PrintMore
attribute [local go_sem] run_fadd run_fsub run_fmul run_fquo unary_fneg run_store_f64 run_store_c128 run_cadd
attribute [local go_sem] max2_int min2_int max_two min_two max_three min_three max_four min_four
set_option linter.unusedVariables false
set_option linter.unusedSimpArgs false
mutual
def quarrykit_LentFloats.l0 : Nat → List Nat → List Nat → Int → Option (List Nat)
 | 0,_,_,_=>none
 | k + 1,x0,x3,x4=>if x4 < (x0.length : Int) then (if 0 ≤ x4 then (if x3.length < 17592186044416 then (quarrykit_LentFloats.l0 k x0 (x3 ++ [rdOf (0 : Nat) x0 x4]) (wrap64 (x4 + 1))) else (none)) else (none)) else (quarrykit_LentFloats.l1 k x0 x3 0)
def quarrykit_LentFloats.l1 : Nat → List Nat → List Nat → Int → Option (List Nat)
 | 0,_,_,_=>none
 | k + 1,x0,x3,x5=>if x5 < 24 then ((quarrykit_mark.f 1 x5).bind fun t105=>(if x3.length < 17592186044416 then (quarrykit_LentFloats.l1 k x0 (x3 ++ [floatOfInt .f64 t105]) (wrap64 (x5 + 1))) else (none))) else (if 0 ≤ (x0.length : Int) then (if (x0.length : Int) ≤ (x3.length : Int) then (some x3) else (none)) else (none))
end
def quarrykit_LentFloats.f (k : Nat) (l0 : List Nat) : Option (List Nat):=quarrykit_LentFloats.l0 k l0 ([] : List Nat) 0
set_option maxHeartbeats 8000000 in
set_option maxRecDepth 100000 in
theorem quarrykit_LentFloats.calls (k : Nat) (A0 : Option Addr) (c0 : Nat) (l0 : List Nat) (r vis : List Nat) (hvis : vis = r.take l0.length) (w : World) (hr0 : Kd.C Kd.f64 w A0 l0.length l0) (hc0 : l0.length ≤ c0) (h : quarrykit_LentFloats.f k l0 = some r) :
  Calls Try.prog 12 #[.slice A0 l0.length c0] w fun e w'=>∃ (A : Option Addr) (c : Nat),e = .returned (.slice A vis.length c) ∧ Kd.R Kd.f64 24 w' w.heap.size (fun _=>True) (.slice A r.length c) r ∧ Below w.heap.size w w':=by
 have HV:=Aside0.mk hvis
 clear hvis
 have HR0:=Aside0.mk hr0
 have HC0:=Aside0.mk hc0
 clear hr0 hc0
 have HB:=Aside0.mk (Below.refl w.heap.size w)
 have H : (quarrykit_LentFloats.l0 k l0 ([] : List Nat) 0) = some r:=h
 clear h
 have H':=Aside0.mk H
 clear H
 go_enter Try.func12,Try.ntmps12
 go_wp2
 go_loopg [3,4] k (fun kq v3 v4 w'=>∃ (x3_1 : List Nat) (x4_1 : Int),v4 = .int .i64 x4_1 ∧ Aside0 (quarrykit_LentFloats.l0 kq l0 x3_1 x4_1 = some r) ∧ Aside0 (kq ≤ k) ∧ Aside0 (Kd.R Kd.f64 24 w' w.heap.size (fun _=>True) v3 x3_1) ∧ Aside0 (Below w.heap.size w w'))
 case atStart=>exact ⟨(([] : List Nat)),(0),(by first|rfl|(simp;done)|(simp [*];done)),H',⟨Nat.le_refl _⟩,⟨by first|exact Kd.R_nil _ _ _ _ _|exact Kd.N_nil _ _ _ _ _|exact Kd.V_nil _ _ _ _ _|exact Kd.Q_nil _ _ _ _ _|exact Kd.S_nil _ _ _ _ _⟩,⟨by repeat (first|(with_reducible first|exact HB.out|apply below_alloc|apply pw_below_drewN|apply below_drew1)|exact HB.out)⟩⟩
 case round =>
  clear H'
  try clear c1
  try clear HK1
  try clear HO_3
  try clear HB
  try clear HK1
  try clear HO_3
  try clear HB
  obtain ⟨x3_1,x4_1,rfl,HA,HK1,HO_3,HB⟩:=hrel
  cases gk with
  | zero=>exact absurd HA.out (by simp [quarrykit_LentFloats.l0])
  | succ k1 =>
   have H:=HA.out
   clear HA
   simp only [quarrykit_LentFloats.l0] at H
   by_cases c2 : x4_1 < (l0.length : Int)
   ·rw [if_pos c2] at H
    have c2b0 : decide (x4_1 < (l0.length : Int)) = true:=decide_eq_true c2
    clear c2
    by_cases c3 : 0 ≤ x4_1
    ·rw [if_pos c3] at H
     have c3b0 : decide (0 ≤ x4_1) = true:=decide_eq_true c3
     clear c3
     by_cases c4 : x3_1.length < 17592186044416
     ·rw [if_pos c4] at H
      have LMc4:=Aside0.mk c4
      clear c4
      obtain ⟨y102,hy102⟩ : ∃ y_ : List Nat,y_ = (x3_1 ++ [rdOf (0 : Nat) l0 x4_1]):=⟨_,rfl⟩
      replace H : (quarrykit_LentFloats.l0 k1 l0 y102 (wrap64 (x4_1 + 1))) = some r:=by first|(rw [hy102];with_reducible exact H)|(have H2_:=(Option.bind_some _ _).symm.trans H;rw [hy102];with_reducible exact H2_)|(have H2_:=(Option.bind_some _ _).symm.trans H;with_reducible exact H2_)|with_reducible exact H|(rw [hy102];exact H)|exact H
      have Ny102:=Aside0.mk hy102
      clear hy102
      have H':=Aside0.mk H
      clear H
      have p101 : 0 ≤ (x4_1 : Int):=of_decide_eq_true (by first|(with_reducible assumption)|assumption)
      have q101 : x4_1 < (l0.length : Int):=of_decide_eq_true (by first|(with_reducible assumption)|assumption)
      obtain ⟨ad101,e101,hx101_0⟩:=Kd.at_f64 HR0.out x4_1 p101 q101
      cases e101
      replace hx101_0:=(HB.out.cell (World.block_lt_of_cell? w _ hx101_0)).trans hx101_0
      replace p101:=eq_true p101
      replace q101:=eq_true q101
      go_wp2_with (first|((with_reducible refine gate_builtin (b:=.append) (xs:=#[.tmp 12,.tmp 17]) rfl ?_);at_builtin;refine Kd.R_append Kd.f64 (w0:=w) w.heap.size rfl (.tmp 12) (.tmp 17) 22 24 (.float .f64 0) 8 rfl Try.underlying22 info24 rfl (by decide) (by omega) u3 x3_1 (rdOf (0 : Nat) l0 x4_1) [.float .f64 (rdOf (0 : Nat) l0 x4_1)] (fun _=>True) (fun _=>False) rfl rfl ?aP (fun _ hk=>hk.elim) ?aF ?aO ?aB ?aS ?aL ?_;(case aP=>exact rfl);(case aB=>exact (by repeat (first|(with_reducible first|exact HB.out|apply below_alloc|apply pw_below_drewN|apply below_drew1)|exact HB.out)));(case aF=>exact (fun _ _=>trivial));(case aO=>exact (by (with_reducible repeat (first|apply Kd.R_alloc|apply Kd.R_drewN|apply Kd.R_drew));exact HO_3.out));(case aS=>exact (below_size (by repeat (first|(with_reducible first|exact HB.out|apply below_alloc|apply pw_below_drewN|apply below_drew1)|exact HB.out))));(case aL=>have:=LMc4.out;first|omega|exact Nat.le_of_lt this);intro v103 w5 ho hb hg hat;rw [← Ny102.out] at ho;have n0_:=Aside0.mk (hb);have n1_:=Aside0.mk (ho);clear HB;clear HO_3;have HB:=n0_;have HO104:=n1_;clear n0_ n1_;clear ho hb hg hat))
      go_roundg k1
      case measure=>have:=HK1.out;omega
      case rel=>exact ⟨(y102),(wrap64 (x4_1 + 1)),(by first|rfl|(simp;done)|(simp [*];done)),(by first|exact H'|(subst_vars;exact H')),⟨by have:=HK1.out;omega⟩,⟨by (with_reducible repeat (first|apply Kd.R_alloc|apply Kd.R_drewN|apply Kd.R_drew));exact HO104.out⟩,⟨by repeat (first|(with_reducible first|exact HB.out|apply below_alloc|apply pw_below_drewN|apply below_drew1)|exact HB.out)⟩⟩
     ·rw [if_neg c4] at H
      exact absurd H (by simp)
    ·rw [if_neg c3] at H
     exact absurd H (by simp)
   ·rw [if_neg c2] at H
    have c2b0 : decide (x4_1 < (l0.length : Int)) = false:=decide_eq_false c2
    clear c2
    have H':=Aside0.mk H
    clear H
    go_wp2
    go_loopg [3,5] k1 (fun kq v3 v5 w'=>∃ (x3_2 : List Nat) (x5_2 : Int),v5 = .int .i64 x5_2 ∧ Aside0 (quarrykit_LentFloats.l1 kq l0 x3_2 x5_2 = some r) ∧ Aside0 (kq ≤ k1) ∧ Aside0 (Kd.R Kd.f64 24 w' w.heap.size (fun _=>True) v3 x3_2) ∧ Aside0 (Below w.heap.size w w'))
    case atStart=>exact ⟨(x3_1),(0),(by first|rfl|(simp;done)|(simp [*];done)),H',⟨Nat.le_refl _⟩,⟨by (with_reducible repeat (first|apply Kd.R_alloc|apply Kd.R_drewN|apply Kd.R_drew));exact HO_3.out⟩,⟨by repeat (first|(with_reducible first|exact HB.out|apply below_alloc|apply pw_below_drewN|apply below_drew1)|exact HB.out)⟩⟩
    case round =>
     clear H'
     try clear c1
     try clear p1
     try clear q1
     try clear hx1
     try clear c2
     try clear c2b0
     try clear p2
     try clear c3
     try clear c3b0
     try clear c4
     try clear hx101_0
     try clear p101
     try clear q101
     try clear HK2
     try clear HO_3
     try clear HB
     try clear HK2
     try clear HO_3
     try clear HB
     obtain ⟨x3_2,x5_2,rfl,HA,HK2,HO_3,HB⟩:=hrel
     cases gk with
     | zero=>exact absurd HA.out (by simp [quarrykit_LentFloats.l1])
     | succ k2 =>
      have H:=HA.out
      clear HA
      simp only [quarrykit_LentFloats.l1] at H
      by_cases c6 : x5_2 < 24
      ·rw [if_pos c6] at H
       have c6b0 : decide (x5_2 < 24) = true:=decide_eq_true c6
       clear c6
       replace H:=Option.bind_eq_some_iff.mp H
       obtain ⟨t105,A70,H⟩:=H
       replace H : (if x3_2.length < 17592186044416 then (quarrykit_LentFloats.l1 k2 l0 (x3_2 ++ [floatOfInt .f64 t105]) (wrap64 (x5_2 + 1))) else (none)) = some r:=H
       have A7:=Aside0.mk A70
       clear A70
       by_cases c8 : x3_2.length < 17592186044416
       ·rw [if_pos c8] at H
        have LMc8:=Aside0.mk c8
        clear c8
        obtain ⟨y106,hy106⟩ : ∃ y_ : List Nat,y_ = (x3_2 ++ [floatOfInt .f64 t105]):=⟨_,rfl⟩
        replace H : (quarrykit_LentFloats.l1 k2 l0 y106 (wrap64 (x5_2 + 1))) = some r:=by first|(rw [hy106];with_reducible exact H)|(have H2_:=(Option.bind_some _ _).symm.trans H;rw [hy106];with_reducible exact H2_)|(have H2_:=(Option.bind_some _ _).symm.trans H;with_reducible exact H2_)|with_reducible exact H|(rw [hy106];exact H)|exact H
        have Ny106:=Aside0.mk hy106
        clear hy106
        have H':=Aside0.mk H
        clear H
        go_wp2_with (first|((with_reducible refine gate_callee (f:=39) rfl ?_);refine goesL_ (some 25) rfl rfl Try.func39 (by kernel_rfl) rfl #[.int .i64 1,.int .i64 x5_2] rfl (by (try simp only [List.map_toArray,List.map_cons,List.map_nil]);first|done|rfl|(simp only [List.length_drop,List.length_take];rfl)) ?_;(with_reducible refine (quarrykit_mark.calls 1 x5_2 t105 _ A7.out).mono ?_);rintro e w' ⟨rfl,⟨nd,rfl⟩⟩;refine ⟨_,rfl,?_⟩)|((with_reducible refine gate_builtin (b:=.append) (xs:=#[.tmp 23,.tmp 27]) rfl ?_);at_builtin;refine Kd.R_append Kd.f64 (w0:=w) w.heap.size rfl (.tmp 23) (.tmp 27) 22 24 (.float .f64 0) 8 rfl Try.underlying22 info24 rfl (by decide) (by omega) u3 x3_2 (floatOfInt .f64 t105) [.float .f64 (floatOfInt .f64 t105)] (fun _=>True) (fun _=>False) rfl rfl ?aP (fun _ hk=>hk.elim) ?aF ?aO ?aB ?aS ?aL ?_;(case aP=>exact rfl);(case aB=>exact (by repeat (first|(with_reducible first|exact HB.out|apply below_alloc|apply pw_below_drewN|apply below_drew1)|exact HB.out)));(case aF=>exact (fun _ _=>trivial));(case aO=>exact (by (with_reducible repeat (first|apply Kd.R_alloc|apply Kd.R_drewN|apply Kd.R_drew));exact HO_3.out));(case aS=>exact (below_size (by repeat (first|(with_reducible first|exact HB.out|apply below_alloc|apply pw_below_drewN|apply below_drew1)|exact HB.out))));(case aL=>have:=LMc8.out;first|omega|exact Nat.le_of_lt this);intro v107 w9 ho hb hg hat;rw [← Ny106.out] at ho;have n0_:=Aside0.mk (hb);have n1_:=Aside0.mk (ho);clear HB;clear HO_3;have HB:=n0_;have HO108:=n1_;clear n0_ n1_;clear ho hb hg hat))
        go_roundg k2
        case measure=>have:=HK1.out;have:=HK2.out;omega
        case rel=>exact ⟨(y106),(wrap64 (x5_2 + 1)),(by first|rfl|(simp;done)|(simp [*];done)),(by first|exact H'|(subst_vars;exact H')),⟨by have:=HK1.out;have:=HK2.out;omega⟩,⟨by (with_reducible repeat (first|apply Kd.R_alloc|apply Kd.R_drewN|apply Kd.R_drew));exact HO108.out⟩,⟨by repeat (first|(with_reducible first|exact HB.out|apply below_alloc|apply pw_below_drewN|apply below_drew1)|exact HB.out)⟩⟩
       ·rw [if_neg c8] at H
        exact absurd H (by simp)
      ·rw [if_neg c6] at H
       have c6b0 : decide (x5_2 < 24) = false:=decide_eq_false c6
       clear c6
       by_cases c10 : 0 ≤ (l0.length : Int)
       ·rw [if_pos c10] at H
        have c10b0:=eq_true c10
        have c10b1 : decide (0 ≤ (l0.length : Int)) = true:=decide_eq_true c10
        clear c10
        by_cases c11 : (l0.length : Int) ≤ (x3_2.length : Int)
        ·rw [if_pos c11] at H
         have c11b0:=eq_true c11
         have c11b1 : decide ((l0.length : Int) ≤ (x3_2.length : Int)) = true:=decide_eq_true c11
         clear c11
         obtain rfl:=Option.some.inj H
         obtain ⟨Ao12,co12,eo12⟩:=Kd.R_slice HO_3.out
         subst eo12
         have q13 : ((l0.length : Int) : Int) ≤ ((x3_2.length : Int) : Int):=of_decide_eq_true (by first|(with_reducible assumption)|assumption)
         obtain ⟨i013,hi013,_,hsz13,_⟩:=info_parts info24
         have hcut13:=cut_to (P:=Try.prog) 22 24 .i64 Try.underlying22 hi013 Ao12 x3_2.length co12 (l0.length : Int) (of_decide_eq_true (by first|(with_reducible assumption)|assumption)) q13 (Kd.R_reads' HO_3.out).2.1
         have hv13 : ((l0.length : Int) : Int).toNat = vis.length:=(by rw [HV.out,List.length_take];omega)
         rw [hv13] at hcut13
         clear hi013 hsz13 hv13
         replace q13:=eq_true q13
         go_wp2
         go_ret
         exact ⟨Ao12,co12,rfl,by (with_reducible repeat (first|apply Kd.R_alloc|apply Kd.R_drewN|apply Kd.R_drew));exact HO_3.out,by repeat (first|(with_reducible first|exact HB.out|apply below_alloc|apply pw_below_drewN|apply below_drew1)|exact HB.out)⟩
        ·rw [if_neg c11] at H
         exact absurd H (by simp)
       ·rw [if_neg c10] at H
        exact absurd H (by simp)
end Go.Proofs.Ytijmdmnhbbcahaa.PTallyTones
