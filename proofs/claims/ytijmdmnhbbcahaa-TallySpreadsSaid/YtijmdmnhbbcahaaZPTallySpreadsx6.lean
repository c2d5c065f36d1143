-- Written by shrink.py, a program of this session: what the law needs of the print and its words. Lean checks it.
import Derived.Test.YtijmdmnhbbcahaaZPTallySpreadsx0
import Derived.Test.YtijmdmnhbbcahaaZPTallySpreadsx4
import Derived.Test.YtijmdmnhbbcahaaZPTallySpreadsx5
namespace Go.Proofs.Ytijmdmnhbbcahaa.PTallySpreads
open Go.RowKit Go.Proofs.YtijmdmnhbbcahaaW.PrintWords Go.Proofs.YtijmdmnhbbcahaaW.PrintLast Go.Proofs.YtijmdmnhbbcahaaW.PrintMore
attribute [local go_sem] run_fadd run_fsub run_fmul run_fquo unary_fneg run_store_f64 run_store_c128 run_cadd
attribute [local go_sem] max2_int min2_int max_two min_two max_three min_three max_four min_four
set_option linter.unusedVariables false
set_option linter.unusedSimpArgs false
def tally_Of.l0 : Nat → List Nat → Int → Int → Int → Nat → Nat → Nat → Nat → Nat → Nat → Option (Int × Nat × Nat × Nat × Nat × Nat × Nat × Int)
 | 0,_,_,_,_,_,_,_,_,_,_=>none
 | k + 1,x13,x14,x15,x117000,x117001,x117002,x117003,x117004,x117005,x117006=>if x15 < x14 then (if 0 ≤ x15 then (if x15 < (x13.length : Int) then ((tally_Put.f k x117000 x117001 x117002 x117003 x117004 x117005 x117006 (rdOf (0 : Nat) x13 x15)).bind fun bt118=>(if bt118.2.2.2.2.2.2.2 = 0 then (tally_Of.l0 k x13 x14 (wrap64 (x15 + 1)) bt118.1 bt118.2.1 bt118.2.2.1 bt118.2.2.2.1 bt118.2.2.2.2.1 bt118.2.2.2.2.2.1 bt118.2.2.2.2.2.2.1) else (some (0,0,0,0,0,0,0,121)))) else (none)) else (none)) else (some (x117000,x117001,x117002,x117003,x117004,x117005,x117006,0))
def tally_Of.f (k : Nat) (l0 : List Nat) : Option (Int × Nat × Nat × Nat × Nat × Nat × Nat × Int):=(tally_finite.f k l0).bind fun t115=>(if t115 = true then (tally_Of.l0 k l0 (l0.length : Int) 0 0 0 0 0 0 0 0) else (some (0,0,0,0,0,0,0,130)))
set_option maxHeartbeats 8000000 in
set_option maxRecDepth 100000 in
theorem tally_Of.calls (k : Nat) (A0 : Option Addr) (c0 : Nat) (l0 : List Nat) (r1 : Int) (r2 : Nat) (r3 : Nat) (r4 : Nat) (r5 : Nat) (r6 : Nat) (r7 : Nat) (r8 : Int) (w : World) (hr0 : Kd.C Kd.f64 w A0 l0.length l0) (hc0 : l0.length ≤ c0) (h : tally_Of.f k l0 = some (r1,r2,r3,r4,r5,r6,r7,r8)) :
  Calls Try.prog 13 #[.slice A0 l0.length c0] w fun e w'=>e = .returned (.tuple #[.agg #[.int .i64 r1,.float .f64 r2,.float .f64 r3,.float .f64 r4,.float .f64 r5,.float .f64 r6,.float .f64 r7],.int .i64 r8]) ∧ Below w.heap.size w w':=by
 have hu26:=Try.underlying26
 have HR0:=Aside0.mk hr0
 have HC0:=Aside0.mk hc0
 clear hr0 hc0
 have HB:=Aside0.mk (Below.refl w.heap.size w)
 have H : ((tally_finite.f k l0).bind fun t115=>(if t115 = true then (tally_Of.l0 k l0 (l0.length : Int) 0 0 0 0 0 0 0 0) else (some (0,0,0,0,0,0,0,130)))) = some (r1,r2,r3,r4,r5,r6,r7,r8):=h
 clear h
 replace H:=Option.bind_eq_some_iff.mp H
 obtain ⟨t115,A20,H⟩:=H
 replace H : (if t115 = true then (tally_Of.l0 k l0 (l0.length : Int) 0 0 0 0 0 0 0 0) else (some (0,0,0,0,0,0,0,130))) = some (r1,r2,r3,r4,r5,r6,r7,r8):=H
 have A2:=Aside0.mk A20
 clear A20
 by_cases c3 : t115 = true
 ·subst c3
  have H1 : (tally_Of.l0 k l0 (l0.length : Int) 0 0 0 0 0 0 0 0) = some (r1,r2,r3,r4,r5,r6,r7,r8):=by rw [if_pos rfl] at H;exact H
  clear H
  have H:=H1
  clear H1
  have H':=Aside0.mk H
  clear H
  go_enter Try.func13,Try.ntmps13
  go_wp2_with (first|((with_reducible refine gate_dst (N:=2) rfl ?_);refine box_event ?hg (N:=2) ?hd (cs:=#[.int .i64 0,.float .f64 0,.float .f64 0,.float .f64 0,.float .f64 0,.float .f64 0,.float .f64 0]) (t:=26) ?hr ?_;(case hd=>rfl);(case hg=>rfl);(case hr=>first|(go_simp;done)|(go_simp;rfl));intro gb114 hg w4 hbox hb;have n_:=J_ (below_step (hb_ HB) hb) (J_ (hbox) (J_ (bs_ hg HB) (Aside0.mk (bs_ hg HB))));clear HB;obtain ⟨HB,BK114,GW114,GE114⟩:=n_;clear hb hbox hg)|((with_reducible refine gate_callee (f:=40) rfl ?_);refine goesL_ (some 10) rfl rfl Try.func40 (by kernel_rfl) rfl #[.slice A0 l0.length c0] rfl am_ ?_;(with_reducible refine (tally_finite.calls k _ _ l0 true _ ?side1 ?side2 A2.out).mono ?_);(case side1=>repeat (first|exact (Kd.C_below HR0.out HB.out)|(with_reducible refine Kd.C_alloc ?_ _)|(with_reducible refine Kd.C_drewN ?_ _)|(with_reducible refine Kd.C_drew ?_)));(case side2=>exact HC0.out);rintro e w' ⟨rfl,⟨nd,rfl⟩⟩;refine ⟨_,rfl,?_⟩)|((with_reducible refine gate_dst (N:=4) rfl ?_);refine box_event ?hg (N:=4) ?hd (cs:=#[.int .i64 0,.float .f64 0,.float .f64 0,.float .f64 0,.float .f64 0,.float .f64 0,.float .f64 0]) (t:=26) ?hr ?_;(case hd=>rfl);(case hg=>rfl);(case hr=>first|(go_simp;done)|(go_simp;rfl));intro gb116 hg w5 hbox hb;have n_:=J_ (bkb_ BK114 hb) (J_ (below_step (hb_ HB) hb) (J_ (hbox) (J_ (bs_ hg HB) (J_ (bs_ hg HB) (J_ ((by rw [hg];exact Nat.ne_of_lt (bkl_ BK114) : gb114 ≠ gb116)) (Aside0.mk ((by rw [hg];exact Nat.ne_of_gt (bkl_ BK114) : gb116 ≠ gb114))))))));clear BK114 HB;obtain ⟨BK114,HB,BK116,GW116,GE116,NB114_116,NB116_114⟩:=n_;clear hb hbox hg))
  go_loopg [15] k (fun kq v15 w'=>∃ (x15_1 : Int) (x115000_1 : Int) (x115001_1 : Nat) (x115002_1 : Nat) (x115003_1 : Nat) (x115004_1 : Nat) (x115005_1 : Nat) (x115006_1 : Nat) (x117000_1 : Int) (x117001_1 : Nat) (x117002_1 : Nat) (x117003_1 : Nat) (x117004_1 : Nat) (x117005_1 : Nat) (x117006_1 : Nat),v15 = .int .i64 x15_1 ∧ Aside0 (tally_Of.l0 kq l0 (l0.length : Int) x15_1 x117000_1 x117001_1 x117002_1 x117003_1 x117004_1 x117005_1 x117006_1 = some (r1,r2,r3,r4,r5,r6,r7,r8)) ∧ Aside0 (kq ≤ k) ∧ Aside0 (w'.heap[gb114]? = some (.cells #[.int .i64 x115000_1,.float .f64 x115001_1,.float .f64 x115002_1,.float .f64 x115003_1,.float .f64 x115004_1,.float .f64 x115005_1,.float .f64 x115006_1] 26 (0,0))) ∧ Aside0 (w'.heap[gb116]? = some (.cells #[.int .i64 x117000_1,.float .f64 x117001_1,.float .f64 x117002_1,.float .f64 x117003_1,.float .f64 x117004_1,.float .f64 x117005_1,.float .f64 x117006_1] 26 (0,0))) ∧ Aside0 (Below w.heap.size w w'))
  case atStart=>exact ⟨(0),(0),(0),(0),(0),(0),(0),(0),(0),(0),(0),(0),(0),(0),(0),rr_,H',⟨Nat.le_refl _⟩,⟨(bk_ BK114)⟩,⟨(bk_ BK116)⟩,⟨(hb_ HB)⟩⟩
  case round =>
   clear H'
   try clear BK114
   try clear BK116
   try clear HB
   obtain ⟨x15_1,x115000_1,x115001_1,x115002_1,x115003_1,x115004_1,x115005_1,x115006_1,x117000_1,x117001_1,x117002_1,x117003_1,x117004_1,x117005_1,x117006_1,rfl,HA,HK1,BK114,BK116,HB⟩:=hrel
   cases gk with
   | zero=>exact absurd HA.out (by simp [tally_Of.l0])
   | succ k1 =>
    have H:=HA.out
    clear HA
    simp only [tally_Of.l0] at H
    by_cases c6 : x15_1 < (l0.length : Int)
    ·rw [if_pos c6] at H
     have c6b0 : decide (x15_1 < (l0.length : Int)) = true:=decide_eq_true c6
     clear c6
     by_cases c7 : 0 ≤ x15_1
     ·rw [if_pos c7] at H
      have c7b0 : decide (0 ≤ x15_1) = true:=decide_eq_true c7
      clear c7
      by_cases c8 : x15_1 < (l0.length : Int)
      ·rw [if_pos c8] at H
       have c8b0 : decide (x15_1 < (l0.length : Int)) = true:=decide_eq_true c8
       clear c8
       replace H:=Option.bind_eq_some_iff.mp H
       obtain ⟨⟨t118,t119,t120,t121,t122,t123,t124,t125⟩,A90,H⟩:=H
       replace H : (if t125 = 0 then (tally_Of.l0 k1 l0 (l0.length : Int) (wrap64 (x15_1 + 1)) t118 t119 t120 t121 t122 t123 t124) else (some (0,0,0,0,0,0,0,121))) = some (r1,r2,r3,r4,r5,r6,r7,r8):=H
       have A9:=Aside0.mk A90
       clear A90
       by_cases c10 : t125 = 0
       ·rw [if_pos c10] at H
        have c10b0 : (t125 == 0) = true:=beq_iff_eq.mpr c10
        have c10b1 : (t125 != 0) = false:=bne_eq_false_iff_eq.mpr c10
        clear c10
        have H':=Aside0.mk H
        clear H
        have p117 : 0 ≤ (x15_1 : Int):=of_decide_eq_true aa_
        have q117 : x15_1 < (l0.length : Int):=of_decide_eq_true aa_
        obtain ⟨ad117,e117,hx117_0⟩:=Kd.at_f64 HR0.out x15_1 p117 q117
        cases e117
        replace hx117_0:=(HB.out.cell (World.block_lt_of_cell? w _ hx117_0)).trans hx117_0
        replace p117:=eq_true p117
        replace q117:=eq_true q117
        have hnb11:=NB116_114.out
        have hnc11:=NB114_116.out
        obtain ⟨hcz12_0,hcz12_1,hcz12_2,hcz12_3,hcz12_4,hcz12_5,hcz12_6,hfz12_0,hfz12_1,hfz12_2,hfz12_3,hfz12_4,hfz12_5,hfz12_6⟩:=cf7_ BK116
        go_wp2_with (first|((with_reducible refine gate_callee (f:=18) rfl ?_);refine goesL_ (some 22) rfl rfl Try.func18 (by kernel_rfl) rfl #[.agg #[.int .i64 x117000_1,.float .f64 x117001_1,.float .f64 x117002_1,.float .f64 x117003_1,.float .f64 x117004_1,.float .f64 x117005_1,.float .f64 x117006_1],.float .f64 (rdOf (0 : Nat) l0 x15_1)] rfl am_ ?_;(with_reducible refine (tally_Put.calls k1 x117000_1 x117001_1 x117002_1 x117003_1 x117004_1 x117005_1 x117006_1 (rdOf (0 : Nat) l0 x15_1) t118 t119 t120 t121 t122 t123 t124 t125 _ A9.out).mono ?_);rintro e w13 ⟨rfl,hb⟩;refine ⟨_,rfl,?_⟩;have n_:=J_ (bkb_ BK114 hb) (J_ (bkb_ BK116 hb) (Aside0.mk (below_step (hb_ HB) hb)));clear BK114 BK116 HB;obtain ⟨BK114,BK116,HB⟩:=n_;(try clear hb);(try clear hb2);(try clear hk);(try clear hi))|((with_reducible refine gate_dst (N:=7) rfl ?_);refine box_event ?hg (N:=7) ?hd (cs:=#[.int .i64 0,.float .f64 0,.float .f64 0,.float .f64 0,.float .f64 0,.float .f64 0,.float .f64 0]) (t:=26) ?hr ?_;(case hd=>rfl);(case hg=>rfl);(case hr=>first|(go_simp;done)|(go_simp;rfl));intro gb126 hg w14 hbox hb;have n_:=J_ (bkb_ BK114 hb) (J_ (bkb_ BK116 hb) (J_ (below_step (hb_ HB) hb) (J_ (hbox) (J_ (bs_ hg HB) (J_ (bs_ hg HB) (J_ ((by rw [hg];exact Nat.ne_of_lt (bkl_ BK114) : gb114 ≠ gb126)) (J_ ((by rw [hg];exact Nat.ne_of_gt (bkl_ BK114) : gb126 ≠ gb114)) (J_ ((by rw [hg];exact Nat.ne_of_lt (bkl_ BK116) : gb116 ≠ gb126)) (Aside0.mk ((by rw [hg];exact Nat.ne_of_gt (bkl_ BK116) : gb126 ≠ gb116)))))))))));clear BK114 BK116 HB;obtain ⟨BK114,BK116,HB,BK126,GW126,GE126,NB114_126,NB126_114,NB116_126,NB126_116⟩:=n_;clear hb hbox hg;have hnb15:=NB126_114.out;have hnc15:=NB114_126.out;have hnb16:=NB126_116.out;have hnc16:=NB116_126.out;obtain ⟨hcz17_0,hcz17_1,hcz17_2,hcz17_3,hcz17_4,hcz17_5,hcz17_6,hfz17_0,hfz17_1,hfz17_2,hfz17_3,hfz17_4,hfz17_5,hfz17_6⟩:=cf7_ BK126;obtain ⟨hcz18_0,hcz18_1,hcz18_2,hcz18_3,hcz18_4,hcz18_5,hcz18_6,hfz18_0,hfz18_1,hfz18_2,hfz18_3,hfz18_4,hfz18_5,hfz18_6⟩:=cf7_ BK116))
        go_roundg k1
        case measure=>have:=HK1.out;omega
        case rel=>exact ⟨(wrap64 (x15_1 + 1)),(x115000_1),(x115001_1),(x115002_1),(x115003_1),(x115004_1),(x115005_1),(x115006_1),(t118),(t119),(t120),(t121),(t122),(t123),(t124),rr_,(by first|exact H'|(subst_vars;exact H')),⟨by have:=HK1.out;omega⟩,⟨by (with_reducible repeat (first|refine blk_drewN ?_ _|refine blk_drew ?_|refine blk_alloc ?_ _));refine blk_far ?_ NB114_116.out _;(with_reducible repeat (first|refine blk_drewN ?_ _|refine blk_drew ?_|refine blk_alloc ?_ _));refine blk_far ?_ NB114_116.out _;(with_reducible repeat (first|refine blk_drewN ?_ _|refine blk_drew ?_|refine blk_alloc ?_ _));refine blk_far ?_ NB114_116.out _;(with_reducible repeat (first|refine blk_drewN ?_ _|refine blk_drew ?_|refine blk_alloc ?_ _));refine blk_far ?_ NB114_116.out _;(with_reducible repeat (first|refine blk_drewN ?_ _|refine blk_drew ?_|refine blk_alloc ?_ _));refine blk_far ?_ NB114_116.out _;(with_reducible repeat (first|refine blk_drewN ?_ _|refine blk_drew ?_|refine blk_alloc ?_ _));refine blk_far ?_ NB114_116.out _;(with_reducible repeat (first|refine blk_drewN ?_ _|refine blk_drew ?_|refine blk_alloc ?_ _));refine blk_far ?_ NB114_116.out _;(with_reducible repeat (first|refine blk_drewN ?_ _|refine blk_drew ?_|refine blk_alloc ?_ _));refine blk_far ?_ NB114_126.out _;(with_reducible repeat (first|refine blk_drewN ?_ _|refine blk_drew ?_|refine blk_alloc ?_ _));refine blk_far ?_ NB114_126.out _;(with_reducible repeat (first|refine blk_drewN ?_ _|refine blk_drew ?_|refine blk_alloc ?_ _));refine blk_far ?_ NB114_126.out _;(with_reducible repeat (first|refine blk_drewN ?_ _|refine blk_drew ?_|refine blk_alloc ?_ _));refine blk_far ?_ NB114_126.out _;(with_reducible repeat (first|refine blk_drewN ?_ _|refine blk_drew ?_|refine blk_alloc ?_ _));refine blk_far ?_ NB114_126.out _;(with_reducible repeat (first|refine blk_drewN ?_ _|refine blk_drew ?_|refine blk_alloc ?_ _));refine blk_far ?_ NB114_126.out _;(with_reducible repeat (first|refine blk_drewN ?_ _|refine blk_drew ?_|refine blk_alloc ?_ _));refine blk_far ?_ NB114_126.out _;(with_reducible repeat (first|refine blk_drewN ?_ _|refine blk_drew ?_|refine blk_alloc ?_ _));exact BK114.out⟩,⟨by (with_reducible repeat (first|refine blk_drewN ?_ _|refine blk_drew ?_|refine blk_alloc ?_ _));refine bp_ (cs:=#[.int .i64 t118,.float .f64 t119,.float .f64 t120,.float .f64 t121,.float .f64 t122,.float .f64 t123,.float .f64 x117006_1]) ?_ 6 _;refine bp_ (cs:=#[.int .i64 t118,.float .f64 t119,.float .f64 t120,.float .f64 t121,.float .f64 t122,.float .f64 x117005_1,.float .f64 x117006_1]) ?_ 5 _;refine bp_ (cs:=#[.int .i64 t118,.float .f64 t119,.float .f64 t120,.float .f64 t121,.float .f64 x117004_1,.float .f64 x117005_1,.float .f64 x117006_1]) ?_ 4 _;refine bp_ (cs:=#[.int .i64 t118,.float .f64 t119,.float .f64 t120,.float .f64 x117003_1,.float .f64 x117004_1,.float .f64 x117005_1,.float .f64 x117006_1]) ?_ 3 _;refine bp_ (cs:=#[.int .i64 t118,.float .f64 t119,.float .f64 x117002_1,.float .f64 x117003_1,.float .f64 x117004_1,.float .f64 x117005_1,.float .f64 x117006_1]) ?_ 2 _;refine bp_ (cs:=#[.int .i64 t118,.float .f64 x117001_1,.float .f64 x117002_1,.float .f64 x117003_1,.float .f64 x117004_1,.float .f64 x117005_1,.float .f64 x117006_1]) ?_ 1 _;refine bp_ (cs:=#[.int .i64 x117000_1,.float .f64 x117001_1,.float .f64 x117002_1,.float .f64 x117003_1,.float .f64 x117004_1,.float .f64 x117005_1,.float .f64 x117006_1]) ?_ 0 _;(with_reducible repeat (first|refine blk_drewN ?_ _|refine blk_drew ?_|refine blk_alloc ?_ _));refine blk_far ?_ NB116_126.out _;(with_reducible repeat (first|refine blk_drewN ?_ _|refine blk_drew ?_|refine blk_alloc ?_ _));refine blk_far ?_ NB116_126.out _;(with_reducible repeat (first|refine blk_drewN ?_ _|refine blk_drew ?_|refine blk_alloc ?_ _));refine blk_far ?_ NB116_126.out _;(with_reducible repeat (first|refine blk_drewN ?_ _|refine blk_drew ?_|refine blk_alloc ?_ _));refine blk_far ?_ NB116_126.out _;(with_reducible repeat (first|refine blk_drewN ?_ _|refine blk_drew ?_|refine blk_alloc ?_ _));refine blk_far ?_ NB116_126.out _;(with_reducible repeat (first|refine blk_drewN ?_ _|refine blk_drew ?_|refine blk_alloc ?_ _));refine blk_far ?_ NB116_126.out _;(with_reducible repeat (first|refine blk_drewN ?_ _|refine blk_drew ?_|refine blk_alloc ?_ _));refine blk_far ?_ NB116_126.out _;(with_reducible repeat (first|refine blk_drewN ?_ _|refine blk_drew ?_|refine blk_alloc ?_ _));exact BK116.out⟩,⟨(hb_ HB)⟩⟩
       ·rw [if_neg c10] at H
        have c10b0 : (t125 == 0) = false:=beq_eq_false_iff_ne.mpr c10
        have c10b1 : (t125 != 0) = true:=bne_iff_ne.mpr c10
        simp only [Option.some.injEq,Prod.mk.injEq] at H
        obtain ⟨rfl,rfl,rfl,rfl,rfl,rfl,rfl,rfl⟩:=H
        have p117 : 0 ≤ (x15_1 : Int):=of_decide_eq_true aa_
        have q117 : x15_1 < (l0.length : Int):=of_decide_eq_true aa_
        obtain ⟨ad117,e117,hx117_0⟩:=Kd.at_f64 HR0.out x15_1 p117 q117
        cases e117
        replace hx117_0:=(HB.out.cell (World.block_lt_of_cell? w _ hx117_0)).trans hx117_0
        replace p117:=eq_true p117
        replace q117:=eq_true q117
        have hnb19:=NB116_114.out
        have hnc19:=NB114_116.out
        obtain ⟨hcz20_0,hcz20_1,hcz20_2,hcz20_3,hcz20_4,hcz20_5,hcz20_6,hfz20_0,hfz20_1,hfz20_2,hfz20_3,hfz20_4,hfz20_5,hfz20_6⟩:=cf7_ BK116
        go_wp2_with (first|((with_reducible refine gate_callee (f:=18) rfl ?_);refine goesL_ (some 22) rfl rfl Try.func18 (by kernel_rfl) rfl #[.agg #[.int .i64 x117000_1,.float .f64 x117001_1,.float .f64 x117002_1,.float .f64 x117003_1,.float .f64 x117004_1,.float .f64 x117005_1,.float .f64 x117006_1],.float .f64 (rdOf (0 : Nat) l0 x15_1)] rfl am_ ?_;(with_reducible refine (tally_Put.calls k1 x117000_1 x117001_1 x117002_1 x117003_1 x117004_1 x117005_1 x117006_1 (rdOf (0 : Nat) l0 x15_1) t118 t119 t120 t121 t122 t123 t124 t125 _ A9.out).mono ?_);rintro e w21 ⟨rfl,hb⟩;refine ⟨_,rfl,?_⟩;have n_:=J_ (bkb_ BK114 hb) (J_ (bkb_ BK116 hb) (Aside0.mk (below_step (hb_ HB) hb)));clear BK114 BK116 HB;obtain ⟨BK114,BK116,HB⟩:=n_;(try clear hb);(try clear hb2);(try clear hk);(try clear hi))|((with_reducible refine gate_dst (N:=7) rfl ?_);refine box_event ?hg (N:=7) ?hd (cs:=#[.int .i64 0,.float .f64 0,.float .f64 0,.float .f64 0,.float .f64 0,.float .f64 0,.float .f64 0]) (t:=26) ?hr ?_;(case hd=>rfl);(case hg=>rfl);(case hr=>first|(go_simp;done)|(go_simp;rfl));intro gb126 hg w22 hbox hb;have n_:=J_ (bkb_ BK114 hb) (J_ (bkb_ BK116 hb) (J_ (below_step (hb_ HB) hb) (J_ (hbox) (J_ (bs_ hg HB) (J_ (bs_ hg HB) (J_ ((by rw [hg];exact Nat.ne_of_lt (bkl_ BK114) : gb114 ≠ gb126)) (J_ ((by rw [hg];exact Nat.ne_of_gt (bkl_ BK114) : gb126 ≠ gb114)) (J_ ((by rw [hg];exact Nat.ne_of_lt (bkl_ BK116) : gb116 ≠ gb126)) (Aside0.mk ((by rw [hg];exact Nat.ne_of_gt (bkl_ BK116) : gb126 ≠ gb116)))))))))));clear BK114 BK116 HB;obtain ⟨BK114,BK116,HB,BK126,GW126,GE126,NB114_126,NB126_114,NB116_126,NB126_116⟩:=n_;clear hb hbox hg;have hnb23:=NB126_114.out;have hnc23:=NB114_126.out;have hnb24:=NB126_116.out;have hnc24:=NB116_126.out;obtain ⟨hcz25_0,hcz25_1,hcz25_2,hcz25_3,hcz25_4,hcz25_5,hcz25_6,hfz25_0,hfz25_1,hfz25_2,hfz25_3,hfz25_4,hfz25_5,hfz25_6⟩:=cf7_ BK126;obtain ⟨hcz26_0,hcz26_1,hcz26_2,hcz26_3,hcz26_4,hcz26_5,hcz26_6,hfz26_0,hfz26_1,hfz26_2,hfz26_3,hfz26_4,hfz26_5,hfz26_6⟩:=cf7_ BK114))
        refine bodyPost_ret (results_ct rfl _ _ gb114 26 #[.int .i64 0,.float .f64 0,.float .f64 0,.float .f64 0,.float .f64 0,.float .f64 0,.float .f64 0] (0,0) _ rfl (by (with_reducible repeat (first|refine blk_drewN ?_ _|refine blk_drew ?_|refine blk_alloc ?_ _));refine bp_ (cs:=#[.int .i64 0,.float .f64 0,.float .f64 0,.float .f64 0,.float .f64 0,.float .f64 0,.float .f64 x115006_1]) ?_ 6 _;refine bp_ (cs:=#[.int .i64 0,.float .f64 0,.float .f64 0,.float .f64 0,.float .f64 0,.float .f64 x115005_1,.float .f64 x115006_1]) ?_ 5 _;refine bp_ (cs:=#[.int .i64 0,.float .f64 0,.float .f64 0,.float .f64 0,.float .f64 x115004_1,.float .f64 x115005_1,.float .f64 x115006_1]) ?_ 4 _;refine bp_ (cs:=#[.int .i64 0,.float .f64 0,.float .f64 0,.float .f64 x115003_1,.float .f64 x115004_1,.float .f64 x115005_1,.float .f64 x115006_1]) ?_ 3 _;refine bp_ (cs:=#[.int .i64 0,.float .f64 0,.float .f64 x115002_1,.float .f64 x115003_1,.float .f64 x115004_1,.float .f64 x115005_1,.float .f64 x115006_1]) ?_ 2 _;refine bp_ (cs:=#[.int .i64 0,.float .f64 x115001_1,.float .f64 x115002_1,.float .f64 x115003_1,.float .f64 x115004_1,.float .f64 x115005_1,.float .f64 x115006_1]) ?_ 1 _;refine bp_ (cs:=#[.int .i64 x115000_1,.float .f64 x115001_1,.float .f64 x115002_1,.float .f64 x115003_1,.float .f64 x115004_1,.float .f64 x115005_1,.float .f64 x115006_1]) ?_ 0 _;(with_reducible repeat (first|refine blk_drewN ?_ _|refine blk_drew ?_|refine blk_alloc ?_ _));refine blk_far ?_ NB114_126.out _;(with_reducible repeat (first|refine blk_drewN ?_ _|refine blk_drew ?_|refine blk_alloc ?_ _));refine blk_far ?_ NB114_126.out _;(with_reducible repeat (first|refine blk_drewN ?_ _|refine blk_drew ?_|refine blk_alloc ?_ _));refine blk_far ?_ NB114_126.out _;(with_reducible repeat (first|refine blk_drewN ?_ _|refine blk_drew ?_|refine blk_alloc ?_ _));refine blk_far ?_ NB114_126.out _;(with_reducible repeat (first|refine blk_drewN ?_ _|refine blk_drew ?_|refine blk_alloc ?_ _));refine blk_far ?_ NB114_126.out _;(with_reducible repeat (first|refine blk_drewN ?_ _|refine blk_drew ?_|refine blk_alloc ?_ _));refine blk_far ?_ NB114_126.out _;(with_reducible repeat (first|refine blk_drewN ?_ _|refine blk_drew ?_|refine blk_alloc ?_ _));refine blk_far ?_ NB114_126.out _;(with_reducible repeat (first|refine blk_drewN ?_ _|refine blk_drew ?_|refine blk_alloc ?_ _));exact BK114.out) Try.underlying26 rfl (by kernel_rfl)) rfl ?_
        exact ⟨er_,(hb_ HB)⟩
      ·rw [if_neg c8] at H
       exact absurd H (by simp)
     ·rw [if_neg c7] at H
      exact absurd H (by simp)
    ·rw [if_neg c6] at H
     have c6b0 : decide (x15_1 < (l0.length : Int)) = false:=decide_eq_false c6
     clear c6
     simp only [Option.some.injEq,Prod.mk.injEq] at H
     obtain ⟨rfl,rfl,rfl,rfl,rfl,rfl,rfl,rfl⟩:=H
     have hnb27:=NB116_114.out
     have hnc27:=NB114_116.out
     obtain ⟨hcz28_0,hcz28_1,hcz28_2,hcz28_3,hcz28_4,hcz28_5,hcz28_6,hfz28_0,hfz28_1,hfz28_2,hfz28_3,hfz28_4,hfz28_5,hfz28_6⟩:=cf7_ BK116
     obtain ⟨hcz29_0,hcz29_1,hcz29_2,hcz29_3,hcz29_4,hcz29_5,hcz29_6,hfz29_0,hfz29_1,hfz29_2,hfz29_3,hfz29_4,hfz29_5,hfz29_6⟩:=cf7_ BK114
     go_wp2
     refine bodyPost_ret (results_ct rfl _ _ gb114 26 #[.int .i64 x117000_1,.float .f64 x117001_1,.float .f64 x117002_1,.float .f64 x117003_1,.float .f64 x117004_1,.float .f64 x117005_1,.float .f64 x117006_1] (0,0) _ rfl (by (with_reducible repeat (first|refine blk_drewN ?_ _|refine blk_drew ?_|refine blk_alloc ?_ _));refine bp_ (cs:=#[.int .i64 x117000_1,.float .f64 x117001_1,.float .f64 x117002_1,.float .f64 x117003_1,.float .f64 x117004_1,.float .f64 x117005_1,.float .f64 x115006_1]) ?_ 6 _;refine bp_ (cs:=#[.int .i64 x117000_1,.float .f64 x117001_1,.float .f64 x117002_1,.float .f64 x117003_1,.float .f64 x117004_1,.float .f64 x115005_1,.float .f64 x115006_1]) ?_ 5 _;refine bp_ (cs:=#[.int .i64 x117000_1,.float .f64 x117001_1,.float .f64 x117002_1,.float .f64 x117003_1,.float .f64 x115004_1,.float .f64 x115005_1,.float .f64 x115006_1]) ?_ 4 _;refine bp_ (cs:=#[.int .i64 x117000_1,.float .f64 x117001_1,.float .f64 x117002_1,.float .f64 x115003_1,.float .f64 x115004_1,.float .f64 x115005_1,.float .f64 x115006_1]) ?_ 3 _;refine bp_ (cs:=#[.int .i64 x117000_1,.float .f64 x117001_1,.float .f64 x115002_1,.float .f64 x115003_1,.float .f64 x115004_1,.float .f64 x115005_1,.float .f64 x115006_1]) ?_ 2 _;refine bp_ (cs:=#[.int .i64 x117000_1,.float .f64 x115001_1,.float .f64 x115002_1,.float .f64 x115003_1,.float .f64 x115004_1,.float .f64 x115005_1,.float .f64 x115006_1]) ?_ 1 _;refine bp_ (cs:=#[.int .i64 x115000_1,.float .f64 x115001_1,.float .f64 x115002_1,.float .f64 x115003_1,.float .f64 x115004_1,.float .f64 x115005_1,.float .f64 x115006_1]) ?_ 0 _;(with_reducible repeat (first|refine blk_drewN ?_ _|refine blk_drew ?_|refine blk_alloc ?_ _));exact BK114.out) Try.underlying26 rfl (by kernel_rfl)) rfl ?_
     exact ⟨er_,(hb_ HB)⟩
 ·replace c3:=Bool.eq_false_iff.mpr c3
  subst c3
  have H1 : (some (0,0,0,0,0,0,0,130)) = some (r1,r2,r3,r4,r5,r6,r7,r8):=by rw [if_neg (show ¬ (false = true) by decide)] at H;exact H
  clear H
  have H:=H1
  clear H1
  simp only [Option.some.injEq,Prod.mk.injEq] at H
  obtain ⟨rfl,rfl,rfl,rfl,rfl,rfl,rfl,rfl⟩:=H
  go_enter Try.func13,Try.ntmps13
  go_wp2_with (first|((with_reducible refine gate_dst (N:=2) rfl ?_);refine box_event ?hg (N:=2) ?hd (cs:=#[.int .i64 0,.float .f64 0,.float .f64 0,.float .f64 0,.float .f64 0,.float .f64 0,.float .f64 0]) (t:=26) ?hr ?_;(case hd=>rfl);(case hg=>rfl);(case hr=>first|(go_simp;done)|(go_simp;rfl));intro gb114 hg w30 hbox hb;have n_:=J_ (below_step (hb_ HB) hb) (J_ (hbox) (J_ (bs_ hg HB) (Aside0.mk (bs_ hg HB))));clear HB;obtain ⟨HB,BK114,GW114,GE114⟩:=n_;clear hb hbox hg)|((with_reducible refine gate_callee (f:=40) rfl ?_);refine goesL_ (some 10) rfl rfl Try.func40 (by kernel_rfl) rfl #[.slice A0 l0.length c0] rfl am_ ?_;(with_reducible refine (tally_finite.calls k _ _ l0 false _ ?side1 ?side2 A2.out).mono ?_);(case side1=>repeat (first|exact (Kd.C_below HR0.out HB.out)|(with_reducible refine Kd.C_alloc ?_ _)|(with_reducible refine Kd.C_drewN ?_ _)|(with_reducible refine Kd.C_drew ?_)));(case side2=>exact HC0.out);rintro e w' ⟨rfl,⟨nd,rfl⟩⟩;refine ⟨_,rfl,?_⟩;obtain ⟨hcz31_0,hcz31_1,hcz31_2,hcz31_3,hcz31_4,hcz31_5,hcz31_6,hfz31_0,hfz31_1,hfz31_2,hfz31_3,hfz31_4,hfz31_5,hfz31_6⟩:=cf7_ BK114))
  refine bodyPost_ret (results_ct rfl _ _ gb114 26 #[.int .i64 0,.float .f64 0,.float .f64 0,.float .f64 0,.float .f64 0,.float .f64 0,.float .f64 0] (0,0) _ rfl (by (with_reducible repeat (first|refine blk_drewN ?_ _|refine blk_drew ?_|refine blk_alloc ?_ _));refine bp_ (cs:=#[.int .i64 0,.float .f64 0,.float .f64 0,.float .f64 0,.float .f64 0,.float .f64 0,.float .f64 0]) ?_ 6 _;refine bp_ (cs:=#[.int .i64 0,.float .f64 0,.float .f64 0,.float .f64 0,.float .f64 0,.float .f64 0,.float .f64 0]) ?_ 5 _;refine bp_ (cs:=#[.int .i64 0,.float .f64 0,.float .f64 0,.float .f64 0,.float .f64 0,.float .f64 0,.float .f64 0]) ?_ 4 _;refine bp_ (cs:=#[.int .i64 0,.float .f64 0,.float .f64 0,.float .f64 0,.float .f64 0,.float .f64 0,.float .f64 0]) ?_ 3 _;refine bp_ (cs:=#[.int .i64 0,.float .f64 0,.float .f64 0,.float .f64 0,.float .f64 0,.float .f64 0,.float .f64 0]) ?_ 2 _;refine bp_ (cs:=#[.int .i64 0,.float .f64 0,.float .f64 0,.float .f64 0,.float .f64 0,.float .f64 0,.float .f64 0]) ?_ 1 _;refine bp_ (cs:=#[.int .i64 0,.float .f64 0,.float .f64 0,.float .f64 0,.float .f64 0,.float .f64 0,.float .f64 0]) ?_ 0 _;(with_reducible repeat (first|refine blk_drewN ?_ _|refine blk_drew ?_|refine blk_alloc ?_ _));exact BK114.out) Try.underlying26 rfl (by kernel_rfl)) rfl ?_
  exact ⟨er_,(hb_ HB)⟩
end Go.Proofs.Ytijmdmnhbbcahaa.PTallySpreads
