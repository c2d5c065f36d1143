-- Written by shrink.py, a program of this session: what the law needs of the print and its words. Lean checks it.
import Derived.Test.YtijmdmnhbbcahaaZPTallyStepsx0
import Derived.Test.YtijmdmnhbbcahaaZPTallyStepsx4
import Derived.Test.YtijmdmnhbbcahaaZPTallyStepsx5
namespace Go.Proofs.Ytijmdmnhbbcahaa.PTallySteps
open Go.RowKit Go.Proofs.YtijmdmnhbbcahaaW.PrintWords Go.Proofs.YtijmdmnhbbcahaaW.PrintLast Go.Proofs.YtijmdmnhbbcahaaW.PrintMore
attribute [local go_sem] run_fadd run_fsub run_fmul run_fquo unary_fneg run_store_f64 run_store_c128 run_cadd
attribute [local go_sem] max2_int min2_int max_two min_two max_three min_three max_four min_four
set_option linter.unusedVariables false
set_option linter.unusedSimpArgs false
def tally_Of.l0 : Nat → List Nat → Int → Int → Int → Nat → Nat → Nat → Nat → Nat → Nat → Option (Int × Nat × Nat × Nat × Nat × Nat × Nat × Int)
 | 0,_,_,_,_,_,_,_,_,_,_=>none
 | k + 1,x13,x14,x15,x117000,x117001,x117002,x117003,x117004,x117005,x117006=>if x15 < x14 then (if 0 ≤ x15 then (if x15 < (x13.length : Int) then ((tally_Put.f k x117000 x117001 x117002 x117003 x117004 x117005 x117006 (rdOf (0 : Nat) x13 x15)).bind fun bt118=>(if bt118.2.2.2.2.2.2.2 = 0 then (tally_Of.l0 k x13 x14 (wrap64 (x15 + 1)) bt118.1 bt118.2.1 bt118.2.2.1 bt118.2.2.2.1 bt118.2.2.2.2.1 bt118.2.2.2.2.2.1 bt118.2.2.2.2.2.2.1) else (some (0,0,0,0,0,0,0,121)))) else (none)) else (none)) else (some (x117000,x117001,x117002,x117003,x117004,x117005,x117006,0))
def tally_Of.f (k : Nat) (l0 : List Nat) : Option (Int × Nat × Nat × Nat × Nat × Nat × Nat × Int):=(tally_finite.f k l0).bind fun t115=>(if t115 = true then (tally_Of.l0 k l0 (l0.length : Int) 0 0 0 0 0 0 0 0) else (some (0,0,0,0,0,0,0,130)))
set_option maxHeartbeats 8000000 in
set_option maxRecDepth 100000 in
theorem tally_Of.calls (k : Nat) (A0 : Option Addr) (c0 : Nat) (l0 : List Nat) (r1 : Int) (r2 : Nat) (r3 : Nat) (r4 : Nat) (r5 : Nat) (r6 : Nat) (r7 : Nat) (r8 : Int) (w : World) (hr0 : Kd.C Kd.f64 w A0 l0.length l0) (hc0 : l0.length ≤ c0) (h : tally_Of.f k l0 = some (r1,r2,r3,r4,r5,r6,r7,r8)) :
  Calls Try.prog 13 #[.slice A0 l0.length c0] w fun e w'=>e = .returned (.tuple #[.agg #[.int .i64 r1,.float .f64 r2,.float .f64 r3,.float .f64 r4,.float .f64 r5,.float .f64 r6,.float .f64 r7],.int .i64 r8]) ∧ Below w.heap.size w w':=by
 have hu26:=Try.underlying26;have HR0:=Aside0.mk hr0;have HC0:=Aside0.mk hc0;clear hr0 hc0;have HB:=Aside0.mk (Below.refl w.heap.size w);have H : ((tally_finite.f k l0).bind fun t115=>(if t115 = true then (tally_Of.l0 k l0 (l0.length : Int) 0 0 0 0 0 0 0 0) else (some (0,0,0,0,0,0,0,130)))) = some (r1,r2,r3,r4,r5,r6,r7,r8):=h;clear h;have HC2:=Aside0.mk H;clear H;go_enter Try.func13,Try.ntmps13
 go_upto_region 1 with (first|((with_reducible refine gate_dst (N:=2) rfl ?_);refine box_event ?hg (N:=2) ?hd (cs:=#[.int .i64 0,.float .f64 0,.float .f64 0,.float .f64 0,.float .f64 0,.float .f64 0,.float .f64 0]) (t:=26) ?hr ?_;(case hd=>rfl);(case hg=>rfl);(case hr=>first|(go_simp;done)|(go_simp;rfl));intro gb114 hg w3 hbox hb;have n_:=J_ (below_step (hb_ HB) hb) (J_ (hbox) (J_ (bs_ hg HB) (Aside0.mk (bs_ hg HB))));clear HB;obtain ⟨HB,BK114,GW114,GE114⟩:=n_;clear hb hbox hg))
 (try simp only [Act.put,List.setIfInBounds_toArray,List.set_cons_zero,List.set_cons_succ])
 have H:=HC2.out;clear HC2;replace H:=Option.bind_eq_some_iff.mp H;obtain ⟨t115,A40,H⟩:=H;replace H : (if t115 = true then (tally_Of.l0 k l0 (l0.length : Int) 0 0 0 0 0 0 0 0) else (some (0,0,0,0,0,0,0,130))) = some (r1,r2,r3,r4,r5,r6,r7,r8):=H;have A4:=Aside0.mk A40;clear A40
 by_cases c5 : t115 = true
 ·subst c5
  have H1 : (tally_Of.l0 k l0 (l0.length : Int) 0 0 0 0 0 0 0 0) = some (r1,r2,r3,r4,r5,r6,r7,r8):=by rw [if_pos rfl] at H;exact H
  clear H;have H:=H1;clear H1;have H':=Aside0.mk H;clear H
  go_wp2_with (first|((with_reducible refine gate_callee (f:=40) rfl ?_);refine goesL_ (some 10) rfl rfl Try.func40 (by kernel_rfl) rfl #[.slice A0 l0.length c0] rfl am_ ?_;(with_reducible refine (tally_finite.calls k _ _ l0 true _ ?side1 ?side2 A4.out).mono ?_);(case side1=>repeat (first|exact (Kd.C_below HR0.out HB.out)|(with_reducible refine Kd.C_alloc ?_ _)|(with_reducible refine Kd.C_drewN ?_ _)|(with_reducible refine Kd.C_drew ?_)));(case side2=>exact HC0.out);rintro e w' ⟨rfl,⟨nd,rfl⟩⟩;refine ⟨_,rfl,?_⟩)|((with_reducible refine gate_dst (N:=4) rfl ?_);refine box_event ?hg (N:=4) ?hd (cs:=#[.int .i64 0,.float .f64 0,.float .f64 0,.float .f64 0,.float .f64 0,.float .f64 0,.float .f64 0]) (t:=26) ?hr ?_;(case hd=>rfl);(case hg=>rfl);(case hr=>first|(go_simp;done)|(go_simp;rfl));intro gb116 hg w6 hbox hb;have n_:=J_ (bkb_ BK114 hb) (J_ (below_step (hb_ HB) hb) (J_ (hbox) (J_ (bs_ hg HB) (J_ (bs_ hg HB) (J_ ((by rw [hg];exact Nat.ne_of_lt (bkl_ BK114) : gb114 ≠ gb116)) (Aside0.mk ((by rw [hg];exact Nat.ne_of_gt (bkl_ BK114) : gb116 ≠ gb114))))))));clear BK114 HB;obtain ⟨BK114,HB,BK116,GW116,GE116,NB114_116,NB116_114⟩:=n_;clear hb hbox hg))
  go_loopg [15] k (fun kq v15 w'=>∃ (x15_1 : Int) (x115000_1 : Int) (x115001_1 : Nat) (x115002_1 : Nat) (x115003_1 : Nat) (x115004_1 : Nat) (x115005_1 : Nat) (x115006_1 : Nat) (x117000_1 : Int) (x117001_1 : Nat) (x117002_1 : Nat) (x117003_1 : Nat) (x117004_1 : Nat) (x117005_1 : Nat) (x117006_1 : Nat),v15 = .int .i64 x15_1 ∧ Aside0 (tally_Of.l0 kq l0 (l0.length : Int) x15_1 x117000_1 x117001_1 x117002_1 x117003_1 x117004_1 x117005_1 x117006_1 = some (r1,r2,r3,r4,r5,r6,r7,r8)) ∧ Aside0 (kq ≤ k) ∧ Aside0 (w'.heap[gb114]? = some (.cells #[.int .i64 x115000_1,.float .f64 x115001_1,.float .f64 x115002_1,.float .f64 x115003_1,.float .f64 x115004_1,.float .f64 x115005_1,.float .f64 x115006_1] 26 (0,0))) ∧ Aside0 (w'.heap[gb116]? = some (.cells #[.int .i64 x117000_1,.float .f64 x117001_1,.float .f64 x117002_1,.float .f64 x117003_1,.float .f64 x117004_1,.float .f64 x117005_1,.float .f64 x117006_1] 26 (0,0))) ∧ Aside0 (Below w.heap.size w w'))
  case atStart=>exact ⟨(0),(0),(0),(0),(0),(0),(0),(0),(0),(0),(0),(0),(0),(0),(0),rr_,H',⟨Nat.le_refl _⟩,⟨(bk_ BK114)⟩,⟨(bk_ BK116)⟩,⟨(hb_ HB)⟩⟩
  case round =>
   clear H'
   try clear BK114
   try clear BK116
   try clear HB
   obtain ⟨x15_1,x115000_1,x115001_1,x115002_1,x115003_1,x115004_1,x115005_1,x115006_1,x117000_1,x117001_1,x117002_1,x117003_1,x117004_1,x117005_1,x117006_1,rfl,HA,HK1,BK114,BK116,HB⟩:=hrel
   cases gk with
   | zero=>exact absurd HA.out (by simp [tally_Of.l0])
   | succ k1 =>
    have H:=HA.out;clear HA
    simp only [tally_Of.l0] at H
    by_cases c7 : x15_1 < (l0.length : Int)
    ·rw [if_pos c7] at H
     have c7b0 : decide (x15_1 < (l0.length : Int)) = true:=decide_eq_true c7;clear c7
     by_cases c8 : 0 ≤ x15_1
     ·rw [if_pos c8] at H
      have c8b0 : decide (0 ≤ x15_1) = true:=decide_eq_true c8;clear c8
      by_cases c9 : x15_1 < (l0.length : Int)
      ·rw [if_pos c9] at H
       have c9b0 : decide (x15_1 < (l0.length : Int)) = true:=decide_eq_true c9;clear c9;replace H:=Option.bind_eq_some_iff.mp H;obtain ⟨⟨t118,t119,t120,t121,t122,t123,t124,t125⟩,A100,H⟩:=H;replace H : (if t125 = 0 then (tally_Of.l0 k1 l0 (l0.length : Int) (wrap64 (x15_1 + 1)) t118 t119 t120 t121 t122 t123 t124) else (some (0,0,0,0,0,0,0,121))) = some (r1,r2,r3,r4,r5,r6,r7,r8):=H;have A10:=Aside0.mk A100;clear A100;have HC11:=Aside0.mk H;clear H;have p117 : 0 ≤ (x15_1 : Int):=of_decide_eq_true aa_;have q117 : x15_1 < (l0.length : Int):=of_decide_eq_true aa_;obtain ⟨ad117,e117,hx117_0⟩:=Kd.at_f64 HR0.out x15_1 p117 q117;cases e117;replace hx117_0:=(HB.out.cell (World.block_lt_of_cell? w _ hx117_0)).trans hx117_0;replace p117:=eq_true p117;replace q117:=eq_true q117;have hnb12:=NB116_114.out;have hnc12:=NB114_116.out;obtain ⟨hcz13_0,hcz13_1,hcz13_2,hcz13_3,hcz13_4,hcz13_5,hcz13_6,hfz13_0,hfz13_1,hfz13_2,hfz13_3,hfz13_4,hfz13_5,hfz13_6⟩:=cf7_ BK116
       go_upto_region 8 with (first|((with_reducible refine gate_callee (f:=18) rfl ?_);refine goesL_ (some 22) rfl rfl Try.func18 (by kernel_rfl) rfl #[.agg #[.int .i64 x117000_1,.float .f64 x117001_1,.float .f64 x117002_1,.float .f64 x117003_1,.float .f64 x117004_1,.float .f64 x117005_1,.float .f64 x117006_1],.float .f64 (rdOf (0 : Nat) l0 x15_1)] rfl am_ ?_;(with_reducible refine (tally_Put.calls k1 x117000_1 x117001_1 x117002_1 x117003_1 x117004_1 x117005_1 x117006_1 (rdOf (0 : Nat) l0 x15_1) t118 t119 t120 t121 t122 t123 t124 t125 _ A10.out).mono ?_);rintro e w14 ⟨rfl,hb⟩;refine ⟨_,rfl,?_⟩;have n_:=J_ (bkb_ BK114 hb) (J_ (bkb_ BK116 hb) (Aside0.mk (below_step (hb_ HB) hb)));clear BK114 BK116 HB;obtain ⟨BK114,BK116,HB⟩:=n_;(try clear hb);(try clear hb2);(try clear hk);(try clear hi))|((with_reducible refine gate_dst (N:=7) rfl ?_);refine box_event ?hg (N:=7) ?hd (cs:=#[.int .i64 0,.float .f64 0,.float .f64 0,.float .f64 0,.float .f64 0,.float .f64 0,.float .f64 0]) (t:=26) ?hr ?_;(case hd=>rfl);(case hg=>rfl);(case hr=>first|(go_simp;done)|(go_simp;rfl));intro gb126 hg w15 hbox hb;have n_:=J_ (bkb_ BK114 hb) (J_ (bkb_ BK116 hb) (J_ (below_step (hb_ HB) hb) (J_ (hbox) (J_ (bs_ hg HB) (J_ (bs_ hg HB) (J_ ((by rw [hg];exact Nat.ne_of_lt (bkl_ BK114) : gb114 ≠ gb126)) (J_ ((by rw [hg];exact Nat.ne_of_gt (bkl_ BK114) : gb126 ≠ gb114)) (J_ ((by rw [hg];exact Nat.ne_of_lt (bkl_ BK116) : gb116 ≠ gb126)) (Aside0.mk ((by rw [hg];exact Nat.ne_of_gt (bkl_ BK116) : gb126 ≠ gb116)))))))))));clear BK114 BK116 HB;obtain ⟨BK114,BK116,HB,BK126,GW126,GE126,NB114_126,NB126_114,NB116_126,NB126_116⟩:=n_;clear hb hbox hg;have hnb16:=NB126_114.out;have hnc16:=NB114_126.out;have hnb17:=NB126_116.out;have hnc17:=NB116_126.out;obtain ⟨hcz18_0,hcz18_1,hcz18_2,hcz18_3,hcz18_4,hcz18_5,hcz18_6,hfz18_0,hfz18_1,hfz18_2,hfz18_3,hfz18_4,hfz18_5,hfz18_6⟩:=cf7_ BK126))
       (try simp only [Act.put,List.setIfInBounds_toArray,List.set_cons_zero,List.set_cons_succ])
       have H:=HC11.out;clear HC11
       by_cases c19 : t125 = 0
       ·rw [if_pos c19] at H
        have c19b0 : (t125 == 0) = true:=beq_iff_eq.mpr c19;have c19b1 : (t125 != 0) = false:=bne_eq_false_iff_eq.mpr c19;clear c19;have H':=Aside0.mk H;clear H;have hnb20:=NB126_114.out;have hnc20:=NB114_126.out;have hnb21:=NB126_116.out;have hnc21:=NB116_126.out;obtain ⟨hcz22_0,hcz22_1,hcz22_2,hcz22_3,hcz22_4,hcz22_5,hcz22_6,hfz22_0,hfz22_1,hfz22_2,hfz22_3,hfz22_4,hfz22_5,hfz22_6⟩:=cf7_ BK126;have hnb23:=NB116_114.out;have hnc23:=NB114_116.out;obtain ⟨hcz24_0,hcz24_1,hcz24_2,hcz24_3,hcz24_4,hcz24_5,hcz24_6,hfz24_0,hfz24_1,hfz24_2,hfz24_3,hfz24_4,hfz24_5,hfz24_6⟩:=cf7_ BK116;go_wp2
        go_roundg k1
        case measure=>have:=HK1.out;omega
        case rel=>exact ⟨(wrap64 (x15_1 + 1)),(x115000_1),(x115001_1),(x115002_1),(x115003_1),(x115004_1),(x115005_1),(x115006_1),(t118),(t119),(t120),(t121),(t122),(t123),(t124),rr_,(by first|exact H'|(subst_vars;exact H')),⟨by have:=HK1.out;omega⟩,⟨by (with_reducible repeat (first|refine blk_drewN ?_ _|refine blk_drew ?_|refine blk_alloc ?_ _));refine blk_far ?_ NB114_116.out _;(with_reducible repeat (first|refine blk_drewN ?_ _|refine blk_drew ?_|refine blk_alloc ?_ _));refine blk_far ?_ NB114_116.out _;(with_reducible repeat (first|refine blk_drewN ?_ _|refine blk_drew ?_|refine blk_alloc ?_ _));refine blk_far ?_ NB114_116.out _;(with_reducible repeat (first|refine blk_drewN ?_ _|refine blk_drew ?_|refine blk_alloc ?_ _));refine blk_far ?_ NB114_116.out _;(with_reducible repeat (first|refine blk_drewN ?_ _|refine blk_drew ?_|refine blk_alloc ?_ _));refine blk_far ?_ NB114_116.out _;(with_reducible repeat (first|refine blk_drewN ?_ _|refine blk_drew ?_|refine blk_alloc ?_ _));refine blk_far ?_ NB114_116.out _;(with_reducible repeat (first|refine blk_drewN ?_ _|refine blk_drew ?_|refine blk_alloc ?_ _));refine blk_far ?_ NB114_116.out _;(with_reducible repeat (first|refine blk_drewN ?_ _|refine blk_drew ?_|refine blk_alloc ?_ _));refine blk_far ?_ NB114_126.out _;(with_reducible repeat (first|refine blk_drewN ?_ _|refine blk_drew ?_|refine blk_alloc ?_ _));refine blk_far ?_ NB114_126.out _;(with_reducible repeat (first|refine blk_drewN ?_ _|refine blk_drew ?_|refine blk_alloc ?_ _));refine blk_far ?_ NB114_126.out _;(with_reducible repeat (first|refine blk_drewN ?_ _|refine blk_drew ?_|refine blk_alloc ?_ _));refine blk_far ?_ NB114_126.out _;(with_reducible repeat (first|refine blk_drewN ?_ _|refine blk_drew ?_|refine blk_alloc ?_ _));refine blk_far ?_ NB114_126.out _;(with_reducible repeat (first|refine blk_drewN ?_ _|refine blk_drew ?_|refine blk_alloc ?_ _));refine blk_far ?_ NB114_126.out _;(with_reducible repeat (first|refine blk_drewN ?_ _|refine blk_drew ?_|refine blk_alloc ?_ _));refine blk_far ?_ NB114_126.out _;(with_reducible repeat (first|refine blk_drewN ?_ _|refine blk_drew ?_|refine blk_alloc ?_ _));exact BK114.out⟩,⟨by (with_reducible repeat (first|refine blk_drewN ?_ _|refine blk_drew ?_|refine blk_alloc ?_ _));refine bp_ (cs:=#[.int .i64 t118,.float .f64 t119,.float .f64 t120,.float .f64 t121,.float .f64 t122,.float .f64 t123,.float .f64 x117006_1]) ?_ 6 _;refine bp_ (cs:=#[.int .i64 t118,.float .f64 t119,.float .f64 t120,.float .f64 t121,.float .f64 t122,.float .f64 x117005_1,.float .f64 x117006_1]) ?_ 5 _;refine bp_ (cs:=#[.int .i64 t118,.float .f64 t119,.float .f64 t120,.float .f64 t121,.float .f64 x117004_1,.float .f64 x117005_1,.float .f64 x117006_1]) ?_ 4 _;refine bp_ (cs:=#[.int .i64 t118,.float .f64 t119,.float .f64 t120,.float .f64 x117003_1,.float .f64 x117004_1,.float .f64 x117005_1,.float .f64 x117006_1]) ?_ 3 _;refine bp_ (cs:=#[.int .i64 t118,.float .f64 t119,.float .f64 x117002_1,.float .f64 x117003_1,.float .f64 x117004_1,.float .f64 x117005_1,.float .f64 x117006_1]) ?_ 2 _;refine bp_ (cs:=#[.int .i64 t118,.float .f64 x117001_1,.float .f64 x117002_1,.float .f64 x117003_1,.float .f64 x117004_1,.float .f64 x117005_1,.float .f64 x117006_1]) ?_ 1 _;refine bp_ (cs:=#[.int .i64 x117000_1,.float .f64 x117001_1,.float .f64 x117002_1,.float .f64 x117003_1,.float .f64 x117004_1,.float .f64 x117005_1,.float .f64 x117006_1]) ?_ 0 _;(with_reducible repeat (first|refine blk_drewN ?_ _|refine blk_drew ?_|refine blk_alloc ?_ _));refine blk_far ?_ NB116_126.out _;(with_reducible repeat (first|refine blk_drewN ?_ _|refine blk_drew ?_|refine blk_alloc ?_ _));refine blk_far ?_ NB116_126.out _;(with_reducible repeat (first|refine blk_drewN ?_ _|refine blk_drew ?_|refine blk_alloc ?_ _));refine blk_far ?_ NB116_126.out _;(with_reducible repeat (first|refine blk_drewN ?_ _|refine blk_drew ?_|refine blk_alloc ?_ _));refine blk_far ?_ NB116_126.out _;(with_reducible repeat (first|refine blk_drewN ?_ _|refine blk_drew ?_|refine blk_alloc ?_ _));refine blk_far ?_ NB116_126.out _;(with_reducible repeat (first|refine blk_drewN ?_ _|refine blk_drew ?_|refine blk_alloc ?_ _));refine blk_far ?_ NB116_126.out _;(with_reducible repeat (first|refine blk_drewN ?_ _|refine blk_drew ?_|refine blk_alloc ?_ _));refine blk_far ?_ NB116_126.out _;(with_reducible repeat (first|refine blk_drewN ?_ _|refine blk_drew ?_|refine blk_alloc ?_ _));exact BK116.out⟩,⟨(hb_ HB)⟩⟩
       rw [if_neg c19] at H
       have c19b0 : (t125 == 0) = false:=beq_eq_false_iff_ne.mpr c19;have c19b1 : (t125 != 0) = true:=bne_iff_ne.mpr c19
       simp only [Option.some.injEq,Prod.mk.injEq] at H
       obtain ⟨rfl,rfl,rfl,rfl,rfl,rfl,rfl,rfl⟩:=H;have hnb25:=NB114_116.out;have hnc25:=NB116_114.out;have hnb26:=NB114_126.out;have hnc26:=NB126_114.out;obtain ⟨hcz27_0,hcz27_1,hcz27_2,hcz27_3,hcz27_4,hcz27_5,hcz27_6,hfz27_0,hfz27_1,hfz27_2,hfz27_3,hfz27_4,hfz27_5,hfz27_6⟩:=cf7_ BK114;go_wp2
       refine bodyPost_ret (results_ct rfl _ _ gb114 26 #[.int .i64 0,.float .f64 0,.float .f64 0,.float .f64 0,.float .f64 0,.float .f64 0,.float .f64 0] (0,0) _ rfl (by (with_reducible repeat (first|refine blk_drewN ?_ _|refine blk_drew ?_|refine blk_alloc ?_ _));refine bp_ (cs:=#[.int .i64 0,.float .f64 0,.float .f64 0,.float .f64 0,.float .f64 0,.float .f64 0,.float .f64 x115006_1]) ?_ 6 _;refine bp_ (cs:=#[.int .i64 0,.float .f64 0,.float .f64 0,.float .f64 0,.float .f64 0,.float .f64 x115005_1,.float .f64 x115006_1]) ?_ 5 _;refine bp_ (cs:=#[.int .i64 0,.float .f64 0,.float .f64 0,.float .f64 0,.float .f64 x115004_1,.float .f64 x115005_1,.float .f64 x115006_1]) ?_ 4 _;refine bp_ (cs:=#[.int .i64 0,.float .f64 0,.float .f64 0,.float .f64 x115003_1,.float .f64 x115004_1,.float .f64 x115005_1,.float .f64 x115006_1]) ?_ 3 _;refine bp_ (cs:=#[.int .i64 0,.float .f64 0,.float .f64 x115002_1,.float .f64 x115003_1,.float .f64 x115004_1,.float .f64 x115005_1,.float .f64 x115006_1]) ?_ 2 _;refine bp_ (cs:=#[.int .i64 0,.float .f64 x115001_1,.float .f64 x115002_1,.float .f64 x115003_1,.float .f64 x115004_1,.float .f64 x115005_1,.float .f64 x115006_1]) ?_ 1 _;refine bp_ (cs:=#[.int .i64 x115000_1,.float .f64 x115001_1,.float .f64 x115002_1,.float .f64 x115003_1,.float .f64 x115004_1,.float .f64 x115005_1,.float .f64 x115006_1]) ?_ 0 _;(with_reducible repeat (first|refine blk_drewN ?_ _|refine blk_drew ?_|refine blk_alloc ?_ _));refine blk_far ?_ NB114_126.out _;(with_reducible repeat (first|refine blk_drewN ?_ _|refine blk_drew ?_|refine blk_alloc ?_ _));refine blk_far ?_ NB114_126.out _;(with_reducible repeat (first|refine blk_drewN ?_ _|refine blk_drew ?_|refine blk_alloc ?_ _));refine blk_far ?_ NB114_126.out _;(with_reducible repeat (first|refine blk_drewN ?_ _|refine blk_drew ?_|refine blk_alloc ?_ _));refine blk_far ?_ NB114_126.out _;(with_reducible repeat (first|refine blk_drewN ?_ _|refine blk_drew ?_|refine blk_alloc ?_ _));refine blk_far ?_ NB114_126.out _;(with_reducible repeat (first|refine blk_drewN ?_ _|refine blk_drew ?_|refine blk_alloc ?_ _));refine blk_far ?_ NB114_126.out _;(with_reducible repeat (first|refine blk_drewN ?_ _|refine blk_drew ?_|refine blk_alloc ?_ _));refine blk_far ?_ NB114_126.out _;(with_reducible repeat (first|refine blk_drewN ?_ _|refine blk_drew ?_|refine blk_alloc ?_ _));exact BK114.out) Try.underlying26 rfl (by kernel_rfl)) rfl ?_
       exact ⟨er_,(hb_ HB)⟩
      rw [if_neg c9] at H
      exact absurd H (by simp)
     rw [if_neg c8] at H
     exact absurd H (by simp)
    rw [if_neg c7] at H
    have c7b0 : decide (x15_1 < (l0.length : Int)) = false:=decide_eq_false c7;clear c7
    simp only [Option.some.injEq,Prod.mk.injEq] at H
    obtain ⟨rfl,rfl,rfl,rfl,rfl,rfl,rfl,rfl⟩:=H;have hnb28:=NB116_114.out;have hnc28:=NB114_116.out;obtain ⟨hcz29_0,hcz29_1,hcz29_2,hcz29_3,hcz29_4,hcz29_5,hcz29_6,hfz29_0,hfz29_1,hfz29_2,hfz29_3,hfz29_4,hfz29_5,hfz29_6⟩:=cf7_ BK116;obtain ⟨hcz30_0,hcz30_1,hcz30_2,hcz30_3,hcz30_4,hcz30_5,hcz30_6,hfz30_0,hfz30_1,hfz30_2,hfz30_3,hfz30_4,hfz30_5,hfz30_6⟩:=cf7_ BK114;go_wp2
    refine bodyPost_ret (results_ct rfl _ _ gb114 26 #[.int .i64 x117000_1,.float .f64 x117001_1,.float .f64 x117002_1,.float .f64 x117003_1,.float .f64 x117004_1,.float .f64 x117005_1,.float .f64 x117006_1] (0,0) _ rfl (by (with_reducible repeat (first|refine blk_drewN ?_ _|refine blk_drew ?_|refine blk_alloc ?_ _));refine bp_ (cs:=#[.int .i64 x117000_1,.float .f64 x117001_1,.float .f64 x117002_1,.float .f64 x117003_1,.float .f64 x117004_1,.float .f64 x117005_1,.float .f64 x115006_1]) ?_ 6 _;refine bp_ (cs:=#[.int .i64 x117000_1,.float .f64 x117001_1,.float .f64 x117002_1,.float .f64 x117003_1,.float .f64 x117004_1,.float .f64 x115005_1,.float .f64 x115006_1]) ?_ 5 _;refine bp_ (cs:=#[.int .i64 x117000_1,.float .f64 x117001_1,.float .f64 x117002_1,.float .f64 x117003_1,.float .f64 x115004_1,.float .f64 x115005_1,.float .f64 x115006_1]) ?_ 4 _;refine bp_ (cs:=#[.int .i64 x117000_1,.float .f64 x117001_1,.float .f64 x117002_1,.float .f64 x115003_1,.float .f64 x115004_1,.float .f64 x115005_1,.float .f64 x115006_1]) ?_ 3 _;refine bp_ (cs:=#[.int .i64 x117000_1,.float .f64 x117001_1,.float .f64 x115002_1,.float .f64 x115003_1,.float .f64 x115004_1,.float .f64 x115005_1,.float .f64 x115006_1]) ?_ 2 _;refine bp_ (cs:=#[.int .i64 x117000_1,.float .f64 x115001_1,.float .f64 x115002_1,.float .f64 x115003_1,.float .f64 x115004_1,.float .f64 x115005_1,.float .f64 x115006_1]) ?_ 1 _;refine bp_ (cs:=#[.int .i64 x115000_1,.float .f64 x115001_1,.float .f64 x115002_1,.float .f64 x115003_1,.float .f64 x115004_1,.float .f64 x115005_1,.float .f64 x115006_1]) ?_ 0 _;(with_reducible repeat (first|refine blk_drewN ?_ _|refine blk_drew ?_|refine blk_alloc ?_ _));exact BK114.out) Try.underlying26 rfl (by kernel_rfl)) rfl ?_
    exact ⟨er_,(hb_ HB)⟩
 replace c5:=Bool.eq_false_iff.mpr c5;subst c5
 have H1 : (some (0,0,0,0,0,0,0,130)) = some (r1,r2,r3,r4,r5,r6,r7,r8):=by rw [if_neg (show ¬ (false = true) by decide)] at H;exact H
 clear H;have H:=H1;clear H1
 simp only [Option.some.injEq,Prod.mk.injEq] at H
 obtain ⟨rfl,rfl,rfl,rfl,rfl,rfl,rfl,rfl⟩:=H
 go_wp2_with (first|((with_reducible refine gate_callee (f:=40) rfl ?_);refine goesL_ (some 10) rfl rfl Try.func40 (by kernel_rfl) rfl #[.slice A0 l0.length c0] rfl am_ ?_;(with_reducible refine (tally_finite.calls k _ _ l0 false _ ?side1 ?side2 A4.out).mono ?_);(case side1=>repeat (first|exact (Kd.C_below HR0.out HB.out)|(with_reducible refine Kd.C_alloc ?_ _)|(with_reducible refine Kd.C_drewN ?_ _)|(with_reducible refine Kd.C_drew ?_)));(case side2=>exact HC0.out);rintro e w' ⟨rfl,⟨nd,rfl⟩⟩;refine ⟨_,rfl,?_⟩;obtain ⟨hcz31_0,hcz31_1,hcz31_2,hcz31_3,hcz31_4,hcz31_5,hcz31_6,hfz31_0,hfz31_1,hfz31_2,hfz31_3,hfz31_4,hfz31_5,hfz31_6⟩:=cf7_ BK114))
 refine bodyPost_ret (results_ct rfl _ _ gb114 26 #[.int .i64 0,.float .f64 0,.float .f64 0,.float .f64 0,.float .f64 0,.float .f64 0,.float .f64 0] (0,0) _ rfl (by (with_reducible repeat (first|refine blk_drewN ?_ _|refine blk_drew ?_|refine blk_alloc ?_ _));refine bp_ (cs:=#[.int .i64 0,.float .f64 0,.float .f64 0,.float .f64 0,.float .f64 0,.float .f64 0,.float .f64 0]) ?_ 6 _;refine bp_ (cs:=#[.int .i64 0,.float .f64 0,.float .f64 0,.float .f64 0,.float .f64 0,.float .f64 0,.float .f64 0]) ?_ 5 _;refine bp_ (cs:=#[.int .i64 0,.float .f64 0,.float .f64 0,.float .f64 0,.float .f64 0,.float .f64 0,.float .f64 0]) ?_ 4 _;refine bp_ (cs:=#[.int .i64 0,.float .f64 0,.float .f64 0,.float .f64 0,.float .f64 0,.float .f64 0,.float .f64 0]) ?_ 3 _;refine bp_ (cs:=#[.int .i64 0,.float .f64 0,.float .f64 0,.float .f64 0,.float .f64 0,.float .f64 0,.float .f64 0]) ?_ 2 _;refine bp_ (cs:=#[.int .i64 0,.float .f64 0,.float .f64 0,.float .f64 0,.float .f64 0,.float .f64 0,.float .f64 0]) ?_ 1 _;refine bp_ (cs:=#[.int .i64 0,.float .f64 0,.float .f64 0,.float .f64 0,.float .f64 0,.float .f64 0,.float .f64 0]) ?_ 0 _;(with_reducible repeat (first|refine blk_drewN ?_ _|refine blk_drew ?_|refine blk_alloc ?_ _));exact BK114.out) Try.underlying26 rfl (by kernel_rfl)) rfl ?_;exact ⟨er_,(hb_ HB)⟩
def quarryref13_Below.f (a0 : Nat) : Option (Bool):=if (FloatKind.f64.format.order a0 0 == some .lt) = true then (some true) else (if (FloatKind.f64.format.order a0 0 == some .eq) = true then (if fok .quo 4607182418800017408 a0 = true then (some (FloatKind.f64.format.order (fop .quo 4607182418800017408 a0) 0 == some .lt)) else (none)) else (some false))
set_option maxHeartbeats 8000000 in
set_option maxRecDepth 100000 in
theorem quarryref13_Below.calls (a0 : Nat) (r : Bool) (w : World) (h : quarryref13_Below.f a0 = some r) :
  Calls Try.prog 51 #[.float .f64 a0] w fun e w'=>e = .returned (.bool r) ∧ Drawn0 w w':=by
 have H : (if (FloatKind.f64.format.order a0 0 == some .lt) = true then (some true) else (if (FloatKind.f64.format.order a0 0 == some .eq) = true then (if fok .quo 4607182418800017408 a0 = true then (some (FloatKind.f64.format.order (fop .quo 4607182418800017408 a0) 0 == some .lt)) else (none)) else (some false))) = some r:=h;clear h
 by_cases c2 : (FloatKind.f64.format.order a0 0 == some .lt) = true
 ·rw [if_pos c2] at H
  have c2b0 : (FloatKind.f64.format.order a0 0 == some .lt) = true:=c2
  (try (have c2b1 : decide (FloatKind.f64.format.order a0 0 = some .lt) = true:=by simpa using c2))
  (try (have c2b2 : (FloatKind.f64.format.order a0 0 == some .lt) = true:=by simpa using c2))
  clear c2;obtain rfl:=Option.some.inj H;go_enter Try.func51,Try.ntmps51;go_wp2
  go_ret;exact ⟨by first|rfl|(simp;done)|(simp [*];done),by repeat (first|exact Drawn0.refl _|apply Drawn0.step)⟩
 rw [if_neg c2] at H
 have c2b0 : (FloatKind.f64.format.order a0 0 == some .lt) = false:=by simpa using c2
 (try (have c2b1 : decide (FloatKind.f64.format.order a0 0 = some .lt) = false:=by simpa using c2))
 (try (have c2b2 : (FloatKind.f64.format.order a0 0 == some .lt) = false:=by simpa using c2))
 (try (have c2b3 : ¬ (FloatKind.f64.format.order a0 0 = some .lt):=by simpa using c2))
 clear c2
 by_cases c3 : (FloatKind.f64.format.order a0 0 == some .eq) = true
 ·rw [if_pos c3] at H
  have c3b0 : (FloatKind.f64.format.order a0 0 == some .eq) = true:=c3
  (try (have c3b1 : decide (FloatKind.f64.format.order a0 0 = some .eq) = true:=by simpa using c3))
  (try (have c3b2 : (FloatKind.f64.format.order a0 0 == some .eq) = true:=by simpa using c3))
  clear c3
  by_cases c4 : fok .quo 4607182418800017408 a0 = true
  ·rw [if_pos c4] at H
   have c4b0:=eq_true c4;have c4b1 : decide (fok .quo 4607182418800017408 a0 = true) = true:=decide_eq_true c4;clear c4;obtain rfl:=Option.some.inj H;go_enter Try.func51,Try.ntmps51;go_wp2
   go_ret;exact ⟨by first|rfl|(simp;done)|(simp [*];done),by repeat (first|exact Drawn0.refl _|apply Drawn0.step)⟩
  rw [if_neg c4] at H
  exact absurd H (by simp)
 rw [if_neg c3] at H
 have c3b0 : (FloatKind.f64.format.order a0 0 == some .eq) = false:=by simpa using c3
 (try (have c3b1 : decide (FloatKind.f64.format.order a0 0 = some .eq) = false:=by simpa using c3))
 (try (have c3b2 : (FloatKind.f64.format.order a0 0 == some .eq) = false:=by simpa using c3))
 (try (have c3b3 : ¬ (FloatKind.f64.format.order a0 0 = some .eq):=by simpa using c3))
 clear c3;obtain rfl:=Option.some.inj H;go_enter Try.func51,Try.ntmps51;go_wp2
 go_ret;exact ⟨by first|rfl|(simp;done)|(simp [*];done),by repeat (first|exact Drawn0.refl _|apply Drawn0.step)⟩
def quarryref13_Same.f (a0 : Nat) (a1 : Nat) : Option (Bool):=if (FloatKind.f64.format.order a0 a1 == some .eq) = true then ((quarryref13_Below.f a0).bind fun t127=>((quarryref13_Below.f a1).bind fun t128=>(if (t127 == t128) = true then (some true) else (if (FloatKind.f64.format.order a0 a0 != some .eq) = true then (some (FloatKind.f64.format.order a1 a1 != some .eq)) else (some false))))) else (if (FloatKind.f64.format.order a0 a0 != some .eq) = true then (some (FloatKind.f64.format.order a1 a1 != some .eq)) else (some false))
set_option maxHeartbeats 8000000 in
set_option maxRecDepth 100000 in
theorem quarryref13_Same.calls (a0 : Nat) (a1 : Nat) (r : Bool) (w : World) (h : quarryref13_Same.f a0 a1 = some r) :
  Calls Try.prog 22 #[.float .f64 a0,.float .f64 a1] w fun e w'=>e = .returned (.bool r) ∧ Drawn0 w w':=by
 have H : (if (FloatKind.f64.format.order a0 a1 == some .eq) = true then ((quarryref13_Below.f a0).bind fun t127=>((quarryref13_Below.f a1).bind fun t128=>(if (t127 == t128) = true then (some true) else (if (FloatKind.f64.format.order a0 a0 != some .eq) = true then (some (FloatKind.f64.format.order a1 a1 != some .eq)) else (some false))))) else (if (FloatKind.f64.format.order a0 a0 != some .eq) = true then (some (FloatKind.f64.format.order a1 a1 != some .eq)) else (some false))) = some r:=h;clear h
 by_cases c3 : (FloatKind.f64.format.order a0 a1 == some .eq) = true
 ·rw [if_pos c3] at H
  have c3b0 : (FloatKind.f64.format.order a0 a1 == some .eq) = true:=c3
  (try (have c3b1 : decide (FloatKind.f64.format.order a0 a1 = some .eq) = true:=by simpa using c3))
  (try (have c3b2 : (FloatKind.f64.format.order a0 a1 == some .eq) = true:=by simpa using c3))
  clear c3;replace H:=Option.bind_eq_some_iff.mp H;obtain ⟨t127,A40,H⟩:=H;replace H : ((quarryref13_Below.f a1).bind fun t128=>(if (t127 == t128) = true then (some true) else (if (FloatKind.f64.format.order a0 a0 != some .eq) = true then (some (FloatKind.f64.format.order a1 a1 != some .eq)) else (some false)))) = some r:=H;have A4:=Aside0.mk A40;clear A40;replace H:=Option.bind_eq_some_iff.mp H;obtain ⟨t128,A50,H⟩:=H;replace H : (if (t127 == t128) = true then (some true) else (if (FloatKind.f64.format.order a0 a0 != some .eq) = true then (some (FloatKind.f64.format.order a1 a1 != some .eq)) else (some false))) = some r:=H;have A5:=Aside0.mk A50;clear A50
  by_cases c6 : (t127 == t128) = true
  ·rw [if_pos c6] at H
   have c6b0 : (t127 == t128) = true:=c6
   (try (have c6b1 : decide (t127 = t128) = true:=by simpa using c6))
   (try (have c6b2 : (t127 == t128) = true:=by simpa using c6))
   clear c6;obtain rfl:=Option.some.inj H;go_enter Try.func22,Try.ntmps22
   go_wp2_with (first|(go_at_call 51;(with_reducible refine (quarryref13_Below.calls a0 t127 _ A4.out).mono ?_);rintro e w' ⟨rfl,⟨nd,rfl⟩⟩)|(go_at_call 51;(with_reducible refine (quarryref13_Below.calls a1 t128 _ A5.out).mono ?_);rintro e w' ⟨rfl,⟨nd,rfl⟩⟩))
   go_ret;exact ⟨by first|rfl|(simp;done)|(simp [*];done),by repeat (first|exact Drawn0.refl _|apply Drawn0.step)⟩
  rw [if_neg c6] at H
  have c6b0 : (t127 == t128) = false:=by simpa using c6
  (try (have c6b1 : decide (t127 = t128) = false:=by simpa using c6))
  (try (have c6b2 : (t127 == t128) = false:=by simpa using c6))
  (try (have c6b3 : ¬ (t127 = t128):=by simpa using c6))
  clear c6
  by_cases c7 : (FloatKind.f64.format.order a0 a0 != some .eq) = true
  ·rw [if_pos c7] at H
   have c7b0 : (FloatKind.f64.format.order a0 a0 != some .eq) = true:=c7
   (try (have c7b1 : decide (FloatKind.f64.format.order a0 a0 = some .eq) = false:=by simpa using c7))
   (try (have c7b2 : (FloatKind.f64.format.order a0 a0 == some .eq) = false:=by simpa using c7))
   (try (have c7b3 : ¬ (FloatKind.f64.format.order a0 a0 = some .eq):=by simpa using c7))
   clear c7;obtain rfl:=Option.some.inj H;go_enter Try.func22,Try.ntmps22
   go_wp2_with (first|(go_at_call 51;(with_reducible refine (quarryref13_Below.calls a0 t127 _ A4.out).mono ?_);rintro e w' ⟨rfl,⟨nd,rfl⟩⟩)|(go_at_call 51;(with_reducible refine (quarryref13_Below.calls a1 t128 _ A5.out).mono ?_);rintro e w' ⟨rfl,⟨nd,rfl⟩⟩))
   go_ret;exact ⟨by first|rfl|(simp;done)|(simp [*];done),by repeat (first|exact Drawn0.refl _|apply Drawn0.step)⟩
  rw [if_neg c7] at H
  have c7b0 : (FloatKind.f64.format.order a0 a0 != some .eq) = false:=by simpa using c7
  (try (have c7b1 : decide (FloatKind.f64.format.order a0 a0 = some .eq) = true:=by simpa using c7))
  (try (have c7b2 : (FloatKind.f64.format.order a0 a0 == some .eq) = true:=by simpa using c7))
  clear c7;obtain rfl:=Option.some.inj H;go_enter Try.func22,Try.ntmps22
  go_wp2_with (first|(go_at_call 51;(with_reducible refine (quarryref13_Below.calls a0 t127 _ A4.out).mono ?_);rintro e w' ⟨rfl,⟨nd,rfl⟩⟩)|(go_at_call 51;(with_reducible refine (quarryref13_Below.calls a1 t128 _ A5.out).mono ?_);rintro e w' ⟨rfl,⟨nd,rfl⟩⟩))
  go_ret;exact ⟨by first|rfl|(simp;done)|(simp [*];done),by repeat (first|exact Drawn0.refl _|apply Drawn0.step)⟩
 rw [if_neg c3] at H
 have c3b0 : (FloatKind.f64.format.order a0 a1 == some .eq) = false:=by simpa using c3
 (try (have c3b1 : decide (FloatKind.f64.format.order a0 a1 = some .eq) = false:=by simpa using c3))
 (try (have c3b2 : (FloatKind.f64.format.order a0 a1 == some .eq) = false:=by simpa using c3))
 (try (have c3b3 : ¬ (FloatKind.f64.format.order a0 a1 = some .eq):=by simpa using c3))
 clear c3
 by_cases c8 : (FloatKind.f64.format.order a0 a0 != some .eq) = true
 ·rw [if_pos c8] at H
  have c8b0 : (FloatKind.f64.format.order a0 a0 != some .eq) = true:=c8
  (try (have c8b1 : decide (FloatKind.f64.format.order a0 a0 = some .eq) = false:=by simpa using c8))
  (try (have c8b2 : (FloatKind.f64.format.order a0 a0 == some .eq) = false:=by simpa using c8))
  (try (have c8b3 : ¬ (FloatKind.f64.format.order a0 a0 = some .eq):=by simpa using c8))
  clear c8;obtain rfl:=Option.some.inj H;go_enter Try.func22,Try.ntmps22;go_wp2
  go_ret;exact ⟨by first|rfl|(simp;done)|(simp [*];done),by repeat (first|exact Drawn0.refl _|apply Drawn0.step)⟩
 rw [if_neg c8] at H
 have c8b0 : (FloatKind.f64.format.order a0 a0 != some .eq) = false:=by simpa using c8
 (try (have c8b1 : decide (FloatKind.f64.format.order a0 a0 = some .eq) = true:=by simpa using c8))
 (try (have c8b2 : (FloatKind.f64.format.order a0 a0 == some .eq) = true:=by simpa using c8))
 clear c8;obtain rfl:=Option.some.inj H;go_enter Try.func22,Try.ntmps22;go_wp2
 go_ret;exact ⟨by first|rfl|(simp;done)|(simp [*];done),by repeat (first|exact Drawn0.refl _|apply Drawn0.step)⟩
def quarrylaw31_same.f (a0_0 : Int) (a0_1 : Nat) (a0_2 : Nat) (a0_3 : Nat) (a0_4 : Nat) (a0_5 : Nat) (a0_6 : Nat) (a1_0 : Int) (a1_1 : Nat) (a1_2 : Nat) (a1_3 : Nat) (a1_4 : Nat) (a1_5 : Nat) (a1_6 : Nat) : Option (Bool):=if a0_0 = a1_0 then ((quarryref13_Same.f a0_1 a1_1).bind fun t131=>(if t131 = true then ((quarryref13_Same.f a0_2 a1_2).bind fun t132=>(if t132 = true then ((quarryref13_Same.f a0_3 a1_3).bind fun t133=>(if t133 = true then ((quarryref13_Same.f a0_4 a1_4).bind fun t134=>(if t134 = true then ((quarryref13_Same.f a0_5 a1_5).bind fun t135=>(if t135 = true then ((quarryref13_Same.f a0_6 a1_6).bind fun t136=>(some t136)) else (some false))) else (some false))) else (some false))) else (some false))) else (some false))) else (some false)
set_option maxHeartbeats 8000000 in
set_option maxRecDepth 100000 in
theorem quarrylaw31_same.calls (a0_0 : Int) (a0_1 : Nat) (a0_2 : Nat) (a0_3 : Nat) (a0_4 : Nat) (a0_5 : Nat) (a0_6 : Nat) (a1_0 : Int) (a1_1 : Nat) (a1_2 : Nat) (a1_3 : Nat) (a1_4 : Nat) (a1_5 : Nat) (a1_6 : Nat) (r : Bool) (w : World) (h : quarrylaw31_same.f a0_0 a0_1 a0_2 a0_3 a0_4 a0_5 a0_6 a1_0 a1_1 a1_2 a1_3 a1_4 a1_5 a1_6 = some r) :
  Calls Try.prog 15 #[.agg #[.int .i64 a0_0,.float .f64 a0_1,.float .f64 a0_2,.float .f64 a0_3,.float .f64 a0_4,.float .f64 a0_5,.float .f64 a0_6],.agg #[.int .i64 a1_0,.float .f64 a1_1,.float .f64 a1_2,.float .f64 a1_3,.float .f64 a1_4,.float .f64 a1_5,.float .f64 a1_6]] w fun e w'=>e = .returned (.bool r) ∧ Below w.heap.size w w':=by
 have hu26:=Try.underlying26;have HB:=Aside0.mk (Below.refl w.heap.size w);have H : (if a0_0 = a1_0 then ((quarryref13_Same.f a0_1 a1_1).bind fun t131=>(if t131 = true then ((quarryref13_Same.f a0_2 a1_2).bind fun t132=>(if t132 = true then ((quarryref13_Same.f a0_3 a1_3).bind fun t133=>(if t133 = true then ((quarryref13_Same.f a0_4 a1_4).bind fun t134=>(if t134 = true then ((quarryref13_Same.f a0_5 a1_5).bind fun t135=>(if t135 = true then ((quarryref13_Same.f a0_6 a1_6).bind fun t136=>(some t136)) else (some false))) else (some false))) else (some false))) else (some false))) else (some false))) else (some false)) = some r:=h;clear h;have HC3:=Aside0.mk H;clear H;go_enter Try.func15,Try.ntmps15
 go_upto_region 1 with (first|((with_reducible refine gate_dst (N:=2) rfl ?_);refine box_event ?hg (N:=2) ?hd (cs:=#[.int .i64 a0_0,.float .f64 a0_1,.float .f64 a0_2,.float .f64 a0_3,.float .f64 a0_4,.float .f64 a0_5,.float .f64 a0_6]) (t:=26) ?hr ?_;(case hd=>rfl);(case hg=>rfl);(case hr=>first|(go_simp;done)|(go_simp;rfl));intro gb129 hg w4 hbox hb;have n_:=J_ (below_step (hb_ HB) hb) (J_ (hbox) (J_ (bs_ hg HB) (Aside0.mk (bs_ hg HB))));clear HB;obtain ⟨HB,BK129,GW129,GE129⟩:=n_;clear hb hbox hg)|((with_reducible refine gate_dst (N:=3) rfl ?_);refine box_event ?hg (N:=3) ?hd (cs:=#[.int .i64 a1_0,.float .f64 a1_1,.float .f64 a1_2,.float .f64 a1_3,.float .f64 a1_4,.float .f64 a1_5,.float .f64 a1_6]) (t:=26) ?hr ?_;(case hd=>rfl);(case hg=>rfl);(case hr=>first|(go_simp;done)|(go_simp;rfl));intro gb130 hg w5 hbox hb;have n_:=J_ (bkb_ BK129 hb) (J_ (below_step (hb_ HB) hb) (J_ (hbox) (J_ (bs_ hg HB) (J_ (bs_ hg HB) (J_ ((by rw [hg];exact Nat.ne_of_lt (bkl_ BK129) : gb129 ≠ gb130)) (Aside0.mk ((by rw [hg];exact Nat.ne_of_gt (bkl_ BK129) : gb130 ≠ gb129))))))));clear BK129 HB;obtain ⟨BK129,HB,BK130,GW130,GE130,NB129_130,NB130_129⟩:=n_;clear hb hbox hg))
 (try simp only [Act.put,List.setIfInBounds_toArray,List.set_cons_zero,List.set_cons_succ])
 have H:=HC3.out;clear HC3
 by_cases c6 : a0_0 = a1_0
 ·rw [if_pos c6] at H
  have c6b0 : (a0_0 == a1_0) = true:=beq_iff_eq.mpr c6;have c6b1 : (a0_0 != a1_0) = false:=bne_eq_false_iff_eq.mpr c6;clear c6;replace H:=Option.bind_eq_some_iff.mp H;obtain ⟨t131,A70,H⟩:=H;replace H : (if t131 = true then ((quarryref13_Same.f a0_2 a1_2).bind fun t132=>(if t132 = true then ((quarryref13_Same.f a0_3 a1_3).bind fun t133=>(if t133 = true then ((quarryref13_Same.f a0_4 a1_4).bind fun t134=>(if t134 = true then ((quarryref13_Same.f a0_5 a1_5).bind fun t135=>(if t135 = true then ((quarryref13_Same.f a0_6 a1_6).bind fun t136=>(some t136)) else (some false))) else (some false))) else (some false))) else (some false))) else (some false)) = some r:=H;have A7:=Aside0.mk A70;clear A70
  by_cases c8 : t131 = true
  ·subst c8
   have H1 : ((quarryref13_Same.f a0_2 a1_2).bind fun t132=>(if t132 = true then ((quarryref13_Same.f a0_3 a1_3).bind fun t133=>(if t133 = true then ((quarryref13_Same.f a0_4 a1_4).bind fun t134=>(if t134 = true then ((quarryref13_Same.f a0_5 a1_5).bind fun t135=>(if t135 = true then ((quarryref13_Same.f a0_6 a1_6).bind fun t136=>(some t136)) else (some false))) else (some false))) else (some false))) else (some false))) = some r:=by rw [if_pos rfl] at H;exact H
   clear H;have H:=H1;clear H1;replace H:=Option.bind_eq_some_iff.mp H;obtain ⟨t132,A90,H⟩:=H;replace H : (if t132 = true then ((quarryref13_Same.f a0_3 a1_3).bind fun t133=>(if t133 = true then ((quarryref13_Same.f a0_4 a1_4).bind fun t134=>(if t134 = true then ((quarryref13_Same.f a0_5 a1_5).bind fun t135=>(if t135 = true then ((quarryref13_Same.f a0_6 a1_6).bind fun t136=>(some t136)) else (some false))) else (some false))) else (some false))) else (some false)) = some r:=H;have A9:=Aside0.mk A90;clear A90
   by_cases c10 : t132 = true
   ·subst c10
    have H1 : ((quarryref13_Same.f a0_3 a1_3).bind fun t133=>(if t133 = true then ((quarryref13_Same.f a0_4 a1_4).bind fun t134=>(if t134 = true then ((quarryref13_Same.f a0_5 a1_5).bind fun t135=>(if t135 = true then ((quarryref13_Same.f a0_6 a1_6).bind fun t136=>(some t136)) else (some false))) else (some false))) else (some false))) = some r:=by rw [if_pos rfl] at H;exact H
    clear H;have H:=H1;clear H1;replace H:=Option.bind_eq_some_iff.mp H;obtain ⟨t133,A110,H⟩:=H;replace H : (if t133 = true then ((quarryref13_Same.f a0_4 a1_4).bind fun t134=>(if t134 = true then ((quarryref13_Same.f a0_5 a1_5).bind fun t135=>(if t135 = true then ((quarryref13_Same.f a0_6 a1_6).bind fun t136=>(some t136)) else (some false))) else (some false))) else (some false)) = some r:=H;have A11:=Aside0.mk A110;clear A110
    by_cases c12 : t133 = true
    ·subst c12
     have H1 : ((quarryref13_Same.f a0_4 a1_4).bind fun t134=>(if t134 = true then ((quarryref13_Same.f a0_5 a1_5).bind fun t135=>(if t135 = true then ((quarryref13_Same.f a0_6 a1_6).bind fun t136=>(some t136)) else (some false))) else (some false))) = some r:=by rw [if_pos rfl] at H;exact H
     clear H;have H:=H1;clear H1;replace H:=Option.bind_eq_some_iff.mp H;obtain ⟨t134,A130,H⟩:=H;replace H : (if t134 = true then ((quarryref13_Same.f a0_5 a1_5).bind fun t135=>(if t135 = true then ((quarryref13_Same.f a0_6 a1_6).bind fun t136=>(some t136)) else (some false))) else (some false)) = some r:=H;have A13:=Aside0.mk A130;clear A130
     by_cases c14 : t134 = true
     ·subst c14
      have H1 : ((quarryref13_Same.f a0_5 a1_5).bind fun t135=>(if t135 = true then ((quarryref13_Same.f a0_6 a1_6).bind fun t136=>(some t136)) else (some false))) = some r:=by rw [if_pos rfl] at H;exact H
      clear H;have H:=H1;clear H1;replace H:=Option.bind_eq_some_iff.mp H;obtain ⟨t135,A150,H⟩:=H;replace H : (if t135 = true then ((quarryref13_Same.f a0_6 a1_6).bind fun t136=>(some t136)) else (some false)) = some r:=H;have A15:=Aside0.mk A150;clear A150
      by_cases c16 : t135 = true
      ·subst c16
       have H1 : ((quarryref13_Same.f a0_6 a1_6).bind fun t136=>(some t136)) = some r:=by rw [if_pos rfl] at H;exact H
       clear H;have H:=H1;clear H1;replace H:=Option.bind_eq_some_iff.mp H;obtain ⟨t136,A170,H⟩:=H;replace H : (some t136) = some r:=H;have A17:=Aside0.mk A170;clear A170;obtain rfl:=Option.some.inj H;have hnb18:=NB129_130.out;have hnc18:=NB130_129.out;obtain ⟨hcz19_0,hcz19_1,hcz19_2,hcz19_3,hcz19_4,hcz19_5,hcz19_6,hfz19_0,hfz19_1,hfz19_2,hfz19_3,hfz19_4,hfz19_5,hfz19_6⟩:=cf7_ BK129;obtain ⟨hcz20_0,hcz20_1,hcz20_2,hcz20_3,hcz20_4,hcz20_5,hcz20_6,hfz20_0,hfz20_1,hfz20_2,hfz20_3,hfz20_4,hfz20_5,hfz20_6⟩:=cf7_ BK130
       go_wp2_with (first|(go_at_call 22;(with_reducible refine (quarryref13_Same.calls a0_1 a1_1 true _ A7.out).mono ?_);rintro e w' ⟨rfl,⟨nd,rfl⟩⟩)|(go_at_call 22;(with_reducible refine (quarryref13_Same.calls a0_2 a1_2 true _ A9.out).mono ?_);rintro e w' ⟨rfl,⟨nd,rfl⟩⟩)|(go_at_call 22;(with_reducible refine (quarryref13_Same.calls a0_3 a1_3 true _ A11.out).mono ?_);rintro e w' ⟨rfl,⟨nd,rfl⟩⟩)|(go_at_call 22;(with_reducible refine (quarryref13_Same.calls a0_4 a1_4 true _ A13.out).mono ?_);rintro e w' ⟨rfl,⟨nd,rfl⟩⟩)|(go_at_call 22;(with_reducible refine (quarryref13_Same.calls a0_5 a1_5 true _ A15.out).mono ?_);rintro e w' ⟨rfl,⟨nd,rfl⟩⟩)|(go_at_call 22;(with_reducible refine (quarryref13_Same.calls a0_6 a1_6 t136 _ A17.out).mono ?_);rintro e w' ⟨rfl,⟨nd,rfl⟩⟩))
       go_ret;exact ⟨er_,(hb_ HB)⟩
      replace c16:=Bool.eq_false_iff.mpr c16;subst c16
      have H1 : (some false) = some r:=by rw [if_neg (show ¬ (false = true) by decide)] at H;exact H
      clear H;have H:=H1;clear H1;obtain rfl:=Option.some.inj H;have hnb21:=NB129_130.out;have hnc21:=NB130_129.out;obtain ⟨hcz22_0,hcz22_1,hcz22_2,hcz22_3,hcz22_4,hcz22_5,hcz22_6,hfz22_0,hfz22_1,hfz22_2,hfz22_3,hfz22_4,hfz22_5,hfz22_6⟩:=cf7_ BK129;obtain ⟨hcz23_0,hcz23_1,hcz23_2,hcz23_3,hcz23_4,hcz23_5,hcz23_6,hfz23_0,hfz23_1,hfz23_2,hfz23_3,hfz23_4,hfz23_5,hfz23_6⟩:=cf7_ BK130
      go_wp2_with (first|(go_at_call 22;(with_reducible refine (quarryref13_Same.calls a0_1 a1_1 true _ A7.out).mono ?_);rintro e w' ⟨rfl,⟨nd,rfl⟩⟩)|(go_at_call 22;(with_reducible refine (quarryref13_Same.calls a0_2 a1_2 true _ A9.out).mono ?_);rintro e w' ⟨rfl,⟨nd,rfl⟩⟩)|(go_at_call 22;(with_reducible refine (quarryref13_Same.calls a0_3 a1_3 true _ A11.out).mono ?_);rintro e w' ⟨rfl,⟨nd,rfl⟩⟩)|(go_at_call 22;(with_reducible refine (quarryref13_Same.calls a0_4 a1_4 true _ A13.out).mono ?_);rintro e w' ⟨rfl,⟨nd,rfl⟩⟩)|(go_at_call 22;(with_reducible refine (quarryref13_Same.calls a0_5 a1_5 false _ A15.out).mono ?_);rintro e w' ⟨rfl,⟨nd,rfl⟩⟩))
      go_ret;exact ⟨er_,(hb_ HB)⟩
     replace c14:=Bool.eq_false_iff.mpr c14;subst c14
     have H1 : (some false) = some r:=by rw [if_neg (show ¬ (false = true) by decide)] at H;exact H
     clear H;have H:=H1;clear H1;obtain rfl:=Option.some.inj H;have hnb24:=NB129_130.out;have hnc24:=NB130_129.out;obtain ⟨hcz25_0,hcz25_1,hcz25_2,hcz25_3,hcz25_4,hcz25_5,hcz25_6,hfz25_0,hfz25_1,hfz25_2,hfz25_3,hfz25_4,hfz25_5,hfz25_6⟩:=cf7_ BK129;obtain ⟨hcz26_0,hcz26_1,hcz26_2,hcz26_3,hcz26_4,hcz26_5,hcz26_6,hfz26_0,hfz26_1,hfz26_2,hfz26_3,hfz26_4,hfz26_5,hfz26_6⟩:=cf7_ BK130
     go_wp2_with (first|(go_at_call 22;(with_reducible refine (quarryref13_Same.calls a0_1 a1_1 true _ A7.out).mono ?_);rintro e w' ⟨rfl,⟨nd,rfl⟩⟩)|(go_at_call 22;(with_reducible refine (quarryref13_Same.calls a0_2 a1_2 true _ A9.out).mono ?_);rintro e w' ⟨rfl,⟨nd,rfl⟩⟩)|(go_at_call 22;(with_reducible refine (quarryref13_Same.calls a0_3 a1_3 true _ A11.out).mono ?_);rintro e w' ⟨rfl,⟨nd,rfl⟩⟩)|(go_at_call 22;(with_reducible refine (quarryref13_Same.calls a0_4 a1_4 false _ A13.out).mono ?_);rintro e w' ⟨rfl,⟨nd,rfl⟩⟩))
     go_ret;exact ⟨er_,(hb_ HB)⟩
    replace c12:=Bool.eq_false_iff.mpr c12;subst c12
    have H1 : (some false) = some r:=by rw [if_neg (show ¬ (false = true) by decide)] at H;exact H
    clear H;have H:=H1;clear H1;obtain rfl:=Option.some.inj H;have hnb27:=NB129_130.out;have hnc27:=NB130_129.out;obtain ⟨hcz28_0,hcz28_1,hcz28_2,hcz28_3,hcz28_4,hcz28_5,hcz28_6,hfz28_0,hfz28_1,hfz28_2,hfz28_3,hfz28_4,hfz28_5,hfz28_6⟩:=cf7_ BK129;obtain ⟨hcz29_0,hcz29_1,hcz29_2,hcz29_3,hcz29_4,hcz29_5,hcz29_6,hfz29_0,hfz29_1,hfz29_2,hfz29_3,hfz29_4,hfz29_5,hfz29_6⟩:=cf7_ BK130
    go_wp2_with (first|(go_at_call 22;(with_reducible refine (quarryref13_Same.calls a0_1 a1_1 true _ A7.out).mono ?_);rintro e w' ⟨rfl,⟨nd,rfl⟩⟩)|(go_at_call 22;(with_reducible refine (quarryref13_Same.calls a0_2 a1_2 true _ A9.out).mono ?_);rintro e w' ⟨rfl,⟨nd,rfl⟩⟩)|(go_at_call 22;(with_reducible refine (quarryref13_Same.calls a0_3 a1_3 false _ A11.out).mono ?_);rintro e w' ⟨rfl,⟨nd,rfl⟩⟩))
    go_ret;exact ⟨er_,(hb_ HB)⟩
   replace c10:=Bool.eq_false_iff.mpr c10;subst c10
   have H1 : (some false) = some r:=by rw [if_neg (show ¬ (false = true) by decide)] at H;exact H
   clear H;have H:=H1;clear H1;obtain rfl:=Option.some.inj H;have hnb30:=NB129_130.out;have hnc30:=NB130_129.out;obtain ⟨hcz31_0,hcz31_1,hcz31_2,hcz31_3,hcz31_4,hcz31_5,hcz31_6,hfz31_0,hfz31_1,hfz31_2,hfz31_3,hfz31_4,hfz31_5,hfz31_6⟩:=cf7_ BK129;obtain ⟨hcz32_0,hcz32_1,hcz32_2,hcz32_3,hcz32_4,hcz32_5,hcz32_6,hfz32_0,hfz32_1,hfz32_2,hfz32_3,hfz32_4,hfz32_5,hfz32_6⟩:=cf7_ BK130
   go_wp2_with (first|(go_at_call 22;(with_reducible refine (quarryref13_Same.calls a0_1 a1_1 true _ A7.out).mono ?_);rintro e w' ⟨rfl,⟨nd,rfl⟩⟩)|(go_at_call 22;(with_reducible refine (quarryref13_Same.calls a0_2 a1_2 false _ A9.out).mono ?_);rintro e w' ⟨rfl,⟨nd,rfl⟩⟩))
   go_ret;exact ⟨er_,(hb_ HB)⟩
  replace c8:=Bool.eq_false_iff.mpr c8;subst c8
  have H1 : (some false) = some r:=by rw [if_neg (show ¬ (false = true) by decide)] at H;exact H
  clear H;have H:=H1;clear H1;obtain rfl:=Option.some.inj H;have hnb33:=NB129_130.out;have hnc33:=NB130_129.out;obtain ⟨hcz34_0,hcz34_1,hcz34_2,hcz34_3,hcz34_4,hcz34_5,hcz34_6,hfz34_0,hfz34_1,hfz34_2,hfz34_3,hfz34_4,hfz34_5,hfz34_6⟩:=cf7_ BK129;obtain ⟨hcz35_0,hcz35_1,hcz35_2,hcz35_3,hcz35_4,hcz35_5,hcz35_6,hfz35_0,hfz35_1,hfz35_2,hfz35_3,hfz35_4,hfz35_5,hfz35_6⟩:=cf7_ BK130
  go_wp2_with (first|(go_at_call 22;(with_reducible refine (quarryref13_Same.calls a0_1 a1_1 false _ A7.out).mono ?_);rintro e w' ⟨rfl,⟨nd,rfl⟩⟩))
  go_ret;exact ⟨er_,(hb_ HB)⟩
 rw [if_neg c6] at H
 have c6b0 : (a0_0 == a1_0) = false:=beq_eq_false_iff_ne.mpr c6;have c6b1 : (a0_0 != a1_0) = true:=bne_iff_ne.mpr c6;obtain rfl:=Option.some.inj H;have hnb36:=NB129_130.out;have hnc36:=NB130_129.out;obtain ⟨hcz37_0,hcz37_1,hcz37_2,hcz37_3,hcz37_4,hcz37_5,hcz37_6,hfz37_0,hfz37_1,hfz37_2,hfz37_3,hfz37_4,hfz37_5,hfz37_6⟩:=cf7_ BK129;obtain ⟨hcz38_0,hcz38_1,hcz38_2,hcz38_3,hcz38_4,hcz38_5,hcz38_6,hfz38_0,hfz38_1,hfz38_2,hfz38_3,hfz38_4,hfz38_5,hfz38_6⟩:=cf7_ BK130;go_wp2
 go_ret;exact ⟨er_,(hb_ HB)⟩
end Go.Proofs.Ytijmdmnhbbcahaa.PTallySteps
