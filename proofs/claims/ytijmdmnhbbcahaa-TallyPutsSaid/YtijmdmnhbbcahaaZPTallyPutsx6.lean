-- Written by shrink.py, a program of this session: what the law needs of the print and its words. Lean checks it.
import Derived.Test.YtijmdmnhbbcahaaZPTallyPutsx0
import Derived.Test.YtijmdmnhbbcahaaZPTallyPutsx4
import Derived.Test.YtijmdmnhbbcahaaZPTallyPutsx5
namespace Go.Proofs.Ytijmdmnhbbcahaa.PTallyPuts
open Go.RowKit Go.Proofs.YtijmdmnhbbcahaaW.PrintWords Go.Proofs.YtijmdmnhbbcahaaW.PrintLast Go.Proofs.YtijmdmnhbbcahaaW.PrintMore
attribute [local go_sem] run_fadd run_fsub run_fmul run_fquo unary_fneg run_store_f64 run_store_c128 run_cadd
attribute [local go_sem] max2_int min2_int max_two min_two max_three min_three max_four min_four
set_option linter.unusedVariables false
set_option linter.unusedSimpArgs false
def tally_Of.l0 : Nat → List Nat → Int → Int → Int → Nat → Nat → Nat → Nat → Nat → Nat → Option (Int × Nat × Nat × Nat × Nat × Nat × Nat × Int)
 | 0,_,_,_,_,_,_,_,_,_,_=>none
 | k + 1,x13,x14,x15,x127000,x127001,x127002,x127003,x127004,x127005,x127006=>if x15 < x14 then (if 0 ≤ x15 then (if x15 < (x13.length : Int) then ((tally_Put.f k x127000 x127001 x127002 x127003 x127004 x127005 x127006 (rdOf (0 : Nat) x13 x15)).bind fun bt128=>(if bt128.2.2.2.2.2.2.2 = 0 then (tally_Of.l0 k x13 x14 (wrap64 (x15 + 1)) bt128.1 bt128.2.1 bt128.2.2.1 bt128.2.2.2.1 bt128.2.2.2.2.1 bt128.2.2.2.2.2.1 bt128.2.2.2.2.2.2.1) else (some (0,0,0,0,0,0,0,121)))) else (none)) else (none)) else (some (x127000,x127001,x127002,x127003,x127004,x127005,x127006,0))
def tally_Of.f (k : Nat) (l0 : List Nat) : Option (Int × Nat × Nat × Nat × Nat × Nat × Nat × Int):=(tally_finite.f k l0).bind fun t125=>(if t125 = true then (tally_Of.l0 k l0 (l0.length : Int) 0 0 0 0 0 0 0 0) else (some (0,0,0,0,0,0,0,130)))
set_option maxHeartbeats 8000000 in
set_option maxRecDepth 100000 in
theorem tally_Of.calls (k : Nat) (A0 : Option Addr) (c0 : Nat) (l0 : List Nat) (r1 : Int) (r2 : Nat) (r3 : Nat) (r4 : Nat) (r5 : Nat) (r6 : Nat) (r7 : Nat) (r8 : Int) (w : World) (hr0 : Kd.C Kd.f64 w A0 l0.length l0) (hc0 : l0.length ≤ c0) (h : tally_Of.f k l0 = some (r1,r2,r3,r4,r5,r6,r7,r8)) :
  Calls Try.prog 13 #[.slice A0 l0.length c0] w fun e w'=>e = .returned (.tuple #[.agg #[.int .i64 r1,.float .f64 r2,.float .f64 r3,.float .f64 r4,.float .f64 r5,.float .f64 r6,.float .f64 r7],.int .i64 r8]) ∧ Below w.heap.size w w':=by
 have hu26:=Try.underlying26
 have HR0:=Aside0.mk hr0
 have HC0:=Aside0.mk hc0
 clear hr0 hc0
 have HB:=Aside0.mk (Below.refl w.heap.size w)
 have H : ((tally_finite.f k l0).bind fun t125=>(if t125 = true then (tally_Of.l0 k l0 (l0.length : Int) 0 0 0 0 0 0 0 0) else (some (0,0,0,0,0,0,0,130)))) = some (r1,r2,r3,r4,r5,r6,r7,r8):=h
 clear h
 replace H:=Option.bind_eq_some_iff.mp H
 obtain ⟨t125,A20,H⟩:=H
 replace H : (if t125 = true then (tally_Of.l0 k l0 (l0.length : Int) 0 0 0 0 0 0 0 0) else (some (0,0,0,0,0,0,0,130))) = some (r1,r2,r3,r4,r5,r6,r7,r8):=H
 have A2:=Aside0.mk A20
 clear A20
 by_cases c3 : t125 = true
 ·subst c3
  have H1 : (tally_Of.l0 k l0 (l0.length : Int) 0 0 0 0 0 0 0 0) = some (r1,r2,r3,r4,r5,r6,r7,r8):=by rw [if_pos rfl] at H;exact H
  clear H
  have H:=H1
  clear H1
  have H':=Aside0.mk H
  clear H
  go_enter Try.func13,Try.ntmps13
  go_wp2_with (first|((with_reducible refine gate_dst (N:=2) rfl ?_);refine box_event ?hg (N:=2) ?hd (cs:=#[.int .i64 0,.float .f64 0,.float .f64 0,.float .f64 0,.float .f64 0,.float .f64 0,.float .f64 0]) (t:=26) ?hr ?_;(case hd=>rfl);(case hg=>rfl);(case hr=>first|(go_simp;done)|(go_simp;rfl));intro gb124 hg w4 hbox hb;have n_:=J_ (below_step (hb_ HB) hb) (J_ (hbox) (J_ (bs_ hg HB) (Aside0.mk (bs_ hg HB))));clear HB;obtain ⟨HB,BK124,GW124,GE124⟩:=n_;clear hb hbox hg)|((with_reducible refine gate_callee (f:=40) rfl ?_);refine goesL_ (some 10) rfl rfl Try.func40 (by kernel_rfl) rfl #[.slice A0 l0.length c0] rfl am_ ?_;(with_reducible refine (tally_finite.calls k _ _ l0 true _ ?side1 ?side2 A2.out).mono ?_);(case side1=>repeat (first|exact (Kd.C_below HR0.out HB.out)|(with_reducible refine Kd.C_alloc ?_ _)|(with_reducible refine Kd.C_drewN ?_ _)|(with_reducible refine Kd.C_drew ?_)));(case side2=>exact HC0.out);rintro e w' ⟨rfl,⟨nd,rfl⟩⟩;refine ⟨_,rfl,?_⟩)|((with_reducible refine gate_dst (N:=4) rfl ?_);refine box_event ?hg (N:=4) ?hd (cs:=#[.int .i64 0,.float .f64 0,.float .f64 0,.float .f64 0,.float .f64 0,.float .f64 0,.float .f64 0]) (t:=26) ?hr ?_;(case hd=>rfl);(case hg=>rfl);(case hr=>first|(go_simp;done)|(go_simp;rfl));intro gb126 hg w5 hbox hb;have n_:=J_ (bkb_ BK124 hb) (J_ (below_step (hb_ HB) hb) (J_ (hbox) (J_ (bs_ hg HB) (J_ (bs_ hg HB) (J_ ((by rw [hg];exact Nat.ne_of_lt (bkl_ BK124) : gb124 ≠ gb126)) (Aside0.mk ((by rw [hg];exact Nat.ne_of_gt (bkl_ BK124) : gb126 ≠ gb124))))))));clear BK124 HB;obtain ⟨BK124,HB,BK126,GW126,GE126,NB124_126,NB126_124⟩:=n_;clear hb hbox hg))
  go_loopg [15] k (fun kq v15 w'=>∃ (x15_1 : Int) (x125000_1 : Int) (x125001_1 : Nat) (x125002_1 : Nat) (x125003_1 : Nat) (x125004_1 : Nat) (x125005_1 : Nat) (x125006_1 : Nat) (x127000_1 : Int) (x127001_1 : Nat) (x127002_1 : Nat) (x127003_1 : Nat) (x127004_1 : Nat) (x127005_1 : Nat) (x127006_1 : Nat),v15 = .int .i64 x15_1 ∧ Aside0 (tally_Of.l0 kq l0 (l0.length : Int) x15_1 x127000_1 x127001_1 x127002_1 x127003_1 x127004_1 x127005_1 x127006_1 = some (r1,r2,r3,r4,r5,r6,r7,r8)) ∧ Aside0 (kq ≤ k) ∧ Aside0 (w'.heap[gb124]? = some (.cells #[.int .i64 x125000_1,.float .f64 x125001_1,.float .f64 x125002_1,.float .f64 x125003_1,.float .f64 x125004_1,.float .f64 x125005_1,.float .f64 x125006_1] 26 (0,0))) ∧ Aside0 (w'.heap[gb126]? = some (.cells #[.int .i64 x127000_1,.float .f64 x127001_1,.float .f64 x127002_1,.float .f64 x127003_1,.float .f64 x127004_1,.float .f64 x127005_1,.float .f64 x127006_1] 26 (0,0))) ∧ Aside0 (Below w.heap.size w w'))
  case atStart=>exact ⟨(0),(0),(0),(0),(0),(0),(0),(0),(0),(0),(0),(0),(0),(0),(0),rr_,H',⟨Nat.le_refl _⟩,⟨(bk_ BK124)⟩,⟨(bk_ BK126)⟩,⟨(hb_ HB)⟩⟩
  case round =>
   clear H'
   try clear BK124
   try clear BK126
   try clear HB
   obtain ⟨x15_1,x125000_1,x125001_1,x125002_1,x125003_1,x125004_1,x125005_1,x125006_1,x127000_1,x127001_1,x127002_1,x127003_1,x127004_1,x127005_1,x127006_1,rfl,HA,HK1,BK124,BK126,HB⟩:=hrel
   cases gk with
   | zero=>exact absurd HA.out (by simp [tally_Of.l0])
   | succ k1 =>
    have H:=HA.out
    clear HA
    simp only [tally_Of.l0] at H
    by_cases c6 : x15_1 < (l0.length : Int)
    ·rw [if_pos c6] at H
     have c6b0 : decide (x15_1 < (l0.length : Int)) = true:=decide_eq_true c6
     clear c6
     by_cases c7 : 0 ≤ x15_1
     ·rw [if_pos c7] at H
      have c7b0 : decide (0 ≤ x15_1) = true:=decide_eq_true c7
      clear c7
      by_cases c8 : x15_1 < (l0.length : Int)
      ·rw [if_pos c8] at H
       have c8b0 : decide (x15_1 < (l0.length : Int)) = true:=decide_eq_true c8
       clear c8
       replace H:=Option.bind_eq_some_iff.mp H
       obtain ⟨⟨t128,t129,t130,t131,t132,t133,t134,t135⟩,A90,H⟩:=H
       replace H : (if t135 = 0 then (tally_Of.l0 k1 l0 (l0.length : Int) (wrap64 (x15_1 + 1)) t128 t129 t130 t131 t132 t133 t134) else (some (0,0,0,0,0,0,0,121))) = some (r1,r2,r3,r4,r5,r6,r7,r8):=H
       have A9:=Aside0.mk A90
       clear A90
       by_cases c10 : t135 = 0
       ·rw [if_pos c10] at H
        have c10b0 : (t135 == 0) = true:=beq_iff_eq.mpr c10
        have c10b1 : (t135 != 0) = false:=bne_eq_false_iff_eq.mpr c10
        clear c10
        have H':=Aside0.mk H
        clear H
        have p127 : 0 ≤ (x15_1 : Int):=of_decide_eq_true aa_
        have q127 : x15_1 < (l0.length : Int):=of_decide_eq_true aa_
        obtain ⟨ad127,e127,hx127_0⟩:=Kd.at_f64 HR0.out x15_1 p127 q127
        cases e127
        replace hx127_0:=(HB.out.cell (World.block_lt_of_cell? w _ hx127_0)).trans hx127_0
        replace p127:=eq_true p127
        replace q127:=eq_true q127
        have hnb11:=NB126_124.out
        have hnc11:=NB124_126.out
        obtain ⟨hcz12_0,hcz12_1,hcz12_2,hcz12_3,hcz12_4,hcz12_5,hcz12_6,hfz12_0,hfz12_1,hfz12_2,hfz12_3,hfz12_4,hfz12_5,hfz12_6⟩:=cf7_ BK126
        go_wp2_with (first|((with_reducible refine gate_callee (f:=18) rfl ?_);refine goesL_ (some 22) rfl rfl Try.func18 (by kernel_rfl) rfl #[.agg #[.int .i64 x127000_1,.float .f64 x127001_1,.float .f64 x127002_1,.float .f64 x127003_1,.float .f64 x127004_1,.float .f64 x127005_1,.float .f64 x127006_1],.float .f64 (rdOf (0 : Nat) l0 x15_1)] rfl am_ ?_;(with_reducible refine (tally_Put.calls k1 x127000_1 x127001_1 x127002_1 x127003_1 x127004_1 x127005_1 x127006_1 (rdOf (0 : Nat) l0 x15_1) t128 t129 t130 t131 t132 t133 t134 t135 _ A9.out).mono ?_);rintro e w13 ⟨rfl,hb⟩;refine ⟨_,rfl,?_⟩;have n_:=J_ (bkb_ BK124 hb) (J_ (bkb_ BK126 hb) (Aside0.mk (below_step (hb_ HB) hb)));clear BK124 BK126 HB;obtain ⟨BK124,BK126,HB⟩:=n_;(try clear hb);(try clear hb2);(try clear hk);(try clear hi))|((with_reducible refine gate_dst (N:=7) rfl ?_);refine box_event ?hg (N:=7) ?hd (cs:=#[.int .i64 0,.float .f64 0,.float .f64 0,.float .f64 0,.float .f64 0,.float .f64 0,.float .f64 0]) (t:=26) ?hr ?_;(case hd=>rfl);(case hg=>rfl);(case hr=>first|(go_simp;done)|(go_simp;rfl));intro gb136 hg w14 hbox hb;have n_:=J_ (bkb_ BK124 hb) (J_ (bkb_ BK126 hb) (J_ (below_step (hb_ HB) hb) (J_ (hbox) (J_ (bs_ hg HB) (J_ (bs_ hg HB) (J_ ((by rw [hg];exact Nat.ne_of_lt (bkl_ BK124) : gb124 ≠ gb136)) (J_ ((by rw [hg];exact Nat.ne_of_gt (bkl_ BK124) : gb136 ≠ gb124)) (J_ ((by rw [hg];exact Nat.ne_of_lt (bkl_ BK126) : gb126 ≠ gb136)) (Aside0.mk ((by rw [hg];exact Nat.ne_of_gt (bkl_ BK126) : gb136 ≠ gb126)))))))))));clear BK124 BK126 HB;obtain ⟨BK124,BK126,HB,BK136,GW136,GE136,NB124_136,NB136_124,NB126_136,NB136_126⟩:=n_;clear hb hbox hg;have hnb15:=NB136_124.out;have hnc15:=NB124_136.out;have hnb16:=NB136_126.out;have hnc16:=NB126_136.out;obtain ⟨hcz17_0,hcz17_1,hcz17_2,hcz17_3,hcz17_4,hcz17_5,hcz17_6,hfz17_0,hfz17_1,hfz17_2,hfz17_3,hfz17_4,hfz17_5,hfz17_6⟩:=cf7_ BK136;obtain ⟨hcz18_0,hcz18_1,hcz18_2,hcz18_3,hcz18_4,hcz18_5,hcz18_6,hfz18_0,hfz18_1,hfz18_2,hfz18_3,hfz18_4,hfz18_5,hfz18_6⟩:=cf7_ BK126))
        go_roundg k1
        case measure=>have:=HK1.out;omega
        case rel=>exact ⟨(wrap64 (x15_1 + 1)),(x125000_1),(x125001_1),(x125002_1),(x125003_1),(x125004_1),(x125005_1),(x125006_1),(t128),(t129),(t130),(t131),(t132),(t133),(t134),rr_,(by first|exact H'|(subst_vars;exact H')),⟨by have:=HK1.out;omega⟩,⟨by (with_reducible repeat (first|refine blk_drewN ?_ _|refine blk_drew ?_|refine blk_alloc ?_ _));refine blk_far ?_ NB124_126.out _;(with_reducible repeat (first|refine blk_drewN ?_ _|refine blk_drew ?_|refine blk_alloc ?_ _));refine blk_far ?_ NB124_126.out _;(with_reducible repeat (first|refine blk_drewN ?_ _|refine blk_drew ?_|refine blk_alloc ?_ _));refine blk_far ?_ NB124_126.out _;(with_reducible repeat (first|refine blk_drewN ?_ _|refine blk_drew ?_|refine blk_alloc ?_ _));refine blk_far ?_ NB124_126.out _;(with_reducible repeat (first|refine blk_drewN ?_ _|refine blk_drew ?_|refine blk_alloc ?_ _));refine blk_far ?_ NB124_126.out _;(with_reducible repeat (first|refine blk_drewN ?_ _|refine blk_drew ?_|refine blk_alloc ?_ _));refine blk_far ?_ NB124_126.out _;(with_reducible repeat (first|refine blk_drewN ?_ _|refine blk_drew ?_|refine blk_alloc ?_ _));refine blk_far ?_ NB124_126.out _;(with_reducible repeat (first|refine blk_drewN ?_ _|refine blk_drew ?_|refine blk_alloc ?_ _));refine blk_far ?_ NB124_136.out _;(with_reducible repeat (first|refine blk_drewN ?_ _|refine blk_drew ?_|refine blk_alloc ?_ _));refine blk_far ?_ NB124_136.out _;(with_reducible repeat (first|refine blk_drewN ?_ _|refine blk_drew ?_|refine blk_alloc ?_ _));refine blk_far ?_ NB124_136.out _;(with_reducible repeat (first|refine blk_drewN ?_ _|refine blk_drew ?_|refine blk_alloc ?_ _));refine blk_far ?_ NB124_136.out _;(with_reducible repeat (first|refine blk_drewN ?_ _|refine blk_drew ?_|refine blk_alloc ?_ _));refine blk_far ?_ NB124_136.out _;(with_reducible repeat (first|refine blk_drewN ?_ _|refine blk_drew ?_|refine blk_alloc ?_ _));refine blk_far ?_ NB124_136.out _;(with_reducible repeat (first|refine blk_drewN ?_ _|refine blk_drew ?_|refine blk_alloc ?_ _));refine blk_far ?_ NB124_136.out _;(with_reducible repeat (first|refine blk_drewN ?_ _|refine blk_drew ?_|refine blk_alloc ?_ _));exact BK124.out⟩,⟨by (with_reducible repeat (first|refine blk_drewN ?_ _|refine blk_drew ?_|refine blk_alloc ?_ _));refine bp_ (cs:=#[.int .i64 t128,.float .f64 t129,.float .f64 t130,.float .f64 t131,.float .f64 t132,.float .f64 t133,.float .f64 x127006_1]) ?_ 6 _;refine bp_ (cs:=#[.int .i64 t128,.float .f64 t129,.float .f64 t130,.float .f64 t131,.float .f64 t132,.float .f64 x127005_1,.float .f64 x127006_1]) ?_ 5 _;refine bp_ (cs:=#[.int .i64 t128,.float .f64 t129,.float .f64 t130,.float .f64 t131,.float .f64 x127004_1,.float .f64 x127005_1,.float .f64 x127006_1]) ?_ 4 _;refine bp_ (cs:=#[.int .i64 t128,.float .f64 t129,.float .f64 t130,.float .f64 x127003_1,.float .f64 x127004_1,.float .f64 x127005_1,.float .f64 x127006_1]) ?_ 3 _;refine bp_ (cs:=#[.int .i64 t128,.float .f64 t129,.float .f64 x127002_1,.float .f64 x127003_1,.float .f64 x127004_1,.float .f64 x127005_1,.float .f64 x127006_1]) ?_ 2 _;refine bp_ (cs:=#[.int .i64 t128,.float .f64 x127001_1,.float .f64 x127002_1,.float .f64 x127003_1,.float .f64 x127004_1,.float .f64 x127005_1,.float .f64 x127006_1]) ?_ 1 _;refine bp_ (cs:=#[.int .i64 x127000_1,.float .f64 x127001_1,.float .f64 x127002_1,.float .f64 x127003_1,.float .f64 x127004_1,.float .f64 x127005_1,.float .f64 x127006_1]) ?_ 0 _;(with_reducible repeat (first|refine blk_drewN ?_ _|refine blk_drew ?_|refine blk_alloc ?_ _));refine blk_far ?_ NB126_136.out _;(with_reducible repeat (first|refine blk_drewN ?_ _|refine blk_drew ?_|refine blk_alloc ?_ _));refine blk_far ?_ NB126_136.out _;(with_reducible repeat (first|refine blk_drewN ?_ _|refine blk_drew ?_|refine blk_alloc ?_ _));refine blk_far ?_ NB126_136.out _;(with_reducible repeat (first|refine blk_drewN ?_ _|refine blk_drew ?_|refine blk_alloc ?_ _));refine blk_far ?_ NB126_136.out _;(with_reducible repeat (first|refine blk_drewN ?_ _|refine blk_drew ?_|refine blk_alloc ?_ _));refine blk_far ?_ NB126_136.out _;(with_reducible repeat (first|refine blk_drewN ?_ _|refine blk_drew ?_|refine blk_alloc ?_ _));refine blk_far ?_ NB126_136.out _;(with_reducible repeat (first|refine blk_drewN ?_ _|refine blk_drew ?_|refine blk_alloc ?_ _));refine blk_far ?_ NB126_136.out _;(with_reducible repeat (first|refine blk_drewN ?_ _|refine blk_drew ?_|refine blk_alloc ?_ _));exact BK126.out⟩,⟨(hb_ HB)⟩⟩
       ·rw [if_neg c10] at H
        have c10b0 : (t135 == 0) = false:=beq_eq_false_iff_ne.mpr c10
        have c10b1 : (t135 != 0) = true:=bne_iff_ne.mpr c10
        simp only [Option.some.injEq,Prod.mk.injEq] at H
        obtain ⟨rfl,rfl,rfl,rfl,rfl,rfl,rfl,rfl⟩:=H
        have p127 : 0 ≤ (x15_1 : Int):=of_decide_eq_true aa_
        have q127 : x15_1 < (l0.length : Int):=of_decide_eq_true aa_
        obtain ⟨ad127,e127,hx127_0⟩:=Kd.at_f64 HR0.out x15_1 p127 q127
        cases e127
        replace hx127_0:=(HB.out.cell (World.block_lt_of_cell? w _ hx127_0)).trans hx127_0
        replace p127:=eq_true p127
        replace q127:=eq_true q127
        have hnb19:=NB126_124.out
        have hnc19:=NB124_126.out
        obtain ⟨hcz20_0,hcz20_1,hcz20_2,hcz20_3,hcz20_4,hcz20_5,hcz20_6,hfz20_0,hfz20_1,hfz20_2,hfz20_3,hfz20_4,hfz20_5,hfz20_6⟩:=cf7_ BK126
        go_wp2_with (first|((with_reducible refine gate_callee (f:=18) rfl ?_);refine goesL_ (some 22) rfl rfl Try.func18 (by kernel_rfl) rfl #[.agg #[.int .i64 x127000_1,.float .f64 x127001_1,.float .f64 x127002_1,.float .f64 x127003_1,.float .f64 x127004_1,.float .f64 x127005_1,.float .f64 x127006_1],.float .f64 (rdOf (0 : Nat) l0 x15_1)] rfl am_ ?_;(with_reducible refine (tally_Put.calls k1 x127000_1 x127001_1 x127002_1 x127003_1 x127004_1 x127005_1 x127006_1 (rdOf (0 : Nat) l0 x15_1) t128 t129 t130 t131 t132 t133 t134 t135 _ A9.out).mono ?_);rintro e w21 ⟨rfl,hb⟩;refine ⟨_,rfl,?_⟩;have n_:=J_ (bkb_ BK124 hb) (J_ (bkb_ BK126 hb) (Aside0.mk (below_step (hb_ HB) hb)));clear BK124 BK126 HB;obtain ⟨BK124,BK126,HB⟩:=n_;(try clear hb);(try clear hb2);(try clear hk);(try clear hi))|((with_reducible refine gate_dst (N:=7) rfl ?_);refine box_event ?hg (N:=7) ?hd (cs:=#[.int .i64 0,.float .f64 0,.float .f64 0,.float .f64 0,.float .f64 0,.float .f64 0,.float .f64 0]) (t:=26) ?hr ?_;(case hd=>rfl);(case hg=>rfl);(case hr=>first|(go_simp;done)|(go_simp;rfl));intro gb136 hg w22 hbox hb;have n_:=J_ (bkb_ BK124 hb) (J_ (bkb_ BK126 hb) (J_ (below_step (hb_ HB) hb) (J_ (hbox) (J_ (bs_ hg HB) (J_ (bs_ hg HB) (J_ ((by rw [hg];exact Nat.ne_of_lt (bkl_ BK124) : gb124 ≠ gb136)) (J_ ((by rw [hg];exact Nat.ne_of_gt (bkl_ BK124) : gb136 ≠ gb124)) (J_ ((by rw [hg];exact Nat.ne_of_lt (bkl_ BK126) : gb126 ≠ gb136)) (Aside0.mk ((by rw [hg];exact Nat.ne_of_gt (bkl_ BK126) : gb136 ≠ gb126)))))))))));clear BK124 BK126 HB;obtain ⟨BK124,BK126,HB,BK136,GW136,GE136,NB124_136,NB136_124,NB126_136,NB136_126⟩:=n_;clear hb hbox hg;have hnb23:=NB136_124.out;have hnc23:=NB124_136.out;have hnb24:=NB136_126.out;have hnc24:=NB126_136.out;obtain ⟨hcz25_0,hcz25_1,hcz25_2,hcz25_3,hcz25_4,hcz25_5,hcz25_6,hfz25_0,hfz25_1,hfz25_2,hfz25_3,hfz25_4,hfz25_5,hfz25_6⟩:=cf7_ BK136;obtain ⟨hcz26_0,hcz26_1,hcz26_2,hcz26_3,hcz26_4,hcz26_5,hcz26_6,hfz26_0,hfz26_1,hfz26_2,hfz26_3,hfz26_4,hfz26_5,hfz26_6⟩:=cf7_ BK124))
        refine bodyPost_ret (results_ct rfl _ _ gb124 26 #[.int .i64 0,.float .f64 0,.float .f64 0,.float .f64 0,.float .f64 0,.float .f64 0,.float .f64 0] (0,0) _ rfl (by (with_reducible repeat (first|refine blk_drewN ?_ _|refine blk_drew ?_|refine blk_alloc ?_ _));refine bp_ (cs:=#[.int .i64 0,.float .f64 0,.float .f64 0,.float .f64 0,.float .f64 0,.float .f64 0,.float .f64 x125006_1]) ?_ 6 _;refine bp_ (cs:=#[.int .i64 0,.float .f64 0,.float .f64 0,.float .f64 0,.float .f64 0,.float .f64 x125005_1,.float .f64 x125006_1]) ?_ 5 _;refine bp_ (cs:=#[.int .i64 0,.float .f64 0,.float .f64 0,.float .f64 0,.float .f64 x125004_1,.float .f64 x125005_1,.float .f64 x125006_1]) ?_ 4 _;refine bp_ (cs:=#[.int .i64 0,.float .f64 0,.float .f64 0,.float .f64 x125003_1,.float .f64 x125004_1,.float .f64 x125005_1,.float .f64 x125006_1]) ?_ 3 _;refine bp_ (cs:=#[.int .i64 0,.float .f64 0,.float .f64 x125002_1,.float .f64 x125003_1,.float .f64 x125004_1,.float .f64 x125005_1,.float .f64 x125006_1]) ?_ 2 _;refine bp_ (cs:=#[.int .i64 0,.float .f64 x125001_1,.float .f64 x125002_1,.float .f64 x125003_1,.float .f64 x125004_1,.float .f64 x125005_1,.float .f64 x125006_1]) ?_ 1 _;refine bp_ (cs:=#[.int .i64 x125000_1,.float .f64 x125001_1,.float .f64 x125002_1,.float .f64 x125003_1,.float .f64 x125004_1,.float .f64 x125005_1,.float .f64 x125006_1]) ?_ 0 _;(with_reducible repeat (first|refine blk_drewN ?_ _|refine blk_drew ?_|refine blk_alloc ?_ _));refine blk_far ?_ NB124_136.out _;(with_reducible repeat (first|refine blk_drewN ?_ _|refine blk_drew ?_|refine blk_alloc ?_ _));refine blk_far ?_ NB124_136.out _;(with_reducible repeat (first|refine blk_drewN ?_ _|refine blk_drew ?_|refine blk_alloc ?_ _));refine blk_far ?_ NB124_136.out _;(with_reducible repeat (first|refine blk_drewN ?_ _|refine blk_drew ?_|refine blk_alloc ?_ _));refine blk_far ?_ NB124_136.out _;(with_reducible repeat (first|refine blk_drewN ?_ _|refine blk_drew ?_|refine blk_alloc ?_ _));refine blk_far ?_ NB124_136.out _;(with_reducible repeat (first|refine blk_drewN ?_ _|refine blk_drew ?_|refine blk_alloc ?_ _));refine blk_far ?_ NB124_136.out _;(with_reducible repeat (first|refine blk_drewN ?_ _|refine blk_drew ?_|refine blk_alloc ?_ _));refine blk_far ?_ NB124_136.out _;(with_reducible repeat (first|refine blk_drewN ?_ _|refine blk_drew ?_|refine blk_alloc ?_ _));exact BK124.out) Try.underlying26 rfl (by kernel_rfl)) rfl ?_
        exact ⟨er_,(hb_ HB)⟩
      ·rw [if_neg c8] at H
       exact absurd H (by simp)
     ·rw [if_neg c7] at H
      exact absurd H (by simp)
    ·rw [if_neg c6] at H
     have c6b0 : decide (x15_1 < (l0.length : Int)) = false:=decide_eq_false c6
     clear c6
     simp only [Option.some.injEq,Prod.mk.injEq] at H
     obtain ⟨rfl,rfl,rfl,rfl,rfl,rfl,rfl,rfl⟩:=H
     have hnb27:=NB126_124.out
     have hnc27:=NB124_126.out
     obtain ⟨hcz28_0,hcz28_1,hcz28_2,hcz28_3,hcz28_4,hcz28_5,hcz28_6,hfz28_0,hfz28_1,hfz28_2,hfz28_3,hfz28_4,hfz28_5,hfz28_6⟩:=cf7_ BK126
     obtain ⟨hcz29_0,hcz29_1,hcz29_2,hcz29_3,hcz29_4,hcz29_5,hcz29_6,hfz29_0,hfz29_1,hfz29_2,hfz29_3,hfz29_4,hfz29_5,hfz29_6⟩:=cf7_ BK124
     go_wp2
     refine bodyPost_ret (results_ct rfl _ _ gb124 26 #[.int .i64 x127000_1,.float .f64 x127001_1,.float .f64 x127002_1,.float .f64 x127003_1,.float .f64 x127004_1,.float .f64 x127005_1,.float .f64 x127006_1] (0,0) _ rfl (by (with_reducible repeat (first|refine blk_drewN ?_ _|refine blk_drew ?_|refine blk_alloc ?_ _));refine bp_ (cs:=#[.int .i64 x127000_1,.float .f64 x127001_1,.float .f64 x127002_1,.float .f64 x127003_1,.float .f64 x127004_1,.float .f64 x127005_1,.float .f64 x125006_1]) ?_ 6 _;refine bp_ (cs:=#[.int .i64 x127000_1,.float .f64 x127001_1,.float .f64 x127002_1,.float .f64 x127003_1,.float .f64 x127004_1,.float .f64 x125005_1,.float .f64 x125006_1]) ?_ 5 _;refine bp_ (cs:=#[.int .i64 x127000_1,.float .f64 x127001_1,.float .f64 x127002_1,.float .f64 x127003_1,.float .f64 x125004_1,.float .f64 x125005_1,.float .f64 x125006_1]) ?_ 4 _;refine bp_ (cs:=#[.int .i64 x127000_1,.float .f64 x127001_1,.float .f64 x127002_1,.float .f64 x125003_1,.float .f64 x125004_1,.float .f64 x125005_1,.float .f64 x125006_1]) ?_ 3 _;refine bp_ (cs:=#[.int .i64 x127000_1,.float .f64 x127001_1,.float .f64 x125002_1,.float .f64 x125003_1,.float .f64 x125004_1,.float .f64 x125005_1,.float .f64 x125006_1]) ?_ 2 _;refine bp_ (cs:=#[.int .i64 x127000_1,.float .f64 x125001_1,.float .f64 x125002_1,.float .f64 x125003_1,.float .f64 x125004_1,.float .f64 x125005_1,.float .f64 x125006_1]) ?_ 1 _;refine bp_ (cs:=#[.int .i64 x125000_1,.float .f64 x125001_1,.float .f64 x125002_1,.float .f64 x125003_1,.float .f64 x125004_1,.float .f64 x125005_1,.float .f64 x125006_1]) ?_ 0 _;(with_reducible repeat (first|refine blk_drewN ?_ _|refine blk_drew ?_|refine blk_alloc ?_ _));exact BK124.out) Try.underlying26 rfl (by kernel_rfl)) rfl ?_
     exact ⟨er_,(hb_ HB)⟩
 ·replace c3:=Bool.eq_false_iff.mpr c3
  subst c3
  have H1 : (some (0,0,0,0,0,0,0,130)) = some (r1,r2,r3,r4,r5,r6,r7,r8):=by rw [if_neg (show ¬ (false = true) by decide)] at H;exact H
  clear H
  have H:=H1
  clear H1
  simp only [Option.some.injEq,Prod.mk.injEq] at H
  obtain ⟨rfl,rfl,rfl,rfl,rfl,rfl,rfl,rfl⟩:=H
  go_enter Try.func13,Try.ntmps13
  go_wp2_with (first|((with_reducible refine gate_dst (N:=2) rfl ?_);refine box_event ?hg (N:=2) ?hd (cs:=#[.int .i64 0,.float .f64 0,.float .f64 0,.float .f64 0,.float .f64 0,.float .f64 0,.float .f64 0]) (t:=26) ?hr ?_;(case hd=>rfl);(case hg=>rfl);(case hr=>first|(go_simp;done)|(go_simp;rfl));intro gb124 hg w30 hbox hb;have n_:=J_ (below_step (hb_ HB) hb) (J_ (hbox) (J_ (bs_ hg HB) (Aside0.mk (bs_ hg HB))));clear HB;obtain ⟨HB,BK124,GW124,GE124⟩:=n_;clear hb hbox hg)|((with_reducible refine gate_callee (f:=40) rfl ?_);refine goesL_ (some 10) rfl rfl Try.func40 (by kernel_rfl) rfl #[.slice A0 l0.length c0] rfl am_ ?_;(with_reducible refine (tally_finite.calls k _ _ l0 false _ ?side1 ?side2 A2.out).mono ?_);(case side1=>repeat (first|exact (Kd.C_below HR0.out HB.out)|(with_reducible refine Kd.C_alloc ?_ _)|(with_reducible refine Kd.C_drewN ?_ _)|(with_reducible refine Kd.C_drew ?_)));(case side2=>exact HC0.out);rintro e w' ⟨rfl,⟨nd,rfl⟩⟩;refine ⟨_,rfl,?_⟩;obtain ⟨hcz31_0,hcz31_1,hcz31_2,hcz31_3,hcz31_4,hcz31_5,hcz31_6,hfz31_0,hfz31_1,hfz31_2,hfz31_3,hfz31_4,hfz31_5,hfz31_6⟩:=cf7_ BK124))
  refine bodyPost_ret (results_ct rfl _ _ gb124 26 #[.int .i64 0,.float .f64 0,.float .f64 0,.float .f64 0,.float .f64 0,.float .f64 0,.float .f64 0] (0,0) _ rfl (by (with_reducible repeat (first|refine blk_drewN ?_ _|refine blk_drew ?_|refine blk_alloc ?_ _));refine bp_ (cs:=#[.int .i64 0,.float .f64 0,.float .f64 0,.float .f64 0,.float .f64 0,.float .f64 0,.float .f64 0]) ?_ 6 _;refine bp_ (cs:=#[.int .i64 0,.float .f64 0,.float .f64 0,.float .f64 0,.float .f64 0,.float .f64 0,.float .f64 0]) ?_ 5 _;refine bp_ (cs:=#[.int .i64 0,.float .f64 0,.float .f64 0,.float .f64 0,.float .f64 0,.float .f64 0,.float .f64 0]) ?_ 4 _;refine bp_ (cs:=#[.int .i64 0,.float .f64 0,.float .f64 0,.float .f64 0,.float .f64 0,.float .f64 0,.float .f64 0]) ?_ 3 _;refine bp_ (cs:=#[.int .i64 0,.float .f64 0,.float .f64 0,.float .f64 0,.float .f64 0,.float .f64 0,.float .f64 0]) ?_ 2 _;refine bp_ (cs:=#[.int .i64 0,.float .f64 0,.float .f64 0,.float .f64 0,.float .f64 0,.float .f64 0,.float .f64 0]) ?_ 1 _;refine bp_ (cs:=#[.int .i64 0,.float .f64 0,.float .f64 0,.float .f64 0,.float .f64 0,.float .f64 0,.float .f64 0]) ?_ 0 _;(with_reducible repeat (first|refine blk_drewN ?_ _|refine blk_drew ?_|refine blk_alloc ?_ _));exact BK124.out) Try.underlying26 rfl (by kernel_rfl)) rfl ?_
  exact ⟨er_,(hb_ HB)⟩
end Go.Proofs.Ytijmdmnhbbcahaa.PTallyPuts
