-- Written by shrink.py, a program of this session: what the law needs of the print and its words. Lean checks it.
import Derived.Test.YtijmdmnhbbcahaaZPTallyTonesx0
import Derived.Test.YtijmdmnhbbcahaaZPTallyTonesx3
import Derived.Test.YtijmdmnhbbcahaaZPTallyTonesx5
import Derived.Test.YtijmdmnhbbcahaaZPTallyTonesx14
import Derived.Test.YtijmdmnhbbcahaaZPTallyTonesx15
import Derived.Test.YtijmdmnhbbcahaaZPTallyTonesx16
import Derived.Test.YtijmdmnhbbcahaaZPTallyTonesx19
import Derived.IntWalk
import Derived.WalkMore
import Derived.Deep.QuietTactic
import Derived.BigQuiet
import Derived.StillTailTactics
namespace Go.Proofs.Ytijmdmnhbbcahaa.PTallyTones
open Go.RowKit Go.Proofs.YtijmdmnhbbcahaaW.PrintWords Go.Proofs.YtijmdmnhbbcahaaW.PrintLast Go.Proofs.YtijmdmnhbbcahaaW.PrintMore
attribute [local go_sem] run_fadd run_fsub run_fmul run_fquo unary_fneg run_store_f64 run_store_c128 run_cadd
attribute [local go_sem] max2_int min2_int max_two min_two max_three min_three max_four min_four
set_option linter.unusedVariables false
set_option linter.unusedSimpArgs false
def tonesSame : List (Nat × Nat) → List (Nat × Nat) → Option Bool
 | [],[]=>some true
 | p :: ps,q :: qs=>(quarryref13_Same.f p.1 q.1).bind fun t=>if t = true then ((quarryref13_Same.f p.2 q.2).bind fun u=>if u = true then tonesSame ps qs else none) else none
 | _,_=>none
def quarrylaw31_TallyTones.f (k : Nat) (l0 : List Nat) : Option Bool:=(quarrykit_LentFloats.f k l0).bind fun big=>(tally_Tones.f k (big.take l0.length)).bind fun a=>(quarryref31_Tones.f k l0).bind fun b=>if a.2 = b.2 then ((quarrykit_KeptFloats.f k big l0).bind fun t=>if t = true then ((tonesSame a.1 b.1).bind fun s=>if s = true then quarrylaw31_awake.f else none) else none) else none
set_option maxHeartbeats 8000000 in
set_option maxRecDepth 100000 in
theorem quarrylaw31_TallyTones.calls (k : Nat) (A0 : Option Addr) (c0 : Nat) (l0 : List Nat) (r : Bool) (w : World) (hr0 : Kd.C Kd.f64 w A0 l0.length l0) (hc0 : l0.length ≤ c0) (h : quarrylaw31_TallyTones.f k l0 = some r) :
  Calls Try.prog 6 #[.slice A0 l0.length c0] w fun e w'=>e = .returned (.bool r) ∧ Below w.heap.size w w':=by
 have HR0:=Aside0.mk hr0
 clear hr0
 unfold quarrylaw31_TallyTones.f at h
 obtain ⟨big,a2,h⟩:=Option.bind_eq_some_iff.mp h
 have A2:=Aside0.mk a2
 clear a2
 obtain ⟨vis,hvis⟩ : ∃ v_ : List Nat,v_ = big.take l0.length:=⟨_,rfl⟩
 rw [← hvis] at h
 have HV:=Aside0.mk hvis
 clear hvis
 obtain ⟨⟨ps,r1⟩,a3,h⟩:=Option.bind_eq_some_iff.mp h
 obtain ⟨⟨qs,r2⟩,a4,h⟩:=Option.bind_eq_some_iff.mp h
 simp only at h
 have hrr : r1 = r2:=Classical.byContradiction fun g=>by rw [if_neg g] at h;cases h
 rw [if_pos hrr] at h
 subst hrr
 obtain ⟨t,a5,h⟩:=Option.bind_eq_some_iff.mp h
 have ht : t = true:=Classical.byContradiction fun g=>by rw [if_neg g] at h;cases h
 subst ht
 rw [if_pos rfl] at h
 obtain ⟨s,a6,h⟩:=Option.bind_eq_some_iff.mp h
 have hs : s = true:=Classical.byContradiction fun g=>by rw [if_neg g] at h;cases h
 subst hs
 rw [if_pos rfl] at h
 have A3:=Aside0.mk a3;have A4:=Aside0.mk a4;have A5:=Aside0.mk a5;have A6:=Aside0.mk a6;have A7:=Aside0.mk h
 clear a3 a4 a5 a6 h
 go_enter Try.func6,Try.ntmps6
 go_wp2_with fail
 refine (quarrykit_LentFloats.calls k A0 c0 l0 big vis HV.out _ HR0.out hc0 A2.out).mono ?_
 rintro e w1 ⟨A,c,rfl,ho1,hb1⟩
 have HO1:=Aside0.mk ho1;have HB1:=Aside0.mk hb1
 clear ho1 hb1
 go_wp2_with fail
 refine (tones_calls k A c vis ps r1 _ (vis_reads HO1.out HV.out).1 (vis_reads HO1.out HV.out).2 A3.out).mono ?_
 rintro e w2 ⟨p0,p1,p2,p3,rfl,rfl,hb2⟩
 have HO2:=Aside0.mk (Kd.R_below HO1.out hb2)
 have HB2:=Aside0.mk (below_step HB1.out hb2)
 clear hb2 HO1 HB1
 go_wp2_with (first|((with_reducible refine gate_dst (N:=4) rfl ?_);refine box_event ?hg (N:=4) ?hd (cs:=#[.complex .f64 0 0,.complex .f64 0 0,.complex .f64 0 0,.complex .f64 0 0]) (t:=41) ?hr ?_;(case hd=>rfl);(case hg=>rfl);(case hr=>first|(go_simp;done)|(go_simp;rfl));intro ga hg w3 hbox hb;have HO3:=Aside0.mk (Kd.R_below HO2.out hb);have GE3:=Aside0.mk ((by rw [hg];exact below_size HB2.out) : w.heap.size ≤ ga);have HB3:=Aside0.mk (below_step HB2.out hb);have BK3:=Aside0.mk hbox;clear hb hbox hg HO2 HB2;obtain ⟨z0,z1,z2,z3,fz0,fz1,fz2,fz3⟩:=cf4_ BK3))
 have HO4:=Aside0.mk (show Kd.R Kd.f64 24 ((((w3.setCell ⟨ga,0,none⟩ (.complex .f64 p0.1 p0.2)).setCell ⟨ga,1,none⟩ (.complex .f64 p1.1 p1.2)).setCell ⟨ga,2,none⟩ (.complex .f64 p2.1 p2.2)).setCell ⟨ga,3,none⟩ (.complex .f64 p3.1 p3.2)) w.heap.size (fun _=>True) (.slice A big.length c) big from Kd.R_mono (Kd.R_far (p:=⟨ga,3,none⟩) (Kd.R_far (p:=⟨ga,2,none⟩) (Kd.R_far (p:=⟨ga,1,none⟩) (Kd.R_far (p:=⟨ga,0,none⟩) (Kd.R_types HO3.out BK3.out (by decide)) (fun _ hk=>hk.2) (.complex .f64 p0.1 p0.2)) (fun _ hk=>hk.2) (.complex .f64 p1.1 p1.2)) (fun _ hk=>hk.2) (.complex .f64 p2.1 p2.2)) (fun _ hk=>hk.2) (.complex .f64 p3.1 p3.2)) (fun _ h_=>h_.1))
 have BK4:=Aside0.mk (show ((((w3.setCell ⟨ga,0,none⟩ (.complex .f64 p0.1 p0.2)).setCell ⟨ga,1,none⟩ (.complex .f64 p1.1 p1.2)).setCell ⟨ga,2,none⟩ (.complex .f64 p2.1 p2.2)).setCell ⟨ga,3,none⟩ (.complex .f64 p3.1 p3.2)).heap[ga]? = some (.cells #[.complex .f64 p0.1 p0.2,.complex .f64 p1.1 p1.2,.complex .f64 p2.1 p2.2,.complex .f64 p3.1 p3.2] 41 (0,0)) from blk_put (blk_put (blk_put (blk_put (BK3.out) 0 _ rfl) 1 _ rfl) 2 _ rfl) 3 _ rfl)
 have HB4:=Aside0.mk (show Below w.heap.size w ((((w3.setCell ⟨ga,0,none⟩ (.complex .f64 p0.1 p0.2)).setCell ⟨ga,1,none⟩ (.complex .f64 p1.1 p1.2)).setCell ⟨ga,2,none⟩ (.complex .f64 p2.1 p2.2)).setCell ⟨ga,3,none⟩ (.complex .f64 p3.1 p3.2)) from below_set (below_set (below_set (below_set (HB3.out) GE3.out) GE3.out) GE3.out) GE3.out)
 clear z0 z1 z2 z3 fz0 fz1 fz2 fz3 HO3 BK3 HB3
 obtain ⟨W4,hW4⟩ : ∃ W4,W4 = ((((w3.setCell ⟨ga,0,none⟩ (.complex .f64 p0.1 p0.2)).setCell ⟨ga,1,none⟩ (.complex .f64 p1.1 p1.2)).setCell ⟨ga,2,none⟩ (.complex .f64 p2.1 p2.2)).setCell ⟨ga,3,none⟩ (.complex .f64 p3.1 p3.2)):=⟨_,rfl⟩
 rw [← hW4] at HO4 BK4 HB4 ⊢
 clear hW4
 refine (rtones_calls k A0 c0 l0 qs r1 _ (Kd.C_below HR0.out HB4.out) hc0 A4.out).mono ?_
 rintro e w5 ⟨q0,q1,q2,q3,rfl,rfl,hb5⟩
 have HO5:=Aside0.mk (Kd.R_below HO4.out hb5)
 have BK5:=Aside0.mk (blk_below (g:=ga) (o:=.cells #[.complex .f64 p0.1 p0.2,.complex .f64 p1.1 p1.2,.complex .f64 p2.1 p2.2,.complex .f64 p3.1 p3.2] 41 (0,0)) BK4.out hb5)
 have HB5:=Aside0.mk (below_step HB4.out hb5)
 clear hb5 HO4 BK4 HB4
 go_wp2_with (first|((with_reducible refine gate_dst (N:=6) rfl ?_);refine box_event ?hg (N:=6) ?hd (cs:=#[.float .f64 0,.float .f64 0,.float .f64 0,.float .f64 0,.float .f64 0,.float .f64 0,.float .f64 0,.float .f64 0]) (t:=45) ?hr ?_;(case hd=>rfl);(case hg=>rfl);(case hr=>first|(go_simp;done)|(go_simp;rfl));intro gb hg w6 hbox hb;have HO6:=Aside0.mk (Kd.R_below HO5.out hb);have BA6:=Aside0.mk (blk_below (g:=ga) (o:=.cells #[.complex .f64 p0.1 p0.2,.complex .f64 p1.1 p1.2,.complex .f64 p2.1 p2.2,.complex .f64 p3.1 p3.2] 41 (0,0)) BK5.out hb);have GE6:=Aside0.mk ((by rw [hg];exact below_size HB5.out) : w.heap.size ≤ gb);have NB6:=Aside0.mk ((by rw [hg];exact Nat.ne_of_lt (blk_lt BK5.out)) : ga ≠ gb);have HB6:=Aside0.mk (below_step HB5.out hb);have BB6:=Aside0.mk hbox;clear hb hbox hg HO5 HB5 BK5;obtain ⟨z0,z1,z2,z3,z4,z5,z6,z7,fz0,fz1,fz2,fz3,fz4,fz5,fz6,fz7⟩:=cf8_ BB6))
 have HO7:=Aside0.mk (show Kd.R Kd.f64 24 ((((((((w6.setCell ⟨gb,0,none⟩ (.float .f64 q0.1)).setCell ⟨gb,1,none⟩ (.float .f64 q0.2)).setCell ⟨gb,2,none⟩ (.float .f64 q1.1)).setCell ⟨gb,3,none⟩ (.float .f64 q1.2)).setCell ⟨gb,4,none⟩ (.float .f64 q2.1)).setCell ⟨gb,5,none⟩ (.float .f64 q2.2)).setCell ⟨gb,6,none⟩ (.float .f64 q3.1)).setCell ⟨gb,7,none⟩ (.float .f64 q3.2)) w.heap.size (fun _=>True) (.slice A big.length c) big from Kd.R_mono (Kd.R_far (p:=⟨gb,7,none⟩) (Kd.R_far (p:=⟨gb,6,none⟩) (Kd.R_far (p:=⟨gb,5,none⟩) (Kd.R_far (p:=⟨gb,4,none⟩) (Kd.R_far (p:=⟨gb,3,none⟩) (Kd.R_far (p:=⟨gb,2,none⟩) (Kd.R_far (p:=⟨gb,1,none⟩) (Kd.R_far (p:=⟨gb,0,none⟩) (Kd.R_types HO6.out BB6.out (by decide)) (fun _ hk=>hk.2) (.float .f64 q0.1)) (fun _ hk=>hk.2) (.float .f64 q0.2)) (fun _ hk=>hk.2) (.float .f64 q1.1)) (fun _ hk=>hk.2) (.float .f64 q1.2)) (fun _ hk=>hk.2) (.float .f64 q2.1)) (fun _ hk=>hk.2) (.float .f64 q2.2)) (fun _ hk=>hk.2) (.float .f64 q3.1)) (fun _ hk=>hk.2) (.float .f64 q3.2)) (fun _ h_=>h_.1))
 have BB7:=Aside0.mk (show ((((((((w6.setCell ⟨gb,0,none⟩ (.float .f64 q0.1)).setCell ⟨gb,1,none⟩ (.float .f64 q0.2)).setCell ⟨gb,2,none⟩ (.float .f64 q1.1)).setCell ⟨gb,3,none⟩ (.float .f64 q1.2)).setCell ⟨gb,4,none⟩ (.float .f64 q2.1)).setCell ⟨gb,5,none⟩ (.float .f64 q2.2)).setCell ⟨gb,6,none⟩ (.float .f64 q3.1)).setCell ⟨gb,7,none⟩ (.float .f64 q3.2)).heap[gb]? = some (.cells #[.float .f64 q0.1,.float .f64 q0.2,.float .f64 q1.1,.float .f64 q1.2,.float .f64 q2.1,.float .f64 q2.2,.float .f64 q3.1,.float .f64 q3.2] 45 (0,0)) from blk_put (blk_put (blk_put (blk_put (blk_put (blk_put (blk_put (blk_put (BB6.out) 0 _ rfl) 1 _ rfl) 2 _ rfl) 3 _ rfl) 4 _ rfl) 5 _ rfl) 6 _ rfl) 7 _ rfl)
 have BA7:=Aside0.mk (show ((((((((w6.setCell ⟨gb,0,none⟩ (.float .f64 q0.1)).setCell ⟨gb,1,none⟩ (.float .f64 q0.2)).setCell ⟨gb,2,none⟩ (.float .f64 q1.1)).setCell ⟨gb,3,none⟩ (.float .f64 q1.2)).setCell ⟨gb,4,none⟩ (.float .f64 q2.1)).setCell ⟨gb,5,none⟩ (.float .f64 q2.2)).setCell ⟨gb,6,none⟩ (.float .f64 q3.1)).setCell ⟨gb,7,none⟩ (.float .f64 q3.2)).heap[ga]? = some (.cells #[.complex .f64 p0.1 p0.2,.complex .f64 p1.1 p1.2,.complex .f64 p2.1 p2.2,.complex .f64 p3.1 p3.2] 41 (0,0)) from blk_far (blk_far (blk_far (blk_far (blk_far (blk_far (blk_far (blk_far (BA6.out) (p:=⟨gb,0,none⟩) NB6.out _) (p:=⟨gb,1,none⟩) NB6.out _) (p:=⟨gb,2,none⟩) NB6.out _) (p:=⟨gb,3,none⟩) NB6.out _) (p:=⟨gb,4,none⟩) NB6.out _) (p:=⟨gb,5,none⟩) NB6.out _) (p:=⟨gb,6,none⟩) NB6.out _) (p:=⟨gb,7,none⟩) NB6.out _)
 have HB7:=Aside0.mk (show Below w.heap.size w ((((((((w6.setCell ⟨gb,0,none⟩ (.float .f64 q0.1)).setCell ⟨gb,1,none⟩ (.float .f64 q0.2)).setCell ⟨gb,2,none⟩ (.float .f64 q1.1)).setCell ⟨gb,3,none⟩ (.float .f64 q1.2)).setCell ⟨gb,4,none⟩ (.float .f64 q2.1)).setCell ⟨gb,5,none⟩ (.float .f64 q2.2)).setCell ⟨gb,6,none⟩ (.float .f64 q3.1)).setCell ⟨gb,7,none⟩ (.float .f64 q3.2)) from below_set (below_set (below_set (below_set (below_set (below_set (below_set (below_set (HB6.out) GE6.out) GE6.out) GE6.out) GE6.out) GE6.out) GE6.out) GE6.out) GE6.out)
 clear z0 z1 z2 z3 z4 z5 z6 z7 fz0 fz1 fz2 fz3 fz4 fz5 fz6 fz7 HO6 BB6 BA6 HB6
 obtain ⟨W7,hW7⟩ : ∃ W7,W7 = ((((((((w6.setCell ⟨gb,0,none⟩ (.float .f64 q0.1)).setCell ⟨gb,1,none⟩ (.float .f64 q0.2)).setCell ⟨gb,2,none⟩ (.float .f64 q1.1)).setCell ⟨gb,3,none⟩ (.float .f64 q1.2)).setCell ⟨gb,4,none⟩ (.float .f64 q2.1)).setCell ⟨gb,5,none⟩ (.float .f64 q2.2)).setCell ⟨gb,6,none⟩ (.float .f64 q3.1)).setCell ⟨gb,7,none⟩ (.float .f64 q3.2)):=⟨_,rfl⟩
 rw [← hW7] at HO7 BB7 BA7 HB7 ⊢
 clear hW7
 refine (quarrykit_KeptFloats.calls k A c vis.length big A0 c0 l0 true _ (vis_len A5.out HV.out) (Kd.R_reads' HO7.out).2.2 (Kd.R_reads' HO7.out).2.1 (Kd.C_below HR0.out HB7.out) hc0 A5.out).mono ?_
 rintro e w8 ⟨rfl,hb8⟩
 have BB8:=Aside0.mk (blk_below (g:=gb) (o:=.cells #[.float .f64 q0.1,.float .f64 q0.2,.float .f64 q1.1,.float .f64 q1.2,.float .f64 q2.1,.float .f64 q2.2,.float .f64 q3.1,.float .f64 q3.2] 45 (0,0)) BB7.out hb8)
 have BA8:=Aside0.mk (blk_below (g:=ga) (o:=.cells #[.complex .f64 p0.1 p0.2,.complex .f64 p1.1 p1.2,.complex .f64 p2.1 p2.2,.complex .f64 p3.1 p3.2] 41 (0,0)) BA7.out hb8)
 have HB8:=Aside0.mk (below_step HB7.out hb8)
 clear hb8 BB7 BA7 HB7 HO7
 have S_:=A6.out
 have s01 : quarryref13_Same.f p0.1 q0.1 = some true:=by
  rw [tonesSame] at S_
  obtain ⟨t_,e_,S_⟩:=Option.bind_eq_some_iff.mp S_
  cases t_ with
  | true=>exact e_
  | false=>rw [if_neg (by decide)] at S_;cases S_
 rw [tonesSame,s01,Option.bind_some,if_pos rfl] at S_
 have s02 : quarryref13_Same.f p0.2 q0.2 = some true:=by
  obtain ⟨t_,e_,S_⟩:=Option.bind_eq_some_iff.mp S_
  cases t_ with
  | true=>exact e_
  | false=>rw [if_neg (by decide)] at S_;cases S_
 rw [s02,Option.bind_some,if_pos rfl] at S_
 have T01:=Aside0.mk s01;have T02:=Aside0.mk s02
 clear s01 s02
 have s11 : quarryref13_Same.f p1.1 q1.1 = some true:=by
  rw [tonesSame] at S_
  obtain ⟨t_,e_,S_⟩:=Option.bind_eq_some_iff.mp S_
  cases t_ with
  | true=>exact e_
  | false=>rw [if_neg (by decide)] at S_;cases S_
 rw [tonesSame,s11,Option.bind_some,if_pos rfl] at S_
 have s12 : quarryref13_Same.f p1.2 q1.2 = some true:=by
  obtain ⟨t_,e_,S_⟩:=Option.bind_eq_some_iff.mp S_
  cases t_ with
  | true=>exact e_
  | false=>rw [if_neg (by decide)] at S_;cases S_
 rw [s12,Option.bind_some,if_pos rfl] at S_
 have T11:=Aside0.mk s11;have T12:=Aside0.mk s12
 clear s11 s12
 have s21 : quarryref13_Same.f p2.1 q2.1 = some true:=by
  rw [tonesSame] at S_
  obtain ⟨t_,e_,S_⟩:=Option.bind_eq_some_iff.mp S_
  cases t_ with
  | true=>exact e_
  | false=>rw [if_neg (by decide)] at S_;cases S_
 rw [tonesSame,s21,Option.bind_some,if_pos rfl] at S_
 have s22 : quarryref13_Same.f p2.2 q2.2 = some true:=by
  obtain ⟨t_,e_,S_⟩:=Option.bind_eq_some_iff.mp S_
  cases t_ with
  | true=>exact e_
  | false=>rw [if_neg (by decide)] at S_;cases S_
 rw [s22,Option.bind_some,if_pos rfl] at S_
 have T21:=Aside0.mk s21;have T22:=Aside0.mk s22
 clear s21 s22
 have s31 : quarryref13_Same.f p3.1 q3.1 = some true:=by
  rw [tonesSame] at S_
  obtain ⟨t_,e_,S_⟩:=Option.bind_eq_some_iff.mp S_
  cases t_ with
  | true=>exact e_
  | false=>rw [if_neg (by decide)] at S_;cases S_
 rw [tonesSame,s31,Option.bind_some,if_pos rfl] at S_
 have s32 : quarryref13_Same.f p3.2 q3.2 = some true:=by
  obtain ⟨t_,e_,S_⟩:=Option.bind_eq_some_iff.mp S_
  cases t_ with
  | true=>exact e_
  | false=>rw [if_neg (by decide)] at S_;cases S_
 rw [s32,Option.bind_some,if_pos rfl] at S_
 have T31:=Aside0.mk s31;have T32:=Aside0.mk s32
 clear s31 s32
 clear S_
 go_wp2_with fail
 go_loopw [8] (fun i wr=>∃ n : Nat,n ≤ 4 ∧ i = .int .i64 n ∧ wr.heap[ga]? = some (.cells #[.complex .f64 p0.1 p0.2,.complex .f64 p1.1 p1.2,.complex .f64 p2.1 p2.2,.complex .f64 p3.1 p3.2] 41 (0,0)) ∧ wr.heap[gb]? = some (.cells #[.float .f64 q0.1,.float .f64 q0.2,.float .f64 q1.1,.float .f64 q1.2,.float .f64 q2.1,.float .f64 q2.2,.float .f64 q3.1,.float .f64 q3.2] 45 (0,0)) ∧ Below w.heap.size w wr) (fun i _=>4 - (intOf i).toNat)
 case atStart=>exact ⟨0,by omega,by go_num,BA8.out,BB8.out,HB8.out⟩
 case round =>
  obtain ⟨n,hn,hi,hA,hB,hW⟩:=hrel
  have A9:=Aside0.mk hA;have B9:=Aside0.mk hB;have W9:=Aside0.mk hW
  clear hA hB hW BA8 BB8 HB8
  obtain ⟨g0,g1,g2,g3,fg0,fg1,fg2,fg3⟩:=cf4_ A9
  obtain ⟨z0,z1,z2,z3,z4,z5,z6,z7,fz0,fz1,fz2,fz3,fz4,fz5,fz6,fz7⟩:=cf8_ B9
  have hcs : n = 0 ∨ n = 1 ∨ n = 2 ∨ n = 3 ∨ n = 4:=by omega
  rcases hcs with rfl|rfl|rfl|rfl|rfl
  ·have hi':=hi.trans (show Value.int .i64 ((0 : Nat) : Int) = .int .i64 0 from rfl)
   clear hi hn
   subst hi'
   go_upto_region 9 with fail
   go_quiet (first|(go_at_call 22;(with_reducible refine Calls.quiet_of (v:=.bool true) ?_);(with_reducible refine (quarryref13_Same.calls p0.1 q0.1 true _ T01.out).mono ?_);intro e_ w_ hh_;exact ⟨hh_.1,hh_.2.out⟩)|(go_at_call 22;(with_reducible refine Calls.quiet_of (v:=.bool true) ?_);(with_reducible refine (quarryref13_Same.calls p0.2 q0.2 true _ T02.out).mono ?_);intro e_ w_ hh_;exact ⟨hh_.1,hh_.2.out⟩))
   go_wp2
   exact ⟨⟨1,by omega,by first|rfl|go_num,blk_drewN A9.out nq,blk_drewN B9.out nq,pw_below_drewN W9.out nq⟩,by simp [intOf]⟩
  ·have hi':=hi.trans (show Value.int .i64 ((1 : Nat) : Int) = .int .i64 1 from rfl)
   clear hi hn
   subst hi'
   go_upto_region 9 with fail
   go_quiet (first|(go_at_call 22;(with_reducible refine Calls.quiet_of (v:=.bool true) ?_);(with_reducible refine (quarryref13_Same.calls p1.1 q1.1 true _ T11.out).mono ?_);intro e_ w_ hh_;exact ⟨hh_.1,hh_.2.out⟩)|(go_at_call 22;(with_reducible refine Calls.quiet_of (v:=.bool true) ?_);(with_reducible refine (quarryref13_Same.calls p1.2 q1.2 true _ T12.out).mono ?_);intro e_ w_ hh_;exact ⟨hh_.1,hh_.2.out⟩))
   go_wp2
   exact ⟨⟨2,by omega,by first|rfl|go_num,blk_drewN A9.out nq,blk_drewN B9.out nq,pw_below_drewN W9.out nq⟩,by simp [intOf]⟩
  ·have hi':=hi.trans (show Value.int .i64 ((2 : Nat) : Int) = .int .i64 2 from rfl)
   clear hi hn
   subst hi'
   go_upto_region 9 with fail
   go_quiet (first|(go_at_call 22;(with_reducible refine Calls.quiet_of (v:=.bool true) ?_);(with_reducible refine (quarryref13_Same.calls p2.1 q2.1 true _ T21.out).mono ?_);intro e_ w_ hh_;exact ⟨hh_.1,hh_.2.out⟩)|(go_at_call 22;(with_reducible refine Calls.quiet_of (v:=.bool true) ?_);(with_reducible refine (quarryref13_Same.calls p2.2 q2.2 true _ T22.out).mono ?_);intro e_ w_ hh_;exact ⟨hh_.1,hh_.2.out⟩))
   go_wp2
   exact ⟨⟨3,by omega,by first|rfl|go_num,blk_drewN A9.out nq,blk_drewN B9.out nq,pw_below_drewN W9.out nq⟩,by simp [intOf]⟩
  ·have hi':=hi.trans (show Value.int .i64 ((3 : Nat) : Int) = .int .i64 3 from rfl)
   clear hi hn
   subst hi'
   go_upto_region 9 with fail
   go_quiet (first|(go_at_call 22;(with_reducible refine Calls.quiet_of (v:=.bool true) ?_);(with_reducible refine (quarryref13_Same.calls p3.1 q3.1 true _ T31.out).mono ?_);intro e_ w_ hh_;exact ⟨hh_.1,hh_.2.out⟩)|(go_at_call 22;(with_reducible refine Calls.quiet_of (v:=.bool true) ?_);(with_reducible refine (quarryref13_Same.calls p3.2 q3.2 true _ T32.out).mono ?_);intro e_ w_ hh_;exact ⟨hh_.1,hh_.2.out⟩))
   go_wp2
   exact ⟨⟨4,by omega,by first|rfl|go_num,blk_drewN A9.out nq,blk_drewN B9.out nq,pw_below_drewN W9.out nq⟩,by simp [intOf]⟩
  ·have hi':=hi.trans (show Value.int .i64 ((4 : Nat) : Int) = .int .i64 4 from rfl)
   clear hi hn
   subst hi'
   go_wp2_with fail
   refine (quarrylaw31_awake.calls r _ A7.out).mono ?_
   rintro e w9 ⟨rfl,hb9⟩
   have HB9:=Aside0.mk (below_step W9.out hb9)
   clear hb9
   go_wp2
   go_ret
   exact ⟨rfl,HB9.out⟩
end Go.Proofs.Ytijmdmnhbbcahaa.PTallyTones
