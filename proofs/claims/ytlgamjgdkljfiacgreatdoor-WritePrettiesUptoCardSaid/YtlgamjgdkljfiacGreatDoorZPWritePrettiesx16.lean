-- Written by shrink.py, a program of this session: what the law needs of the print and its words. Lean checks it.
import Derived.Test.YtlgamjgdkljfiacGreatDoorZPWritePrettiesx0
import Derived.Test.YtlgamjgdkljfiacGreatDoorZPWritePrettiesx15
import Derived.Test.YtlgamjgdkljfiacGreatDoorZWritePrettiesW1
namespace Go.Proofs.YtlgamjgdkljfiacGreatDoor.PWritePretties
open Go.RowKit Go.Proofs.YtlgamjgdkljfiacGreatDoorW.PrintWords Go.Proofs.YtlgamjgdkljfiacGreatDoorW.PrintLast Go.Proofs.YtlgamjgdkljfiacGreatDoorW.PrintMore
attribute [local go_sem] max2_int min2_int max_two min_two max_three min_three max_four min_four
set_option linter.unusedVariables false
set_option linter.unusedSimpArgs false
attribute [local go_sem] str_gtr str_leq str_geq
def cmp_Or_string.l0 : Nat → ByteArray → List ByteArray → Int → Int → Option (ByteArray)
 | 0,_,_,_,_=>none
 | k + 1,x3,x6,x7,x8=>if x8 < x7 then (if 0 ≤ x8 then (if x8 < (x6.length : Int) then (if (rdOf ByteArray.empty x6 x8).toList = x3.toList then (cmp_Or_string.l0 k x3 x6 x7 (wrap64 (x8 + 1))) else (some (rdOf ByteArray.empty x6 x8))) else (none)) else (none)) else (some x3)
def cmp_Or_string.f (k : Nat) (l0 : List ByteArray) : Option (ByteArray):=cmp_Or_string.l0 k (⟨#[]⟩ : ByteArray) l0 (l0.length : Int) 0
theorem cmp_Or_string.mono_l : ∀ k,(∀ y0 y1 y2 y3,LeO (cmp_Or_string.l0 k y0 y1 y2 y3) (cmp_Or_string.l0 (k + 1) y0 y1 y2 y3))
 | 0=>fun _ _ _ _ r h=>by simp [cmp_Or_string.l0] at h
 | k + 1=>by
  have ih0:=cmp_Or_string.mono_l k;intro y0 y1 y2 y3
  unfold cmp_Or_string.l0
  repeat' first
  | (with_reducible exact ih0 _ _ _ _)
  | (with_reducible exact LeO.refl _)
  | (with_reducible exact LeO.none _)
  | (with_reducible refine LeO.ite ?_ ?_)
  | (with_reducible refine LeO.bind ?_ (fun _=>?_))
  | exact ih0 _ _ _ _
  | exact LeO.none _
  | refine LeO.ite ?_ ?_
  | refine LeO.bind ?_ (fun _=>?_)
theorem cmp_Or_string.mono : ∀ a0 k,LeO (cmp_Or_string.f k a0) (cmp_Or_string.f (k + 1) a0):=by
 intro a0 k;have ih0:=cmp_Or_string.mono_l k
 unfold cmp_Or_string.f
 repeat' first
   | (with_reducible exact ih0 _ _ _ _)
   | (with_reducible exact LeO.refl _)
   | (with_reducible exact LeO.none _)
   | (with_reducible refine LeO.ite ?_ ?_)
   | (with_reducible refine LeO.bind ?_ (fun _=>?_))
   | exact ih0 _ _ _ _
   | exact LeO.none _
   | refine LeO.ite ?_ ?_
   | refine LeO.bind ?_ (fun _=>?_)
set_option maxHeartbeats 8000000 in
set_option maxRecDepth 100000 in
theorem cmp_Or_string.calls (k : Nat) (A0 : Option Addr) (c0 : Nat) (l0 : List ByteArray) (r : ByteArray) (w : World) (hr0 : Kd.C Kd.string w A0 l0.length l0) (hc0 : l0.length ≤ c0) (h : cmp_Or_string.f k l0 = some r) :
  Calls Tryz.prog 61 #[.slice A0 l0.length c0] w fun e w'=>e = .returned (.string r) ∧ Drawn0 w w':=by
 have HR0:=Aside0.mk hr0;have HC0:=Aside0.mk hc0;clear hr0 hc0;have H : (cmp_Or_string.l0 k (⟨#[]⟩ : ByteArray) l0 (l0.length : Int) 0) = some r:=h;clear h;have H':=Aside0.mk H;clear H;go_enter Tryz.func61,Tryz.ntmps61;go_wp2
 go_loopg [8] k (fun kq v8 w'=>∃ (x8_1 : Int),v8 = .int .i64 x8_1 ∧ Aside0 (cmp_Or_string.l0 kq (⟨#[]⟩ : ByteArray) l0 (l0.length : Int) x8_1 = some r) ∧ Aside0 (kq ≤ k) ∧ Drawn0 w w')
 case atStart=>exact ⟨(0),rr_,H',⟨Nat.le_refl _⟩,by repeat (first|exact Drawn0.refl _|apply Drawn0.step)⟩
 case round =>
  clear H';obtain ⟨x8_1,rfl,HA,HK1,⟨m1,rfl⟩⟩:=hrel
  cases gk with
  | zero=>exact absurd HA.out (by simp [cmp_Or_string.l0])
  | succ k1 =>
   have H:=HA.out;clear HA
   simp only [cmp_Or_string.l0] at H
   by_cases c2 : x8_1 < (l0.length : Int)
   ·rw [if_pos c2] at H
    have c2b0 : decide (x8_1 < (l0.length : Int)) = true:=decide_eq_true c2;clear c2
    by_cases c3 : 0 ≤ x8_1
    ·rw [if_pos c3] at H
     have c3b0 : decide (0 ≤ x8_1) = true:=decide_eq_true c3;clear c3
     by_cases c4 : x8_1 < (l0.length : Int)
     ·rw [if_pos c4] at H
      have c4b0 : decide (x8_1 < (l0.length : Int)) = true:=decide_eq_true c4;clear c4
      by_cases c5 : (rdOf ByteArray.empty l0 x8_1).toList = (⟨#[]⟩ : ByteArray).toList
      ·rw [if_pos c5] at H
       have c5b0 : ((rdOf ByteArray.empty l0 x8_1).toList == (⟨#[]⟩ : ByteArray).toList) = true:=beq_iff_eq.mpr c5
       try have c5b0n : ((rdOf ByteArray.empty l0 x8_1).toList.isEmpty) = true:=by (have h_:=c5b0;simpa using h_)
       have c5b1 : ((rdOf ByteArray.empty l0 x8_1).toList != (⟨#[]⟩ : ByteArray).toList) = false:=bne_eq_false_iff_eq.mpr c5
       try have c5b1n : ((rdOf ByteArray.empty l0 x8_1).toList.isEmpty) = true:=by (have h_:=c5b1;simpa using h_)
       clear c5;have H':=Aside0.mk H;clear H;have p217 : 0 ≤ (x8_1 : Int):=of_decide_eq_true aa_;have q217 : x8_1 < (l0.length : Int):=of_decide_eq_true aa_;obtain ⟨ad217,e217,hx217_0⟩:=Kd.at_string HR0.out x8_1 p217 q217;cases e217;replace p217:=eq_true p217;replace q217:=eq_true q217;go_wp2
       go_roundg k1
       case measure=>have:=HK1.out;omega
       case rel=>exact ⟨(wrap64 (x8_1 + 1)),rr_,(by first|exact H'|(subst_vars;exact H')),⟨by have:=HK1.out;omega⟩,by repeat (first|exact Drawn0.refl _|apply Drawn0.step)⟩
      rw [if_neg c5] at H
      have c5b0 : ((rdOf ByteArray.empty l0 x8_1).toList == (⟨#[]⟩ : ByteArray).toList) = false:=beq_eq_false_iff_ne.mpr c5
      try have c5b0n : ((rdOf ByteArray.empty l0 x8_1).toList.isEmpty) = false:=by (have h_:=c5b0;simpa using h_)
      have c5b1 : ((rdOf ByteArray.empty l0 x8_1).toList != (⟨#[]⟩ : ByteArray).toList) = true:=bne_iff_ne.mpr c5
      try have c5b1n : ((rdOf ByteArray.empty l0 x8_1).toList.isEmpty) = false:=by (have h_:=c5b1;simpa using h_)
      obtain rfl:=Option.some.inj H;have p217 : 0 ≤ (x8_1 : Int):=of_decide_eq_true aa_;have q217 : x8_1 < (l0.length : Int):=of_decide_eq_true aa_;obtain ⟨ad217,e217,hx217_0⟩:=Kd.at_string HR0.out x8_1 p217 q217;cases e217;replace p217:=eq_true p217;replace q217:=eq_true q217;go_wp2
      go_ret;exact ⟨by first|rfl|(simp;done)|(simp [*];done),by repeat (first|exact Drawn0.refl _|apply Drawn0.step)⟩
     rw [if_neg c4] at H
     exact absurd H (by simp)
    rw [if_neg c3] at H
    exact absurd H (by simp)
   rw [if_neg c2] at H
   have c2b0 : decide (x8_1 < (l0.length : Int)) = false:=decide_eq_false c2;clear c2;obtain rfl:=Option.some.inj H;go_wp2
   go_ret;exact ⟨by first|rfl|(simp;done)|(simp [*];done),by repeat (first|exact Drawn0.refl _|apply Drawn0.step)⟩
def decimal_Text.f (k : Nat) (a0_0 : Bool) (a0_1 : ByteArray) (a0_2 : Int) : Option (ByteArray × Int):=(decimal_Formed.f k a0_0 a0_1 a0_2).bind fun t235=>(if t235 = true then ((cmp_Or_string.f k (([a0_1,(⟨#[48]⟩ : ByteArray)] : List ByteArray))).bind fun t239=>(if a0_0 = true then (if 1 + t239.size ≤ 9223372036854775807 then (if a0_2 = 0 then (some ((⟨#[45]⟩ : ByteArray) ++ t239,0)) else (none)) else (none)) else (if a0_2 = 0 then (some (t239,0)) else (none)))) else (some ((⟨#[]⟩ : ByteArray),1)))
theorem decimal_Text.mono : ∀ a0 a1 a2 k,LeO (decimal_Text.f k a0 a1 a2) (decimal_Text.f (k + 1) a0 a1 a2):=by
 intro a0 a1 a2 k
 unfold decimal_Text.f
 repeat' first
   | (with_reducible exact cmp_Or_string.mono _ _)
   | (with_reducible exact decimal_Formed.mono _ _ _ _)
   | (with_reducible exact LeO.refl _)
   | (with_reducible exact LeO.none _)
   | (with_reducible refine LeO.ite ?_ ?_)
   | (with_reducible refine LeO.bind ?_ (fun _=>?_))
   | exact LeO.none _
   | refine LeO.ite ?_ ?_
   | refine LeO.bind ?_ (fun _=>?_)
set_option maxHeartbeats 8000000 in
set_option maxRecDepth 100000 in
theorem decimal_Text.calls (k : Nat) (a0_0 : Bool) (a0_1 : ByteArray) (a0_2 : Int) (r1 : ByteArray) (r2 : Int) (w : World) (h : decimal_Text.f k a0_0 a0_1 a0_2 = some (r1,r2)) :
  Calls Tryz.prog 45 #[.agg #[.bool a0_0,.string a0_1,.int .i64 a0_2]] w fun e w'=>e = .returned (.tuple #[.string r1,.int .i64 r2]) ∧ Below w.heap.size w w':=by
 have hu81:=Tryz.underlying81;have HB:=Aside0.mk (Below.refl w.heap.size w);have H : ((decimal_Formed.f k a0_0 a0_1 a0_2).bind fun t235=>(if t235 = true then ((cmp_Or_string.f k (([a0_1,(⟨#[48]⟩ : ByteArray)] : List ByteArray))).bind fun t239=>(if a0_0 = true then (if 1 + t239.size ≤ 9223372036854775807 then (if a0_2 = 0 then (some ((⟨#[45]⟩ : ByteArray) ++ t239,0)) else (none)) else (none)) else (if a0_2 = 0 then (some (t239,0)) else (none)))) else (some ((⟨#[]⟩ : ByteArray),1)))) = some (r1,r2):=h;clear h;replace H:=Option.bind_eq_some_iff.mp H;obtain ⟨t235,A20,H⟩:=H;replace H : (if t235 = true then ((cmp_Or_string.f k (([a0_1,(⟨#[48]⟩ : ByteArray)] : List ByteArray))).bind fun t239=>(if a0_0 = true then (if 1 + t239.size ≤ 9223372036854775807 then (if a0_2 = 0 then (some ((⟨#[45]⟩ : ByteArray) ++ t239,0)) else (none)) else (none)) else (if a0_2 = 0 then (some (t239,0)) else (none)))) else (some ((⟨#[]⟩ : ByteArray),1))) = some (r1,r2):=H;have A2:=Aside0.mk A20;clear A20
 by_cases c3 : t235 = true
 ·subst c3
  have H1 : ((cmp_Or_string.f k (([a0_1,(⟨#[48]⟩ : ByteArray)] : List ByteArray))).bind fun t239=>(if a0_0 = true then (if 1 + t239.size ≤ 9223372036854775807 then (if a0_2 = 0 then (some ((⟨#[45]⟩ : ByteArray) ++ t239,0)) else (none)) else (none)) else (if a0_2 = 0 then (some (t239,0)) else (none)))) = some (r1,r2):=by rw [if_pos rfl] at H;exact H
  clear H;have H:=H1;clear H1
  obtain ⟨y236,hy236⟩ : ∃ y_ : List ByteArray,y_ = (([a0_1,(⟨#[48]⟩ : ByteArray)] : List ByteArray)):=⟨_,rfl⟩
  replace H : ((cmp_Or_string.f k y236).bind fun t239=>(if a0_0 = true then (if 1 + t239.size ≤ 9223372036854775807 then (if a0_2 = 0 then (some ((⟨#[45]⟩ : ByteArray) ++ t239,0)) else (none)) else (none)) else (if a0_2 = 0 then (some (t239,0)) else (none)))) = some (r1,r2):=by first|(rw [hy236];with_reducible exact H)|(have H2_:=(Option.bind_some _ _).symm.trans H;rw [hy236];with_reducible exact H2_)|(have H2_:=(Option.bind_some _ _).symm.trans H;with_reducible exact H2_)|with_reducible exact H|(rw [hy236];exact H)|exact H
  have Ny236:=Aside0.mk hy236;clear hy236;replace H:=Option.bind_eq_some_iff.mp H;obtain ⟨t239,A40,H⟩:=H;replace H : (if a0_0 = true then (if 1 + t239.size ≤ 9223372036854775807 then (if a0_2 = 0 then (some ((⟨#[45]⟩ : ByteArray) ++ t239,0)) else (none)) else (none)) else (if a0_2 = 0 then (some (t239,0)) else (none))) = some (r1,r2):=H;have A4:=Aside0.mk A40;clear A40
  by_cases c5 : a0_0 = true
  ·subst c5
   have H1 : (if 1 + t239.size ≤ 9223372036854775807 then (if a0_2 = 0 then (some ((⟨#[45]⟩ : ByteArray) ++ t239,0)) else (none)) else (none)) = some (r1,r2):=by rw [if_pos rfl] at H;exact H
   clear H;have H:=H1;clear H1
   by_cases c6 : 1 + t239.size ≤ 9223372036854775807
   ·rw [if_pos c6] at H
    have c6b0:=eq_true c6;have c6b1 : decide (1 + t239.size ≤ 9223372036854775807) = true:=decide_eq_true c6
    try have c6b2 : (9223372036854775807 < 1 + t239.size) = False:=eq_false (Nat.not_lt.2 c6)
    by_cases c7 : a0_2 = 0
    ·rw [if_pos c7] at H
     have c7b0 : (a0_2 == 0) = true:=beq_iff_eq.mpr c7;have c7b1 : (a0_2 != 0) = false:=bne_eq_false_iff_eq.mpr c7;clear c7
     simp only [Option.some.injEq,Prod.mk.injEq] at H
     obtain ⟨rfl,rfl⟩:=H;go_enter Tryz.func45,Tryz.ntmps45
     go_wp2_with (first|((with_reducible refine gate_dst (N:=1) rfl ?_);refine box_event ?hg (N:=1) ?hd (cs:=#[.bool true,.string a0_1,.int .i64 a0_2]) (t:=81) ?hr ?_;(case hd=>rfl);(case hg=>rfl);(case hr=>first|(go_simp;done)|(go_simp;rfl));intro gb234 hg w8 hbox hb;have n_:=J_ (below_step (hb_ HB) hb) (J_ (hbox) (J_ (bs_ hg HB) (Aside0.mk (bs_ hg HB))));clear HB;obtain ⟨HB,BK234,GW234,GE234⟩:=n_;clear hb hbox hg;obtain ⟨hcz9_0,hcz9_1,hcz9_2,hfz9_0,hfz9_1,hfz9_2⟩:=cf3_ BK234)|((with_reducible refine gate_callee (f:=60) rfl ?_);refine goesL_ (some 6) rfl rfl Tryz.func60 (by kernel_rfl) rfl #[.agg #[.bool true,.string a0_1,.int .i64 a0_2]] rfl am_ ?_;(with_reducible refine (decimal_Formed.calls k true a0_1 a0_2 true _ A2.out).mono ?_);rintro e w10 ⟨rfl,hb⟩;refine ⟨_,rfl,?_⟩;have n_:=J_ (bkb_ BK234 hb) (Aside0.mk (below_step (hb_ HB) hb));clear BK234 HB;obtain ⟨BK234,HB⟩:=n_;(try clear hb);(try clear hb2);(try clear hk);(try clear hi);obtain ⟨hcz11_0,hcz11_1,hcz11_2,hfz11_0,hfz11_1,hfz11_2⟩:=cf3_ BK234)|((with_reducible refine gate_dst (N:=10) rfl ?_);refine Kd.R_lit Kd.string _ 9 ?hg (N:=10) ?hd (xs:=([a0_1,(⟨#[48]⟩ : ByteArray)] : List ByteArray)) (inner:=[.string a0_1,.string (⟨#[48]⟩ : ByteArray)]) (ok:=fun _=>True) (okp:=fun _=>True) ?hr ?hp (fun _ hk=>hk) trivial (Below.refl _ _) (Nat.le_refl _) (by simp) ?_;(case hd=>rfl);(case hg=>rfl);(case hr=>first|(go_simp;done)|(go_simp;rfl));(case hp=>exact (Reps.one (show Kd.M Kd.string _ _ _ a0_1 [.string a0_1] from rfl) (Reps.one (show Kd.M Kd.string _ _ _ (⟨#[48]⟩ : ByteArray) [.string (⟨#[48]⟩ : ByteArray)] from rfl) (Reps.none _ _))));intro v237 w12 ho13 hb hg_ hnew_;clear hg_ hnew_;(first|rw [← Ny236.out] at ho13|(simp only [Int.reduceToNat] at ho13;rw [← Ny236.out] at ho13));have n_:=J_ (Kd.R_lower ho13 (below_size (hb_ HB))) (J_ (bkb_ BK234 hb) (Aside0.mk (below_step (hb_ HB) hb)));clear BK234 HB;obtain ⟨HO238,BK234,HB⟩:=n_;clear hb ho13;obtain ⟨Ao14,co14,eo14⟩:=Kd.R_slice HO238.out;subst eo14)|((with_reducible refine gate_callee (f:=61) rfl ?_);refine goesL_ (some 11) rfl rfl Tryz.func61 (by kernel_rfl) rfl #[.slice Ao14 y236.length co14] rfl am_ ?_;(with_reducible refine (cmp_Or_string.calls k _ _ y236 t239 _ ?side1 ?side2 A4.out).mono ?_);(case side1=>repeat (first|exact (Kd.R_reads' HO238.out).2.2|(with_reducible refine Kd.C_alloc ?_ _)|(with_reducible refine Kd.C_drewN ?_ _)|(with_reducible refine Kd.C_drew ?_)));(case side2=>exact (Kd.R_reads' HO238.out).2.1);rintro e w' ⟨rfl,⟨nd,rfl⟩⟩;refine ⟨_,rfl,?_⟩;obtain ⟨hcz15_0,hcz15_1,hcz15_2,hfz15_0,hfz15_1,hfz15_2⟩:=cf3_ BK234))
     go_ret2
     exact ⟨er_,(hb_ HB)⟩
    rw [if_neg c7] at H
    exact absurd H (by simp)
   rw [if_neg c6] at H
   exact absurd H (by simp)
  replace c5:=Bool.eq_false_iff.mpr c5;subst c5
  have H1 : (if a0_2 = 0 then (some (t239,0)) else (none)) = some (r1,r2):=by rw [if_neg (show ¬ (false = true) by decide)] at H;exact H
  clear H;have H:=H1;clear H1
  by_cases c16 : a0_2 = 0
  ·rw [if_pos c16] at H
   have c16b0 : (a0_2 == 0) = true:=beq_iff_eq.mpr c16;have c16b1 : (a0_2 != 0) = false:=bne_eq_false_iff_eq.mpr c16;clear c16
   simp only [Option.some.injEq,Prod.mk.injEq] at H
   obtain ⟨rfl,rfl⟩:=H;go_enter Tryz.func45,Tryz.ntmps45
   go_wp2_with (first|((with_reducible refine gate_dst (N:=1) rfl ?_);refine box_event ?hg (N:=1) ?hd (cs:=#[.bool false,.string a0_1,.int .i64 a0_2]) (t:=81) ?hr ?_;(case hd=>rfl);(case hg=>rfl);(case hr=>first|(go_simp;done)|(go_simp;rfl));intro gb234 hg w17 hbox hb;have n_:=J_ (below_step (hb_ HB) hb) (J_ (hbox) (J_ (bs_ hg HB) (Aside0.mk (bs_ hg HB))));clear HB;obtain ⟨HB,BK234,GW234,GE234⟩:=n_;clear hb hbox hg;obtain ⟨hcz18_0,hcz18_1,hcz18_2,hfz18_0,hfz18_1,hfz18_2⟩:=cf3_ BK234)|((with_reducible refine gate_callee (f:=60) rfl ?_);refine goesL_ (some 6) rfl rfl Tryz.func60 (by kernel_rfl) rfl #[.agg #[.bool false,.string a0_1,.int .i64 a0_2]] rfl am_ ?_;(with_reducible refine (decimal_Formed.calls k false a0_1 a0_2 true _ A2.out).mono ?_);rintro e w19 ⟨rfl,hb⟩;refine ⟨_,rfl,?_⟩;have n_:=J_ (bkb_ BK234 hb) (Aside0.mk (below_step (hb_ HB) hb));clear BK234 HB;obtain ⟨BK234,HB⟩:=n_;(try clear hb);(try clear hb2);(try clear hk);(try clear hi);obtain ⟨hcz20_0,hcz20_1,hcz20_2,hfz20_0,hfz20_1,hfz20_2⟩:=cf3_ BK234)|((with_reducible refine gate_dst (N:=10) rfl ?_);refine Kd.R_lit Kd.string _ 9 ?hg (N:=10) ?hd (xs:=([a0_1,(⟨#[48]⟩ : ByteArray)] : List ByteArray)) (inner:=[.string a0_1,.string (⟨#[48]⟩ : ByteArray)]) (ok:=fun _=>True) (okp:=fun _=>True) ?hr ?hp (fun _ hk=>hk) trivial (Below.refl _ _) (Nat.le_refl _) (by simp) ?_;(case hd=>rfl);(case hg=>rfl);(case hr=>first|(go_simp;done)|(go_simp;rfl));(case hp=>exact (Reps.one (show Kd.M Kd.string _ _ _ a0_1 [.string a0_1] from rfl) (Reps.one (show Kd.M Kd.string _ _ _ (⟨#[48]⟩ : ByteArray) [.string (⟨#[48]⟩ : ByteArray)] from rfl) (Reps.none _ _))));intro v237 w21 ho22 hb hg_ hnew_;clear hg_ hnew_;(first|rw [← Ny236.out] at ho22|(simp only [Int.reduceToNat] at ho22;rw [← Ny236.out] at ho22));have n_:=J_ (Kd.R_lower ho22 (below_size (hb_ HB))) (J_ (bkb_ BK234 hb) (Aside0.mk (below_step (hb_ HB) hb)));clear BK234 HB;obtain ⟨HO238,BK234,HB⟩:=n_;clear hb ho22;obtain ⟨Ao23,co23,eo23⟩:=Kd.R_slice HO238.out;subst eo23)|((with_reducible refine gate_callee (f:=61) rfl ?_);refine goesL_ (some 11) rfl rfl Tryz.func61 (by kernel_rfl) rfl #[.slice Ao23 y236.length co23] rfl am_ ?_;(with_reducible refine (cmp_Or_string.calls k _ _ y236 t239 _ ?side1 ?side2 A4.out).mono ?_);(case side1=>repeat (first|exact (Kd.R_reads' HO238.out).2.2|(with_reducible refine Kd.C_alloc ?_ _)|(with_reducible refine Kd.C_drewN ?_ _)|(with_reducible refine Kd.C_drew ?_)));(case side2=>exact (Kd.R_reads' HO238.out).2.1);rintro e w' ⟨rfl,⟨nd,rfl⟩⟩;refine ⟨_,rfl,?_⟩;obtain ⟨hcz24_0,hcz24_1,hcz24_2,hfz24_0,hfz24_1,hfz24_2⟩:=cf3_ BK234))
   go_ret2
   exact ⟨er_,(hb_ HB)⟩
  rw [if_neg c16] at H
  exact absurd H (by simp)
 replace c3:=Bool.eq_false_iff.mpr c3;subst c3
 have H1 : (some ((⟨#[]⟩ : ByteArray),1)) = some (r1,r2):=by rw [if_neg (show ¬ (false = true) by decide)] at H;exact H
 clear H;have H:=H1;clear H1
 simp only [Option.some.injEq,Prod.mk.injEq] at H
 obtain ⟨rfl,rfl⟩:=H;go_enter Tryz.func45,Tryz.ntmps45
 go_wp2_with (first|((with_reducible refine gate_dst (N:=1) rfl ?_);refine box_event ?hg (N:=1) ?hd (cs:=#[.bool a0_0,.string a0_1,.int .i64 a0_2]) (t:=81) ?hr ?_;(case hd=>rfl);(case hg=>rfl);(case hr=>first|(go_simp;done)|(go_simp;rfl));intro gb234 hg w25 hbox hb;have n_:=J_ (below_step (hb_ HB) hb) (J_ (hbox) (J_ (bs_ hg HB) (Aside0.mk (bs_ hg HB))));clear HB;obtain ⟨HB,BK234,GW234,GE234⟩:=n_;clear hb hbox hg;obtain ⟨hcz26_0,hcz26_1,hcz26_2,hfz26_0,hfz26_1,hfz26_2⟩:=cf3_ BK234)|((with_reducible refine gate_callee (f:=60) rfl ?_);refine goesL_ (some 6) rfl rfl Tryz.func60 (by kernel_rfl) rfl #[.agg #[.bool a0_0,.string a0_1,.int .i64 a0_2]] rfl am_ ?_;(with_reducible refine (decimal_Formed.calls k a0_0 a0_1 a0_2 false _ A2.out).mono ?_);rintro e w27 ⟨rfl,hb⟩;refine ⟨_,rfl,?_⟩;have n_:=J_ (bkb_ BK234 hb) (Aside0.mk (below_step (hb_ HB) hb));clear BK234 HB;obtain ⟨BK234,HB⟩:=n_;(try clear hb);(try clear hb2);(try clear hk);(try clear hi)))
 go_ret2
 exact ⟨er_,(hb_ HB)⟩
end Go.Proofs.YtlgamjgdkljfiacGreatDoor.PWritePretties
