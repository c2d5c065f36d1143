-- Written by shrink.py, a program of this session: what the law needs of the print and its words. Lean checks it.
import Derived.Test.YtlgamjgdkljfiabGreatDoorZPWriteCompactsx0
import Derived.Test.YtlgamjgdkljfiabGreatDoorZWriteCompactsW1
namespace Go.Proofs.YtlgamjgdkljfiabGreatDoor.PWriteCompacts
open Go.RowKit Go.Proofs.YtlgamjgdkljfiabGreatDoorW.PrintWords Go.Proofs.YtlgamjgdkljfiabGreatDoorW.PrintLast Go.Proofs.YtlgamjgdkljfiabGreatDoorW.PrintMore
attribute [local go_sem] max2_int min2_int max_two min_two max_three min_three max_four min_four
set_option linter.unusedVariables false
set_option linter.unusedSimpArgs false
attribute [local go_sem] str_gtr str_leq str_geq
def decimal_Formed.l0 : Nat → Int → Int → Bool → ByteArray → Int → Option (Bool)
 | 0,_,_,_,_,_=>none
 | k + 1,x12,x13,x298000,x298001,x298002=>if x13 < x12 then (if 0 ≤ x13 then (if x13 < (x298001.size : Int) then (if (((bt x298001 x13) - 48) % 256) > 9 then (some false) else (decimal_Formed.l0 k x12 (wrap64 (x13 + 1)) x298000 x298001 x298002)) else (none)) else (none)) else (if 0 < (x298001.size : Int) then (if (bt x298001 0) = 48 then (some false) else (if 0 ≤ (wrap64 ((x298001.size : Int) - 1)) then (if (wrap64 ((x298001.size : Int) - 1)) < (x298001.size : Int) then (if (bt x298001 (wrap64 ((x298001.size : Int) - 1))) = 48 then (some false) else (if (-1073741824) ≤ x298002 then (some (decide (x298002 ≤ 1073741824))) else (some false))) else (none)) else (none))) else (none))
def decimal_Formed.f (k : Nat) (a0_0 : Bool) (a0_1 : ByteArray) (a0_2 : Int) : Option (Bool):=if a0_1.toList = ([] : List UInt8) then (some (a0_2 == 0)) else (decimal_Formed.l0 k (a0_1.size : Int) 0 a0_0 a0_1 a0_2)
theorem decimal_Formed.mono_l : ∀ k,(∀ y0 y1 y2 y3 y4,LeO (decimal_Formed.l0 k y0 y1 y2 y3 y4) (decimal_Formed.l0 (k + 1) y0 y1 y2 y3 y4))
 | 0=>fun _ _ _ _ _ r h=>by simp [decimal_Formed.l0] at h
 | k + 1=>by
  have ih0:=decimal_Formed.mono_l k;intro y0 y1 y2 y3 y4
  unfold decimal_Formed.l0
  repeat' first
  | (with_reducible exact ih0 _ _ _ _ _)
  | (with_reducible exact LeO.refl _)
  | (with_reducible exact LeO.none _)
  | (with_reducible refine LeO.ite ?_ ?_)
  | (with_reducible refine LeO.bind ?_ (fun _=>?_))
  | exact ih0 _ _ _ _ _
  | exact LeO.none _
  | refine LeO.ite ?_ ?_
  | refine LeO.bind ?_ (fun _=>?_)
theorem decimal_Formed.mono : ∀ a0 a1 a2 k,LeO (decimal_Formed.f k a0 a1 a2) (decimal_Formed.f (k + 1) a0 a1 a2):=by
 intro a0 a1 a2 k;have ih0:=decimal_Formed.mono_l k
 unfold decimal_Formed.f
 repeat' first
   | (with_reducible exact ih0 _ _ _ _ _)
   | (with_reducible exact LeO.refl _)
   | (with_reducible exact LeO.none _)
   | (with_reducible refine LeO.ite ?_ ?_)
   | (with_reducible refine LeO.bind ?_ (fun _=>?_))
   | exact ih0 _ _ _ _ _
   | exact LeO.none _
   | refine LeO.ite ?_ ?_
   | refine LeO.bind ?_ (fun _=>?_)
set_option maxHeartbeats 8000000 in
set_option maxRecDepth 100000 in
theorem decimal_Formed.calls (k : Nat) (a0_0 : Bool) (a0_1 : ByteArray) (a0_2 : Int) (r : Bool) (w : World) (h : decimal_Formed.f k a0_0 a0_1 a0_2 = some r) :
  Calls Tryz.prog 54 #[.agg #[.bool a0_0,.string a0_1,.int .i64 a0_2]] w fun e w'=>e = .returned (.bool r) ∧ Below w.heap.size w w':=by
 have hu73:=Tryz.underlying73;have HB:=Aside0.mk (Below.refl w.heap.size w);have H : (if a0_1.toList = ([] : List UInt8) then (some (a0_2 == 0)) else (decimal_Formed.l0 k (a0_1.size : Int) 0 a0_0 a0_1 a0_2)) = some r:=h;clear h
 by_cases c2 : a0_1.toList = ([] : List UInt8)
 ·rw [if_pos c2] at H
  have c2b0 : (a0_1.toList == ([] : List UInt8)) = true:=beq_iff_eq.mpr c2;have c2b1 : (a0_1.toList != ([] : List UInt8)) = false:=bne_eq_false_iff_eq.mpr c2;clear c2;obtain rfl:=Option.some.inj H;go_enter Tryz.func54,Tryz.ntmps54
  go_wp2_with (first|((with_reducible refine gate_dst (N:=1) rfl ?_);(try (refine gate_guard (by rfl) ?_;dsimp only));refine box_event ?hg (N:=1) ?hd (cs:=#[.bool a0_0,.string a0_1,.int .i64 a0_2]) (t:=73) ?hr ?_;(case hd=>rfl);(case hg=>rfl);(case hr=>first|(go_simp;done)|(go_simp;rfl));intro gb297 hg w3 hbox hb;have n_:=J_ (below_step (hb_ HB) hb) (J_ (hbox) (J_ (bs_ hg HB) (Aside0.mk (bs_ hg HB))));clear HB;obtain ⟨HB,BK297,GW297,GE297⟩:=n_;clear hb hbox hg;obtain ⟨hcz4_0,hcz4_1,hcz4_2,hfz4_0,hfz4_1,hfz4_2⟩:=cf3_ BK297))
  go_ret;exact ⟨er_,(hb_ HB)⟩
 rw [if_neg c2] at H
 have c2b0 : (a0_1.toList == ([] : List UInt8)) = false:=beq_eq_false_iff_ne.mpr c2;have c2b1 : (a0_1.toList != ([] : List UInt8)) = true:=bne_iff_ne.mpr c2;have H':=Aside0.mk H;clear H;go_enter Tryz.func54,Tryz.ntmps54
 go_wp2_with (first|((with_reducible refine gate_dst (N:=1) rfl ?_);(try (refine gate_guard (by rfl) ?_;dsimp only));refine box_event ?hg (N:=1) ?hd (cs:=#[.bool a0_0,.string a0_1,.int .i64 a0_2]) (t:=73) ?hr ?_;(case hd=>rfl);(case hg=>rfl);(case hr=>first|(go_simp;done)|(go_simp;rfl));intro gb297 hg w5 hbox hb;have n_:=J_ (below_step (hb_ HB) hb) (J_ (hbox) (J_ (bs_ hg HB) (Aside0.mk (bs_ hg HB))));clear HB;obtain ⟨HB,BK297,GW297,GE297⟩:=n_;clear hb hbox hg;obtain ⟨hcz6_0,hcz6_1,hcz6_2,hfz6_0,hfz6_1,hfz6_2⟩:=cf3_ BK297))
 go_loopg [13] k (fun kq v13 w'=>∃ (x13_1 : Int),v13 = .int .i64 x13_1 ∧ Aside0 (decimal_Formed.l0 kq (a0_1.size : Int) x13_1 a0_0 a0_1 a0_2 = some r) ∧ Aside0 (kq ≤ k) ∧ Aside0 (w'.heap[gb297]? = some (.cells #[.bool a0_0,.string a0_1,.int .i64 a0_2] 73 (0,0))) ∧ Aside0 (Below w.heap.size w w'))
 case atStart=>exact ⟨(0),rr_,H',⟨Nat.le_refl _⟩,⟨(bk_ BK297)⟩,⟨(hb_ HB)⟩⟩
 case round =>
  clear H'
  try clear BK297
  try clear HB
  obtain ⟨x13_1,rfl,HA,HK1,BK297,HB⟩:=hrel
  cases gk with
  | zero=>exact absurd HA.out (by simp [decimal_Formed.l0])
  | succ k1 =>
   have H:=HA.out;clear HA
   simp only [decimal_Formed.l0] at H
   by_cases c7 : x13_1 < (a0_1.size : Int)
   ·rw [if_pos c7] at H
    have c7b0 : decide (x13_1 < (a0_1.size : Int)) = true:=decide_eq_true c7;clear c7
    by_cases c8 : 0 ≤ x13_1
    ·rw [if_pos c8] at H
     have c8b0 : decide (0 ≤ x13_1) = true:=decide_eq_true c8;clear c8
     by_cases c9 : x13_1 < (a0_1.size : Int)
     ·rw [if_pos c9] at H
      have c9b0 : decide (x13_1 < (a0_1.size : Int)) = true:=decide_eq_true c9;clear c9
      by_cases c11 : (((bt a0_1 x13_1) - 48) % 256) > 9
      ·rw [if_pos c11] at H
       have c11b0 : decide (9 < (((bt a0_1 x13_1) - 48) % 256)) = true:=decide_eq_true c11;clear c11;obtain rfl:=Option.some.inj H;obtain ⟨hcz12_0,hcz12_1,hcz12_2,hfz12_0,hfz12_1,hfz12_2⟩:=cf3_ BK297;have p10 : 0 ≤ (x13_1 : Int):=of_decide_eq_true aa_;have q10 : x13_1 < (a0_1.size : Int):=of_decide_eq_true aa_;have hx10:=bt_at a0_1 x13_1;replace p10:=eq_true p10;replace q10:=eq_true q10;go_wp2
       go_ret;exact ⟨er_,(hb_ HB)⟩
      rw [if_neg c11] at H
      have c11b0 : decide (9 < (((bt a0_1 x13_1) - 48) % 256)) = false:=decide_eq_false c11;clear c11;have H':=Aside0.mk H;clear H;obtain ⟨hcz13_0,hcz13_1,hcz13_2,hfz13_0,hfz13_1,hfz13_2⟩:=cf3_ BK297;have p10 : 0 ≤ (x13_1 : Int):=of_decide_eq_true aa_;have q10 : x13_1 < (a0_1.size : Int):=of_decide_eq_true aa_;have hx10:=bt_at a0_1 x13_1;replace p10:=eq_true p10;replace q10:=eq_true q10;go_wp2
      go_roundg k1
      case measure=>have:=HK1.out;omega
      case rel=>exact ⟨(wrap64 (x13_1 + 1)),rr_,(by first|exact H'|(subst_vars;exact H')),⟨by have:=HK1.out;omega⟩,⟨(bk_ BK297)⟩,⟨(hb_ HB)⟩⟩
     rw [if_neg c9] at H
     exact absurd H (by simp)
    rw [if_neg c8] at H
    exact absurd H (by simp)
   rw [if_neg c7] at H
   have c7b0 : decide (x13_1 < (a0_1.size : Int)) = false:=decide_eq_false c7;clear c7
   by_cases c14 : 0 < (a0_1.size : Int)
   ·rw [if_pos c14] at H
    have c14b0 : decide (0 < (a0_1.size : Int)) = true:=decide_eq_true c14;have c14b1 : decide (0 < a0_1.size) = true:=decide_eq_true (by omega);clear c14
    by_cases c16 : (bt a0_1 0) = 48
    ·rw [if_pos c16] at H
     have c16b0 : ((bt a0_1 0) == 48) = true:=beq_iff_eq.mpr c16;have c16b1 : ((bt a0_1 0) != 48) = false:=bne_eq_false_iff_eq.mpr c16;clear c16;obtain rfl:=Option.some.inj H;obtain ⟨hcz17_0,hcz17_1,hcz17_2,hfz17_0,hfz17_1,hfz17_2⟩:=cf3_ BK297;have p15 : 0 ≤ (0 : Int):=(by omega);have q15 : 0 < a0_1.size:=(by have : (0 : Int) < (a0_1.size : Int):=(by first|exact of_decide_eq_true aa_|exact of_eq_true aa_|omega);omega)
     have hx15 : ∀ h : 0 < a0_1.size,((a0_1[0]'h).toNat : Int) = bt a0_1 0:=bt_at a0_1 0
     clear p15;have qi15 : (0 < (a0_1.size : Int)) = True:=eq_true (of_decide_eq_true aa_);replace q15:=eq_true q15;go_wp2
     go_ret;exact ⟨er_,(hb_ HB)⟩
    rw [if_neg c16] at H
    have c16b0 : ((bt a0_1 0) == 48) = false:=beq_eq_false_iff_ne.mpr c16;have c16b1 : ((bt a0_1 0) != 48) = true:=bne_iff_ne.mpr c16
    obtain ⟨ji18,hji18⟩ : ∃ j_ : Int,(wrap64 ((a0_1.size : Int) - 1)) = j_:=⟨_,rfl⟩
    replace H : (if 0 ≤ (ji18) then (if (ji18) < (a0_1.size : Int) then (if (bt a0_1 (ji18)) = 48 then (some false) else (if (-1073741824) ≤ a0_2 then (some (decide (a0_2 ≤ 1073741824))) else (some false))) else (none)) else (none)) = some r:=by first|(rw [hji18] at H;exact H)|(simp only [hji18] at H ⊢;exact H)
    have hji18w : (IntKind.i64.wrap ((a0_1.size : Int) - 1)) = ji18:=(i64_w _).trans hji18
    by_cases c19 : 0 ≤ (ji18)
    ·rw [if_pos c19] at H
     have c19b0 : decide (0 ≤ (ji18)) = true:=decide_eq_true c19;clear c19
     by_cases c20 : (ji18) < (a0_1.size : Int)
     ·rw [if_pos c20] at H
      have c20b0 : decide ((ji18) < (a0_1.size : Int)) = true:=decide_eq_true c20;clear c20
      by_cases c22 : (bt a0_1 (ji18)) = 48
      ·rw [if_pos c22] at H
       have c22b0 : ((bt a0_1 (ji18)) == 48) = true:=beq_iff_eq.mpr c22;have c22b1 : ((bt a0_1 (ji18)) != 48) = false:=bne_eq_false_iff_eq.mpr c22;clear c22;obtain rfl:=Option.some.inj H;obtain ⟨hcz23_0,hcz23_1,hcz23_2,hfz23_0,hfz23_1,hfz23_2⟩:=cf3_ BK297;have p15 : 0 ≤ (0 : Int):=(by omega);have q15 : 0 < a0_1.size:=(by have : (0 : Int) < (a0_1.size : Int):=(by first|exact of_decide_eq_true aa_|exact of_eq_true aa_|omega);omega)
       have hx15 : ∀ h : 0 < a0_1.size,((a0_1[0]'h).toNat : Int) = bt a0_1 0:=bt_at a0_1 0
       clear p15;have qi15 : (0 < (a0_1.size : Int)) = True:=eq_true (of_decide_eq_true aa_);replace q15:=eq_true q15;have p21 : 0 ≤ ((ji18) : Int):=of_decide_eq_true aa_;have q21 : (ji18) < (a0_1.size : Int):=of_decide_eq_true aa_;have hx21:=bt_at a0_1 (ji18);replace p21:=eq_true p21;replace q21:=eq_true q21;go_wp2
       go_ret;exact ⟨by first|rfl|(simp [errW_none,errW_some] <;> rfl)|(simp only [← hji18];first|rfl|(simp [errW_none,errW_some] <;> rfl))|(simp [*,errW_none,errW_some] <;> rfl),(hb_ HB)⟩
      rw [if_neg c22] at H
      have c22b0 : ((bt a0_1 (ji18)) == 48) = false:=beq_eq_false_iff_ne.mpr c22;have c22b1 : ((bt a0_1 (ji18)) != 48) = true:=bne_iff_ne.mpr c22
      by_cases c24 : (-1073741824) ≤ a0_2
      ·rw [if_pos c24] at H
       have c24b0 : decide ((-1073741824) ≤ a0_2) = true:=decide_eq_true c24;clear c24;obtain rfl:=Option.some.inj H;obtain ⟨hcz25_0,hcz25_1,hcz25_2,hfz25_0,hfz25_1,hfz25_2⟩:=cf3_ BK297;have p15 : 0 ≤ (0 : Int):=(by omega);have q15 : 0 < a0_1.size:=(by have : (0 : Int) < (a0_1.size : Int):=(by first|exact of_decide_eq_true aa_|exact of_eq_true aa_|omega);omega)
       have hx15 : ∀ h : 0 < a0_1.size,((a0_1[0]'h).toNat : Int) = bt a0_1 0:=bt_at a0_1 0
       clear p15;have qi15 : (0 < (a0_1.size : Int)) = True:=eq_true (of_decide_eq_true aa_);replace q15:=eq_true q15;have p21 : 0 ≤ ((ji18) : Int):=of_decide_eq_true aa_;have q21 : (ji18) < (a0_1.size : Int):=of_decide_eq_true aa_;have hx21:=bt_at a0_1 (ji18);replace p21:=eq_true p21;replace q21:=eq_true q21;go_wp2
       go_ret;exact ⟨by first|rfl|(simp [errW_none,errW_some] <;> rfl)|(simp only [← hji18];first|rfl|(simp [errW_none,errW_some] <;> rfl))|(simp [*,errW_none,errW_some] <;> rfl),(hb_ HB)⟩
      rw [if_neg c24] at H
      have c24b0 : decide ((-1073741824) ≤ a0_2) = false:=decide_eq_false c24;clear c24;obtain rfl:=Option.some.inj H;obtain ⟨hcz26_0,hcz26_1,hcz26_2,hfz26_0,hfz26_1,hfz26_2⟩:=cf3_ BK297;have p15 : 0 ≤ (0 : Int):=(by omega);have q15 : 0 < a0_1.size:=(by have : (0 : Int) < (a0_1.size : Int):=(by first|exact of_decide_eq_true aa_|exact of_eq_true aa_|omega);omega)
      have hx15 : ∀ h : 0 < a0_1.size,((a0_1[0]'h).toNat : Int) = bt a0_1 0:=bt_at a0_1 0
      clear p15;have qi15 : (0 < (a0_1.size : Int)) = True:=eq_true (of_decide_eq_true aa_);replace q15:=eq_true q15;have p21 : 0 ≤ ((ji18) : Int):=of_decide_eq_true aa_;have q21 : (ji18) < (a0_1.size : Int):=of_decide_eq_true aa_;have hx21:=bt_at a0_1 (ji18);replace p21:=eq_true p21;replace q21:=eq_true q21;go_wp2
      go_ret;exact ⟨by first|rfl|(simp [errW_none,errW_some] <;> rfl)|(simp only [← hji18];first|rfl|(simp [errW_none,errW_some] <;> rfl))|(simp [*,errW_none,errW_some] <;> rfl),(hb_ HB)⟩
     rw [if_neg c20] at H
     exact absurd H (by simp)
    rw [if_neg c19] at H
    exact absurd H (by simp)
   rw [if_neg c14] at H
   exact absurd H (by simp)
def cmp_Or_string.l0 : Nat → ByteArray → List ByteArray → Int → Int → Option (ByteArray)
 | 0,_,_,_,_=>none
 | k + 1,x3,x6,x7,x8=>if x8 < x7 then (if 0 ≤ x8 then (if x8 < (x6.length : Int) then (if (rdOf ByteArray.empty x6 x8).toList = x3.toList then (cmp_Or_string.l0 k x3 x6 x7 (wrap64 (x8 + 1))) else (some (rdOf ByteArray.empty x6 x8))) else (none)) else (none)) else (some x3)
def cmp_Or_string.f (k : Nat) (l0 : List ByteArray) : Option (ByteArray):=cmp_Or_string.l0 k (⟨#[]⟩ : ByteArray) l0 (l0.length : Int) 0
theorem cmp_Or_string.mono_l : ∀ k,(∀ y0 y1 y2 y3,LeO (cmp_Or_string.l0 k y0 y1 y2 y3) (cmp_Or_string.l0 (k + 1) y0 y1 y2 y3))
 | 0=>fun _ _ _ _ r h=>by simp [cmp_Or_string.l0] at h
 | k + 1=>by
  have ih0:=cmp_Or_string.mono_l k;intro y0 y1 y2 y3
  unfold cmp_Or_string.l0
  repeat' first
  | (with_reducible exact ih0 _ _ _ _)
  | (with_reducible exact LeO.refl _)
  | (with_reducible exact LeO.none _)
  | (with_reducible refine LeO.ite ?_ ?_)
  | (with_reducible refine LeO.bind ?_ (fun _=>?_))
  | exact ih0 _ _ _ _
  | exact LeO.none _
  | refine LeO.ite ?_ ?_
  | refine LeO.bind ?_ (fun _=>?_)
theorem cmp_Or_string.mono : ∀ a0 k,LeO (cmp_Or_string.f k a0) (cmp_Or_string.f (k + 1) a0):=by
 intro a0 k;have ih0:=cmp_Or_string.mono_l k
 unfold cmp_Or_string.f
 repeat' first
   | (with_reducible exact ih0 _ _ _ _)
   | (with_reducible exact LeO.refl _)
   | (with_reducible exact LeO.none _)
   | (with_reducible refine LeO.ite ?_ ?_)
   | (with_reducible refine LeO.bind ?_ (fun _=>?_))
   | exact ih0 _ _ _ _
   | exact LeO.none _
   | refine LeO.ite ?_ ?_
   | refine LeO.bind ?_ (fun _=>?_)
set_option maxHeartbeats 8000000 in
set_option maxRecDepth 100000 in
theorem cmp_Or_string.calls (k : Nat) (A0 : Option Addr) (c0 : Nat) (l0 : List ByteArray) (r : ByteArray) (w : World) (hr0 : Kd.C Kd.string w A0 l0.length l0) (hc0 : l0.length ≤ c0) (h : cmp_Or_string.f k l0 = some r) :
  Calls Tryz.prog 55 #[.slice A0 l0.length c0] w fun e w'=>e = .returned (.string r) ∧ Drawn0 w w':=by
 have HR0:=Aside0.mk hr0;have HC0:=Aside0.mk hc0;clear hr0 hc0;have H : (cmp_Or_string.l0 k (⟨#[]⟩ : ByteArray) l0 (l0.length : Int) 0) = some r:=h;clear h;have H':=Aside0.mk H;clear H;go_enter Tryz.func55,Tryz.ntmps55;go_wp2
 go_loopg [8] k (fun kq v8 w'=>∃ (x8_1 : Int),v8 = .int .i64 x8_1 ∧ Aside0 (cmp_Or_string.l0 kq (⟨#[]⟩ : ByteArray) l0 (l0.length : Int) x8_1 = some r) ∧ Aside0 (kq ≤ k) ∧ Drawn0 w w')
 case atStart=>exact ⟨(0),rr_,H',⟨Nat.le_refl _⟩,by repeat (first|exact Drawn0.refl _|apply Drawn0.step)⟩
 case round =>
  clear H';obtain ⟨x8_1,rfl,HA,HK1,⟨m1,rfl⟩⟩:=hrel
  cases gk with
  | zero=>exact absurd HA.out (by simp [cmp_Or_string.l0])
  | succ k1 =>
   have H:=HA.out;clear HA
   simp only [cmp_Or_string.l0] at H
   by_cases c2 : x8_1 < (l0.length : Int)
   ·rw [if_pos c2] at H
    have c2b0 : decide (x8_1 < (l0.length : Int)) = true:=decide_eq_true c2;clear c2
    by_cases c3 : 0 ≤ x8_1
    ·rw [if_pos c3] at H
     have c3b0 : decide (0 ≤ x8_1) = true:=decide_eq_true c3;clear c3
     by_cases c4 : x8_1 < (l0.length : Int)
     ·rw [if_pos c4] at H
      have c4b0 : decide (x8_1 < (l0.length : Int)) = true:=decide_eq_true c4;clear c4
      by_cases c5 : (rdOf ByteArray.empty l0 x8_1).toList = (⟨#[]⟩ : ByteArray).toList
      ·rw [if_pos c5] at H
       have c5b0 : ((rdOf ByteArray.empty l0 x8_1).toList == (⟨#[]⟩ : ByteArray).toList) = true:=beq_iff_eq.mpr c5
       try have c5b0n : ((rdOf ByteArray.empty l0 x8_1).toList.isEmpty) = true:=by (have h_:=c5b0;simpa using h_)
       have c5b1 : ((rdOf ByteArray.empty l0 x8_1).toList != (⟨#[]⟩ : ByteArray).toList) = false:=bne_eq_false_iff_eq.mpr c5
       try have c5b1n : ((rdOf ByteArray.empty l0 x8_1).toList.isEmpty) = true:=by (have h_:=c5b1;simpa using h_)
       clear c5;have H':=Aside0.mk H;clear H;have p298 : 0 ≤ (x8_1 : Int):=of_decide_eq_true aa_;have q298 : x8_1 < (l0.length : Int):=of_decide_eq_true aa_;obtain ⟨ad298,e298,hx298_0⟩:=Kd.at_string HR0.out x8_1 p298 q298;cases e298;replace p298:=eq_true p298;replace q298:=eq_true q298;go_wp2
       go_roundg k1
       case measure=>have:=HK1.out;omega
       case rel=>exact ⟨(wrap64 (x8_1 + 1)),rr_,(by first|exact H'|(subst_vars;exact H')),⟨by have:=HK1.out;omega⟩,by repeat (first|exact Drawn0.refl _|apply Drawn0.step)⟩
      rw [if_neg c5] at H
      have c5b0 : ((rdOf ByteArray.empty l0 x8_1).toList == (⟨#[]⟩ : ByteArray).toList) = false:=beq_eq_false_iff_ne.mpr c5
      try have c5b0n : ((rdOf ByteArray.empty l0 x8_1).toList.isEmpty) = false:=by (have h_:=c5b0;simpa using h_)
      have c5b1 : ((rdOf ByteArray.empty l0 x8_1).toList != (⟨#[]⟩ : ByteArray).toList) = true:=bne_iff_ne.mpr c5
      try have c5b1n : ((rdOf ByteArray.empty l0 x8_1).toList.isEmpty) = false:=by (have h_:=c5b1;simpa using h_)
      obtain rfl:=Option.some.inj H;have p298 : 0 ≤ (x8_1 : Int):=of_decide_eq_true aa_;have q298 : x8_1 < (l0.length : Int):=of_decide_eq_true aa_;obtain ⟨ad298,e298,hx298_0⟩:=Kd.at_string HR0.out x8_1 p298 q298;cases e298;replace p298:=eq_true p298;replace q298:=eq_true q298;go_wp2
      go_ret;exact ⟨by first|rfl|(simp;done)|(simp [*];done),by repeat (first|exact Drawn0.refl _|apply Drawn0.step)⟩
     rw [if_neg c4] at H
     exact absurd H (by simp)
    rw [if_neg c3] at H
    exact absurd H (by simp)
   rw [if_neg c2] at H
   have c2b0 : decide (x8_1 < (l0.length : Int)) = false:=decide_eq_false c2;clear c2;obtain rfl:=Option.some.inj H;go_wp2
   go_ret;exact ⟨by first|rfl|(simp;done)|(simp [*];done),by repeat (first|exact Drawn0.refl _|apply Drawn0.step)⟩
def decimal_Text.f (k : Nat) (a0_0 : Bool) (a0_1 : ByteArray) (a0_2 : Int) : Option (ByteArray × Int):=(decimal_Formed.f k a0_0 a0_1 a0_2).bind fun t316=>(if t316 = true then ((cmp_Or_string.f k (([a0_1,(⟨#[48]⟩ : ByteArray)] : List ByteArray))).bind fun t320=>(if a0_0 = true then (if 1 + t320.size ≤ 9223372036854775807 then (if a0_2 = 0 then (some ((⟨#[45]⟩ : ByteArray) ++ t320,0)) else (none)) else (none)) else (if a0_2 = 0 then (some (t320,0)) else (none)))) else (some ((⟨#[]⟩ : ByteArray),1)))
theorem decimal_Text.mono : ∀ a0 a1 a2 k,LeO (decimal_Text.f k a0 a1 a2) (decimal_Text.f (k + 1) a0 a1 a2):=by
 intro a0 a1 a2 k
 unfold decimal_Text.f
 repeat' first
   | (with_reducible exact cmp_Or_string.mono _ _)
   | (with_reducible exact decimal_Formed.mono _ _ _ _)
   | (with_reducible exact LeO.refl _)
   | (with_reducible exact LeO.none _)
   | (with_reducible refine LeO.ite ?_ ?_)
   | (with_reducible refine LeO.bind ?_ (fun _=>?_))
   | exact LeO.none _
   | refine LeO.ite ?_ ?_
   | refine LeO.bind ?_ (fun _=>?_)
set_option maxHeartbeats 8000000 in
set_option maxRecDepth 100000 in
theorem decimal_Text.calls (k : Nat) (a0_0 : Bool) (a0_1 : ByteArray) (a0_2 : Int) (r1 : ByteArray) (r2 : Int) (w : World) (h : decimal_Text.f k a0_0 a0_1 a0_2 = some (r1,r2)) :
  Calls Tryz.prog 40 #[.agg #[.bool a0_0,.string a0_1,.int .i64 a0_2]] w fun e w'=>e = .returned (.tuple #[.string r1,.int .i64 r2]) ∧ Below w.heap.size w w':=by
 have hu73:=Tryz.underlying73;have HB:=Aside0.mk (Below.refl w.heap.size w);have H : ((decimal_Formed.f k a0_0 a0_1 a0_2).bind fun t316=>(if t316 = true then ((cmp_Or_string.f k (([a0_1,(⟨#[48]⟩ : ByteArray)] : List ByteArray))).bind fun t320=>(if a0_0 = true then (if 1 + t320.size ≤ 9223372036854775807 then (if a0_2 = 0 then (some ((⟨#[45]⟩ : ByteArray) ++ t320,0)) else (none)) else (none)) else (if a0_2 = 0 then (some (t320,0)) else (none)))) else (some ((⟨#[]⟩ : ByteArray),1)))) = some (r1,r2):=h;clear h;replace H:=Option.bind_eq_some_iff.mp H;obtain ⟨t316,A20,H⟩:=H;replace H : (if t316 = true then ((cmp_Or_string.f k (([a0_1,(⟨#[48]⟩ : ByteArray)] : List ByteArray))).bind fun t320=>(if a0_0 = true then (if 1 + t320.size ≤ 9223372036854775807 then (if a0_2 = 0 then (some ((⟨#[45]⟩ : ByteArray) ++ t320,0)) else (none)) else (none)) else (if a0_2 = 0 then (some (t320,0)) else (none)))) else (some ((⟨#[]⟩ : ByteArray),1))) = some (r1,r2):=H;have A2:=Aside0.mk A20;clear A20
 by_cases c3 : t316 = true
 ·subst c3
  have H1 : ((cmp_Or_string.f k (([a0_1,(⟨#[48]⟩ : ByteArray)] : List ByteArray))).bind fun t320=>(if a0_0 = true then (if 1 + t320.size ≤ 9223372036854775807 then (if a0_2 = 0 then (some ((⟨#[45]⟩ : ByteArray) ++ t320,0)) else (none)) else (none)) else (if a0_2 = 0 then (some (t320,0)) else (none)))) = some (r1,r2):=by rw [if_pos rfl] at H;exact H
  clear H;have H:=H1;clear H1
  obtain ⟨y317,hy317⟩ : ∃ y_ : List ByteArray,y_ = (([a0_1,(⟨#[48]⟩ : ByteArray)] : List ByteArray)):=⟨_,rfl⟩
  replace H : ((cmp_Or_string.f k y317).bind fun t320=>(if a0_0 = true then (if 1 + t320.size ≤ 9223372036854775807 then (if a0_2 = 0 then (some ((⟨#[45]⟩ : ByteArray) ++ t320,0)) else (none)) else (none)) else (if a0_2 = 0 then (some (t320,0)) else (none)))) = some (r1,r2):=by first|(rw [hy317];with_reducible exact H)|(have H2_:=(Option.bind_some _ _).symm.trans H;rw [hy317];with_reducible exact H2_)|(have H2_:=(Option.bind_some _ _).symm.trans H;with_reducible exact H2_)|with_reducible exact H|(rw [hy317];exact H)|exact H
  have Ny317:=Aside0.mk hy317;clear hy317;replace H:=Option.bind_eq_some_iff.mp H;obtain ⟨t320,A40,H⟩:=H;replace H : (if a0_0 = true then (if 1 + t320.size ≤ 9223372036854775807 then (if a0_2 = 0 then (some ((⟨#[45]⟩ : ByteArray) ++ t320,0)) else (none)) else (none)) else (if a0_2 = 0 then (some (t320,0)) else (none))) = some (r1,r2):=H;have A4:=Aside0.mk A40;clear A40
  by_cases c5 : a0_0 = true
  ·subst c5
   have H1 : (if 1 + t320.size ≤ 9223372036854775807 then (if a0_2 = 0 then (some ((⟨#[45]⟩ : ByteArray) ++ t320,0)) else (none)) else (none)) = some (r1,r2):=by rw [if_pos rfl] at H;exact H
   clear H;have H:=H1;clear H1
   by_cases c6 : 1 + t320.size ≤ 9223372036854775807
   ·rw [if_pos c6] at H
    have c6b0:=eq_true c6;have c6b1 : decide (1 + t320.size ≤ 9223372036854775807) = true:=decide_eq_true c6
    try have c6b2 : (9223372036854775807 < 1 + t320.size) = False:=eq_false (Nat.not_lt.2 c6)
    by_cases c7 : a0_2 = 0
    ·rw [if_pos c7] at H
     have c7b0 : (a0_2 == 0) = true:=beq_iff_eq.mpr c7;have c7b1 : (a0_2 != 0) = false:=bne_eq_false_iff_eq.mpr c7;clear c7
     simp only [Option.some.injEq,Prod.mk.injEq] at H
     obtain ⟨rfl,rfl⟩:=H;go_enter Tryz.func40,Tryz.ntmps40
     go_wp2_with (first|((with_reducible refine gate_dst (N:=1) rfl ?_);refine box_event ?hg (N:=1) ?hd (cs:=#[.bool true,.string a0_1,.int .i64 a0_2]) (t:=73) ?hr ?_;(case hd=>rfl);(case hg=>rfl);(case hr=>first|(go_simp;done)|(go_simp;rfl));intro gb315 hg w8 hbox hb;have n_:=J_ (below_step (hb_ HB) hb) (J_ (hbox) (J_ (bs_ hg HB) (Aside0.mk (bs_ hg HB))));clear HB;obtain ⟨HB,BK315,GW315,GE315⟩:=n_;clear hb hbox hg;obtain ⟨hcz9_0,hcz9_1,hcz9_2,hfz9_0,hfz9_1,hfz9_2⟩:=cf3_ BK315)|((with_reducible refine gate_callee (f:=54) rfl ?_);refine goesL_ (some 6) rfl rfl Tryz.func54 (by kernel_rfl) rfl #[.agg #[.bool true,.string a0_1,.int .i64 a0_2]] rfl am_ ?_;(with_reducible refine (decimal_Formed.calls k true a0_1 a0_2 true _ A2.out).mono ?_);rintro e w10 ⟨rfl,hb⟩;refine ⟨_,rfl,?_⟩;have n_:=J_ (bkb_ BK315 hb) (Aside0.mk (below_step (hb_ HB) hb));clear BK315 HB;obtain ⟨BK315,HB⟩:=n_;(try clear hb);(try clear hb2);(try clear hk);(try clear hi);obtain ⟨hcz11_0,hcz11_1,hcz11_2,hfz11_0,hfz11_1,hfz11_2⟩:=cf3_ BK315)|((with_reducible refine gate_dst (N:=10) rfl ?_);refine Kd.R_lit Kd.string _ 9 ?hg (N:=10) ?hd (xs:=([a0_1,(⟨#[48]⟩ : ByteArray)] : List ByteArray)) (inner:=[.string a0_1,.string (⟨#[48]⟩ : ByteArray)]) (ok:=fun _=>True) (okp:=fun _=>True) ?hr ?hp (fun _ hk=>hk) trivial (Below.refl _ _) (Nat.le_refl _) (by simp) ?_;(case hd=>rfl);(case hg=>rfl);(case hr=>first|(go_simp;done)|(go_simp;rfl));(case hp=>exact (Reps.one (show Kd.M Kd.string _ _ _ a0_1 [.string a0_1] from rfl) (Reps.one (show Kd.M Kd.string _ _ _ (⟨#[48]⟩ : ByteArray) [.string (⟨#[48]⟩ : ByteArray)] from rfl) (Reps.none _ _))));intro v318 w12 ho13 hb hg_ hnew_;clear hg_ hnew_;(first|rw [← Ny317.out] at ho13|(simp only [Int.reduceToNat] at ho13;rw [← Ny317.out] at ho13));have n_:=J_ (Kd.R_lower ho13 (below_size (hb_ HB))) (J_ (bkb_ BK315 hb) (Aside0.mk (below_step (hb_ HB) hb)));clear BK315 HB;obtain ⟨HO319,BK315,HB⟩:=n_;clear hb ho13;obtain ⟨Ao14,co14,eo14⟩:=Kd.R_slice HO319.out;subst eo14)|((with_reducible refine gate_callee (f:=55) rfl ?_);refine goesL_ (some 11) rfl rfl Tryz.func55 (by kernel_rfl) rfl #[.slice Ao14 y317.length co14] rfl am_ ?_;(with_reducible refine (cmp_Or_string.calls k _ _ y317 t320 _ ?side1 ?side2 A4.out).mono ?_);(case side1=>repeat (first|exact (Kd.R_reads' HO319.out).2.2|(with_reducible refine Kd.C_alloc ?_ _)|(with_reducible refine Kd.C_drewN ?_ _)|(with_reducible refine Kd.C_drew ?_)));(case side2=>exact (Kd.R_reads' HO319.out).2.1);rintro e w' ⟨rfl,⟨nd,rfl⟩⟩;refine ⟨_,rfl,?_⟩;obtain ⟨hcz15_0,hcz15_1,hcz15_2,hfz15_0,hfz15_1,hfz15_2⟩:=cf3_ BK315))
     go_ret2
     exact ⟨er_,(hb_ HB)⟩
    rw [if_neg c7] at H
    exact absurd H (by simp)
   rw [if_neg c6] at H
   exact absurd H (by simp)
  replace c5:=Bool.eq_false_iff.mpr c5;subst c5
  have H1 : (if a0_2 = 0 then (some (t320,0)) else (none)) = some (r1,r2):=by rw [if_neg (show ¬ (false = true) by decide)] at H;exact H
  clear H;have H:=H1;clear H1
  by_cases c16 : a0_2 = 0
  ·rw [if_pos c16] at H
   have c16b0 : (a0_2 == 0) = true:=beq_iff_eq.mpr c16;have c16b1 : (a0_2 != 0) = false:=bne_eq_false_iff_eq.mpr c16;clear c16
   simp only [Option.some.injEq,Prod.mk.injEq] at H
   obtain ⟨rfl,rfl⟩:=H;go_enter Tryz.func40,Tryz.ntmps40
   go_wp2_with (first|((with_reducible refine gate_dst (N:=1) rfl ?_);refine box_event ?hg (N:=1) ?hd (cs:=#[.bool false,.string a0_1,.int .i64 a0_2]) (t:=73) ?hr ?_;(case hd=>rfl);(case hg=>rfl);(case hr=>first|(go_simp;done)|(go_simp;rfl));intro gb315 hg w17 hbox hb;have n_:=J_ (below_step (hb_ HB) hb) (J_ (hbox) (J_ (bs_ hg HB) (Aside0.mk (bs_ hg HB))));clear HB;obtain ⟨HB,BK315,GW315,GE315⟩:=n_;clear hb hbox hg;obtain ⟨hcz18_0,hcz18_1,hcz18_2,hfz18_0,hfz18_1,hfz18_2⟩:=cf3_ BK315)|((with_reducible refine gate_callee (f:=54) rfl ?_);refine goesL_ (some 6) rfl rfl Tryz.func54 (by kernel_rfl) rfl #[.agg #[.bool false,.string a0_1,.int .i64 a0_2]] rfl am_ ?_;(with_reducible refine (decimal_Formed.calls k false a0_1 a0_2 true _ A2.out).mono ?_);rintro e w19 ⟨rfl,hb⟩;refine ⟨_,rfl,?_⟩;have n_:=J_ (bkb_ BK315 hb) (Aside0.mk (below_step (hb_ HB) hb));clear BK315 HB;obtain ⟨BK315,HB⟩:=n_;(try clear hb);(try clear hb2);(try clear hk);(try clear hi);obtain ⟨hcz20_0,hcz20_1,hcz20_2,hfz20_0,hfz20_1,hfz20_2⟩:=cf3_ BK315)|((with_reducible refine gate_dst (N:=10) rfl ?_);refine Kd.R_lit Kd.string _ 9 ?hg (N:=10) ?hd (xs:=([a0_1,(⟨#[48]⟩ : ByteArray)] : List ByteArray)) (inner:=[.string a0_1,.string (⟨#[48]⟩ : ByteArray)]) (ok:=fun _=>True) (okp:=fun _=>True) ?hr ?hp (fun _ hk=>hk) trivial (Below.refl _ _) (Nat.le_refl _) (by simp) ?_;(case hd=>rfl);(case hg=>rfl);(case hr=>first|(go_simp;done)|(go_simp;rfl));(case hp=>exact (Reps.one (show Kd.M Kd.string _ _ _ a0_1 [.string a0_1] from rfl) (Reps.one (show Kd.M Kd.string _ _ _ (⟨#[48]⟩ : ByteArray) [.string (⟨#[48]⟩ : ByteArray)] from rfl) (Reps.none _ _))));intro v318 w21 ho22 hb hg_ hnew_;clear hg_ hnew_;(first|rw [← Ny317.out] at ho22|(simp only [Int.reduceToNat] at ho22;rw [← Ny317.out] at ho22));have n_:=J_ (Kd.R_lower ho22 (below_size (hb_ HB))) (J_ (bkb_ BK315 hb) (Aside0.mk (below_step (hb_ HB) hb)));clear BK315 HB;obtain ⟨HO319,BK315,HB⟩:=n_;clear hb ho22;obtain ⟨Ao23,co23,eo23⟩:=Kd.R_slice HO319.out;subst eo23)|((with_reducible refine gate_callee (f:=55) rfl ?_);refine goesL_ (some 11) rfl rfl Tryz.func55 (by kernel_rfl) rfl #[.slice Ao23 y317.length co23] rfl am_ ?_;(with_reducible refine (cmp_Or_string.calls k _ _ y317 t320 _ ?side1 ?side2 A4.out).mono ?_);(case side1=>repeat (first|exact (Kd.R_reads' HO319.out).2.2|(with_reducible refine Kd.C_alloc ?_ _)|(with_reducible refine Kd.C_drewN ?_ _)|(with_reducible refine Kd.C_drew ?_)));(case side2=>exact (Kd.R_reads' HO319.out).2.1);rintro e w' ⟨rfl,⟨nd,rfl⟩⟩;refine ⟨_,rfl,?_⟩;obtain ⟨hcz24_0,hcz24_1,hcz24_2,hfz24_0,hfz24_1,hfz24_2⟩:=cf3_ BK315))
   go_ret2
   exact ⟨er_,(hb_ HB)⟩
  rw [if_neg c16] at H
  exact absurd H (by simp)
 replace c3:=Bool.eq_false_iff.mpr c3;subst c3
 have H1 : (some ((⟨#[]⟩ : ByteArray),1)) = some (r1,r2):=by rw [if_neg (show ¬ (false = true) by decide)] at H;exact H
 clear H;have H:=H1;clear H1
 simp only [Option.some.injEq,Prod.mk.injEq] at H
 obtain ⟨rfl,rfl⟩:=H;go_enter Tryz.func40,Tryz.ntmps40
 go_wp2_with (first|((with_reducible refine gate_dst (N:=1) rfl ?_);refine box_event ?hg (N:=1) ?hd (cs:=#[.bool a0_0,.string a0_1,.int .i64 a0_2]) (t:=73) ?hr ?_;(case hd=>rfl);(case hg=>rfl);(case hr=>first|(go_simp;done)|(go_simp;rfl));intro gb315 hg w25 hbox hb;have n_:=J_ (below_step (hb_ HB) hb) (J_ (hbox) (J_ (bs_ hg HB) (Aside0.mk (bs_ hg HB))));clear HB;obtain ⟨HB,BK315,GW315,GE315⟩:=n_;clear hb hbox hg;obtain ⟨hcz26_0,hcz26_1,hcz26_2,hfz26_0,hfz26_1,hfz26_2⟩:=cf3_ BK315)|((with_reducible refine gate_callee (f:=54) rfl ?_);refine goesL_ (some 6) rfl rfl Tryz.func54 (by kernel_rfl) rfl #[.agg #[.bool a0_0,.string a0_1,.int .i64 a0_2]] rfl am_ ?_;(with_reducible refine (decimal_Formed.calls k a0_0 a0_1 a0_2 false _ A2.out).mono ?_);rintro e w27 ⟨rfl,hb⟩;refine ⟨_,rfl,?_⟩;have n_:=J_ (bkb_ BK315 hb) (Aside0.mk (below_step (hb_ HB) hb));clear BK315 HB;obtain ⟨BK315,HB⟩:=n_;(try clear hb);(try clear hb2);(try clear hk);(try clear hi)))
 go_ret2
 exact ⟨er_,(hb_ HB)⟩
end Go.Proofs.YtlgamjgdkljfiabGreatDoor.PWriteCompacts
