-- Written by shrink.py, a program of this session: what the law needs of the print and its words. Lean checks it.
import Derived.Test.YtlgamjgdkljfiacGreatDoorZPWritePrettiesx0
import Derived.Test.YtlgamjgdkljfiacGreatDoorZPWritePrettiesx40
import Derived.Test.YtlgamjgdkljfiacGreatDoorZPWritePrettiesx43
namespace Go.Proofs.YtlgamjgdkljfiacGreatDoor.PWritePretties
open Go.RowKit Go.Proofs.YtlgamjgdkljfiacGreatDoorW.PrintWords Go.Proofs.YtlgamjgdkljfiacGreatDoorW.PrintLast Go.Proofs.YtlgamjgdkljfiacGreatDoorW.PrintMore
attribute [local go_sem] max2_int min2_int max_two min_two max_three min_three max_four min_four
set_option linter.unusedVariables false
set_option linter.unusedSimpArgs false
def quarryref15_Escape.l0 : Nat → ByteArray → List Int → Int → Option (ByteArray × Int)
 | 0,_,_,_=>none
 | k + 1,x0,x4,x5=>if x5 < (x0.size : Int) then (if 0 ≤ x5 then ((quarryref15_one.f (bt x0 x5)).bind fun t482=>(if x4.length + t482.size < 140737488355328 then (quarryref15_Escape.l0 k x0 (x4 ++ bytesOf t482) (wrap64 (x5 + 1))) else (none))) else (none)) else (some (strOfNums x4,0))
def quarryref15_Escape.f (k : Nat) (a0 : ByteArray) : Option (ByteArray × Int):=(quarryref05_Bad.f k a0).bind fun t481=>(if t481 ≥ 0 then (some ((⟨#[]⟩ : ByteArray),50)) else (quarryref15_Escape.l0 k a0 ([] : List Int) 0))
set_option maxHeartbeats 8000000 in
set_option maxRecDepth 100000 in
theorem quarryref15_Escape.calls (k : Nat) (a0 : ByteArray) (r1 : ByteArray) (r2 : Int) (w : World) (h : quarryref15_Escape.f k a0 = some (r1,r2)) :
  Calls Tryz.prog 58 #[.string a0] w fun e w'=>e = .returned (.tuple #[.string r1,.int .i64 r2]) ∧ Below w.heap.size w w':=by
 have HB:=Aside0.mk (Below.refl w.heap.size w);have H : ((quarryref05_Bad.f k a0).bind fun t481=>(if t481 ≥ 0 then (some ((⟨#[]⟩ : ByteArray),50)) else (quarryref15_Escape.l0 k a0 ([] : List Int) 0))) = some (r1,r2):=h;clear h;replace H:=Option.bind_eq_some_iff.mp H;obtain ⟨t481,A20,H⟩:=H;replace H : (if t481 ≥ 0 then (some ((⟨#[]⟩ : ByteArray),50)) else (quarryref15_Escape.l0 k a0 ([] : List Int) 0)) = some (r1,r2):=H;have A2:=Aside0.mk A20;clear A20
 by_cases c3 : t481 ≥ 0
 ·rw [if_pos c3] at H
  have c3b0 : decide (0 ≤ t481) = true:=decide_eq_true c3;clear c3
  simp only [Option.some.injEq,Prod.mk.injEq] at H
  obtain ⟨rfl,rfl⟩:=H;go_enter Tryz.func58,Tryz.ntmps58
  go_wp2_with (first|((with_reducible refine gate_callee (f:=73) rfl ?_);refine goesL_ (some 7) rfl rfl Tryz.func73 (by kernel_rfl) rfl #[.string a0] rfl am_ ?_;(with_reducible refine (quarryref05_Bad.calls k a0 t481 _ A2.out).mono ?_);rintro e w4 ⟨rfl,hb⟩;refine ⟨_,rfl,?_⟩;have n0_:=Aside0.mk (below_step (hb_ HB) hb);clear HB;have HB:=n0_;clear n0_;(try clear hb);(try clear hb2);(try clear hk);(try clear hi)))
  go_ret2
  exact ⟨er_,(hb_ HB)⟩
 rw [if_neg c3] at H
 have c3b0 : decide (0 ≤ t481) = false:=decide_eq_false c3;clear c3;have H':=Aside0.mk H;clear H;go_enter Tryz.func58,Tryz.ntmps58
 go_wp2_with (first|((with_reducible refine gate_callee (f:=73) rfl ?_);refine goesL_ (some 7) rfl rfl Tryz.func73 (by kernel_rfl) rfl #[.string a0] rfl am_ ?_;(with_reducible refine (quarryref05_Bad.calls k a0 t481 _ A2.out).mono ?_);rintro e w5 ⟨rfl,hb⟩;refine ⟨_,rfl,?_⟩;have n0_:=Aside0.mk (below_step (hb_ HB) hb);clear HB;have HB:=n0_;clear n0_;(try clear hb);(try clear hb2);(try clear hk);(try clear hi)))
 go_loopg [4,5] k (fun kq v4 v5 w'=>∃ (x4_1 : List Int) (x5_1 : Int),v5 = .int .i64 x5_1 ∧ Aside0 (quarryref15_Escape.l0 kq a0 x4_1 x5_1 = some (r1,r2)) ∧ Aside0 (kq ≤ k) ∧ Aside0 (Kd.R (Kd.int .u8) 5 w' w.heap.size (fun _=>True) v4 x4_1) ∧ Aside0 (Below w.heap.size w w'))
 case atStart=>exact ⟨(([] : List Int)),(0),rr_,H',⟨Nat.le_refl _⟩,⟨by first|exact Kd.R_nil _ _ _ _ _|exact Kd.N_nil _ _ _ _ _|exact Kd.V_nil _ _ _ _ _|exact Kd.Q_nil _ _ _ _ _|exact Kd.S_nil _ _ _ _ _⟩,⟨(hb_ HB)⟩⟩
 case round =>
  clear H'
  try clear HB
  obtain ⟨x4_1,x5_1,rfl,HA,HK1,HO_4,HB⟩:=hrel
  cases gk with
  | zero=>exact absurd HA.out (by simp [quarryref15_Escape.l0])
  | succ k1 =>
   have H:=HA.out;clear HA
   simp only [quarryref15_Escape.l0] at H
   by_cases c6 : x5_1 < (a0.size : Int)
   ·rw [if_pos c6] at H
    have c6b0 : decide (x5_1 < (a0.size : Int)) = true:=decide_eq_true c6;clear c6
    by_cases c7 : 0 ≤ x5_1
    ·rw [if_pos c7] at H
     have c7b0 : decide (0 ≤ x5_1) = true:=decide_eq_true c7;clear c7;replace H:=Option.bind_eq_some_iff.mp H;obtain ⟨t482,A90,H⟩:=H;replace H : (if x4_1.length + t482.size < 140737488355328 then (quarryref15_Escape.l0 k1 a0 (x4_1 ++ bytesOf t482) (wrap64 (x5_1 + 1))) else (none)) = some (r1,r2):=H;have A9:=Aside0.mk A90;clear A90
     by_cases c10 : x4_1.length + t482.size < 140737488355328
     ·rw [if_pos c10] at H
      have LMc10:=Aside0.mk c10;clear c10
      obtain ⟨y483,hy483⟩ : ∃ y_ : List Int,y_ = (x4_1 ++ bytesOf t482):=⟨_,rfl⟩
      replace H : (quarryref15_Escape.l0 k1 a0 y483 (wrap64 (x5_1 + 1))) = some (r1,r2):=by first|(rw [hy483];with_reducible exact H)|(have H2_:=(Option.bind_some _ _).symm.trans H;rw [hy483];with_reducible exact H2_)|(have H2_:=(Option.bind_some _ _).symm.trans H;with_reducible exact H2_)|with_reducible exact H|(rw [hy483];exact H)|exact H
      have Ny483:=Aside0.mk hy483;clear hy483;have H':=Aside0.mk H;clear H;have p8 : 0 ≤ (x5_1 : Int):=of_decide_eq_true aa_;have q8 : x5_1 < (a0.size : Int):=of_decide_eq_true aa_;have hx8:=bt_at a0 x5_1;replace p8:=eq_true p8;replace q8:=eq_true q8
      go_wp2_with (first|((with_reducible refine gate_callee (f:=74) rfl ?_);refine goesL_ (some 19) rfl rfl Tryz.func74 (by kernel_rfl) rfl #[.int .u8 (bt a0 x5_1)] rfl am_ ?_;(with_reducible refine (quarryref15_one.calls (bt a0 x5_1) t482 _ A9.out).mono ?_);rintro e w11 ⟨rfl,hb⟩;refine ⟨_,rfl,?_⟩;have n_:=J_ (Kd.R_below (rk_ HO_4) hb) (Aside0.mk (below_step (hb_ HB) hb));clear HO_4 HB;obtain ⟨HO_4,HB⟩:=n_;(try clear hb);(try clear hb2);(try clear hk);(try clear hi))|(at_builtin;refine print_append_str (w0:=w) w.heap.size rfl (.tmp 15) _ 43 9 5 rfl Tryz.underlying43 Tryz.underlying9 info5 u4 x4_1 t482 rfl rfl ?aO ?aB ?aS ?aL ?_;(case aB=>exact (hb_ HB));(case aO=>exact (Kd.own_of_R (rk_ HO_4)));(case aS=>exact (below_size (hb_ HB)));(case aL=>have:=LMc10.out;first|omega|exact Nat.le_of_lt this);intro v484 w12 ho0 hb hg;have ho:=Kd.R_of_own (h1:=fun _=>rfl) (ok:=fun _=>True) ho0 (fun _ _=>trivial);clear ho0;have hat:=True.intro;rw [← Ny483.out] at ho;change Kd.R (Kd.int .u8) 5 w12 w.heap.size (fun _=>True) v484 y483 at ho;have n_:=J_ (hb) (Aside0.mk (ho));clear HB HO_4;obtain ⟨HB,HO485⟩:=n_;clear ho hb hg hat))
      go_roundg k1
      case measure=>have:=HK1.out;omega
      case rel=>exact ⟨(y483),(wrap64 (x5_1 + 1)),rr_,(by first|exact H'|(subst_vars;exact H')),⟨by have:=HK1.out;omega⟩,⟨(rk_ HO485)⟩,⟨(hb_ HB)⟩⟩
     rw [if_neg c10] at H
     exact absurd H (by simp)
    rw [if_neg c7] at H
    exact absurd H (by simp)
   rw [if_neg c6] at H
   have c6b0 : decide (x5_1 < (a0.size : Int)) = false:=decide_eq_false c6;clear c6
   simp only [Option.some.injEq,Prod.mk.injEq] at H
   obtain ⟨rfl,rfl⟩:=H;have hcv13:=own_string (P:=Tryz.prog) Tryz.underlying43 Tryz.underlying5 Tryz.underlying9 (Kd.own_of_R HO_4.out);go_wp2
   go_ret2
   exact ⟨er_,(hb_ HB)⟩
def quarryref18_Quoted.f (k : Nat) (a0 : ByteArray) : Option (ByteArray):=(quarryref15_Escape.f k a0).bind fun bt486=>(if 1 + bt486.1.size ≤ 9223372036854775807 then (if ((⟨#[34]⟩ : ByteArray) ++ bt486.1).size + 1 ≤ 9223372036854775807 then (some (((⟨#[34]⟩ : ByteArray) ++ bt486.1) ++ (⟨#[34]⟩ : ByteArray))) else (none)) else (none))
set_option maxHeartbeats 8000000 in
set_option maxRecDepth 100000 in
theorem quarryref18_Quoted.calls (k : Nat) (a0 : ByteArray) (r : ByteArray) (w : World) (h : quarryref18_Quoted.f k a0 = some r) :
  Calls Tryz.prog 43 #[.string a0] w fun e w'=>e = .returned (.string r) ∧ Below w.heap.size w w':=by
 have HB:=Aside0.mk (Below.refl w.heap.size w);have H : ((quarryref15_Escape.f k a0).bind fun bt486=>(if 1 + bt486.1.size ≤ 9223372036854775807 then (if ((⟨#[34]⟩ : ByteArray) ++ bt486.1).size + 1 ≤ 9223372036854775807 then (some (((⟨#[34]⟩ : ByteArray) ++ bt486.1) ++ (⟨#[34]⟩ : ByteArray))) else (none)) else (none))) = some r:=h;clear h;replace H:=Option.bind_eq_some_iff.mp H;obtain ⟨⟨t486,t487⟩,A20,H⟩:=H;replace H : (if 1 + t486.size ≤ 9223372036854775807 then (if ((⟨#[34]⟩ : ByteArray) ++ t486).size + 1 ≤ 9223372036854775807 then (some (((⟨#[34]⟩ : ByteArray) ++ t486) ++ (⟨#[34]⟩ : ByteArray))) else (none)) else (none)) = some r:=H;have A2:=Aside0.mk A20;clear A20
 by_cases c3 : 1 + t486.size ≤ 9223372036854775807
 ·rw [if_pos c3] at H
  have c3b0:=eq_true c3;have c3b1 : decide (1 + t486.size ≤ 9223372036854775807) = true:=decide_eq_true c3
  try have c3b2 : (9223372036854775807 < 1 + t486.size) = False:=eq_false (Nat.not_lt.2 c3)
  by_cases c4 : ((⟨#[34]⟩ : ByteArray) ++ t486).size + 1 ≤ 9223372036854775807
  ·rw [if_pos c4] at H
   have c4b0:=eq_true c4;have c4b1 : decide (((⟨#[34]⟩ : ByteArray) ++ t486).size + 1 ≤ 9223372036854775807) = true:=decide_eq_true c4
   try have c4b2 : (9223372036854775807 < ((⟨#[34]⟩ : ByteArray) ++ t486).size + 1) = False:=eq_false (Nat.not_lt.2 c4)
   try have c4b4 : (9223372036854775807 < 1 + t486.size + 1) = False:=eq_false (Nat.not_lt.2 (by have h_:=c4;simp only [ByteArray.size_append] at h_;exact h_))
   obtain rfl:=Option.some.inj H;go_enter Tryz.func43,Tryz.ntmps43
   go_wp2_with (first|((with_reducible refine gate_callee (f:=58) rfl ?_);refine goesL_ (some 7) rfl rfl Tryz.func58 (by kernel_rfl) rfl #[.string a0] rfl am_ ?_;(with_reducible refine (quarryref15_Escape.calls k a0 t486 t487 _ A2.out).mono ?_);rintro e w5 ⟨rfl,hb⟩;refine ⟨_,rfl,?_⟩;have n0_:=Aside0.mk (below_step (hb_ HB) hb);clear HB;have HB:=n0_;clear n0_;(try clear hb);(try clear hb2);(try clear hk);(try clear hi)))
   go_ret;exact ⟨er_,(hb_ HB)⟩
  rw [if_neg c4] at H
  exact absurd H (by simp)
 rw [if_neg c3] at H
 exact absurd H (by simp)
def quarryref18_word.f (k : Nat) (a0_0 : Int) (a0_1 : Bool) (a0_2 : ByteArray) (a0_3 : ByteArray) (l0_4 : List ByteArray) (l0_5 : List (S25)) : Option (ByteArray):=if a0_0 = 1 then (some (⟨#[110,117,108,108]⟩ : ByteArray)) else (if a0_0 = 2 then (if a0_1 = true then (some (⟨#[116,114,117,101]⟩ : ByteArray)) else (some (⟨#[102,97,108,115,101]⟩ : ByteArray))) else (if a0_0 = 3 then (some a0_2) else ((quarryref18_Quoted.f k a0_3).bind fun t489=>(some t489))))
set_option maxHeartbeats 8000000 in
set_option maxRecDepth 100000 in
theorem quarryref18_word.calls (k : Nat) (a0_0 : Int) (a0_1 : Bool) (a0_2 : ByteArray) (a0_3 : ByteArray) (A0_4 : Option Addr) (c0_4 : Nat) (l0_4 : List ByteArray) (A0_5 : Option Addr) (c0_5 : Nat) (l0_5 : List (S25)) (r : ByteArray) (w : World) (hr0_4 : Kd.C Kd.string w A0_4 l0_4.length l0_4) (hc0_4 : l0_4.length ≤ c0_4) (hr0_5 : Kd.C k25 w A0_5 l0_5.length l0_5) (hc0_5 : l0_5.length ≤ c0_5) (h : quarryref18_word.f k a0_0 a0_1 a0_2 a0_3 l0_4 l0_5 = some r) :
  Calls Tryz.prog 40 #[.agg #[.int .i64 a0_0,.bool a0_1,.string a0_2,.string a0_3,.slice A0_4 l0_4.length c0_4,.slice A0_5 l0_5.length c0_5]] w fun e w'=>e = .returned (.string r) ∧ Below w.heap.size w w':=by
 have hu25:=Tryz.underlying25;have HR0_4:=Aside0.mk hr0_4;have HC0_4:=Aside0.mk hc0_4;clear hr0_4 hc0_4;have HR0_5:=Aside0.mk hr0_5;have HC0_5:=Aside0.mk hc0_5;clear hr0_5 hc0_5;have HB:=Aside0.mk (Below.refl w.heap.size w);have H : (if a0_0 = 1 then (some (⟨#[110,117,108,108]⟩ : ByteArray)) else (if a0_0 = 2 then (if a0_1 = true then (some (⟨#[116,114,117,101]⟩ : ByteArray)) else (some (⟨#[102,97,108,115,101]⟩ : ByteArray))) else (if a0_0 = 3 then (some a0_2) else ((quarryref18_Quoted.f k a0_3).bind fun t489=>(some t489))))) = some r:=h;clear h
 by_cases c2 : a0_0 = 1
 ·rw [if_pos c2] at H
  have c2b0 : (a0_0 == 1) = true:=beq_iff_eq.mpr c2;have c2b1 : (a0_0 != 1) = false:=bne_eq_false_iff_eq.mpr c2;clear c2;obtain rfl:=Option.some.inj H;go_enter Tryz.func40,Tryz.ntmps40
  go_wp2_with (first|((with_reducible refine gate_dst (N:=1) rfl ?_);refine box_event ?hg (N:=1) ?hd (cs:=#[.int .i64 a0_0,.bool a0_1,.string a0_2,.string a0_3,.slice A0_4 l0_4.length c0_4,.slice A0_5 l0_5.length c0_5]) (t:=25) ?hr ?_;(case hd=>rfl);(case hg=>rfl);(case hr=>first|(go_simp;done)|(go_simp;rfl));intro gb488 hg w3 hbox hb;have n_:=J_ (below_step (hb_ HB) hb) (J_ (hbox) (J_ (bs_ hg HB) (Aside0.mk (bs_ hg HB))));clear HB;obtain ⟨HB,BK488,GW488,GE488⟩:=n_;clear hb hbox hg;obtain ⟨hcz4_0,hcz4_1,hcz4_2,hcz4_3,hcz4_4,hcz4_5,hfz4_0,hfz4_1,hfz4_2,hfz4_3,hfz4_4,hfz4_5⟩:=cf6_ BK488))
  go_ret;exact ⟨er_,(hb_ HB)⟩
 rw [if_neg c2] at H
 have c2b0 : (a0_0 == 1) = false:=beq_eq_false_iff_ne.mpr c2;have c2b1 : (a0_0 != 1) = true:=bne_iff_ne.mpr c2
 by_cases c5 : a0_0 = 2
 ·rw [if_pos c5] at H
  have c5b0 : (a0_0 == 2) = true:=beq_iff_eq.mpr c5;have c5b1 : (a0_0 != 2) = false:=bne_eq_false_iff_eq.mpr c5;clear c5
  by_cases c6 : a0_1 = true
  ·subst c6
   have H1 : (some (⟨#[116,114,117,101]⟩ : ByteArray)) = some r:=by rw [if_pos rfl] at H;exact H
   clear H;have H:=H1;clear H1;obtain rfl:=Option.some.inj H;go_enter Tryz.func40,Tryz.ntmps40
   go_wp2_with (first|((with_reducible refine gate_dst (N:=1) rfl ?_);refine box_event ?hg (N:=1) ?hd (cs:=#[.int .i64 a0_0,.bool true,.string a0_2,.string a0_3,.slice A0_4 l0_4.length c0_4,.slice A0_5 l0_5.length c0_5]) (t:=25) ?hr ?_;(case hd=>rfl);(case hg=>rfl);(case hr=>first|(go_simp;done)|(go_simp;rfl));intro gb488 hg w7 hbox hb;have n_:=J_ (below_step (hb_ HB) hb) (J_ (hbox) (J_ (bs_ hg HB) (Aside0.mk (bs_ hg HB))));clear HB;obtain ⟨HB,BK488,GW488,GE488⟩:=n_;clear hb hbox hg;obtain ⟨hcz8_0,hcz8_1,hcz8_2,hcz8_3,hcz8_4,hcz8_5,hfz8_0,hfz8_1,hfz8_2,hfz8_3,hfz8_4,hfz8_5⟩:=cf6_ BK488))
   go_ret;exact ⟨er_,(hb_ HB)⟩
  replace c6:=Bool.eq_false_iff.mpr c6;subst c6
  have H1 : (some (⟨#[102,97,108,115,101]⟩ : ByteArray)) = some r:=by rw [if_neg (show ¬ (false = true) by decide)] at H;exact H
  clear H;have H:=H1;clear H1;obtain rfl:=Option.some.inj H;go_enter Tryz.func40,Tryz.ntmps40
  go_wp2_with (first|((with_reducible refine gate_dst (N:=1) rfl ?_);refine box_event ?hg (N:=1) ?hd (cs:=#[.int .i64 a0_0,.bool false,.string a0_2,.string a0_3,.slice A0_4 l0_4.length c0_4,.slice A0_5 l0_5.length c0_5]) (t:=25) ?hr ?_;(case hd=>rfl);(case hg=>rfl);(case hr=>first|(go_simp;done)|(go_simp;rfl));intro gb488 hg w9 hbox hb;have n_:=J_ (below_step (hb_ HB) hb) (J_ (hbox) (J_ (bs_ hg HB) (Aside0.mk (bs_ hg HB))));clear HB;obtain ⟨HB,BK488,GW488,GE488⟩:=n_;clear hb hbox hg;obtain ⟨hcz10_0,hcz10_1,hcz10_2,hcz10_3,hcz10_4,hcz10_5,hfz10_0,hfz10_1,hfz10_2,hfz10_3,hfz10_4,hfz10_5⟩:=cf6_ BK488))
  go_ret;exact ⟨er_,(hb_ HB)⟩
 rw [if_neg c5] at H
 have c5b0 : (a0_0 == 2) = false:=beq_eq_false_iff_ne.mpr c5;have c5b1 : (a0_0 != 2) = true:=bne_iff_ne.mpr c5
 by_cases c11 : a0_0 = 3
 ·rw [if_pos c11] at H
  have c11b0 : (a0_0 == 3) = true:=beq_iff_eq.mpr c11;have c11b1 : (a0_0 != 3) = false:=bne_eq_false_iff_eq.mpr c11;clear c11;obtain rfl:=Option.some.inj H;go_enter Tryz.func40,Tryz.ntmps40
  go_wp2_with (first|((with_reducible refine gate_dst (N:=1) rfl ?_);refine box_event ?hg (N:=1) ?hd (cs:=#[.int .i64 a0_0,.bool a0_1,.string a0_2,.string a0_3,.slice A0_4 l0_4.length c0_4,.slice A0_5 l0_5.length c0_5]) (t:=25) ?hr ?_;(case hd=>rfl);(case hg=>rfl);(case hr=>first|(go_simp;done)|(go_simp;rfl));intro gb488 hg w12 hbox hb;have n_:=J_ (below_step (hb_ HB) hb) (J_ (hbox) (J_ (bs_ hg HB) (Aside0.mk (bs_ hg HB))));clear HB;obtain ⟨HB,BK488,GW488,GE488⟩:=n_;clear hb hbox hg;obtain ⟨hcz13_0,hcz13_1,hcz13_2,hcz13_3,hcz13_4,hcz13_5,hfz13_0,hfz13_1,hfz13_2,hfz13_3,hfz13_4,hfz13_5⟩:=cf6_ BK488))
  go_ret;exact ⟨er_,(hb_ HB)⟩
 rw [if_neg c11] at H
 have c11b0 : (a0_0 == 3) = false:=beq_eq_false_iff_ne.mpr c11;have c11b1 : (a0_0 != 3) = true:=bne_iff_ne.mpr c11;replace H:=Option.bind_eq_some_iff.mp H;obtain ⟨t489,A140,H⟩:=H;replace H : (some t489) = some r:=H;have A14:=Aside0.mk A140;clear A140;obtain rfl:=Option.some.inj H;go_enter Tryz.func40,Tryz.ntmps40
 go_wp2_with (first|((with_reducible refine gate_dst (N:=1) rfl ?_);refine box_event ?hg (N:=1) ?hd (cs:=#[.int .i64 a0_0,.bool a0_1,.string a0_2,.string a0_3,.slice A0_4 l0_4.length c0_4,.slice A0_5 l0_5.length c0_5]) (t:=25) ?hr ?_;(case hd=>rfl);(case hg=>rfl);(case hr=>first|(go_simp;done)|(go_simp;rfl));intro gb488 hg w15 hbox hb;have n_:=J_ (below_step (hb_ HB) hb) (J_ (hbox) (J_ (bs_ hg HB) (Aside0.mk (bs_ hg HB))));clear HB;obtain ⟨HB,BK488,GW488,GE488⟩:=n_;clear hb hbox hg;obtain ⟨hcz16_0,hcz16_1,hcz16_2,hcz16_3,hcz16_4,hcz16_5,hfz16_0,hfz16_1,hfz16_2,hfz16_3,hfz16_4,hfz16_5⟩:=cf6_ BK488)|((with_reducible refine gate_callee (f:=43) rfl ?_);refine goesL_ (some 17) rfl rfl Tryz.func43 (by kernel_rfl) rfl #[.string a0_3] rfl am_ ?_;(with_reducible refine (quarryref18_Quoted.calls k a0_3 t489 _ A14.out).mono ?_);rintro e w17 ⟨rfl,hb⟩;refine ⟨_,rfl,?_⟩;have n_:=J_ (bkb_ BK488 hb) (Aside0.mk (below_step (hb_ HB) hb));clear BK488 HB;obtain ⟨BK488,HB⟩:=n_;(try clear hb);(try clear hb2);(try clear hk);(try clear hi)))
 go_ret;exact ⟨er_,(hb_ HB)⟩
def quarryref18_ends.f (a0_0 : Int) (a0_1 : Bool) (a0_2 : ByteArray) (a0_3 : ByteArray) (l0_4 : List ByteArray) (l0_5 : List (S25)) : Option (ByteArray × ByteArray):=if a0_0 = 5 then (some ((⟨#[91]⟩ : ByteArray),(⟨#[93]⟩ : ByteArray))) else (some ((⟨#[123]⟩ : ByteArray),(⟨#[125]⟩ : ByteArray)))
set_option maxHeartbeats 8000000 in
set_option maxRecDepth 100000 in
theorem quarryref18_ends.calls (a0_0 : Int) (a0_1 : Bool) (a0_2 : ByteArray) (a0_3 : ByteArray) (A0_4 : Option Addr) (c0_4 : Nat) (l0_4 : List ByteArray) (A0_5 : Option Addr) (c0_5 : Nat) (l0_5 : List (S25)) (r1 : ByteArray) (r2 : ByteArray) (w : World) (hr0_4 : Kd.C Kd.string w A0_4 l0_4.length l0_4) (hc0_4 : l0_4.length ≤ c0_4) (hr0_5 : Kd.C k25 w A0_5 l0_5.length l0_5) (hc0_5 : l0_5.length ≤ c0_5) (h : quarryref18_ends.f a0_0 a0_1 a0_2 a0_3 l0_4 l0_5 = some (r1,r2)) :
  Calls Tryz.prog 41 #[.agg #[.int .i64 a0_0,.bool a0_1,.string a0_2,.string a0_3,.slice A0_4 l0_4.length c0_4,.slice A0_5 l0_5.length c0_5]] w fun e w'=>e = .returned (.tuple #[.string r1,.string r2]) ∧ Below w.heap.size w w':=by
 have hu25:=Tryz.underlying25;have HR0_4:=Aside0.mk hr0_4;have HC0_4:=Aside0.mk hc0_4;clear hr0_4 hc0_4;have HR0_5:=Aside0.mk hr0_5;have HC0_5:=Aside0.mk hc0_5;clear hr0_5 hc0_5;have HB:=Aside0.mk (Below.refl w.heap.size w);have H : (if a0_0 = 5 then (some ((⟨#[91]⟩ : ByteArray),(⟨#[93]⟩ : ByteArray))) else (some ((⟨#[123]⟩ : ByteArray),(⟨#[125]⟩ : ByteArray)))) = some (r1,r2):=h;clear h
 by_cases c2 : a0_0 = 5
 ·rw [if_pos c2] at H
  have c2b0 : (a0_0 == 5) = true:=beq_iff_eq.mpr c2;have c2b1 : (a0_0 != 5) = false:=bne_eq_false_iff_eq.mpr c2;clear c2
  simp only [Option.some.injEq,Prod.mk.injEq] at H
  obtain ⟨rfl,rfl⟩:=H;go_enter Tryz.func41,Tryz.ntmps41
  go_wp2_with (first|((with_reducible refine gate_dst (N:=1) rfl ?_);refine box_event ?hg (N:=1) ?hd (cs:=#[.int .i64 a0_0,.bool a0_1,.string a0_2,.string a0_3,.slice A0_4 l0_4.length c0_4,.slice A0_5 l0_5.length c0_5]) (t:=25) ?hr ?_;(case hd=>rfl);(case hg=>rfl);(case hr=>first|(go_simp;done)|(go_simp;rfl));intro gb490 hg w3 hbox hb;have n_:=J_ (below_step (hb_ HB) hb) (J_ (hbox) (J_ (bs_ hg HB) (Aside0.mk (bs_ hg HB))));clear HB;obtain ⟨HB,BK490,GW490,GE490⟩:=n_;clear hb hbox hg;obtain ⟨hcz4_0,hcz4_1,hcz4_2,hcz4_3,hcz4_4,hcz4_5,hfz4_0,hfz4_1,hfz4_2,hfz4_3,hfz4_4,hfz4_5⟩:=cf6_ BK490))
  go_ret2
  exact ⟨er_,(hb_ HB)⟩
 rw [if_neg c2] at H
 have c2b0 : (a0_0 == 5) = false:=beq_eq_false_iff_ne.mpr c2;have c2b1 : (a0_0 != 5) = true:=bne_iff_ne.mpr c2
 simp only [Option.some.injEq,Prod.mk.injEq] at H
 obtain ⟨rfl,rfl⟩:=H;go_enter Tryz.func41,Tryz.ntmps41
 go_wp2_with (first|((with_reducible refine gate_dst (N:=1) rfl ?_);refine box_event ?hg (N:=1) ?hd (cs:=#[.int .i64 a0_0,.bool a0_1,.string a0_2,.string a0_3,.slice A0_4 l0_4.length c0_4,.slice A0_5 l0_5.length c0_5]) (t:=25) ?hr ?_;(case hd=>rfl);(case hg=>rfl);(case hr=>first|(go_simp;done)|(go_simp;rfl));intro gb490 hg w5 hbox hb;have n_:=J_ (below_step (hb_ HB) hb) (J_ (hbox) (J_ (bs_ hg HB) (Aside0.mk (bs_ hg HB))));clear HB;obtain ⟨HB,BK490,GW490,GE490⟩:=n_;clear hb hbox hg;obtain ⟨hcz6_0,hcz6_1,hcz6_2,hcz6_3,hcz6_4,hcz6_5,hfz6_0,hfz6_1,hfz6_2,hfz6_3,hfz6_4,hfz6_5⟩:=cf6_ BK490))
 go_ret2
 exact ⟨er_,(hb_ HB)⟩
def quarryref18_spaces.l0 : Nat → List Int → Int → Int → Option (List Int)
 | 0,_,_,_=>none
 | k + 1,x0,x1,x5=>if x5 < x1 then (if x0.length < 140737488355328 then (quarryref18_spaces.l0 k (x0 ++ [32]) x1 (wrap64 (x5 + 1))) else (none)) else (some x0)
def quarryref18_spaces.f (k : Nat) (l0 : List Int) (a1 : Int) : Option (List Int):=quarryref18_spaces.l0 k l0 a1 0
set_option maxHeartbeats 8000000 in
set_option maxRecDepth 100000 in
theorem quarryref18_spaces.calls (k : Nat) (P0_ : Nat → Prop) (u9000_ : Value) (l0 : List Int) (a1 : Int) (r : List Int) (w0 w : World) (hB : Below w0.heap.size w0 w) (ho0 : Kd.R (Kd.int .u8) 5 w w0.heap.size P0_ u9000_ l0) (h : quarryref18_spaces.f k l0 a1 = some r) :
  Calls Tryz.prog 42 #[u9000_,.int .i64 a1] w fun e w'=>∃ v0_ : Value,e = .returned (v0_) ∧ Kd.R (Kd.int .u8) 5 w' w0.heap.size (fun k_=>(P0_ k_ ∨ w.heap.size ≤ k_)) v0_ r ∧ Below w0.heap.size w0 w' ∧ Kept w w' (fun k_=>P0_ k_):=by
 have HO0:=Aside0.mk (show Kd.R (Kd.int .u8) 5 w w0.heap.size (fun k_=>(P0_ k_ ∨ w.heap.size ≤ k_)) u9000_ l0 from Kd.R_mono ho0 (fun k_ hk=>(.inl hk)));have HK:=Aside0.mk (Kept.refl w (fun k_=>P0_ k_));have HW0:=Aside0.mk hB.size;have HB:=Aside0.mk hB;clear hB;have H : (quarryref18_spaces.l0 k l0 a1 0) = some r:=h;clear h;have H':=Aside0.mk H;clear H;go_enter Tryz.func42,Tryz.ntmps42;go_wp2
 go_loopg [0,5] k (fun kq v0 v5 w'=>∃ (x0_1 : List Int) (x5_1 : Int),v5 = .int .i64 x5_1 ∧ Aside0 (quarryref18_spaces.l0 kq x0_1 a1 x5_1 = some r) ∧ Aside0 (kq ≤ k) ∧ Aside0 (Kd.R (Kd.int .u8) 5 w' w0.heap.size (fun k_=>(P0_ k_ ∨ w.heap.size ≤ k_)) v0 x0_1) ∧ Aside0 (Kept w w' (fun k_=>P0_ k_)) ∧ Aside0 (Below w0.heap.size w0 w'))
 case atStart=>exact ⟨(l0),(0),rr_,H',⟨Nat.le_refl _⟩,⟨(rk_ HO0)⟩,⟨by repeat (first|(with_reducible first|exact HK.out|apply Kept.alloc|apply Kept.drewN|apply Kept.drew)|exact HK.out)⟩,⟨(hb_ HB)⟩⟩
 case round =>
  clear H'
  try clear HK
  try clear HB
  obtain ⟨x0_1,x5_1,rfl,HA,HK1,HO_0,HK,HB⟩:=hrel
  cases gk with
  | zero=>exact absurd HA.out (by simp [quarryref18_spaces.l0])
  | succ k1 =>
   have H:=HA.out;clear HA
   simp only [quarryref18_spaces.l0] at H
   by_cases c3 : x5_1 < a1
   ·rw [if_pos c3] at H
    have c3b0 : decide (x5_1 < a1) = true:=decide_eq_true c3;clear c3
    by_cases c4 : x0_1.length < 140737488355328
    ·rw [if_pos c4] at H
     have LMc4:=Aside0.mk c4;clear c4
     obtain ⟨y491,hy491⟩ : ∃ y_ : List Int,y_ = (x0_1 ++ [32]):=⟨_,rfl⟩
     replace H : (quarryref18_spaces.l0 k1 y491 a1 (wrap64 (x5_1 + 1))) = some r:=by first|(rw [hy491];with_reducible exact H)|(have H2_:=(Option.bind_some _ _).symm.trans H;rw [hy491];with_reducible exact H2_)|(have H2_:=(Option.bind_some _ _).symm.trans H;with_reducible exact H2_)|with_reducible exact H|(rw [hy491];exact H)|exact H
     have Ny491:=Aside0.mk hy491;clear hy491;have H':=Aside0.mk H;clear H
     go_wp2_with (first|((with_reducible refine gate_builtin (b:=.append) (xs:=#[.tmp 11,.tmp 12]) rfl ?_);at_builtin;refine Kd.R_append (Kd.int .u8) (w0:=w0) w0.heap.size rfl (.tmp 11) (.tmp 12) 43 5 (.int .u8 0) 1 rfl Tryz.underlying43 info5 rfl (by decide) (by omega) u0 x0_1 32 [.int .u8 32] (fun k_=>(P0_ k_ ∨ w.heap.size ≤ k_)) (fun _=>False) rfl rfl ?aP (fun _ hk=>hk.elim) ?aF ?aO ?aB ?aS ?aL ?_;(case aP=>exact rfl);(case aB=>exact (hb_ HB));(case aF=>exact (fun k_ hk=>(.inr (Nat.le_trans (by first|exact HK.out.1|exact (show Kept w _ (fun k_=>P0_ k_) from by repeat (first|(with_reducible first|exact HK.out|apply Kept.alloc|apply Kept.drewN|apply Kept.drew)|exact HK.out)).1) hk))));(case aO=>exact (rk_ HO_0));(case aS=>exact (below_size (hb_ HB)));(case aL=>have:=LMc4.out;first|omega|exact Nat.le_of_lt this);intro v492 w5 ho hb hg hat;rw [← Ny491.out] at ho;have n_:=J_ (hb) (J_ (Kept.of_grown (S:=(fun k_=>P0_ k_)) hg (by repeat (first|(with_reducible first|exact HK.out|apply Kept.alloc|apply Kept.drewN|apply Kept.drew)|exact HK.out)) (fun k_ e_=>(HO_0.out.1 k_ e_))) (Aside0.mk (ho)));clear HB HK HO_0;obtain ⟨HB,HK,HO493⟩:=n_;clear ho hb hg hat))
     go_roundg k1
     case measure=>have:=HK1.out;omega
     case rel=>exact ⟨(y491),(wrap64 (x5_1 + 1)),rr_,(by first|exact H'|(subst_vars;exact H')),⟨by have:=HK1.out;omega⟩,⟨(rk_ HO493)⟩,⟨by repeat (first|(with_reducible first|exact HK.out|apply Kept.alloc|apply Kept.drewN|apply Kept.drew)|exact HK.out)⟩,⟨(hb_ HB)⟩⟩
    rw [if_neg c4] at H
    exact absurd H (by simp)
   rw [if_neg c3] at H
   have c3b0 : decide (x5_1 < a1) = false:=decide_eq_false c3;clear c3;obtain rfl:=Option.some.inj H;go_wp2
   go_ret;exact ⟨_,er_,(rk_ HO_0),(hb_ HB),by repeat (first|(with_reducible first|exact HK.out|apply Kept.alloc|apply Kept.drewN|apply Kept.drew)|exact HK.out)⟩
end Go.Proofs.YtlgamjgdkljfiacGreatDoor.PWritePretties
