-- By shrink.py.
import Derived.Test.YtfaegleohhemkaaDoorZPTreeLikesx0
import Derived.Test.YtfaegleohhemkaaDoorZPTreeLikesx1
import Derived.WalkMore
import Derived.Deep.QuietTactic
import Derived.BigQuiet
namespace Go.Proofs.YtfaegleohhemkaaDoor.PTreeLikes
open Go.RowKit Go.Proofs.YtfaegleohhemkaaDoorW.PrintWords Go.Proofs.YtfaegleohhemkaaDoorW.PrintLast Go.Proofs.YtfaegleohhemkaaDoorW.PrintMore
attribute [local go_sem] max2_int min2_int max_two min_two max_three min_three max_four min_four
set_option linter.unusedVariables false
set_option linter.unusedSimpArgs false
def all2 (rec : S25 → S25 → Option Bool) : List S25 → List S25 → Option Bool
 | [],[]=>some true
 | x :: r,y :: q=>(rec x y).bind fun t=>if t = true then all2 rec r q else some false
 | _,_=>some false
theorem all2_mono {rec rec' : S25 → S25 → Option Bool} (h : ∀ x y,LeO (rec x y) (rec' x y)) : ∀ l m,LeO (all2 rec l m) (all2 rec' l m)
 | [],[]=>LeO.refl _
 | [],_ :: _=>LeO.refl _
 | _ :: _,[]=>LeO.refl _
 | x :: r,y :: q=>by
  rw [all2,all2];exact LeO.bind (h x y) (fun t=>LeO.ite (all2_mono h r q) (LeO.refl _))
def EqC (fid : Nat) (x y : S25) (b : Bool) : Prop :=
 ∀ (A4 : Option Addr) (c4 : Nat) (A5 : Option Addr) (c5 : Nat) (B4 : Option Addr) (d4 : Nat) (B5 : Option Addr) (d5 : Nat) (w : World),Kd.C Kd.string w A4 x.f4.length x.f4 → x.f4.length ≤ c4 → Kd.C k25 w A5 x.f5.length x.f5 → x.f5.length ≤ c5 → Kd.C Kd.string w B4 y.f4.length y.f4 → y.f4.length ≤ d4 → Kd.C k25 w B5 y.f5.length y.f5 → y.f5.length ≤ d5 →
  Calls Tryd.prog fid #[.agg #[.int .i64 x.f0,.bool x.f1,.string x.f2,.string x.f3,.slice A4 x.f4.length c4,.slice A5 x.f5.length c5],.agg #[.int .i64 y.f0,.bool y.f1,.string y.f2,.string y.f3,.slice B4 y.f4.length d4,.slice B5 y.f5.length d5]] w fun e w'=>e = .returned (.bool b) ∧ Below w.heap.size w w'
theorem all2_step {rec : S25 → S25 → Option Bool} {la lb : List S25} {k : Nat} {r : Bool} (ha : k < la.length) (hb : k < lb.length) (h : all2 rec (la.drop k) (lb.drop k) = some r) : ∃ t,rec la[k] lb[k] = some t ∧ (t = true → all2 rec (la.drop (k + 1)) (lb.drop (k + 1)) = some r) ∧ (t = false → r = false):=by
 rw [List.drop_eq_getElem_cons ha,List.drop_eq_getElem_cons hb,all2] at h
 obtain ⟨t,ht,h⟩:=Option.bind_eq_some_iff.mp h;refine ⟨t,ht,fun e=>?_,fun e=>?_⟩
 ·rw [if_pos e] at h;exact h
 rw [if_neg (by rw [e];decide)] at h;exact (si_ h).symm
set_option maxHeartbeats 4000000 in
set_option maxRecDepth 100000 in
theorem eqf_same (rec : S25 → S25 → Option Bool) (hrec : ∀ x y b,rec x y = some b → EqC 5 x y b) (Aa : Option Addr) (ca : Nat) (la : List S25) (Ab : Option Addr) (cb : Nat) (lb : List S25) (r : Bool) (w : World) (ha : Kd.C k25 w Aa la.length la) (hca : la.length ≤ ca) (hb : Kd.C k25 w Ab lb.length lb) (hcb : lb.length ≤ cb) (h : (if la.length = lb.length then all2 rec la lb else some false) = some r) :
  Calls Tryd.prog 14 #[.slice Aa la.length ca,.slice Ab lb.length cb,.func (.func 5) #[] #[]] w fun e w'=>e = .returned (.bool r) ∧ Below w.heap.size w w':=by
 have HA:=ad_ ha;have HB:=ad_ hb;have HREC:=ad_ hrec;clear ha hb hrec;have hma:=Kd.C_max HA.out;have hmb:=Kd.C_max HB.out
 by_cases hl : la.length = lb.length
 ·rw [if_pos hl] at h
  have H:=ad_ h;have t1 : (la.length != lb.length) = false:=bne_eq_false_iff_eq.mpr hl;have t2 : ((la.length : Int) != (lb.length : Int)) = false:=bne_eq_false_iff_eq.mpr (by omega);have HL:=ad_ hl;clear h hl;go_enter Tryd.func14,Tryd.ntmps14
  go_wp2_with fail
  go_loopw [17] (fun i wr=>∃ k : Nat,k ≤ la.length ∧ i = .int .i64 k ∧ all2 rec (la.drop k) (lb.drop k) = some r ∧ Below w.heap.size w wr) (fun i _=>la.length - (intOf i).toNat)
  case atStart=>exact ⟨0,Nat.zero_le _,rfl,H.out,Below.refl _ _⟩
  case round =>
   obtain ⟨k,hk,rfl,hf,hbw⟩:=hrel;have HF:=ad_ hf;have HW:=ad_ hbw;clear hf
   by_cases hlt : k < la.length
   ·have hlt2 : k < lb.length:=by have:=HL.out;omega
    obtain ⟨t,ht,h1,h2⟩:=all2_step hlt hlt2 HF.out;have HT:=ad_ ht;have H1:=ad_ h1;have H2:=ad_ h2;obtain ⟨ad,A4,c4,A5,c5,rfl,x0,x1,x2,x3,x4,x5,l4,i4,l5,i5⟩:=at_T25 (cb_ HA.out hbw) (k : Int) (by omega) (by omega);obtain ⟨bd,B4,d4,B5,d5,rfl,y0,y1,y2,y3,y4,y5,m4,j4,m5,j5⟩:=at_T25 (cb_ HB.out hbw) (k : Int) (by omega) (by omega)
    have ea : rd_T25 la (k : Int) = la[k]:=by unfold rd_T25;simp [hlt]
    have eb : rd_T25 lb (k : Int) = lb[k]:=by unfold rd_T25;simp [hlt2]
    rw [ea] at x0 x1 x2 x3 x4 x5 l4 i4 l5 i5
    rw [eb] at y0 y1 y2 y3 y4 y5 m4 j4 m5 j5
    rw [Int.toNat_natCast] at x0 x1 x2 x3 x4 x5 y0 y1 y2 y3 y4 y5
    have I4:=ad_ i4;have I5:=ad_ i5;have J4:=ad_ j4;have J5:=ad_ j5;have ba : (ad.add (k * 6)).block < wr.heap.size:=wb_ _ _ x0;have bb : (bd.add (k * 6)).block < wr.heap.size:=wb_ _ _ y0;clear ht h1 h2 hbw ea eb i4 i5 j4 j5
    go_wp2_with fail
    refine (HREC.out la[k] lb[k] t HT.out _ _ _ _ _ _ _ _ _ (ca_ (ca_ I4.out _) _) l4 (ca_ (ca_ I5.out _) _) l5 (ca_ (ca_ J4.out _) _) m4 (ca_ (ca_ J5.out _) _) m5).mono ?_;rintro e w1 ⟨rfl,hb1⟩;have HB1:=ad_ (below_then ((HW.out.alloc HW.out.size (.cells #[.int .i64 la[k].f0,.bool la[k].f1,.string la[k].f2,.string la[k].f3,.slice A4 la[k].f4.length c4,.slice A5 la[k].f5.length c5] 25)).alloc (by simp;have:=HW.out.size;omega) (.cells #[.int .i64 lb[k].f0,.bool lb[k].f1,.string lb[k].f2,.string lb[k].f3,.slice B4 lb[k].f4.length d4,.slice B5 lb[k].f5.length d5] 25)) (by simp;have:=HW.out.size;omega) hb1);clear hb1 x0 x1 x2 x3 x4 x5 y0 y1 y2 y3 y4 y5 ba bb
    cases t with
    | true =>
     have HF2:=ad_ (H1.out rfl);go_wp2
     go_roundw
     case rel=>exact ⟨k + 1,by omega,by go_num,HF2.out,HB1.out⟩
     case measure=>simp [intOf];omega
    | false =>
     have hr:=H2.out rfl;subst hr;go_wp2
     go_ret;exact ⟨rfl,HB1.out⟩
   have hke : k = la.length:=by omega
   have hr : r = true:=by
    have h:=HF.out
    rw [List.drop_of_length_le (by omega),List.drop_of_length_le (by have:=HL.out;omega)] at h
    exact (si_ h).symm
   subst hr;clear hbw hke;go_wp2
   go_ret;exact ⟨rfl,HW.out⟩
 rw [if_neg hl] at h
 obtain rfl:=si_ h;have t1 : (la.length != lb.length) = true:=bne_iff_ne.mpr hl;have t2 : ((la.length : Int) != (lb.length : Int)) = true:=bne_iff_ne.mpr (by omega);clear h hl;go_enter Tryd.func14,Tryd.ntmps14;go_wp2
 go_ret;exact ⟨rfl,Below.refl _ _⟩
def tree_Same.f : Nat → Int → Bool → ByteArray → ByteArray → List ByteArray → List (S25) → Int → Bool → ByteArray → ByteArray → List ByteArray → List (S25) → Option Bool
 | 0,_,_,_,_,_,_,_,_,_,_,_,_=>none
 | k + 1,a0_0,a0_1,a0_2,a0_3,l0_4,l0_5,a1_0,a1_1,a1_2,a1_3,l1_4,l1_5 =>
  if a0_0 = a1_0 then (if a0_1 = a1_1 then (if a0_2.toList = a1_2.toList then (if a0_3.toList = a1_3.toList then ((slices_Equal_string_string.f k l0_4 l1_4).bind fun t=>if t = true then (if l0_5.length = l1_5.length then all2 (fun x y=>tree_Same.f k x.f0 x.f1 x.f2 x.f3 x.f4 x.f5 y.f0 y.f1 y.f2 y.f3 y.f4 y.f5) l0_5 l1_5 else some false) else some false) else some false) else some false) else some false) else some false
theorem tree_Same.mono_l : ∀ k a0_0 a0_1 a0_2 a0_3 l0_4 l0_5 a1_0 a1_1 a1_2 a1_3 l1_4 l1_5,LeO (tree_Same.f k a0_0 a0_1 a0_2 a0_3 l0_4 l0_5 a1_0 a1_1 a1_2 a1_3 l1_4 l1_5) (tree_Same.f (k + 1) a0_0 a0_1 a0_2 a0_3 l0_4 l0_5 a1_0 a1_1 a1_2 a1_3 l1_4 l1_5)
 | 0=>by
  intros
  intro r h
  simp [tree_Same.f] at h
 | k + 1=>by
  intros
  rw [tree_Same.f,tree_Same.f.eq_def (k + 1 + 1)];exact LeO.ite (LeO.ite (LeO.ite (LeO.ite (LeO.bind (slices_Equal_string_string.mono _ _ _) (fun t=>LeO.ite (LeO.ite (all2_mono (fun x y=>tree_Same.mono_l k _ _ _ _ _ _ _ _ _ _ _ _) _ _) (LeO.refl _)) (LeO.refl _))) (LeO.refl _)) (LeO.refl _)) (LeO.refl _)) (LeO.refl _)
theorem tree_Same.mono : ∀ a0_0 a0_1 a0_2 a0_3 l0_4 l0_5 a1_0 a1_1 a1_2 a1_3 l1_4 l1_5 k,LeO (tree_Same.f k a0_0 a0_1 a0_2 a0_3 l0_4 l0_5 a1_0 a1_1 a1_2 a1_3 l1_4 l1_5) (tree_Same.f (k + 1) a0_0 a0_1 a0_2 a0_3 l0_4 l0_5 a1_0 a1_1 a1_2 a1_3 l1_4 l1_5):=fun a0_0 a0_1 a0_2 a0_3 l0_4 l0_5 a1_0 a1_1 a1_2 a1_3 l1_4 l1_5 k=>tree_Same.mono_l k a0_0 a0_1 a0_2 a0_3 l0_4 l0_5 a1_0 a1_1 a1_2 a1_3 l1_4 l1_5
set_option maxHeartbeats 8000000 in
set_option maxRecDepth 100000 in
theorem tree_Same.calls : ∀ (k : Nat) (a0_0 : Int) (a0_1 : Bool) (a0_2 : ByteArray) (a0_3 : ByteArray) (A0_4 : Option Addr) (c0_4 : Nat) (l0_4 : List ByteArray) (A0_5 : Option Addr) (c0_5 : Nat) (l0_5 : List (S25)) (a1_0 : Int) (a1_1 : Bool) (a1_2 : ByteArray) (a1_3 : ByteArray) (A1_4 : Option Addr) (c1_4 : Nat) (l1_4 : List ByteArray) (A1_5 : Option Addr) (c1_5 : Nat) (l1_5 : List (S25)) (r : Bool) (w : World) (hr0_4 : Kd.C Kd.string w A0_4 l0_4.length l0_4) (hc0_4 : l0_4.length ≤ c0_4) (hr0_5 : Kd.C k25 w A0_5 l0_5.length l0_5) (hc0_5 : l0_5.length ≤ c0_5) (hr1_4 : Kd.C Kd.string w A1_4 l1_4.length l1_4) (hc1_4 : l1_4.length ≤ c1_4) (hr1_5 : Kd.C k25 w A1_5 l1_5.length l1_5) (hc1_5 : l1_5.length ≤ c1_5) (h : tree_Same.f k a0_0 a0_1 a0_2 a0_3 l0_4 l0_5 a1_0 a1_1 a1_2 a1_3 l1_4 l1_5 = some r),
  Calls Tryd.prog 5 #[.agg #[.int .i64 a0_0,.bool a0_1,.string a0_2,.string a0_3,.slice A0_4 l0_4.length c0_4,.slice A0_5 l0_5.length c0_5],.agg #[.int .i64 a1_0,.bool a1_1,.string a1_2,.string a1_3,.slice A1_4 l1_4.length c1_4,.slice A1_5 l1_5.length c1_5]] w fun e w'=>e = .returned (.bool r) ∧ Below w.heap.size w w':=by
 intro k
 induction k with
 | zero =>
  intro a0_0 a0_1 a0_2 a0_3 A0_4 c0_4 l0_4 A0_5 c0_5 l0_5 a1_0 a1_1 a1_2 a1_3 A1_4 c1_4 l1_4 A1_5 c1_5 l1_5 r w hr0_4 hc0_4 hr0_5 hc0_5 hr1_4 hc1_4 hr1_5 hc1_5 h
  simp [tree_Same.f] at h
 | succ k ih =>
  intro a0_0 a0_1 a0_2 a0_3 A0_4 c0_4 l0_4 A0_5 c0_5 l0_5 a1_0 a1_1 a1_2 a1_3 A1_4 c1_4 l1_4 A1_5 c1_5 l1_5 r w hr0_4 hc0_4 hr0_5 hc0_5 hr1_4 hc1_4 hr1_5 hc1_5 h;have HA4:=ad_ hr0_4;have HA5:=ad_ hr0_5;have HB4:=ad_ hr1_4;have HB5:=ad_ hr1_5;have HREC : Aside0 (∀ x y b,tree_Same.f k x.f0 x.f1 x.f2 x.f3 x.f4 x.f5 y.f0 y.f1 y.f2 y.f3 y.f4 y.f5 = some b → EqC 5 x y b):=⟨fun x y b hb A4 c4 A5 c5 B4 d4 B5 d5 w h1 h2 h3 h4 h5 h6 h7 h8=>ih _ _ _ _ A4 c4 _ A5 c5 _ _ _ _ _ B4 d4 _ B5 d5 _ b w h1 h2 h3 h4 h5 h6 h7 h8 hb⟩;clear ih hr0_4 hr0_5 hr1_4 hr1_5
  rw [tree_Same.f] at h
  by_cases k1 : a0_0 = a1_0
  ·rw [if_pos k1] at h
   have t1 : (a0_0 == a1_0) = true:=beq_iff_eq.mpr k1;clear k1
   by_cases k2 : a0_1 = a1_1
   ·rw [if_pos k2] at h
    have t2 : (a0_1 == a1_1) = true:=beq_iff_eq.mpr k2;clear k2
    by_cases k3 : a0_2.toList = a1_2.toList
    ·rw [if_pos k3] at h
     have t3 : (a0_2.toList == a1_2.toList) = true:=beq_iff_eq.mpr k3;clear k3
     by_cases k4 : a0_3.toList = a1_3.toList
     ·rw [if_pos k4] at h
      have t4 : (a0_3.toList == a1_3.toList) = true:=beq_iff_eq.mpr k4;clear k4;obtain ⟨t,ht,h⟩:=Option.bind_eq_some_iff.mp h;have HT:=ad_ ht;clear ht
      cases t with
      | true =>
       rw [if_pos rfl] at h
       have H:=ad_ h;clear h;go_enter Tryd.func5,Tryd.ntmps5
       go_wp2_with fail
       refine (slices_Equal_string_string.calls k A0_4 c0_4 l0_4 A1_4 c1_4 l1_4 true _ (ca_ (ca_ HA4.out _) _) hc0_4 (ca_ (ca_ HB4.out _) _) hc1_4 HT.out).mono ?_;rintro e w1 ⟨rfl,hd1⟩;have hb1:=hd1.below;have HB1:=ad_ (below_then (((Below.refl w.heap.size w).alloc (Nat.le_refl _) (.cells #[.int .i64 a0_0,.bool a0_1,.string a0_2,.string a0_3,.slice A0_4 l0_4.length c0_4,.slice A0_5 l0_5.length c0_5] 25)).alloc (by simp) (.cells #[.int .i64 a1_0,.bool a1_1,.string a1_2,.string a1_3,.slice A1_4 l1_4.length c1_4,.slice A1_5 l1_5.length c1_5] 25)) (by simp;omega) hb1)
       have hz1 : w.heap.size + 1 < w1.heap.size:=by have:=hb1.size;simp at this;omega
       have hz0 : w.heap.size < w1.heap.size:=by omega
       have hbk0:=blk_below (blk_alloc (blk_new w (.cells #[.int .i64 a0_0,.bool a0_1,.string a0_2,.string a0_3,.slice A0_4 l0_4.length c0_4,.slice A0_5 l0_5.length c0_5] 25 (0,0))) (.cells #[.int .i64 a1_0,.bool a1_1,.string a1_2,.string a1_3,.slice A1_4 l1_4.length c1_4,.slice A1_5 l1_5.length c1_5] 25 (0,0))) hb1;have hbk1:=blk_below (blk_new (w.alloc (.cells #[.int .i64 a0_0,.bool a0_1,.string a0_2,.string a0_3,.slice A0_4 l0_4.length c0_4,.slice A0_5 l0_5.length c0_5] 25 (0,0))) (.cells #[.int .i64 a1_0,.bool a1_1,.string a1_2,.string a1_3,.slice A1_4 l1_4.length c1_4,.slice A1_5 l1_5.length c1_5] 25 (0,0))) hb1
       have hsz : (w.alloc (.cells #[.int .i64 a0_0,.bool a0_1,.string a0_2,.string a0_3,.slice A0_4 l0_4.length c0_4,.slice A0_5 l0_5.length c0_5] 25 (0,0))).heap.size = w.heap.size + 1:=by simp
       rw [hsz] at hbk1
       have z5:=(bc_ hbk0 5).trans rfl;have y5:=(bc_ hbk1 5).trans rfl;clear hd1 hb1 hbk0 hbk1 hsz
       go_wp2_with fail
       refine (eqf_same (fun x y=>tree_Same.f k x.f0 x.f1 x.f2 x.f3 x.f4 x.f5 y.f0 y.f1 y.f2 y.f3 y.f4 y.f5) HREC.out A0_5 c0_5 l0_5 A1_5 c1_5 l1_5 r _ (cb_ HA5.out HB1.out) hc0_5 (cb_ HB5.out HB1.out) hc1_5 H.out).mono ?_;rintro e w2 ⟨rfl,hb2⟩;have HB2:=ad_ (below_then HB1.out (by omega) hb2);clear hb2 z5 y5;go_wp2
       go_ret;exact ⟨rfl,HB2.out⟩
      | false =>
       rw [if_neg (by decide)] at h
       obtain rfl:=si_ h;clear h;go_enter Tryd.func5,Tryd.ntmps5
       go_wp2_with fail
       refine (slices_Equal_string_string.calls k A0_4 c0_4 l0_4 A1_4 c1_4 l1_4 false _ (ca_ (ca_ HA4.out _) _) hc0_4 (ca_ (ca_ HB4.out _) _) hc1_4 HT.out).mono ?_;rintro e w1 ⟨rfl,hd1⟩;have HB1:=ad_ (below_then (((Below.refl w.heap.size w).alloc (Nat.le_refl _) (.cells #[.int .i64 a0_0,.bool a0_1,.string a0_2,.string a0_3,.slice A0_4 l0_4.length c0_4,.slice A0_5 l0_5.length c0_5] 25)).alloc (by simp) (.cells #[.int .i64 a1_0,.bool a1_1,.string a1_2,.string a1_3,.slice A1_4 l1_4.length c1_4,.slice A1_5 l1_5.length c1_5] 25)) (by simp;omega) hd1.below);clear hd1;go_wp2
       go_ret;exact ⟨rfl,HB1.out⟩
     rw [if_neg k4] at h
     obtain rfl:=si_ h;have t4 : (a0_3.toList == a1_3.toList) = false:=be_ k4;clear h k4;go_enter Tryd.func5,Tryd.ntmps5;go_wp2
     go_ret;exact ⟨rfl,((Below.refl w.heap.size w).alloc (Nat.le_refl _) (.cells #[.int .i64 a0_0,.bool a0_1,.string a0_2,.string a0_3,.slice A0_4 l0_4.length c0_4,.slice A0_5 l0_5.length c0_5] 25)).alloc (by simp) (.cells #[.int .i64 a1_0,.bool a1_1,.string a1_2,.string a1_3,.slice A1_4 l1_4.length c1_4,.slice A1_5 l1_5.length c1_5] 25)⟩
    rw [if_neg k3] at h
    obtain rfl:=si_ h;have t3 : (a0_2.toList == a1_2.toList) = false:=be_ k3;clear h k3;go_enter Tryd.func5,Tryd.ntmps5;go_wp2
    go_ret;exact ⟨rfl,((Below.refl w.heap.size w).alloc (Nat.le_refl _) (.cells #[.int .i64 a0_0,.bool a0_1,.string a0_2,.string a0_3,.slice A0_4 l0_4.length c0_4,.slice A0_5 l0_5.length c0_5] 25)).alloc (by simp) (.cells #[.int .i64 a1_0,.bool a1_1,.string a1_2,.string a1_3,.slice A1_4 l1_4.length c1_4,.slice A1_5 l1_5.length c1_5] 25)⟩
   rw [if_neg k2] at h
   obtain rfl:=si_ h;have t2 : (a0_1 == a1_1) = false:=be_ k2;clear h k2;go_enter Tryd.func5,Tryd.ntmps5;go_wp2
   go_ret;exact ⟨rfl,((Below.refl w.heap.size w).alloc (Nat.le_refl _) (.cells #[.int .i64 a0_0,.bool a0_1,.string a0_2,.string a0_3,.slice A0_4 l0_4.length c0_4,.slice A0_5 l0_5.length c0_5] 25)).alloc (by simp) (.cells #[.int .i64 a1_0,.bool a1_1,.string a1_2,.string a1_3,.slice A1_4 l1_4.length c1_4,.slice A1_5 l1_5.length c1_5] 25)⟩
  rw [if_neg k1] at h
  obtain rfl:=si_ h;have t1 : (a0_0 == a1_0) = false:=be_ k1;clear h k1;go_enter Tryd.func5,Tryd.ntmps5;go_wp2
  go_ret;exact ⟨rfl,((Below.refl w.heap.size w).alloc (Nat.le_refl _) (.cells #[.int .i64 a0_0,.bool a0_1,.string a0_2,.string a0_3,.slice A0_4 l0_4.length c0_4,.slice A0_5 l0_5.length c0_5] 25)).alloc (by simp) (.cells #[.int .i64 a1_0,.bool a1_1,.string a1_2,.string a1_3,.slice A1_4 l1_4.length c1_4,.slice A1_5 l1_5.length c1_5] 25)⟩
end Go.Proofs.YtfaegleohhemkaaDoor.PTreeLikes
