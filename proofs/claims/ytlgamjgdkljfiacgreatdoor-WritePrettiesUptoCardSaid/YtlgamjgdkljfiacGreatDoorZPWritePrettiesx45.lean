-- Written by shrink.py, a program of this session: what the law needs of the print and its words. Lean checks it.
import Derived.Test.YtlgamjgdkljfiacGreatDoorZPWritePrettiesx0
import Derived.Test.YtlgamjgdkljfiacGreatDoorZPWritePrettiesx42
import Derived.Test.YtlgamjgdkljfiacGreatDoorZPWritePrettiesx44
import Derived.LoopTactic
import Derived.BigCall
import Derived.WalkMore
namespace Go.Proofs.YtlgamjgdkljfiacGreatDoor.PWritePretties
open Go.RowKit Go.Proofs.YtlgamjgdkljfiacGreatDoorW.PrintWords Go.Proofs.YtlgamjgdkljfiacGreatDoorW.PrintLast Go.Proofs.YtlgamjgdkljfiacGreatDoorW.PrintMore
attribute [local go_sem] max2_int min2_int max_two min_two max_three min_three max_four min_four
set_option linter.unusedVariables false
set_option linter.unusedSimpArgs false
def opn (k0 : Int) : ByteArray:=if k0 = 5 then ⟨#[91]⟩ else ⟨#[123]⟩
def clo (k0 : Int) : ByteArray:=if k0 = 5 then ⟨#[93]⟩ else ⟨#[125]⟩
def prtL (V : List Int → S25 → Int → Int → Option (List Int)) (k : Nat) (k0 : Int) (l4 : List ByteArray) (l5 : List S25) (n d : Int) : Nat → Nat → List Int → Option (List Int)
 | 0,_,out=>(quarryref18_spaces.f k out (wrap64 (n * d))).bind fun o=>quarryref18_put.f k o (clo k0)
 | m + 1,i,out=>(quarryref18_spaces.f k out (wrap64 (n * wrap64 (d + 1)))).bind fun o1 =>
  (if k0 = 6 then (if i < l4.length then (quarryref18_Quoted.f k (rdOf ByteArray.empty l4 (i : Int))).bind fun q=>(if q.size + 2 ≤ 9223372036854775807 then quarryref18_put.f k o1 (q ++ ⟨#[58,32]⟩) else none) else none) else some o1).bind fun o2 =>
  (V o2 (rd_T25 l5 (i : Int)) n (wrap64 (d + 1))).bind fun o3 =>
  (if m = 0 then some o3 else quarryref18_put.f k o3 ⟨#[44]⟩).bind fun o4=>(quarryref18_put.f k o4 ⟨#[10]⟩).bind fun o5=>prtL V k k0 l4 l5 n d m (i + 1) o5
def prtN (V : List Int → S25 → Int → Int → Option (List Int)) (k : Nat) (out : List Int) (x : S25) (n d : Int) : Option (List Int) :=
 if x.f0 = 5 ∨ x.f0 = 6 then (if x.f5.length = 0 then quarryref18_put.f k out (opn x.f0 ++ clo x.f0) else (quarryref18_put.f k out (opn x.f0 ++ ⟨#[10]⟩)).bind fun o=>prtL V k x.f0 x.f4 x.f5 n d x.f5.length 0 o)
 else (quarryref18_word.f k x.f0 x.f1 x.f2 x.f3 x.f4 x.f5).bind fun s=>quarryref18_put.f k out s
def prt : Nat → List Int → S25 → Int → Int → Option (List Int)
 | 0=>fun _ _ _ _=>none
 | k + 1=>prtN (prt k) k
def OutS (W0 : World) (G : Nat → Prop) (w : World) (u : Value) (l : List Int) : Prop:=∃ P : Nat → Prop,Kd.R (Kd.int .u8) 5 w W0.heap.size P u l ∧ ∀ k,G k → ¬ P k
theorem OutS.below {W0 : World} {G : Nat → Prop} {w w' : World} {u : Value} {l : List Int} (h : OutS W0 G w u l) (hb : Below w.heap.size w w') : OutS W0 G w' u l:=by
 obtain ⟨P,h1,h2⟩:=h;exact ⟨P,Kd.R_below h1 hb,h2⟩
theorem OutS.weak {W0 : World} {G G' : Nat → Prop} {w : World} {u : Value} {l : List Int} (h : OutS W0 G w u l) (hg : ∀ k,G' k → G k) : OutS W0 G' w u l:=by
 obtain ⟨P,h1,h2⟩:=h;exact ⟨P,h1,fun k g=>h2 k (hg k g)⟩
theorem OutS.boxed {W0 : World} {G : Nat → Prop} {w : World} {u : Value} {l : List Int} (h : OutS W0 G w u l) : OutS W0 (fun k=>G k ∨ k = w.heap.size) w u l:=by
 obtain ⟨P,h1,h2⟩:=h;refine ⟨_,Kd.R_bound h1,fun k g hk=>?_⟩
 rcases g with g|g
 ·exact h2 k g hk.1
 have:=hk.2;omega
structure OutK (W0 : World) (G : Nat → Prop) (w w' : World) (v : Value) (r : List Int) : Prop where
 row : OutS W0 G w' v r
 bel : Below W0.heap.size W0 w'
 size : w.heap.size ≤ w'.heap.size
 blk : ∀ k,G k → w'.heap[k]? = w.heap[k]?
theorem put_G (k : Nat) (W0 : World) (G : Nat → Prop) (u : Value) (l : List Int) (s : ByteArray) (r : List Int) (w : World) (hB : Below W0.heap.size W0 w) (hG : ∀ k,G k → k < w.heap.size) (ho : OutS W0 G w u l) (h : quarryref18_put.f k l s = some r) :
  Calls Tryz.prog 39 #[u,.string s] w fun e w'=>∃ v,e = .returned v ∧ OutK W0 G w w' v r:=by
 obtain ⟨P,h1,h2⟩:=ho;refine (quarryref18_put.calls k P u l s r W0 w hB h1 h).mono ?_;rintro e w' ⟨v,rfl,g1,g2,g3⟩;exact ⟨v,rfl,⟨_,g1,fun k g hk=>hk.elim (h2 k g) (fun hk=>by have:=hG k g;omega)⟩,g2,g3.1,fun k g=>g3.2 k (hG k g) (h2 k g)⟩
theorem spaces_G (k : Nat) (W0 : World) (G : Nat → Prop) (u : Value) (l : List Int) (s : Int) (r : List Int) (w : World) (hB : Below W0.heap.size W0 w) (hG : ∀ k,G k → k < w.heap.size) (ho : OutS W0 G w u l) (h : quarryref18_spaces.f k l s = some r) :
  Calls Tryz.prog 42 #[u,.int .i64 s] w fun e w'=>∃ v,e = .returned v ∧ OutK W0 G w w' v r:=by
 obtain ⟨P,h1,h2⟩:=ho;refine (quarryref18_spaces.calls k P u l s r W0 w hB h1 h).mono ?_;rintro e w' ⟨v,rfl,g1,g2,g3⟩;exact ⟨v,rfl,⟨_,g1,fun k g hk=>hk.elim (h2 k g) (fun hk=>by have:=hG k g;omega)⟩,g2,g3.1,fun k g=>g3.2 k (hG k g) (h2 k g)⟩
def PrtS (W0 : World) (V : List Int → S25 → Int → Int → Option (List Int)) : Prop :=
 ∀ (G : Nat → Prop) (u : Value) (l : List Int) (x : S25) (A4 : Option Addr) (c4 : Nat) (A5 : Option Addr) (c5 : Nat) (n d : Int) (r : List Int) (w : World),Kd.C Kd.string W0 A4 x.f4.length x.f4 → x.f4.length ≤ c4 → Kd.C k25 W0 A5 x.f5.length x.f5 → x.f5.length ≤ c5 → Below W0.heap.size W0 w → (∀ k,G k → k < w.heap.size) → OutS W0 G w u l → V l x n d = some r →
  Calls Tryz.prog 24 #[u,.agg #[.int .i64 x.f0,.bool x.f1,.string x.f2,.string x.f3,.slice A4 x.f4.length c4,.slice A5 x.f5.length c5],.int .i64 n,.int .i64 d] w fun e w'=>∃ v,e = .returned v ∧ OutK W0 G w w' v r
set_option maxHeartbeats 8000000 in
set_option maxRecDepth 100000 in
theorem prt_step (W0 : World) (k : Nat) (V : List Int → S25 → Int → Int → Option (List Int)) (hV : PrtS W0 V) : PrtS W0 (prtN V k):=by
 rintro G u l ⟨k0,k1,k2,k3,l4,l5⟩ A4 c4 A5 c5 n d r w hr4 hc4 hr5 hc5 hB hG ho h
 simp only at hr4 hc4 hr5 hc5 h ⊢
 obtain ⟨gb,hgb⟩ : ∃ gb,gb = w.heap.size:=⟨_,rfl⟩
 obtain ⟨W1,hW1⟩ : ∃ W1,W1 = w.alloc (Obj.cells #[.int .i64 k0,.bool k1,.string k2,.string k3,.slice A4 l4.length c4,.slice A5 l5.length c5] 25):=⟨_,rfl⟩
 have hb0 : Below w.heap.size w W1:=by rw [hW1];exact below_alloc (Below.refl _ w) _
 have hbk : W1.heap[gb]? = some (Obj.cells #[.int .i64 k0,.bool k1,.string k2,.string k3,.slice A4 l4.length c4,.slice A5 l5.length c5] 25 (0,0)):=by rw [hW1,hgb];exact blk_new w _
 have HV:=Aside0.mk hV;have HR4:=Aside0.mk hr4;have HR5:=Aside0.mk hr5;have HBK:=Aside0.mk hbk;have HB1 : Aside0 (Below W0.heap.size W0 W1):=⟨hB.trans (hb0.mono hB.size)⟩;have HO1 : Aside0 (OutS W0 (fun k=>G k ∨ k = gb) W1 u l):=⟨by rw [hgb];exact OutS.below (OutS.boxed ho) hb0⟩
 have HG1 : Aside0 (∀ k,(G k ∨ k = gb) → k < W1.heap.size):=⟨fun k g=>by
  have h1:=blk_lt hbk
  rcases g with g|g
  ·have:=hG k g;have:=hb0.size;omega
  rw [g];exact h1⟩
 have HS1 : Aside0 (w.heap.size ≤ W1.heap.size):=⟨hb0.size⟩;have HE1 : Aside0 (∀ k,G k → W1.heap[k]? = w.heap[k]?):=⟨fun k g=>hb0.block k (hG k g)⟩;have HW1:=Aside0.mk hW1;have HGB:=Aside0.mk hgb;have H:=Aside0.mk h;have c0 : W1.cell? ⟨gb,0,none⟩ = some (.int .i64 k0):=(blk_cell hbk 0).trans rfl;have c1 : W1.cell? ⟨gb,1,none⟩ = some (.bool k1):=(blk_cell hbk 1).trans rfl;have c2 : W1.cell? ⟨gb,2,none⟩ = some (.string k2):=(blk_cell hbk 2).trans rfl;have c3 : W1.cell? ⟨gb,3,none⟩ = some (.string k3):=(blk_cell hbk 3).trans rfl;have c4' : W1.cell? ⟨gb,4,none⟩ = some (.slice A4 l4.length c4):=(blk_cell hbk 4).trans rfl;have c5' : W1.cell? ⟨gb,5,none⟩ = some (.slice A5 l5.length c5):=(blk_cell hbk 5).trans rfl;have hu25:=Tryz.underlying25;clear hV hr4 hr5 hbk hB ho hb0 hW1 h hG hgb
 by_cases e5 : k0 = 5
 ·subst e5;have h:=H.out
  unfold prtN at h
  rw [if_pos (by first|exact .inl rfl|exact .inr rfl)] at h
  simp only at h
  have HKW1:=HBK;have HOW1:=HO1;have HBW1:=HB1;have HGW1:=HG1;have HSW1:=HS1;have HEW1:=HE1;clear H HBK HO1 HB1 HG1 HS1 HE1;have hends : quarryref18_ends.f 5 k1 k2 k3 l4 l5 = some (opn 5,clo 5):=rfl;have HEN:=Aside0.mk hends;clear hends;go_enter Tryz.func24,Tryz.ntmps24
  go_upto_region 1 with fail
  rw [← HW1.out,← HGB.out]
  go_wp2_with fail
  refine (quarryref18_ends.calls _ _ _ _ _ _ _ _ _ _ _ _ _ (Kd.C_below HR4.out HBW1.out) hc4 (Kd.C_below HR5.out HBW1.out) hc5 HEN.out).mono ?_;rintro e w2 ⟨rfl,hq⟩;have HOw2:=Aside0.mk (OutS.below HOW1.out hq);have HBw2:=Aside0.mk (HBW1.out.trans (hq.mono HBW1.out.size));have HGw2 : Aside0 (∀ k,(G k ∨ k = gb) → k < w2.heap.size):=⟨fun k g=>Nat.lt_of_lt_of_le (HGW1.out k g) hq.size⟩;have HSw2 : Aside0 (w.heap.size ≤ w2.heap.size):=⟨Nat.le_trans HSW1.out hq.size⟩;have HEw2 : Aside0 (∀ k,G k → w2.heap[k]? = w.heap[k]?):=⟨fun k g=>(hq.block k (HGW1.out k (.inl g))).trans (HEW1.out k g)⟩;have HKw2 : Aside0 (w2.heap[gb]? = _):=⟨blk_below HKW1.out hq⟩;clear hq;clear c0 c1 c2 c3 c4' c5';have y0 : w2.cell? ⟨gb,0,none⟩ = some (.int .i64 5):=(blk_cell HKw2.out 0).trans rfl;have y1 : w2.cell? ⟨gb,1,none⟩ = some (.bool k1):=(blk_cell HKw2.out 1).trans rfl;have y2 : w2.cell? ⟨gb,2,none⟩ = some (.string k2):=(blk_cell HKw2.out 2).trans rfl;have y3 : w2.cell? ⟨gb,3,none⟩ = some (.string k3):=(blk_cell HKw2.out 3).trans rfl;have y4 : w2.cell? ⟨gb,4,none⟩ = some (.slice A4 l4.length c4):=(blk_cell HKw2.out 4).trans rfl;have y5 : w2.cell? ⟨gb,5,none⟩ = some (.slice A5 l5.length c5):=(blk_cell HKw2.out 5).trans rfl;have zo : (opn 5).size = 1:=rfl;have zc : (clo 5).size = 1:=rfl;have HOP : Aside0 (opn 5 = ⟨#[91]⟩):=⟨rfl⟩;have HCL : Aside0 (clo 5 = ⟨#[93]⟩):=⟨rfl⟩;have q1 : (9223372036854775807 < (opn 5).size + (clo 5).size) = False:=eq_false (by rw [zo,zc];omega);have q2 : (9223372036854775807 < (opn 5).size + 1) = False:=eq_false (by rw [zo];omega)
  by_cases hz : l5.length = 0
  ·rw [if_pos hz] at h
   have H:=Aside0.mk h;have z0 : (((l5.length : Nat) : Int) == 0) = true:=beq_iff_eq.mpr (by omega);clear h
   go_wp2_with fail
   refine (put_G k W0 _ u l _ r w2 HBw2.out HGw2.out HOw2.out H.out).mono ?_;rintro e w3 ⟨v,rfl,h3⟩;go_wp2
   go_ret;exact ⟨v,rfl,h3.row.weak (fun k g=>.inl g),h3.bel,Nat.le_trans HSw2.out h3.size,fun k g=>(h3.blk k (.inl g)).trans (HEw2.out k g)⟩
  rw [if_neg hz] at h
  obtain ⟨o1,ho1,h⟩:=Option.bind_eq_some_iff.mp h;have HO1_:=Aside0.mk ho1;have H:=Aside0.mk h;have z0 : (((l5.length : Nat) : Int) == 0) = false:=beq_eq_false_iff_ne.mpr (by omega);clear ho1 h hz
  go_wp2_with fail
  refine (put_G k W0 _ u l _ o1 w2 HBw2.out HGw2.out HOw2.out HO1_.out).mono ?_;rintro e w3 ⟨u1,rfl,hq⟩;have HOw3:=Aside0.mk hq.row;have HBw3:=Aside0.mk hq.bel;have HGw3 : Aside0 (∀ k,(G k ∨ k = gb) → k < w3.heap.size):=⟨fun k g=>Nat.lt_of_lt_of_le (HGw2.out k g) hq.size⟩;have HSw3 : Aside0 (w.heap.size ≤ w3.heap.size):=⟨Nat.le_trans HSw2.out hq.size⟩;have HEw3 : Aside0 (∀ k,G k → w3.heap[k]? = w.heap[k]?):=⟨fun k g=>(hq.blk k (.inl g)).trans (HEw2.out k g)⟩;have HKw3 : Aside0 (w3.heap[gb]? = _):=⟨(hq.blk gb (.inr rfl)).trans HKw2.out⟩;clear hq;clear y0 y1 y2 y3 y4 y5;go_wp2
  go_loopw [0,11] (fun v0 v11 wr=>∃ (i m : Nat) (out : List Int),i + m = l5.length ∧ v11 = .int .i64 i ∧ prtL V k 5 l4 l5 n d m i out = some r ∧ OutS W0 (fun k=>G k ∨ k = gb) wr v0 out ∧ Below W0.heap.size W0 wr ∧ (∀ k,(G k ∨ k = gb) → k < wr.heap.size) ∧ w.heap.size ≤ wr.heap.size ∧ (∀ k,G k → wr.heap[k]? = w.heap[k]?) ∧ wr.heap[gb]? = some (Obj.cells #[.int .i64 5,.bool k1,.string k2,.string k3,.slice A4 l4.length c4,.slice A5 l5.length c5] 25 (0,0))) (fun _ v11 _=>l5.length - (intOf v11).toNat)
  case atStart=>exact ⟨0,l5.length,o1,Nat.zero_add _,rfl,H.out,HOw3.out,HBw3.out,HGw3.out,HSw3.out,HEw3.out,HKw3.out⟩
  case round =>
   obtain ⟨i,m,out,him,rfl,hr,hq1,hq2,hq3,hq4,hq5,hq6⟩:=hrel;have HOwr:=Aside0.mk hq1;have HBwr:=Aside0.mk hq2;have HGwr:=Aside0.mk hq3;have HSwr:=Aside0.mk hq4;have HEwr:=Aside0.mk hq5;have HKwr:=Aside0.mk hq6;clear hq1 hq2 hq3 hq4 hq5 hq6 HOw3 HBw3 HGw3 HSw3 HEw3 HKw3 H HOw2 HBw2 HGw2 HSw2 HEw2 HKw2;have hmax:=Kd.C_max HR5.out;have y0 : wr.cell? ⟨gb,0,none⟩ = some (.int .i64 5):=(blk_cell HKwr.out 0).trans rfl;have y1 : wr.cell? ⟨gb,1,none⟩ = some (.bool k1):=(blk_cell HKwr.out 1).trans rfl;have y2 : wr.cell? ⟨gb,2,none⟩ = some (.string k2):=(blk_cell HKwr.out 2).trans rfl;have y3 : wr.cell? ⟨gb,3,none⟩ = some (.string k3):=(blk_cell HKwr.out 3).trans rfl;have y4 : wr.cell? ⟨gb,4,none⟩ = some (.slice A4 l4.length c4):=(blk_cell HKwr.out 4).trans rfl;have y5 : wr.cell? ⟨gb,5,none⟩ = some (.slice A5 l5.length c5):=(blk_cell HKwr.out 5).trans rfl
   cases m with
   | zero =>
    rw [prtL] at hr
    obtain ⟨o2,ho2,hr⟩:=Option.bind_eq_some_iff.mp hr;have HS2_:=Aside0.mk ho2;have HR_:=Aside0.mk hr;clear ho2 hr
    have hin : ¬ i < l5.length:=by omega
    go_wp2_with fail
    refine (spaces_G k W0 _ _ _ _ o2 wr HBwr.out HGwr.out HOwr.out HS2_.out).mono ?_;rintro e w4 ⟨u2,rfl,hq⟩;have HOw4:=Aside0.mk hq.row;have HBw4:=Aside0.mk hq.bel;have HGw4 : Aside0 (∀ k,(G k ∨ k = gb) → k < w4.heap.size):=⟨fun k g=>Nat.lt_of_lt_of_le (HGwr.out k g) hq.size⟩;have HSw4 : Aside0 (w.heap.size ≤ w4.heap.size):=⟨Nat.le_trans HSwr.out hq.size⟩;have HEw4 : Aside0 (∀ k,G k → w4.heap[k]? = w.heap[k]?):=⟨fun k g=>(hq.blk k (.inl g)).trans (HEwr.out k g)⟩;have HKw4 : Aside0 (w4.heap[gb]? = _):=⟨(hq.blk gb (.inr rfl)).trans HKwr.out⟩;clear hq
    go_wp2_with fail
    refine (put_G k W0 _ _ _ _ r w4 HBw4.out HGw4.out HOw4.out HR_.out).mono ?_;rintro e w5 ⟨v,rfl,h3⟩;go_wp2
    go_ret;exact ⟨v,rfl,h3.row.weak (fun k g=>.inl g),h3.bel,Nat.le_trans HSw4.out h3.size,fun k g=>(h3.blk k (.inl g)).trans (HEw4.out k g)⟩
   | succ m =>
    rw [prtL] at hr
    obtain ⟨o2,ho2,hr⟩:=Option.bind_eq_some_iff.mp hr;obtain ⟨o3,ho3,hr⟩:=Option.bind_eq_some_iff.mp hr;obtain ⟨o4,ho4,hr⟩:=Option.bind_eq_some_iff.mp hr;obtain ⟨o5,ho5,hr⟩:=Option.bind_eq_some_iff.mp hr;obtain ⟨o6,ho6,hr⟩:=Option.bind_eq_some_iff.mp hr;have H2:=Aside0.mk ho2;have H3:=Aside0.mk ho3;have H4:=Aside0.mk ho4;have H5:=Aside0.mk ho5;have H6:=Aside0.mk ho6;have HR_:=Aside0.mk hr;clear ho2 ho3 ho4 ho5 ho6 hr
    have hin : i < l5.length:=by omega
    have p0 : (0 : Int) ≤ (i : Int):=Int.natCast_nonneg i
    have q0 : (i : Int) < (l5.length : Int):=by omega
    obtain ⟨ad,A4x,c4x,A5x,c5x,e_,z0_,z1_,z2_,z3_,z4_,z5_,m4,n4,m5,n5⟩:=at_T25 HR5.out i p0 q0;subst e_
    rw [Int.toNat_natCast] at z0_ z1_ z2_ z3_ z4_ z5_
    have YY : Aside0 (∀ w',Below W0.heap.size W0 w' → _ ∧ _ ∧ _ ∧ _ ∧ _ ∧ _):=⟨fun w' hW'=>⟨(hW'.cell (World.block_lt_of_cell? W0 _ z0_)).trans z0_,(hW'.cell (World.block_lt_of_cell? W0 _ z1_)).trans z1_,(hW'.cell (World.block_lt_of_cell? W0 _ z2_)).trans z2_,(hW'.cell (World.block_lt_of_cell? W0 _ z3_)).trans z3_,(hW'.cell (World.block_lt_of_cell? W0 _ z4_)).trans z4_,(hW'.cell (World.block_lt_of_cell? W0 _ z5_)).trans z5_⟩⟩;have N4:=Aside0.mk n4;have M4:=Aside0.mk m4;have N5:=Aside0.mk n5;have M5:=Aside0.mk m5;clear n4 m4 n5 m5 z0_ z1_ z2_ z3_ z4_ z5_;replace p0:=eq_true p0;replace q0:=eq_true q0
    have hwi : wrap64 ((i : Int) + 1) = ((i + 1 : Nat) : Int):=by unfold wrap64;omega
    have HWI:=Aside0.mk hwi;clear hwi
    go_wp2_with fail
    refine (spaces_G k W0 _ _ _ _ o2 wr HBwr.out HGwr.out HOwr.out H2.out).mono ?_;rintro e w4 ⟨u2,rfl,hq⟩;have HOw4:=Aside0.mk hq.row;have HBw4:=Aside0.mk hq.bel;have HGw4 : Aside0 (∀ k,(G k ∨ k = gb) → k < w4.heap.size):=⟨fun k g=>Nat.lt_of_lt_of_le (HGwr.out k g) hq.size⟩;have HSw4 : Aside0 (w.heap.size ≤ w4.heap.size):=⟨Nat.le_trans HSwr.out hq.size⟩;have HEw4 : Aside0 (∀ k,G k → w4.heap[k]? = w.heap[k]?):=⟨fun k g=>(hq.blk k (.inl g)).trans (HEwr.out k g)⟩;have HKw4 : Aside0 (w4.heap[gb]? = _):=⟨(hq.blk gb (.inr rfl)).trans HKwr.out⟩;clear hq;clear y0 y1 y2 y3 y4 y5;have y0 : w4.cell? ⟨gb,0,none⟩ = some (.int .i64 5):=(blk_cell HKw4.out 0).trans rfl;have y1 : w4.cell? ⟨gb,1,none⟩ = some (.bool k1):=(blk_cell HKw4.out 1).trans rfl;have y2 : w4.cell? ⟨gb,2,none⟩ = some (.string k2):=(blk_cell HKw4.out 2).trans rfl;have y3 : w4.cell? ⟨gb,3,none⟩ = some (.string k3):=(blk_cell HKw4.out 3).trans rfl;have y4 : w4.cell? ⟨gb,4,none⟩ = some (.slice A4 l4.length c4):=(blk_cell HKw4.out 4).trans rfl;have y5 : w4.cell? ⟨gb,5,none⟩ = some (.slice (some ad) l5.length c5):=(blk_cell HKw4.out 5).trans rfl;have h3:=H3.out
    rw [if_neg (by decide)] at h3
    have h3:=Option.some.inj h3;subst h3;obtain ⟨x0_,x1_,x2_,x3_,x4_,x5_⟩:=YY.out _ HBw4.out
    go_wp2_with fail
    refine (HV.out _ _ _ (rd_T25 l5 (i : Int)) _ _ _ _ n _ o4 w4 N4.out M4.out N5.out M5.out HBw4.out HGw4.out HOw4.out H4.out).mono ?_;rintro e w7 ⟨u4,rfl,hq⟩;have HOw7:=Aside0.mk hq.row;have HBw7:=Aside0.mk hq.bel;have HGw7 : Aside0 (∀ k,(G k ∨ k = gb) → k < w7.heap.size):=⟨fun k g=>Nat.lt_of_lt_of_le (HGw4.out k g) hq.size⟩;have HSw7 : Aside0 (w.heap.size ≤ w7.heap.size):=⟨Nat.le_trans HSw4.out hq.size⟩;have HEw7 : Aside0 (∀ k,G k → w7.heap[k]? = w.heap[k]?):=⟨fun k g=>(hq.blk k (.inl g)).trans (HEw4.out k g)⟩;have HKw7 : Aside0 (w7.heap[gb]? = _):=⟨(hq.blk gb (.inr rfl)).trans HKw4.out⟩;clear hq;clear y0 y1 y2 y3 y4 y5 x0_ x1_ x2_ x3_ x4_ x5_;have y0 : w7.cell? ⟨gb,0,none⟩ = some (.int .i64 5):=(blk_cell HKw7.out 0).trans rfl;have y1 : w7.cell? ⟨gb,1,none⟩ = some (.bool k1):=(blk_cell HKw7.out 1).trans rfl;have y2 : w7.cell? ⟨gb,2,none⟩ = some (.string k2):=(blk_cell HKw7.out 2).trans rfl;have y3 : w7.cell? ⟨gb,3,none⟩ = some (.string k3):=(blk_cell HKw7.out 3).trans rfl;have y4 : w7.cell? ⟨gb,4,none⟩ = some (.slice A4 l4.length c4):=(blk_cell HKw7.out 4).trans rfl;have y5 : w7.cell? ⟨gb,5,none⟩ = some (.slice (some ad) l5.length c5):=(blk_cell HKw7.out 5).trans rfl
    by_cases hm0 : m = 0
    ·have h5:=H5.out
     rw [if_pos hm0] at h5
     have h5:=Option.some.inj h5;subst h5
     have d14 : decide (wrap64 ((i : Int) + 1) < (l5.length : Int)) = false:=by rw [HWI.out];exact decide_eq_false (by omega)
     go_wp2_with fail
     refine (put_G k W0 _ _ _ _ o6 w7 HBw7.out HGw7.out HOw7.out H6.out).mono ?_;rintro e w9 ⟨u6,rfl,hq⟩;have HOw9:=Aside0.mk hq.row;have HBw9:=Aside0.mk hq.bel;have HGw9 : Aside0 (∀ k,(G k ∨ k = gb) → k < w9.heap.size):=⟨fun k g=>Nat.lt_of_lt_of_le (HGw7.out k g) hq.size⟩;have HSw9 : Aside0 (w.heap.size ≤ w9.heap.size):=⟨Nat.le_trans HSw7.out hq.size⟩;have HEw9 : Aside0 (∀ k,G k → w9.heap[k]? = w.heap[k]?):=⟨fun k g=>(hq.blk k (.inl g)).trans (HEw7.out k g)⟩;have HKw9 : Aside0 (w9.heap[gb]? = _):=⟨(hq.blk gb (.inr rfl)).trans HKw7.out⟩;clear hq;go_wp2
     go_roundw
     case rel=>exact ⟨i + 1,m,o6,by omega,by first|rfl|rw [HWI.out]|go_num,HR_.out,HOw9.out,HBw9.out,HGw9.out,HSw9.out,HEw9.out,HKw9.out⟩
     case measure=>simp [intOf,HWI.out];omega
    have h5:=H5.out
    rw [if_neg hm0] at h5
    have H5:=Aside0.mk h5;clear h5
    have d14 : decide (wrap64 ((i : Int) + 1) < (l5.length : Int)) = true:=by rw [HWI.out];exact decide_eq_true (by omega)
    go_wp2_with fail
    refine (put_G k W0 _ _ _ _ o5 w7 HBw7.out HGw7.out HOw7.out H5.out).mono ?_;rintro e w8 ⟨u5,rfl,hq⟩;have HOw8:=Aside0.mk hq.row;have HBw8:=Aside0.mk hq.bel;have HGw8 : Aside0 (∀ k,(G k ∨ k = gb) → k < w8.heap.size):=⟨fun k g=>Nat.lt_of_lt_of_le (HGw7.out k g) hq.size⟩;have HSw8 : Aside0 (w.heap.size ≤ w8.heap.size):=⟨Nat.le_trans HSw7.out hq.size⟩;have HEw8 : Aside0 (∀ k,G k → w8.heap[k]? = w.heap[k]?):=⟨fun k g=>(hq.blk k (.inl g)).trans (HEw7.out k g)⟩;have HKw8 : Aside0 (w8.heap[gb]? = _):=⟨(hq.blk gb (.inr rfl)).trans HKw7.out⟩;clear hq;clear y0 y1 y2 y3 y4 y5
    go_wp2_with fail
    refine (put_G k W0 _ _ _ _ o6 w8 HBw8.out HGw8.out HOw8.out H6.out).mono ?_;rintro e w9 ⟨u6,rfl,hq⟩;have HOw9:=Aside0.mk hq.row;have HBw9:=Aside0.mk hq.bel;have HGw9 : Aside0 (∀ k,(G k ∨ k = gb) → k < w9.heap.size):=⟨fun k g=>Nat.lt_of_lt_of_le (HGw8.out k g) hq.size⟩;have HSw9 : Aside0 (w.heap.size ≤ w9.heap.size):=⟨Nat.le_trans HSw8.out hq.size⟩;have HEw9 : Aside0 (∀ k,G k → w9.heap[k]? = w.heap[k]?):=⟨fun k g=>(hq.blk k (.inl g)).trans (HEw8.out k g)⟩;have HKw9 : Aside0 (w9.heap[gb]? = _):=⟨(hq.blk gb (.inr rfl)).trans HKw8.out⟩;clear hq;go_wp2
    go_roundw
    case rel=>exact ⟨i + 1,m,o6,by omega,by first|rfl|rw [HWI.out]|go_num,HR_.out,HOw9.out,HBw9.out,HGw9.out,HSw9.out,HEw9.out,HKw9.out⟩
    case measure=>simp [intOf,HWI.out];omega
 by_cases e6 : k0 = 6
 ·subst e6;have h:=H.out
  unfold prtN at h
  rw [if_pos (by first|exact .inl rfl|exact .inr rfl)] at h
  simp only at h
  have HKW1:=HBK;have HOW1:=HO1;have HBW1:=HB1;have HGW1:=HG1;have HSW1:=HS1;have HEW1:=HE1;clear H HBK HO1 HB1 HG1 HS1 HE1;have hends : quarryref18_ends.f 6 k1 k2 k3 l4 l5 = some (opn 6,clo 6):=rfl;have HEN:=Aside0.mk hends;clear hends;go_enter Tryz.func24,Tryz.ntmps24
  go_upto_region 1 with fail
  rw [← HW1.out,← HGB.out]
  go_wp2_with fail
  refine (quarryref18_ends.calls _ _ _ _ _ _ _ _ _ _ _ _ _ (Kd.C_below HR4.out HBW1.out) hc4 (Kd.C_below HR5.out HBW1.out) hc5 HEN.out).mono ?_;rintro e w2 ⟨rfl,hq⟩;have HOw2:=Aside0.mk (OutS.below HOW1.out hq);have HBw2:=Aside0.mk (HBW1.out.trans (hq.mono HBW1.out.size));have HGw2 : Aside0 (∀ k,(G k ∨ k = gb) → k < w2.heap.size):=⟨fun k g=>Nat.lt_of_lt_of_le (HGW1.out k g) hq.size⟩;have HSw2 : Aside0 (w.heap.size ≤ w2.heap.size):=⟨Nat.le_trans HSW1.out hq.size⟩;have HEw2 : Aside0 (∀ k,G k → w2.heap[k]? = w.heap[k]?):=⟨fun k g=>(hq.block k (HGW1.out k (.inl g))).trans (HEW1.out k g)⟩;have HKw2 : Aside0 (w2.heap[gb]? = _):=⟨blk_below HKW1.out hq⟩;clear hq;clear c0 c1 c2 c3 c4' c5';have y0 : w2.cell? ⟨gb,0,none⟩ = some (.int .i64 6):=(blk_cell HKw2.out 0).trans rfl;have y1 : w2.cell? ⟨gb,1,none⟩ = some (.bool k1):=(blk_cell HKw2.out 1).trans rfl;have y2 : w2.cell? ⟨gb,2,none⟩ = some (.string k2):=(blk_cell HKw2.out 2).trans rfl;have y3 : w2.cell? ⟨gb,3,none⟩ = some (.string k3):=(blk_cell HKw2.out 3).trans rfl;have y4 : w2.cell? ⟨gb,4,none⟩ = some (.slice A4 l4.length c4):=(blk_cell HKw2.out 4).trans rfl;have y5 : w2.cell? ⟨gb,5,none⟩ = some (.slice A5 l5.length c5):=(blk_cell HKw2.out 5).trans rfl;have zo : (opn 6).size = 1:=rfl;have zc : (clo 6).size = 1:=rfl;have HOP : Aside0 (opn 6 = ⟨#[123]⟩):=⟨rfl⟩;have HCL : Aside0 (clo 6 = ⟨#[125]⟩):=⟨rfl⟩;have q1 : (9223372036854775807 < (opn 6).size + (clo 6).size) = False:=eq_false (by rw [zo,zc];omega);have q2 : (9223372036854775807 < (opn 6).size + 1) = False:=eq_false (by rw [zo];omega)
  by_cases hz : l5.length = 0
  ·rw [if_pos hz] at h
   have H:=Aside0.mk h;have z0 : (((l5.length : Nat) : Int) == 0) = true:=beq_iff_eq.mpr (by omega);clear h
   go_wp2_with fail
   refine (put_G k W0 _ u l _ r w2 HBw2.out HGw2.out HOw2.out H.out).mono ?_;rintro e w3 ⟨v,rfl,h3⟩;go_wp2
   go_ret;exact ⟨v,rfl,h3.row.weak (fun k g=>.inl g),h3.bel,Nat.le_trans HSw2.out h3.size,fun k g=>(h3.blk k (.inl g)).trans (HEw2.out k g)⟩
  rw [if_neg hz] at h
  obtain ⟨o1,ho1,h⟩:=Option.bind_eq_some_iff.mp h;have HO1_:=Aside0.mk ho1;have H:=Aside0.mk h;have z0 : (((l5.length : Nat) : Int) == 0) = false:=beq_eq_false_iff_ne.mpr (by omega);clear ho1 h hz
  go_wp2_with fail
  refine (put_G k W0 _ u l _ o1 w2 HBw2.out HGw2.out HOw2.out HO1_.out).mono ?_;rintro e w3 ⟨u1,rfl,hq⟩;have HOw3:=Aside0.mk hq.row;have HBw3:=Aside0.mk hq.bel;have HGw3 : Aside0 (∀ k,(G k ∨ k = gb) → k < w3.heap.size):=⟨fun k g=>Nat.lt_of_lt_of_le (HGw2.out k g) hq.size⟩;have HSw3 : Aside0 (w.heap.size ≤ w3.heap.size):=⟨Nat.le_trans HSw2.out hq.size⟩;have HEw3 : Aside0 (∀ k,G k → w3.heap[k]? = w.heap[k]?):=⟨fun k g=>(hq.blk k (.inl g)).trans (HEw2.out k g)⟩;have HKw3 : Aside0 (w3.heap[gb]? = _):=⟨(hq.blk gb (.inr rfl)).trans HKw2.out⟩;clear hq;clear y0 y1 y2 y3 y4 y5;go_wp2
  go_loopw [0,11] (fun v0 v11 wr=>∃ (i m : Nat) (out : List Int),i + m = l5.length ∧ v11 = .int .i64 i ∧ prtL V k 6 l4 l5 n d m i out = some r ∧ OutS W0 (fun k=>G k ∨ k = gb) wr v0 out ∧ Below W0.heap.size W0 wr ∧ (∀ k,(G k ∨ k = gb) → k < wr.heap.size) ∧ w.heap.size ≤ wr.heap.size ∧ (∀ k,G k → wr.heap[k]? = w.heap[k]?) ∧ wr.heap[gb]? = some (Obj.cells #[.int .i64 6,.bool k1,.string k2,.string k3,.slice A4 l4.length c4,.slice A5 l5.length c5] 25 (0,0))) (fun _ v11 _=>l5.length - (intOf v11).toNat)
  case atStart=>exact ⟨0,l5.length,o1,Nat.zero_add _,rfl,H.out,HOw3.out,HBw3.out,HGw3.out,HSw3.out,HEw3.out,HKw3.out⟩
  case round =>
   obtain ⟨i,m,out,him,rfl,hr,hq1,hq2,hq3,hq4,hq5,hq6⟩:=hrel;have HOwr:=Aside0.mk hq1;have HBwr:=Aside0.mk hq2;have HGwr:=Aside0.mk hq3;have HSwr:=Aside0.mk hq4;have HEwr:=Aside0.mk hq5;have HKwr:=Aside0.mk hq6;clear hq1 hq2 hq3 hq4 hq5 hq6 HOw3 HBw3 HGw3 HSw3 HEw3 HKw3 H HOw2 HBw2 HGw2 HSw2 HEw2 HKw2;have hmax:=Kd.C_max HR5.out;have y0 : wr.cell? ⟨gb,0,none⟩ = some (.int .i64 6):=(blk_cell HKwr.out 0).trans rfl;have y1 : wr.cell? ⟨gb,1,none⟩ = some (.bool k1):=(blk_cell HKwr.out 1).trans rfl;have y2 : wr.cell? ⟨gb,2,none⟩ = some (.string k2):=(blk_cell HKwr.out 2).trans rfl;have y3 : wr.cell? ⟨gb,3,none⟩ = some (.string k3):=(blk_cell HKwr.out 3).trans rfl;have y4 : wr.cell? ⟨gb,4,none⟩ = some (.slice A4 l4.length c4):=(blk_cell HKwr.out 4).trans rfl;have y5 : wr.cell? ⟨gb,5,none⟩ = some (.slice A5 l5.length c5):=(blk_cell HKwr.out 5).trans rfl
   cases m with
   | zero =>
    rw [prtL] at hr
    obtain ⟨o2,ho2,hr⟩:=Option.bind_eq_some_iff.mp hr;have HS2_:=Aside0.mk ho2;have HR_:=Aside0.mk hr;clear ho2 hr
    have hin : ¬ i < l5.length:=by omega
    go_wp2_with fail
    refine (spaces_G k W0 _ _ _ _ o2 wr HBwr.out HGwr.out HOwr.out HS2_.out).mono ?_;rintro e w4 ⟨u2,rfl,hq⟩;have HOw4:=Aside0.mk hq.row;have HBw4:=Aside0.mk hq.bel;have HGw4 : Aside0 (∀ k,(G k ∨ k = gb) → k < w4.heap.size):=⟨fun k g=>Nat.lt_of_lt_of_le (HGwr.out k g) hq.size⟩;have HSw4 : Aside0 (w.heap.size ≤ w4.heap.size):=⟨Nat.le_trans HSwr.out hq.size⟩;have HEw4 : Aside0 (∀ k,G k → w4.heap[k]? = w.heap[k]?):=⟨fun k g=>(hq.blk k (.inl g)).trans (HEwr.out k g)⟩;have HKw4 : Aside0 (w4.heap[gb]? = _):=⟨(hq.blk gb (.inr rfl)).trans HKwr.out⟩;clear hq
    go_wp2_with fail
    refine (put_G k W0 _ _ _ _ r w4 HBw4.out HGw4.out HOw4.out HR_.out).mono ?_;rintro e w5 ⟨v,rfl,h3⟩;go_wp2
    go_ret;exact ⟨v,rfl,h3.row.weak (fun k g=>.inl g),h3.bel,Nat.le_trans HSw4.out h3.size,fun k g=>(h3.blk k (.inl g)).trans (HEw4.out k g)⟩
   | succ m =>
    rw [prtL] at hr
    obtain ⟨o2,ho2,hr⟩:=Option.bind_eq_some_iff.mp hr;obtain ⟨o3,ho3,hr⟩:=Option.bind_eq_some_iff.mp hr;obtain ⟨o4,ho4,hr⟩:=Option.bind_eq_some_iff.mp hr;obtain ⟨o5,ho5,hr⟩:=Option.bind_eq_some_iff.mp hr;obtain ⟨o6,ho6,hr⟩:=Option.bind_eq_some_iff.mp hr;have H2:=Aside0.mk ho2;have H3:=Aside0.mk ho3;have H4:=Aside0.mk ho4;have H5:=Aside0.mk ho5;have H6:=Aside0.mk ho6;have HR_:=Aside0.mk hr;clear ho2 ho3 ho4 ho5 ho6 hr
    have hin : i < l5.length:=by omega
    have p0 : (0 : Int) ≤ (i : Int):=Int.natCast_nonneg i
    have q0 : (i : Int) < (l5.length : Int):=by omega
    obtain ⟨ad,A4x,c4x,A5x,c5x,e_,z0_,z1_,z2_,z3_,z4_,z5_,m4,n4,m5,n5⟩:=at_T25 HR5.out i p0 q0;subst e_
    rw [Int.toNat_natCast] at z0_ z1_ z2_ z3_ z4_ z5_
    have YY : Aside0 (∀ w',Below W0.heap.size W0 w' → _ ∧ _ ∧ _ ∧ _ ∧ _ ∧ _):=⟨fun w' hW'=>⟨(hW'.cell (World.block_lt_of_cell? W0 _ z0_)).trans z0_,(hW'.cell (World.block_lt_of_cell? W0 _ z1_)).trans z1_,(hW'.cell (World.block_lt_of_cell? W0 _ z2_)).trans z2_,(hW'.cell (World.block_lt_of_cell? W0 _ z3_)).trans z3_,(hW'.cell (World.block_lt_of_cell? W0 _ z4_)).trans z4_,(hW'.cell (World.block_lt_of_cell? W0 _ z5_)).trans z5_⟩⟩;have N4:=Aside0.mk n4;have M4:=Aside0.mk m4;have N5:=Aside0.mk n5;have M5:=Aside0.mk m5;clear n4 m4 n5 m5 z0_ z1_ z2_ z3_ z4_ z5_;have h3:=H3.out
    first|rw [if_pos trivial] at h3|rw [if_pos rfl] at h3
    have hi4 : i < l4.length:=by
     by_cases q : i < l4.length
     ·exact q
     rw [if_neg q] at h3;cases h3
    rw [if_pos hi4] at h3
    obtain ⟨qs,hqs,h3⟩:=Option.bind_eq_some_iff.mp h3
    have hqz : qs.size + 2 ≤ 9223372036854775807:=by
     by_cases q : qs.size + 2 ≤ 9223372036854775807
     ·exact q
     rw [if_neg q] at h3;cases h3
    rw [if_pos hqz] at h3
    have HQ_:=Aside0.mk hqs;have HP3:=Aside0.mk h3;clear hqs h3 H3
    have q4 : (i : Int) < (l4.length : Int):=by omega
    obtain ⟨ad4,e4,t4⟩:=Kd.at_string HR4.out i p0 q4;subst e4
    rw [Int.toNat_natCast] at t4
    have TT : Aside0 (∀ w',Below W0.heap.size W0 w' → _):=⟨fun w' hW'=>(hW'.cell (World.block_lt_of_cell? W0 _ t4)).trans t4⟩;clear t4;have qz : (9223372036854775807 < qs.size + 2) = False:=eq_false (by omega);clear hqz;replace q4:=eq_true q4;replace p0:=eq_true p0;replace q0:=eq_true q0
    have hwi : wrap64 ((i : Int) + 1) = ((i + 1 : Nat) : Int):=by unfold wrap64;omega
    have HWI:=Aside0.mk hwi;clear hwi
    go_wp2_with fail
    refine (spaces_G k W0 _ _ _ _ o2 wr HBwr.out HGwr.out HOwr.out H2.out).mono ?_;rintro e w4 ⟨u2,rfl,hq⟩;have HOw4:=Aside0.mk hq.row;have HBw4:=Aside0.mk hq.bel;have HGw4 : Aside0 (∀ k,(G k ∨ k = gb) → k < w4.heap.size):=⟨fun k g=>Nat.lt_of_lt_of_le (HGwr.out k g) hq.size⟩;have HSw4 : Aside0 (w.heap.size ≤ w4.heap.size):=⟨Nat.le_trans HSwr.out hq.size⟩;have HEw4 : Aside0 (∀ k,G k → w4.heap[k]? = w.heap[k]?):=⟨fun k g=>(hq.blk k (.inl g)).trans (HEwr.out k g)⟩;have HKw4 : Aside0 (w4.heap[gb]? = _):=⟨(hq.blk gb (.inr rfl)).trans HKwr.out⟩;clear hq;clear y0 y1 y2 y3 y4 y5;have y0 : w4.cell? ⟨gb,0,none⟩ = some (.int .i64 6):=(blk_cell HKw4.out 0).trans rfl;have y1 : w4.cell? ⟨gb,1,none⟩ = some (.bool k1):=(blk_cell HKw4.out 1).trans rfl;have y2 : w4.cell? ⟨gb,2,none⟩ = some (.string k2):=(blk_cell HKw4.out 2).trans rfl;have y3 : w4.cell? ⟨gb,3,none⟩ = some (.string k3):=(blk_cell HKw4.out 3).trans rfl;have y4 : w4.cell? ⟨gb,4,none⟩ = some (.slice (some ad4) l4.length c4):=(blk_cell HKw4.out 4).trans rfl;have y5 : w4.cell? ⟨gb,5,none⟩ = some (.slice (some ad) l5.length c5):=(blk_cell HKw4.out 5).trans rfl;have t4:=TT.out _ HBw4.out
    go_wp2_with fail
    refine (quarryref18_Quoted.calls k _ qs _ HQ_.out).mono ?_;rintro e w5 ⟨rfl,hq⟩;have HOw5:=Aside0.mk (OutS.below HOw4.out hq);have HBw5:=Aside0.mk (HBw4.out.trans (hq.mono HBw4.out.size));have HGw5 : Aside0 (∀ k,(G k ∨ k = gb) → k < w5.heap.size):=⟨fun k g=>Nat.lt_of_lt_of_le (HGw4.out k g) hq.size⟩;have HSw5 : Aside0 (w.heap.size ≤ w5.heap.size):=⟨Nat.le_trans HSw4.out hq.size⟩;have HEw5 : Aside0 (∀ k,G k → w5.heap[k]? = w.heap[k]?):=⟨fun k g=>(hq.block k (HGw4.out k (.inl g))).trans (HEw4.out k g)⟩;have HKw5 : Aside0 (w5.heap[gb]? = _):=⟨blk_below HKw4.out hq⟩;clear hq
    go_wp2_with fail
    refine (put_G k W0 _ _ _ _ o3 w5 HBw5.out HGw5.out HOw5.out HP3.out).mono ?_;rintro e w6 ⟨u3,rfl,hq⟩;have HOw6:=Aside0.mk hq.row;have HBw6:=Aside0.mk hq.bel;have HGw6 : Aside0 (∀ k,(G k ∨ k = gb) → k < w6.heap.size):=⟨fun k g=>Nat.lt_of_lt_of_le (HGw5.out k g) hq.size⟩;have HSw6 : Aside0 (w.heap.size ≤ w6.heap.size):=⟨Nat.le_trans HSw5.out hq.size⟩;have HEw6 : Aside0 (∀ k,G k → w6.heap[k]? = w.heap[k]?):=⟨fun k g=>(hq.blk k (.inl g)).trans (HEw5.out k g)⟩;have HKw6 : Aside0 (w6.heap[gb]? = _):=⟨(hq.blk gb (.inr rfl)).trans HKw5.out⟩;clear hq;clear y0 y1 y2 y3 y4 y5 t4;have y0 : w6.cell? ⟨gb,0,none⟩ = some (.int .i64 6):=(blk_cell HKw6.out 0).trans rfl;have y1 : w6.cell? ⟨gb,1,none⟩ = some (.bool k1):=(blk_cell HKw6.out 1).trans rfl;have y2 : w6.cell? ⟨gb,2,none⟩ = some (.string k2):=(blk_cell HKw6.out 2).trans rfl;have y3 : w6.cell? ⟨gb,3,none⟩ = some (.string k3):=(blk_cell HKw6.out 3).trans rfl;have y4 : w6.cell? ⟨gb,4,none⟩ = some (.slice (some ad4) l4.length c4):=(blk_cell HKw6.out 4).trans rfl;have y5 : w6.cell? ⟨gb,5,none⟩ = some (.slice (some ad) l5.length c5):=(blk_cell HKw6.out 5).trans rfl;obtain ⟨x0_,x1_,x2_,x3_,x4_,x5_⟩:=YY.out _ HBw6.out
    go_wp2_with fail
    refine (HV.out _ _ _ (rd_T25 l5 (i : Int)) _ _ _ _ n _ o4 w6 N4.out M4.out N5.out M5.out HBw6.out HGw6.out HOw6.out H4.out).mono ?_;rintro e w7 ⟨u4,rfl,hq⟩;have HOw7:=Aside0.mk hq.row;have HBw7:=Aside0.mk hq.bel;have HGw7 : Aside0 (∀ k,(G k ∨ k = gb) → k < w7.heap.size):=⟨fun k g=>Nat.lt_of_lt_of_le (HGw6.out k g) hq.size⟩;have HSw7 : Aside0 (w.heap.size ≤ w7.heap.size):=⟨Nat.le_trans HSw6.out hq.size⟩;have HEw7 : Aside0 (∀ k,G k → w7.heap[k]? = w.heap[k]?):=⟨fun k g=>(hq.blk k (.inl g)).trans (HEw6.out k g)⟩;have HKw7 : Aside0 (w7.heap[gb]? = _):=⟨(hq.blk gb (.inr rfl)).trans HKw6.out⟩;clear hq;clear y0 y1 y2 y3 y4 y5 x0_ x1_ x2_ x3_ x4_ x5_;have y0 : w7.cell? ⟨gb,0,none⟩ = some (.int .i64 6):=(blk_cell HKw7.out 0).trans rfl;have y1 : w7.cell? ⟨gb,1,none⟩ = some (.bool k1):=(blk_cell HKw7.out 1).trans rfl;have y2 : w7.cell? ⟨gb,2,none⟩ = some (.string k2):=(blk_cell HKw7.out 2).trans rfl;have y3 : w7.cell? ⟨gb,3,none⟩ = some (.string k3):=(blk_cell HKw7.out 3).trans rfl;have y4 : w7.cell? ⟨gb,4,none⟩ = some (.slice (some ad4) l4.length c4):=(blk_cell HKw7.out 4).trans rfl;have y5 : w7.cell? ⟨gb,5,none⟩ = some (.slice (some ad) l5.length c5):=(blk_cell HKw7.out 5).trans rfl
    by_cases hm0 : m = 0
    ·have h5:=H5.out
     rw [if_pos hm0] at h5
     have h5:=Option.some.inj h5;subst h5
     have d14 : decide (wrap64 ((i : Int) + 1) < (l5.length : Int)) = false:=by rw [HWI.out];exact decide_eq_false (by omega)
     go_wp2_with fail
     refine (put_G k W0 _ _ _ _ o6 w7 HBw7.out HGw7.out HOw7.out H6.out).mono ?_;rintro e w9 ⟨u6,rfl,hq⟩;have HOw9:=Aside0.mk hq.row;have HBw9:=Aside0.mk hq.bel;have HGw9 : Aside0 (∀ k,(G k ∨ k = gb) → k < w9.heap.size):=⟨fun k g=>Nat.lt_of_lt_of_le (HGw7.out k g) hq.size⟩;have HSw9 : Aside0 (w.heap.size ≤ w9.heap.size):=⟨Nat.le_trans HSw7.out hq.size⟩;have HEw9 : Aside0 (∀ k,G k → w9.heap[k]? = w.heap[k]?):=⟨fun k g=>(hq.blk k (.inl g)).trans (HEw7.out k g)⟩;have HKw9 : Aside0 (w9.heap[gb]? = _):=⟨(hq.blk gb (.inr rfl)).trans HKw7.out⟩;clear hq;go_wp2
     go_roundw
     case rel=>exact ⟨i + 1,m,o6,by omega,by first|rfl|rw [HWI.out]|go_num,HR_.out,HOw9.out,HBw9.out,HGw9.out,HSw9.out,HEw9.out,HKw9.out⟩
     case measure=>simp [intOf,HWI.out];omega
    have h5:=H5.out
    rw [if_neg hm0] at h5
    have H5:=Aside0.mk h5;clear h5
    have d14 : decide (wrap64 ((i : Int) + 1) < (l5.length : Int)) = true:=by rw [HWI.out];exact decide_eq_true (by omega)
    go_wp2_with fail
    refine (put_G k W0 _ _ _ _ o5 w7 HBw7.out HGw7.out HOw7.out H5.out).mono ?_;rintro e w8 ⟨u5,rfl,hq⟩;have HOw8:=Aside0.mk hq.row;have HBw8:=Aside0.mk hq.bel;have HGw8 : Aside0 (∀ k,(G k ∨ k = gb) → k < w8.heap.size):=⟨fun k g=>Nat.lt_of_lt_of_le (HGw7.out k g) hq.size⟩;have HSw8 : Aside0 (w.heap.size ≤ w8.heap.size):=⟨Nat.le_trans HSw7.out hq.size⟩;have HEw8 : Aside0 (∀ k,G k → w8.heap[k]? = w.heap[k]?):=⟨fun k g=>(hq.blk k (.inl g)).trans (HEw7.out k g)⟩;have HKw8 : Aside0 (w8.heap[gb]? = _):=⟨(hq.blk gb (.inr rfl)).trans HKw7.out⟩;clear hq;clear y0 y1 y2 y3 y4 y5
    go_wp2_with fail
    refine (put_G k W0 _ _ _ _ o6 w8 HBw8.out HGw8.out HOw8.out H6.out).mono ?_;rintro e w9 ⟨u6,rfl,hq⟩;have HOw9:=Aside0.mk hq.row;have HBw9:=Aside0.mk hq.bel;have HGw9 : Aside0 (∀ k,(G k ∨ k = gb) → k < w9.heap.size):=⟨fun k g=>Nat.lt_of_lt_of_le (HGw8.out k g) hq.size⟩;have HSw9 : Aside0 (w.heap.size ≤ w9.heap.size):=⟨Nat.le_trans HSw8.out hq.size⟩;have HEw9 : Aside0 (∀ k,G k → w9.heap[k]? = w.heap[k]?):=⟨fun k g=>(hq.blk k (.inl g)).trans (HEw8.out k g)⟩;have HKw9 : Aside0 (w9.heap[gb]? = _):=⟨(hq.blk gb (.inr rfl)).trans HKw8.out⟩;clear hq;go_wp2
    go_roundw
    case rel=>exact ⟨i + 1,m,o6,by omega,by first|rfl|rw [HWI.out]|go_num,HR_.out,HOw9.out,HBw9.out,HGw9.out,HSw9.out,HEw9.out,HKw9.out⟩
    case measure=>simp [intOf,HWI.out];omega
 have h:=H.out
 unfold prtN at h
 rw [if_neg (by intro q;rcases q with q|q;exact e5 q;exact e6 q)] at h
 obtain ⟨s,hs,h⟩:=Option.bind_eq_some_iff.mp h;have HSS:=Aside0.mk hs;have H:=Aside0.mk h;have d5 : (k0 != 5) = true:=bne_iff_ne.mpr e5;have d6 : (k0 != 6) = true:=bne_iff_ne.mpr e6;clear hs h e5 e6;go_enter Tryz.func24,Tryz.ntmps24
 go_upto_region 1 with fail
 rw [← HW1.out,← HGB.out]
 go_wp2_with fail
 refine (quarryref18_word.calls k _ _ _ _ _ _ _ _ _ _ s _ (Kd.C_below HR4.out HB1.out) hc4 (Kd.C_below HR5.out HB1.out) hc5 HSS.out).mono ?_;rintro e w2 ⟨rfl,b2⟩;have HO2:=Aside0.mk (OutS.below HO1.out b2);have HB2:=Aside0.mk (HB1.out.trans (b2.mono HB1.out.size));have HG2 : Aside0 (∀ k,(G k ∨ k = gb) → k < w2.heap.size):=⟨fun k g=>Nat.lt_of_lt_of_le (HG1.out k g) b2.size⟩;have HS2 : Aside0 (w.heap.size ≤ w2.heap.size):=⟨Nat.le_trans HS1.out b2.size⟩;have HE2 : Aside0 (∀ k,G k → w2.heap[k]? = w.heap[k]?):=⟨fun k g=>(b2.block k (HG1.out k (.inl g))).trans (HE1.out k g)⟩;clear b2
 go_wp2_with fail
 refine (put_G k W0 _ u l s r w2 HB2.out HG2.out HO2.out H.out).mono ?_;rintro e w3 ⟨v,rfl,h3⟩;go_wp2
 go_ret;exact ⟨v,rfl,h3.row.weak (fun k g=>.inl g),h3.bel,Nat.le_trans HS2.out h3.size,fun k g=>(h3.blk k (.inl g)).trans (HE2.out k g)⟩
def quarryref18_Pretty.f (k : Nat) (a0_0 : Int) (a0_1 : Bool) (a0_2 : ByteArray) (a0_3 : ByteArray) (l0_4 : List ByteArray) (l0_5 : List S25) (a1 : Int) : Option (ByteArray × Int) :=
 (quarryref17_Formed.f k a0_0 a0_1 a0_2 a0_3 l0_4 l0_5).bind fun t=>if t = true then (if a1 < 0 then some (⟨#[]⟩,2) else if a1 > 8 then some (⟨#[]⟩,2) else (prt k [] ⟨a0_0,a0_1,a0_2,a0_3,l0_4,l0_5⟩ a1 0).bind fun b=>some (strOfNums b,0)) else some (⟨#[]⟩,1)
theorem prt_S (W0 : World) : ∀ k,PrtS W0 (prt k)
 | 0=>by
  intro G u l x A4 c4 A5 c5 n d r w _ _ _ _ _ _ _ h;cases h
 | k + 1=>prt_step W0 k _ (prt_S W0 k)
set_option maxHeartbeats 2000000 in
set_option maxRecDepth 100000 in
theorem quarryref18_Pretty.calls (k : Nat) (a0_0 : Int) (a0_1 : Bool) (a0_2 : ByteArray) (a0_3 : ByteArray) (A0_4 : Option Addr) (c0_4 : Nat) (l0_4 : List ByteArray) (A0_5 : Option Addr) (c0_5 : Nat) (l0_5 : List S25) (a1 : Int) (r1 : ByteArray) (r2 : Int) (w : World) (hr0_4 : Kd.C Kd.string w A0_4 l0_4.length l0_4) (hc0_4 : l0_4.length ≤ c0_4) (hr0_5 : Kd.C k25 w A0_5 l0_5.length l0_5) (hc0_5 : l0_5.length ≤ c0_5) (h : quarryref18_Pretty.f k a0_0 a0_1 a0_2 a0_3 l0_4 l0_5 a1 = some (r1,r2)) :
  Calls Tryz.prog 13 #[.agg #[.int .i64 a0_0,.bool a0_1,.string a0_2,.string a0_3,.slice A0_4 l0_4.length c0_4,.slice A0_5 l0_5.length c0_5],.int .i64 a1] w fun e w'=>e = .returned (.tuple #[.string r1,.int .i64 r2]) ∧ Below w.heap.size w w':=by
 unfold quarryref18_Pretty.f at h
 obtain ⟨t,ht,h⟩:=Option.bind_eq_some_iff.mp h;have HT:=Aside0.mk ht;have HR4:=Aside0.mk hr0_4;have HR5:=Aside0.mk hr0_5;have H:=Aside0.mk h;clear ht hr0_4 hr0_5 h;have hb0:=below_alloc (Below.refl _ w) (Obj.cells #[.int .i64 a0_0,.bool a0_1,.string a0_2,.string a0_3,.slice A0_4 l0_4.length c0_4,.slice A0_5 l0_5.length c0_5] 25)
 obtain ⟨W1,hW1⟩ : ∃ W1,W1 = w.alloc (Obj.cells #[.int .i64 a0_0,.bool a0_1,.string a0_2,.string a0_3,.slice A0_4 l0_4.length c0_4,.slice A0_5 l0_5.length c0_5] 25):=⟨_,rfl⟩
 rw [← hW1] at hb0
 have BK:=blk_new w (Obj.cells #[.int .i64 a0_0,.bool a0_1,.string a0_2,.string a0_3,.slice A0_4 l0_4.length c0_4,.slice A0_5 l0_5.length c0_5] 25)
 rw [← hW1] at BK
 have HB0:=Aside0.mk hb0;have HBK:=Aside0.mk BK;have HR4:=Aside0.mk (Kd.C_below HR4.out hb0);have HR5:=Aside0.mk (Kd.C_below HR5.out hb0);have HW1:=Aside0.mk hW1;clear hb0 BK hW1;go_enter Tryz.func13,Tryz.ntmps13
 go_wp2_with fail
 rw [← HW1.out];refine (quarryref17_Formed.calls k _ _ _ _ _ _ _ _ _ _ t _ HR4.out hc0_4 HR5.out hc0_5 HT.out).mono ?_;rintro e w1 ⟨rfl,b1⟩;have HB1:=Aside0.mk (HB0.out.trans (b1.mono HB0.out.size));have HR4:=Aside0.mk (Kd.C_below HR4.out b1);have HR5:=Aside0.mk (Kd.C_below HR5.out b1);have HBK:=Aside0.mk (blk_below HBK.out b1);have H:=H.out;clear b1 HT;cases t
 ·rw [if_neg (by decide)] at H
  have H:=Option.some.inj H
  rw [Prod.mk.injEq] at H
  obtain ⟨rfl,rfl⟩:=H;go_wp2
  go_ret2
  exact ⟨rfl,HB1.out⟩
 rw [if_pos rfl] at H
 by_cases hneg : a1 < 0
 ·rw [if_pos hneg] at H
  have H:=Option.some.inj H
  rw [Prod.mk.injEq] at H
  obtain ⟨rfl,rfl⟩:=H;have d1 : decide (a1 < 0) = true:=decide_eq_true hneg;clear hneg;go_wp2
  go_ret2
  exact ⟨rfl,HB1.out⟩
 rw [if_neg hneg] at H
 have d1 : decide (a1 < 0) = false:=decide_eq_false hneg
 by_cases hbig : a1 > 8
 ·rw [if_pos hbig] at H
  have H:=Option.some.inj H
  rw [Prod.mk.injEq] at H
  obtain ⟨rfl,rfl⟩:=H;have d2 : decide (8 < a1) = true:=decide_eq_true hbig;clear hneg hbig;go_wp2
  go_ret2
  exact ⟨rfl,HB1.out⟩
 rw [if_neg hbig] at H
 have d2 : decide (8 < a1) = false:=decide_eq_false (by omega);obtain ⟨o,ho,H⟩:=Option.bind_eq_some_iff.mp H;have H:=Option.some.inj H
 rw [Prod.mk.injEq] at H
 obtain ⟨rfl,rfl⟩:=H;have HO:=Aside0.mk ho;have hbk2:=HBK.out;have c0 : w1.cell? ⟨w.heap.size,0,none⟩ = some (.int .i64 a0_0):=(blk_cell hbk2 0).trans rfl;have c1 : w1.cell? ⟨w.heap.size,1,none⟩ = some (.bool a0_1):=(blk_cell hbk2 1).trans rfl;have c2 : w1.cell? ⟨w.heap.size,2,none⟩ = some (.string a0_2):=(blk_cell hbk2 2).trans rfl;have c3 : w1.cell? ⟨w.heap.size,3,none⟩ = some (.string a0_3):=(blk_cell hbk2 3).trans rfl;have c4 : w1.cell? ⟨w.heap.size,4,none⟩ = some (.slice A0_4 l0_4.length c0_4):=(blk_cell hbk2 4).trans rfl;have c5 : w1.cell? ⟨w.heap.size,5,none⟩ = some (.slice A0_5 l0_5.length c0_5):=(blk_cell hbk2 5).trans rfl;have hu25:=Tryz.underlying25;clear ho hneg hbig hbk2
 go_wp2_with fail
 refine (prt_S w1 k (fun _=>False) (.slice none 0 0) [] ⟨a0_0,a0_1,a0_2,a0_3,l0_4,l0_5⟩ _ _ _ _ a1 0 o w1 HR4.out hc0_4 HR5.out hc0_5 (Below.refl _ _) (fun _ h=>h.elim) ⟨fun _=>True,Kd.R_nil _ _ _ _ _,fun _ h=>h.elim⟩ HO.out).mono ?_;rintro e w2 ⟨v,rfl,hq⟩;obtain ⟨P,hR,_⟩:=hq.row;have hcv:=own_string (P:=Tryz.prog) Tryz.underlying43 Tryz.underlying5 Tryz.underlying9 (Kd.own_of_R hR);have HB2:=Aside0.mk hq.bel;clear hq hR;go_wp2
 go_ret2
 exact ⟨rfl,HB1.out.trans (HB2.out.mono HB1.out.size)⟩
end Go.Proofs.YtlgamjgdkljfiacGreatDoor.PWritePretties
