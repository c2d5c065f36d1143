-- Written by shrink.py, a program of this session: what the law needs of the print and its words. Lean checks it.
import Derived.Test.YtfaegleohhemkaaDoorZPPointerLikesx0
import Derived.Test.YtfaegleohhemkaaDoorZPPointerLikesx16
import Derived.WalkMore
import Derived.Deep.QuietTactic
import Derived.BigQuiet
import Derived.Maps.RangeWalk
import Derived.Maps.OwnSet
import Derived.StillTailTactics
namespace Go.Proofs.YtfaegleohhemkaaDoor.PPointerLikes
open Go.RowKit Go.Proofs.YtfaegleohhemkaaDoorW.PrintWords Go.Proofs.YtfaegleohhemkaaDoorW.PrintLast Go.Proofs.YtfaegleohhemkaaDoorW.PrintMore
attribute [local go_sem] max2_int min2_int max_two min_two max_three min_three max_four min_four
set_option linter.unusedVariables false
set_option linter.unusedSimpArgs false
def all2 (rec : S25 → S25 → Option Bool) : List S25 → List S25 → Option Bool
 | [],[]=>some true
 | x :: r,y :: q=>(rec x y).bind fun t=>if t = true then all2 rec r q else some false
 | _,_=>some false
theorem all2_mono {rec rec' : S25 → S25 → Option Bool} (h : ∀ x y,LeO (rec x y) (rec' x y)) : ∀ l m,LeO (all2 rec l m) (all2 rec' l m)
 | [],[]=>LeO.refl _
 | [],_ :: _=>LeO.refl _
 | _ :: _,[]=>LeO.refl _
 | x :: r,y :: q=>by
  rw [all2,all2];exact LeO.bind (h x y) (fun t=>LeO.ite (all2_mono h r q) (LeO.refl _))
def EqC (fid : Nat) (x y : S25) (b : Bool) : Prop :=
 ∀ (A4 : Option Addr) (c4 : Nat) (A5 : Option Addr) (c5 : Nat) (B4 : Option Addr) (d4 : Nat) (B5 : Option Addr) (d5 : Nat) (w : World),Kd.C Kd.string w A4 x.f4.length x.f4 → x.f4.length ≤ c4 → Kd.C k25 w A5 x.f5.length x.f5 → x.f5.length ≤ c5 → Kd.C Kd.string w B4 y.f4.length y.f4 → y.f4.length ≤ d4 → Kd.C k25 w B5 y.f5.length y.f5 → y.f5.length ≤ d5 →
  Calls Tryd.prog fid #[.agg #[.int .i64 x.f0,.bool x.f1,.string x.f2,.string x.f3,.slice A4 x.f4.length c4,.slice A5 x.f5.length c5],.agg #[.int .i64 y.f0,.bool y.f1,.string y.f2,.string y.f3,.slice B4 y.f4.length d4,.slice B5 y.f5.length d5]] w fun e w'=>e = .returned (.bool b) ∧ Below w.heap.size w w'
theorem all2_step {rec : S25 → S25 → Option Bool} {la lb : List S25} {k : Nat} {r : Bool} (ha : k < la.length) (hb : k < lb.length) (h : all2 rec (la.drop k) (lb.drop k) = some r) : ∃ t,rec la[k] lb[k] = some t ∧ (t = true → all2 rec (la.drop (k + 1)) (lb.drop (k + 1)) = some r) ∧ (t = false → r = false):=by
 rw [List.drop_eq_getElem_cons ha,List.drop_eq_getElem_cons hb,all2] at h
 obtain ⟨t,ht,h⟩:=Option.bind_eq_some_iff.mp h;refine ⟨t,ht,fun e=>?_,fun e=>?_⟩
 ·rw [if_pos e] at h;exact h
 rw [if_neg (by rw [e];decide)] at h;exact (Option.some.inj h).symm
def RV : Value → Option (DataW Value × List MemPlace)
 | .agg ⟨[.int .i64 a,.bool b,.string c,.string d,.slice A n c4,.slice B m c5]⟩=>some (.held (.agg #[.int .i64 a,.bool b,.string c,.string d,.slice A n c4,.slice B m c5]),[])
 | _=>none
structure B6 where
 a : Int
 b : Bool
 c : ByteArray
 d : ByteArray
 A : Option Addr
 n : Nat
 c4 : Nat
 B : Option Addr
 m : Nat
 c5 : Nat
def mkB (v : B6) : Value:=.agg #[.int .i64 v.a,.bool v.b,.string v.c,.string v.d,.slice v.A v.n v.c4,.slice v.B v.m v.c5]
theorem RV_mk (v : B6) : RV (mkB v) = some (.held (mkB v),[]):=rfl
theorem RV_inv (v : Value) (y : DataW Value × List MemPlace) (h : RV v = some y) : ∃ c,v = mkB c:=by
 unfold RV at h
 split at h
 ·exact ⟨⟨_,_,_,_,_,_,_,_,_,_⟩,rfl⟩
 cases h
theorem RV_held (v : Value) (y : DataW Value × List MemPlace) (h : RV v = some y) : y.1 = .held v:=by
 unfold RV at h
 split at h
 ·cases h;rfl
 cases h
def IsV (w : World) (v : Value) (x : S25) : Prop :=
 ∃ (A4 : Option Addr) (c4 : Nat) (A5 : Option Addr) (c5 : Nat),v = .agg #[.int .i64 x.f0,.bool x.f1,.string x.f2,.string x.f3,.slice A4 x.f4.length c4,.slice A5 x.f5.length c5] ∧ Kd.C Kd.string w A4 x.f4.length x.f4 ∧ x.f4.length ≤ c4 ∧ Kd.C k25 w A5 x.f5.length x.f5 ∧ x.f5.length ≤ c5
def lookP (t : ByteArray) : List (ByteArray × S25) → Option S25
 | []=>none
 | p :: r=>if p.1.data.toList = t.data.toList then some p.2 else lookP t r
def sizeP : List (ByteArray × S25) → Nat
 | []=>0
 | p :: r=>if (lookP p.1 r).isSome then sizeP r else sizeP r + 1
def keyL (s : ByteArray) : Lit:=.string s.data.toList
structure MapIs (w : World) (D : DataW Value) (ps : List (ByteArray × S25)) : Prop where
 some_key : ∀ kl,Maps.has D kl = true → ∃ p ∈ ps,kl = keyL p.1
 has : ∀ s,Maps.has D (keyL s) = (lookP s ps).isSome
 at_ : ∀ s x,lookP s ps = some x → ∃ v,(∀ z,D.atKey (keyL s) z = .held v) ∧ IsV w v x
 size : Maps.size D = sizeP ps
theorem MapIs.nil (w : World) : MapIs w (.map []) []:=⟨fun kl h=>(Bool.noConfusion h),fun s=>rfl,fun s x h=>(by cases h),rfl⟩
theorem MapIs.put {w : World} {D : DataW Value} {ps : List (ByteArray × S25)} (h : MapIs w D ps) (ht : Maps.Tidy D) (s : ByteArray) (x : S25) (v : Value) (hv : IsV w v x) : MapIs w (D.put (keyL s) (.held v)) ((s,x) :: ps):=by
 have hk : WideAt.IsKeyLit (keyL s):=trivial;refine ⟨fun kl hh=>?_,fun t=>?_,fun t y hy=>?_,?_⟩
 ·by_cases e : kl = keyL s
  ·exact ⟨(s,x),by simp,e⟩
  rw [Maps.has_put_other e] at hh
  obtain ⟨p,hp,e⟩:=h.some_key kl hh;exact ⟨p,by simp [hp],e⟩
 ·by_cases e : s.data.toList = t.data.toList
  ·have e' : keyL t = keyL s:=by simp [keyL,e]
   rw [e',Maps.has_put_same ht.isMap hk]
   simp [lookP,e]
  have e' : keyL t ≠ keyL s:=by intro h';exact e (by simpa [keyL] using h'.symm)
  rw [Maps.has_put_other e',h.has t]
  simp [lookP,e]
 ·by_cases e : s.data.toList = t.data.toList
  ·have e' : keyL t = keyL s:=by simp [keyL,e]
   simp only [lookP,e,if_true,Option.some.injEq] at hy
   subst hy;exact ⟨v,fun z=>by rw [e'];exact Maps.atKey_put_same ht.isMap hk _ _,hv⟩
  have e' : keyL t ≠ keyL s:=by intro h';exact e (by simpa [keyL] using h'.symm)
  simp only [lookP,e,if_false] at hy
  obtain ⟨u,hu,hi⟩:=h.at_ t y hy;exact ⟨u,fun z=>by rw [Maps.atKey_put_other e'];exact hu z,hi⟩
 rw [Maps.size_put ht,h.has s,h.size];rfl
theorem keyOf_s {s : ByteArray} (h : s.size ≤ 1099511627776) : keyOf Tryd.prog 9 (.string s) = some (keyL s):=by
 have : s.size ≤ maxLen:=by unfold maxLen;omega
 simp [keyOf,mapKey,Tryd.underlying9,this,keyL]
set_option maxHeartbeats 4000000 in
set_option maxRecDepth 100000 in
theorem members_calls (a0_0 : Int) (a0_1 : Bool) (a0_2 : ByteArray) (a0_3 : ByteArray) (A4 : Option Addr) (c4 : Nat) (l4 : List ByteArray) (A5 : Option Addr) (c5 : Nat) (l5 : List S25) (w : World) (h4 : Kd.C Kd.string w A4 l4.length l4) (hc4 : l4.length ≤ c4) (h5 : Kd.C k25 w A5 l5.length l5) (hc5 : l5.length ≤ c5) (hl : l4.length = l5.length) (hs : ∀ s ∈ l4,s.size ≤ 1099511627776) :
  Calls Tryd.prog 27 #[.agg #[.int .i64 a0_0,.bool a0_1,.string a0_2,.string a0_3,.slice A4 l4.length c4,.slice A5 l5.length c5]] w fun e w'=>∃ b D,e = .returned (.map (some b)) ∧ w.heap.size ≤ b ∧ w'.ownsMap Tryd.prog 9 RV b l4.length D ∧ MapIs w D (l4.zip l5) ∧ Below w.heap.size w w':=by
 have HA:=Aside0.mk h4;have HB:=Aside0.mk h5;have HS:=Aside0.mk hs;have hm4:=Kd.C_max h4;have hm5:=Kd.C_max h5;have HL:=Aside0.mk hl;clear h4 h5 hs hl;have K:=Maps.string_keyed (P:=Tryd.prog) (k:=9) Tryd.underlying9;have HK:=Aside0.mk K;clear K;have hmm:=@run_makeMap Tryd.prog;go_enter Tryd.func27,Tryd.ntmps27
 go_wp2_with fail
 go_loopw [4] (fun i wr=>∃ (k : Nat) (D : DataW Value),k ≤ l4.length ∧ i = .int .i64 ((k : Int) - 1) ∧ wr.ownsMap Tryd.prog 9 RV (w.heap.size + 1) (l4.length - k) D ∧ MapIs w D ((l4.zip l5).drop k) ∧ Below w.heap.size w wr ∧ wr.heap[w.heap.size]? = some (.cells #[.int .i64 a0_0,.bool a0_1,.string a0_2,.string a0_3,.slice A4 l4.length c4,.slice A5 l5.length c5] 25 (0,0))) (fun i _=>(intOf i + 1).toNat)
 case atStart =>
  refine ⟨l4.length,.map [],Nat.le_refl _,by go_num,?_,?_,?_,?_⟩
  ·have h:=World.ownsMap_made (w.alloc (.cells #[.int .i64 a0_0,.bool a0_1,.string a0_2,.string a0_3,.slice A4 l4.length c4,.slice A5 l5.length c5] 25)) Tryd.prog 9 RV
   rw [show (w.alloc (.cells #[.int .i64 a0_0,.bool a0_1,.string a0_2,.string a0_3,.slice A4 l4.length c4,.slice A5 l5.length c5] 25)).heap.size = w.heap.size + 1 by simp] at h
   rw [Nat.sub_self];exact h
  ·rw [List.drop_of_length_le (by rw [List.length_zip];exact Nat.min_le_left _ _)];exact MapIs.nil w
  ·exact ((Below.refl w.heap.size w).alloc (Nat.le_refl _) _).alloc (by simp) _
  exact blk_alloc (blk_new w _) _
 case round =>
  obtain ⟨k,D,hk,hi,hown,hmi,hbw,hbx⟩:=hrel;have HOWN:=Aside0.mk hown;have HMI:=Aside0.mk hmi;have HBW:=Aside0.mk hbw;have HBX:=Aside0.mk hbx;have hz0 : w.heap.size < wr.heap.size:=blk_lt hbx;clear hown hmi
  cases k with
  | zero =>
   have hi':=hi.trans (show Value.int .i64 (((0 : Nat) : Int) - 1) = .int .i64 (-1) from rfl);clear hi;subst hi';clear hbw hbx;go_wp2
   go_ret;exact ⟨_,D,rfl,by omega,by simpa using HOWN.out,by simpa using HMI.out,HBW.out⟩
  | succ j =>
   have hi':=hi.trans (show Value.int .i64 (((j + 1 : Nat) : Int) - 1) = .int .i64 (j : Int) by congr 1;omega);clear hi;subst hi'
   have hlt : j < l4.length:=by omega
   have hlt5 : j < l5.length:=by have:=HL.out;omega
   obtain ⟨bd,rfl,y⟩:=Kd.at_string (Kd.C_below HA.out hbw) (j : Int) (by omega) (by omega);obtain ⟨ad,A4',c4',A5',c5',rfl,x0,x1,x2,x3,x4,x5,i4,m4,i5,m5⟩:=at_T25 HB.out (j : Int) (by omega) (by omega)
   have ea : rd_T25 l5 (j : Int) = l5[j]:=by unfold rd_T25;simp [hlt5]
   have eb : rdOf ByteArray.empty l4 (j : Int) = l4[j]:=by unfold rdOf;simp [hlt]
   rw [ea] at x0 x1 x2 x3 x4 x5 i4 m4 i5 m5
   rw [eb] at y
   rw [Int.toNat_natCast] at x0 x1 x2 x3 x4 x5 y
   have ba : (ad.add (j * 6)).block < w.heap.size:=World.block_lt_of_cell? _ _ x0;have y0:=(hbw.cell ba).trans x0;have y1:=(hbw.cell (p:=⟨_,_,none⟩) ba).trans x1;have y2:=(hbw.cell (p:=⟨_,_,none⟩) ba).trans x2;have y3:=(hbw.cell (p:=⟨_,_,none⟩) ba).trans x3;have y4:=(hbw.cell (p:=⟨_,_,none⟩) ba).trans x4;have y5:=(hbw.cell (p:=⟨_,_,none⟩) ba).trans x5;have HI:=Aside0.mk (show IsV w (.agg #[.int .i64 l5[j].f0,.bool l5[j].f1,.string l5[j].f2,.string l5[j].f3,.slice A4' l5[j].f4.length c4',.slice A5' l5[j].f5.length c5']) l5[j] from ⟨_,_,_,_,rfl,m4,i4,m5,i5⟩);have z4:=(blk_cell hbx 4).trans rfl;have z5:=(blk_cell hbx 5).trans rfl;have bb : (bd.add j).block < wr.heap.size:=World.block_lt_of_cell? _ _ y;have bc : (ad.add (j * 6)).block < wr.heap.size:=World.block_lt_of_cell? _ _ y0;clear x0 x1 x2 x3 x4 x5 i4 m4 i5 m5 ea eb hbw hbx
   go_wp2_with fail
   go_still_tail 11,(by kernel_rfl)
   go_wp2_with (first|(at_mapUpdate;refine wpList_mapUpdate_own _ rfl _ _ _ 44 rfl 9 25 HK.out Tryd.underlying44 RV (w.heap.size + 1) (l4.length - (j + 1)) D rfl HOWN.out.drew (by unfold maxLen;omega) _ _ (keyL l4[j]) rfl rfl (keyOf_s (HS.out _ (List.getElem_mem _))) _ [] (RV_mk ⟨_,_,_,_,_,_,_,_,_,_⟩) ?_;intro w1 hown1 hgrow1)|fail)
   have HO1:=Aside0.mk hown1;refine ⟨⟨j,_,by omega,rfl,by have h:=HO1.out;rw [show l4.length - (j + 1) + 1 = l4.length - j by omega] at h;exact h,?_,?_,?_⟩,by simp [intOf]⟩
   ·rw [List.drop_eq_getElem_cons (by rw [List.length_zip];exact Nat.lt_min.2 ⟨hlt,hlt5⟩),List.getElem_zip];exact MapIs.put HMI.out (HOWN.out.tidy HK.out) _ _ _ HI.out
   ·exact HBW.out.trans ⟨hgrow1.os,hgrow1.tape,hgrow1.output,hgrow1.size,fun q hq=>hgrow1.block q (Nat.lt_trans hq hz0) (by intro e;injection e;omega)⟩
   exact (hgrow1.block w.heap.size hz0 (by intro e;injection e;omega)).trans HBX.out
set_option maxHeartbeats 4000000 in
set_option maxRecDepth 100000 in
theorem eqf_alike (rec : S25 → S25 → Option Bool) (hrec : ∀ x y b,rec x y = some b → EqC 16 x y b) (Aa : Option Addr) (ca : Nat) (la : List S25) (Ab : Option Addr) (cb : Nat) (lb : List S25) (r : Bool) (w : World) (ha : Kd.C k25 w Aa la.length la) (hca : la.length ≤ ca) (hb : Kd.C k25 w Ab lb.length lb) (hcb : lb.length ≤ cb) (h : (if la.length = lb.length then all2 rec la lb else some false) = some r) :
  Calls Tryd.prog 14 #[.slice Aa la.length ca,.slice Ab lb.length cb,.func (.func 16) #[] #[]] w fun e w'=>e = .returned (.bool r) ∧ Below w.heap.size w w':=by
 have HA:=Aside0.mk ha;have HB:=Aside0.mk hb;have HREC:=Aside0.mk hrec;clear ha hb hrec;have hma:=Kd.C_max HA.out;have hmb:=Kd.C_max HB.out
 by_cases hl : la.length = lb.length
 ·rw [if_pos hl] at h
  have H:=Aside0.mk h;have t1 : (la.length != lb.length) = false:=bne_eq_false_iff_eq.mpr hl;have t2 : ((la.length : Int) != (lb.length : Int)) = false:=bne_eq_false_iff_eq.mpr (by omega);have HL:=Aside0.mk hl;clear h hl;go_enter Tryd.func14,Tryd.ntmps14
  go_wp2_with fail
  go_loopw [17] (fun i wr=>∃ k : Nat,k ≤ la.length ∧ i = .int .i64 k ∧ all2 rec (la.drop k) (lb.drop k) = some r ∧ Below w.heap.size w wr) (fun i _=>la.length - (intOf i).toNat)
  case atStart=>exact ⟨0,Nat.zero_le _,rfl,H.out,Below.refl _ _⟩
  case round =>
   obtain ⟨k,hk,rfl,hf,hbw⟩:=hrel;have HF:=Aside0.mk hf;have HW:=Aside0.mk hbw;clear hf
   by_cases hlt : k < la.length
   ·have hlt2 : k < lb.length:=by have:=HL.out;omega
    obtain ⟨t,ht,h1,h2⟩:=all2_step hlt hlt2 HF.out;have HT:=Aside0.mk ht;have H1:=Aside0.mk h1;have H2:=Aside0.mk h2;obtain ⟨ad,A4,c4,A5,c5,rfl,x0,x1,x2,x3,x4,x5,l4,i4,l5,i5⟩:=at_T25 (Kd.C_below HA.out hbw) (k : Int) (by omega) (by omega);obtain ⟨bd,B4,d4,B5,d5,rfl,y0,y1,y2,y3,y4,y5,m4,j4,m5,j5⟩:=at_T25 (Kd.C_below HB.out hbw) (k : Int) (by omega) (by omega)
    have ea : rd_T25 la (k : Int) = la[k]:=by unfold rd_T25;simp [hlt]
    have eb : rd_T25 lb (k : Int) = lb[k]:=by unfold rd_T25;simp [hlt2]
    rw [ea] at x0 x1 x2 x3 x4 x5 l4 i4 l5 i5
    rw [eb] at y0 y1 y2 y3 y4 y5 m4 j4 m5 j5
    rw [Int.toNat_natCast] at x0 x1 x2 x3 x4 x5 y0 y1 y2 y3 y4 y5
    have I4:=Aside0.mk i4;have I5:=Aside0.mk i5;have J4:=Aside0.mk j4;have J5:=Aside0.mk j5;have ba : (ad.add (k * 6)).block < wr.heap.size:=World.block_lt_of_cell? _ _ x0;have bb : (bd.add (k * 6)).block < wr.heap.size:=World.block_lt_of_cell? _ _ y0;clear ht h1 h2 hbw ea eb i4 i5 j4 j5
    go_wp2_with fail
    refine (HREC.out la[k] lb[k] t HT.out _ _ _ _ _ _ _ _ _ (Kd.C_alloc (Kd.C_alloc I4.out _) _) l4 (Kd.C_alloc (Kd.C_alloc I5.out _) _) l5 (Kd.C_alloc (Kd.C_alloc J4.out _) _) m4 (Kd.C_alloc (Kd.C_alloc J5.out _) _) m5).mono ?_;rintro e w1 ⟨rfl,hb1⟩;have HB1:=Aside0.mk (below_then ((HW.out.alloc HW.out.size (.cells #[.int .i64 la[k].f0,.bool la[k].f1,.string la[k].f2,.string la[k].f3,.slice A4 la[k].f4.length c4,.slice A5 la[k].f5.length c5] 25)).alloc (by simp;have:=HW.out.size;omega) (.cells #[.int .i64 lb[k].f0,.bool lb[k].f1,.string lb[k].f2,.string lb[k].f3,.slice B4 lb[k].f4.length d4,.slice B5 lb[k].f5.length d5] 25)) (by simp;have:=HW.out.size;omega) hb1);clear hb1 x0 x1 x2 x3 x4 x5 y0 y1 y2 y3 y4 y5 ba bb
    cases t with
    | true =>
     have HF2:=Aside0.mk (H1.out rfl);go_wp2
     go_roundw
     case rel=>exact ⟨k + 1,by omega,by go_num,HF2.out,HB1.out⟩
     case measure=>simp [intOf];omega
    | false =>
     have hr:=H2.out rfl;subst hr;go_wp2
     go_ret;exact ⟨rfl,HB1.out⟩
   have hke : k = la.length:=by omega
   have hr : r = true:=by
    have h:=HF.out
    rw [List.drop_of_length_le (by omega),List.drop_of_length_le (by have:=HL.out;omega)] at h
    exact (Option.some.inj h).symm
   subst hr;clear hbw hke;go_wp2
   go_ret;exact ⟨rfl,HW.out⟩
 rw [if_neg hl] at h
 obtain rfl:=Option.some.inj h;have t1 : (la.length != lb.length) = true:=bne_iff_ne.mpr hl;have t2 : ((la.length : Int) != (lb.length : Int)) = true:=bne_iff_ne.mpr (by omega);clear h hl;go_enter Tryd.func14,Tryd.ntmps14;go_wp2
 go_ret;exact ⟨rfl,Below.refl _ _⟩
theorem lookP_congr {s t : ByteArray} (h : s.data.toList = t.data.toList) : ∀ ps,lookP s ps = lookP t ps
 | []=>rfl
 | p :: r=>by rw [lookP,lookP,h,lookP_congr h r]
theorem lookP_mem (t : ByteArray) : ∀ (ks : List ByteArray) (vs : List S25) {x : S25},lookP t (ks.zip vs) = some x → t.data.toList ∈ ks.map (fun s=>s.data.toList)
 | [],_,_,h=>by simp [lookP] at h
 | _ :: _,[],_,h=>by simp [lookP] at h
 | s :: r,v :: q,x,h=>by
  rw [List.zip_cons_cons,lookP] at h
  by_cases e : s.data.toList = t.data.toList
  ·simp [e]
  rw [if_neg e] at h
  exact List.mem_cons_of_mem _ (lookP_mem t r q h)
def ansP (rec : S25 → S25 → Option Bool) (ps qs : List (ByteArray × S25)) : List ByteArray → Option Bool
 | []=>some true
 | s :: r=>match lookP s ps with
  | none=>ansP rec ps qs r
  | some x=>match lookP s qs with
   | none=>(ansP rec ps qs r).bind fun _=>some false
   | some y=>(rec x y).bind fun t=>(ansP rec ps qs r).bind fun u=>some (t && u)
theorem ansP_mono {rec rec' : S25 → S25 → Option Bool} (h : ∀ x y,LeO (rec x y) (rec' x y)) (ps qs : List (ByteArray × S25)) : ∀ l,LeO (ansP rec ps qs l) (ansP rec' ps qs l)
 | []=>LeO.refl _
 | s :: r=>by
  rw [ansP,ansP]
  cases lookP s ps with
  | none=>exact ansP_mono h ps qs r
  | some x =>
   cases lookP s qs with
   | none=>exact LeO.bind (ansP_mono h ps qs r) (fun _=>LeO.refl _)
   | some y=>exact LeO.bind (h x y) (fun _=>LeO.bind (ansP_mono h ps qs r) (fun _=>LeO.refl _))
theorem ansP_each {rec : S25 → S25 → Option Bool} {ps qs : List (ByteArray × S25)} : ∀ (l : List ByteArray) (u : Bool),ansP rec ps qs l = some u → ∀ t x,t.data.toList ∈ l.map (fun s=>s.data.toList) → lookP t ps = some x →
  (lookP t qs = none ∧ u = false) ∨ ∃ y b,lookP t qs = some y ∧ rec x y = some b ∧ (b = false → u = false)
 | [],u,_,t,x,ht,_=>by simp at ht
 | s :: r,u,h,t,x,ht,hx=>by
  rw [ansP] at h
  by_cases e : s.data.toList = t.data.toList
  ·rw [lookP_congr e ps,lookP_congr e qs,hx] at h
   cases hq : lookP t qs with
   | none =>
    rw [hq] at h
    obtain ⟨_,_,h⟩:=Option.bind_eq_some_iff.mp h;exact Or.inl ⟨rfl,(Option.some.inj h).symm⟩
   | some y =>
    rw [hq] at h
    obtain ⟨b,hb,h⟩:=Option.bind_eq_some_iff.mp h;obtain ⟨v,_,h⟩:=Option.bind_eq_some_iff.mp h;exact Or.inr ⟨y,b,rfl,hb,fun e=>by rw [← Option.some.inj h,e];rfl⟩
  have ht' : t.data.toList ∈ r.map (fun s=>s.data.toList):=by
   rcases List.mem_cons.1 ht with e'|h'
   ·exact absurd e'.symm e
   exact h'
  cases hp : lookP s ps with
  | none =>
   rw [hp] at h
   exact ansP_each r u h t x ht' hx
  | some z =>
   rw [hp] at h
   cases hq : lookP s qs with
   | none =>
    rw [hq] at h
    obtain ⟨v,hv,h⟩:=Option.bind_eq_some_iff.mp h;have hu:=(Option.some.inj h).symm
    rcases ansP_each r v hv t x ht' hx with ⟨h1,_⟩|⟨y,b,h1,h2,_⟩
    ·exact Or.inl ⟨h1,hu⟩
    exact Or.inr ⟨y,b,h1,h2,fun _=>hu⟩
   | some z' =>
    rw [hq] at h
    obtain ⟨b',_,h⟩:=Option.bind_eq_some_iff.mp h;obtain ⟨v,hv,h⟩:=Option.bind_eq_some_iff.mp h;have hu:=(Option.some.inj h).symm
    rcases ansP_each r v hv t x ht' hx with ⟨h1,h2⟩|⟨y,b,h1,h2,h3⟩
    ·exact Or.inl ⟨h1,by rw [hu,h2,Bool.and_false]⟩
    exact Or.inr ⟨y,b,h1,h2,fun e=>by rw [hu,h3 e,Bool.and_false]⟩
theorem ansP_bad {rec : S25 → S25 → Option Bool} {ps qs : List (ByteArray × S25)} : ∀ (l : List ByteArray),ansP rec ps qs l = some false → ∃ s x,lookP s ps = some x ∧ (lookP s qs = none ∨ ∃ y,lookP s qs = some y ∧ rec x y = some false)
 | [],h=>by cases h
 | s :: r,h=>by
  rw [ansP] at h
  cases hp : lookP s ps with
  | none =>
   rw [hp] at h
   exact ansP_bad r h
  | some x =>
   rw [hp] at h
   cases hq : lookP s qs with
   | none=>exact ⟨s,x,hp,Or.inl hq⟩
   | some y =>
    rw [hq] at h
    obtain ⟨b,hb,h⟩:=Option.bind_eq_some_iff.mp h;obtain ⟨v,hv,h⟩:=Option.bind_eq_some_iff.mp h
    cases b with
    | false=>exact ⟨s,x,hp,Or.inr ⟨y,hq,hb⟩⟩
    | true =>
     have : v = false:=by simpa using h
     rw [this] at hv
     exact ansP_bad r hv
theorem keyOf_inv {x : ByteArray} {kl : Lit} (h : keyOf Tryd.prog 9 (.string x) = some kl) : kl = keyL x:=by
 simp [keyOf,mapKey,Tryd.underlying9] at h
 exact h.2.symm
theorem keyOf_str (key : Value) (kl : Lit) (h : keyOf Tryd.prog 9 key = some kl) : ∃ x,key = .string x:=by
 cases key <;> simp [keyOf,mapKey,Tryd.underlying9] at h
 exact ⟨_,rfl⟩
theorem next_RV (w : World) {ops : Array Oper} {rest : List Oper} {o : Oper} {a : Act} {Q : Exit → Act → World → Prop} (hg : o.guard = none) (it : Operand) (hop : o.op = Op.next it false) (K : Maps.Keyed Tryd.prog 9) (b r n : Nat) (D : DataW Value) (left : Lit → Bool) (cnt : Nat)
  (hit : a.eval it = .pointer (some ⟨r,0,none⟩)) (h : w.ranges Tryd.prog 9 RV b r n D left cnt)
  (hDone : cnt = 0 → (∀ kl,left kl = false) → wpList Tryd.prog ops Q rest (a.put o.dst (.tuple #[.bool false])) w)
  (hMore : ∀ (x : ByteArray) (c : B6) (w' : World) (cnt' : Nat),x.size ≤ maxLen → left (keyL x) = true → (∀ zd,D.atKey (keyL x) zd = .held (.agg #[.int .i64 c.a,.bool c.b,.string c.c,.string c.d,.slice c.A c.n c.c4,.slice c.B c.m c.c5])) → w'.ranges Tryd.prog 9 RV b r n D (fun z=>left z && !z.sameKey (keyL x)) cnt' → cnt' < cnt →
   w.grownBy w' (some r) → w'.heap.size = w.heap.size → (Instr.entry (.pointer (some ⟨r,0,none⟩))).run Tryd.prog w' = .ok (.tuple #[.string x,.agg #[.int .i64 c.a,.bool c.b,.string c.c,.string c.d,.slice c.A c.n c.c4,.slice c.B c.m c.c5]]) w' → wpList Tryd.prog ops Q rest (a.put o.dst (.tuple #[.bool true,.string x,.agg #[.int .i64 c.a,.bool c.b,.string c.c,.string c.d,.slice c.A c.n c.c4,.slice c.B c.m c.c5]])) w') :
  wpList Tryd.prog ops Q (o :: rest) a w :=
 wpList_next_ranges w hg it hop 9 K RV Value.string mkB keyOf_str RV_inv b r n D left cnt hit h hDone (fun x c kl y w' cnt' hkey hl hv hat hrg hlt hgr hsz hen=>by
  have hk:=keyOf_inv hkey
  have hs : x.size ≤ maxLen:=by
   simp [keyOf,mapKey,Tryd.underlying9] at hkey
   exact hkey.1
  have hy:=RV_held _ _ hv;subst hk
  exact hMore x c w' cnt' hs hl (fun zd=>(hat zd).trans hy) hrg hlt hgr hsz hen)
theorem look_RV (w : World) {ops : Array Oper} {rest : List Oper} {o : Oper} {a : Act} {Q : Exit → Act → World → Prop} (hg : o.guard = none) (m x : Operand) (hop : o.op = Op.lookup 44 m x true) (K : Maps.Keyed Tryd.prog 9) (hz : (zeroValue 25).run Tryd.prog w = .ok (mkB ⟨0,false,⟨#[]⟩,⟨#[]⟩,none,0,0,none,0,0⟩) w) (b n : Nat) (D : DataW Value)
  (hm : a.eval m = .map (some b)) (hown : w.ownsMap Tryd.prog 9 RV b n D) (s : ByteArray) (hx : a.eval x = .string s) (hs : s.size ≤ maxLen)
  (hK : ∀ c : B6,(∀ v,(∀ z,D.atKey (keyL s) z = .held v) → .agg #[.int .i64 c.a,.bool c.b,.string c.c,.string c.d,.slice c.A c.n c.c4,.slice c.B c.m c.c5] = v) → wpList Tryd.prog ops Q rest (a.put o.dst (.tuple #[.agg #[.int .i64 c.a,.bool c.b,.string c.c,.string c.d,.slice c.A c.n c.c4,.slice c.B c.m c.c5],.bool (Maps.has D (keyL s))])) w) :
  wpList Tryd.prog ops Q (o :: rest) a w :=
 wpList_lookup_own_ok w hg m x 44 hop 9 25 K Tryd.underlying44 RV hz _ [] (RV_mk _) b n D hm hown (.string s) (keyL s) hx (by simp [keyOf,mapKey,Tryd.underlying9,hs,keyL]) (fun v ps hv=>by
  obtain ⟨c,rfl⟩:=RV_inv v _ hv;refine hK c (fun v h=>?_);have h1:=RV_held _ _ hv
  rw [h] at h1
  simp only [DataW.held.injEq] at h1
  exact h1.symm)
def okK (l4 : List ByteArray) (l5 : List S25) : Bool:=decide (l4.length = l5.length) && l4.all (fun s=>decide (s.size ≤ 1099511627776))
def tree_alike.f : Nat → Int → Bool → ByteArray → ByteArray → List ByteArray → List (S25) → Int → Bool → ByteArray → ByteArray → List ByteArray → List (S25) → Option Bool
 | 0,_,_,_,_,_,_,_,_,_,_,_,_=>none
 | k + 1,a0_0,a0_1,a0_2,a0_3,l0_4,l0_5,a1_0,a1_1,a1_2,a1_3,l1_4,l1_5 =>
  if a0_0 = a1_0 then (if a0_0 = 3 then tree_numbers.f k a0_2 a1_2 else (if a0_0 = 5 then (if l0_5.length = l1_5.length then all2 (fun x y=>tree_alike.f k x.f0 x.f1 x.f2 x.f3 x.f4 x.f5 y.f0 y.f1 y.f2 y.f3 y.f4 y.f5) l0_5 l1_5 else some false) else (if a0_0 = 6 then (if okK l0_4 l0_5 = true then (if okK l1_4 l1_5 = true then ((ansP (fun x y=>tree_alike.f k x.f0 x.f1 x.f2 x.f3 x.f4 x.f5 y.f0 y.f1 y.f2 y.f3 y.f4 y.f5) (l0_4.zip l0_5) (l1_4.zip l1_5) l0_4).bind fun u=>some (u && decide (sizeP (l0_4.zip l0_5) = sizeP (l1_4.zip l1_5)))) else none) else none) else some ((a0_1 == a1_1) && (a0_3.toList == a1_3.toList))))) else some false
theorem tree_alike.mono_l : ∀ k a0_0 a0_1 a0_2 a0_3 l0_4 l0_5 a1_0 a1_1 a1_2 a1_3 l1_4 l1_5,LeO (tree_alike.f k a0_0 a0_1 a0_2 a0_3 l0_4 l0_5 a1_0 a1_1 a1_2 a1_3 l1_4 l1_5) (tree_alike.f (k + 1) a0_0 a0_1 a0_2 a0_3 l0_4 l0_5 a1_0 a1_1 a1_2 a1_3 l1_4 l1_5)
 | 0=>by
  intros
  intro r h
  simp [tree_alike.f] at h
 | k + 1=>by
  intros
  rw [tree_alike.f,tree_alike.f.eq_def (k + 1 + 1)];exact LeO.ite (LeO.ite (tree_numbers.mono _ _ _) (LeO.ite (LeO.ite (all2_mono (fun x y=>tree_alike.mono_l k _ _ _ _ _ _ _ _ _ _ _ _) _ _) (LeO.refl _)) (LeO.ite (LeO.ite (LeO.ite (LeO.bind (ansP_mono (fun x y=>tree_alike.mono_l k _ _ _ _ _ _ _ _ _ _ _ _) _ _ _) (fun _=>LeO.refl _)) (LeO.refl _)) (LeO.refl _)) (LeO.refl _)))) (LeO.refl _)
theorem tree_alike.mono : ∀ a0_0 a0_1 a0_2 a0_3 l0_4 l0_5 a1_0 a1_1 a1_2 a1_3 l1_4 l1_5 k,LeO (tree_alike.f k a0_0 a0_1 a0_2 a0_3 l0_4 l0_5 a1_0 a1_1 a1_2 a1_3 l1_4 l1_5) (tree_alike.f (k + 1) a0_0 a0_1 a0_2 a0_3 l0_4 l0_5 a1_0 a1_1 a1_2 a1_3 l1_4 l1_5):=fun a0_0 a0_1 a0_2 a0_3 l0_4 l0_5 a1_0 a1_1 a1_2 a1_3 l1_4 l1_5 k=>tree_alike.mono_l k a0_0 a0_1 a0_2 a0_3 l0_4 l0_5 a1_0 a1_1 a1_2 a1_3 l1_4 l1_5
theorem MapIs.below {w w' : World} {D : DataW Value} {ps : List (ByteArray × S25)} (h : MapIs w D ps) (hb : Below w.heap.size w w') : MapIs w' D ps :=
 ⟨h.some_key,h.has,fun s x hx=>by
  obtain ⟨v,hv,A4,c4,A5,c5,e,h1,h2,h3,h4⟩:=h.at_ s x hx
  exact ⟨v,hv,A4,c4,A5,c5,e,Kd.C_below h1 hb,h2,Kd.C_below h3 hb,h4⟩,h.size⟩
theorem own_below {k : TypeId} {b n : Nat} {D : DataW Value} {w w' : World} (h : w.ownsMap Tryd.prog k RV b n D) (hb : Below w.heap.size w w') : w'.ownsMap Tryd.prog k RV b n D:=by
 have hl:=h.lt;obtain ⟨es,clock,h1,h2⟩:=h;exact ⟨es,clock,(hb.block b hl).trans h1,h2⟩
theorem ranges_below {k : TypeId} {b r n cnt : Nat} {D : DataW Value} {left : Lit → Bool} {w w' : World} (h : w.ranges Tryd.prog k RV b r n D left cnt) (hb : Below w.heap.size w w') : w'.ranges Tryd.prog k RV b r n D left cnt:=by
 have hl:=h.owns.lt;have hr:=h.lt
 unfold World.ranges at *
 rw [hb.block b hl,hb.block r hr];exact h
theorem zeroV (w : World) : (zeroValue 25).run Tryd.prog w = .ok (mkB ⟨0,false,⟨#[]⟩,⟨#[]⟩,none,0,0,none,0,0⟩) w:=by kernel_rfl
theorem alk_drew {B : Nat} {w W : World} (h : Below B w W) : Below B w W.drew:=⟨h.os,h.tape,h.output,h.size,h.block⟩
theorem okK_and {l4 : List ByteArray} {l5 : List S25} (h : okK l4 l5 = true) : l4.length = l5.length ∧ ∀ s ∈ l4,s.size ≤ 1099511627776:=by
 unfold okK at h
 rw [Bool.and_eq_true,List.all_eq_true] at h
 exact ⟨of_decide_eq_true h.1,fun s hs=>of_decide_eq_true (h.2 s hs)⟩
set_option maxHeartbeats 8000000 in
set_option maxRecDepth 100000 in
theorem tree_alike.calls : ∀ (k : Nat) (a0_0 : Int) (a0_1 : Bool) (a0_2 : ByteArray) (a0_3 : ByteArray) (A0_4 : Option Addr) (c0_4 : Nat) (l0_4 : List ByteArray) (A0_5 : Option Addr) (c0_5 : Nat) (l0_5 : List (S25)) (a1_0 : Int) (a1_1 : Bool) (a1_2 : ByteArray) (a1_3 : ByteArray) (A1_4 : Option Addr) (c1_4 : Nat) (l1_4 : List ByteArray) (A1_5 : Option Addr) (c1_5 : Nat) (l1_5 : List (S25)) (r : Bool) (w : World) (hr0_4 : Kd.C Kd.string w A0_4 l0_4.length l0_4) (hc0_4 : l0_4.length ≤ c0_4) (hr0_5 : Kd.C k25 w A0_5 l0_5.length l0_5) (hc0_5 : l0_5.length ≤ c0_5) (hr1_4 : Kd.C Kd.string w A1_4 l1_4.length l1_4) (hc1_4 : l1_4.length ≤ c1_4) (hr1_5 : Kd.C k25 w A1_5 l1_5.length l1_5) (hc1_5 : l1_5.length ≤ c1_5) (h : tree_alike.f k a0_0 a0_1 a0_2 a0_3 l0_4 l0_5 a1_0 a1_1 a1_2 a1_3 l1_4 l1_5 = some r),
  Calls Tryd.prog 16 #[.agg #[.int .i64 a0_0,.bool a0_1,.string a0_2,.string a0_3,.slice A0_4 l0_4.length c0_4,.slice A0_5 l0_5.length c0_5],.agg #[.int .i64 a1_0,.bool a1_1,.string a1_2,.string a1_3,.slice A1_4 l1_4.length c1_4,.slice A1_5 l1_5.length c1_5]] w fun e w'=>e = .returned (.bool r) ∧ Below w.heap.size w w':=by
 intro k
 induction k with
 | zero =>
  intro a0_0 a0_1 a0_2 a0_3 A0_4 c0_4 l0_4 A0_5 c0_5 l0_5 a1_0 a1_1 a1_2 a1_3 A1_4 c1_4 l1_4 A1_5 c1_5 l1_5 r w hr0_4 hc0_4 hr0_5 hc0_5 hr1_4 hc1_4 hr1_5 hc1_5 h
  simp [tree_alike.f] at h
 | succ k ih =>
  intro a0_0 a0_1 a0_2 a0_3 A0_4 c0_4 l0_4 A0_5 c0_5 l0_5 a1_0 a1_1 a1_2 a1_3 A1_4 c1_4 l1_4 A1_5 c1_5 l1_5 r w hr0_4 hc0_4 hr0_5 hc0_5 hr1_4 hc1_4 hr1_5 hc1_5 h;have HA4:=Aside0.mk hr0_4;have HA5:=Aside0.mk hr0_5;have HB4:=Aside0.mk hr1_4;have HB5:=Aside0.mk hr1_5;have HREC : Aside0 (∀ x y b,tree_alike.f k x.f0 x.f1 x.f2 x.f3 x.f4 x.f5 y.f0 y.f1 y.f2 y.f3 y.f4 y.f5 = some b → EqC 16 x y b):=⟨fun x y b hb A4 c4 A5 c5 B4 d4 B5 d5 w h1 h2 h3 h4 h5 h6 h7 h8=>ih _ _ _ _ A4 c4 _ A5 c5 _ _ _ _ _ B4 d4 _ B5 d5 _ b w h1 h2 h3 h4 h5 h6 h7 h8 hb⟩;clear ih hr0_4 hr0_5 hr1_4 hr1_5
  rw [tree_alike.f] at h
  by_cases k1 : a0_0 = a1_0
  ·rw [if_pos k1] at h
   subst k1
   by_cases k3 : a0_0 = 3
   ·rw [if_pos k3] at h
    subst k3;have H:=Aside0.mk h;clear h;go_enter Tryd.func16,Tryd.ntmps16
    go_wp2_with fail
    refine (tree_numbers.calls k a0_2 a1_2 r _ H.out).mono ?_;rintro e w1 ⟨rfl,hb1⟩;have HB1:=Aside0.mk (below_then (((Below.refl w.heap.size w).alloc (Nat.le_refl _) (.cells #[.int .i64 3,.bool a0_1,.string a0_2,.string a0_3,.slice A0_4 l0_4.length c0_4,.slice A0_5 l0_5.length c0_5] 25)).alloc (by simp) (.cells #[.int .i64 3,.bool a1_1,.string a1_2,.string a1_3,.slice A1_4 l1_4.length c1_4,.slice A1_5 l1_5.length c1_5] 25)) (by simp;omega) hb1);clear hb1;go_wp2
    go_ret;exact ⟨rfl,HB1.out⟩
   rw [if_neg k3] at h
   have t3 : (a0_0 == 3) = false:=beq_eq_false_iff_ne.mpr k3
   by_cases k5 : a0_0 = 5
   ·rw [if_pos k5] at h
    subst k5;have H:=Aside0.mk h;clear h k3 t3;go_enter Tryd.func16,Tryd.ntmps16
    go_wp2_with fail
    refine (eqf_alike (fun x y=>tree_alike.f k x.f0 x.f1 x.f2 x.f3 x.f4 x.f5 y.f0 y.f1 y.f2 y.f3 y.f4 y.f5) HREC.out A0_5 c0_5 l0_5 A1_5 c1_5 l1_5 r _ (Kd.C_alloc (Kd.C_alloc HA5.out _) _) hc0_5 (Kd.C_alloc (Kd.C_alloc HB5.out _) _) hc1_5 H.out).mono ?_;rintro e w1 ⟨rfl,hb1⟩;have HB1:=Aside0.mk (below_then (((Below.refl w.heap.size w).alloc (Nat.le_refl _) (.cells #[.int .i64 5,.bool a0_1,.string a0_2,.string a0_3,.slice A0_4 l0_4.length c0_4,.slice A0_5 l0_5.length c0_5] 25)).alloc (by simp) (.cells #[.int .i64 5,.bool a1_1,.string a1_2,.string a1_3,.slice A1_4 l1_4.length c1_4,.slice A1_5 l1_5.length c1_5] 25)) (by simp;omega) hb1);clear hb1;go_wp2
    go_ret;exact ⟨rfl,HB1.out⟩
   rw [if_neg k5] at h
   have t5 : (a0_0 == 5) = false:=beq_eq_false_iff_ne.mpr k5
   by_cases k6 : a0_0 = 6
   ·rw [if_pos k6] at h
    subst k6;clear k3 k5 t3 t5
    have g1 : okK l0_4 l0_5 = true:=Classical.byContradiction fun g=>by rw [if_neg g] at h;cases h
    rw [if_pos g1] at h
    have g2 : okK l1_4 l1_5 = true:=Classical.byContradiction fun g=>by rw [if_neg g] at h;cases h
    rw [if_pos g2] at h
    obtain ⟨u,hu,h⟩:=Option.bind_eq_some_iff.mp h;obtain rfl:=Option.some.inj h;have HE:=Aside0.mk (ansP_each _ u hu)
    have HBAD : Aside0 (u = true ∨ ∃ s x,lookP s (l0_4.zip l0_5) = some x ∧ (lookP s (l1_4.zip l1_5) = none ∨ ∃ y,lookP s (l1_4.zip l1_5) = some y ∧ (fun x y=>tree_alike.f k x.f0 x.f1 x.f2 x.f3 x.f4 x.f5 y.f0 y.f1 y.f2 y.f3 y.f4 y.f5) x y = some false)):=⟨by
     cases u with
     | true=>exact Or.inl rfl
     | false=>exact Or.inr (ansP_bad _ hu)⟩
    have HG1:=Aside0.mk (okK_and g1);have HG2:=Aside0.mk (okK_and g2);have HK:=Aside0.mk (Maps.string_keyed (P:=Tryd.prog) (k:=9) Tryd.underlying9);clear h hu g1 g2;go_enter Tryd.func16,Tryd.ntmps16
    go_upto_region 9 with fail
    obtain ⟨g0,hg0⟩ : ∃ g0,g0 = w.heap.size:=⟨_,rfl⟩
    obtain ⟨g1,hg1⟩ : ∃ g1,g1 = w.heap.size + 1:=⟨_,rfl⟩
    obtain ⟨W,hW⟩ : ∃ W,W = (w.alloc (.cells #[.int .i64 6,.bool a0_1,.string a0_2,.string a0_3,.slice A0_4 l0_4.length c0_4,.slice A0_5 l0_5.length c0_5] 25)).alloc (.cells #[.int .i64 6,.bool a1_1,.string a1_2,.string a1_3,.slice A1_4 l1_4.length c1_4,.slice A1_5 l1_5.length c1_5] 25):=⟨_,rfl⟩
    rw [← hW];have HBW : Aside0 (Below w.heap.size w W):=⟨by rw [hW];exact (((Below.refl w.heap.size w).alloc (Nat.le_refl _) (.cells #[.int .i64 6,.bool a0_1,.string a0_2,.string a0_3,.slice A0_4 l0_4.length c0_4,.slice A0_5 l0_5.length c0_5] 25)).alloc (by simp) (.cells #[.int .i64 6,.bool a1_1,.string a1_2,.string a1_3,.slice A1_4 l1_4.length c1_4,.slice A1_5 l1_5.length c1_5] 25))⟩;have HX0 : Aside0 (W.heap[g0]? = some (.cells #[.int .i64 6,.bool a0_1,.string a0_2,.string a0_3,.slice A0_4 l0_4.length c0_4,.slice A0_5 l0_5.length c0_5] 25 (0,0))):=⟨by rw [hW,hg0];exact blk_alloc (blk_new w _) _⟩
    have HX1 : Aside0 (W.heap[g1]? = some (.cells #[.int .i64 6,.bool a1_1,.string a1_2,.string a1_3,.slice A1_4 l1_4.length c1_4,.slice A1_5 l1_5.length c1_5] 25 (0,0))):=⟨by
     have h:=blk_new (w.alloc (.cells #[.int .i64 6,.bool a0_1,.string a0_2,.string a0_3,.slice A0_4 l0_4.length c0_4,.slice A0_5 l0_5.length c0_5] 25)) (.cells #[.int .i64 6,.bool a1_1,.string a1_2,.string a1_3,.slice A1_4 l1_4.length c1_4,.slice A1_5 l1_5.length c1_5] 25)
     rw [show (w.alloc (.cells #[.int .i64 6,.bool a0_1,.string a0_2,.string a0_3,.slice A0_4 l0_4.length c0_4,.slice A0_5 l0_5.length c0_5] 25)).heap.size = w.heap.size + 1 by simp] at h
     rw [hW,hg1];exact h⟩
    have hzW0 : w.heap.size < W.heap.size:=by have:=blk_lt HX1.out;omega
    rw [← hg1,← hg0];clear hW hg0 hg1;have HX0d:=Aside0.mk (show W.drew.heap[g0]? = some (.cells #[.int .i64 6,.bool a0_1,.string a0_2,.string a0_3,.slice A0_4 l0_4.length c0_4,.slice A0_5 l0_5.length c0_5] 25 (0,0)) from HX0.out);have HX1d:=Aside0.mk (show W.drew.heap[g1]? = some (.cells #[.int .i64 6,.bool a1_1,.string a1_2,.string a1_3,.slice A1_4 l1_4.length c1_4,.slice A1_5 l1_5.length c1_5] 25 (0,0)) from HX1.out);have HBd:=Aside0.mk (alk_drew HBW.out);have hzd : w.heap.size < W.drew.heap.size:=hzW0;clear HX0 HX1 HBW;refine start_ (n:=6) (S:=fun w'=>w'.cell? ⟨g0,0,none⟩ = some (.int .i64 6) ∧ w'.cell? ⟨g0,1,none⟩ = some (.bool a0_1) ∧ w'.cell? ⟨g0,2,none⟩ = some (.string a0_2) ∧ w'.cell? ⟨g0,3,none⟩ = some (.string a0_3) ∧ w'.cell? ⟨g0,4,none⟩ = some (.slice A0_4 l0_4.length c0_4) ∧ w'.cell? ⟨g0,5,none⟩ = some (.slice A0_5 l0_5.length c0_5) ∧ w'.cell? ⟨g1,0,none⟩ = some (.int .i64 6) ∧ w'.cell? ⟨g1,1,none⟩ = some (.bool a1_1) ∧ w'.cell? ⟨g1,2,none⟩ = some (.string a1_2) ∧ w'.cell? ⟨g1,3,none⟩ = some (.string a1_3) ∧ w'.cell? ⟨g1,4,none⟩ = some (.slice A1_4 l1_4.length c1_4) ∧ w'.cell? ⟨g1,5,none⟩ = some (.slice A1_5 l1_5.length c1_5)) (ds:=[3]) #[false,false,false,false,false,false] (by kernel_rfl) rfl rfl ⟨(blk_cell HX0d.out 0).trans rfl,(blk_cell HX0d.out 1).trans rfl,(blk_cell HX0d.out 2).trans rfl,(blk_cell HX0d.out 3).trans rfl,(blk_cell HX0d.out 4).trans rfl,(blk_cell HX0d.out 5).trans rfl,(blk_cell HX1d.out 0).trans rfl,(blk_cell HX1d.out 1).trans rfl,(blk_cell HX1d.out 2).trans rfl,(blk_cell HX1d.out 3).trans rfl,(blk_cell HX1d.out 4).trans rfl,(blk_cell HX1d.out 5).trans rfl⟩ (fun hHeld=>?_)
    generalize W.drew = Wd at HX0d HX1d HBd hzd hHeld ⊢
    refine take_ (i:=0) (N:=some 34) (v:=?_) (a':=?_) #[true,false,false,false,false,false] rfl rfl (by kernel_rfl) (fun _ _ _ h=>h) (Or.inl ⟨by rfl,?_⟩) hHeld ?_ ?_;rotate_left
    ·rintro w' ⟨s0,s1,s2,s3,s4,s5,s6,s7,s8,s9,s10,s11⟩;go_simp;with_reducible rfl
    rotate_left
    ·simp only [Act.put,List.setIfInBounds_toArray,List.set_cons_zero,List.set_cons_succ,i64_w,i32_w];rfl
    refine take_ (i:=2) (N:=some 36) (v:=?_) (a':=?_) #[true,false,true,false,false,false] rfl rfl (by kernel_rfl) (fun _ _ _ h=>h) (Or.inl ⟨by rfl,?_⟩) hHeld ?_ ?_;rotate_left
    ·rintro w' ⟨s0,s1,s2,s3,s4,s5,s6,s7,s8,s9,s10,s11⟩;go_simp;with_reducible rfl
    rotate_left
    ·simp only [Act.put,List.setIfInBounds_toArray,List.set_cons_zero,List.set_cons_succ,i64_w,i32_w];rfl
    refine one_ (i:=1) (N:=some 35) #[true,true,true,false,false,false] rfl rfl (by kernel_rfl) (by decide) (fun K hK=>?_);refine goes_ Tryd.func27 (by kernel_rfl) rfl #[.agg #[.int .i64 6,.bool a0_1,.string a0_2,.string a0_3,.slice A0_4 l0_4.length c0_4,.slice A0_5 l0_5.length c0_5]] (by rfl) rfl rfl (by simp only [List.map_toArray,List.map_cons,List.map_nil];rfl) ?_
    with_reducible refine (members_calls 6 a0_1 a0_2 a0_3 A0_4 c0_4 l0_4 A0_5 c0_5 l0_5 _ (Kd.C_below HA4.out HBd.out) hc0_4 (Kd.C_below HA5.out HBd.out) hc0_5 HG1.out.1 HG1.out.2).mono ?_
    rintro e w1 ⟨b1,D1,rfl,hb1,ho1,hm1,hw1⟩;have HX0a:=Aside0.mk (blk_below HX0d.out hw1);have HX1a:=Aside0.mk (blk_below HX1d.out hw1);have HW1:=Aside0.mk hw1;have HBa:=Aside0.mk (below_then HBd.out (by omega) hw1);have HO1:=Aside0.mk ho1;have HM1:=Aside0.mk (hm1.below hw1);have HL1:=Aside0.mk hb1;clear hw1 ho1 hm1 hb1;refine ⟨_,rfl,?_⟩;refine hK.out _ _ ⟨(blk_cell HX0a.out 0).trans rfl,(blk_cell HX0a.out 1).trans rfl,(blk_cell HX0a.out 2).trans rfl,(blk_cell HX0a.out 3).trans rfl,(blk_cell HX0a.out 4).trans rfl,(blk_cell HX0a.out 5).trans rfl,(blk_cell HX1a.out 0).trans rfl,(blk_cell HX1a.out 1).trans rfl,(blk_cell HX1a.out 2).trans rfl,(blk_cell HX1a.out 3).trans rfl,(blk_cell HX1a.out 4).trans rfl,(blk_cell HX1a.out 5).trans rfl⟩ (fun hHeld=>?_);clear hK K;refine norm_ (a':=?_) ?_ ?_;rotate_left
    ·show Act.put _ (some 35) _ = _
     simp only [Act.put,List.setIfInBounds_toArray,List.set_cons_zero,List.set_cons_succ,i64_w,i32_w];rfl
    refine last_ (i:=3) (N:=some 37) #[true,true,true,true,false,false] rfl rfl (by kernel_rfl) (by decide) (fun K hK=>?_);refine goes_ Tryd.func27 (by kernel_rfl) rfl #[.agg #[.int .i64 6,.bool a1_1,.string a1_2,.string a1_3,.slice A1_4 l1_4.length c1_4,.slice A1_5 l1_5.length c1_5]] (by rfl) rfl rfl (by simp only [List.map_toArray,List.map_cons,List.map_nil];rfl) ?_
    with_reducible refine (members_calls 6 a1_1 a1_2 a1_3 A1_4 c1_4 l1_4 A1_5 c1_5 l1_5 _ (Kd.C_below HB4.out HBa.out) hc1_4 (Kd.C_below HB5.out HBa.out) hc1_5 HG2.out.1 HG2.out.2).mono ?_
    rintro e w2 ⟨b2,D2,rfl,hb2,ho2,hm2,hw2⟩;have HO1b:=Aside0.mk (own_below HO1.out hw2);have HM1b:=Aside0.mk (HM1.out.below hw2);have HBb:=Aside0.mk (below_then HBa.out (by have:=HW1.out.size;omega) hw2);have HO2:=Aside0.mk ho2;have HM2:=Aside0.mk (hm2.below hw2);have HL2:=Aside0.mk hb2;have HNE : Aside0 (b1 < b2):=⟨Nat.lt_of_lt_of_le HO1.out.lt hb2⟩;clear hw2 ho2 hm2 hb2;refine ⟨_,rfl,?_⟩;refine hK.out _ _ ?_;clear hK K;refine norm_ (a':=?_) ?_ ?_;rotate_left
    ·show Act.put _ (some 37) _ = _
     simp only [Act.put,List.setIfInBounds_toArray,List.set_cons_zero,List.set_cons_succ,i64_w,i32_w];rfl
    refine pure_ (i:=4) (N:=some 5) (v:=?_) (a':=?_) #[true,true,true,true,true,false] rfl rfl (by kernel_rfl) (fun _ _ _ h=>h) (Or.inl ⟨by rfl,?_⟩) ?_ ?_;rotate_left
    ·intro w';go_simp;with_reducible rfl
    rotate_left
    ·simp only [Act.put,List.setIfInBounds_toArray,List.set_cons_zero,List.set_cons_succ,i64_w,i32_w];rfl
    refine pure_ (i:=5) (N:=some 6) (v:=?_) (a':=?_) #[true,true,true,true,true,true] rfl rfl (by kernel_rfl) (fun _ _ _ h=>h) (Or.inl ⟨by rfl,?_⟩) ?_ ?_;rotate_left
    ·intro w';go_simp;with_reducible rfl
    rotate_left
    ·simp only [Act.put,List.setIfInBounds_toArray,List.set_cons_zero,List.set_cons_succ,i64_w,i32_w];rfl
    refine done_ (by kernel_rfl) ?_;have hzd2:=HBb.out.size
    go_wp2_with (first
     | (at_range;refine wpList_range_own _ rfl _ 44 rfl 9 25 HK.out Tryd.underlying44 RV b1 l0_4.length D1 rfl HO1b.out ?_;intro w3 hrg0 hgr0 hs0)
     | go_in)
    have HR0:=Aside0.mk hrg0;have HG0:=Aside0.mk (show Below w2.heap.size w2 w3 from ⟨hgr0.os,hgr0.tape,hgr0.output,hgr0.size,fun q hq=>hgr0.block q hq (by simp)⟩);have HS0:=Aside0.mk hs0;clear hrg0 hgr0 hs0
    try go_frame
    go_loopw [] (fun wr=>∃ (left : Lit → Bool) (cnt : Nat),wr.ranges Tryd.prog 9 RV b1 w2.heap.size l0_4.length D1 left cnt ∧ Below w2.heap.size w2 wr ∧ (u = true ∨ ∃ s x,left (keyL s) = true ∧ lookP s (l0_4.zip l0_5) = some x ∧ (lookP s (l1_4.zip l1_5) = none ∨ ∃ y,lookP s (l1_4.zip l1_5) = some y ∧ tree_alike.f k x.f0 x.f1 x.f2 x.f3 x.f4 x.f5 y.f0 y.f1 y.f2 y.f3 y.f4 y.f5 = some false))) (fun wr=>wr.rangeLeft b1 w2.heap.size)
    case atStart =>
     refine ⟨_,_,HR0.out,HG0.out,?_⟩
     rcases HBAD.out with h|⟨s,x,h1,h2⟩
     ·exact .inl h
     exact .inr ⟨s,x,by rw [HM1b.out.has,h1];rfl,h1,h2⟩
    case round =>
     obtain ⟨left,cnt,hrg,hbw,hbd⟩:=hrel;have HRG:=Aside0.mk hrg;have HBW:=Aside0.mk hbw;have HBD:=Aside0.mk hbd;clear hrg hbw hbd HR0 HG0 HBAD
     go_wp2_with (first
      | (at_next;refine next_RV _ rfl _ rfl HK.out b1 w2.heap.size l0_4.length D1 left cnt rfl HRG.out ?_ ?_)
      | go_in)
     ·intro hc0 hl0
      have hu : u = true:=by
       rcases HBD.out with h|⟨s,x,h,_⟩
       ·exact h
       rw [hl0] at h;cases h
      have n1:=fun ty=>HRG.out.owns.len Tryd.underlying44 ty
      have n2:=fun ty=>(own_below HO2.out HBW.out).len Tryd.underlying44 ty
      clear hc0 hl0;go_wp2
      go_ret;refine ⟨?_,below_then HBb.out hzd2 HBW.out⟩;rw [hu,HM1b.out.size,HM2.out.size]
      by_cases e : sizeP (l0_4.zip l0_5) = sizeP (l1_4.zip l1_5)
      ·simp [e]
      simp [e];omega
     intro x c w4 cnt4 hxs hlx hat hrg4 hlt hgr4 hsz4 hen
     obtain ⟨px,hpx⟩ : ∃ px,lookP x (l0_4.zip l0_5) = some px:=Option.isSome_iff_exists.1 (by rw [← HM1b.out.has];exact Maps.has_true_of_atKey hat)
     obtain ⟨v,hv,A4,e4,A5,e5,hvx,i4,m4,i5,m5⟩:=HM1b.out.at_ x px hpx;obtain ⟨ca,cb,cc,cd,cA,cn,cc4,cB,cm,cc5⟩:=c;have e1:=(hat .nil).symm.trans (hv .nil)
     rw [hvx] at e1
     simp only [DataW.held.injEq,Value.agg.injEq,Array.mk.injEq,List.cons.injEq,Value.int.injEq,Value.bool.injEq,Value.string.injEq,Value.slice.injEq,and_true,true_and] at e1
     obtain ⟨rfl,rfl,rfl,rfl,⟨rfl,rfl,rfl⟩,rfl,rfl,rfl⟩:=e1;have hans:=HE.out x px (lookP_mem x _ _ hpx) hpx;have B4:=Aside0.mk (show Below w2.heap.size w2 w4 from HBW.out.trans ⟨hgr4.os,hgr4.tape,hgr4.output,hgr4.size,fun q hq=>hgr4.block q (Nat.lt_of_lt_of_le hq HBW.out.size) (by intro e;injection e;omega)⟩);have RG4:=Aside0.mk hrg4;have I4:=Aside0.mk i4;have I5:=Aside0.mk i5;have HLX:=Aside0.mk hlx;have HPX:=Aside0.mk hpx;have HLT:=Aside0.mk hlt;have hz4 : w2.heap.size < w4.heap.size:=hrg4.lt;clear hat hv hvx i4 i5 hrg4 hgr4 hsz4 hlx hpx hlt;have B5:=Aside0.mk (B4.out.alloc (Nat.le_of_lt hz4) (.cells #[.int .i64 px.f0,.bool px.f1,.string px.f2,.string px.f3,.slice cA px.f4.length cc4,.slice cB px.f5.length cc5] 25))
     rcases hans with ⟨hq,hu⟩|⟨y,b,hq,hb,hbu⟩
     ·have HU:=Aside0.mk hu
      have hH : Maps.has D2 (keyL x) = false:=by rw [HM2.out.has,hq];rfl
      clear hq hu
      go_wp2_with (first
       | (at_lookup;have hX:=own_below HO2.out B5.out;refine look_RV _ ?g_ (.tmp 46) (.tmp 47) ?h_ HK.out (zeroV _) b2 l1_4.length D2 ?m_ hX x ?x_ hxs ?_;(case g_=>rfl);(case h_=>rfl);(case m_=>rfl);(case x_=>rfl);clear hX;intro c2 hc2;clear hc2))
      go_ret;exact ⟨by rw [HU.out];rfl,below_then HBb.out hzd2 (B5.out.alloc (by simp;omega) _)⟩
     have HBB:=Aside0.mk hb;have HBU:=Aside0.mk hbu;have HQ:=Aside0.mk hq
     have hH : Maps.has D2 (keyL x) = true:=by rw [HM2.out.has,hq];rfl
     obtain ⟨v2,hv2,E4,f4,E5,f5,hvx2,j4,n4,j5,n5⟩:=HM2.out.at_ x y hq;subst hvx2;have HV2:=Aside0.mk hv2;have J4:=Aside0.mk j4;have J5:=Aside0.mk j5;clear hq hb hbu hv2 j4 j5
     go_wp2_with (first
      | (at_lookup;have hX:=own_below HO2.out B5.out;refine look_RV _ ?g_ (.tmp 46) (.tmp 47) ?h_ HK.out (zeroV _) b2 l1_4.length D2 ?m_ hX x ?x_ hxs ?_;(case g_=>rfl);(case h_=>rfl);(case m_=>rfl);(case x_=>rfl);clear hX;intro c2 hc2;have e2:=hc2 _ HV2.out;clear hc2;obtain ⟨da,db,dc,dd,dA,dn,dc4,dB,dm,dc5⟩:=c2;simp only [Value.agg.injEq,Array.mk.injEq,List.cons.injEq,Value.int.injEq,Value.bool.injEq,Value.string.injEq,Value.slice.injEq,and_true,true_and] at e2;obtain ⟨rfl,rfl,rfl,rfl,⟨rfl,rfl,rfl⟩,rfl,rfl,rfl⟩:=e2))
     obtain ⟨W6,hW6⟩ : ∃ W,W = (w4.alloc (.cells #[.int .i64 px.f0,.bool px.f1,.string px.f2,.string px.f3,.slice cA px.f4.length cc4,.slice cB px.f5.length cc5] 25)).alloc (.cells #[.int .i64 y.f0,.bool y.f1,.string y.f2,.string y.f3,.slice dA y.f4.length dc4,.slice dB y.f5.length dc5] 25):=⟨_,rfl⟩
     rw [← hW6];have B6:=Aside0.mk (show Below w2.heap.size w2 W6 by rw [hW6];exact B5.out.alloc (by simp;omega) _);have B46:=Aside0.mk (show Below w4.heap.size w4 W6 by rw [hW6];exact ((Below.refl _ _).alloc (Nat.le_refl _) _).alloc (by simp) _);clear hW6;refine (HREC.out px y b HBB.out cA cc4 cB cc5 dA dc4 dB dc5 W6 (Kd.C_below I4.out B6.out) m4 (Kd.C_below I5.out B6.out) m5 (Kd.C_below J4.out B6.out) n4 (Kd.C_below J5.out B6.out) n5).mono ?_;rintro e w7 ⟨rfl,hb7⟩;have B7:=Aside0.mk (below_then B6.out B6.out.size hb7);have RG7:=Aside0.mk (ranges_below RG4.out (below_then B46.out B46.out.size hb7));clear hb7
     cases b with
     | false =>
      have HU0:=Aside0.mk (HBU.out rfl);clear HBU;go_wp2
      go_ret;exact ⟨by rw [HU0.out];rfl,below_then HBb.out hzd2 B7.out⟩
     | true =>
      go_wp2
      go_roundw
      case rel =>
       refine ⟨_,cnt4,RG7.out,B7.out,?_⟩
       rcases HBD.out with h'|⟨s,z,h1,h2,h3⟩
       ·exact .inl h'
       refine .inr ⟨s,z,?_,h2,h3⟩
       show (left (keyL s) && !(keyL s).sameKey (keyL x)) = true
       rw [h1,Maps.sameKey_ne (fun e=>by
        have e' : s.data.toList = x.data.toList:=by simpa [keyL] using e
        rw [lookP_congr e',HPX.out] at h2
        cases h2
        rw [lookP_congr e',HQ.out] at h3
        rcases h3 with h3|⟨y',h3,h4⟩
        ·cases h3
        cases h3
        rw [HBB.out] at h4
        cases h4)]
       rfl
      case measure=>rw [RG7.out.left_eq,HRG.out.left_eq];exact HLT.out
   rw [if_neg k6] at h
   have t6 : (a0_0 == 6) = false:=beq_eq_false_iff_ne.mpr k6;obtain rfl:=Option.some.inj h;clear h k3 k5 k6
   cases hb : (a0_1 == a1_1) with
   | true =>
    go_enter Tryd.func16,Tryd.ntmps16;go_wp2
    go_ret;exact ⟨rfl,(((Below.refl w.heap.size w).alloc (Nat.le_refl _) (.cells #[.int .i64 a0_0,.bool a0_1,.string a0_2,.string a0_3,.slice A0_4 l0_4.length c0_4,.slice A0_5 l0_5.length c0_5] 25)).alloc (by simp) (.cells #[.int .i64 a0_0,.bool a1_1,.string a1_2,.string a1_3,.slice A1_4 l1_4.length c1_4,.slice A1_5 l1_5.length c1_5] 25))⟩
   | false =>
    go_enter Tryd.func16,Tryd.ntmps16;go_wp2
    go_ret;exact ⟨rfl,(((Below.refl w.heap.size w).alloc (Nat.le_refl _) (.cells #[.int .i64 a0_0,.bool a0_1,.string a0_2,.string a0_3,.slice A0_4 l0_4.length c0_4,.slice A0_5 l0_5.length c0_5] 25)).alloc (by simp) (.cells #[.int .i64 a0_0,.bool a1_1,.string a1_2,.string a1_3,.slice A1_4 l1_4.length c1_4,.slice A1_5 l1_5.length c1_5] 25))⟩
  rw [if_neg k1] at h
  obtain rfl:=Option.some.inj h;have t1 : (a0_0 != a1_0) = true:=bne_iff_ne.mpr k1;clear h k1;go_enter Tryd.func16,Tryd.ntmps16;go_wp2
  go_ret;exact ⟨rfl,(((Below.refl w.heap.size w).alloc (Nat.le_refl _) (.cells #[.int .i64 a0_0,.bool a0_1,.string a0_2,.string a0_3,.slice A0_4 l0_4.length c0_4,.slice A0_5 l0_5.length c0_5] 25)).alloc (by simp) (.cells #[.int .i64 a1_0,.bool a1_1,.string a1_2,.string a1_3,.slice A1_4 l1_4.length c1_4,.slice A1_5 l1_5.length c1_5] 25))⟩
end Go.Proofs.YtfaegleohhemkaaDoor.PPointerLikes
