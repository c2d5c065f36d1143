-- Written by shrink.py, a program of this session: what the law needs of the print and its words. Lean checks it.
import Derived.Test.YtfaegleohhemkaaDoorZPPointerLikesx0
import Derived.Test.YtfaegleohhemkaaDoorZPPointerLikesx21
namespace Go.Proofs.YtfaegleohhemkaaDoor.PPointerLikes
open Go.RowKit Go.Proofs.YtfaegleohhemkaaDoorW.PrintWords Go.Proofs.YtfaegleohhemkaaDoorW.PrintLast Go.Proofs.YtfaegleohhemkaaDoorW.PrintMore
attribute [local go_sem] max2_int min2_int max_two min_two max_three min_three max_four min_four
set_option linter.unusedVariables false
set_option linter.unusedSimpArgs false
def tree_Member.f (k : Nat) (a0_0 : Int) (a0_1 : Bool) (a0_2 : ByteArray) (a0_3 : ByteArray) (l0_4 : List ByteArray) (l0_5 : List (S25)) (a1 : ByteArray) : Option (Int × Bool × ByteArray × ByteArray × List ByteArray × (List (S25)) × Bool):=(slices_Index_string_string.f k l0_4 a1).bind fun t124=>(if a0_0 = 6 then (if (l0_4.length : Int) = (l0_5.length : Int) then (if t124 < 0 then (some (0,false,(⟨#[]⟩ : ByteArray),(⟨#[]⟩ : ByteArray),([] : List ByteArray),([] : List (S25)),false)) else (if 0 ≤ t124 then (if t124 < (l0_5.length : Int) then ((tree_copied.f k ((rd_T25 l0_5 t124).f0) ((rd_T25 l0_5 t124).f1) ((rd_T25 l0_5 t124).f2) ((rd_T25 l0_5 t124).f3) ((rd_T25 l0_5 t124).f4) ((rd_T25 l0_5 t124).f5)).bind fun bt126=>(some (bt126.1,bt126.2.1,bt126.2.2.1,bt126.2.2.2.1,bt126.2.2.2.2.1,bt126.2.2.2.2.2,true))) else (none)) else (none))) else (some (0,false,(⟨#[]⟩ : ByteArray),(⟨#[]⟩ : ByteArray),([] : List ByteArray),([] : List (S25)),false))) else (some (0,false,(⟨#[]⟩ : ByteArray),(⟨#[]⟩ : ByteArray),([] : List ByteArray),([] : List (S25)),false)))
theorem tree_Member.mono : ∀ a0 a1 a2 a3 a4 a5 a6 k,LeO (tree_Member.f k a0 a1 a2 a3 a4 a5 a6) (tree_Member.f (k + 1) a0 a1 a2 a3 a4 a5 a6):=by
 intro a0 a1 a2 a3 a4 a5 a6 k
 unfold tree_Member.f
 repeat' first
   | (with_reducible exact slices_Index_string_string.mono _ _ _)
   | (with_reducible exact tree_copied.mono _ _ _ _ _ _ _)
   | (with_reducible exact LeO.refl _)
   | (with_reducible exact LeO.none _)
   | (with_reducible refine LeO.ite ?_ ?_)
   | (with_reducible refine LeO.bind ?_ (fun _=>?_))
   | exact LeO.none _
   | refine LeO.ite ?_ ?_
   | refine LeO.bind ?_ (fun _=>?_)
set_option maxHeartbeats 1000000 in
set_option maxRecDepth 100000 in
theorem tree_Member.calls (k : Nat) (a0_0 : Int) (a0_1 : Bool) (a0_2 : ByteArray) (a0_3 : ByteArray) (A0_4 : Option Addr) (c0_4 : Nat) (l0_4 : List ByteArray) (A0_5 : Option Addr) (c0_5 : Nat) (l0_5 : List (S25)) (a1 : ByteArray) (r1 : Int) (r2 : Bool) (r3 : ByteArray) (r4 : ByteArray) (r5 : List ByteArray) (r6 : List (S25)) (r7 : Bool) (w : World) (hr0_4 : Kd.C Kd.string w A0_4 l0_4.length l0_4) (hc0_4 : l0_4.length ≤ c0_4) (hr0_5 : Kd.C k25 w A0_5 l0_5.length l0_5) (hc0_5 : l0_5.length ≤ c0_5) (h : tree_Member.f k a0_0 a0_1 a0_2 a0_3 l0_4 l0_5 a1 = some (r1,r2,r3,r4,r5,r6,r7)) :
  Calls Tryd.prog 35 #[.agg #[.int .i64 a0_0,.bool a0_1,.string a0_2,.string a0_3,.slice A0_4 l0_4.length c0_4,.slice A0_5 l0_5.length c0_5],.string a1] w fun e w'=>∃ v4_ v5_ : Value,e = .returned (.tuple #[.agg #[.int .i64 r1,.bool r2,.string r3,.string r4,v4_,v5_],.bool r7]) ∧ Kd.V Kd.string 9 w' w.heap.size (fun k_=>(w.heap.size ≤ k_)) v4_ r5 ∧ Kd.V k25 25 w' w.heap.size (fun k_=>(w.heap.size ≤ k_)) v5_ r6 ∧ Below w.heap.size w w':=by
 have HR4:=Aside0.mk hr0_4;have HR5:=Aside0.mk hr0_5;clear hr0_4 hr0_5
 unfold tree_Member.f at h
 obtain ⟨t,ht,h⟩:=Option.bind_eq_some_iff.mp h;have HT:=Aside0.mk ht;clear ht
 by_cases h6 : a0_0 = 6
 ·subst h6
  rw [if_pos rfl] at h
  by_cases hl : (l0_4.length : Int) = (l0_5.length : Int)
  ·rw [if_pos hl] at h
   have hlb : (((l0_4.length : Nat) : Int) != (l0_5.length : Int)) = false:=by simp [hl]
   by_cases hn : t < 0
   ·rw [if_pos hn] at h
    simp only [Option.some.injEq,Prod.mk.injEq] at h
    obtain ⟨rfl,rfl,rfl,rfl,rfl,rfl,rfl⟩:=h;have hd : decide (t < 0) = true:=decide_eq_true hn;clear hl hn;go_enter Tryd.func35,Tryd.ntmps35
    go_wp2_with fail
    refine (slices_Index_string_string.calls k A0_4 c0_4 l0_4 a1 t _ ?_ hc0_4 HT.out).mono ?_
    ·exact Kd.C_below HR4.out (by repeat (first|exact Below.refl _ _|refine Below.alloc ?_ (by simp) _))
    rintro e w1 ⟨rfl,hd1⟩;have hb1:=hd1.below;obtain ⟨hc1,hf1⟩:=bcell hb1;have HB1 : Below w.heap.size w w1:=Below.trans (by repeat (first|exact Below.refl _ _|refine Below.alloc ?_ (by simp) _)) (hb1.mono (by simp;omega));have BK1:=Aside0.mk (blk_below (g:=w.heap.size + 1) (o:=.cells #[.int .i64 0,.bool false,.string ⟨#[]⟩,.string ⟨#[]⟩,.slice none 0 0,.slice none 0 0] 25 (0,0)) (by have:=blk_new (w.alloc (.cells #[.int .i64 6,.bool a0_1,.string a0_2,.string a0_3,.slice A0_4 l0_4.length c0_4,.slice A0_5 l0_5.length c0_5] 25)) (.cells #[.int .i64 0,.bool false,.string ⟨#[]⟩,.string ⟨#[]⟩,.slice none 0 0,.slice none 0 0] 25 (0,0));rw [World.size_alloc] at this;exact this) hb1);clear hd1 hb1;go_wp2
    refine bodyPost_ret (results_ct rfl _ _ (w.heap.size + 1) 25 _ (0,0) _ rfl (set6_blk BK1.out) Tryd.underlying25 rfl (by kernel_rfl)) rfl ?_;exact ⟨_,_,rfl,Kd.V_nil _ _ _ _ _,Kd.V_nil _ _ _ _ _,set6_below HB1 (by omega) _ _ _ _ _ _⟩
   rw [if_neg hn] at h
   have h0 : 0 ≤ t:=by omega
   rw [if_pos h0] at h
   by_cases hlt : t < (l0_5.length : Int)
   ·rw [if_pos hlt] at h
    obtain ⟨⟨q1,q2,q3,q4,q5,q6⟩,hq,h⟩:=Option.bind_eq_some_iff.mp h
    simp only [Option.some.injEq,Prod.mk.injEq] at h
    obtain ⟨rfl,rfl,rfl,rfl,rfl,rfl,rfl⟩:=h;have HQ:=Aside0.mk hq;clear hq;have hd : decide (t < 0) = false:=decide_eq_false hn;clear hn;obtain ⟨ad,A4,c4,A5,c5,e,x0,x1,x2,x3,x4,x5,l4,i4,l5,i5⟩:=at_T25 HR5.out t h0 hlt;subst e;have p:=eq_true h0;have q:=eq_true hlt;have I4:=Aside0.mk i4;have I5:=Aside0.mk i5;clear h0 hlt hl i4 i5;go_enter Tryd.func35,Tryd.ntmps35
    go_wp2_with fail
    refine (slices_Index_string_string.calls k A0_4 c0_4 l0_4 a1 t _ ?_ hc0_4 HT.out).mono ?_
    ·exact Kd.C_below HR4.out (by repeat (first|exact Below.refl _ _|refine Below.alloc ?_ (by simp) _))
    rintro e w1 ⟨rfl,hd1⟩;have hb1:=hd1.below;obtain ⟨hc1,hf1⟩:=bcell hb1;have HB1 : Below w.heap.size w w1:=Below.trans (by repeat (first|exact Below.refl _ _|refine Below.alloc ?_ (by simp) _)) (hb1.mono (by simp;omega))
    have hz1 : w.heap.size + 1 < w1.heap.size:=by have:=hb1.size;simp at this;omega
    have BK1:=Aside0.mk (blk_below (g:=w.heap.size + 1) (o:=.cells #[.int .i64 0,.bool false,.string ⟨#[]⟩,.string ⟨#[]⟩,.slice none 0 0,.slice none 0 0] 25 (0,0)) (by have:=blk_new (w.alloc (.cells #[.int .i64 6,.bool a0_1,.string a0_2,.string a0_3,.slice A0_4 l0_4.length c0_4,.slice (some ad) l0_5.length c0_5] 25)) (.cells #[.int .i64 0,.bool false,.string ⟨#[]⟩,.string ⟨#[]⟩,.slice none 0 0,.slice none 0 0] 25 (0,0));rw [World.size_alloc] at this;exact this) hb1);replace x0:=pw_cell_below HB1 x0;replace x1:=pw_cell_below HB1 x1;replace x2:=pw_cell_below HB1 x2;replace x3:=pw_cell_below HB1 x3;replace x4:=pw_cell_below HB1 x4;replace x5:=pw_cell_below HB1 x5;clear hd1
    go_wp2_with fail
    refine (tree_copied.calls k _ _ _ _ A4 c4 _ A5 c5 _ q1 q2 q3 q4 q5 q6 _ ?_ l4 ?_ l5 HQ.out).mono ?_
    ·exact Kd.C_below I4.out HB1
    ·exact Kd.C_below I5.out HB1
    rintro e w2 ⟨v4,v5,rfl,ho4,ho5,hb⟩;obtain ⟨hc,hf⟩:=bcell hb;have HB2:=Aside0.mk (below_step HB1 hb);have BK2:=Aside0.mk (blk_below BK1.out hb);have V4:=Kd.V_new (base':=w.heap.size) ho4 (Nat.le_refl _);have V5:=Kd.V_new (base':=w.heap.size) ho5 (Nat.le_refl _);obtain ⟨B4,d4,rfl⟩:=Kd.V_slice V4;obtain ⟨B5,d5,rfl⟩:=Kd.V_slice V5;have W4:=Aside0.mk V4;have W5:=Aside0.mk V5;clear V4 V5 ho4 ho5 hb;go_wp2
    refine bodyPost_ret (results_ct rfl _ _ (w.heap.size + 1) 25 _ (0,0) _ rfl (set6_blk BK2.out) Tryd.underlying25 rfl (by kernel_rfl)) rfl ?_;refine ⟨_,_,rfl,?_,?_,?_⟩
    ·exact Kd.V_set6 W4.out hz1 (by omega) _ _ _ _ _ _
    ·exact Kd.V_set6 W5.out hz1 (by omega) _ _ _ _ _ _
    exact set6_below HB2.out (by omega) _ _ _ _ _ _
   rw [if_neg hlt] at h
   exact absurd h (by simp)
  rw [if_neg hl] at h
  have hlb : (((l0_4.length : Nat) : Int) != (l0_5.length : Int)) = true:=by simpa using hl
  simp only [Option.some.injEq,Prod.mk.injEq] at h
  obtain ⟨rfl,rfl,rfl,rfl,rfl,rfl,rfl⟩:=h;clear hl;go_enter Tryd.func35,Tryd.ntmps35
  go_wp2_with fail
  refine (slices_Index_string_string.calls k A0_4 c0_4 l0_4 a1 t _ ?_ hc0_4 HT.out).mono ?_
  ·exact Kd.C_below HR4.out (by repeat (first|exact Below.refl _ _|refine Below.alloc ?_ (by simp) _))
  rintro e w1 ⟨rfl,hd1⟩;have hb1:=hd1.below;obtain ⟨hc1,hf1⟩:=bcell hb1;have HB1 : Below w.heap.size w w1:=Below.trans (by repeat (first|exact Below.refl _ _|refine Below.alloc ?_ (by simp) _)) (hb1.mono (by simp;omega));have BK1:=Aside0.mk (blk_below (g:=w.heap.size + 1) (o:=.cells #[.int .i64 0,.bool false,.string ⟨#[]⟩,.string ⟨#[]⟩,.slice none 0 0,.slice none 0 0] 25 (0,0)) (by have:=blk_new (w.alloc (.cells #[.int .i64 6,.bool a0_1,.string a0_2,.string a0_3,.slice A0_4 l0_4.length c0_4,.slice A0_5 l0_5.length c0_5] 25)) (.cells #[.int .i64 0,.bool false,.string ⟨#[]⟩,.string ⟨#[]⟩,.slice none 0 0,.slice none 0 0] 25 (0,0));rw [World.size_alloc] at this;exact this) hb1);clear hd1 hb1;go_wp2
  refine bodyPost_ret (results_ct rfl _ _ (w.heap.size + 1) 25 _ (0,0) _ rfl (set6_blk BK1.out) Tryd.underlying25 rfl (by kernel_rfl)) rfl ?_;exact ⟨_,_,rfl,Kd.V_nil _ _ _ _ _,Kd.V_nil _ _ _ _ _,set6_below HB1 (by omega) _ _ _ _ _ _⟩
 rw [if_neg h6] at h
 have h6b : (a0_0 != 6) = true:=by simpa using h6
 simp only [Option.some.injEq,Prod.mk.injEq] at h
 obtain ⟨rfl,rfl,rfl,rfl,rfl,rfl,rfl⟩:=h;clear h6;go_enter Tryd.func35,Tryd.ntmps35
 go_wp2_with fail
 refine (slices_Index_string_string.calls k A0_4 c0_4 l0_4 a1 t _ ?_ hc0_4 HT.out).mono ?_
 ·exact Kd.C_below HR4.out (by repeat (first|exact Below.refl _ _|refine Below.alloc ?_ (by simp) _))
 rintro e w1 ⟨rfl,hd1⟩;have hb1:=hd1.below;obtain ⟨hc1,hf1⟩:=bcell hb1;have HB1 : Below w.heap.size w w1:=Below.trans (by repeat (first|exact Below.refl _ _|refine Below.alloc ?_ (by simp) _)) (hb1.mono (by simp;omega));have BK1:=Aside0.mk (blk_below (g:=w.heap.size + 1) (o:=.cells #[.int .i64 0,.bool false,.string ⟨#[]⟩,.string ⟨#[]⟩,.slice none 0 0,.slice none 0 0] 25 (0,0)) (by have:=blk_new (w.alloc (.cells #[.int .i64 a0_0,.bool a0_1,.string a0_2,.string a0_3,.slice A0_4 l0_4.length c0_4,.slice A0_5 l0_5.length c0_5] 25)) (.cells #[.int .i64 0,.bool false,.string ⟨#[]⟩,.string ⟨#[]⟩,.slice none 0 0,.slice none 0 0] 25 (0,0));rw [World.size_alloc] at this;exact this) hb1);clear hd1 hb1;go_wp2
 refine bodyPost_ret (results_ct rfl _ _ (w.heap.size + 1) 25 _ (0,0) _ rfl (set6_blk BK1.out) Tryd.underlying25 rfl (by kernel_rfl)) rfl ?_;exact ⟨_,_,rfl,Kd.V_nil _ _ _ _ _,Kd.V_nil _ _ _ _ _,set6_below HB1 (by omega) _ _ _ _ _ _⟩
end Go.Proofs.YtfaegleohhemkaaDoor.PPointerLikes
