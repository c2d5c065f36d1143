-- Written by shrink.py, a program of this session: what the law needs of the print and its words. Lean checks it.
import Derived.Test.YtppenppagkfigaaDoorZPPointerFindsx0
import Derived.Test.YtppenppagkfigaaDoorZPPointerFindsx29
namespace Go.Proofs.YtppenppagkfigaaDoor.PPointerFinds
open Go.RowKit Go.Proofs.YtppenppagkfigaaDoorW.PrintWords Go.Proofs.YtppenppagkfigaaDoorW.PrintLast Go.Proofs.YtppenppagkfigaaDoorW.PrintMore
attribute [local go_sem] max2_int min2_int max_two min_two max_three min_three max_four min_four
set_option linter.unusedVariables false
set_option linter.unusedSimpArgs false
def quarryref17_Member.f (k : Nat) (a0_0 : Int) (a0_1 : Bool) (a0_2 : ByteArray) (a0_3 : ByteArray) (l0_4 : List ByteArray) (l0_5 : List (S25)) (a1 : ByteArray) : Option (Int × Bool × ByteArray × ByteArray × List ByteArray × (List (S25)) × Bool) :=
 if a0_0 = 6 then (if (l0_4.length : Int) = (l0_5.length : Int) then ((quarryref17_First.f k a0_0 a0_1 a0_2 a0_3 l0_4 l0_5 a1).bind fun t162=>(if t162 < 0 then (some (0,false,(⟨#[]⟩ : ByteArray),(⟨#[]⟩ : ByteArray),([] : List ByteArray),([] : List (S25)),false)) else (if t162 < (l0_5.length : Int) then (some ((rd_T25 l0_5 t162).f0,(rd_T25 l0_5 t162).f1,(rd_T25 l0_5 t162).f2,(rd_T25 l0_5 t162).f3,(rd_T25 l0_5 t162).f4,(rd_T25 l0_5 t162).f5,true)) else none)))
 else (some (0,false,(⟨#[]⟩ : ByteArray),(⟨#[]⟩ : ByteArray),([] : List ByteArray),([] : List (S25)),false))) else (some (0,false,(⟨#[]⟩ : ByteArray),(⟨#[]⟩ : ByteArray),([] : List ByteArray),([] : List (S25)),false))
set_option maxHeartbeats 1000000 in
set_option maxRecDepth 100000 in
theorem quarryref17_Member.calls (k : Nat) (a0_0 : Int) (a0_1 : Bool) (a0_2 : ByteArray) (a0_3 : ByteArray) (A0_4 : Option Addr) (c0_4 : Nat) (l0_4 : List ByteArray) (P0_5_ : Nat → Prop) (A0_5 : Option Addr) (c0_5 : Nat) (l0_5 : List (S25)) (a1 : ByteArray) (r1 : Int) (r2 : Bool) (r3 : ByteArray) (r4 : ByteArray) (r5 : List ByteArray) (r6 : List (S25)) (r7 : Bool) (w : World) (hr0_4 : Kd.C Kd.string w A0_4 l0_4.length l0_4) (hc0_4 : l0_4.length ≤ c0_4) (hs0_5 : Kd.V k25 25 w w.heap.size (fun k_=>P0_5_ k_) (.slice A0_5 l0_5.length c0_5) l0_5) (h : quarryref17_Member.f k a0_0 a0_1 a0_2 a0_3 l0_4 l0_5 a1 = some (r1,r2,r3,r4,r5,r6,r7)) :
  Calls Tryd.prog 48 #[.agg #[.int .i64 a0_0,.bool a0_1,.string a0_2,.string a0_3,.slice A0_4 l0_4.length c0_4,.slice A0_5 l0_5.length c0_5],.string a1] w fun e w'=>∃ v4_ v5_ : Value,e = .returned (.tuple #[.agg #[.int .i64 r1,.bool r2,.string r3,.string r4,v4_,v5_],.bool r7]) ∧ Kd.V Kd.string 9 w' w.heap.size (fun k_=>(P0_5_ k_ ∨ w.heap.size ≤ k_)) v4_ r5 ∧ Kd.V k25 25 w' w.heap.size (fun k_=>(P0_5_ k_ ∨ w.heap.size ≤ k_)) v5_ r6 ∧ Below w.heap.size w w':=by
 have HR4:=Aside0.mk hr0_4
 have HS5:=Aside0.mk hs0_5
 have HC5:=Aside0.mk (Kd.V_reads' hs0_5)
 clear hr0_4 hs0_5
 unfold quarryref17_Member.f at h
 by_cases h6 : a0_0 = 6
 ·subst h6
  rw [if_pos rfl] at h
  by_cases hl : (l0_4.length : Int) = (l0_5.length : Int)
  ·rw [if_pos hl] at h
   have hlb : (((l0_4.length : Nat) : Int) != (l0_5.length : Int)) = false:=by simp [hl]
   obtain ⟨t,ht,h⟩:=Option.bind_eq_some_iff.mp h
   have HT:=Aside0.mk ht
   clear ht
   by_cases hn : t < 0
   ·rw [if_pos hn] at h
    simp only [Option.some.injEq,Prod.mk.injEq] at h
    obtain ⟨rfl,rfl,rfl,rfl,rfl,rfl,rfl⟩:=h
    have hd : decide (t < 0) = true:=decide_eq_true hn
    clear hl hn
    go_enter Tryd.func48,Tryd.ntmps48
    go_wp2_with fail
    refine (quarryref17_First.calls k _ _ _ _ A0_4 c0_4 l0_4 A0_5 c0_5 l0_5 a1 t _ ?_ hc0_4 ?_ HC5.out.2.1 HT.out).mono ?_
    ·exact Kd.C_below HR4.out (by repeat (first|exact Below.refl _ _|refine Below.alloc ?_ (by simp) _))
    ·exact Kd.C_below HC5.out.2.2 (by repeat (first|exact Below.refl _ _|refine Below.alloc ?_ (by simp) _))
    rintro e w1 ⟨rfl,hb1⟩
    obtain ⟨hc1,hf1⟩:=bcell hb1
    have HB1 : Below w.heap.size w w1:=Below.trans (by repeat (first|exact Below.refl _ _|refine Below.alloc ?_ (by simp) _)) (hb1.mono (by simp;omega))
    have BK1:=Aside0.mk (blk_below (g:=w.heap.size + 1) (o:=.cells #[.int .i64 0,.bool false,.string ⟨#[]⟩,.string ⟨#[]⟩,.slice none 0 0,.slice none 0 0] 25 (0,0)) (by have:=blk_new (w.alloc (.cells #[.int .i64 6,.bool a0_1,.string a0_2,.string a0_3,.slice A0_4 l0_4.length c0_4,.slice A0_5 l0_5.length c0_5] 25)) (.cells #[.int .i64 0,.bool false,.string ⟨#[]⟩,.string ⟨#[]⟩,.slice none 0 0,.slice none 0 0] 25 (0,0));rw [World.size_alloc] at this;exact this) hb1)
    clear hb1
    go_wp2
    refine bodyPost_ret (results_ct rfl _ _ (w.heap.size + 1) 25 _ (0,0) _ rfl (set6_blk BK1.out) Tryd.underlying25 rfl (by kernel_rfl)) rfl ?_
    exact ⟨_,_,rfl,Kd.V_nil _ _ _ _ _,Kd.V_nil _ _ _ _ _,set6_below HB1 (by omega) _ _ _ _ _ _⟩
   ·rw [if_neg hn] at h
    have h0 : 0 ≤ t:=by omega
    by_cases hlt : t < (l0_5.length : Int)
    ·rw [if_pos hlt] at h
     simp only [Option.some.injEq,Prod.mk.injEq] at h
     obtain ⟨rfl,rfl,rfl,rfl,rfl,rfl,rfl⟩:=h
     have hd : decide (t < 0) = false:=decide_eq_false hn
     obtain ⟨ad,A4,c4,A5,c5,e,x0,x1,x2,x3,x4,x5,l4,i4,l5,i5⟩:=at_T25 HC5.out.2.2 t h0 hlt
     subst e
     obtain ⟨cs,_,hK,hcc⟩:=Kd.V_get HS5.out z25 t h0 hlt
     obtain ⟨E4,e4,E5,e5,rfl,m4,f4,m5,f5⟩:=k25_openF hK
     have y4 : w.cell? (ad.add (t.toNat * 6 + 4)) = _:=hcc 4 _ rfl
     have y5 : w.cell? (ad.add (t.toNat * 6 + 5)) = _:=hcc 5 _ rfl
     rw [add_field _ _ 4 (by omega),x4] at y4
     rw [add_field _ _ 5 (by omega),x5] at y5
     injection y4 with y4
     injection y5 with y5
     injection y4 with y4 y4b y4c
     injection y5 with y5 y5b y5c
     have G4:=Aside0.mk (show Kd.F Kd.string w (fun k_=>P0_5_ k_) A4 (rd_T25 l0_5 t).f4.length (rd_T25 l0_5 t).f4 from y4 ▸ f4)
     have G5:=Aside0.mk (show Kd.F k25 w (fun k_=>P0_5_ k_) A5 (rd_T25 l0_5 t).f5.length (rd_T25 l0_5 t).f5 from y5 ▸ f5)
     have p:=eq_true h0
     have q:=eq_true hlt
     clear h0 hlt hl i4 i5 y4 y5 y4b y5b y4c y5c f4 f5 hK hcc m4 m5
     go_enter Tryd.func48,Tryd.ntmps48
     go_wp2_with fail
     refine (quarryref17_First.calls k _ _ _ _ A0_4 c0_4 l0_4 _ c0_5 l0_5 a1 t _ ?_ hc0_4 ?_ HC5.out.2.1 HT.out).mono ?_
     ·exact Kd.C_below HR4.out (by repeat (first|exact Below.refl _ _|refine Below.alloc ?_ (by simp) _))
     ·exact Kd.C_below HC5.out.2.2 (by repeat (first|exact Below.refl _ _|refine Below.alloc ?_ (by simp) _))
     rintro e w1 ⟨rfl,hb1⟩
     obtain ⟨hc1,hf1⟩:=bcell hb1
     have HB1 : Below w.heap.size w w1:=Below.trans (by repeat (first|exact Below.refl _ _|refine Below.alloc ?_ (by simp) _)) (hb1.mono (by simp;omega))
     have BK1:=Aside0.mk (blk_below (g:=w.heap.size + 1) (o:=.cells #[.int .i64 0,.bool false,.string ⟨#[]⟩,.string ⟨#[]⟩,.slice none 0 0,.slice none 0 0] 25 (0,0)) (by have:=blk_new (w.alloc (.cells #[.int .i64 6,.bool a0_1,.string a0_2,.string a0_3,.slice A0_4 l0_4.length c0_4,.slice (some ad) l0_5.length c0_5] 25)) (.cells #[.int .i64 0,.bool false,.string ⟨#[]⟩,.string ⟨#[]⟩,.slice none 0 0,.slice none 0 0] 25 (0,0));rw [World.size_alloc] at this;exact this) hb1)
     have hz1 : w.heap.size + 1 < w1.heap.size:=by have:=hb1.size;simp at this;omega
     replace x0:=pw_cell_below HB1 x0
     replace x1:=pw_cell_below HB1 x1
     replace x2:=pw_cell_below HB1 x2
     replace x3:=pw_cell_below HB1 x3
     replace x4:=pw_cell_below HB1 x4
     replace x5:=pw_cell_below HB1 x5
     clear hb1
     go_wp2
     refine bodyPost_ret (results_ct rfl _ _ (w.heap.size + 1) 25 _ (0,0) _ rfl (set6_blk BK1.out) Tryd.underlying25 rfl (by kernel_rfl)) rfl ?_
     refine ⟨_,_,rfl,?_,?_,set6_below HB1 (by omega) _ _ _ _ _ _⟩
     ·exact Kd.V_set6_old (w:=w) (w1:=w1) (g:=w.heap.size + 1) (base:=0) (ok:=fun k_=>P0_5_ k_) (ok':=fun k_=>(P0_5_ k_ ∨ w.heap.size ≤ k_)) (Kd.V_mk l4 G4.out) HB1 (Nat.le_succ _) (fun _ hk=>Or.inl hk) _ _ _ _ _ _
     ·exact Kd.V_set6_old (w:=w) (w1:=w1) (g:=w.heap.size + 1) (base:=0) (ok:=fun k_=>P0_5_ k_) (ok':=fun k_=>(P0_5_ k_ ∨ w.heap.size ≤ k_)) (Kd.V_mk l5 G5.out) HB1 (Nat.le_succ _) (fun _ hk=>Or.inl hk) _ _ _ _ _ _
    ·rw [if_neg hlt] at h
     exact absurd h (by simp)
  ·rw [if_neg hl] at h
   have hlb : (((l0_4.length : Nat) : Int) != (l0_5.length : Int)) = true:=by simpa using hl
   simp only [Option.some.injEq,Prod.mk.injEq] at h
   obtain ⟨rfl,rfl,rfl,rfl,rfl,rfl,rfl⟩:=h
   clear hl
   go_enter Tryd.func48,Tryd.ntmps48
   go_wp2
   refine bodyPost_ret (results_ct rfl _ _ (w.heap.size + 1) 25 _ (0,0) _ rfl (by have:=blk_new (w.alloc (.cells #[.int .i64 6,.bool a0_1,.string a0_2,.string a0_3,.slice A0_4 l0_4.length c0_4,.slice A0_5 l0_5.length c0_5] 25)) (.cells #[.int .i64 0,.bool false,.string ⟨#[]⟩,.string ⟨#[]⟩,.slice none 0 0,.slice none 0 0] 25 (0,0));rw [World.size_alloc] at this;exact this) Tryd.underlying25 rfl (by kernel_rfl)) rfl ?_
   exact ⟨_,_,rfl,Kd.V_nil _ _ _ _ _,Kd.V_nil _ _ _ _ _,by repeat (first|exact Below.refl _ _|refine Below.alloc ?_ (by simp) _)⟩
 ·rw [if_neg h6] at h
  have h6b : (a0_0 != 6) = true:=by simpa using h6
  simp only [Option.some.injEq,Prod.mk.injEq] at h
  obtain ⟨rfl,rfl,rfl,rfl,rfl,rfl,rfl⟩:=h
  clear h6
  go_enter Tryd.func48,Tryd.ntmps48
  go_wp2
  refine bodyPost_ret (results_ct rfl _ _ (w.heap.size + 1) 25 _ (0,0) _ rfl (by have:=blk_new (w.alloc (.cells #[.int .i64 a0_0,.bool a0_1,.string a0_2,.string a0_3,.slice A0_4 l0_4.length c0_4,.slice A0_5 l0_5.length c0_5] 25)) (.cells #[.int .i64 0,.bool false,.string ⟨#[]⟩,.string ⟨#[]⟩,.slice none 0 0,.slice none 0 0] 25 (0,0));rw [World.size_alloc] at this;exact this) Tryd.underlying25 rfl (by kernel_rfl)) rfl ?_
  exact ⟨_,_,rfl,Kd.V_nil _ _ _ _ _,Kd.V_nil _ _ _ _ _,by repeat (first|exact Below.refl _ _|refine Below.alloc ?_ (by simp) _)⟩
end Go.Proofs.YtppenppagkfigaaDoor.PPointerFinds
