-- Written by shrink.py, a program of this session: what the law needs of the print and its words. Lean checks it.
import Derived.Test.YtlgamjgdkljfiacGreatDoorZPWritePrettiesx0
import Derived.Test.YtlgamjgdkljfiacGreatDoorZPWritePrettiesx10
import Derived.Test.YtlgamjgdkljfiacGreatDoorZPWritePrettiesx11
import Derived.Test.YtlgamjgdkljfiacGreatDoorZPWritePrettiesx13
import Derived.WalkMore
import Derived.Deep.QuietTactic
import Derived.BigQuiet
namespace Go.Proofs.YtlgamjgdkljfiacGreatDoor.PWritePretties
open Go.RowKit Go.Proofs.YtlgamjgdkljfiacGreatDoorW.PrintWords Go.Proofs.YtlgamjgdkljfiacGreatDoorW.PrintLast Go.Proofs.YtlgamjgdkljfiacGreatDoorW.PrintMore
attribute [local go_sem] max2_int min2_int max_two min_two max_three min_three max_four min_four
set_option linter.unusedVariables false
set_option linter.unusedSimpArgs false
def eq5 (x0 x1 x2 x3 x4 y0 y1 y2 y3 y4 : Bool) : Bool:=x0 == y0 && (x1 == y1 && (x2 == y2 && (x3 == y3 && (x4 == y4))))
theorem run_eq5 (d : Nat) (w : World) (x0 y0 : Bool) (x1 y1 : Bool) (x2 y2 : Bool) (x3 y3 : Bool) (x4 y4 : Bool) :
  (Op.equalIn (d + 2) 104 (.agg #[.bool x0,.bool x1,.bool x2,.bool x3,.bool x4]) (.agg #[.bool y0,.bool y1,.bool y2,.bool y3,.bool y4])).run Tryz.prog w = .ok (eq5 x0 x1 x2 x3 x4 y0 y1 y2 y3 y4) w:=by
 unfold eq5
 refine eqA_of Tryz.underlying104 (by kernel_rfl) ?_;refine eqf_cons (by rfl) (by go_simp;rfl) (by go_simp;rfl) (by go_simp) ?_;refine eqf_cons (by rfl) (by go_simp;rfl) (by go_simp;rfl) (by go_simp) ?_;refine eqf_cons (by rfl) (by go_simp;rfl) (by go_simp;rfl) (by go_simp) ?_;refine eqf_cons (by rfl) (by go_simp;rfl) (by go_simp;rfl) (by go_simp) ?_;exact eqf_last (by rfl) (by go_simp;rfl) (by go_simp;rfl) (by go_simp)
def tree_plain.bads (l : List ByteArray) : Option Bool:=if l.all (fun s=>decide (s.size ≤ 1099511627776)) = true then some (l.any badB) else none
def tree_plain.f (a0_0 : Int) (a0_1 : Bool) (a0_2 : ByteArray) (a0_3 : ByteArray) (l0_4 : List ByteArray) (l0_5 : List (S25)) : Option Bool :=
 (tree_used.f a0_0 a0_1 a0_2 a0_3 l0_4 l0_5).bind fun u =>
  if a0_0 = 1 then some (eq5 u.1 u.2.1 u.2.2.1 u.2.2.2.1 u.2.2.2.2 false false false false false)
  else if a0_0 = 2 then some (eq5 u.1 u.2.1 u.2.2.1 u.2.2.2.1 u.2.2.2.2 a0_1 false false false false)
  else if a0_0 = 3 then (decimal_Of.f a0_2).bind fun d=>some (eq5 u.1 u.2.1 u.2.2.1 u.2.2.2.1 u.2.2.2.2 false true false false false && (d.2.2.2 != 110))
  else if a0_0 = 4 then (if eq5 u.1 u.2.1 u.2.2.1 u.2.2.2.1 u.2.2.2.2 false false u.2.2.1 false false = true then (utf8_Bad.f a0_3).bind fun b=>some (decide (b < 0)) else some false)
  else if a0_0 = 5 then some (eq5 u.1 u.2.1 u.2.2.1 u.2.2.2.1 u.2.2.2.2 false false false false u.2.2.2.2)
  else if a0_0 = 6 then (if eq5 u.1 u.2.1 u.2.2.1 u.2.2.2.1 u.2.2.2.2 false false false u.2.2.2.1 u.2.2.2.2 = true then (if l0_4.length = l0_5.length then (tree_plain.bads l0_4).bind fun b=>some (!b) else some false) else some false)
  else some false
attribute [local go_sem high] run_eq5
set_option maxHeartbeats 4000000 in
set_option maxRecDepth 100000 in
theorem tree_plain.calls (a0_0 : Int) (a0_1 : Bool) (a0_2 : ByteArray) (a0_3 : ByteArray) (A0_4 : Option Addr) (c0_4 : Nat) (l0_4 : List ByteArray) (A0_5 : Option Addr) (c0_5 : Nat) (l0_5 : List (S25)) (r : Bool) (w : World) (hr0_4 : Kd.C Kd.string w A0_4 l0_4.length l0_4) (hc0_4 : l0_4.length ≤ c0_4) (hr0_5 : Kd.C k25 w A0_5 l0_5.length l0_5) (hc0_5 : l0_5.length ≤ c0_5) (h : tree_plain.f a0_0 a0_1 a0_2 a0_3 l0_4 l0_5 = some r) :
  Calls Tryz.prog 47 #[.agg #[.int .i64 a0_0,.bool a0_1,.string a0_2,.string a0_3,.slice A0_4 l0_4.length c0_4,.slice A0_5 l0_5.length c0_5]] w fun e w'=>e = .returned (.bool r) ∧ Below w.heap.size w w':=by
 have HR4:=Aside0.mk hr0_4;have HR5:=Aside0.mk hr0_5;clear hr0_4 hr0_5
 unfold tree_plain.f at h
 obtain ⟨⟨b1,b2,b3,b4,b5⟩,hu,h⟩:=Option.bind_eq_some_iff.mp h;have HU:=Aside0.mk hu;clear hu
 simp only at h
 by_cases k1 : a0_0 = 1
 ·subst k1
  rw [if_pos rfl] at h
  obtain rfl:=Option.some.inj h;clear h;go_enter Tryz.func47,Tryz.ntmps47
  go_wp2_with fail
  refine (tree_used.calls 1 a0_1 a0_2 a0_3 A0_4 c0_4 l0_4 A0_5 c0_5 l0_5 b1 b2 b3 b4 b5 _ (Kd.C_alloc HR4.out _) hc0_4 (Kd.C_alloc HR5.out _) hc0_5 HU.out).mono ?_;rintro e w1 ⟨rfl,hb1⟩;have HB1:=Aside0.mk (below_then ((Below.refl w.heap.size w).alloc (Nat.le_refl _) (.cells #[.int .i64 1,.bool a0_1,.string a0_2,.string a0_3,.slice A0_4 l0_4.length c0_4,.slice A0_5 l0_5.length c0_5] 25)) (by simp) hb1)
  have hz1 : w.heap.size < w1.heap.size:=by have:=hb1.size;simp at this;omega
  have hbk:=blk_below (blk_new w (.cells #[.int .i64 1,.bool a0_1,.string a0_2,.string a0_3,.slice A0_4 l0_4.length c0_4,.slice A0_5 l0_5.length c0_5] 25 (0,0))) hb1;have z0:=(blk_cell hbk 0).trans rfl;have z1:=(blk_cell hbk 1).trans rfl;have z2:=(blk_cell hbk 2).trans rfl;have z3:=(blk_cell hbk 3).trans rfl;have z4:=(blk_cell hbk 4).trans rfl;have z5:=(blk_cell hbk 5).trans rfl;have HK1:=Aside0.mk hbk;clear hb1 hbk;go_wp2
  go_ret;exact ⟨rfl,HB1.out.alloc (by omega) _⟩
 by_cases k2 : a0_0 = 2
 ·subst k2
  rw [if_neg (by decide),if_pos rfl] at h
  clear k1;obtain rfl:=Option.some.inj h;clear h;go_enter Tryz.func47,Tryz.ntmps47
  go_wp2_with fail
  refine (tree_used.calls 2 a0_1 a0_2 a0_3 A0_4 c0_4 l0_4 A0_5 c0_5 l0_5 b1 b2 b3 b4 b5 _ (Kd.C_alloc HR4.out _) hc0_4 (Kd.C_alloc HR5.out _) hc0_5 HU.out).mono ?_;rintro e w1 ⟨rfl,hb1⟩;have HB1:=Aside0.mk (below_then ((Below.refl w.heap.size w).alloc (Nat.le_refl _) (.cells #[.int .i64 2,.bool a0_1,.string a0_2,.string a0_3,.slice A0_4 l0_4.length c0_4,.slice A0_5 l0_5.length c0_5] 25)) (by simp) hb1)
  have hz1 : w.heap.size < w1.heap.size:=by have:=hb1.size;simp at this;omega
  have hbk:=blk_below (blk_new w (.cells #[.int .i64 2,.bool a0_1,.string a0_2,.string a0_3,.slice A0_4 l0_4.length c0_4,.slice A0_5 l0_5.length c0_5] 25 (0,0))) hb1;have z0:=(blk_cell hbk 0).trans rfl;have z1:=(blk_cell hbk 1).trans rfl;have z2:=(blk_cell hbk 2).trans rfl;have z3:=(blk_cell hbk 3).trans rfl;have z4:=(blk_cell hbk 4).trans rfl;have z5:=(blk_cell hbk 5).trans rfl;have HK1:=Aside0.mk hbk;clear hb1 hbk;go_wp2
  go_ret;exact ⟨rfl,HB1.out.alloc (by omega) _⟩
 by_cases k3 : a0_0 = 3
 ·subst k3
  rw [if_neg (by decide),if_neg (by decide),if_pos rfl] at h
  clear k1 k2;obtain ⟨⟨d1,d2,d3,d4⟩,hd,h⟩:=Option.bind_eq_some_iff.mp h
  simp only at h
  obtain rfl:=Option.some.inj h;have HD:=Aside0.mk hd;clear h hd
  cases hE : eq5 b1 b2 b3 b4 b5 false true false false false with
  | true =>
   have HE:=Aside0.mk hE;go_enter Tryz.func47,Tryz.ntmps47
   go_wp2_with fail
   refine (tree_used.calls 3 a0_1 a0_2 a0_3 A0_4 c0_4 l0_4 A0_5 c0_5 l0_5 b1 b2 b3 b4 b5 _ (Kd.C_alloc HR4.out _) hc0_4 (Kd.C_alloc HR5.out _) hc0_5 HU.out).mono ?_;rintro e w1 ⟨rfl,hb1⟩;have HB1:=Aside0.mk (below_then ((Below.refl w.heap.size w).alloc (Nat.le_refl _) (.cells #[.int .i64 3,.bool a0_1,.string a0_2,.string a0_3,.slice A0_4 l0_4.length c0_4,.slice A0_5 l0_5.length c0_5] 25)) (by simp) hb1)
   have hz1 : w.heap.size < w1.heap.size:=by have:=hb1.size;simp at this;omega
   have hbk:=blk_below (blk_new w (.cells #[.int .i64 3,.bool a0_1,.string a0_2,.string a0_3,.slice A0_4 l0_4.length c0_4,.slice A0_5 l0_5.length c0_5] 25 (0,0))) hb1;have z0:=(blk_cell hbk 0).trans rfl;have z1:=(blk_cell hbk 1).trans rfl;have z2:=(blk_cell hbk 2).trans rfl;have z3:=(blk_cell hbk 3).trans rfl;have z4:=(blk_cell hbk 4).trans rfl;have z5:=(blk_cell hbk 5).trans rfl;have HK1:=Aside0.mk hbk;clear hb1 hbk
   go_wp2_with fail
   refine (decimal_Of.calls a0_2 d1 d2 d3 d4 _ HD.out).mono ?_;rintro e w2 ⟨rfl,hb2⟩;have HB2:=Aside0.mk (below_then (HB1.out.alloc (by omega) (.cells #[.bool b1,.bool b2,.bool b3,.bool b4,.bool b5] 104)) (by simp;omega) hb2)
   have hz2 : w1.heap.size < w2.heap.size:=by have:=hb2.size;simp at this;omega
   have hbk:=blk_below (blk_new w1 (.cells #[.bool b1,.bool b2,.bool b3,.bool b4,.bool b5] 104 (0,0))) hb2;have y0:=(blk_cell hbk 0).trans rfl;have y1:=(blk_cell hbk 1).trans rfl;have y2:=(blk_cell hbk 2).trans rfl;have y3:=(blk_cell hbk 3).trans rfl;have y4:=(blk_cell hbk 4).trans rfl;clear z0 z1 z2 z3 z4 z5 hb2 hbk;go_wp2
   go_ret;exact ⟨by first|rfl|simp [HE.out]|(simp [HE.out];done),(HB2.out.alloc (by omega) _)⟩
  | false =>
   have HE:=Aside0.mk hE;go_enter Tryz.func47,Tryz.ntmps47
   go_wp2_with fail
   refine (tree_used.calls 3 a0_1 a0_2 a0_3 A0_4 c0_4 l0_4 A0_5 c0_5 l0_5 b1 b2 b3 b4 b5 _ (Kd.C_alloc HR4.out _) hc0_4 (Kd.C_alloc HR5.out _) hc0_5 HU.out).mono ?_;rintro e w1 ⟨rfl,hb1⟩;have HB1:=Aside0.mk (below_then ((Below.refl w.heap.size w).alloc (Nat.le_refl _) (.cells #[.int .i64 3,.bool a0_1,.string a0_2,.string a0_3,.slice A0_4 l0_4.length c0_4,.slice A0_5 l0_5.length c0_5] 25)) (by simp) hb1)
   have hz1 : w.heap.size < w1.heap.size:=by have:=hb1.size;simp at this;omega
   have hbk:=blk_below (blk_new w (.cells #[.int .i64 3,.bool a0_1,.string a0_2,.string a0_3,.slice A0_4 l0_4.length c0_4,.slice A0_5 l0_5.length c0_5] 25 (0,0))) hb1;have z0:=(blk_cell hbk 0).trans rfl;have z1:=(blk_cell hbk 1).trans rfl;have z2:=(blk_cell hbk 2).trans rfl;have z3:=(blk_cell hbk 3).trans rfl;have z4:=(blk_cell hbk 4).trans rfl;have z5:=(blk_cell hbk 5).trans rfl;have HK1:=Aside0.mk hbk;clear hb1 hbk
   go_wp2_with fail
   refine (decimal_Of.calls a0_2 d1 d2 d3 d4 _ HD.out).mono ?_;rintro e w2 ⟨rfl,hb2⟩;have HB2:=Aside0.mk (below_then (HB1.out.alloc (by omega) (.cells #[.bool b1,.bool b2,.bool b3,.bool b4,.bool b5] 104)) (by simp;omega) hb2)
   have hz2 : w1.heap.size < w2.heap.size:=by have:=hb2.size;simp at this;omega
   have hbk:=blk_below (blk_new w1 (.cells #[.bool b1,.bool b2,.bool b3,.bool b4,.bool b5] 104 (0,0))) hb2;have y0:=(blk_cell hbk 0).trans rfl;have y1:=(blk_cell hbk 1).trans rfl;have y2:=(blk_cell hbk 2).trans rfl;have y3:=(blk_cell hbk 3).trans rfl;have y4:=(blk_cell hbk 4).trans rfl;clear z0 z1 z2 z3 z4 z5 hb2 hbk;go_wp2
   go_ret;exact ⟨by first|rfl|simp [HE.out]|(simp [HE.out];done),(HB2.out.alloc (by omega) _)⟩
 by_cases k4 : a0_0 = 4
 ·subst k4
  rw [if_neg (by decide),if_neg (by decide),if_neg (by decide),if_pos rfl] at h
  clear k1 k2 k3
  cases hE : eq5 b1 b2 b3 b4 b5 false false b3 false false with
  | true =>
   rw [hE,if_pos rfl] at h
   obtain ⟨b,hb,h⟩:=Option.bind_eq_some_iff.mp h;obtain rfl:=Option.some.inj h;have HD:=Aside0.mk hb;clear h hb;go_enter Tryz.func47,Tryz.ntmps47
   go_wp2_with fail
   refine (tree_used.calls 4 a0_1 a0_2 a0_3 A0_4 c0_4 l0_4 A0_5 c0_5 l0_5 b1 b2 b3 b4 b5 _ (Kd.C_alloc HR4.out _) hc0_4 (Kd.C_alloc HR5.out _) hc0_5 HU.out).mono ?_;rintro e w1 ⟨rfl,hb1⟩;have HB1:=Aside0.mk (below_then ((Below.refl w.heap.size w).alloc (Nat.le_refl _) (.cells #[.int .i64 4,.bool a0_1,.string a0_2,.string a0_3,.slice A0_4 l0_4.length c0_4,.slice A0_5 l0_5.length c0_5] 25)) (by simp) hb1)
   have hz1 : w.heap.size < w1.heap.size:=by have:=hb1.size;simp at this;omega
   have hbk:=blk_below (blk_new w (.cells #[.int .i64 4,.bool a0_1,.string a0_2,.string a0_3,.slice A0_4 l0_4.length c0_4,.slice A0_5 l0_5.length c0_5] 25 (0,0))) hb1;have z0:=(blk_cell hbk 0).trans rfl;have z1:=(blk_cell hbk 1).trans rfl;have z2:=(blk_cell hbk 2).trans rfl;have z3:=(blk_cell hbk 3).trans rfl;have z4:=(blk_cell hbk 4).trans rfl;have z5:=(blk_cell hbk 5).trans rfl;have HK1:=Aside0.mk hbk;clear hb1 hbk
   go_wp2_with fail
   refine (utf8_Bad.calls a0_3 b _ HD.out).mono ?_;rintro e w2 ⟨rfl,hb2⟩;have HB2:=Aside0.mk (below_then (HB1.out.alloc (by omega) (.cells #[.bool b1,.bool b2,.bool b3,.bool b4,.bool b5] 104)) (by simp;omega) hb2)
   have hz2 : w1.heap.size < w2.heap.size:=by have:=hb2.size;simp at this;omega
   have hbk:=blk_below (blk_new w1 (.cells #[.bool b1,.bool b2,.bool b3,.bool b4,.bool b5] 104 (0,0))) hb2;have y0:=(blk_cell hbk 0).trans rfl;have y1:=(blk_cell hbk 1).trans rfl;have y2:=(blk_cell hbk 2).trans rfl;have y3:=(blk_cell hbk 3).trans rfl;have y4:=(blk_cell hbk 4).trans rfl;clear z0 z1 z2 z3 z4 z5 hb2 hbk;go_wp2
   go_ret;exact ⟨rfl,HB2.out⟩
  | false =>
   rw [hE,if_neg (by decide)] at h
   obtain rfl:=Option.some.inj h;clear h;go_enter Tryz.func47,Tryz.ntmps47
   go_wp2_with fail
   refine (tree_used.calls 4 a0_1 a0_2 a0_3 A0_4 c0_4 l0_4 A0_5 c0_5 l0_5 b1 b2 b3 b4 b5 _ (Kd.C_alloc HR4.out _) hc0_4 (Kd.C_alloc HR5.out _) hc0_5 HU.out).mono ?_;rintro e w1 ⟨rfl,hb1⟩;have HB1:=Aside0.mk (below_then ((Below.refl w.heap.size w).alloc (Nat.le_refl _) (.cells #[.int .i64 4,.bool a0_1,.string a0_2,.string a0_3,.slice A0_4 l0_4.length c0_4,.slice A0_5 l0_5.length c0_5] 25)) (by simp) hb1)
   have hz1 : w.heap.size < w1.heap.size:=by have:=hb1.size;simp at this;omega
   have hbk:=blk_below (blk_new w (.cells #[.int .i64 4,.bool a0_1,.string a0_2,.string a0_3,.slice A0_4 l0_4.length c0_4,.slice A0_5 l0_5.length c0_5] 25 (0,0))) hb1;have z0:=(blk_cell hbk 0).trans rfl;have z1:=(blk_cell hbk 1).trans rfl;have z2:=(blk_cell hbk 2).trans rfl;have z3:=(blk_cell hbk 3).trans rfl;have z4:=(blk_cell hbk 4).trans rfl;have z5:=(blk_cell hbk 5).trans rfl;have HK1:=Aside0.mk hbk;clear hb1 hbk;go_wp2
   go_ret;exact ⟨rfl,HB1.out.alloc (by omega) _⟩
 by_cases k5 : a0_0 = 5
 ·subst k5
  rw [if_neg (by decide),if_neg (by decide),if_neg (by decide),if_neg (by decide),if_pos rfl] at h
  clear k1 k2 k3 k4;obtain rfl:=Option.some.inj h;clear h;go_enter Tryz.func47,Tryz.ntmps47
  go_wp2_with fail
  refine (tree_used.calls 5 a0_1 a0_2 a0_3 A0_4 c0_4 l0_4 A0_5 c0_5 l0_5 b1 b2 b3 b4 b5 _ (Kd.C_alloc HR4.out _) hc0_4 (Kd.C_alloc HR5.out _) hc0_5 HU.out).mono ?_;rintro e w1 ⟨rfl,hb1⟩;have HB1:=Aside0.mk (below_then ((Below.refl w.heap.size w).alloc (Nat.le_refl _) (.cells #[.int .i64 5,.bool a0_1,.string a0_2,.string a0_3,.slice A0_4 l0_4.length c0_4,.slice A0_5 l0_5.length c0_5] 25)) (by simp) hb1)
  have hz1 : w.heap.size < w1.heap.size:=by have:=hb1.size;simp at this;omega
  have hbk:=blk_below (blk_new w (.cells #[.int .i64 5,.bool a0_1,.string a0_2,.string a0_3,.slice A0_4 l0_4.length c0_4,.slice A0_5 l0_5.length c0_5] 25 (0,0))) hb1;have z0:=(blk_cell hbk 0).trans rfl;have z1:=(blk_cell hbk 1).trans rfl;have z2:=(blk_cell hbk 2).trans rfl;have z3:=(blk_cell hbk 3).trans rfl;have z4:=(blk_cell hbk 4).trans rfl;have z5:=(blk_cell hbk 5).trans rfl;have HK1:=Aside0.mk hbk;clear hb1 hbk;go_wp2
  go_ret;exact ⟨rfl,HB1.out.alloc (by omega) _⟩
 by_cases k6 : a0_0 = 6
 ·subst k6
  rw [if_neg (by decide),if_neg (by decide),if_neg (by decide),if_neg (by decide),if_neg (by decide),if_pos rfl] at h
  clear k1 k2 k3 k4 k5
  cases hE : eq5 b1 b2 b3 b4 b5 false false false b4 b5 with
  | true =>
   rw [hE,if_pos rfl] at h
   by_cases hl : l0_4.length = l0_5.length
   ·rw [if_pos hl] at h
    obtain ⟨b,hb,h⟩:=Option.bind_eq_some_iff.mp h;obtain rfl:=Option.some.inj h
    unfold tree_plain.bads at hb
    by_cases hall : l0_4.all (fun s=>decide (s.size ≤ 1099511627776)) = true
    ·rw [if_pos hall] at hb
     obtain rfl:=Option.some.inj hb;have HA : Aside0 (∀ s ∈ l0_4,s.size ≤ 1099511627776):=⟨by simpa using hall⟩;have hl1 : (l0_4.length == l0_5.length) = true:=beq_iff_eq.mpr hl
     have hl2 : ((l0_4.length : Int) == (l0_5.length : Int)) = true:=by simp [hl]
     have HL:=Aside0.mk hl;clear h hb hall hl;go_enter Tryz.func47,Tryz.ntmps47
     go_wp2_with fail
     refine (tree_used.calls 6 a0_1 a0_2 a0_3 A0_4 c0_4 l0_4 A0_5 c0_5 l0_5 b1 b2 b3 b4 b5 _ (Kd.C_alloc HR4.out _) hc0_4 (Kd.C_alloc HR5.out _) hc0_5 HU.out).mono ?_;rintro e w1 ⟨rfl,hb1⟩;have HB1:=Aside0.mk (below_then ((Below.refl w.heap.size w).alloc (Nat.le_refl _) (.cells #[.int .i64 6,.bool a0_1,.string a0_2,.string a0_3,.slice A0_4 l0_4.length c0_4,.slice A0_5 l0_5.length c0_5] 25)) (by simp) hb1)
     have hz1 : w.heap.size < w1.heap.size:=by have:=hb1.size;simp at this;omega
     have hbk:=blk_below (blk_new w (.cells #[.int .i64 6,.bool a0_1,.string a0_2,.string a0_3,.slice A0_4 l0_4.length c0_4,.slice A0_5 l0_5.length c0_5] 25 (0,0))) hb1;have z0:=(blk_cell hbk 0).trans rfl;have z1:=(blk_cell hbk 1).trans rfl;have z2:=(blk_cell hbk 2).trans rfl;have z3:=(blk_cell hbk 3).trans rfl;have z4:=(blk_cell hbk 4).trans rfl;have z5:=(blk_cell hbk 5).trans rfl;have HK1:=Aside0.mk hbk;clear hb1 hbk
     go_wp2_with fail
     refine (bad_contains A0_4 c0_4 l0_4 _ (Kd.C_alloc (Kd.C_below HR4.out (HB1.out)) _) hc0_4 HA.out).mono ?_;rintro e w2 ⟨rfl,hb2⟩;have HB2:=Aside0.mk (below_then (HB1.out.alloc (by omega) (.cells #[.bool b1,.bool b2,.bool b3,.bool b4,.bool b5] 104)) (by simp;omega) hb2)
     have hz2 : w1.heap.size < w2.heap.size:=by have:=hb2.size;simp at this;omega
     have hbk:=blk_below (blk_new w1 (.cells #[.bool b1,.bool b2,.bool b3,.bool b4,.bool b5] 104 (0,0))) hb2;have y0:=(blk_cell hbk 0).trans rfl;have y1:=(blk_cell hbk 1).trans rfl;have y2:=(blk_cell hbk 2).trans rfl;have y3:=(blk_cell hbk 3).trans rfl;have y4:=(blk_cell hbk 4).trans rfl;clear z0 z1 z2 z3 z4 z5 hb2 hbk;go_wp2
     go_ret;exact ⟨rfl,HB2.out⟩
    rw [if_neg hall] at hb
    exact absurd hb (by simp)
   rw [if_neg hl] at h
   obtain rfl:=Option.some.inj h;have hl1 : (l0_4.length == l0_5.length) = false:=beq_eq_false_iff_ne.mpr hl;have hl2 : ((l0_4.length : Int) == (l0_5.length : Int)) = false:=beq_eq_false_iff_ne.mpr (by omega);clear h hl;go_enter Tryz.func47,Tryz.ntmps47
   go_wp2_with fail
   refine (tree_used.calls 6 a0_1 a0_2 a0_3 A0_4 c0_4 l0_4 A0_5 c0_5 l0_5 b1 b2 b3 b4 b5 _ (Kd.C_alloc HR4.out _) hc0_4 (Kd.C_alloc HR5.out _) hc0_5 HU.out).mono ?_;rintro e w1 ⟨rfl,hb1⟩;have HB1:=Aside0.mk (below_then ((Below.refl w.heap.size w).alloc (Nat.le_refl _) (.cells #[.int .i64 6,.bool a0_1,.string a0_2,.string a0_3,.slice A0_4 l0_4.length c0_4,.slice A0_5 l0_5.length c0_5] 25)) (by simp) hb1)
   have hz1 : w.heap.size < w1.heap.size:=by have:=hb1.size;simp at this;omega
   have hbk:=blk_below (blk_new w (.cells #[.int .i64 6,.bool a0_1,.string a0_2,.string a0_3,.slice A0_4 l0_4.length c0_4,.slice A0_5 l0_5.length c0_5] 25 (0,0))) hb1;have z0:=(blk_cell hbk 0).trans rfl;have z1:=(blk_cell hbk 1).trans rfl;have z2:=(blk_cell hbk 2).trans rfl;have z3:=(blk_cell hbk 3).trans rfl;have z4:=(blk_cell hbk 4).trans rfl;have z5:=(blk_cell hbk 5).trans rfl;have HK1:=Aside0.mk hbk;clear hb1 hbk;go_wp2
   go_ret;exact ⟨rfl,HB1.out.alloc (by omega) _⟩
  | false =>
   rw [hE,if_neg (by decide)] at h
   obtain rfl:=Option.some.inj h;clear h;go_enter Tryz.func47,Tryz.ntmps47
   go_wp2_with fail
   refine (tree_used.calls 6 a0_1 a0_2 a0_3 A0_4 c0_4 l0_4 A0_5 c0_5 l0_5 b1 b2 b3 b4 b5 _ (Kd.C_alloc HR4.out _) hc0_4 (Kd.C_alloc HR5.out _) hc0_5 HU.out).mono ?_;rintro e w1 ⟨rfl,hb1⟩;have HB1:=Aside0.mk (below_then ((Below.refl w.heap.size w).alloc (Nat.le_refl _) (.cells #[.int .i64 6,.bool a0_1,.string a0_2,.string a0_3,.slice A0_4 l0_4.length c0_4,.slice A0_5 l0_5.length c0_5] 25)) (by simp) hb1)
   have hz1 : w.heap.size < w1.heap.size:=by have:=hb1.size;simp at this;omega
   have hbk:=blk_below (blk_new w (.cells #[.int .i64 6,.bool a0_1,.string a0_2,.string a0_3,.slice A0_4 l0_4.length c0_4,.slice A0_5 l0_5.length c0_5] 25 (0,0))) hb1;have z0:=(blk_cell hbk 0).trans rfl;have z1:=(blk_cell hbk 1).trans rfl;have z2:=(blk_cell hbk 2).trans rfl;have z3:=(blk_cell hbk 3).trans rfl;have z4:=(blk_cell hbk 4).trans rfl;have z5:=(blk_cell hbk 5).trans rfl;have HK1:=Aside0.mk hbk;clear hb1 hbk;go_wp2
   go_ret;exact ⟨rfl,HB1.out.alloc (by omega) _⟩
 rw [if_neg k1,if_neg k2,if_neg k3,if_neg k4,if_neg k5,if_neg k6] at h
 obtain rfl:=Option.some.inj h;have t1 : (a0_0 == 1) = false:=beq_eq_false_iff_ne.mpr k1;have t2 : (a0_0 == 2) = false:=beq_eq_false_iff_ne.mpr k2;have t3 : (a0_0 == 3) = false:=beq_eq_false_iff_ne.mpr k3;have t4 : (a0_0 == 4) = false:=beq_eq_false_iff_ne.mpr k4;have t5 : (a0_0 == 5) = false:=beq_eq_false_iff_ne.mpr k5;have t6 : (a0_0 == 6) = false:=beq_eq_false_iff_ne.mpr k6;clear h k1 k2 k3 k4 k5 k6;go_enter Tryz.func47,Tryz.ntmps47
 go_wp2_with fail
 refine (tree_used.calls a0_0 a0_1 a0_2 a0_3 A0_4 c0_4 l0_4 A0_5 c0_5 l0_5 b1 b2 b3 b4 b5 _ (Kd.C_alloc HR4.out _) hc0_4 (Kd.C_alloc HR5.out _) hc0_5 HU.out).mono ?_;rintro e w1 ⟨rfl,hb1⟩;have HB1:=Aside0.mk (below_then ((Below.refl w.heap.size w).alloc (Nat.le_refl _) (.cells #[.int .i64 a0_0,.bool a0_1,.string a0_2,.string a0_3,.slice A0_4 l0_4.length c0_4,.slice A0_5 l0_5.length c0_5] 25)) (by simp) hb1)
 have hz1 : w.heap.size < w1.heap.size:=by have:=hb1.size;simp at this;omega
 have hbk:=blk_below (blk_new w (.cells #[.int .i64 a0_0,.bool a0_1,.string a0_2,.string a0_3,.slice A0_4 l0_4.length c0_4,.slice A0_5 l0_5.length c0_5] 25 (0,0))) hb1;have z0:=(blk_cell hbk 0).trans rfl;have z1:=(blk_cell hbk 1).trans rfl;have z2:=(blk_cell hbk 2).trans rfl;have z3:=(blk_cell hbk 3).trans rfl;have z4:=(blk_cell hbk 4).trans rfl;have z5:=(blk_cell hbk 5).trans rfl;have HK1:=Aside0.mk hbk;clear hb1 hbk;go_wp2
 go_ret;exact ⟨rfl,HB1.out.alloc (by omega) _⟩
end Go.Proofs.YtlgamjgdkljfiacGreatDoor.PWritePretties
