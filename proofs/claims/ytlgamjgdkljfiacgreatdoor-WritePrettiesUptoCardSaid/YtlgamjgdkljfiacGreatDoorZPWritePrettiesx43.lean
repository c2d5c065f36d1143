-- Written by shrink.py, a program of this session: what the law needs of the print and its words. Lean checks it.
import Derived.Test.YtlgamjgdkljfiacGreatDoorZPWritePrettiesx0
import Derived.RegionTactic
namespace Go.Proofs.YtlgamjgdkljfiacGreatDoor.PWritePretties
open Go.RowKit Go.Proofs.YtlgamjgdkljfiacGreatDoorW.PrintWords Go.Proofs.YtlgamjgdkljfiacGreatDoorW.PrintLast Go.Proofs.YtlgamjgdkljfiacGreatDoorW.PrintMore
attribute [local go_sem] max2_int min2_int max_two min_two max_three min_three max_four min_four
set_option linter.unusedVariables false
set_option linter.unusedSimpArgs false
def hexD (n : Nat) : UInt8:=if n < 10 then (48 + n).toUInt8 else (87 + n).toUInt8
def oneR (n : Nat) : ByteArray :=
 if n = 34 then ⟨#[92,34]⟩ else if n = 92 then ⟨#[92,92]⟩ else if n = 8 then ⟨#[92,98]⟩ else if n = 12 then ⟨#[92,102]⟩ else if n = 10 then ⟨#[92,110]⟩ else if n = 13 then ⟨#[92,114]⟩ else if n = 9 then ⟨#[92,116]⟩
 else if n < 32 then ⟨#[92,117,48,48,(48 + n / 16).toUInt8,hexD (n % 16)]⟩ else strOfNums [(n : Int)]
def quarryref15_one.f (a0 : Int) : Option ByteArray:=if 0 ≤ a0 ∧ a0 ≤ 255 then some (oneR a0.toNat) else none
set_option maxHeartbeats 8000000 in
set_option maxRecDepth 100000 in
theorem quarryref15_one.calls (a0 : Int) (r : ByteArray) (w : World) (h : quarryref15_one.f a0 = some r) :
  Calls Tryz.prog 74 #[.int .u8 a0] w fun e w'=>e = .returned (.string r) ∧ Below w.heap.size w w':=by
 have HB:=Aside0.mk (Below.refl w.heap.size w)
 unfold quarryref15_one.f at h
 by_cases hr : 0 ≤ a0 ∧ a0 ≤ 255
 ·rw [if_pos hr] at h
  have h:=Option.some.inj h
  by_cases h32 : a0 < 32
  ·have hc : a0 = 0 ∨ a0 = 1 ∨ a0 = 2 ∨ a0 = 3 ∨ a0 = 4 ∨ a0 = 5 ∨ a0 = 6 ∨ a0 = 7 ∨ a0 = 8 ∨ a0 = 9 ∨ a0 = 10 ∨ a0 = 11 ∨ a0 = 12 ∨ a0 = 13 ∨ a0 = 14 ∨ a0 = 15 ∨ a0 = 16 ∨ a0 = 17 ∨ a0 = 18 ∨ a0 = 19 ∨ a0 = 20 ∨ a0 = 21 ∨ a0 = 22 ∨ a0 = 23 ∨ a0 = 24 ∨ a0 = 25 ∨ a0 = 26 ∨ a0 = 27 ∨ a0 = 28 ∨ a0 = 29 ∨ a0 = 30 ∨ a0 = 31:=by omega
   clear h32 hr
   rcases hc with rfl|rfl|rfl|rfl|rfl|rfl|rfl|rfl|rfl|rfl|rfl|rfl|rfl|rfl|rfl|rfl|rfl|rfl|rfl|rfl|rfl|rfl|rfl|rfl|rfl|rfl|rfl|rfl|rfl|rfl|rfl|rfl
   all_goals (
    subst h;go_enter Tryz.func74,Tryz.ntmps74;go_wp2
    try go_region
    all_goals (try go_wp2)
    go_ret
    first|exact ⟨rfl,HB.out⟩|exact ⟨by kernel_rfl,HB.out.drew⟩|exact ⟨by kernel_rfl,Below.drew HB.out⟩)
  by_cases h34 : a0 = 34
  ·subst h34;subst h;go_enter Tryz.func74,Tryz.ntmps74;go_wp2
   go_ret;exact ⟨rfl,HB.out⟩
  by_cases h92 : a0 = 92
  ·subst h92;subst h;go_enter Tryz.func74,Tryz.ntmps74;go_wp2
   go_ret;exact ⟨rfl,HB.out⟩
  have e : oneR a0.toNat = strOfNums [a0]:=by
   unfold oneR
   rw [if_neg (by omega),if_neg (by omega),if_neg (by omega),if_neg (by omega),if_neg (by omega),if_neg (by omega),if_neg (by omega),if_neg (by omega),Int.toNat_of_nonneg hr.1]
  rw [e] at h
  have n34 : (a0 == 34) = false:=beq_eq_false_iff_ne.mpr h34;have n92 : (a0 == 92) = false:=beq_eq_false_iff_ne.mpr h92;have n8 : (a0 == 8) = false:=beq_eq_false_iff_ne.mpr (by omega);have n12 : (a0 == 12) = false:=beq_eq_false_iff_ne.mpr (by omega);have n10 : (a0 == 10) = false:=beq_eq_false_iff_ne.mpr (by omega);have n13 : (a0 == 13) = false:=beq_eq_false_iff_ne.mpr (by omega);have n9 : (a0 == 9) = false:=beq_eq_false_iff_ne.mpr (by omega);have n32 : decide (a0 < 32) = false:=decide_eq_false h32;clear h34 h92 h32 hr e
  obtain ⟨y274,hy274⟩ : ∃ y_ : List Int,y_ = (([a0] : List Int)):=⟨_,rfl⟩
  rw [← hy274] at h
  have Ny274:=Aside0.mk hy274;clear hy274;subst h;go_enter Tryz.func74,Tryz.ntmps74
  go_wp2_with (first|((with_reducible refine gate_dst (N:=38) rfl ?_);refine Kd.R_lit (Kd.int .u8) _ 5 ?hg (N:=38) ?hd (xs:=([a0] : List Int)) (inner:=[.int .u8 a0]) (ok:=fun _=>True) (okp:=fun _=>True) ?hr ?hp (fun _ hk=>hk) trivial (Below.refl _ _) (Nat.le_refl _) (by simp) ?_;(case hd=>rfl);(case hg=>rfl);(case hr=>first|(go_simp;done)|(go_simp;rfl));(case hp=>exact (Reps.one (show Kd.M (Kd.int .u8) _ _ _ a0 [.int .u8 a0] from rfl) (Reps.none _ _)));intro v275 w20 ho21 hb hg_ hnew_;clear hg_ hnew_;(first|rw [← Ny274.out] at ho21|(simp only [Int.reduceToNat] at ho21;rw [← Ny274.out] at ho21));have n_:=J_ (Kd.R_lower ho21 (below_size (hb_ HB))) (Aside0.mk (below_step (hb_ HB) hb));clear HB;obtain ⟨HO276,HB⟩:=n_;clear hb ho21;have hcv22:=own_string (P:=Tryz.prog) Tryz.underlying43 Tryz.underlying5 Tryz.underlying9 (Kd.own_of_R HO276.out)))
  repeat (go_quiet (first|((with_reducible refine gate_dst (N:=38) rfl ?_);refine Kd.R_lit (Kd.int .u8) _ 5 ?hg (N:=38) ?hd (xs:=([a0] : List Int)) (inner:=[.int .u8 a0]) (ok:=fun _=>True) (okp:=fun _=>True) ?hr ?hp (fun _ hk=>hk) trivial (Below.refl _ _) (Nat.le_refl _) (by simp) ?_;(case hd=>rfl);(case hg=>rfl);(case hr=>first|(go_simp;done)|(go_simp;rfl));(case hp=>exact (Reps.one (show Kd.M (Kd.int .u8) _ _ _ a0 [.int .u8 a0] from rfl) (Reps.none _ _)));intro v275 w20 ho21 hb hg_ hnew_;clear hg_ hnew_;(first|rw [← Ny274.out] at ho21|(simp only [Int.reduceToNat] at ho21;rw [← Ny274.out] at ho21));have n_:=J_ (Kd.R_lower ho21 (below_size (hb_ HB))) (Aside0.mk (below_step (hb_ HB) hb));clear HB;obtain ⟨HO276,HB⟩:=n_;clear hb ho21;have hcv22:=own_string (P:=Tryz.prog) Tryz.underlying43 Tryz.underlying5 Tryz.underlying9 (Kd.own_of_R HO276.out)));try go_wp2_with (first|((with_reducible refine gate_dst (N:=38) rfl ?_);refine Kd.R_lit (Kd.int .u8) _ 5 ?hg (N:=38) ?hd (xs:=([a0] : List Int)) (inner:=[.int .u8 a0]) (ok:=fun _=>True) (okp:=fun _=>True) ?hr ?hp (fun _ hk=>hk) trivial (Below.refl _ _) (Nat.le_refl _) (by simp) ?_;(case hd=>rfl);(case hg=>rfl);(case hr=>first|(go_simp;done)|(go_simp;rfl));(case hp=>exact (Reps.one (show Kd.M (Kd.int .u8) _ _ _ a0 [.int .u8 a0] from rfl) (Reps.none _ _)));intro v275 w20 ho21 hb hg_ hnew_;clear hg_ hnew_;(first|rw [← Ny274.out] at ho21|(simp only [Int.reduceToNat] at ho21;rw [← Ny274.out] at ho21));have n_:=J_ (Kd.R_lower ho21 (below_size (hb_ HB))) (Aside0.mk (below_step (hb_ HB) hb));clear HB;obtain ⟨HO276,HB⟩:=n_;clear hb ho21;have hcv22:=own_string (P:=Tryz.prog) Tryz.underlying43 Tryz.underlying5 Tryz.underlying9 (Kd.own_of_R HO276.out))))
  go_ret;exact ⟨rfl,(hb_ HB)⟩
 rw [if_neg hr] at h
 cases h
end Go.Proofs.YtlgamjgdkljfiacGreatDoor.PWritePretties
