-- Written by shrink.py, a program of this session: what the law needs of the print and its words. Lean checks it.
import Derived.Test.YtppenppagkfigaaDoorZPPointerBackx0
namespace Go.Proofs.YtppenppagkfigaaDoor.PPointerBack
open Go.RowKit Go.Proofs.YtppenppagkfigaaDoorW.PrintWords Go.Proofs.YtppenppagkfigaaDoorW.PrintLast Go.Proofs.YtppenppagkfigaaDoorW.PrintMore
attribute [local go_sem] max2_int min2_int max_two min_two max_three min_three max_four min_four
set_option linter.unusedVariables false
set_option linter.unusedSimpArgs false
def pointer_escaped.f (a0 : Int) : Option (ByteArray):=if a0 = 47 then (some (strOfNums (([126,48 + 1] : List Int)))) else (if a0 = 126 then (some (strOfNums (([126,48] : List Int)))) else (some (strOfNums (([a0] : List Int)))))
set_option maxHeartbeats 8000000 in
set_option maxRecDepth 100000 in
theorem pointer_escaped.calls (a0 : Int) (r : ByteArray) (w : World) (h : pointer_escaped.f a0 = some r) :
  Calls Tryd.prog 36 #[.int .u8 a0] w fun e w'=>e = .returned (.string r) ∧ Below w.heap.size w w':=by
 have HB:=Aside0.mk (Below.refl w.heap.size w)
 have H : (if a0 = 47 then (some (strOfNums (([126,48 + 1] : List Int)))) else (if a0 = 126 then (some (strOfNums (([126,48] : List Int)))) else (some (strOfNums (([a0] : List Int)))))) = some r:=h
 clear h
 by_cases c2 : a0 = 47
 ·rw [if_pos c2] at H
  have c2b0 : (a0 == 47) = true:=beq_iff_eq.mpr c2
  have c2b1 : (a0 != 47) = false:=bne_eq_false_iff_eq.mpr c2
  clear c2
  obtain ⟨y238,hy238⟩ : ∃ y_ : List Int,y_ = (([126,48 + 1] : List Int)):=⟨_,rfl⟩
  replace H : (some (strOfNums y238)) = some r:=by first|(rw [hy238];with_reducible exact H)|(have H2_:=(Option.bind_some _ _).symm.trans H;rw [hy238];with_reducible exact H2_)|(have H2_:=(Option.bind_some _ _).symm.trans H;with_reducible exact H2_)|with_reducible exact H|(rw [hy238];exact H)|exact H
  have Ny238:=Aside0.mk hy238
  clear hy238
  obtain rfl:=Option.some.inj H
  go_enter Tryd.func36,Tryd.ntmps36
  go_wp2_with (first|((with_reducible refine gate_dst (N:=12) rfl ?_);refine Kd.R_lit (Kd.int .u8) _ 5 ?hg (N:=12) ?hd (xs:=([126,48 + 1] : List Int)) (inner:=[.int .u8 126,.int .u8 (48 + 1)]) (ok:=fun _=>True) (okp:=fun _=>True) ?hr ?hp (fun _ hk=>hk) trivial (Below.refl _ _) (Nat.le_refl _) (by simp) ?_;(case hd=>rfl);(case hg=>rfl);(case hr=>first|(go_simp;done)|(go_simp;rfl));(case hp=>exact (Reps.one (show Kd.M (Kd.int .u8) _ _ _ 126 [.int .u8 126] from rfl) (Reps.one (show Kd.M (Kd.int .u8) _ _ _ (48 + 1) [.int .u8 (48 + 1)] from rfl) (Reps.none _ _))));intro v239 w3 ho4 hb hg_ hnew_;clear hg_ hnew_;(first|rw [← Ny238.out] at ho4|(simp only [Int.reduceToNat] at ho4;rw [← Ny238.out] at ho4));have n_:=J_ (Kd.R_lower ho4 (below_size (hb_ HB))) (Aside0.mk (below_step (hb_ HB) hb));clear HB;obtain ⟨HO240,HB⟩:=n_;clear hb ho4;have hcv5:=own_string (P:=Tryd.prog) Tryd.underlying54 Tryd.underlying5 Tryd.underlying9 (Kd.own_of_R HO240.out)))
  go_ret
  exact ⟨er_,(hb_ HB)⟩
 ·rw [if_neg c2] at H
  have c2b0 : (a0 == 47) = false:=beq_eq_false_iff_ne.mpr c2
  have c2b1 : (a0 != 47) = true:=bne_iff_ne.mpr c2
  by_cases c6 : a0 = 126
  ·rw [if_pos c6] at H
   have c6b0 : (a0 == 126) = true:=beq_iff_eq.mpr c6
   have c6b1 : (a0 != 126) = false:=bne_eq_false_iff_eq.mpr c6
   clear c6
   obtain ⟨y241,hy241⟩ : ∃ y_ : List Int,y_ = (([126,48] : List Int)):=⟨_,rfl⟩
   replace H : (some (strOfNums y241)) = some r:=by first|(rw [hy241];with_reducible exact H)|(have H2_:=(Option.bind_some _ _).symm.trans H;rw [hy241];with_reducible exact H2_)|(have H2_:=(Option.bind_some _ _).symm.trans H;with_reducible exact H2_)|with_reducible exact H|(rw [hy241];exact H)|exact H
   have Ny241:=Aside0.mk hy241
   clear hy241
   obtain rfl:=Option.some.inj H
   go_enter Tryd.func36,Tryd.ntmps36
   go_wp2_with (first|((with_reducible refine gate_dst (N:=12) rfl ?_);refine Kd.R_lit (Kd.int .u8) _ 5 ?hg (N:=12) ?hd (xs:=([126,48] : List Int)) (inner:=[.int .u8 126,.int .u8 48]) (ok:=fun _=>True) (okp:=fun _=>True) ?hr ?hp (fun _ hk=>hk) trivial (Below.refl _ _) (Nat.le_refl _) (by simp) ?_;(case hd=>rfl);(case hg=>rfl);(case hr=>first|(go_simp;done)|(go_simp;rfl));(case hp=>exact (Reps.one (show Kd.M (Kd.int .u8) _ _ _ 126 [.int .u8 126] from rfl) (Reps.one (show Kd.M (Kd.int .u8) _ _ _ 48 [.int .u8 48] from rfl) (Reps.none _ _))));intro v242 w7 ho8 hb hg_ hnew_;clear hg_ hnew_;(first|rw [← Ny241.out] at ho8|(simp only [Int.reduceToNat] at ho8;rw [← Ny241.out] at ho8));have n_:=J_ (Kd.R_lower ho8 (below_size (hb_ HB))) (Aside0.mk (below_step (hb_ HB) hb));clear HB;obtain ⟨HO243,HB⟩:=n_;clear hb ho8;have hcv9:=own_string (P:=Tryd.prog) Tryd.underlying54 Tryd.underlying5 Tryd.underlying9 (Kd.own_of_R HO243.out)))
   go_ret
   exact ⟨er_,(hb_ HB)⟩
  ·rw [if_neg c6] at H
   have c6b0 : (a0 == 126) = false:=beq_eq_false_iff_ne.mpr c6
   have c6b1 : (a0 != 126) = true:=bne_iff_ne.mpr c6
   obtain ⟨y244,hy244⟩ : ∃ y_ : List Int,y_ = (([a0] : List Int)):=⟨_,rfl⟩
   replace H : (some (strOfNums y244)) = some r:=by first|(rw [hy244];with_reducible exact H)|(have H2_:=(Option.bind_some _ _).symm.trans H;rw [hy244];with_reducible exact H2_)|(have H2_:=(Option.bind_some _ _).symm.trans H;with_reducible exact H2_)|with_reducible exact H|(rw [hy244];exact H)|exact H
   have Ny244:=Aside0.mk hy244
   clear hy244
   obtain rfl:=Option.some.inj H
   go_enter Tryd.func36,Tryd.ntmps36
   go_wp2_with (first|((with_reducible refine gate_dst (N:=15) rfl ?_);refine Kd.R_lit (Kd.int .u8) _ 5 ?hg (N:=15) ?hd (xs:=([a0] : List Int)) (inner:=[.int .u8 a0]) (ok:=fun _=>True) (okp:=fun _=>True) ?hr ?hp (fun _ hk=>hk) trivial (Below.refl _ _) (Nat.le_refl _) (by simp) ?_;(case hd=>rfl);(case hg=>rfl);(case hr=>first|(go_simp;done)|(go_simp;rfl));(case hp=>exact (Reps.one (show Kd.M (Kd.int .u8) _ _ _ a0 [.int .u8 a0] from rfl) (Reps.none _ _)));intro v245 w10 ho11 hb hg_ hnew_;clear hg_ hnew_;(first|rw [← Ny244.out] at ho11|(simp only [Int.reduceToNat] at ho11;rw [← Ny244.out] at ho11));have n_:=J_ (Kd.R_lower ho11 (below_size (hb_ HB))) (Aside0.mk (below_step (hb_ HB) hb));clear HB;obtain ⟨HO246,HB⟩:=n_;clear hb ho11;have hcv12:=own_string (P:=Tryd.prog) Tryd.underlying54 Tryd.underlying5 Tryd.underlying9 (Kd.own_of_R HO246.out)))
   go_ret
   exact ⟨er_,(hb_ HB)⟩
end Go.Proofs.YtppenppagkfigaaDoor.PPointerBack
