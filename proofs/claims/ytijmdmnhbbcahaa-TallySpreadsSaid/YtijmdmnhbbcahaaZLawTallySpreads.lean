/- The spread of a tally: the program's root is the document's, bit for bit. -/
import Derived.Test.YtijmdmnhbbcahaaRows
import Derived.Test.YtijmdmnhbbcahaaZDefTallySpreads
import Derived.Test.YtijmdmnhbbcahaaZPureTallySpreads
import Derived.Test.YtijmdmnhbbcahaaZTallySpreadsW1
import Derived.WalkKit
import Derived.ProofKit
import Derived.OpenShut
import Derived.ShutString
import Derived.ChangeOld
import Derived.Below
import Derived.SizedLaws
namespace Go.Proofs.Ytijmdmnhbbcahaa.tallySpreads
open Go.ChangeShapes Go.WideShapes Go.ChangeAt Go.RowKit Go.Proofs.Ytijmdmnhbbcahaa.PTallySpreads Go.Proofs.YtijmdmnhbbcahaaW.PrintWords
open Go.ChangeMaps (open_string shut_string)
set_option linter.unusedVariables false
set_option linter.unusedSimpArgs false
theorem own : ownKnob Try.prog.godebug = none := by kernel_rfl
theorem laidOut : laidOutB Try.prog = true := by kernel_rfl
set_option maxRecDepth 100000 in
theorem open26 {H : Type} {enc : TypeId × Value → H} {W : World} : ∀ n, Go.Proofs.YtijmdmnhbbcahaaX.Opens (H := H) enc Try.prog W n 26 k26 SZ26 bulk26 := by
  intro n
  induction n using Nat.strongRecOn with
  | _ n ih =>
  intro base spare held cs d ps h hw
  obtain ⟨xs, m, rfl, hx, hl, hxl, hf⟩ := DataW.trod_struct Try.underlying26 h
  obtain ⟨rfl, rfl⟩ := Prod.mk.inj hx
  rw [show Try.prog.cellsOf 26 = 7 from by kernel_rfl] at hl
  match cs, hl, xs, hxl, hf, hw with
  | [c0, c1, c2, c3, c4, c5, c6], _, [y0, y1, y2, y3, y4, y5, y6], _, hf, hw =>
    have q0 : DataW.trod enc Try.prog W base spare held m 3 (List.take (Try.prog.cellsOf 3) (List.drop 0 [c0, c1, c2, c3, c4, c5, c6])) = some y0 := hf 0 _ rfl
    rw [show Try.prog.cellsOf 3 = 1 from by kernel_rfl] at q0
    have f0' : DataW.trod enc Try.prog W base spare held m 3 [c0] = some (y0.1, y0.2) := q0
    obtain ⟨x0, k0, s0, b0⟩ := Go.Proofs.YtijmdmnhbbcahaaX.opens_int (k := .i64) (P := Try.prog) (t := 3) (by kernel_rfl) _ _ _ _ _ _ f0' (fun m hm => hw m (Go.Proofs.YtijmdmnhbbcahaaX.weights_part (j := 0) Try.underlying26 rfl rfl m hm))
    have q1 : DataW.trod enc Try.prog W base spare held m 24 (List.take (Try.prog.cellsOf 24) (List.drop 1 [c0, c1, c2, c3, c4, c5, c6])) = some y1 := hf 1 _ rfl
    rw [show Try.prog.cellsOf 24 = 1 from by kernel_rfl] at q1
    have f1' : DataW.trod enc Try.prog W base spare held m 24 [c1] = some (y1.1, y1.2) := q1
    obtain ⟨x1, k1, s1, b1⟩ := Go.Proofs.YtijmdmnhbbcahaaX.opens_f64 (P := Try.prog) (t := 24) (by kernel_rfl) _ _ _ _ _ _ f1' (fun m hm => hw m (Go.Proofs.YtijmdmnhbbcahaaX.weights_part (j := 1) Try.underlying26 rfl rfl m hm))
    have q2 : DataW.trod enc Try.prog W base spare held m 24 (List.take (Try.prog.cellsOf 24) (List.drop 2 [c0, c1, c2, c3, c4, c5, c6])) = some y2 := hf 2 _ rfl
    rw [show Try.prog.cellsOf 24 = 1 from by kernel_rfl] at q2
    have f2' : DataW.trod enc Try.prog W base spare held m 24 [c2] = some (y2.1, y2.2) := q2
    obtain ⟨x2, k2, s2, b2⟩ := Go.Proofs.YtijmdmnhbbcahaaX.opens_f64 (P := Try.prog) (t := 24) (by kernel_rfl) _ _ _ _ _ _ f2' (fun m hm => hw m (Go.Proofs.YtijmdmnhbbcahaaX.weights_part (j := 2) Try.underlying26 rfl rfl m hm))
    have q3 : DataW.trod enc Try.prog W base spare held m 24 (List.take (Try.prog.cellsOf 24) (List.drop 3 [c0, c1, c2, c3, c4, c5, c6])) = some y3 := hf 3 _ rfl
    rw [show Try.prog.cellsOf 24 = 1 from by kernel_rfl] at q3
    have f3' : DataW.trod enc Try.prog W base spare held m 24 [c3] = some (y3.1, y3.2) := q3
    obtain ⟨x3, k3, s3, b3⟩ := Go.Proofs.YtijmdmnhbbcahaaX.opens_f64 (P := Try.prog) (t := 24) (by kernel_rfl) _ _ _ _ _ _ f3' (fun m hm => hw m (Go.Proofs.YtijmdmnhbbcahaaX.weights_part (j := 3) Try.underlying26 rfl rfl m hm))
    have q4 : DataW.trod enc Try.prog W base spare held m 24 (List.take (Try.prog.cellsOf 24) (List.drop 4 [c0, c1, c2, c3, c4, c5, c6])) = some y4 := hf 4 _ rfl
    rw [show Try.prog.cellsOf 24 = 1 from by kernel_rfl] at q4
    have f4' : DataW.trod enc Try.prog W base spare held m 24 [c4] = some (y4.1, y4.2) := q4
    obtain ⟨x4, k4, s4, b4⟩ := Go.Proofs.YtijmdmnhbbcahaaX.opens_f64 (P := Try.prog) (t := 24) (by kernel_rfl) _ _ _ _ _ _ f4' (fun m hm => hw m (Go.Proofs.YtijmdmnhbbcahaaX.weights_part (j := 4) Try.underlying26 rfl rfl m hm))
    have q5 : DataW.trod enc Try.prog W base spare held m 24 (List.take (Try.prog.cellsOf 24) (List.drop 5 [c0, c1, c2, c3, c4, c5, c6])) = some y5 := hf 5 _ rfl
    rw [show Try.prog.cellsOf 24 = 1 from by kernel_rfl] at q5
    have f5' : DataW.trod enc Try.prog W base spare held m 24 [c5] = some (y5.1, y5.2) := q5
    obtain ⟨x5, k5, s5, b5⟩ := Go.Proofs.YtijmdmnhbbcahaaX.opens_f64 (P := Try.prog) (t := 24) (by kernel_rfl) _ _ _ _ _ _ f5' (fun m hm => hw m (Go.Proofs.YtijmdmnhbbcahaaX.weights_part (j := 5) Try.underlying26 rfl rfl m hm))
    have q6 : DataW.trod enc Try.prog W base spare held m 24 (List.take (Try.prog.cellsOf 24) (List.drop 6 [c0, c1, c2, c3, c4, c5, c6])) = some y6 := hf 6 _ rfl
    rw [show Try.prog.cellsOf 24 = 1 from by kernel_rfl] at q6
    have f6' : DataW.trod enc Try.prog W base spare held m 24 [c6] = some (y6.1, y6.2) := q6
    obtain ⟨x6, k6, s6, b6⟩ := Go.Proofs.YtijmdmnhbbcahaaX.opens_f64 (P := Try.prog) (t := 24) (by kernel_rfl) _ _ _ _ _ _ f6' (fun m hm => hw m (Go.Proofs.YtijmdmnhbbcahaaX.weights_part (j := 6) Try.underlying26 rfl rfl m hm))
    injection k0 with k0 _
    subst k0
    injection k1 with k1 _
    subst k1
    injection k2 with k2 _
    subst k2
    injection k3 with k3 _
    subst k3
    injection k4 with k4 _
    subst k4
    injection k5 with k5 _
    subst k5
    injection k6 with k6 _
    subst k6
    refine ⟨⟨x0, x1, x2, x3, x4, x5, x6⟩, k26_mk W ⟨x0, x1, x2, x3, x4, x5, x6⟩ , SZ26.mk _ s0 s1 s2 s3 s4 s5 s6, ?_⟩
    simp only [bulk26, Go.Proofs.Ytijmdmnhbbcahaa.Rows.uptoBulk, Go.Proofs.Ytijmdmnhbbcahaa.Rows.uptoBulkAll, List.map_cons, List.map_nil] at *
    omega
set_option maxRecDepth 100000 in
theorem lifted (os : Os) (started : os.Started) (H : Type) (enc : TypeId × Value → H) :
    ReturnsInHanded {} Try.checked os 5 .any (Rows.tallySpreadsSpec.pre6 enc Try.prog Try.f5 Rows.tallySpreadsRow.domain false) (Rows.tallySpreadsSpec.post enc Try.prog Try.f5 false true false false) := by
  refine returnsInHanded_of_change_sized (C := Try.checked) own started (by kernel_rfl) Try.func5
    (ChangeSpec.witness6 (enc := enc) (C := Try.checked) false ⟨#[], #[.agg #[.int .i64 0, .float .f64 0, .float .f64 0, .float .f64 0, .float .f64 0, .float .f64 0, .float .f64 0]], []⟩ 8 (by kernel_rfl) (by kernel_rfl) (by kernel_rfl) (by kernel_rfl)) ?_
  intro W base args ds gs before hval0 hW hcnd hsz0 _
  have hsz : (DataW.weightsEach Try.prog (Try.f5.params.toList ++ Rows.tallySpreadsSpec.plain.varTypes Try.prog) (ds ++ gs)).all (· ≤ reachBytes) = true := hsz0
  have hval : ∀ (j : Nat) t v, Try.f5.params[j]? = some t → args[j]? = some v → Value.okWide Try.prog W .any base t v := hval0
  have hW' := hW
  obtain ⟨p, q, hA0, hV, rfl, hfz, hnd⟩ := hW
  have hA : DataW.TrodAll enc Try.prog W 0 (fun _ => true) true Try.f5.params.toList args.toList ds p := hA0
  rw [Try.params5] at hA hval hsz
  obtain ⟨v0, vs0, d0, ds0, p0, q0, hargs, rfl, rfl, h0, r0⟩ := trodAll_cons hA
  obtain ⟨rfl, rfl, rfl⟩ := trodAll_nil r0
  obtain rfl : args = #[v0] := by cases args; simp_all
  obtain ⟨rfl, rfl⟩ := trodVars_none hV
  have k0 := h0
  have lt0 : ∀ x ∈ p0, x.block < W.heap.size := by obtain ⟨m, hm⟩ := k0; exact DataW.trod_lt m _ _ _ hm
  obtain ⟨cs0, rfl, _⟩ := okWide_struct Try.underlying26 (hval 0 26 v0 rfl rfl)
  obtain ⟨fu0, hf0⟩ := h0
  obtain ⟨x0, hK0, hz0, hb0⟩ := open26 _ _ _ _ _ _ _ hf0 (Go.Proofs.YtijmdmnhbbcahaaX.weights_arg hsz (j := 0) rfl rfl)
  have e0 := k26_open hK0
  obtain rfl : cs0 = #[.int .i64 x0.f0, .float .f64 x0.f1, .float .f64 x0.f2, .float .f64 x0.f3, .float .f64 x0.f4, .float .f64 x0.f5, .float .f64 x0.f6] := by have e_ : cs0.toList = _ := e0; have e2_ := congrArg List.toArray e_; simpa using e2_
  clear hA0 hval0 hsz0 hsz
  obtain ⟨k, hp⟩ := Pure.TallySpreads x0 hz0
  refine (quarrylaw31_TallySpreads.calls (k := k) (a0_0 := x0.f0) (a0_1 := x0.f1) (a0_2 := x0.f2) (a0_3 := x0.f3) (a0_4 := x0.f4) (a0_5 := x0.f5) (a0_6 := x0.f6) (r := true) (w := W) (h := hp)).mono fun e W' ⟨he, bel⟩ => ?_
  subst he
  exact ⟨_, rfl, _, _, _, [], _, [], hW', trodAll_mk1 (shut_bool (t := 4) (by kernel_rfl) _), (trodAll_cons_mk (Below.trod laidOut (by kernel_rfl) (of_decide_eq_true (by kernel_rfl)) k0 bel lt0) trodAll_mk0), rfl, bel.frame _, fun h => by cases h⟩
theorem over : Rows.tallySpreadsRow.holds Try.pinned (OpenSpec.ofChange Rows.tallySpreadsSpec) :=
  OpenClaim.holds_of_wide 5 Try.f5 rfl rfl rfl rfl rfl rfl rfl ⟨rfl, rfl, rfl, rfl, rfl⟩ rfl rfl rfl rfl rfl (by kernel_rfl) Try.func5 (by kernel_rfl)
    (of_decide_eq_true (by kernel_rfl)) (by unfold Func.isWrapper; first | (rw [if_pos (by decide +kernel)]; kernel_rfl) | (rw [if_neg (by decide +kernel)]; exact ⟨rfl, rfl⟩))
    (fun os started H enc _ => lifted os started H enc)
theorem proved : Rows.TallySpreadsSaid := over
end Go.Proofs.Ytijmdmnhbbcahaa.tallySpreads
namespace Go.Proofs.Ytijmdmnhbbcahaa
theorem tallySpreads_holds : Rows.TallySpreadsSaid := tallySpreads.proved
end Go.Proofs.Ytijmdmnhbbcahaa
