/- One number more is put to what the others come to; the least and the greatest stand in the list; all that is told is well shaped; of numbers that are all the same the squares are nought. -/
import Derived.Test.YtijmdmnhbbcahaaRows
import Derived.Test.YtijmdmnhbbcahaaZDefTallySteps
import Derived.Test.YtijmdmnhbbcahaaZPureTallySteps
import Derived.Test.YtijmdmnhbbcahaaZTallyStepsW1
import Derived.WalkKit
import Derived.ProofKit
import Derived.OpenShut
import Derived.ShutString
import Derived.ChangeOld
import Derived.Below
import Derived.SizedLaws
namespace Go.Proofs.Ytijmdmnhbbcahaa.tallySteps
open Go.ChangeShapes Go.WideShapes Go.ChangeAt Go.RowKit Go.Proofs.Ytijmdmnhbbcahaa.PTallySteps Go.Proofs.YtijmdmnhbbcahaaW.PrintWords
open Go.ChangeMaps (open_string shut_string)
set_option linter.unusedVariables false
set_option linter.unusedSimpArgs false
theorem own : ownKnob Try.prog.godebug = none := by kernel_rfl
theorem laidOut : laidOutB Try.prog = true := by kernel_rfl
set_option maxRecDepth 100000 in
theorem lifted (os : Os) (started : os.Started) (H : Type) (enc : TypeId × Value → H) :
    ReturnsInHanded {} Try.checked os 9 .any (Rows.tallyStepsSpec.pre6 enc Try.prog Try.f9 Rows.tallyStepsRow.domain false) (Rows.tallyStepsSpec.post enc Try.prog Try.f9 false true false false) := by
  refine returnsInHanded_of_change_sized (C := Try.checked) own started (by kernel_rfl) Try.func9
    (ChangeSpec.witness6 (enc := enc) (C := Try.checked) false ⟨#[], #[.slice none 0 0, .float .f64 0], []⟩ 8 (by kernel_rfl) (by kernel_rfl) (by kernel_rfl) (by kernel_rfl)) ?_
  intro W base args ds gs before hval0 hW hcnd hsz0 _
  have hsz : (DataW.weightsEach Try.prog (Try.f9.params.toList ++ Rows.tallyStepsSpec.plain.varTypes Try.prog) (ds ++ gs)).all (· ≤ reachBytes) = true := hsz0
  have hval : ∀ (j : Nat) t v, Try.f9.params[j]? = some t → args[j]? = some v → Value.okWide Try.prog W .any base t v := hval0
  have hW' := hW
  obtain ⟨p, q, hA0, hV, rfl, hfz, hnd⟩ := hW
  have hA : DataW.TrodAll enc Try.prog W 0 (fun _ => true) true Try.f9.params.toList args.toList ds p := hA0
  rw [Try.params9] at hA hval hsz
  obtain ⟨v0, vs0, d0, ds0, p0, q0, hargs, rfl, rfl, h0, r0⟩ := trodAll_cons hA
  obtain ⟨v1, vs1, d1, ds1, p1, q1, rfl, rfl, rfl, h1, r1⟩ := trodAll_cons r0
  obtain ⟨rfl, rfl, rfl⟩ := trodAll_nil r1
  obtain rfl : args = #[v0, v1] := by cases args; simp_all
  obtain ⟨rfl, rfl⟩ := trodVars_none hV
  have k0 := h0
  have lt0 : ∀ x ∈ p0, x.block < W.heap.size := by obtain ⟨m, hm⟩ := k0; exact DataW.trod_lt m _ _ _ hm
  obtain ⟨a0, n0, c0, rfl⟩ := okWide_slice (t := 22) (e := 24) (by kernel_rfl) (hval 0 22 v0 rfl rfl)
  obtain ⟨fu0, hf0⟩ := h0
  obtain ⟨x0, hK0, hz0, hb0⟩ := Go.Proofs.YtijmdmnhbbcahaaX.opens_slice (P := Try.prog) (t := 22) (e := 24) (K := Kd.f64) (SZ := (fun x => (Lit.float .f64 x).wf = true)) (G := (fun x => 1)) (B := 8) (by kernel_rfl) (by kernel_rfl) (by kernel_rfl) (fun m _ => Go.Proofs.YtijmdmnhbbcahaaX.opens_f64 (P := Try.prog) (t := 24) (by kernel_rfl)) _ _ _ _ _ _ hf0 (Go.Proofs.YtijmdmnhbbcahaaX.weights_arg hsz (j := 0) rfl rfl)
  obtain ⟨A0, d0', e0, l0, g0⟩ := hK0
  have e0' : Value.slice a0 n0 c0 = .slice A0 x0.length d0' := by injection e0
  injection e0' with ea0 en0 ec0
  subst ea0; subst en0; subst ec0
  obtain ⟨x1, rfl, rfl, rfl, hz1⟩ := open_float (k := .f64) (t := 24) (by kernel_rfl) (hval 1 24 v1 rfl rfl) h1
  clear hA0 hval0 hsz0 hsz
  obtain ⟨k, hp⟩ := Pure.TallySteps x0 x1 hz0 hz1
  refine (quarrylaw31_TallySteps.calls (k := k) (A0 := a0) (c0 := c0) (l0 := x0) (hr0 := g0) (hc0 := l0) (a1 := x1) (r := true) (w := W) (h := hp)).mono fun e W' ⟨he, bel⟩ => ?_
  subst he
  exact ⟨_, rfl, _, _, _, [], _, [], hW', trodAll_mk1 (shut_bool (t := 4) (by kernel_rfl) _), (trodAll_cons_mk (Below.trod laidOut (by kernel_rfl) (of_decide_eq_true (by kernel_rfl)) k0 bel lt0) (trodAll_cons_mk (shut_float (k := .f64) (t := 24) (by kernel_rfl) hz1) trodAll_mk0)), rfl, bel.frame _, fun h => by cases h⟩
theorem over : Rows.tallyStepsRow.holds Try.pinned (OpenSpec.ofChange Rows.tallyStepsSpec) :=
  OpenClaim.holds_of_wide 9 Try.f9 rfl rfl rfl rfl rfl rfl rfl ⟨rfl, rfl, rfl, rfl, rfl⟩ rfl rfl rfl rfl rfl (by kernel_rfl) Try.func9 (by kernel_rfl)
    (of_decide_eq_true (by kernel_rfl)) (by unfold Func.isWrapper; first | (rw [if_pos (by decide +kernel)]; kernel_rfl) | (rw [if_neg (by decide +kernel)]; exact ⟨rfl, rfl⟩))
    (fun os started H enc _ => lifted os started H enc)
theorem proved : Rows.TallyStepsSaid := over
end Go.Proofs.Ytijmdmnhbbcahaa.tallySteps
namespace Go.Proofs.Ytijmdmnhbbcahaa
theorem tallySteps_holds : Rows.TallyStepsSaid := tallySteps.proved
end Go.Proofs.Ytijmdmnhbbcahaa
