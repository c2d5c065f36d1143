/- The four turns of any numbers: the program's sums are the document's, bit for bit; what was lent is as it was. -/
import Derived.Test.YtijmdmnhbbcahaaRows
import Derived.Test.YtijmdmnhbbcahaaZDefTallyTones
import Derived.Test.YtijmdmnhbbcahaaZPureTallyTones
import Derived.Test.YtijmdmnhbbcahaaZTallyTonesW1
import Derived.WalkKit
import Derived.ProofKit
import Derived.OpenShut
import Derived.ShutString
import Derived.ChangeOld
import Derived.Below
import Derived.SizedLaws
import Derived.JoinedCond
import Derived.Deep.CondSized
namespace Go.Proofs.Ytijmdmnhbbcahaa.tallyTones
open Go.ChangeShapes Go.WideShapes Go.ChangeAt Go.RowKit Go.Proofs.Ytijmdmnhbbcahaa.PTallyTones Go.Proofs.YtijmdmnhbbcahaaW.PrintWords
open Go.ChangeMaps (open_string shut_string)
set_option linter.unusedVariables false
set_option linter.unusedSimpArgs false
theorem own : ownKnob Try.prog.godebug = none := by kernel_rfl
theorem laidOut : laidOutB Try.prog = true := by kernel_rfl
set_option maxRecDepth 100000 in
theorem lifted (os : Os) (started : os.Started) (H : Type) (enc : TypeId × Value → H) (F : Stop.Interp) :
    ReturnsInHanded {} Try.checked os 6 .any ((Rows.OpenSpec.upto Rows.tallyTonesSpec).pre6 enc Try.prog Try.f6 Rows.tallyTonesUptoRow.domain false) (((Rows.OpenSpec.upto Rows.tallyTonesSpec).at F).post enc Try.prog Try.f6 false true false false) := by
  refine returnsInHanded_of_cond_sized (C := Try.checked) (s := (Rows.OpenSpec.upto Rows.tallyTonesSpec)) (k := Rows.uptoSmall) rfl own started (by kernel_rfl) Try.func6
    (OpenSpec.witness (enc := enc) (C := Try.checked) (s := (Rows.OpenSpec.upto Rows.tallyTonesSpec)) (k := Rows.uptoSmall) rfl false ⟨#[], #[.slice none 0 0], []⟩ 8 (by kernel_rfl) (by kernel_rfl) (by kernel_rfl)
      (x := ([.nil], [], [])) (by kernel_rfl) rfl (by kernel_rfl)) ?_
  intro W base args ds gs before hval0 hW hcnd hk hsz0 _
  have hsz : (DataW.weightsEach Try.prog (Try.f6.params.toList ++ Rows.tallyTonesSpec.plain.varTypes Try.prog) (ds ++ gs)).all (· ≤ reachBytes) = true := hsz0
  have hval : ∀ (j : Nat) t v, Try.f6.params[j]? = some t → args[j]? = some v → Value.okWide Try.prog W .any base t v := hval0
  have hW' := hW
  obtain ⟨p, q, hA0, hV, rfl, hfz, hnd⟩ := hW
  have hA : DataW.TrodAll enc Try.prog W 0 (fun _ => true) true Try.f6.params.toList args.toList ds p := hA0
  rw [Try.params6] at hA hval hsz
  obtain ⟨v0, vs0, d0, ds0, p0, q0, hargs, rfl, rfl, h0, r0⟩ := trodAll_cons hA
  obtain ⟨rfl, rfl, rfl⟩ := trodAll_nil r0
  obtain rfl : args = #[v0] := by cases args; simp_all
  obtain ⟨rfl, rfl⟩ := trodVars_none hV
  have k0 := h0
  have lt0 : ∀ x ∈ p0, x.block < W.heap.size := by obtain ⟨m, hm⟩ := k0; exact DataW.trod_lt m _ _ _ hm
  obtain ⟨a0, n0, c0, rfl⟩ := okWide_slice (t := 22) (e := 24) (by kernel_rfl) (hval 0 22 v0 rfl rfl)
  obtain ⟨fu0, hf0⟩ := h0
  obtain ⟨x0, hK0, hz0, hb0⟩ := Go.Proofs.YtijmdmnhbbcahaaX.opens_slice (P := Try.prog) (t := 22) (e := 24) (K := Kd.f64) (SZ := (fun x => (Lit.float .f64 x).wf = true)) (G := (fun x => 1)) (B := 8) (by kernel_rfl) (by kernel_rfl) (by kernel_rfl) (fun m _ => Go.Proofs.YtijmdmnhbbcahaaX.opens_f64 (P := Try.prog) (t := 24) (by kernel_rfl)) _ _ _ _ _ _ hf0 (Go.Proofs.YtijmdmnhbbcahaaX.weights_arg hsz (j := 0) rfl rfl)
  obtain ⟨A0, d0', e0, l0, g0⟩ := hK0
  have e0' : Value.slice a0 n0 c0 = .slice A0 x0.length d0' := by injection e0
  injection e0' with ea0 en0 ec0
  subst ea0; subst en0; subst ec0
  have hk2 : Rows.uptoBulkAll (H := H) [d0] ≤ 1048576 := by have := of_decide_eq_true hk; simpa using this
  have hbulk : ((x0.map (fun x => 1)).sum + 1) ≤ 1048576 := by
    have hb0' : ((x0.map (fun x => 1)).sum + 1) ≤ Rows.uptoBulk d0 := hb0
    simp only [Rows.uptoBulk, Rows.uptoBulkAll, Array.length_toList] at hk2 ⊢
    try simp only [show ∀ s : ByteArray, s.data.size = s.size from fun _ => rfl] at hk2
    omega
  clear hA0 hval0 hsz0 hsz
  obtain ⟨k, hp⟩ := Pure.TallyTones x0 hz0 hbulk
  refine (quarrylaw31_TallyTones.calls (k := k) (A0 := a0) (c0 := c0) (l0 := x0) (hr0 := g0) (hc0 := l0) (r := true) (w := W) (h := hp)).mono fun e W' ⟨he, bel⟩ => ?_
  subst he
  exact ⟨_, rfl, _, _, _, [], _, [], hW', trodAll_mk1 (shut_bool (t := 4) (by kernel_rfl) _), (trodAll_cons_mk (Below.trod laidOut (by kernel_rfl) (of_decide_eq_true (by kernel_rfl)) k0 bel lt0) trodAll_mk0), rfl, bel.frame _, fun h => by cases h⟩
theorem over : Rows.tallyTonesUptoRow.holds Try.pinned (Rows.OpenSpec.upto Rows.tallyTonesSpec) :=
  OpenClaim.holds_of_cond 6 Try.f6 rfl rfl rfl rfl rfl rfl rfl ⟨rfl, rfl, rfl, rfl, rfl⟩ rfl rfl rfl rfl rfl (by kernel_rfl) Try.func6 (by kernel_rfl)
    (of_decide_eq_true (by kernel_rfl)) (by unfold Func.isWrapper; first | (rw [if_pos (by decide +kernel)]; kernel_rfl) | (rw [if_neg (by decide +kernel)]; exact ⟨rfl, rfl⟩))
    (fun os started H enc _ F => lifted os started H enc F)
theorem proved : Rows.TallyTonesUptoSaid := over
end Go.Proofs.Ytijmdmnhbbcahaa.tallyTones
namespace Go.Proofs.Ytijmdmnhbbcahaa
theorem tallyTones_holds : Rows.TallyTonesUptoSaid := tallyTones.proved
end Go.Proofs.Ytijmdmnhbbcahaa
