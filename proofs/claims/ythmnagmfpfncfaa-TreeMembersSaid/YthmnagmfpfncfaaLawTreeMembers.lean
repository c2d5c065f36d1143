-- Written by px.py, a program of this session, over the kit's print. Lean checks it.
import Derived.Test.YthmnagmfpfncfaaRows
import Derived.Test.YthmnagmfpfncfaaDefTreeMembers
import Derived.Test.YthmnagmfpfncfaaPureTreeMembers
import Derived.Test.YthmnagmfpfncfaaXOpen
import Derived.WalkKit
import Derived.ProofKit
import Derived.OpenShut
import Derived.ShutString
import Derived.ChangeOld
import Derived.Below
import Derived.SizedLaws
namespace Go.Proofs.Ythmnagmfpfncfaa.treeMembers
open Go.ChangeShapes Go.WideShapes Go.ChangeAt Go.RowKit Go.Proofs.Ythmnagmfpfncfaa.PTreeMembers Go.Proofs.YthmnagmfpfncfaaW.PrintWords
open Go.ChangeMaps (open_string shut_string)
set_option linter.unusedVariables false
theorem own : ownKnob Try.prog.godebug = none := by kernel_rfl
theorem laidOut : laidOutB Try.prog = true := by kernel_rfl
theorem open28 {H : Type} {enc : TypeId × Value → H} {W : World} : ∀ n, Go.Proofs.YthmnagmfpfncfaaX.Opens (H := H) enc Try.prog W n 28 k28 SZ28 := by
  intro n
  induction n using Nat.strongRecOn with
  | _ n ih =>
  intro base spare held cs d ps h hw
  obtain ⟨xs, m, rfl, hx, hl, hxl, hf⟩ := DataW.trod_struct Try.underlying28 h
  obtain ⟨rfl, rfl⟩ := Prod.mk.inj hx
  rw [show Try.prog.cellsOf 28 = 6 from by kernel_rfl] at hl
  match cs, hl, xs, hxl, hf, hw with
  | [c0, c1, c2, c3, c4, c5], _, [y0, y1, y2, y3, y4, y5], _, hf, hw =>
    have q0 : DataW.trod enc Try.prog W base spare held m 3 (List.take (Try.prog.cellsOf 3) (List.drop 0 [c0, c1, c2, c3, c4, c5])) = some y0 := hf 0 _ rfl
    rw [show Try.prog.cellsOf 3 = 1 from by kernel_rfl] at q0
    have f0' : DataW.trod enc Try.prog W base spare held m 3 [c0] = some (y0.1, y0.2) := q0
    obtain ⟨x0, k0, s0⟩ := Go.Proofs.YthmnagmfpfncfaaX.opens_int (k := .i64) (P := Try.prog) (t := 3) (by kernel_rfl) _ _ _ _ _ _ f0' (fun m hm => hw m (Go.Proofs.YthmnagmfpfncfaaX.weights_part (j := 0) Try.underlying28 rfl rfl m hm))
    have q1 : DataW.trod enc Try.prog W base spare held m 4 (List.take (Try.prog.cellsOf 4) (List.drop 1 [c0, c1, c2, c3, c4, c5])) = some y1 := hf 1 _ rfl
    rw [show Try.prog.cellsOf 4 = 1 from by kernel_rfl] at q1
    have f1' : DataW.trod enc Try.prog W base spare held m 4 [c1] = some (y1.1, y1.2) := q1
    obtain ⟨x1, k1, s1⟩ := Go.Proofs.YthmnagmfpfncfaaX.opens_bool (P := Try.prog) (t := 4) (by kernel_rfl) _ _ _ _ _ _ f1' (fun m hm => hw m (Go.Proofs.YthmnagmfpfncfaaX.weights_part (j := 1) Try.underlying28 rfl rfl m hm))
    have q2 : DataW.trod enc Try.prog W base spare held m 9 (List.take (Try.prog.cellsOf 9) (List.drop 2 [c0, c1, c2, c3, c4, c5])) = some y2 := hf 2 _ rfl
    rw [show Try.prog.cellsOf 9 = 1 from by kernel_rfl] at q2
    have f2' : DataW.trod enc Try.prog W base spare held m 9 [c2] = some (y2.1, y2.2) := q2
    obtain ⟨x2, k2, s2⟩ := Go.Proofs.YthmnagmfpfncfaaX.opens_string (P := Try.prog) (t := 9) (by kernel_rfl) _ _ _ _ _ _ f2' (fun m hm => hw m (Go.Proofs.YthmnagmfpfncfaaX.weights_part (j := 2) Try.underlying28 rfl rfl m hm))
    have q3 : DataW.trod enc Try.prog W base spare held m 9 (List.take (Try.prog.cellsOf 9) (List.drop 3 [c0, c1, c2, c3, c4, c5])) = some y3 := hf 3 _ rfl
    rw [show Try.prog.cellsOf 9 = 1 from by kernel_rfl] at q3
    have f3' : DataW.trod enc Try.prog W base spare held m 9 [c3] = some (y3.1, y3.2) := q3
    obtain ⟨x3, k3, s3⟩ := Go.Proofs.YthmnagmfpfncfaaX.opens_string (P := Try.prog) (t := 9) (by kernel_rfl) _ _ _ _ _ _ f3' (fun m hm => hw m (Go.Proofs.YthmnagmfpfncfaaX.weights_part (j := 3) Try.underlying28 rfl rfl m hm))
    have q4 : DataW.trod enc Try.prog W base spare held m 25 (List.take (Try.prog.cellsOf 25) (List.drop 4 [c0, c1, c2, c3, c4, c5])) = some y4 := hf 4 _ rfl
    rw [show Try.prog.cellsOf 25 = 1 from by kernel_rfl] at q4
    have f4' : DataW.trod enc Try.prog W base spare held m 25 [c4] = some (y4.1, y4.2) := q4
    obtain ⟨x4, k4, s4⟩ := Go.Proofs.YthmnagmfpfncfaaX.opens_slice (P := Try.prog) (t := 25) (e := 9) (K := Kd.string) (SZ := (fun x => x.size ≤ 140737488351232)) (B := 16) (by kernel_rfl) (by kernel_rfl) (by kernel_rfl) (fun m _ => Go.Proofs.YthmnagmfpfncfaaX.opens_string (P := Try.prog) (t := 9) (by kernel_rfl)) _ _ _ _ _ _ f4' (fun m hm => hw m (Go.Proofs.YthmnagmfpfncfaaX.weights_part (j := 4) Try.underlying28 rfl rfl m hm))
    have q5 : DataW.trod enc Try.prog W base spare held m 26 (List.take (Try.prog.cellsOf 26) (List.drop 5 [c0, c1, c2, c3, c4, c5])) = some y5 := hf 5 _ rfl
    rw [show Try.prog.cellsOf 26 = 1 from by kernel_rfl] at q5
    have f5' : DataW.trod enc Try.prog W base spare held m 26 [c5] = some (y5.1, y5.2) := q5
    obtain ⟨x5, k5, s5⟩ := Go.Proofs.YthmnagmfpfncfaaX.opens_slice (P := Try.prog) (t := 26) (e := 28) (K := k28) (SZ := SZ28) (B := 96) (by kernel_rfl) (by kernel_rfl) (by kernel_rfl) (fun m hm => ih m (by omega)) _ _ _ _ _ _ f5' (fun m hm => hw m (Go.Proofs.YthmnagmfpfncfaaX.weights_part (j := 5) Try.underlying28 rfl rfl m hm))
    injection k0 with k0 _
    subst k0
    injection k1 with k1 _
    subst k1
    injection k2 with k2 _
    subst k2
    injection k3 with k3 _
    subst k3
    obtain ⟨A4, n4, e4, l4, g4⟩ := k4
    injection e4 with e4 _
    subst e4
    obtain ⟨A5, n5, e5, l5, g5⟩ := k5
    injection e5 with e5 _
    subst e5
    exact ⟨⟨x0, x1, x2, x3, x4, x5⟩, k28_mk W ⟨x0, x1, x2, x3, x4, x5⟩ l4 g4 l5 g5, ⟨_, s0, s1, s2, s3, s4.1, s4.2, s5.1, s5.2⟩⟩
set_option maxRecDepth 100000 in
theorem lifted (os : Os) (started : os.Started) (H : Type) (enc : TypeId × Value → H) :
    ReturnsInHanded {} Try.checked os 4 .any (Rows.treeMembersSpec.pre6 enc Try.prog Try.f4 Rows.treeMembersRow.domain false) (Rows.treeMembersSpec.post enc Try.prog Try.f4 false true false false) := by
  refine returnsInHanded_of_change_sized (C := Try.checked) own started (by kernel_rfl) Try.func4
    (ChangeSpec.witness6 (enc := enc) (C := Try.checked) false ⟨#[], #[.agg #[.int .i64 0, .bool false, .string ByteArray.empty, .string ByteArray.empty, .slice none 0 0, .slice none 0 0], .string ByteArray.empty], []⟩ 8 (by kernel_rfl) (by kernel_rfl) (by kernel_rfl) (by kernel_rfl)) ?_
  intro W base args ds gs before hval0 hW hcnd hsz0 _
  have hsz : (DataW.weightsEach Try.prog (Try.f4.params.toList ++ Rows.treeMembersSpec.plain.varTypes Try.prog) (ds ++ gs)).all (· ≤ reachBytes) = true := hsz0
  have hval : ∀ (j : Nat) t v, Try.f4.params[j]? = some t → args[j]? = some v → Value.okWide Try.prog W .any base t v := hval0
  have hW' := hW
  obtain ⟨p, q, hA0, hV, rfl, hfz, hnd⟩ := hW
  have hA : DataW.TrodAll enc Try.prog W 0 (fun _ => true) true Try.f4.params.toList args.toList ds p := hA0
  rw [Try.params4] at hA hval hsz
  obtain ⟨v0, vs0, d0, ds0, p0, q0, hargs, rfl, rfl, h0, r0⟩ := trodAll_cons hA
  obtain ⟨v1, vs1, d1, ds1, p1, q1, rfl, rfl, rfl, h1, r1⟩ := trodAll_cons r0
  obtain ⟨rfl, rfl, rfl⟩ := trodAll_nil r1
  obtain rfl : args = #[v0, v1] := by cases args; simp_all
  obtain ⟨rfl, rfl⟩ := trodVars_none hV
  have k0 := h0
  have lt0 : ∀ x ∈ p0, x.block < W.heap.size := by obtain ⟨m, hm⟩ := k0; exact DataW.trod_lt m _ _ _ hm
  obtain ⟨cs0, rfl, _⟩ := okWide_struct Try.underlying28 (hval 0 28 v0 rfl rfl)
  obtain ⟨fu0, hf0⟩ := h0
  obtain ⟨x0, hK0, hz0⟩ := open28 _ _ _ _ _ _ _ hf0 (Go.Proofs.YthmnagmfpfncfaaX.weights_arg hsz (j := 0) rfl rfl)
  obtain ⟨A0_4, c0_4, A0_5, c0_5, e0, l0_4, g0_4, l0_5, g0_5⟩ := k28_open hK0
  obtain rfl : cs0 = #[.int .i64 x0.f0, .bool x0.f1, .string x0.f2, .string x0.f3, .slice A0_4 x0.f4.length c0_4, .slice A0_5 x0.f5.length c0_5] := by have e_ : cs0.toList = _ := e0; have e2_ := congrArg List.toArray e_; simpa using e2_
  obtain ⟨x1, rfl, rfl, rfl, y1⟩ := open_string (t := 9) (by kernel_rfl) (hval 1 9 v1 rfl rfl) h1
  have hz1 : x1.size ≤ 140737488351232 := by
    have z := sized_string hsz (j := 1) (t := 9) rfl rfl
    rw [Array.length_toList] at z
    exact z
  clear hA0 hval0 hsz0 hsz
  obtain ⟨k, hp⟩ := Pure.TreeMembers x0 x1 hz0 hz1
  refine (quarrylaw17_TreeMembers.calls (k := k) (a0_0 := x0.f0) (a0_1 := x0.f1) (a0_2 := x0.f2) (a0_3 := x0.f3) (A0_4 := A0_4) (c0_4 := c0_4) (l0_4 := x0.f4) (hr0_4 := g0_4) (hc0_4 := l0_4) (A0_5 := A0_5) (c0_5 := c0_5) (l0_5 := x0.f5) (hr0_5 := g0_5) (hc0_5 := l0_5) (a1 := x1) (r := true) (w := W) (h := hp)).mono fun e W' ⟨he, bel⟩ => ?_
  subst he
  exact ⟨_, rfl, _, _, _, [], _, [], hW', trodAll_mk1 (shut_bool (t := 4) (by kernel_rfl) _), (trodAll_cons_mk (Below.trod laidOut (by kernel_rfl) (of_decide_eq_true (by kernel_rfl)) k0 bel lt0) (trodAll_cons_mk (shut_string (t := 9) (by kernel_rfl) y1) trodAll_mk0)), rfl, bel.frame _, fun h => by cases h⟩
theorem over : Rows.treeMembersRow.holds Try.pinned (OpenSpec.ofChange Rows.treeMembersSpec) :=
  OpenClaim.holds_of_wide 4 Try.f4 rfl rfl rfl rfl rfl rfl rfl ⟨rfl, rfl, rfl, rfl, rfl⟩ rfl rfl rfl rfl rfl (by kernel_rfl) Try.func4 (by kernel_rfl)
    (of_decide_eq_true (by kernel_rfl)) (by unfold Func.isWrapper; first | (rw [if_pos (by decide +kernel)]; kernel_rfl) | (rw [if_neg (by decide +kernel)]; exact ⟨rfl, rfl⟩))
    (fun os started H enc _ => lifted os started H enc)
theorem proved : Rows.TreeMembersSaid := over
#print axioms proved
end Go.Proofs.Ythmnagmfpfncfaa.treeMembers
namespace Go.Proofs.Ythmnagmfpfncfaa
/-- The row, under a short name, for the claim. -/
theorem treeMembers_holds : Rows.TreeMembersSaid := treeMembers.proved
end Go.Proofs.Ythmnagmfpfncfaa
