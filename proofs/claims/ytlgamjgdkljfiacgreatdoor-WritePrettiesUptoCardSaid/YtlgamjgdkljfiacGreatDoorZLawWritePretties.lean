/- quarry: write.Pretty answers what the document's answer does, for every struct of a value and every indent within the bound. -/
import Derived.Test.YtlgamjgdkljfiacGreatDoorCards
import Derived.Test.YtlgamjgdkljfiacGreatDoorTie
import Derived.Deep.DeepHandedRow
import Derived.Test.YtlgamjgdkljfiacGreatDoorRows
import Derived.Test.YtlgamjgdkljfiacGreatDoorZDefWritePretties
import Derived.Test.YtlgamjgdkljfiacGreatDoorZPureWritePretties
import Derived.Test.YtlgamjgdkljfiacGreatDoorZWritePrettiesW1
import Derived.WalkKit
import Derived.ProofKit
import Derived.OpenShut
import Derived.ShutString
import Derived.ChangeOld
import Derived.Below
import Derived.SizedLaws
import Derived.JoinedCond
import Derived.Deep.CondSized
namespace Go.Proofs.YtlgamjgdkljfiacGreatDoor.writePretties
open Go.ChangeShapes Go.WideShapes Go.ChangeAt Go.RowKit Go.Proofs.YtlgamjgdkljfiacGreatDoor.PWritePretties Go.Proofs.YtlgamjgdkljfiacGreatDoorW.PrintWords
open Go.ChangeMaps (open_string shut_string)
set_option linter.unusedVariables false
set_option linter.unusedSimpArgs false
theorem own : ownKnob Tryz.prog.godebug = none := by kernel_rfl
theorem laidOut : laidOutB Tryz.prog = true := by kernel_rfl
set_option maxRecDepth 100000 in
theorem open25 {H : Type} {enc : TypeId × Value → H} {W : World} : ∀ n, Go.Proofs.YtlgamjgdkljfiacGreatDoorX.Opens (H := H) enc Tryz.prog W n 25 k25 SZ25 bulk25 := by
  intro n
  induction n using Nat.strongRecOn with
  | _ n ih =>
  intro base spare held cs d ps h hw
  obtain ⟨xs, m, rfl, hx, hl, hxl, hf⟩ := DataW.trod_struct Tryz.underlying25 h
  obtain ⟨rfl, rfl⟩ := Prod.mk.inj hx
  rw [show Tryz.prog.cellsOf 25 = 6 from by kernel_rfl] at hl
  match cs, hl, xs, hxl, hf, hw with
  | [c0, c1, c2, c3, c4, c5], _, [y0, y1, y2, y3, y4, y5], _, hf, hw =>
    have q0 : DataW.trod enc Tryz.prog W base spare held m 3 (List.take (Tryz.prog.cellsOf 3) (List.drop 0 [c0, c1, c2, c3, c4, c5])) = some y0 := hf 0 _ rfl
    rw [show Tryz.prog.cellsOf 3 = 1 from by kernel_rfl] at q0
    have f0' : DataW.trod enc Tryz.prog W base spare held m 3 [c0] = some (y0.1, y0.2) := q0
    obtain ⟨x0, k0, s0, b0⟩ := Go.Proofs.YtlgamjgdkljfiacGreatDoorX.opens_int (k := .i64) (P := Tryz.prog) (t := 3) (by kernel_rfl) _ _ _ _ _ _ f0' (fun m hm => hw m (Go.Proofs.YtlgamjgdkljfiacGreatDoorX.weights_part (j := 0) Tryz.underlying25 rfl rfl m hm))
    have q1 : DataW.trod enc Tryz.prog W base spare held m 4 (List.take (Tryz.prog.cellsOf 4) (List.drop 1 [c0, c1, c2, c3, c4, c5])) = some y1 := hf 1 _ rfl
    rw [show Tryz.prog.cellsOf 4 = 1 from by kernel_rfl] at q1
    have f1' : DataW.trod enc Tryz.prog W base spare held m 4 [c1] = some (y1.1, y1.2) := q1
    obtain ⟨x1, k1, s1, b1⟩ := Go.Proofs.YtlgamjgdkljfiacGreatDoorX.opens_bool (P := Tryz.prog) (t := 4) (by kernel_rfl) _ _ _ _ _ _ f1' (fun m hm => hw m (Go.Proofs.YtlgamjgdkljfiacGreatDoorX.weights_part (j := 1) Tryz.underlying25 rfl rfl m hm))
    have q2 : DataW.trod enc Tryz.prog W base spare held m 9 (List.take (Tryz.prog.cellsOf 9) (List.drop 2 [c0, c1, c2, c3, c4, c5])) = some y2 := hf 2 _ rfl
    rw [show Tryz.prog.cellsOf 9 = 1 from by kernel_rfl] at q2
    have f2' : DataW.trod enc Tryz.prog W base spare held m 9 [c2] = some (y2.1, y2.2) := q2
    obtain ⟨x2, k2, s2, b2⟩ := Go.Proofs.YtlgamjgdkljfiacGreatDoorX.opens_string (P := Tryz.prog) (t := 9) (by kernel_rfl) _ _ _ _ _ _ f2' (fun m hm => hw m (Go.Proofs.YtlgamjgdkljfiacGreatDoorX.weights_part (j := 2) Tryz.underlying25 rfl rfl m hm))
    have q3 : DataW.trod enc Tryz.prog W base spare held m 9 (List.take (Tryz.prog.cellsOf 9) (List.drop 3 [c0, c1, c2, c3, c4, c5])) = some y3 := hf 3 _ rfl
    rw [show Tryz.prog.cellsOf 9 = 1 from by kernel_rfl] at q3
    have f3' : DataW.trod enc Tryz.prog W base spare held m 9 [c3] = some (y3.1, y3.2) := q3
    obtain ⟨x3, k3, s3, b3⟩ := Go.Proofs.YtlgamjgdkljfiacGreatDoorX.opens_string (P := Tryz.prog) (t := 9) (by kernel_rfl) _ _ _ _ _ _ f3' (fun m hm => hw m (Go.Proofs.YtlgamjgdkljfiacGreatDoorX.weights_part (j := 3) Tryz.underlying25 rfl rfl m hm))
    have q4 : DataW.trod enc Tryz.prog W base spare held m 22 (List.take (Tryz.prog.cellsOf 22) (List.drop 4 [c0, c1, c2, c3, c4, c5])) = some y4 := hf 4 _ rfl
    rw [show Tryz.prog.cellsOf 22 = 1 from by kernel_rfl] at q4
    have f4' : DataW.trod enc Tryz.prog W base spare held m 22 [c4] = some (y4.1, y4.2) := q4
    obtain ⟨x4, k4, s4, b4⟩ := Go.Proofs.YtlgamjgdkljfiacGreatDoorX.opens_slice (P := Tryz.prog) (t := 22) (e := 9) (K := Kd.string) (SZ := (fun x => x.size ≤ 140737488351232)) (G := (fun x => (x.size + 1))) (B := 16) (by kernel_rfl) (by kernel_rfl) (by kernel_rfl) (fun m _ => Go.Proofs.YtlgamjgdkljfiacGreatDoorX.opens_string (P := Tryz.prog) (t := 9) (by kernel_rfl)) _ _ _ _ _ _ f4' (fun m hm => hw m (Go.Proofs.YtlgamjgdkljfiacGreatDoorX.weights_part (j := 4) Tryz.underlying25 rfl rfl m hm))
    have q5 : DataW.trod enc Tryz.prog W base spare held m 23 (List.take (Tryz.prog.cellsOf 23) (List.drop 5 [c0, c1, c2, c3, c4, c5])) = some y5 := hf 5 _ rfl
    rw [show Tryz.prog.cellsOf 23 = 1 from by kernel_rfl] at q5
    have f5' : DataW.trod enc Tryz.prog W base spare held m 23 [c5] = some (y5.1, y5.2) := q5
    obtain ⟨x5, k5, s5, b5⟩ := Go.Proofs.YtlgamjgdkljfiacGreatDoorX.opens_slice (P := Tryz.prog) (t := 23) (e := 25) (K := k25) (SZ := SZ25) (G := bulk25) (B := 96) (by kernel_rfl) (by kernel_rfl) (by kernel_rfl) (fun m hm => ih m (by omega)) _ _ _ _ _ _ f5' (fun m hm => hw m (Go.Proofs.YtlgamjgdkljfiacGreatDoorX.weights_part (j := 5) Tryz.underlying25 rfl rfl m hm))
    injection k0 with k0 _
    subst k0
    injection k1 with k1 _
    subst k1
    injection k2 with k2 _
    subst k2
    injection k3 with k3 _
    subst k3
    obtain ⟨A4, n4, e4, l4, g4⟩ := k4
    injection e4 with e4 _
    subst e4
    obtain ⟨A5, n5, e5, l5, g5⟩ := k5
    injection e5 with e5 _
    subst e5
    refine ⟨⟨x0, x1, x2, x3, x4, x5⟩, k25_mk W ⟨x0, x1, x2, x3, x4, x5⟩ l4 g4 l5 g5, SZ25.mk _ s0 s1 s2 s3 s4.1 s4.2 s5.1 s5.2, ?_⟩
    simp only [bulk25, bulks25_eq, Go.Proofs.YtlgamjgdkljfiacGreatDoor.Rows.uptoBulk, Go.Proofs.YtlgamjgdkljfiacGreatDoor.Rows.uptoBulkAll, List.map_cons, List.map_nil] at *
    omega
mutual
def flat : DataW Unit → List Value
  | .lit (.int k n) => [.int k n]
  | .lit (.bool b) => [.bool b]
  | .agg l => flats l
  | _ => []
def flats : List (DataW Unit) → List Value
  | [] => []
  | x :: r => flat x ++ flats r
end
noncomputable def laidWorld (os : Os) : World :=
  { World.holding Tryz.prog os ⟨#[], #[], []⟩ with heap := (Array.modify (Array.modify (Array.modify (Array.modify (Array.modify (World.holding Tryz.prog os ⟨#[], #[], []⟩).heap ((Tryz.prog.globalNamed "math/bits.deBruijn32tab").getD 0) (fun o : Obj => match o with | Obj.cells _ t frozen => Obj.cells (flat Rows.laid_math_bits_deBruijn32tab).toArray t frozen | o => o)) ((Tryz.prog.globalNamed "math/bits.deBruijn64tab").getD 0) (fun o : Obj => match o with | Obj.cells _ t frozen => Obj.cells (flat Rows.laid_math_bits_deBruijn64tab).toArray t frozen | o => o)) ((Tryz.prog.globalNamed "internal/strconv.uint64pow10").getD 0) (fun o : Obj => match o with | Obj.cells _ t frozen => Obj.cells (flat Rows.laid_internal_strconv_uint64pow10).toArray t frozen | o => o)) ((Tryz.prog.globalNamed "unicode/utf8.acceptRanges").getD 0) (fun o : Obj => match o with | Obj.cells _ t frozen => Obj.cells (flat Rows.laid_unicode_utf8_acceptRanges).toArray t frozen | o => o)) ((Tryz.prog.globalNamed "unicode/utf8.first").getD 0) (fun o : Obj => match o with | Obj.cells _ t frozen => Obj.cells (flat Rows.laid_unicode_utf8_first).toArray t frozen | o => o)) }
theorem laid_met (os : Os) : laidMet Tryz.prog Rows.writePrettiesUptoRow.laid ((laidWorld os).forCall (fun _ _ => 0) ⟨#[], #[.agg #[.int .i64 0, .bool false, .string ByteArray.empty, .string ByteArray.empty, .slice none 0 0, .slice none 0 0], .int .i64 0], []⟩).memory :=
  laidMet_of_run' 8 (by kernel_rfl) (by kernel_rfl)
theorem reads (os : Os) {H : Type} (enc : TypeId × Value → H) : ∃ places, DataW.whole enc Tryz.prog ((laidWorld os).forCall (fun _ _ => 0) ⟨#[], #[.agg #[.int .i64 0, .bool false, .string ByteArray.empty, .string ByteArray.empty, .slice none 0 0, .slice none 0 0], .int .i64 0], []⟩).memory Tryz.f4.params.toList Rows.writePrettiesSpec.vars false (#[.agg #[.int .i64 0, .bool false, .string ByteArray.empty, .string ByteArray.empty, .slice none 0 0, .slice none 0 0], .int .i64 0] : Array Value).toList 8 = some ([.agg [.lit (.int .i64 0), .lit (.bool false), .lit (.string []), .lit (.string []), .nil, .nil], .lit (.int .i64 0)], [], places) :=
  ⟨[], by kernel_rfl⟩
set_option maxRecDepth 100000 in
theorem lifted (os : Os) (started : os.Started) (H : Type) (enc : TypeId × Value → H) (F : Stop.Interp) :
    ReturnsInHanded {} Tryz.checked os 4 .any ((Rows.OpenSpec.upto Rows.writePrettiesSpec).preRow enc Tryz.prog Tryz.f4 Rows.writePrettiesUptoRow.domain false Rows.writePrettiesUptoRow.laid) (((Rows.OpenSpec.upto Rows.writePrettiesSpec).at F).post enc Tryz.prog Tryz.f4 false true false false) := by
  obtain ⟨places, hx⟩ := reads os enc
  refine returnsInHanded_of_row (C := Tryz.checked) (s := (Rows.OpenSpec.upto Rows.writePrettiesSpec)) own started (by kernel_rfl) Tryz.func4
    (witness_row_at (enc := enc) (C := Tryz.checked) false (laidWorld os) #[.agg #[.int .i64 0, .bool false, .string ByteArray.empty, .string ByteArray.empty, .slice none 0 0, .slice none 0 0], .int .i64 0] rfl (by kernel_rfl) (by kernel_rfl) (by kernel_rfl)
      (OpenSpec.preRow_of_cond 8 hx (by kernel_rfl) (fun k hk => by cases hk; kernel_rfl) (by kernel_rfl) (laid_met os))) ?_
  intro W base args ds gs before hval0 hW hcnd hk0 hsz0 hL _ _
  have hk := hk0 _ rfl
  have hsz : (DataW.weightsEach Tryz.prog (Tryz.f4.params.toList ++ Rows.writePrettiesSpec.plain.varTypes Tryz.prog) (ds ++ gs)).all (· ≤ reachBytes) = true := hsz0
  have hval : ∀ (j : Nat) t v, Tryz.f4.params[j]? = some t → args[j]? = some v → Value.okWide Tryz.prog W .any base t v := hval0
  have hW' := hW
  obtain ⟨p, q, hA0, hV, rfl, hfz, hnd⟩ := hW
  have hA : DataW.TrodAll enc Tryz.prog W 0 (fun _ => true) true Tryz.f4.params.toList args.toList ds p := hA0
  rw [Tryz.params4] at hA hval hsz
  obtain ⟨v0, vs0, d0, ds0, p0, q0, hargs, rfl, rfl, h0, r0⟩ := trodAll_cons hA
  obtain ⟨v1, vs1, d1, ds1, p1, q1, rfl, rfl, rfl, h1, r1⟩ := trodAll_cons r0
  obtain ⟨rfl, rfl, rfl⟩ := trodAll_nil r1
  obtain rfl : args = #[v0, v1] := by cases args; simp_all
  obtain ⟨rfl, rfl⟩ := trodVars_none hV
  have k0 := h0
  have lt0 : ∀ x ∈ p0, x.block < W.heap.size := by obtain ⟨m, hm⟩ := k0; exact DataW.trod_lt m _ _ _ hm
  obtain ⟨cs0, rfl, _⟩ := okWide_struct Tryz.underlying25 (hval 0 25 v0 rfl rfl)
  obtain ⟨fu0, hf0⟩ := h0
  obtain ⟨x0, hK0, hz0, hb0⟩ := open25 _ _ _ _ _ _ _ hf0 (Go.Proofs.YtlgamjgdkljfiacGreatDoorX.weights_arg hsz (j := 0) rfl rfl)
  obtain ⟨A0_4, c0_4, A0_5, c0_5, e0, l0_4, g0_4, l0_5, g0_5⟩ := k25_open hK0
  obtain rfl : cs0 = #[.int .i64 x0.f0, .bool x0.f1, .string x0.f2, .string x0.f3, .slice A0_4 x0.f4.length c0_4, .slice A0_5 x0.f5.length c0_5] := by have e_ : cs0.toList = _ := e0; have e2_ := congrArg List.toArray e_; simpa using e2_
  obtain ⟨x1, rfl, rfl, rfl, hz1⟩ := open_int (k := .i64) (t := 3) (by kernel_rfl) (hval 1 3 v1 rfl rfl) h1
  have hk2 : Rows.uptoBulkAll (H := H) [d0, (DataW.lit (.int .i64 x1))] ≤ 1048576 := by have := of_decide_eq_true hk; simpa using this
  have hbulk : (bulk25 x0) + 1 ≤ 1048576 := by
    have hb0' : (bulk25 x0) ≤ Rows.uptoBulk d0 := hb0
    simp only [Rows.uptoBulk, Rows.uptoBulkAll, Array.length_toList] at hk2 ⊢
    try simp only [show ∀ s : ByteArray, s.data.size = s.size from fun _ => rfl] at hk2
    omega
  clear hA0 hval0 hsz0 hsz
  obtain ⟨k, hp⟩ := Pure.WritePretties x0 x1 hz0 hz1 hbulk
  refine (quarrylaw18_WritePretties.calls (k := k) (a0_0 := x0.f0) (a0_1 := x0.f1) (a0_2 := x0.f2) (a0_3 := x0.f3) (A0_4 := A0_4) (c0_4 := c0_4) (l0_4 := x0.f4) (hr0_4 := g0_4) (hc0_4 := l0_4) (A0_5 := A0_5) (c0_5 := c0_5) (l0_5 := x0.f5) (hr0_5 := g0_5) (hc0_5 := l0_5) (a1 := x1) (r := true) (w := W) (h := hp)).mono fun e W' ⟨he, bel⟩ => ?_
  subst he
  exact ⟨_, rfl, _, _, _, [], _, [], hW', trodAll_mk1 (shut_bool (t := 4) (by kernel_rfl) _), (trodAll_cons_mk (Below.trod laidOut (by kernel_rfl) (of_decide_eq_true (by kernel_rfl)) k0 bel lt0) (trodAll_cons_mk (shut_int (t := 3) (by kernel_rfl) hz1) trodAll_mk0)), rfl, bel.frame _, fun h => by cases h⟩
theorem over : Rows.WritePrettiesUptoSaid :=
  OpenClaim.holds_of_cond 4 Tryz.f4 rfl rfl rfl rfl rfl rfl rfl ⟨rfl, rfl, rfl, rfl, rfl⟩ rfl rfl rfl rfl rfl (by kernel_rfl) Tryz.func4 (by kernel_rfl)
    (of_decide_eq_true (by kernel_rfl)) (by unfold Func.isWrapper; first | (rw [if_pos (by decide +kernel)]; kernel_rfl) | (rw [if_neg (by decide +kernel)]; exact ⟨rfl, rfl⟩))
    (fun os started H enc _ F => by rw [OpenClaim.pre_eq_preRow]; exact lifted os started H enc F)
theorem plain (f : FuncId) (fn : Func) (hf : Tryz.pinned.checked.prog.funcNamed "quarry/quarrylaw18.WritePretties" = some f) (hfn : Tryz.pinned.checked.prog.funcs[f]? = some fn) :
    true = Tryz.pinned.checked.prog.looks [] ∧ ∀ (j : Nat) t, fn.params[j]? = some t → Tryz.pinned.checked.prog.wantsStandIn t = false := by
  obtain rfl : f = 4 := Option.some.inj ((show Tryz.prog.funcNamed "quarry/quarrylaw18.WritePretties" = some 4 by kernel_rfl).symm.trans hf) |>.symm
  obtain rfl : fn = Tryz.f4 := (Option.some.inj (Tryz.func4.symm.trans hfn)).symm
  refine ⟨by kernel_rfl, fun j t ht => ?_⟩
  rw [Tryz.params4] at ht
  have hm := Array.mem_of_getElem? ht
  have hall : ∀ t ∈ (#[25, 3] : Array Nat), Tryz.prog.wantsStandIn t = false := by
    intro t ht
    simp only [List.mem_toArray, List.mem_cons, List.mem_nil_iff, or_false] at ht
    rcases ht with rfl | rfl <;> kernel_rfl
  exact hall t hm
theorem card : Rows.WritePrettiesUptoCardSaid :=
  Claim7.holds_tied_plain_at .later [] _ _ _ _ over (fun _ h => by cases h) (by kernel_rfl) (fun _ h => by cases h) writePrettiesUpto_row_tie rfl ⟨rfl, rfl⟩ (by kernel_rfl) rfl plain (by kernel_rfl)
end Go.Proofs.YtlgamjgdkljfiacGreatDoor.writePretties
namespace Go.Proofs.YtlgamjgdkljfiacGreatDoor
theorem writePretties_holds : Rows.WritePrettiesUptoCardSaid := writePretties.card
end Go.Proofs.YtlgamjgdkljfiacGreatDoor
