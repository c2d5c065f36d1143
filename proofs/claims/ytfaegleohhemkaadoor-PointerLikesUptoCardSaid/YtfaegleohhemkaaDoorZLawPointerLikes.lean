/- quarry: from two values that are alike a pointer leads to values that are alike, or nowhere from both: for every two structs of a value within the bound, and every pointer. -/
import Derived.Test.YtfaegleohhemkaaDoorCards
import Derived.Test.YtfaegleohhemkaaDoorTie
import Derived.Deep.DeepHandedRow
import Derived.Test.YtfaegleohhemkaaDoorRows
import Derived.Test.YtfaegleohhemkaaDoorZDefPointerLikes
import Derived.Test.YtfaegleohhemkaaDoorZPurePointerLikes
import Derived.Test.YtfaegleohhemkaaDoorZPointerLikesW1
import Derived.WalkKit
import Derived.ProofKit
import Derived.OpenShut
import Derived.ShutString
import Derived.ChangeOld
import Derived.Below
import Derived.SizedLaws
import Derived.JoinedCond
import Derived.Deep.CondSized
namespace Go.Proofs.YtfaegleohhemkaaDoor.pointerLikes
open Go.ChangeShapes Go.WideShapes Go.ChangeAt Go.RowKit Go.Proofs.YtfaegleohhemkaaDoor.PPointerLikes Go.Proofs.YtfaegleohhemkaaDoorW.PrintWords
open Go.ChangeMaps (open_string shut_string)
set_option linter.unusedVariables false
set_option linter.unusedSimpArgs false
theorem own : ownKnob Tryd.prog.godebug = none := by kernel_rfl
theorem laidOut : laidOutB Tryd.prog = true := by kernel_rfl
set_option maxRecDepth 100000 in
theorem open25 {H : Type} {enc : TypeId × Value → H} {W : World} : ∀ n, Go.Proofs.YtfaegleohhemkaaDoorX.Opens (H := H) enc Tryd.prog W n 25 k25 SZ25 bulk25 := by
  intro n
  induction n using Nat.strongRecOn with
  | _ n ih =>
  intro base spare held cs d ps h hw
  obtain ⟨xs, m, rfl, hx, hl, hxl, hf⟩ := DataW.trod_struct Tryd.underlying25 h
  obtain ⟨rfl, rfl⟩ := Prod.mk.inj hx
  rw [show Tryd.prog.cellsOf 25 = 6 from by kernel_rfl] at hl
  match cs, hl, xs, hxl, hf, hw with
  | [c0, c1, c2, c3, c4, c5], _, [y0, y1, y2, y3, y4, y5], _, hf, hw =>
    have q0 : DataW.trod enc Tryd.prog W base spare held m 3 (List.take (Tryd.prog.cellsOf 3) (List.drop 0 [c0, c1, c2, c3, c4, c5])) = some y0 := hf 0 _ rfl
    rw [show Tryd.prog.cellsOf 3 = 1 from by kernel_rfl] at q0
    have f0' : DataW.trod enc Tryd.prog W base spare held m 3 [c0] = some (y0.1, y0.2) := q0
    obtain ⟨x0, k0, s0, b0⟩ := Go.Proofs.YtfaegleohhemkaaDoorX.opens_int (k := .i64) (P := Tryd.prog) (t := 3) (by kernel_rfl) _ _ _ _ _ _ f0' (fun m hm => hw m (Go.Proofs.YtfaegleohhemkaaDoorX.weights_part (j := 0) Tryd.underlying25 rfl rfl m hm))
    have q1 : DataW.trod enc Tryd.prog W base spare held m 4 (List.take (Tryd.prog.cellsOf 4) (List.drop 1 [c0, c1, c2, c3, c4, c5])) = some y1 := hf 1 _ rfl
    rw [show Tryd.prog.cellsOf 4 = 1 from by kernel_rfl] at q1
    have f1' : DataW.trod enc Tryd.prog W base spare held m 4 [c1] = some (y1.1, y1.2) := q1
    obtain ⟨x1, k1, s1, b1⟩ := Go.Proofs.YtfaegleohhemkaaDoorX.opens_bool (P := Tryd.prog) (t := 4) (by kernel_rfl) _ _ _ _ _ _ f1' (fun m hm => hw m (Go.Proofs.YtfaegleohhemkaaDoorX.weights_part (j := 1) Tryd.underlying25 rfl rfl m hm))
    have q2 : DataW.trod enc Tryd.prog W base spare held m 9 (List.take (Tryd.prog.cellsOf 9) (List.drop 2 [c0, c1, c2, c3, c4, c5])) = some y2 := hf 2 _ rfl
    rw [show Tryd.prog.cellsOf 9 = 1 from by kernel_rfl] at q2
    have f2' : DataW.trod enc Tryd.prog W base spare held m 9 [c2] = some (y2.1, y2.2) := q2
    obtain ⟨x2, k2, s2, b2⟩ := Go.Proofs.YtfaegleohhemkaaDoorX.opens_string (P := Tryd.prog) (t := 9) (by kernel_rfl) _ _ _ _ _ _ f2' (fun m hm => hw m (Go.Proofs.YtfaegleohhemkaaDoorX.weights_part (j := 2) Tryd.underlying25 rfl rfl m hm))
    have q3 : DataW.trod enc Tryd.prog W base spare held m 9 (List.take (Tryd.prog.cellsOf 9) (List.drop 3 [c0, c1, c2, c3, c4, c5])) = some y3 := hf 3 _ rfl
    rw [show Tryd.prog.cellsOf 9 = 1 from by kernel_rfl] at q3
    have f3' : DataW.trod enc Tryd.prog W base spare held m 9 [c3] = some (y3.1, y3.2) := q3
    obtain ⟨x3, k3, s3, b3⟩ := Go.Proofs.YtfaegleohhemkaaDoorX.opens_string (P := Tryd.prog) (t := 9) (by kernel_rfl) _ _ _ _ _ _ f3' (fun m hm => hw m (Go.Proofs.YtfaegleohhemkaaDoorX.weights_part (j := 3) Tryd.underlying25 rfl rfl m hm))
    have q4 : DataW.trod enc Tryd.prog W base spare held m 22 (List.take (Tryd.prog.cellsOf 22) (List.drop 4 [c0, c1, c2, c3, c4, c5])) = some y4 := hf 4 _ rfl
    rw [show Tryd.prog.cellsOf 22 = 1 from by kernel_rfl] at q4
    have f4' : DataW.trod enc Tryd.prog W base spare held m 22 [c4] = some (y4.1, y4.2) := q4
    obtain ⟨x4, k4, s4, b4⟩ := Go.Proofs.YtfaegleohhemkaaDoorX.opens_slice (P := Tryd.prog) (t := 22) (e := 9) (K := Kd.string) (SZ := (fun x => x.size ≤ 140737488351232)) (G := (fun x => (x.size + 1))) (B := 16) (by kernel_rfl) (by kernel_rfl) (by kernel_rfl) (fun m _ => Go.Proofs.YtfaegleohhemkaaDoorX.opens_string (P := Tryd.prog) (t := 9) (by kernel_rfl)) _ _ _ _ _ _ f4' (fun m hm => hw m (Go.Proofs.YtfaegleohhemkaaDoorX.weights_part (j := 4) Tryd.underlying25 rfl rfl m hm))
    have q5 : DataW.trod enc Tryd.prog W base spare held m 23 (List.take (Tryd.prog.cellsOf 23) (List.drop 5 [c0, c1, c2, c3, c4, c5])) = some y5 := hf 5 _ rfl
    rw [show Tryd.prog.cellsOf 23 = 1 from by kernel_rfl] at q5
    have f5' : DataW.trod enc Tryd.prog W base spare held m 23 [c5] = some (y5.1, y5.2) := q5
    obtain ⟨x5, k5, s5, b5⟩ := Go.Proofs.YtfaegleohhemkaaDoorX.opens_slice (P := Tryd.prog) (t := 23) (e := 25) (K := k25) (SZ := SZ25) (G := bulk25) (B := 96) (by kernel_rfl) (by kernel_rfl) (by kernel_rfl) (fun m hm => ih m (by omega)) _ _ _ _ _ _ f5' (fun m hm => hw m (Go.Proofs.YtfaegleohhemkaaDoorX.weights_part (j := 5) Tryd.underlying25 rfl rfl m hm))
    injection k0 with k0 _
    subst k0
    injection k1 with k1 _
    subst k1
    injection k2 with k2 _
    subst k2
    injection k3 with k3 _
    subst k3
    obtain ⟨A4, n4, e4, l4, g4⟩ := k4
    injection e4 with e4 _
    subst e4
    obtain ⟨A5, n5, e5, l5, g5⟩ := k5
    injection e5 with e5 _
    subst e5
    refine ⟨⟨x0, x1, x2, x3, x4, x5⟩, k25_mk W ⟨x0, x1, x2, x3, x4, x5⟩ l4 g4 l5 g5, SZ25.mk _ s0 s1 s2 s3 s4.1 s4.2 s5.1 s5.2, ?_⟩
    simp only [bulk25, bulks25_eq, Go.Proofs.YtfaegleohhemkaaDoor.Rows.uptoBulk, Go.Proofs.YtfaegleohhemkaaDoor.Rows.uptoBulkAll, List.map_cons, List.map_nil] at *
    omega
mutual
def flat : DataW Unit → List Value
  | .lit (.int k n) => [.int k n]
  | .lit (.bool b) => [.bool b]
  | .agg l => flats l
  | _ => []
def flats : List (DataW Unit) → List Value
  | [] => []
  | x :: r => flat x ++ flats r
end
noncomputable def laidWorld (os : Os) : World :=
  { World.holding Tryd.prog os ⟨#[], #[], []⟩ with heap := (Array.modify (Array.modify (World.holding Tryd.prog os ⟨#[], #[], []⟩).heap ((Tryd.prog.globalNamed "unicode/utf8.acceptRanges").getD 0) (fun o : Obj => match o with | Obj.cells _ t frozen => Obj.cells (flat Rows.laid_unicode_utf8_acceptRanges).toArray t frozen | o => o)) ((Tryd.prog.globalNamed "unicode/utf8.first").getD 0) (fun o : Obj => match o with | Obj.cells _ t frozen => Obj.cells (flat Rows.laid_unicode_utf8_first).toArray t frozen | o => o)) }
theorem laid_met (os : Os) : laidMet Tryd.prog Rows.pointerLikesUptoRow.laid ((laidWorld os).forCall (fun _ _ => 0) ⟨#[], #[.agg #[.int .i64 0, .bool false, .string ByteArray.empty, .string ByteArray.empty, .slice none 0 0, .slice none 0 0], .agg #[.int .i64 0, .bool false, .string ByteArray.empty, .string ByteArray.empty, .slice none 0 0, .slice none 0 0], .string ByteArray.empty], []⟩).memory :=
  laidMet_of_run' 8 (by kernel_rfl) (by kernel_rfl)
theorem reads (os : Os) {H : Type} (enc : TypeId × Value → H) : ∃ places, DataW.whole enc Tryd.prog ((laidWorld os).forCall (fun _ _ => 0) ⟨#[], #[.agg #[.int .i64 0, .bool false, .string ByteArray.empty, .string ByteArray.empty, .slice none 0 0, .slice none 0 0], .agg #[.int .i64 0, .bool false, .string ByteArray.empty, .string ByteArray.empty, .slice none 0 0, .slice none 0 0], .string ByteArray.empty], []⟩).memory Tryd.f4.params.toList Rows.pointerLikesSpec.vars false (#[.agg #[.int .i64 0, .bool false, .string ByteArray.empty, .string ByteArray.empty, .slice none 0 0, .slice none 0 0], .agg #[.int .i64 0, .bool false, .string ByteArray.empty, .string ByteArray.empty, .slice none 0 0, .slice none 0 0], .string ByteArray.empty] : Array Value).toList 8 = some ([.agg [.lit (.int .i64 0), .lit (.bool false), .lit (.string []), .lit (.string []), .nil, .nil], .agg [.lit (.int .i64 0), .lit (.bool false), .lit (.string []), .lit (.string []), .nil, .nil], .lit (.string [])], [], places) :=
  ⟨[], by kernel_rfl⟩
set_option maxRecDepth 100000 in
theorem lifted (os : Os) (started : os.Started) (H : Type) (enc : TypeId × Value → H) (F : Stop.Interp) :
    ReturnsInHanded {} Tryd.checked os 4 .any ((Rows.OpenSpec.upto Rows.pointerLikesSpec).preRow enc Tryd.prog Tryd.f4 Rows.pointerLikesUptoRow.domain false Rows.pointerLikesUptoRow.laid) (((Rows.OpenSpec.upto Rows.pointerLikesSpec).at F).post enc Tryd.prog Tryd.f4 false true false false) := by
  obtain ⟨places, hx⟩ := reads os enc
  refine returnsInHanded_of_row (C := Tryd.checked) (s := (Rows.OpenSpec.upto Rows.pointerLikesSpec)) own started (by kernel_rfl) Tryd.func4
    (witness_row_at (enc := enc) (C := Tryd.checked) false (laidWorld os) #[.agg #[.int .i64 0, .bool false, .string ByteArray.empty, .string ByteArray.empty, .slice none 0 0, .slice none 0 0], .agg #[.int .i64 0, .bool false, .string ByteArray.empty, .string ByteArray.empty, .slice none 0 0, .slice none 0 0], .string ByteArray.empty] rfl (by kernel_rfl) (by kernel_rfl) (by kernel_rfl)
      (OpenSpec.preRow_of_cond 8 hx (by kernel_rfl) (fun k hk => by cases hk; kernel_rfl) (by kernel_rfl) (laid_met os))) ?_
  intro W base args ds gs before hval0 hW hcnd hk0 hsz0 hL _ _
  have hk := hk0 _ rfl
  have hsz : (DataW.weightsEach Tryd.prog (Tryd.f4.params.toList ++ Rows.pointerLikesSpec.plain.varTypes Tryd.prog) (ds ++ gs)).all (· ≤ reachBytes) = true := hsz0
  have hval : ∀ (j : Nat) t v, Tryd.f4.params[j]? = some t → args[j]? = some v → Value.okWide Tryd.prog W .any base t v := hval0
  have hW' := hW
  obtain ⟨p, q, hA0, hV, rfl, hfz, hnd⟩ := hW
  have hA : DataW.TrodAll enc Tryd.prog W 0 (fun _ => true) true Tryd.f4.params.toList args.toList ds p := hA0
  rw [Tryd.params4] at hA hval hsz
  obtain ⟨v0, vs0, d0, ds0, p0, q0, hargs, rfl, rfl, h0, r0⟩ := trodAll_cons hA
  obtain ⟨v1, vs1, d1, ds1, p1, q1, rfl, rfl, rfl, h1, r1⟩ := trodAll_cons r0
  obtain ⟨v2, vs2, d2, ds2, p2, q2, rfl, rfl, rfl, h2, r2⟩ := trodAll_cons r1
  obtain ⟨rfl, rfl, rfl⟩ := trodAll_nil r2
  obtain rfl : args = #[v0, v1, v2] := by cases args; simp_all
  obtain ⟨rfl, rfl⟩ := trodVars_none hV
  have k0 := h0
  have lt0 : ∀ x ∈ p0, x.block < W.heap.size := by obtain ⟨m, hm⟩ := k0; exact DataW.trod_lt m _ _ _ hm
  obtain ⟨cs0, rfl, _⟩ := okWide_struct Tryd.underlying25 (hval 0 25 v0 rfl rfl)
  obtain ⟨fu0, hf0⟩ := h0
  obtain ⟨x0, hK0, hz0, hb0⟩ := open25 _ _ _ _ _ _ _ hf0 (Go.Proofs.YtfaegleohhemkaaDoorX.weights_arg hsz (j := 0) rfl rfl)
  obtain ⟨A0_4, c0_4, A0_5, c0_5, e0, l0_4, g0_4, l0_5, g0_5⟩ := k25_open hK0
  obtain rfl : cs0 = #[.int .i64 x0.f0, .bool x0.f1, .string x0.f2, .string x0.f3, .slice A0_4 x0.f4.length c0_4, .slice A0_5 x0.f5.length c0_5] := by have e_ : cs0.toList = _ := e0; have e2_ := congrArg List.toArray e_; simpa using e2_
  have k1 := h1
  have lt1 : ∀ x ∈ p1, x.block < W.heap.size := by obtain ⟨m, hm⟩ := k1; exact DataW.trod_lt m _ _ _ hm
  obtain ⟨cs1, rfl, _⟩ := okWide_struct Tryd.underlying25 (hval 1 25 v1 rfl rfl)
  obtain ⟨fu1, hf1⟩ := h1
  obtain ⟨x1, hK1, hz1, hb1⟩ := open25 _ _ _ _ _ _ _ hf1 (Go.Proofs.YtfaegleohhemkaaDoorX.weights_arg hsz (j := 1) rfl rfl)
  obtain ⟨A1_4, c1_4, A1_5, c1_5, e1, l1_4, g1_4, l1_5, g1_5⟩ := k25_open hK1
  obtain rfl : cs1 = #[.int .i64 x1.f0, .bool x1.f1, .string x1.f2, .string x1.f3, .slice A1_4 x1.f4.length c1_4, .slice A1_5 x1.f5.length c1_5] := by have e_ : cs1.toList = _ := e1; have e2_ := congrArg List.toArray e_; simpa using e2_
  obtain ⟨x2, rfl, rfl, rfl, y2⟩ := open_string (t := 9) (by kernel_rfl) (hval 2 9 v2 rfl rfl) h2
  have hz2 : x2.size ≤ 140737488351232 := by
    have z := sized_string hsz (j := 2) (t := 9) rfl rfl
    rw [Array.length_toList] at z
    exact z
  have hk2 : Rows.uptoBulkAll (H := H) [d0, d1, (DataW.lit (.string x2.data.toList))] ≤ 1048576 := by have := of_decide_eq_true hk; simpa using this
  have hbulk : (bulk25 x0) + (bulk25 x1) + (x2.size + 1) ≤ 1048576 := by
    have hb0' : (bulk25 x0) ≤ Rows.uptoBulk d0 := hb0
    have hb1' : (bulk25 x1) ≤ Rows.uptoBulk d1 := hb1
    simp only [Rows.uptoBulk, Rows.uptoBulkAll, Array.length_toList] at hk2 ⊢
    try simp only [show ∀ s : ByteArray, s.data.size = s.size from fun _ => rfl] at hk2
    omega
  clear hA0 hval0 hsz0 hsz
  obtain ⟨k, hp⟩ := Pure.PointerLikes x0 x1 x2 hz0 hz1 hz2 hbulk
  refine (quarrylaw20_PointerLikes.calls (k := k) (a0_0 := x0.f0) (a0_1 := x0.f1) (a0_2 := x0.f2) (a0_3 := x0.f3) (A0_4 := A0_4) (c0_4 := c0_4) (l0_4 := x0.f4) (hr0_4 := g0_4) (hc0_4 := l0_4) (A0_5 := A0_5) (c0_5 := c0_5) (l0_5 := x0.f5) (hr0_5 := g0_5) (hc0_5 := l0_5) (a1_0 := x1.f0) (a1_1 := x1.f1) (a1_2 := x1.f2) (a1_3 := x1.f3) (A1_4 := A1_4) (c1_4 := c1_4) (l1_4 := x1.f4) (hr1_4 := g1_4) (hc1_4 := l1_4) (A1_5 := A1_5) (c1_5 := c1_5) (l1_5 := x1.f5) (hr1_5 := g1_5) (hc1_5 := l1_5) (a2 := x2) (r := true) (w := W) (h := hp)).mono fun e W' ⟨he, bel⟩ => ?_
  subst he
  exact ⟨_, rfl, _, _, _, [], _, [], hW', trodAll_mk1 (shut_bool (t := 4) (by kernel_rfl) _), (trodAll_cons_mk (Below.trod laidOut (by kernel_rfl) (of_decide_eq_true (by kernel_rfl)) k0 bel lt0) (trodAll_cons_mk (Below.trod laidOut (by kernel_rfl) (of_decide_eq_true (by kernel_rfl)) k1 bel lt1) (trodAll_cons_mk (shut_string (t := 9) (by kernel_rfl) y2) trodAll_mk0))), rfl, bel.frame _, fun h => by cases h⟩
theorem over : Rows.PointerLikesUptoSaid :=
  OpenClaim.holds_of_cond 4 Tryd.f4 rfl rfl rfl rfl rfl rfl rfl ⟨rfl, rfl, rfl, rfl, rfl⟩ rfl rfl rfl rfl rfl (by kernel_rfl) Tryd.func4 (by kernel_rfl)
    (of_decide_eq_true (by kernel_rfl)) (by unfold Func.isWrapper; first | (rw [if_pos (by decide +kernel)]; kernel_rfl) | (rw [if_neg (by decide +kernel)]; exact ⟨rfl, rfl⟩))
    (fun os started H enc _ F => by rw [OpenClaim.pre_eq_preRow]; exact lifted os started H enc F)
theorem plain (f : FuncId) (fn : Func) (hf : Tryd.pinned.checked.prog.funcNamed "quarry/quarrylaw20.PointerLikes" = some f) (hfn : Tryd.pinned.checked.prog.funcs[f]? = some fn) :
    false = Tryd.pinned.checked.prog.looks [] ∧ ∀ (j : Nat) t, fn.params[j]? = some t → Tryd.pinned.checked.prog.wantsStandIn t = false := by
  obtain rfl : f = 4 := Option.some.inj ((show Tryd.prog.funcNamed "quarry/quarrylaw20.PointerLikes" = some 4 by kernel_rfl).symm.trans hf) |>.symm
  obtain rfl : fn = Tryd.f4 := (Option.some.inj (Tryd.func4.symm.trans hfn)).symm
  refine ⟨by kernel_rfl, fun j t ht => ?_⟩
  rw [Tryd.params4] at ht
  have hm := Array.mem_of_getElem? ht
  have hall : ∀ t ∈ (#[25, 25, 9] : Array Nat), Tryd.prog.wantsStandIn t = false := by
    intro t ht
    simp only [List.mem_toArray, List.mem_cons, List.mem_nil_iff, or_false] at ht
    rcases ht with rfl | rfl | rfl <;> kernel_rfl
  exact hall t hm
theorem card : Rows.PointerLikesUptoCardSaid :=
  Claim7.holds_tied_plain_at .later [] _ _ _ _ over (fun _ h => by cases h) (by kernel_rfl) (fun _ h => by cases h) pointerLikesUpto_row_tie rfl ⟨rfl, rfl⟩ (by kernel_rfl) rfl plain (by kernel_rfl)
end Go.Proofs.YtfaegleohhemkaaDoor.pointerLikes
namespace Go.Proofs.YtfaegleohhemkaaDoor
theorem pointerLikes_holds : Rows.PointerLikesUptoCardSaid := pointerLikes.card
end Go.Proofs.YtfaegleohhemkaaDoor
