/- quarry: tree.Member answers what the document's Member answers, for every value within the bound and every name (and for the small value): no condition beyond the row's own bounds on sizes. -/
import Derived.Test.YthmnagmfpfncfaaDefTreeMembers
namespace Go.Proofs.Ythmnagmfpfncfaa.Pure
open Go.RowKit Go.Proofs.Ythmnagmfpfncfaa.PTreeMembers Go.Proofs.YthmnagmfpfncfaaW.PrintWords Go.Proofs.YthmnagmfpfncfaaW.PrintLast

theorem w64 (n : Int) (h : -9223372036854775808 ≤ n) (h2 : n ≤ 9223372036854775807) : wrap64 n = n := by unfold wrap64; omega
theorem w64s (i : Nat) (h : i ≤ 140737488351232) : wrap64 ((i : Int) + 1) = ((i + 1 : Nat) : Int) := by unfold wrap64; omega

/-! the place of a name -/
def idxFrom (l : List ByteArray) (a : ByteArray) : Nat → Nat → Int
  | 0, _ => -1
  | d + 1, i => if (rdOf ByteArray.empty l (i : Int)).toList = a.toList then (i : Int) else idxFrom l a d (i + 1)
def idxOf (l : List ByteArray) (a : ByteArray) : Int := idxFrom l a l.length 0

theorem idxFrom_range (l : List ByteArray) (a : ByteArray) : ∀ (d i : Nat), idxFrom l a d i = -1 ∨ ((i : Int) ≤ idxFrom l a d i ∧ idxFrom l a d i < (i + d : Nat))
  | 0, i => .inl rfl
  | d + 1, i => by
    unfold idxFrom
    split
    · right; omega
    · rcases idxFrom_range l a d (i + 1) with h | h
      · exact .inl h
      · right; omega

theorem index_loop (l : List ByteArray) (a : ByteArray) (hl : l.length ≤ 140737488351232) : ∀ (d i : Nat), i + d = l.length → Ev (fun k => slices_Index_string_string.l0 k l a (l.length : Int) (i : Int)) (idxFrom l a d i)
  | 0, i, h => Ev.step (f := fun _ => some (-1)) (fun k => by simp only [slices_Index_string_string.l0]; rw [if_neg (by omega)]) (Ev.now _)
  | d + 1, i, h => by
    unfold idxFrom
    by_cases e : (rdOf ByteArray.empty l (i : Int)).toList = a.toList
    · rw [if_pos e]
      exact Ev.step (f := fun _ => some (i : Int)) (fun k => by simp only [slices_Index_string_string.l0]; rw [if_pos (by omega), if_pos (by omega), if_pos (by omega), if_pos e.symm]) (Ev.now _)
    · rw [if_neg e]
      refine Ev.step (f := fun k => slices_Index_string_string.l0 k l a (l.length : Int) ((i + 1 : Nat) : Int)) (fun k => ?_) (index_loop l a hl d (i + 1) (by omega))
      simp only [slices_Index_string_string.l0]; rw [if_pos (by omega), if_pos (by omega), if_pos (by omega), if_neg (fun h => e h.symm), w64s i (by omega)]

theorem index_ev (l : List ByteArray) (a : ByteArray) (hl : l.length ≤ 140737488351232) : Ev (fun k => slices_Index_string_string.f k l a) (idxOf l a) := index_loop l a hl l.length 0 (by omega)


theorem first_loop (q0 : Int) (q1 : Bool) (q2 q3 : ByteArray) (l : List ByteArray) (q5 : List S28) (a : ByteArray) (hl : l.length ≤ 140737488351232) : ∀ (d i : Nat), i + d = l.length → Ev (fun k => quarryref17_First.l0 k a (i : Int) q0 q1 q2 q3 l q5) (idxFrom l a d i)
  | 0, i, h => Ev.step (f := fun _ => some (-1)) (fun k => by simp only [quarryref17_First.l0]; rw [if_neg (by omega)]) (Ev.now _)
  | d + 1, i, h => by
    unfold idxFrom
    by_cases e : (rdOf ByteArray.empty l (i : Int)).toList = a.toList
    · rw [if_pos e]
      exact Ev.step (f := fun _ => some (i : Int)) (fun k => by simp only [quarryref17_First.l0]; rw [if_pos (by omega), if_pos (by omega), if_pos e]) (Ev.now _)
    · rw [if_neg e]
      refine Ev.step (f := fun k => quarryref17_First.l0 k a ((i + 1 : Nat) : Int) q0 q1 q2 q3 l q5) (fun k => ?_) (first_loop q0 q1 q2 q3 l q5 a hl d (i + 1) (by omega))
      simp only [quarryref17_First.l0]; rw [if_pos (by omega), if_pos (by omega), if_neg e, w64s i (by omega)]

theorem first_ev (q0 : Int) (q1 : Bool) (q2 q3 : ByteArray) (l : List ByteArray) (q5 : List S28) (a : ByteArray) (hl : l.length ≤ 140737488351232) : Ev (fun k => quarryref17_First.f k q0 q1 q2 q3 l q5 a) (idxOf l a) := first_loop q0 q1 q2 q3 l q5 a hl l.length 0 (by omega)

/-! lists of values -/
theorem kid_lt {x y : S28} (h : y ∈ x.f5) : SizeOf.sizeOf y < SizeOf.sizeOf x := by
  cases x with
  | mk f0 f1 f2 f3 f4 f5 =>
  have := List.sizeOf_lt_of_mem (show y ∈ f5 from h)
  rw [S28.mk.sizeOf_spec]
  omega
theorem rd_mem (l : List S28) (i : Nat) (h : i < l.length) : rd_T28 l (i : Int) ∈ l := by
  unfold rd_T28
  rw [Int.toNat_natCast, List.getD_eq_getElem?_getD, List.getElem?_eq_getElem h, Option.getD_some]
  exact List.getElem_mem h
theorem take_rd (l : List S28) (i : Nat) (h : i < l.length) : l.take i ++ [rd_T28 l (i : Int)] = l.take (i + 1) := by
  unfold rd_T28
  rw [Int.toNat_natCast, List.getD_eq_getElem?_getD, List.getElem?_eq_getElem h, Option.getD_some, List.take_succ_eq_append_getElem h]
theorem eta28 (x : S28) : (⟨x.f0, x.f1, x.f2, x.f3, x.f4, x.f5⟩ : S28) = x := by cases x; rfl

/-! copied: the value itself -/
theorem copied_loop (q0 : Int) (q1 : Bool) (q2 q3 : ByteArray) (q4 : List ByteArray) (l : List S28) (hl : l.length * 96 ≤ 140737488351232)
    (hk : ∀ y ∈ l, Ev (fun k => tree_copied.f k y.f0 y.f1 y.f2 y.f3 y.f4 y.f5) (y.f0, y.f1, y.f2, y.f3, y.f4, y.f5)) : ∀ (d i : Nat), i + d = l.length → Ev (fun k => tree_copied.l0 k l (l.length : Int) (i : Int) q0 q1 q2 q3 q4 (l.take i)) (q0, q1, q2, q3, q4, l)
  | 0, i, h => by
    have e : l.take i = l := List.take_of_length_le (by omega)
    rw [e]
    exact Ev.step (f := fun _ => some (q0, q1, q2, q3, q4, l)) (fun k => by simp only [tree_copied.l0]; rw [if_neg (by omega)]) (Ev.now _)
  | d + 1, i, h => by
    have hlt : i < l.length := by omega
    have hb := hk _ (rd_mem l i hlt)
    refine Ev.step (f := fun k => (tree_copied.f k (rd_T28 l (i : Int)).f0 (rd_T28 l (i : Int)).f1 (rd_T28 l (i : Int)).f2 (rd_T28 l (i : Int)).f3 (rd_T28 l (i : Int)).f4 (rd_T28 l (i : Int)).f5).bind fun b => tree_copied.l0 k l (l.length : Int) ((i + 1 : Nat) : Int) q0 q1 q2 q3 q4 (l.take i ++ [(⟨b.1, b.2.1, b.2.2.1, b.2.2.2.1, b.2.2.2.2.1, b.2.2.2.2.2⟩ : S28)])) (fun k => ?_) (Ev.bind hb ?_)
    · simp only [tree_copied.l0]
      rw [if_pos (by omega), if_pos (by omega), if_pos (by omega), w64s i (by omega)]
      congr 1
      funext b
      rw [if_pos (by rw [List.length_take]; omega)]
    · simp only [eta28]
      rw [take_rd l i hlt]
      exact copied_loop q0 q1 q2 q3 q4 l hl hk d (i + 1) (by omega)

theorem copied_ev (n : Nat) : ∀ (x : S28), SizeOf.sizeOf x ≤ n → SZ28 x → Ev (fun k => tree_copied.f k x.f0 x.f1 x.f2 x.f3 x.f4 x.f5) (x.f0, x.f1, x.f2, x.f3, x.f4, x.f5) := by
  induction n with
  | zero => intro x hn; cases x; simp at hn
  | succ n ih =>
    intro x hn hx
    cases hx with
    | mk _ h0 h1 h2 h3 h4 h4' h5 h5' =>
    refine Ev.step (f := fun k => tree_copied.l0 k x.f5 (x.f5.length : Int) ((0 : Nat) : Int) x.f0 x.f1 x.f2 x.f3 x.f4 (x.f5.take 0)) (fun k => ?_) (copied_loop x.f0 x.f1 x.f2 x.f3 x.f4 x.f5 h5 (fun y hy => ih y (by have := kid_lt hy; omega) (h5' y hy)) x.f5.length 0 (by omega))
    simp only [tree_copied.f]
    rw [if_pos (by simp only [List.length_nil]; omega)]
    rfl

/-! how much is left: some number -/
theorem told_some (a b c : Int) : ∃ r, quarryref00_told.f a b c = some r := by unfold quarryref00_told.f; split <;> exact ⟨_, rfl⟩

theorem left_loop1 (x : S28) (hl4 : x.f4.length * 16 ≤ 140737488351232) (hl : x.f5.length * 96 ≤ 140737488351232)
    (hk : ∀ y ∈ x.f5, ∀ a b c : Int, ∃ r, Ev (fun k => quarryref00_leftOfValue.f k y.f0 y.f1 y.f2 y.f3 y.f4 y.f5 a b c) r) : ∀ (d i : Nat) (a b c : Int), i + d = x.f5.length → ∃ r, Ev (fun k => quarryref00_leftOfValue.l1 k a b c (i : Int) x.f0 x.f1 x.f2 x.f3 x.f4 x.f5) r
  | 0, i, a, b, c, h => ⟨c, Ev.step (f := fun k => quarryref00_leftOfValue.j3 k a b c (i : Int) false x.f0 x.f1 x.f2 x.f3 x.f4 x.f5) (fun k => by simp only [quarryref00_leftOfValue.l1]; rw [if_neg (by omega)]) (Ev.step (f := fun _ => some c) (fun k => by simp only [quarryref00_leftOfValue.j3]; rw [if_neg (by simp)]) (Ev.now _))⟩
  | d + 1, i, a, b, c, h => by
    have hlt : i < x.f5.length := by omega
    by_cases hc : c ≥ 0
    · by_cases h4 : (i : Int) < (x.f4.length : Int)
      · obtain ⟨r1, hr1⟩ := hk _ (rd_mem x.f5 i hlt) (wrap64 (a + 1)) (wrap64 ((wrap64 (b + 21)) + (wrap64 (2 * ((rdOf ByteArray.empty x.f4 (i : Int)).size : Int))))) c
        obtain ⟨r2, hr2⟩ := left_loop1 x hl4 hl hk d (i + 1) a b r1 (by omega)
        refine ⟨r2, Ev.step (f := fun k => quarryref00_leftOfValue.j3 k a b c (i : Int) true x.f0 x.f1 x.f2 x.f3 x.f4 x.f5) (fun k => by simp only [quarryref00_leftOfValue.l1]; rw [if_pos (by omega), decide_eq_true hc]) (Ev.step (f := fun k => (quarryref00_leftOfValue.f k (rd_T28 x.f5 (i : Int)).f0 (rd_T28 x.f5 (i : Int)).f1 (rd_T28 x.f5 (i : Int)).f2 (rd_T28 x.f5 (i : Int)).f3 (rd_T28 x.f5 (i : Int)).f4 (rd_T28 x.f5 (i : Int)).f5 (wrap64 (a + 1)) (wrap64 ((wrap64 (b + 21)) + (wrap64 (2 * ((rdOf ByteArray.empty x.f4 (i : Int)).size : Int))))) c).bind fun t => quarryref00_leftOfValue.l1 k a b t ((i + 1 : Nat) : Int) x.f0 x.f1 x.f2 x.f3 x.f4 x.f5) (fun k => ?_) (Ev.bind hr1 hr2))⟩
        simp only [quarryref00_leftOfValue.j3]
        rw [if_pos trivial, if_pos h4, if_pos (by omega), if_pos (by omega), w64s i (by omega)]
      · obtain ⟨r1, hr1⟩ := hk _ (rd_mem x.f5 i hlt) (wrap64 (a + 1)) (wrap64 (b + 21)) c
        obtain ⟨r2, hr2⟩ := left_loop1 x hl4 hl hk d (i + 1) a b r1 (by omega)
        refine ⟨r2, Ev.step (f := fun k => quarryref00_leftOfValue.j3 k a b c (i : Int) true x.f0 x.f1 x.f2 x.f3 x.f4 x.f5) (fun k => by simp only [quarryref00_leftOfValue.l1]; rw [if_pos (by omega), decide_eq_true hc]) (Ev.step (f := fun k => (quarryref00_leftOfValue.f k (rd_T28 x.f5 (i : Int)).f0 (rd_T28 x.f5 (i : Int)).f1 (rd_T28 x.f5 (i : Int)).f2 (rd_T28 x.f5 (i : Int)).f3 (rd_T28 x.f5 (i : Int)).f4 (rd_T28 x.f5 (i : Int)).f5 (wrap64 (a + 1)) (wrap64 (b + 21)) c).bind fun t => quarryref00_leftOfValue.l1 k a b t ((i + 1 : Nat) : Int) x.f0 x.f1 x.f2 x.f3 x.f4 x.f5) (fun k => ?_) (Ev.bind hr1 hr2))⟩
        simp only [quarryref00_leftOfValue.j3]
        rw [if_pos trivial, if_neg h4, if_pos (by omega), if_pos (by omega), w64s i (by omega)]
    · refine ⟨c, Ev.step (f := fun k => quarryref00_leftOfValue.j3 k a b c (i : Int) false x.f0 x.f1 x.f2 x.f3 x.f4 x.f5) (fun k => by simp only [quarryref00_leftOfValue.l1]; rw [if_pos (by omega), decide_eq_false hc]) (Ev.step (f := fun _ => some c) (fun k => by simp only [quarryref00_leftOfValue.j3]; rw [if_neg (by simp)]) (Ev.now _))⟩

theorem left_loop0 (x : S28) (hl4 : x.f4.length * 16 ≤ 140737488351232)
    (hj : ∀ a b c : Int, ∃ r, Ev (fun k => quarryref00_leftOfValue.j1 k a b c x.f0 x.f1 x.f2 x.f3 x.f4 x.f5) r) : ∀ (d i : Nat) (a b c : Int), i + d = x.f4.length → ∃ r, Ev (fun k => quarryref00_leftOfValue.l0 k a b c (i : Int) x.f0 x.f1 x.f2 x.f3 x.f4 x.f5) r
  | 0, i, a, b, c, h => by
    obtain ⟨r, hr⟩ := hj a b c
    exact ⟨r, Ev.step (fun k => by simp only [quarryref00_leftOfValue.l0]; rw [if_neg (by omega)]) hr⟩
  | d + 1, i, a, b, c, h => by
    by_cases hc : c ≥ 0
    · obtain ⟨t, ht⟩ := told_some ((rdOf ByteArray.empty x.f4 (i : Int)).size : Int) a 0
      obtain ⟨r, hr⟩ := left_loop0 x hl4 hj d (i + 1) a b (wrap64 (c - t)) (by omega)
      refine ⟨r, Ev.step (fun k => ?_) hr⟩
      simp only [quarryref00_leftOfValue.l0]
      rw [if_pos (by omega), if_pos hc, if_pos (by omega), ht, Option.bind_some, w64s i (by omega)]
    · obtain ⟨r, hr⟩ := hj a b c
      exact ⟨r, Ev.step (fun k => by simp only [quarryref00_leftOfValue.l0]; rw [if_pos (by omega), if_neg hc]) hr⟩

theorem left_ev (n : Nat) : ∀ (x : S28), SizeOf.sizeOf x ≤ n → SZ28 x → ∀ a b c : Int, ∃ r, Ev (fun k => quarryref00_leftOfValue.f k x.f0 x.f1 x.f2 x.f3 x.f4 x.f5 a b c) r := by
  induction n with
  | zero => intro x hn; cases x; simp at hn
  | succ n ih =>
    intro x hn hx a b c
    cases hx with
    | mk _ h0 h1 h2 h3 h4 h4' h5 h5' =>
    by_cases ha : a > 65536
    · exact ⟨-1, Ev.step (f := fun _ => some (-1)) (fun k => by simp only [quarryref00_leftOfValue.f]; rw [if_pos ha]) (Ev.now _)⟩
    · obtain ⟨t, ht⟩ := told_some (wrap64 ((x.f2.size : Int) + (x.f3.size : Int))) a b
      obtain ⟨r, hr⟩ := left_loop0 x h4 (fun a b c => by
        obtain ⟨r, hr⟩ := left_loop1 x h4 h5 (fun y hy => ih y (by have := kid_lt hy; omega) (h5' y hy)) x.f5.length 0 a b c (by omega)
        exact ⟨r, Ev.step (fun k => by simp only [quarryref00_leftOfValue.j1]; rfl) hr⟩) x.f4.length 0 a b (wrap64 (c - t)) (by omega)
      refine ⟨r, Ev.step (fun k => ?_) hr⟩
      simp only [quarryref00_leftOfValue.f]
      rw [if_neg ha, ht, Option.bind_some]
      rfl

theorem beyond_ev (x : S28) (hx : SZ28 x) : ∃ r, Ev (fun k => quarryref00_BeyondValue.f k x.f0 x.f1 x.f2 x.f3 x.f4 x.f5) r := by
  obtain ⟨r, hr⟩ := left_ev (SizeOf.sizeOf x) x (Nat.le_refl _) hx 1 0 2147483647
  exact ⟨decide (r < 0), Ev.bind hr (Ev.now _)⟩


/-! a value is the same as itself -/
theorem texts_loop (l : List ByteArray) (hl : l.length ≤ 140737488351232) : ∀ (d i : Nat), i + d = l.length → Ev (fun k => quarryref00_SameTexts.l0 k l l (i : Int)) true
  | 0, i, h => Ev.step (f := fun _ => some true) (fun k => by simp only [quarryref00_SameTexts.l0]; rw [if_neg (by omega)]) (Ev.now _)
  | d + 1, i, h => by
    refine Ev.step (fun k => ?_) (texts_loop l hl d (i + 1) (by omega))
    simp only [quarryref00_SameTexts.l0]
    rw [if_pos (by omega), if_pos (by omega), if_pos (by omega), if_pos trivial, w64s i (by omega)]
theorem texts_ev (l : List ByteArray) (hl : l.length ≤ 140737488351232) : Ev (fun k => quarryref00_SameTexts.f k l l) true := by
  refine Ev.congr (fun k => ?_) (texts_loop l hl l.length 0 (by omega))
  unfold quarryref00_SameTexts.f
  rw [if_pos rfl]
  rfl

theorem same_loop (x : S28) (hl : x.f5.length ≤ 140737488351232) (hk : ∀ y ∈ x.f5, Ev (fun k => quarryref00_SameValue.f k y.f0 y.f1 y.f2 y.f3 y.f4 y.f5 y.f0 y.f1 y.f2 y.f3 y.f4 y.f5) true) : ∀ (d i : Nat), i + d = x.f5.length →
    Ev (fun k => quarryref00_SameValue.l0 k (i : Int) x.f0 x.f1 x.f2 x.f3 x.f4 x.f5 x.f0 x.f1 x.f2 x.f3 x.f4 x.f5) true
  | 0, i, h => Ev.step (f := fun _ => some true) (fun k => by simp only [quarryref00_SameValue.l0]; rw [if_neg (by omega)]) (Ev.now _)
  | d + 1, i, h => by
    have hlt : i < x.f5.length := by omega
    refine Ev.step (fun k => ?_) (Ev.bind (f := fun k t => if t = true then quarryref00_SameValue.l0 k ((i + 1 : Nat) : Int) x.f0 x.f1 x.f2 x.f3 x.f4 x.f5 x.f0 x.f1 x.f2 x.f3 x.f4 x.f5 else some false) (hk _ (rd_mem x.f5 i hlt)) (Ev.congr (fun k => by rw [if_pos rfl]) (same_loop x hl hk d (i + 1) (by omega))))
    simp only [quarryref00_SameValue.l0]
    rw [if_pos (by omega), if_pos (by omega), if_pos (by omega), w64s i (by omega)]

theorem same_ev (n : Nat) : ∀ (x : S28), SizeOf.sizeOf x ≤ n → SZ28 x → Ev (fun k => quarryref00_SameValue.f k x.f0 x.f1 x.f2 x.f3 x.f4 x.f5 x.f0 x.f1 x.f2 x.f3 x.f4 x.f5) true := by
  induction n with
  | zero => intro x hn; cases x; simp at hn
  | succ n ih =>
    intro x hn hx
    cases hx with
    | mk _ h0 h1 h2 h3 h4 h4' h5 h5' =>
    have hl := same_loop x (by omega) (fun y hy => ih y (by have := kid_lt hy; omega) (h5' y hy)) x.f5.length 0 (by omega)
    refine Ev.step (fun k => ?_) (Ev.bind (f := fun k t => quarryref00_SameValue.j0 k (!t) x.f0 x.f1 x.f2 x.f3 x.f4 x.f5 x.f0 x.f1 x.f2 x.f3 x.f4 x.f5) (texts_ev x.f4 (by omega)) (Ev.step (fun k => ?_) hl))
    · simp only [quarryref00_SameValue.f]
      rw [if_pos trivial, if_neg (by simp), if_pos trivial, if_pos trivial, if_pos trivial]
    · simp only [quarryref00_SameValue.j0]
      rw [if_neg (by simp)]
      rfl


/-! an object's member of a name -/
def memberV (x : S28) (a : ByteArray) : S28 × Bool :=
  if x.f0 = 6 then (if (x.f4.length : Int) = (x.f5.length : Int) then (if idxOf x.f4 a < 0 then (z28, false) else (rd_T28 x.f5 (idxOf x.f4 a), true)) else (z28, false)) else (z28, false)
theorem idx_lt (l : List ByteArray) (a : ByteArray) : idxOf l a < (l.length : Int) := by
  rcases idxFrom_range l a l.length 0 with h | h
  · unfold idxOf; omega
  · unfold idxOf; omega
theorem idx_nat (l : List ByteArray) (a : ByteArray) (h : ¬ idxOf l a < 0) : ∃ i : Nat, idxOf l a = (i : Int) ∧ i < l.length := ⟨(idxOf l a).toNat, by omega, by have := idx_lt l a; omega⟩

theorem member_ev (x : S28) (a : ByteArray) (hx : SZ28 x) : Ev (fun k => tree_Member.f k x.f0 x.f1 x.f2 x.f3 x.f4 x.f5 a) ((memberV x a).1.f0, (memberV x a).1.f1, (memberV x a).1.f2, (memberV x a).1.f3, (memberV x a).1.f4, (memberV x a).1.f5, (memberV x a).2) := by
  cases hx with
  | mk _ h0 h1 h2 h3 h4 h4' h5 h5' =>
  refine Ev.bind (index_ev x.f4 a (by omega)) ?_
  unfold memberV
  by_cases c1 : x.f0 = 6
  · rw [if_pos c1]
    by_cases c2 : (x.f4.length : Int) = (x.f5.length : Int)
    · rw [if_pos c2]
      by_cases c3 : idxOf x.f4 a < 0
      · rw [if_pos c3]
        exact Ev.congr (fun k => by rw [if_pos c1, if_pos c2, if_pos c3]; rfl) (Ev.now _)
      · rw [if_neg c3]
        obtain ⟨i, hi, hlt⟩ := idx_nat x.f4 a c3
        rw [hi]
        have hlt' : i < x.f5.length := by omega
        refine Ev.congr (fun k => by rw [if_pos c1, if_pos c2, if_neg (by omega), if_pos (by omega), if_pos (by omega)]) (Ev.bind (copied_ev _ _ (Nat.le_refl _) (h5' _ (rd_mem x.f5 i hlt'))) (Ev.now _))
    · rw [if_neg c2]
      exact Ev.congr (fun k => by rw [if_pos c1, if_neg c2]; rfl) (Ev.now _)
  · rw [if_neg c1]
    exact Ev.congr (fun k => by rw [if_neg c1]; rfl) (Ev.now _)

theorem refMember_ev (x : S28) (a : ByteArray) (hx : SZ28 x) : Ev (fun k => quarryref17_Member.f k x.f0 x.f1 x.f2 x.f3 x.f4 x.f5 a) ((memberV x a).1.f0, (memberV x a).1.f1, (memberV x a).1.f2, (memberV x a).1.f3, (memberV x a).1.f4, (memberV x a).1.f5, (memberV x a).2) := by
  cases hx with
  | mk _ h0 h1 h2 h3 h4 h4' h5 h5' =>
  unfold memberV
  by_cases c1 : x.f0 = 6
  · rw [if_pos c1]
    by_cases c2 : (x.f4.length : Int) = (x.f5.length : Int)
    · rw [if_pos c2]
      refine Ev.congr (fun k => by unfold quarryref17_Member.f; rw [if_pos c1, if_pos c2]) (Ev.bind (first_ev x.f0 x.f1 x.f2 x.f3 x.f4 x.f5 a (by omega)) ?_)
      by_cases c3 : idxOf x.f4 a < 0
      · rw [if_pos c3]
        exact Ev.congr (fun k => by rw [if_pos c3]; rfl) (Ev.now _)
      · rw [if_neg c3]
        have := idx_lt x.f4 a
        exact Ev.congr (fun k => by rw [if_neg c3, if_pos (by omega)]) (Ev.now _)
    · rw [if_neg c2]
      exact Ev.congr (fun k => by unfold quarryref17_Member.f; rw [if_pos c1, if_neg c2]; rfl) (Ev.now _)
  · rw [if_neg c1]
    exact Ev.congr (fun k => by unfold quarryref17_Member.f; rw [if_neg c1]; rfl) (Ev.now _)

theorem sz_z28 : SZ28 z28 := ⟨_, by decide, trivial, by decide, by decide, by decide, by simp [z28], by decide, by simp [z28]⟩
theorem sz_member (x : S28) (a : ByteArray) (hx : SZ28 x) : SZ28 (memberV x a).1 := by
  cases hx with
  | mk _ h0 h1 h2 h3 h4 h4' h5 h5' =>
  unfold memberV
  split
  · split
    · split
      · exact sz_z28
      · rename_i c2 c3
        obtain ⟨i, hi, hlt⟩ := idx_nat x.f4 a c3
        rw [hi]
        exact h5' _ (rd_mem x.f5 i (by omega))
    · exact sz_z28
  · exact sz_z28

def smallV : S28 := ⟨6, false, ⟨#[]⟩, ⟨#[]⟩, [⟨#[97]⟩, ⟨#[98]⟩], [⟨5, false, ⟨#[]⟩, ⟨#[]⟩, [], [⟨3, false, ⟨#[49, 46, 48]⟩, ⟨#[]⟩, [], []⟩, ⟨2, true, ⟨#[]⟩, ⟨#[]⟩, [], []⟩]⟩, ⟨1, false, ⟨#[]⟩, ⟨#[]⟩, [], []⟩]⟩
theorem sz_leaf (a : Int) (b : Bool) (c : ByteArray) (ha : (Lit.int .i64 a).wf = true) (hc : c.size ≤ 140737488351232) : SZ28 ⟨a, b, c, ⟨#[]⟩, [], []⟩ := ⟨_, ha, trivial, hc, by show (0 : Nat) ≤ _; omega, by show (0 : Nat) * 16 ≤ _; omega, by simp, by show (0 : Nat) * 96 ≤ _; omega, by simp⟩
theorem sz_small : SZ28 smallV := by
  refine ⟨_, by decide, trivial, by decide, by decide, by decide, by simp [smallV]; decide, by decide, ?_⟩
  intro y hy
  simp [smallV] at hy
  rcases hy with rfl | rfl
  · refine ⟨_, by decide, trivial, by decide, by decide, by decide, by simp, by decide, ?_⟩
    intro y hy
    simp at hy
    rcases hy with rfl | rfl
    · exact sz_leaf _ _ _ (by decide) (by decide)
    · exact sz_leaf _ _ _ (by decide) (by decide)
  · exact sz_leaf _ _ _ (by decide) (by decide)
theorem small_b : (memberV smallV ⟨#[98]⟩).1.f0 = 1 ∧ (memberV smallV ⟨#[98]⟩).2 = true := by
  have e : idxOf smallV.f4 ⟨#[98]⟩ = 1 := by decide +kernel
  unfold memberV
  rw [if_pos (by rfl), if_pos (by rfl), e]
  exact ⟨by rfl, by rfl⟩

theorem TreeMembers : quarrylaw17_TreeMembers.Pure := by
  intro x a hx ha
  obtain ⟨r, hr⟩ := beyond_ev x hx
  refine Ev.rounds (r := true) ?_
  unfold quarrylaw17_TreeMembers.f
  refine Ev.bind (f := fun k b => (tree_Member.f k b.1 b.2.1 b.2.2.1 b.2.2.2.1 b.2.2.2.2.1 b.2.2.2.2.2 (⟨#[98]⟩ : ByteArray)).bind fun c => if c.1 = 1 then quarrylaw17_TreeMembers.j0 k a (!c.2.2.2.2.2.2) x.f0 x.f1 x.f2 x.f3 x.f4 x.f5 else quarrylaw17_TreeMembers.j0 k a true x.f0 x.f1 x.f2 x.f3 x.f4 x.f5) (g := fun _ => quarrylaw17_smallValue.f) (a := (smallV.f0, smallV.f1, smallV.f2, smallV.f3, smallV.f4, smallV.f5)) (Ev.now _) ?_
  refine Ev.bind (member_ev smallV ⟨#[98]⟩ sz_small) ?_
  obtain ⟨s1, s2⟩ := small_b
  refine Ev.congr (f := fun k => quarrylaw17_TreeMembers.j0 k a false x.f0 x.f1 x.f2 x.f3 x.f4 x.f5) (fun k => by dsimp only; rw [if_pos s1, s2]; rfl) ?_
  refine Ev.step (f := fun k => (quarryref00_BeyondValue.f k x.f0 x.f1 x.f2 x.f3 x.f4 x.f5).bind fun t195 => (if t195 = true then (some true) else ((tree_Member.f k x.f0 x.f1 x.f2 x.f3 x.f4 x.f5 a).bind fun bt196 => ((quarryref17_Member.f k x.f0 x.f1 x.f2 x.f3 x.f4 x.f5 a).bind fun bt207 => (if (bt196.2.2.2.2.2.2 == bt207.2.2.2.2.2.2) = true then ((quarryref00_SameValue.f k bt196.1 bt196.2.1 bt196.2.2.1 bt196.2.2.2.1 bt196.2.2.2.2.1 bt196.2.2.2.2.2.1 bt207.1 bt207.2.1 bt207.2.2.1 bt207.2.2.2.1 bt207.2.2.2.2.1 bt207.2.2.2.2.2.1).bind fun t219 => (some t219)) else (some false)))))) (fun k => by simp only [quarrylaw17_TreeMembers.j0]; rw [if_neg (by simp)]) ?_
  refine Ev.bind hr ?_
  cases r with
  | true => exact Ev.congr (fun k => by rw [if_pos rfl]) (Ev.now _)
  | false =>
    refine Ev.congr (fun k => by rw [if_neg (by simp)]) ?_
    refine Ev.bind (member_ev x a hx) ?_
    refine Ev.bind (refMember_ev x a hx) ?_
    refine Ev.congr (fun k => by rw [if_pos (by simp)]) ?_
    exact Ev.bind (same_ev _ _ (Nat.le_refl _) (sz_member x a hx)) (Ev.now _)

end Go.Proofs.Ythmnagmfpfncfaa.Pure
