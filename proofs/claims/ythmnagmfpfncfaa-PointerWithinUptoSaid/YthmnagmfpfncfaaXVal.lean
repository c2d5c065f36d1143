/- Words for walks typed by hand: what a call leaves of older blocks; a struct of six cells stored whole; rows that are only read. -/
import Derived.Test.YthmnagmfpfncfaaWWords
import Derived.Test.YthmnagmfpfncfaaWMore
namespace Go.Proofs.YthmnagmfpfncfaaW.PrintWords
open Go.RowKit

theorem bcell {W w1 : World} (hb : Below W.heap.size W w1) : (∀ b o, b < W.heap.size → w1.cell? ⟨b, o, none⟩ = W.cell? ⟨b, o, none⟩) ∧ (∀ b o, b < W.heap.size → w1.frozen? ⟨b, o, none⟩ = W.frozen? ⟨b, o, none⟩) :=
  ⟨fun b o h => hb.cell (p := ⟨b, o, none⟩) h, fun b o h => hb.frozen (p := ⟨b, o, none⟩) h⟩

/-- The world behind six stores into one block. -/
def set6 (w : World) (g : Nat) (d0 d1 d2 d3 d4 d5 : Value) : World := (((((w.setCell ⟨g, 0, none⟩ d0).setCell ⟨g, 1, none⟩ d1).setCell ⟨g, 2, none⟩ d2).setCell ⟨g, 3, none⟩ d3).setCell ⟨g, 4, none⟩ d4).setCell ⟨g, 5, none⟩ d5

theorem set6_blk {w : World} {g : Nat} {t : TypeId} {c0 c1 c2 c3 c4 c5 d0 d1 d2 d3 d4 d5 : Value} (h : w.heap[g]? = some (.cells #[c0, c1, c2, c3, c4, c5] t (0, 0))) :
    (set6 w g d0 d1 d2 d3 d4 d5).heap[g]? = some (.cells #[d0, d1, d2, d3, d4, d5] t (0, 0)) := by
  unfold set6
  refine blk_put (cs := #[d0, d1, d2, d3, d4, c5]) ?_ 5 _ rfl
  refine blk_put (cs := #[d0, d1, d2, d3, c4, c5]) ?_ 4 _ rfl
  refine blk_put (cs := #[d0, d1, d2, c3, c4, c5]) ?_ 3 _ rfl
  refine blk_put (cs := #[d0, d1, c2, c3, c4, c5]) ?_ 2 _ rfl
  refine blk_put (cs := #[d0, c1, c2, c3, c4, c5]) ?_ 1 _ rfl
  exact blk_put (cs := #[c0, c1, c2, c3, c4, c5]) h 0 _ rfl

theorem set6_below {B : Nat} {a w : World} (h : Below B a w) {g : Nat} (hg : B ≤ g) (d0 d1 d2 d3 d4 d5 : Value) : Below B a (set6 w g d0 d1 d2 d3 d4 d5) := by
  unfold set6
  exact (((((h.setCell hg d0).setCell hg d1).setCell hg d2).setCell hg d3).setCell hg d4).setCell hg d5

theorem set6_size (w : World) (g : Nat) (d0 d1 d2 d3 d4 d5 : Value) : (set6 w g d0 d1 d2 d3 d4 d5).heap.size = w.heap.size := by
  simp [set6, World.setCell]

theorem set6_other (w : World) (g : Nat) (d0 d1 d2 d3 d4 d5 : Value) {k : Nat} (hk : k ≠ g) : (set6 w g d0 d1 d2 d3 d4 d5).heap[k]? = w.heap[k]? := by
  unfold set6
  rw [Below.heap_setCell _ _ _ _ hk, Below.heap_setCell _ _ _ _ hk, Below.heap_setCell _ _ _ _ hk, Below.heap_setCell _ _ _ _ hk, Below.heap_setCell _ _ _ _ hk, Below.heap_setCell _ _ _ _ hk]

namespace Kd
section
variable {α : Type} {d : Kd α} {e base base' b0 b1 g : Nat} {ok : Nat → Prop} {W w w1 : World} {v : Value} {xs : List α}
/-- What is new from b0 on, read alone. -/
theorem V_new (h : d.R e W base ok v xs) (hb : b0 ≤ base) : V d e W base' (fun k_ => b0 ≤ k_) v xs :=
  V_mono (R_V (R_bound h)) (fun _ hk => Nat.le_trans hb hk.2.1)
theorem V_set6 (h : V d e W base (fun k_ => b1 ≤ k_) v xs) (hg : g < b1) (hb : b0 ≤ b1) (d0 d1 d2 d3 d4 d5 : Value) : V d e (set6 W g d0 d1 d2 d3 d4 d5) base' (fun k_ => b0 ≤ k_) v xs :=
  V_mono (V_step h (fun k hk _ => set6_other W g d0 d1 d2 d3 d4 d5 (by omega))) (fun _ hk => Nat.le_trans hb hk)
/-- What was there before, read alone, behind a new block written whole. -/
theorem V_set6_old {ok' : Nat → Prop} (h : V d e w base ok v xs) (hb : Below w.heap.size w w1) (hg : w.heap.size ≤ g) (hok : ∀ k, ok k → ok' k) (d0 d1 d2 d3 d4 d5 : Value) : V d e (set6 w1 g d0 d1 d2 d3 d4 d5) base' ok' v xs :=
  V_mono (V_step (V_below (V_bound h) hb) (fun k hk _ => set6_other w1 g d0 d1 d2 d3 d4 d5 (by have := hk.2; omega))) (fun _ hk => hok _ hk.1)
end
end Kd
end Go.Proofs.YthmnagmfpfncfaaW.PrintWords
