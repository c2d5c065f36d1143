-- Written by shrink.py, a program of this session: what the law needs of the print and its words. Lean checks it.
import Derived.Test.YtppenppagkfigaaDoorZPointerChainsW0
import Derived.Test.YtppenppagkfigaaDoorRows
import Derived.ProofKit
import Derived.OpenShut
import Derived.Deep.Slices
import Derived.SizedLaws
namespace Go.Proofs.YtppenppagkfigaaDoorW.PrintWords
open Go.RowKit
theorem bcell {W w1 : World} (hb : Below W.heap.size W w1) : (∀ b o,b < W.heap.size → w1.cell? ⟨b,o,none⟩ = W.cell? ⟨b,o,none⟩) ∧ (∀ b o,b < W.heap.size → w1.frozen? ⟨b,o,none⟩ = W.frozen? ⟨b,o,none⟩) :=
 ⟨fun b o h=>hb.cell (p:=⟨b,o,none⟩) h,fun b o h=>hb.frozen (p:=⟨b,o,none⟩) h⟩
def set6 (w : World) (g : Nat) (d0 d1 d2 d3 d4 d5 : Value) : World:=(((((w.setCell ⟨g,0,none⟩ d0).setCell ⟨g,1,none⟩ d1).setCell ⟨g,2,none⟩ d2).setCell ⟨g,3,none⟩ d3).setCell ⟨g,4,none⟩ d4).setCell ⟨g,5,none⟩ d5
theorem set6_blk {w : World} {g : Nat} {t : TypeId} {c0 c1 c2 c3 c4 c5 d0 d1 d2 d3 d4 d5 : Value} (h : w.heap[g]? = some (.cells #[c0,c1,c2,c3,c4,c5] t (0,0))) :
  (set6 w g d0 d1 d2 d3 d4 d5).heap[g]? = some (.cells #[d0,d1,d2,d3,d4,d5] t (0,0)):=by
 unfold set6
 refine blk_put (cs:=#[d0,d1,d2,d3,d4,c5]) ?_ 5 _ rfl
 refine blk_put (cs:=#[d0,d1,d2,d3,c4,c5]) ?_ 4 _ rfl
 refine blk_put (cs:=#[d0,d1,d2,c3,c4,c5]) ?_ 3 _ rfl
 refine blk_put (cs:=#[d0,d1,c2,c3,c4,c5]) ?_ 2 _ rfl
 refine blk_put (cs:=#[d0,c1,c2,c3,c4,c5]) ?_ 1 _ rfl
 exact blk_put (cs:=#[c0,c1,c2,c3,c4,c5]) h 0 _ rfl
theorem set6_below {B : Nat} {a w : World} (h : Below B a w) {g : Nat} (hg : B ≤ g) (d0 d1 d2 d3 d4 d5 : Value) : Below B a (set6 w g d0 d1 d2 d3 d4 d5):=by
 unfold set6
 exact (((((h.setCell hg d0).setCell hg d1).setCell hg d2).setCell hg d3).setCell hg d4).setCell hg d5
theorem set6_other (w : World) (g : Nat) (d0 d1 d2 d3 d4 d5 : Value) {k : Nat} (hk : k ≠ g) : (set6 w g d0 d1 d2 d3 d4 d5).heap[k]? = w.heap[k]?:=by
 unfold set6
 rw [Below.heap_setCell _ _ _ _ hk,Below.heap_setCell _ _ _ _ hk,Below.heap_setCell _ _ _ _ hk,Below.heap_setCell _ _ _ _ hk,Below.heap_setCell _ _ _ _ hk,Below.heap_setCell _ _ _ _ hk]
namespace Kd
section
variable {α : Type} {d : Kd α} {e base base' b0 b1 g : Nat} {ok : Nat → Prop} {W w w1 : World} {v : Value} {xs : List α}
theorem V_new (h : d.R e W base ok v xs) (hb : b0 ≤ base) : V d e W base' (fun k_=>b0 ≤ k_) v xs :=
 V_mono (R_V (R_bound h)) (fun _ hk=>Nat.le_trans hb hk.2.1)
theorem V_set6 (h : V d e W base (fun k_=>b1 ≤ k_) v xs) (hg : g < b1) (hb : b0 ≤ b1) (d0 d1 d2 d3 d4 d5 : Value) : V d e (set6 W g d0 d1 d2 d3 d4 d5) base' (fun k_=>b0 ≤ k_) v xs :=
 V_mono (V_step h (fun k hk _=>set6_other W g d0 d1 d2 d3 d4 d5 (by omega))) (fun _ hk=>Nat.le_trans hb hk)
end
end Kd
theorem px_pos (n : Nat) : decide ((n : Int) > 0) = decide (0 < n):=by rw [decide_eq_decide];omega
theorem px_ne (l : List UInt8) : (l != ([] : List UInt8)) = !l.isEmpty:=by cases l <;> rfl
section
variable {P Q : Prop} {w w0 w1 w2 : World} {g g2 : Nat} {o : Obj} {B : Nat}
theorem bk_ (x : Aside0 Q) (h : Q → P:=by intro h_;(with_reducible repeat (first|refine blk_drewN ?_ _|refine blk_drew ?_|refine blk_alloc ?_ _));exact h_) : P:=h x.out
theorem hb_ (x : Aside0 Q) (h : Q → P:=by intro h_;repeat (first|(with_reducible first|exact h_|apply below_alloc|apply pw_below_drewN|apply below_drew1|refine below_set ?_ (Aside0.out (by assumption)))|exact h_)) : P:=h x.out
theorem vk_ (x : Aside0 Q) (h : Q → P:=by intro h_;(with_reducible repeat (first|apply Kd.V_alloc|apply Kd.V_drewN|apply Kd.V_drew));exact h_) : P:=h x.out
theorem rk_ (x : Aside0 Q) (h : Q → P:=by intro h_;(with_reducible repeat (first|apply Kd.R_alloc|apply Kd.R_drewN|apply Kd.R_drew));exact h_) : P:=h x.out
theorem bs_ {a b : World} (hg : g = w.heap.size) (x : Aside0 (Below a.heap.size a b)) (h : Below a.heap.size a b → Below a.heap.size a w:=by intro h_;repeat (first|(with_reducible first|exact h_|apply below_alloc|apply pw_below_drewN|apply below_drew1|refine below_set ?_ (Aside0.out (by assumption)))|exact h_)) : a.heap.size ≤ g:=by rw [hg];exact below_size (h x.out)
theorem J_ (x : P) (y : Q) : Aside0 P ∧ Q:=⟨⟨x⟩,y⟩
theorem vf6_ {α : Type} {d : Kd α} {e base : Nat} {ok : Nat → Prop} {v : Value} {xs : List α} {u0 u1 u2 u3 u4 u5 : Value} (h : Kd.V d e w base ok v xs) (hok : ∀ k,ok k → k ≠ g) : Kd.V d e ((((((w.setCell ⟨g,0,none⟩ u0).setCell ⟨g,1,none⟩ u1).setCell ⟨g,2,none⟩ u2).setCell ⟨g,3,none⟩ u3).setCell ⟨g,4,none⟩ u4).setCell ⟨g,5,none⟩ u5) base ok v xs :=
 Kd.V_far (p:=⟨g,5,none⟩) (Kd.V_far (p:=⟨g,4,none⟩) (Kd.V_far (p:=⟨g,3,none⟩) (Kd.V_far (p:=⟨g,2,none⟩) (Kd.V_far (p:=⟨g,1,none⟩) (Kd.V_far (p:=⟨g,0,none⟩) h hok u0) hok u1) hok u2) hok u3) hok u4) hok u5
theorem bf_ {g3 : Nat} (n : Aside0 (g3 ≠ g2)) (x : Aside0 Q) (h : g3 ≠ g2 → Q → P:=by intro n_ h_;(repeat (first|(with_reducible first|refine blk_drewN ?_ _|refine blk_drew ?_|refine blk_alloc ?_ _)|(with_reducible refine blk_far ?_ n_ _)));exact h_) : P:=h n.out x.out
theorem am_ (h : P:=by (try simp only [List.map_toArray,List.map_cons,List.map_nil]);first|done|rfl|(simp only [List.length_drop,List.length_take];rfl)) : P:=h
theorem aa_ (h : P:=by first|(with_reducible assumption)|assumption) : P:=h
theorem rr_ (h : P:=by first|rfl|(simp;done)|(simp [*];done)) : P:=h
theorem bkb_ (x : Aside0 (w0.heap[g]? = some o)) (hb : Below w.heap.size w w1) (h : w0.heap[g]? = some o → w.heap[g]? = some o:=by intro h_;(with_reducible repeat (first|refine blk_drewN ?_ _|refine blk_drew ?_|refine blk_alloc ?_ _));exact h_) : w1.heap[g]? = some o:=blk_below (h x.out) hb
theorem bkl_ (x : Aside0 (w0.heap[g]? = some o)) (h : w0.heap[g]? = some o → w.heap[g]? = some o:=by intro h_;(with_reducible repeat (first|refine blk_drewN ?_ _|refine blk_drew ?_|refine blk_alloc ?_ _));exact h_) : g < w.heap.size:=blk_lt (h x.out)
theorem bp_ {t : TypeId} {cs cs' : Array Value} (h : w.heap[g]? = some (.cells cs t (0,0))) (i : Nat) (u : Value) (e : cs.setIfInBounds i u = cs':=by first|rfl|(simp only [px_pos,px_ne];rfl)|simp [px_pos,px_ne]) : (w.setCell ⟨g,i,none⟩ u).heap[g]? = some (.cells cs' t (0,0)):=blk_put h i u e
theorem cf3_ {t : TypeId} {a0 a1 a2 : Value} (x : Aside0 (w.heap[g]? = some (.cells #[a0,a1,a2] t (0,0)))) : w.cell? ⟨g,0,none⟩ = some a0 ∧ w.cell? ⟨g,1,none⟩ = some a1 ∧ w.cell? ⟨g,2,none⟩ = some a2 ∧ w.frozen? ⟨g,0,none⟩ = false ∧ w.frozen? ⟨g,1,none⟩ = false ∧ w.frozen? ⟨g,2,none⟩ = false:=⟨(blk_cell x.out 0).trans rfl,(blk_cell x.out 1).trans rfl,(blk_cell x.out 2).trans rfl,blk_frozen x.out 0,blk_frozen x.out 1,blk_frozen x.out 2⟩
theorem cf5_ {t : TypeId} {a0 a1 a2 a3 a4 : Value} (x : Aside0 (w.heap[g]? = some (.cells #[a0,a1,a2,a3,a4] t (0,0)))) : w.cell? ⟨g,0,none⟩ = some a0 ∧ w.cell? ⟨g,1,none⟩ = some a1 ∧ w.cell? ⟨g,2,none⟩ = some a2 ∧ w.cell? ⟨g,3,none⟩ = some a3 ∧ w.cell? ⟨g,4,none⟩ = some a4 ∧ w.frozen? ⟨g,0,none⟩ = false ∧ w.frozen? ⟨g,1,none⟩ = false ∧ w.frozen? ⟨g,2,none⟩ = false ∧ w.frozen? ⟨g,3,none⟩ = false ∧ w.frozen? ⟨g,4,none⟩ = false:=⟨(blk_cell x.out 0).trans rfl,(blk_cell x.out 1).trans rfl,(blk_cell x.out 2).trans rfl,(blk_cell x.out 3).trans rfl,(blk_cell x.out 4).trans rfl,blk_frozen x.out 0,blk_frozen x.out 1,blk_frozen x.out 2,blk_frozen x.out 3,blk_frozen x.out 4⟩
theorem cf6_ {t : TypeId} {a0 a1 a2 a3 a4 a5 : Value} (x : Aside0 (w.heap[g]? = some (.cells #[a0,a1,a2,a3,a4,a5] t (0,0)))) : w.cell? ⟨g,0,none⟩ = some a0 ∧ w.cell? ⟨g,1,none⟩ = some a1 ∧ w.cell? ⟨g,2,none⟩ = some a2 ∧ w.cell? ⟨g,3,none⟩ = some a3 ∧ w.cell? ⟨g,4,none⟩ = some a4 ∧ w.cell? ⟨g,5,none⟩ = some a5 ∧ w.frozen? ⟨g,0,none⟩ = false ∧ w.frozen? ⟨g,1,none⟩ = false ∧ w.frozen? ⟨g,2,none⟩ = false ∧ w.frozen? ⟨g,3,none⟩ = false ∧ w.frozen? ⟨g,4,none⟩ = false ∧ w.frozen? ⟨g,5,none⟩ = false:=⟨(blk_cell x.out 0).trans rfl,(blk_cell x.out 1).trans rfl,(blk_cell x.out 2).trans rfl,(blk_cell x.out 3).trans rfl,(blk_cell x.out 4).trans rfl,(blk_cell x.out 5).trans rfl,blk_frozen x.out 0,blk_frozen x.out 1,blk_frozen x.out 2,blk_frozen x.out 3,blk_frozen x.out 4,blk_frozen x.out 5⟩
end
end Go.Proofs.YtppenppagkfigaaDoorW.PrintWords
