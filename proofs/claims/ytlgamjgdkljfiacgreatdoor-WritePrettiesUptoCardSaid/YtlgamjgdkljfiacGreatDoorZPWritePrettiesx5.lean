-- Written by shrink.py, a program of this session: what the law needs of the print and its words. Lean checks it.
import Derived.Test.YtlgamjgdkljfiacGreatDoorZPWritePrettiesx0
import Derived.Test.YtlgamjgdkljfiacGreatDoorZPWritePrettiesx4
namespace Go.Proofs.YtlgamjgdkljfiacGreatDoor.PWritePretties
open Go.RowKit Go.Proofs.YtlgamjgdkljfiacGreatDoorW.PrintWords Go.Proofs.YtlgamjgdkljfiacGreatDoorW.PrintLast Go.Proofs.YtlgamjgdkljfiacGreatDoorW.PrintMore
attribute [local go_sem] max2_int min2_int max_two min_two max_three min_three max_four min_four
set_option linter.unusedVariables false
set_option linter.unusedSimpArgs false
def IsS115 (w0 W : World) (g : Nat) (f0 : ByteArray) (f1 : Int) (f2 : Bool) (f3 : List Int) (f4 : Int) (f5 : Int) : Prop:=∃ A3 c3,W.heap[g]? = some (.cells #[.string f0,.int .i64 f1,.bool f2,.slice A3 f3.length c3,.int .i64 f4,.int .i64 f5] 115 (0,0)) ∧ w0.heap.size ≤ g ∧ Kd.C (Kd.int .u8) w0 A3 f3.length f3
theorem IsS115.grown {w0 W : World} {g : Nat} {f0 : ByteArray} {f1 : Int} {f2 : Bool} {f3 : List Int} {f4 : Int} {f5 : Int} {W1 : World} {row : Option Nat} (h : IsS115 w0 W g f0 f1 f2 f3 f4 f5) (hw : W.grownBy W1 row) (hne : some g ≠ row) : IsS115 w0 W1 g f0 f1 f2 f3 f4 f5:=by
 obtain ⟨A3,c3,hb,hg,hr3⟩:=h;exact ⟨A3,c3,blk_grown hb hw hne,hg,hr3⟩
theorem IsS115.kept {w0 W : World} {g : Nat} {f0 : ByteArray} {f1 : Int} {f2 : Bool} {f3 : List Int} {f4 : Int} {f5 : Int} {W1 : World} {S : Nat → Prop} (h : IsS115 w0 W g f0 f1 f2 f3 f4 f5) (hk : Kept W W1 S) (hne : ¬ S g) : IsS115 w0 W1 g f0 f1 f2 f3 f4 f5:=by
 obtain ⟨A3,c3,hb,hg,hr3⟩:=h;exact ⟨A3,c3,blk_kept hb hk hne,hg,hr3⟩
theorem IsS115.below {w0 W : World} {g : Nat} {f0 : ByteArray} {f1 : Int} {f2 : Bool} {f3 : List Int} {f4 : Int} {f5 : Int} {W1 : World} (h : IsS115 w0 W g f0 f1 f2 f3 f4 f5) (hw : Below W.heap.size W W1) : IsS115 w0 W1 g f0 f1 f2 f3 f4 f5:=h.grown (grown_of_below hw none) (by simp)
theorem IsS115.alloc {w0 W : World} {g : Nat} {f0 : ByteArray} {f1 : Int} {f2 : Bool} {f3 : List Int} {f4 : Int} {f5 : Int} (h : IsS115 w0 W g f0 f1 f2 f3 f4 f5) (o : Obj) : IsS115 w0 (W.alloc o) g f0 f1 f2 f3 f4 f5:=h.below (below_alloc (Below.refl _ _) o)
theorem IsS115.drewN {w0 W : World} {g : Nat} {f0 : ByteArray} {f1 : Int} {f2 : Bool} {f3 : List Int} {f4 : Int} {f5 : Int} (h : IsS115 w0 W g f0 f1 f2 f3 f4 f5) (m : Nat) : IsS115 w0 (W.drewN m) g f0 f1 f2 f3 f4 f5:=h
theorem IsS115.drew {w0 W : World} {g : Nat} {f0 : ByteArray} {f1 : Int} {f2 : Bool} {f3 : List Int} {f4 : Int} {f5 : Int} (h : IsS115 w0 W g f0 f1 f2 f3 f4 f5) : IsS115 w0 W.drew g f0 f1 f2 f3 f4 f5:=h
theorem IsS115.at_ {w0 W : World} {g : Nat} {f0 : ByteArray} {f1 : Int} {f2 : Bool} {f3 : List Int} {f4 : Int} {f5 : Int} {w' : World} {m : Nat} (hq : W.drewN m = w') (h : IsS115 w0 W g f0 f1 f2 f3 f4 f5) : IsS115 w0 w' g f0 f1 f2 f3 f4 f5:=by subst hq;exact IsS115.drewN h m
theorem IsS115.apart {w0 W : World} {g : Nat} {f0 : ByteArray} {f1 : Int} {f2 : Bool} {f3 : List Int} {f4 : Int} {f5 : Int} {α : Type} {d : Kd α} {e : Nat} {base : Nat} {ok : Nat → Prop} {v : Value} {xs : List α} (h : IsS115 w0 W g f0 f1 f2 f3 f4 f5) (ho : d.R e W base ok v xs) (ht : ∀ q,q ∈ e :: d.E → q ≠ 115) : d.R e W base (fun k=>ok k ∧ k ≠ g) v xs:=by
 obtain ⟨A3,c3,hb,hg,hr3⟩:=h;exact Kd.R_types ho hb ht
theorem IsS115.own_ne {w0 W : World} {g : Nat} {f0 : ByteArray} {f1 : Int} {f2 : Bool} {f3 : List Int} {f4 : Int} {f5 : Int} {α : Type} {d : Kd α} {e : Nat} {base : Nat} {ok : Nat → Prop} {v : Value} {xs : List α} (h : IsS115 w0 W g f0 f1 f2 f3 f4 f5) (ho : d.R e W base ok v xs) (ht : e ≠ 115) : some g ≠ v.ownBlock:=by
 obtain ⟨A3,c3,hb,hg,hr3⟩:=h;exact Kd.R_ne ho hb ht
theorem IsS115.lt {w0 W : World} {g : Nat} {f0 : ByteArray} {f1 : Int} {f2 : Bool} {f3 : List Int} {f4 : Int} {f5 : Int} (h : IsS115 w0 W g f0 f1 f2 f3 f4 f5) : g < W.heap.size:=by
 obtain ⟨A3,c3,hb,hg,hr3⟩:=h;exact blk_lt hb
end Go.Proofs.YtlgamjgdkljfiacGreatDoor.PWritePretties
