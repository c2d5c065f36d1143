-- Written by shrink.py, a program of this session: what the law needs of the print and its words. Lean checks it.
import Derived.Test.YtlgamjgdkljfiabGreatDoorZPWriteCompactsx0
import Derived.Test.YtlgamjgdkljfiabGreatDoorZPWriteCompactsx3
namespace Go.Proofs.YtlgamjgdkljfiabGreatDoor.PWriteCompacts
open Go.RowKit Go.Proofs.YtlgamjgdkljfiabGreatDoorW.PrintWords Go.Proofs.YtlgamjgdkljfiabGreatDoorW.PrintLast Go.Proofs.YtlgamjgdkljfiabGreatDoorW.PrintMore
attribute [local go_sem] max2_int min2_int max_two min_two max_three min_three max_four min_four
set_option linter.unusedVariables false
set_option linter.unusedSimpArgs false
def IsS105 (w0 W : World) (g : Nat) (f0 : ByteArray) (f1 : Int) (f2 : Bool) (f3 : List Int) (f4 : Int) (f5 : Int) : Prop:=∃ A3 c3,W.heap[g]? = some (.cells #[.string f0,.int .i64 f1,.bool f2,.slice A3 f3.length c3,.int .i64 f4,.int .i64 f5] 105 (0,0)) ∧ w0.heap.size ≤ g ∧ Kd.C (Kd.int .u8) w0 A3 f3.length f3
theorem IsS105.grown {w0 W : World} {g : Nat} {f0 : ByteArray} {f1 : Int} {f2 : Bool} {f3 : List Int} {f4 : Int} {f5 : Int} {W1 : World} {row : Option Nat} (h : IsS105 w0 W g f0 f1 f2 f3 f4 f5) (hw : W.grownBy W1 row) (hne : some g ≠ row) : IsS105 w0 W1 g f0 f1 f2 f3 f4 f5:=by
 obtain ⟨A3,c3,hb,hg,hr3⟩:=h;exact ⟨A3,c3,blk_grown hb hw hne,hg,hr3⟩
theorem IsS105.kept {w0 W : World} {g : Nat} {f0 : ByteArray} {f1 : Int} {f2 : Bool} {f3 : List Int} {f4 : Int} {f5 : Int} {W1 : World} {S : Nat → Prop} (h : IsS105 w0 W g f0 f1 f2 f3 f4 f5) (hk : Kept W W1 S) (hne : ¬ S g) : IsS105 w0 W1 g f0 f1 f2 f3 f4 f5:=by
 obtain ⟨A3,c3,hb,hg,hr3⟩:=h;exact ⟨A3,c3,blk_kept hb hk hne,hg,hr3⟩
theorem IsS105.below {w0 W : World} {g : Nat} {f0 : ByteArray} {f1 : Int} {f2 : Bool} {f3 : List Int} {f4 : Int} {f5 : Int} {W1 : World} (h : IsS105 w0 W g f0 f1 f2 f3 f4 f5) (hw : Below W.heap.size W W1) : IsS105 w0 W1 g f0 f1 f2 f3 f4 f5:=h.grown (grown_of_below hw none) (by simp)
theorem IsS105.alloc {w0 W : World} {g : Nat} {f0 : ByteArray} {f1 : Int} {f2 : Bool} {f3 : List Int} {f4 : Int} {f5 : Int} (h : IsS105 w0 W g f0 f1 f2 f3 f4 f5) (o : Obj) : IsS105 w0 (W.alloc o) g f0 f1 f2 f3 f4 f5:=h.below (below_alloc (Below.refl _ _) o)
theorem IsS105.drewN {w0 W : World} {g : Nat} {f0 : ByteArray} {f1 : Int} {f2 : Bool} {f3 : List Int} {f4 : Int} {f5 : Int} (h : IsS105 w0 W g f0 f1 f2 f3 f4 f5) (m : Nat) : IsS105 w0 (W.drewN m) g f0 f1 f2 f3 f4 f5:=h
theorem IsS105.drew {w0 W : World} {g : Nat} {f0 : ByteArray} {f1 : Int} {f2 : Bool} {f3 : List Int} {f4 : Int} {f5 : Int} (h : IsS105 w0 W g f0 f1 f2 f3 f4 f5) : IsS105 w0 W.drew g f0 f1 f2 f3 f4 f5:=h
theorem IsS105.at_ {w0 W : World} {g : Nat} {f0 : ByteArray} {f1 : Int} {f2 : Bool} {f3 : List Int} {f4 : Int} {f5 : Int} {w' : World} {m : Nat} (hq : W.drewN m = w') (h : IsS105 w0 W g f0 f1 f2 f3 f4 f5) : IsS105 w0 w' g f0 f1 f2 f3 f4 f5:=by subst hq;exact IsS105.drewN h m
theorem IsS105.apart {w0 W : World} {g : Nat} {f0 : ByteArray} {f1 : Int} {f2 : Bool} {f3 : List Int} {f4 : Int} {f5 : Int} {α : Type} {d : Kd α} {e : Nat} {base : Nat} {ok : Nat → Prop} {v : Value} {xs : List α} (h : IsS105 w0 W g f0 f1 f2 f3 f4 f5) (ho : d.R e W base ok v xs) (ht : ∀ q,q ∈ e :: d.E → q ≠ 105) : d.R e W base (fun k=>ok k ∧ k ≠ g) v xs:=by
 obtain ⟨A3,c3,hb,hg,hr3⟩:=h;exact Kd.R_types ho hb ht
theorem IsS105.own_ne {w0 W : World} {g : Nat} {f0 : ByteArray} {f1 : Int} {f2 : Bool} {f3 : List Int} {f4 : Int} {f5 : Int} {α : Type} {d : Kd α} {e : Nat} {base : Nat} {ok : Nat → Prop} {v : Value} {xs : List α} (h : IsS105 w0 W g f0 f1 f2 f3 f4 f5) (ho : d.R e W base ok v xs) (ht : e ≠ 105) : some g ≠ v.ownBlock:=by
 obtain ⟨A3,c3,hb,hg,hr3⟩:=h;exact Kd.R_ne ho hb ht
theorem IsS105.lt {w0 W : World} {g : Nat} {f0 : ByteArray} {f1 : Int} {f2 : Bool} {f3 : List Int} {f4 : Int} {f5 : Int} (h : IsS105 w0 W g f0 f1 f2 f3 f4 f5) : g < W.heap.size:=by
 obtain ⟨A3,c3,hb,hg,hr3⟩:=h;exact blk_lt hb
end Go.Proofs.YtlgamjgdkljfiabGreatDoor.PWriteCompacts
