-- Written by shrink.py, a program of this session: what the law needs of the print and its words. Lean checks it.
import Derived.Test.YtijmdmnhbbcahaaProg
import Derived.Below
import Derived.Deep.Draws
import Derived.Deep.AppendLies
import Derived.Maps.AppendAt
import Derived.OwnWalk
import Derived.Laws.BytesArg
import Derived.Laws.MakeOwn
import Derived.Laws.OwnMore
import Derived.Deep.OwnRows
import Derived.Tactics
import Derived.Lib.ConvBytes
import Derived.Laws.Slices
import Derived.WalkKit
import Derived.KernelRfl
import Derived.RowKit3
import Derived.Deep.LoopGhost
import Derived.Deep.QuietTactic
import Derived.BigQuiet
import Derived.WideLaws
import Derived.Deep.DeepCutAuto
import Derived.Deep.CutBlock
import Derived.Deep.RegionHeld3
import Derived.Laws.Rows
import Derived.Lib.AppendStr
import Derived.ArgAppend
import Derived.Laws.IdiomCopy
import Derived.OrdersHeld
import Derived.Laws.BitsLemmas
import Derived.RowKit
import Derived.Test.YtijmdmnhbbcahaaZTallySpreadsW1
namespace Go.Proofs.Ytijmdmnhbbcahaa.PTallySpreads
open Go.RowKit Go.Proofs.YtijmdmnhbbcahaaW.PrintWords Go.Proofs.YtijmdmnhbbcahaaW.PrintLast Go.Proofs.YtijmdmnhbbcahaaW.PrintMore
attribute [local go_sem] run_fadd run_fsub run_fmul run_fquo unary_fneg run_store_f64 run_store_c128 run_cadd
attribute [local go_sem] max2_int min2_int max_two min_two max_three min_three max_four min_four
set_option linter.unusedVariables false
set_option linter.unusedSimpArgs false
def errW : Option Int → Value
 | none=>.nilIface
 | some c=>.iface 0 (.int .i64 c)
theorem errW_none : errW none = .nilIface:=rfl
theorem errW_some (c : Int) : errW (some c) = .iface 0 (.int .i64 c):=rfl
theorem er_ {P : Prop} (h : P:=by first|rfl|(rw [px_ne];rfl)|(simp [errW_none,errW_some] <;> rfl)|(simp [*,errW_some,errW_none] <;> rfl)) : P:=h
structure S26 where
 f0 : Int
 f1 : Nat
 f2 : Nat
 f3 : Nat
 f4 : Nat
 f5 : Nat
 f6 : Nat
def k26 : Kd S26:=Kd.iso (Kd.pair (Kd.int .i64) (Kd.pair Kd.f64 (Kd.pair Kd.f64 (Kd.pair Kd.f64 (Kd.pair Kd.f64 (Kd.pair Kd.f64 Kd.f64)))))) (fun x : S26=>(x.f0,x.f1,x.f2,x.f3,x.f4,x.f5,x.f6))
theorem k26_open {w : World} {x : S26} {cs : List Value} (h : k26.K w x cs) : cs = [.int .i64 x.f0,.float .f64 x.f1,.float .f64 x.f2,.float .f64 x.f3,.float .f64 x.f4,.float .f64 x.f5,.float .f64 x.f6]:=by
 obtain ⟨_,_,rfl,rfl,⟨_,_,rfl,rfl,⟨_,_,rfl,rfl,⟨_,_,rfl,rfl,⟨_,_,rfl,rfl,⟨_,_,rfl,rfl,rfl⟩⟩⟩⟩⟩⟩:=h
 exact rfl
theorem k26_mk (w : World) (x : S26)  : k26.K w x [.int .i64 x.f0,.float .f64 x.f1,.float .f64 x.f2,.float .f64 x.f3,.float .f64 x.f4,.float .f64 x.f5,.float .f64 x.f6]:=⟨[.int .i64 x.f0],[.float .f64 x.f1,.float .f64 x.f2,.float .f64 x.f3,.float .f64 x.f4,.float .f64 x.f5,.float .f64 x.f6],rfl,rfl,⟨[.float .f64 x.f1],[.float .f64 x.f2,.float .f64 x.f3,.float .f64 x.f4,.float .f64 x.f5,.float .f64 x.f6],rfl,rfl,⟨[.float .f64 x.f2],[.float .f64 x.f3,.float .f64 x.f4,.float .f64 x.f5,.float .f64 x.f6],rfl,rfl,⟨[.float .f64 x.f3],[.float .f64 x.f4,.float .f64 x.f5,.float .f64 x.f6],rfl,rfl,⟨[.float .f64 x.f4],[.float .f64 x.f5,.float .f64 x.f6],rfl,rfl,⟨[.float .f64 x.f5],[.float .f64 x.f6],rfl,rfl,rfl⟩⟩⟩⟩⟩⟩
end Go.Proofs.Ytijmdmnhbbcahaa.PTallySpreads
