-- Written by shrink.py, a program of this session: what the law needs of the print and its words. Lean checks it.
import Derived.Test.YtlgamjgdkljfiacGreatDoorZPWritePrettiesx0
import Derived.Test.YtlgamjgdkljfiacGreatDoorZShelfWritePretties
import Derived.Lib.Repeat
namespace Go.Proofs.YtlgamjgdkljfiacGreatDoor.PWritePretties
open Go.RowKit Go.Proofs.YtlgamjgdkljfiacGreatDoorW.PrintWords Go.Proofs.YtlgamjgdkljfiacGreatDoorW.PrintLast Go.Proofs.YtlgamjgdkljfiacGreatDoorW.PrintMore
attribute [local go_sem] max2_int min2_int max_two min_two max_three min_three max_four min_four
set_option linter.unusedVariables false
set_option linter.unusedSimpArgs false
def strings_Repeat.f (a0 : ByteArray) (a1 : Int) : Option ByteArray:=if 0 ≤ a1 ∧ a1 ≤ 9223372036854775807 then (if a0.size * a1.toNat ≤ 140737488355328 then some ⟨(Lib.repeatL a0.data.toList a1.toNat).toArray⟩ else none) else none
theorem strings_Repeat.calls (a0 : ByteArray) (a1 : Int) (r : ByteArray) (w : World) (h : strings_Repeat.f a0 a1 = some r) :
  Calls Tryz.prog 20 #[.string a0,.int .i64 a1] w fun e w'=>e = .returned (.string r) ∧ Below w.heap.size w w':=by
 unfold strings_Repeat.f at h
 by_cases h1 : 0 ≤ a1 ∧ a1 ≤ 9223372036854775807
 ·rw [if_pos h1] at h
  by_cases h2 : a0.size * a1.toNat ≤ 140737488355328
  ·rw [if_pos h2] at h
   have h:=Option.some.inj h;subst h;have hc:=Tryz.strings_Repeat a0 a1.toNat w (by omega) h2
   rw [Int.toNat_of_nonneg h1.1] at hc
   exact hc
  rw [if_neg h2] at h
  cases h
 rw [if_neg h1] at h
 cases h
end Go.Proofs.YtlgamjgdkljfiacGreatDoor.PWritePretties
