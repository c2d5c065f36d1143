-- Written by shrink.py, a program of this session: what the law needs of the print and its words. Lean checks it.
import Derived.Test.YtlgamjgdkljfiacGreatDoorZPWritePrettiesx0
import Derived.Test.YtlgamjgdkljfiacGreatDoorZPWritePrettiesx11
import Derived.WalkMore
import Derived.Deep.QuietTactic
import Derived.BigQuiet
namespace Go.Proofs.YtlgamjgdkljfiacGreatDoor.PWritePretties
open Go.RowKit Go.Proofs.YtlgamjgdkljfiacGreatDoorW.PrintWords Go.Proofs.YtlgamjgdkljfiacGreatDoorW.PrintLast Go.Proofs.YtlgamjgdkljfiacGreatDoorW.PrintMore
attribute [local go_sem] max2_int min2_int max_two min_two max_three min_three max_four min_four
set_option linter.unusedVariables false
set_option linter.unusedSimpArgs false
def badB (s : ByteArray) : Bool:=decide (0 ≤ u8Run s.data.toList 0 0 0 0)
set_option maxHeartbeats 4000000 in
theorem bad_name (s : ByteArray) (w : World) (hs : s.size ≤ 1099511627776) :
  Calls Tryz.prog 67 #[.string s] w fun e w'=>e = .returned (.bool (badB s)) ∧ Below w.heap.size w w':=by
 have hb : utf8_Bad.f s = some (u8Run s.data.toList 0 0 0 0):=by unfold utf8_Bad.f;rw [if_pos hs]
 have HB:=Aside0.mk hb;have he : decide (0 ≤ u8Run s.data.toList 0 0 0 0) = badB s:=rfl;clear hb;go_enter Tryz.func67,Tryz.ntmps67
 go_wp2_with (go_at_call 66;refine (utf8_Bad.calls s _ _ HB.out).mono ?_;rintro e w1 ⟨rfl,hb1⟩;have HW:=Aside0.mk hb1;clear hb1)
 go_ret;exact ⟨by first|rfl|(rw [he])|simp [badB],HW.out⟩
def findBad : List ByteArray → Nat → Int
 | [],_=>-1
 | s :: r,k=>if badB s = true then (k : Int) else findBad r (k + 1)
theorem findBad_any : ∀ (l : List ByteArray) (k : Nat),decide (0 ≤ findBad l k) = l.any badB
 | [],k=>rfl
 | s :: r,k=>by
  rw [findBad,List.any_cons]
  cases h : badB s with
  | true=>simp
  | false=>simpa using findBad_any r (k + 1)
set_option maxHeartbeats 4000000 in
theorem bad_index (A : Option Addr) (c : Nat) (l : List ByteArray) (w : World) (hr : Kd.C Kd.string w A l.length l) (hc : l.length ≤ c) (hall : ∀ s ∈ l,s.size ≤ 1099511627776) :
  Calls Tryz.prog 91 #[.slice A l.length c,.func (.func 67) #[] #[]] w fun e w'=>e = .returned (.int .i64 (findBad l 0)) ∧ Below w.heap.size w w':=by
 have HR:=Aside0.mk hr;have HA:=Aside0.mk hall;clear hr hall;go_enter Tryz.func91,Tryz.ntmps91
 go_wp2_with fail
 go_loopw [8] (fun i wr=>∃ k : Nat,k ≤ l.length ∧ i = .int .i64 k ∧ findBad (l.drop k) k = findBad l 0 ∧ Below w.heap.size w wr) (fun i _=>l.length - (intOf i).toNat)
 case atStart=>exact ⟨0,Nat.zero_le _,rfl,rfl,Below.refl _ _⟩
 case round =>
  obtain ⟨k,hk,rfl,hf,hb⟩:=hrel;have HF:=Aside0.mk hf;have HB:=Aside0.mk hb;clear hf
  by_cases hlt : k < l.length
  ·have hmx:=Kd.C_max HR.out;obtain ⟨ad,rfl,hcell⟩:=Kd.at_string (Kd.C_below HR.out hb) (k : Int) (by omega) (by omega)
   have hrd : rdOf ByteArray.empty l (k : Int) = l[k]:=by unfold rdOf;simp [hlt]
   rw [hrd,Int.toNat_natCast] at hcell
   have hsz:=HA.out l[k] (List.getElem_mem hlt);have hdr : l.drop k = l[k] :: l.drop (k + 1):=List.drop_eq_getElem_cons hlt;have HD:=Aside0.mk hdr;have HZ:=Aside0.mk hsz;clear hb hrd hsz hdr
   cases hbad : badB l[k] with
   | true =>
    have HX:=Aside0.mk hbad
    go_wp2_with fail
    refine (bad_name l[k] wr HZ.out).mono ?_;rintro e w1 ⟨rfl,hb1⟩;have HB1:=Aside0.mk (below_step HB.out hb1);clear hb1 hcell;go_wp2
    go_ret;refine ⟨?_,HB1.out⟩
    have e1 : findBad l 0 = (k : Int):=by rw [← HF.out,HD.out,findBad,if_pos HX.out]
    exact congrArg (fun z=>Ending.returned (.int .i64 z)) e1.symm
   | false =>
    have HX:=Aside0.mk hbad
    go_wp2_with fail
    refine (bad_name l[k] wr HZ.out).mono ?_;rintro e w1 ⟨rfl,hb1⟩;have HB1:=Aside0.mk (below_step HB.out hb1);clear hb1 hcell;go_wp2
    go_roundw
    case rel=>exact ⟨k + 1,by omega,by go_num,by rw [← HF.out,HD.out,findBad,if_neg (by rw [HX.out];decide)],HB1.out⟩
    case measure=>simp [intOf];omega
  have hke : k = l.length:=by omega
  have e1 : findBad l 0 = -1:=by rw [← HF.out,hke,List.drop_length];rfl
  have HE:=Aside0.mk e1;clear hb hke e1;go_wp2
  go_ret;exact ⟨congrArg (fun z=>Ending.returned (.int .i64 z)) HE.out.symm,HB.out⟩
set_option maxHeartbeats 4000000 in
theorem bad_contains (A : Option Addr) (c : Nat) (l : List ByteArray) (w : World) (hr : Kd.C Kd.string w A l.length l) (hc : l.length ≤ c) (hall : ∀ s ∈ l,s.size ≤ 1099511627776) :
  Calls Tryz.prog 68 #[.slice A l.length c,.func (.func 67) #[] #[]] w fun e w'=>e = .returned (.bool (l.any badB)) ∧ Below w.heap.size w w':=by
 have HR:=Aside0.mk hr;have HA:=Aside0.mk hall;have he:=findBad_any l 0;clear hr hall;go_enter Tryz.func68,Tryz.ntmps68
 go_wp2_with (go_at_call 91;refine (bad_index A c l _ HR.out hc HA.out).mono ?_;rintro e w1 ⟨rfl,hb1⟩;have HW:=Aside0.mk hb1;clear hb1)
 go_ret;exact ⟨by first|rfl|(rw [he]),HW.out⟩
end Go.Proofs.YtlgamjgdkljfiacGreatDoor.PWritePretties
