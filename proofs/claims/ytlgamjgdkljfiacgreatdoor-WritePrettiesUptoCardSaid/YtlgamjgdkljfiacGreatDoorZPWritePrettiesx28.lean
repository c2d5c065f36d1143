-- Written by shrink.py, a program of this session: what the law needs of the print and its words. Lean checks it.
import Derived.Test.YtlgamjgdkljfiacGreatDoorZPWritePrettiesx0
import Derived.Test.YtlgamjgdkljfiacGreatDoorZPWritePrettiesx4
import Derived.Test.YtlgamjgdkljfiacGreatDoorZPWritePrettiesx11
import Derived.Test.YtlgamjgdkljfiacGreatDoorZPWritePrettiesx23
import Derived.Test.YtlgamjgdkljfiacGreatDoorZPWritePrettiesx26
import Derived.Test.YtlgamjgdkljfiacGreatDoorZPWritePrettiesx27
import Derived.Lib.Builder
import Derived.Lib.AppendStr
import Derived.Lib.UnsafeStr
import Derived.Lib.Walk
import Derived.LoopTactic
import Derived.BigCall
import Derived.Lib.Bytealg
namespace Go.Proofs.YtlgamjgdkljfiacGreatDoor.PWritePretties
open Go.RowKit Go.Proofs.YtlgamjgdkljfiacGreatDoorW.PrintWords Go.Proofs.YtlgamjgdkljfiacGreatDoorW.PrintLast Go.Proofs.YtlgamjgdkljfiacGreatDoorW.PrintMore
attribute [local go_sem] max2_int min2_int max_two min_two max_three min_three max_four min_four
set_option linter.unusedVariables false
set_option linter.unusedSimpArgs false
theorem bld_lt {T e : TypeId} {B b : Nat} {bs : List Value} {w : World} (h : Lib.IsBuilder T e B b bs w) : b < w.heap.size:=by
 rcases h with h|h
 ·obtain ⟨_,v,hk,_⟩:=h;exact blk_lt hk
 obtain ⟨_,v,hk,_⟩:=h;exact blk_lt hk
def escB (c : UInt8) : List UInt8 :=
 if 0 ≤ Lib.indexByte [34,92,8,12,10,13,9] c then [92,(bt ⟨#[34,92,98,102,110,114,116]⟩ (Lib.indexByte [34,92,8,12,10,13,9] c)).toNat.toUInt8]
 else if c.toNat < 32 then [92,117,48,48,(48 + c.toNat / 16).toUInt8,(bt ⟨#[48,49,50,51,52,53,54,55,56,57,97,98,99,100,101,102]⟩ ((c.toNat % 16 : Nat) : Int)).toNat.toUInt8]
 else [c]
def escL (l : List UInt8) : List UInt8:=l.flatMap escB
def texts_Escape.f (a0 : ByteArray) : Option (ByteArray × Int):=if a0.size ≤ 1099511627776 then (if 0 ≤ u8Run a0.data.toList 0 0 0 0 then some (⟨#[]⟩,50) else some (⟨(escL a0.data.toList).toArray⟩,0)) else none
theorem escB_len (c : UInt8) : (escB c).length ≤ 6 ∧ 1 ≤ (escB c).length:=by
 unfold escB
 split
 ·exact ⟨by simp,by simp⟩
 split
 ·exact ⟨by simp,by simp⟩
 exact ⟨by simp,by simp⟩
theorem escL_take (l : List UInt8) (m : Nat) (h : m < l.length) : escL (l.take (m + 1)) = escL (l.take m) ++ escB l[m]:=by
 unfold escL
 rw [List.take_succ_eq_append_getElem h,List.flatMap_append]
 simp
theorem escL_le : ∀ l : List UInt8,(escL l).length ≤ 6 * l.length
 | []=>by simp [escL]
 | c :: l=>by
  have:=escL_le l;have h:=(escB_len c).1
  unfold escL at *
  rw [List.flatMap_cons,List.length_append,List.length_cons]
  omega
theorem esc_k (c : UInt8) : Lib.indexByte [34,92,8,12,10,13,9] c < 7:=by
 have h : ∀ n,n < 256 → Lib.indexByte [34,92,8,12,10,13,9] (UInt8.ofNat n) < 7:=by decide +kernel
 have:=h c.toNat c.toNat_lt
 rwa [UInt8.ofNat_toNat] at this
theorem escL_nil (l : List UInt8) (h : escL l = []) : l = []:=by
 cases l with
 | nil=>rfl
 | cons c l =>
  have:=(escB_len c).2
  unfold escL at h
  rw [List.flatMap_cons] at h
  have:=congrArg List.length h
  rw [List.length_append,List.length_nil] at this
  omega
theorem bt_u8 (s : ByteArray) (i : Int) : [Value.int .u8 (bt s i)] = Lib.byteCells [(bt s i).toNat.toUInt8]:=by
 have h:=bt_range s i
 have e : ((bt s i).toNat.toUInt8.toNat : Int) = bt s i:=by
  rw [Nat.toUInt8,UInt8.toNat_ofNat']
  omega
 unfold Lib.byteCells
 rw [List.map_cons,List.map_nil]
 show [Value.int .u8 (bt s i)] = [Value.int .u8 (((bt s i).toNat.toUInt8.toNat : Nat) : Int)]
 rw [e]
theorem bt_nat (s : ByteArray) (n : Nat) (h : n < s.size) : ((s[n]'h).toNat : Int) = bt s (n : Int):=by
 unfold bt
 rw [dif_pos (by rw [Int.toNat_natCast];exact h)];rfl
theorem hi_cell (n : Nat) (h : n < 32) : [Value.int .u8 (48 + (n : Int) / 16)] = Lib.byteCells [(48 + n / 16).toUInt8]:=by
 have e : (((48 + n / 16).toUInt8.toNat : Nat) : Int) = 48 + (n : Int) / 16:=by
  rw [Nat.toUInt8,UInt8.toNat_ofNat']
  omega
 unfold Lib.byteCells
 rw [List.map_cons,List.map_nil]
 show [Value.int .u8 (48 + (n : Int) / 16)] = [Value.int .u8 (((48 + n / 16).toUInt8.toNat : Nat) : Int)]
 rw [e]
set_option maxHeartbeats 4000000 in
set_option maxRecDepth 100000 in
theorem texts_Escape.calls (a0 : ByteArray) (r1 : ByteArray) (r2 : Int) (w : World) (h : texts_Escape.f a0 = some (r1,r2)) :
  Calls Tryz.prog 54 #[.string a0] w fun e w'=>e = .returned (.tuple #[.string r1,.int .i64 r2]) ∧ Below w.heap.size w w':=by
 unfold texts_Escape.f at h
 by_cases hs : a0.size ≤ 1099511627776
 ·rw [if_pos hs] at h
  have hbad : utf8_Bad.f a0 = some (u8Run a0.data.toList 0 0 0 0):=by unfold utf8_Bad.f;rw [if_pos hs]
  have HS:=Aside0.mk hs
  by_cases hb : 0 ≤ u8Run a0.data.toList 0 0 0 0
  ·rw [if_pos hb] at h
   injection h with h
   injection h with h1 h2
   subst h1 h2;have hd : decide (u8Run a0.data.toList 0 0 0 0 ≥ 0) = true:=decide_eq_true hb;clear hb hs;go_enter Tryz.func54,Tryz.ntmps54
   go_wp2_with fail
   refine (utf8_Bad.calls _ _ _ hbad).mono ?_;rintro e w1 ⟨rfl,hb1⟩;go_wp2
   go_ret2
   exact ⟨rfl,hb1⟩
  rw [if_neg hb] at h
  injection h with h
  injection h with h1 h2
  subst h1 h2;have hd : decide (u8Run a0.data.toList 0 0 0 0 ≥ 0) = false:=decide_eq_false hb;clear hb hs;go_enter Tryz.func54,Tryz.ntmps54
  go_wp2_with fail
  refine (utf8_Bad.calls _ _ _ hbad).mono ?_;rintro e w0 ⟨rfl,hb0⟩;have HB0:=Aside0.mk hb0;have hz0:=hb0.size;clear hb0 hbad;go_wp2
  clear hd
  go_loopw [13] (fun i wr=>∃ k : Nat,k ≤ a0.size ∧ i = .int .i64 k ∧ Lib.IsBuilder 45 5 w0.heap.size w0.heap.size (Lib.byteCells (escL (a0.data.toList.take k))) wr ∧ Below w0.heap.size w0 wr ∧ Aside0 (k = 0 → wr.heap[w0.heap.size]? = some (.cells #[.pointer none,.slice none 0 0] 45 (0,0)))) (fun i _=>a0.size - (intOf i).toNat)
  case atStart =>
   exact ⟨0,by omega,rfl,Lib.fresh_isBuilder _ _ w0,(Below.refl _ w0).alloc (Nat.le_refl _) _,⟨fun _=>blk_new w0 _⟩⟩
  case round =>
   obtain ⟨k,hk,rfl,hI,hbw,HF⟩:=hrel;have hsz:=bld_lt hI
   by_cases hlt : k < a0.size
   ·have hkl : k < a0.data.toList.length:=by rw [data_length];exact hlt
    have hq:=escL_le (a0.data.toList.take (k + 1))
    rw [escL_take a0.data.toList k hkl,List.length_append,List.length_take] at hq
    have hlen:=HS.out;have hne : a0.data.toList[k] = a0[k]:=rfl
    rw [hne] at hq
    have hkc:=esc_k a0[k]
    have hu : ((a0[k].toNat : Nat) : Int).toNat.toUInt8 = a0[k]:=by simp
    obtain ⟨K,hK⟩ : ∃ K,K = Lib.indexByte [34,92,8,12,10,13,9] a0[k]:=⟨_,rfl⟩
    rw [← hK] at hkc
    have HQ:=Aside0.mk hq;have HI:=Aside0.mk hI;have HW:=Aside0.mk hbw;clear hq hI hbw HF
    have len0 : (Lib.byteCells (escL (a0.data.toList.take k))).length ≤ 6 * a0.size:=by
     rw [Lib.byteCells_length];have:=escL_le (a0.data.toList.take k)
     rw [List.length_take,data_length] at this
     omega
    go_wp2_with fail
    refine (ix_call _ _ _).mono ?_;rintro e W1 ⟨he,rfl⟩
    have he2 : e = .returned (.int .i64 K):=by rw [he,hu,hK]
    clear he;subst he2;have HK:=Aside0.mk hK;clear hK
    by_cases h1 : 0 ≤ K
    ·have d1 : decide (K ≥ 0) = true:=decide_eq_true h1
     go_wp2_with (go_at_call 55;refine (bld_byte w0.heap.size w0.heap.size _ 92 _ HI.out (by omega) (by omega)).mono ?_)
     rintro e W2 ⟨rfl,g1,b1⟩;have HI2:=Aside0.mk g1;have HW2:=Aside0.mk (HW.out.trans b1);have hsz2:=HW2.out.size;clear g1 b1 d1
     have hl2 : (Lib.byteCells (escL (a0.data.toList.take k)) ++ [Value.int .u8 92]).length + 1 ≤ 140737488355328:=by
      rw [List.length_append,List.length_singleton];omega
     have p1 : (0 ≤ K) = True:=eq_true h1;have p2 : (K < 7) = True:=eq_true hkc
     go_wp2_with fail
     rw [bt_at];refine (bld_byte w0.heap.size w0.heap.size _ _ _ (.inr HI2.out) hl2 hsz2).mono ?_;rintro e W3 ⟨rfl,g1,b1⟩
     have HI3 : Aside0 (Lib.IsBuilder 45 5 w0.heap.size w0.heap.size (Lib.byteCells (escL (a0.data.toList.take (k + 1)))) W3):=by
      refine ⟨.inr ?_⟩
      have e : escB a0.data.toList[k] = [92] ++ [(bt ⟨#[34,92,98,102,110,114,116]⟩ K).toNat.toUInt8]:=by
       unfold escB
       rw [hne,← HK.out,if_pos h1];rfl
      have e92 : Lib.byteCells [92] = [Value.int .u8 92]:=rfl;rw [escL_take a0.data.toList k hkl,e,Lib.byteCells_append,Lib.byteCells_append,← bt_u8,← List.append_assoc,e92];exact g1
     have HW3:=Aside0.mk (HW2.out.trans b1);clear g1 b1 HI2 HI;go_wp2
     go_roundw
     case rel=>exact ⟨k + 1,by omega,by go_num,HI3.out,HW3.out,⟨fun h=>by omega⟩⟩
     case measure=>simp [intOf];omega
    have d1 : decide (K ≥ 0) = false:=decide_eq_false h1
    by_cases h2 : a0[k].toNat < 32
    ·have d2 : decide (((a0[k].toNat : Nat) : Int) < 32) = true:=decide_eq_true (by omega)
     go_wp2_with fail
     refine (bld_string w0.heap.size w0.heap.size _ _ _ HI.out (by show _ + 4 ≤ _;omega) (by omega)).mono ?_;rintro e W2 ⟨rfl,g1,b1⟩;have HI2:=Aside0.mk g1;have HW2:=Aside0.mk (HW.out.trans b1);have hsz2:=HW2.out.size;clear g1 b1
     have hl3 : (Lib.byteCells (escL (a0.data.toList.take k)) ++ Lib.strCells ⟨#[92,117,48,48]⟩).length + 1 ≤ 140737488355328:=by
      rw [List.length_append,Lib.strCells_length];show _ + 4 + 1 ≤ _;omega
     go_wp2_with fail
     refine (bld_byte w0.heap.size w0.heap.size _ _ _ (.inr HI2.out) hl3 hsz2).mono ?_;rintro e W4 ⟨rfl,g1,b1⟩;have HI4:=Aside0.mk g1;have HW4:=Aside0.mk (HW2.out.trans b1);have hsz4:=HW4.out.size
     have hl4 : (Lib.byteCells (escL (a0.data.toList.take k)) ++ Lib.strCells ⟨#[92,117,48,48]⟩ ++ [Value.int .u8 (48 + ((a0[k].toNat : Nat) : Int) / 16)]).length + 1 ≤ 140737488355328:=by
      rw [List.length_append,List.length_append,Lib.strCells_length,List.length_singleton];show _ + 4 + 1 + 1 ≤ _;omega
     clear g1 b1
     go_wp2_with fail
     rw [bt_nat];refine (bld_byte w0.heap.size w0.heap.size _ _ _ (.inr HI4.out) hl4 hsz4).mono ?_;rintro e W3 ⟨rfl,g1,b1⟩
     have HI3 : Aside0 (Lib.IsBuilder 45 5 w0.heap.size w0.heap.size (Lib.byteCells (escL (a0.data.toList.take (k + 1)))) W3):=by
      refine ⟨.inr ?_⟩
      have e : escB a0.data.toList[k] = [92,117,48,48] ++ [(48 + a0[k].toNat / 16).toUInt8] ++ [(bt ⟨#[48,49,50,51,52,53,54,55,56,57,97,98,99,100,101,102]⟩ ((a0[k].toNat % 16 : Nat) : Int)).toNat.toUInt8]:=by
       unfold escB
       rw [hne,← HK.out,if_neg (by omega),if_pos h2];rfl
      have e4 : Lib.byteCells [92,117,48,48] = Lib.strCells ⟨#[92,117,48,48]⟩:=rfl;rw [escL_take a0.data.toList k hkl,e,Lib.byteCells_append,Lib.byteCells_append,Lib.byteCells_append,e4,← hi_cell _ h2,← bt_u8,← List.append_assoc,← List.append_assoc];exact g1
     have HW3:=Aside0.mk (HW4.out.trans b1);clear g1 b1 HI HI2 HI4;go_wp2
     go_roundw
     case rel=>exact ⟨k + 1,by omega,by go_num,HI3.out,HW3.out,⟨fun h=>by omega⟩⟩
     case measure=>simp [intOf];omega
    have d2 : decide (((a0[k].toNat : Nat) : Int) < 32) = false:=decide_eq_false (by omega)
    go_wp2_with fail
    refine (bld_byte w0.heap.size w0.heap.size _ _ _ HI.out (by omega) (by omega)).mono ?_;rintro e W3 ⟨rfl,g1,b1⟩
    have HI3 : Aside0 (Lib.IsBuilder 45 5 w0.heap.size w0.heap.size (Lib.byteCells (escL (a0.data.toList.take (k + 1)))) W3):=by
     refine ⟨.inr ?_⟩
     have e : escB a0.data.toList[k] = [a0[k]]:=by
      unfold escB
      rw [hne,← HK.out,if_neg (by omega),if_neg h2]
     have e1 : Lib.byteCells [a0[k]] = [Value.int .u8 ((a0[k].toNat : Nat) : Int)]:=rfl;rw [escL_take a0.data.toList k hkl,e,Lib.byteCells_append,e1];exact g1
    have HW3:=Aside0.mk (HW.out.trans b1);clear g1 b1 HI;go_wp2
    go_roundw
    case rel=>exact ⟨k + 1,by omega,by go_num,HI3.out,HW3.out,⟨fun h=>by omega⟩⟩
    case measure=>simp [intOf];omega
   have hke : k = a0.size:=by omega
   have e1 : a0.data.toList.take k = a0.data.toList:=List.take_of_length_le (by rw [data_length];omega)
   rw [e1] at hI
   clear e1
   by_cases hnil : a0.data.toList = []
   ·have hk0 : k = 0:=by have:=data_length a0;rw [hnil] at this;simp at this;omega
    have hbk:=HF.out hk0;have HN:=Aside0.mk hnil;clear hk0 hnil HF hI
    go_wp2_with (go_at_call 22;refine (bld_text_nil w0.heap.size w0.heap.size _ _ hbk).mono ?_)
    rintro e W1 ⟨rfl,b1⟩;go_wp2
    go_ret2
    exact ⟨by rw [HN.out];rfl,(HB0.out).trans ((hbw.trans b1).mono hz0)⟩
   have hnn : escL a0.data.toList ≠ []:=fun h=>hnil (escL_nil _ h)
   clear hnil HF
   go_wp2_with (go_at_call 22;refine (bld_text w0.heap.size w0.heap.size _ _ hI hnn).mono ?_)
   rintro e W1 ⟨rfl,b1⟩;go_wp2
   go_ret2
   exact ⟨rfl,(HB0.out).trans ((hbw.trans b1).mono hz0)⟩
 rw [if_neg hs] at h
 exact absurd h (by simp)
end Go.Proofs.YtlgamjgdkljfiacGreatDoor.PWritePretties
