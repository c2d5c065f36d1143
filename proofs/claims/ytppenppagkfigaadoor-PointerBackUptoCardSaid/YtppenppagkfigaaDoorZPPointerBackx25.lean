-- Written by shrink.py, a program of this session: what the law needs of the print and its words. Lean checks it.
import Derived.Test.YtppenppagkfigaaDoorZPPointerBackx0
import Derived.Test.YtppenppagkfigaaDoorZPPointerBackx21
import Derived.Test.YtppenppagkfigaaDoorZPPointerBackx22
import Derived.Test.YtppenppagkfigaaDoorZPPointerBackx23
import Derived.Test.YtppenppagkfigaaDoorZPPointerBackx24
import Derived.Lib.Builder
import Derived.Lib.AppendStr
import Derived.Lib.UnsafeStr
import Derived.Lib.Walk
import Derived.LoopTactic
import Derived.BigCall
namespace Go.Proofs.YtppenppagkfigaaDoor.PPointerBack
open Go.RowKit Go.Proofs.YtppenppagkfigaaDoorW.PrintWords Go.Proofs.YtppenppagkfigaaDoorW.PrintLast Go.Proofs.YtppenppagkfigaaDoorW.PrintMore
attribute [local go_sem] max2_int min2_int max_two min_two max_three min_three max_four min_four
set_option linter.unusedVariables false
set_option linter.unusedSimpArgs false
def escV (c : UInt8) : List UInt8:=if c = 47 then [126,49] else if c = 126 then [126,48] else [c]
def nameV (l : List UInt8) : List UInt8:=l.flatMap escV
def printV (l : List ByteArray) : List UInt8:=l.flatMap fun s=>47 :: nameV s.data.toList
def pointer_Print.f (l0 : List ByteArray) : Option ByteArray:=if (printV l0).length ≤ 140737488355328 then some ⟨(printV l0).toArray⟩ else none
theorem esc_eq (c : UInt8) : pointer_escaped.f (c.toNat : Int) = some ⟨(escV c).toArray⟩:=by
 unfold pointer_escaped.f escV
 by_cases h1 : c = 47
 ·subst h1;rfl
 ·by_cases h2 : c = 126
  ·subst h2;rfl
  ·have e1 : ¬ ((c.toNat : Int) = 47):=fun h=>h1 (UInt8.toNat_inj.mp (by show c.toNat = 47;omega))
   have e2 : ¬ ((c.toNat : Int) = 126):=fun h=>h2 (UInt8.toNat_inj.mp (by show c.toNat = 126;omega))
   rw [if_neg e1,if_neg e2,if_neg h1,if_neg h2]
   simp [strOfNums]
theorem bld_below {T e : TypeId} {B b : Nat} {bs : List Value} {w w' : World} (h : Lib.IsBuilder T e B b bs w) (hb : Below w.heap.size w w') : Lib.IsBuilder T e B b bs w':=by
 have one : ∀ p,Lib.BuilderAt T e B b p bs w → Lib.BuilderAt T e B b p bs w':=by
  rintro p ⟨hB,v,hk,ho,hne⟩
  exact ⟨hB,v,blk_below hk hb,own_move ho (fun k hk=>hb.block k (own_lt ho k hk)),hne⟩
 rcases h with h|h
 ·exact .inl (one _ h)
 ·exact .inr (one _ h)
theorem bld_lt {T e : TypeId} {B b : Nat} {bs : List Value} {w : World} (h : Lib.IsBuilder T e B b bs w) : b < w.heap.size:=by
 rcases h with h|h
 ·obtain ⟨_,v,hk,_⟩:=h
  exact blk_lt hk
 ·obtain ⟨_,v,hk,_⟩:=h
  exact blk_lt hk
theorem printV_take (l : List ByteArray) (k : Nat) (h : k < l.length) : printV (l.take (k + 1)) = printV (l.take k) ++ 47 :: nameV (rdOf ByteArray.empty l (k : Int)).data.toList:=by
 unfold printV
 rw [List.take_succ_eq_append_getElem h,List.flatMap_append]
 simp [rdOf,List.getD_eq_getElem?_getD,List.getElem?_eq_getElem h]
theorem nameV_take (l : List UInt8) (m : Nat) (h : m < l.length) : nameV (l.take (m + 1)) = nameV (l.take m) ++ escV l[m]:=by
 unfold nameV
 rw [List.take_succ_eq_append_getElem h,List.flatMap_append]
 simp
theorem nameV_le (l : List UInt8) (m : Nat) : (nameV (l.take m)).length ≤ (nameV l).length:=by
 have h:=congrArg List.length (congrArg nameV (List.take_append_drop m l))
 unfold nameV at *
 rw [List.flatMap_append,List.length_append] at h
 omega
theorem nameV_ge (l : List UInt8) : l.length ≤ (nameV l).length:=by
 induction l with
 | nil=>simp [nameV]
 | cons c l ih =>
  unfold nameV at *
  rw [List.flatMap_cons,List.length_append,List.length_cons]
  have : 1 ≤ (escV c).length:=by unfold escV;split <;> (try split) <;> simp
  omega
theorem printV_nil (l : List ByteArray) (h : printV l = []) : l.length = 0:=by
 cases l with
 | nil=>rfl
 | cons s l=>simp [printV] at h
theorem printV_le (l : List ByteArray) (k : Nat) : (printV (l.take k)).length ≤ (printV l).length:=by
 have h:=congrArg List.length (congrArg printV (List.take_append_drop k l))
 unfold printV at *
 rw [List.flatMap_append,List.length_append] at h
 omega
set_option maxHeartbeats 2000000 in
set_option maxRecDepth 100000 in
theorem pointer_Print.calls (A0 : Option Addr) (c0 : Nat) (l0 : List ByteArray) (r : ByteArray) (w : World) (hr0 : Kd.C Kd.string w A0 l0.length l0) (hc0 : l0.length ≤ c0) (h : pointer_Print.f l0 = some r) :
  Calls Tryd.prog 16 #[.slice A0 l0.length c0] w fun e w'=>e = .returned (.string r) ∧ Below w.heap.size w w':=by
 unfold pointer_Print.f at h
 by_cases hl : (printV l0).length ≤ 140737488355328
 ·rw [if_pos hl] at h
  injection h with h
  subst h
  have HL:=Aside0.mk hl
  have HR0:=Aside0.mk hr0
  have hm0:=hr0.2.1
  clear hr0 hl
  go_enter Tryd.func16,Tryd.ntmps16
  go_wp2
  go_loopw [9] (fun i wr=>∃ k : Nat,k ≤ l0.length ∧ i = .int .i64 k ∧ Lib.IsBuilder 57 5 w.heap.size w.heap.size (Lib.byteCells (printV (l0.take k))) wr ∧ Below w.heap.size w wr ∧ Aside0 (k = 0 → wr.heap[w.heap.size]? = some (.cells #[.pointer none,.slice none 0 0] 57 (0,0)))) (fun i _=>l0.length - (intOf i).toNat)
  case atStart =>
   exact ⟨0,by omega,rfl,Lib.fresh_isBuilder _ _ w,(Below.refl _ w).alloc (Nat.le_refl _) _,⟨fun _=>blk_new w _⟩⟩
  case round =>
   obtain ⟨k,hk,rfl,hI,hbw,HF⟩:=hrel
   have hsz:=bld_lt hI
   by_cases hlt : k < l0.length
   ·obtain ⟨ad,rfl,hcell0⟩:=Kd.at_string HR0.out (k : Int) (by omega) (by omega)
    have hcell : wr.cell? (ad.add k) = some (.string (rdOf ByteArray.empty l0 (k : Int))):=by
     have:=pw_cell_below hbw hcell0
     simpa using this
    have hp1:=printV_le l0 (k + 1)
    rw [printV_take l0 k hlt,List.length_append,List.length_cons] at hp1
    have hlen:=HL.out
    have hsn:=nameV_ge (rdOf ByteArray.empty l0 (k : Int)).data.toList
    rw [data_length] at hsn
    generalize hs : rdOf ByteArray.empty l0 (k : Int) = s at *
    have HS:=Aside0.mk hs
    clear hs hcell0
    go_wp2_with (go_at_call 34;refine (bld_byte w.heap.size w.heap.size _ 47 _ hI (by rw [Lib.byteCells_length];omega) (by omega)).mono ?_)
    rintro e W1 ⟨rfl,h1,b1⟩
    have hI1 : Lib.IsBuilder 57 5 w.heap.size w.heap.size (Lib.byteCells (printV (l0.take k) ++ 47 :: nameV (s.data.toList.take 0))) W1:=by
     have e : printV (l0.take k) ++ 47 :: nameV (s.data.toList.take 0) = printV (l0.take k) ++ [47]:=by simp [nameV]
     rw [e,Lib.byteCells_append]
     exact .inr h1
    have hB1:=hbw.trans b1
    clear hI h1 b1 hcell
    go_wp2
    go_loopw [16] (fun j wr2=>∃ m : Nat,m ≤ s.size ∧ j = .int .i64 m ∧ Lib.IsBuilder 57 5 w.heap.size w.heap.size (Lib.byteCells (printV (l0.take k) ++ 47 :: nameV (s.data.toList.take m))) wr2 ∧ Below w.heap.size w wr2) (fun j _=>s.size - (intOf j).toNat)
    case atStart=>exact ⟨0,by omega,rfl,hI1,hB1⟩
    case round =>
     obtain ⟨m,hm,rfl,hI2,hB2⟩:=hrel
     have hsz2:=bld_lt hI2
     by_cases hmt : m < s.size
     ·have hml : m < s.data.toList.length:=by rw [data_length];exact hmt
      have hq1:=nameV_le s.data.toList (m + 1)
      rw [nameV_take s.data.toList m hml,List.length_append] at hq1
      have hne : s.data.toList[m] = s[m]:=rfl
      rw [hne] at hq1
      go_wp2_with fail
      refine (pointer_escaped.calls _ _ _ (esc_eq s[m])).mono ?_
      rintro e W2 ⟨rfl,hb2⟩
      have hI3:=bld_below hI2 hb2
      have hB3:=below_step hB2 hb2
      have hz3:=hB3.size
      clear hb2 hI2
      go_wp2_with fail
      refine (bld_string w.heap.size w.heap.size _ _ _ hI3 (by rw [Lib.byteCells_length,List.length_append,List.length_cons];show _ + (escV s[m]).toArray.size ≤ _;simp only [List.size_toArray];omega) hz3).mono ?_
      rintro e W3 ⟨rfl,h4,b4⟩
      have hI4 : Lib.IsBuilder 57 5 w.heap.size w.heap.size (Lib.byteCells (printV (l0.take k) ++ 47 :: nameV (s.data.toList.take (m + 1)))) W3:=by
       have e : printV (l0.take k) ++ 47 :: nameV (s.data.toList.take (m + 1)) = (printV (l0.take k) ++ 47 :: nameV (s.data.toList.take m)) ++ escV s[m]:=by
        rw [nameV_take s.data.toList m hml,hne];simp
       rw [e,Lib.byteCells_append]
       exact .inr h4
      have hB4:=hB3.trans b4
      clear h4 b4 hI3 hB3
      go_wp2
      go_roundw
      case rel=>exact ⟨m + 1,by omega,by go_num,hI4,hB4⟩
      case measure=>simp [intOf];omega
     ·have hme : m = s.size:=by omega
      have hI5 : Lib.IsBuilder 57 5 w.heap.size w.heap.size (Lib.byteCells (printV (l0.take (k + 1)))) wr:=by
       have e : printV (l0.take (k + 1)) = printV (l0.take k) ++ 47 :: nameV (s.data.toList.take m):=by
        rw [printV_take l0 k hlt,HS.out,List.take_of_length_le (l:=s.data.toList) (i:=m) (by rw [data_length];omega)]
       rw [e]
       exact hI2
      clear hI2 hme
      go_wp2
      go_roundw
      case rel=>exact ⟨k + 1,by omega,by go_num,hI5,hB2,⟨fun h=>by omega⟩⟩
      case measure=>simp [intOf];omega
   ·have hke : k = l0.length:=by omega
    have e1 : l0.take k = l0:=List.take_of_length_le (by omega)
    rw [e1] at hI
    clear e1 hke
    by_cases hnil : printV l0 = []
    ·have hk0 : k = 0:=by have:=printV_nil l0 hnil;omega
     have hbk:=HF.out hk0
     have HN:=Aside0.mk hnil
     clear hk0 hnil HF hI
     go_wp2_with (go_at_call 37;refine (bld_text_nil w.heap.size w.heap.size _ _ hbk).mono ?_)
     rintro e W1 ⟨rfl,b1⟩
     go_wp2
     go_ret
     exact ⟨by rw [HN.out];rfl,hbw.trans b1⟩
    ·go_wp2_with (go_at_call 37;refine (bld_text w.heap.size w.heap.size _ _ hI hnil).mono ?_)
     rintro e W1 ⟨rfl,b1⟩
     go_wp2
     go_ret
     exact ⟨rfl,hbw.trans b1⟩
 ·rw [if_neg hl] at h
  exact absurd h (by simp)
end Go.Proofs.YtppenppagkfigaaDoor.PPointerBack
