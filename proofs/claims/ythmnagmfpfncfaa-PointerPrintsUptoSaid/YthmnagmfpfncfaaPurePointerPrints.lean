/- quarry: pointer.Print answers what the document's Print answers, for every list of names of a bulk of at most 1048576 (and for the two fixed names): the second form's own bound, no other condition. -/
import Derived.Test.YthmnagmfpfncfaaDefPointerPrints
namespace Go.Proofs.Ythmnagmfpfncfaa.Pure
open Go.RowKit Go.Proofs.Ythmnagmfpfncfaa.PPointerPrints Go.Proofs.YthmnagmfpfncfaaW.PrintWords Go.Proofs.YthmnagmfpfncfaaW.PrintLast

theorem w64s (i : Nat) (h : i ≤ 140737488351232) : wrap64 ((i : Int) + 1) = ((i + 1 : Nat) : Int) := by unfold wrap64; omega

def ints (l : List UInt8) : List Int := l.map fun c => (c.toNat : Int)
theorem ints_len (l : List UInt8) : (ints l).length = l.length := by simp [ints]
theorem ints_app (a b : List UInt8) : ints (a ++ b) = ints a ++ ints b := by simp [ints]
theorem ints_str (l : List UInt8) : strOfNums (ints l) = ⟨l.toArray⟩ := by simp [strOfNums, ints, Function.comp_def]
theorem bt_byte (s : ByteArray) (m : Nat) (h : m < s.data.toList.length) : bt s (m : Int) = (s.data.toList[m].toNat : Int) := by
  have h2 : m < s.size := by rw [data_length] at h; exact h
  unfold bt
  rw [dif_pos (by simpa using h2)]
  rfl

theorem inner (l : List ByteArray) (i : Nat) (hi : i < l.length) (hl : (printV l).length ≤ 140737488355327) (hsz : (rdOf ByteArray.empty l (i : Int)).size ≤ 140737488351232) (r : ByteArray) :
    (Ev (fun k => quarryref20_Print.l0 k l (ints (printV (l.take (i + 1)))) (wrap64 ((i : Int) + 1))) r) → ∀ (d m : Nat), m + d = (rdOf ByteArray.empty l (i : Int)).size →
      Ev (fun k => quarryref20_Print.l1 k l (ints (printV (l.take i) ++ 47 :: nameV ((rdOf ByteArray.empty l (i : Int)).data.toList.take m))) (i : Int) (m : Int)) r := by
  intro hout d
  have htk := printV_take l i hi
  have hple := printV_le l (i + 1)
  generalize hs : rdOf ByteArray.empty l (i : Int) = s at *
  rw [htk] at hple
  simp only [List.length_append, List.length_cons] at hple
  have hdl : s.data.toList.length = s.size := data_length s
  induction d with
  | zero =>
    intro m hm
    rw [htk] at hout
    rw [List.take_of_length_le (l := s.data.toList) (i := m) (by omega)]
    refine Ev.step (fun k => ?_) hout
    simp only [quarryref20_Print.l1]
    rw [if_pos (by omega), if_pos (by omega), hs, if_neg (by omega)]
  | succ d ih =>
    intro m hm
    have hml : m < s.data.toList.length := by omega
    have hb := bt_byte s m hml
    have hnx := nameV_take s.data.toList m hml
    have hnl := nameV_le s.data.toList (m + 1)
    rw [hnx] at hnl
    simp only [List.length_append] at hnl
    have ih2 := ih (m + 1) (by omega)
    rw [hnx] at ih2
    have e : ints (printV (l.take i) ++ 47 :: (nameV (s.data.toList.take m) ++ escV s.data.toList[m])) = ints (printV (l.take i) ++ 47 :: nameV (s.data.toList.take m)) ++ ints (escV s.data.toList[m]) := by
      rw [← ints_app]; simp
    rw [e] at ih2
    have hlen : (ints (printV (l.take i) ++ 47 :: nameV (s.data.toList.take m))).length + (escV s.data.toList[m]).length ≤ 140737488355327 := by
      rw [ints_len, List.length_append, List.length_cons]; omega
    refine Ev.step (fun k => ?_) ih2
    simp only [quarryref20_Print.l1]
    rw [if_pos (by omega), if_pos (by omega), hs, if_pos (by omega), if_pos (by omega), hb, w64s m (by omega)]
    by_cases h1 : s.data.toList[m] = 126
    · have h2 : escV s.data.toList[m] = [126, 48] := by rw [h1]; rfl
      rw [h2] at hlen ⊢
      rw [if_pos (by rw [h1]; rfl), if_pos (by simp only [List.length_cons, List.length_nil] at hlen; omega)]
      rfl
    · by_cases h3 : s.data.toList[m] = 47
      · have h2 : escV s.data.toList[m] = [126, 49] := by rw [h3]; rfl
        rw [h2] at hlen ⊢
        rw [if_neg (by rw [h3]; decide), if_pos (by rw [h3]; rfl), if_pos (by simp only [List.length_cons, List.length_nil] at hlen; omega)]
        rfl
      · have h2 : escV s.data.toList[m] = [s.data.toList[m]] := by unfold escV; rw [if_neg h3, if_neg h1]
        have n1 : ¬ ((s.data.toList[m].toNat : Int) = 126) := fun h => h1 (UInt8.toNat_inj.mp (by show s.data.toList[m].toNat = 126; omega))
        have n2 : ¬ ((s.data.toList[m].toNat : Int) = 47) := fun h => h3 (UInt8.toNat_inj.mp (by show s.data.toList[m].toNat = 47; omega))
        rw [h2] at hlen ⊢
        rw [if_neg n1, if_neg n2, if_pos (by simp only [List.length_cons, List.length_nil] at hlen; omega)]
        rfl

theorem outer (l : List ByteArray) (hn : l.length ≤ 140737488351232) (hl : (printV l).length ≤ 140737488355327) (hsz : ∀ y ∈ l, y.size ≤ 140737488351232) : ∀ (d i : Nat), i + d = l.length → Ev (fun k => quarryref20_Print.l0 k l (ints (printV (l.take i))) (i : Int)) (⟨(printV l).toArray⟩ : ByteArray)
  | 0, i, h => by
    rw [List.take_of_length_le (by omega)]
    refine Ev.step (f := fun _ => some (strOfNums (ints (printV l)))) (fun k => by simp only [quarryref20_Print.l0]; rw [if_neg (by omega)]) ?_
    rw [ints_str]
    exact Ev.now _
  | d + 1, i, h => by
    have hi : i < l.length := by omega
    have hp := printV_le l (i + 1)
    rw [printV_take l i hi] at hp
    simp only [List.length_append, List.length_cons] at hp
    have hm : (rdOf ByteArray.empty l (i : Int)).size ≤ 140737488351232 := by
      unfold rdOf
      rw [Int.toNat_natCast, List.getD_eq_getElem?_getD, List.getElem?_eq_getElem hi, Option.getD_some]
      exact hsz _ (List.getElem_mem hi)
    have ih := outer l hn hl hsz d (i + 1) (by omega)
    rw [← w64s i (by omega)] at ih
    have hin := inner l i hi hl hm _ ih (rdOf ByteArray.empty l (i : Int)).size 0 (by omega)
    refine Ev.step (fun k => ?_) hin
    simp only [quarryref20_Print.l0]
    rw [if_pos (by omega), if_pos (by rw [ints_len]; omega)]
    rw [show ints (printV (l.take i) ++ 47 :: nameV ((rdOf ByteArray.empty l (i : Int)).data.toList.take 0)) = ints (printV (l.take i)) ++ [47] from by rw [ints_app]; rfl]
    rfl

theorem escV_le (c : UInt8) : (escV c).length ≤ 2 := by unfold escV; split <;> (try split) <;> simp
theorem nameV_two (l : List UInt8) : (nameV l).length ≤ 2 * l.length := by
  induction l with
  | nil => simp [nameV]
  | cons c l ih =>
    unfold nameV at *
    rw [List.flatMap_cons, List.length_append, List.length_cons]
    have := escV_le c
    omega
theorem printV_bulk (l : List ByteArray) : (printV l).length ≤ 2 * (l.map fun x => x.size + 1).sum := by
  induction l with
  | nil => simp [printV]
  | cons s l ih =>
    unfold printV at *
    rw [List.flatMap_cons, List.length_append, List.length_cons, List.map_cons, List.sum_cons]
    have := nameV_two s.data.toList
    rw [data_length] at this
    omega

theorem PointerPrints : quarrylaw20_PointerPrints.Pure := by
  intro l ⟨hn, hsz⟩ hb
  have hlen := printV_bulk l
  have hp : pointer_Print.f l = some (⟨(printV l).toArray⟩ : ByteArray) := by unfold pointer_Print.f; rw [if_pos (by omega)]
  have ho := outer l (by omega) (by omega) hsz l.length 0 (by omega)
  have h0 : pointer_Print.f ([(⟨#[97, 47, 98]⟩ : ByteArray), (⟨#[126]⟩ : ByteArray)] : List ByteArray) = some (⟨#[47, 97, 126, 49, 98, 47, 126, 48]⟩ : ByteArray) := by decide +kernel
  refine Ev.rounds (r := true) ?_
  unfold quarrylaw20_PointerPrints.f
  rw [h0, hp]
  refine Ev.congr (f := fun k => (quarryref20_Print.f k l).bind fun t => some ((⟨(printV l).toArray⟩ : ByteArray).toList == t.toList)) (fun k => ?_) (Ev.bind (a := (⟨(printV l).toArray⟩ : ByteArray)) ho ?_)
  · simp only [Option.bind_some]
    rw [if_pos (by decide +kernel)]
  · simp only [beq_self_eq_true]
    exact Ev.now _
end Go.Proofs.Ythmnagmfpfncfaa.Pure
