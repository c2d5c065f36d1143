/- quarry: pointer.Place answers what the document's Place answers, for every name (and for "10" the number 10): no condition beyond the row's own bound on a string's size. -/
import Derived.Test.YthmnagmfpfncfaaPPointerPlacesx1
namespace Go.Proofs.Ythmnagmfpfncfaa.Pure
open Go.RowKit Go.Proofs.Ythmnagmfpfncfaa.PPointerPlaces Go.Proofs.YthmnagmfpfncfaaW.PrintWords Go.Proofs.YthmnagmfpfncfaaW.PrintLast

theorem w64 (n : Int) (h : -9223372036854775808 ≤ n) (h2 : n ≤ 9223372036854775807) : wrap64 n = n := by unfold wrap64; omega

theorem pow_room (i : Nat) (h : i ≤ 17) : 10 ^ i ≤ 100000000000000000 := by
  have := Nat.pow_le_pow_right (n := 10) (by omega) h
  simpa using this

theorem place_loops (s : ByteArray) (hn : s.size ≤ 18) (d : Nat) : ∀ (k i : Nat) (x : Int), i + d = s.size → 0 ≤ x → x < ((10 ^ i : Nat) : Int) → d < k →
    ∃ r, pointer_Place.l0 k s x (s.size : Int) (i : Int) = some r ∧ quarryref20_Place.l0 k s x (i : Int) = some r := by
  induction d with
  | zero =>
    intro k i x hi h0 hx hk
    obtain ⟨k, rfl⟩ : ∃ m, k = m + 1 := ⟨k - 1, by omega⟩
    refine ⟨(x, true), ?_, ?_⟩
    · simp only [pointer_Place.l0]; rw [if_neg (by omega)]
    · simp only [quarryref20_Place.l0]; rw [if_neg (by omega)]
  | succ d ih =>
    intro k i x hi h0 hx hk
    obtain ⟨k, rfl⟩ : ∃ m, k = m + 1 := ⟨k - 1, by omega⟩
    have hb := bt_range s (i : Int)
    have hp := pow_room i (by omega)
    have hps : (10 ^ (i + 1) : Nat) = 10 ^ i * 10 := Nat.pow_succ ..
    by_cases h1 : bt s (i : Int) < 48
    · refine ⟨(0, false), ?_, ?_⟩
      · simp only [pointer_Place.l0]
        rw [if_pos (by omega), if_pos (by omega), if_pos (by omega), if_pos (by omega)]
      · simp only [quarryref20_Place.l0]
        rw [if_pos (by omega), if_pos (by omega), if_pos h1]
    · by_cases h2 : bt s (i : Int) > 57
      · refine ⟨(0, false), ?_, ?_⟩
        · simp only [pointer_Place.l0]
          rw [if_pos (by omega), if_pos (by omega), if_pos (by omega), if_pos (by omega)]
        · simp only [quarryref20_Place.l0]
          rw [if_pos (by omega), if_pos (by omega), if_neg h1, if_pos h2]
      · obtain ⟨r, hr1, hr2⟩ := ih k (i + 1) (10 * x + (bt s (i : Int) - 48)) (by omega) (by omega) (by omega) (by omega)
        refine ⟨r, ?_, ?_⟩
        · simp only [pointer_Place.l0]
          rw [if_pos (by omega), if_pos (by omega), if_pos (by omega), if_neg (by omega)]
          rw [show ((bt s (i : Int)) - 48) % 256 = bt s (i : Int) - 48 from by omega, w64 (10 * x) (by omega) (by omega), w64 (10 * x + _) (by omega) (by omega), w64 ((i : Int) + 1) (by omega) (by omega)]
          exact hr1
        · simp only [quarryref20_Place.l0]
          rw [if_pos (by omega), if_pos (by omega), if_neg h1, if_neg h2]
          rw [w64 (bt s (i : Int)) (by omega) (by omega), w64 (x * 10) (by omega) (by omega), w64 (x * 10 + _) (by omega) (by omega), w64 (_ - 48) (by omega) (by omega), w64 ((i : Int) + 1) (by omega) (by omega)]
          rw [show x * 10 + bt s (i : Int) - 48 = 10 * x + (bt s (i : Int) - 48) from by omega]
          exact hr2

theorem place_same (s : ByteArray) (k : Nat) (hk : 20 ≤ k) : ∃ r, pointer_Place.f k s = some r ∧ quarryref20_Place.f k s = some r := by
  obtain ⟨k, rfl⟩ : ∃ m, k = m + 1 := ⟨k - 1, by omega⟩
  unfold pointer_Place.f quarryref20_Place.f
  by_cases h0 : s.size = 0
  · refine ⟨(0, false), ?_, ?_⟩
    · rw [if_pos (by rw [ByteArray.toList_eq]; apply List.eq_nil_of_length_eq_zero; rw [data_length]; exact h0)]; simp [pointer_Place.j0]
    · rw [if_pos (by omega)]; simp [quarryref20_Place.j0]
  · have hne : ¬ s.toList = ([] : List UInt8) := by
      intro h; apply h0
      rw [ByteArray.toList_eq] at h
      have := congrArg List.length h
      rw [data_length] at this
      exact this
    rw [if_neg hne, if_neg (show ¬ (s.size : Int) < 1 by omega)]
    by_cases h18 : (s.size : Int) > 18
    · refine ⟨(0, false), ?_, ?_⟩
      · rw [if_pos h18]; simp [pointer_Place.j0]
      · rw [if_pos h18]; simp [quarryref20_Place.j0]
    · rw [if_neg h18, if_neg h18]
      by_cases h1 : (s.size : Int) > 1 ∧ bt s 0 = 48
      · obtain ⟨h1, hz⟩ := h1
        refine ⟨(0, false), ?_, ?_⟩
        · rw [if_pos h1, if_pos (by omega), hz]; simp [pointer_Place.j0]
        · rw [if_pos (show (0 : Int) < (s.size : Int) by omega), if_pos hz, decide_eq_true h1]; simp only [quarryref20_Place.j0, if_true]
      · obtain ⟨r, hr1, hr2⟩ := place_loops s (by omega) s.size k 0 0 (by omega) (by omega) (by simp) (by omega)
        refine ⟨r, ?_, ?_⟩
        · have e : pointer_Place.j0 (k + 1) s false = some r := by simp only [pointer_Place.j0]; rw [if_neg (by simp)]; exact hr1
          by_cases hs1 : (s.size : Int) > 1
          · have hz : (bt s 0 == 48) = false := by
              rw [beq_eq_false_iff_ne]; exact fun h => h1 ⟨hs1, h⟩
            rw [if_pos hs1, if_pos (by omega), hz, e]
          · rw [if_neg hs1, e]
        · have e : quarryref20_Place.j0 (k + 1) s false = some r := by simp only [quarryref20_Place.j0]; rw [if_neg (by simp)]; exact hr2
          by_cases hz : bt s 0 = 48
          · rw [if_pos (show (0 : Int) < (s.size : Int) by omega), if_pos hz, decide_eq_false (fun h => h1 ⟨h, hz⟩), e]
          · rw [if_pos (show (0 : Int) < (s.size : Int) by omega), if_neg hz, e]

theorem PointerPlaces : quarrylaw20_PointerPlaces.Pure := by
  intro s hs
  refine ⟨21, ?_⟩
  obtain ⟨r, h1, h2⟩ := place_same s 20 (by omega)
  have h10 : pointer_Place.f 21 (⟨#[49, 48]⟩ : ByteArray) = some (10, true) := by decide +kernel
  unfold quarrylaw20_PointerPlaces.f
  rw [h10]
  simp [quarrylaw20_PointerPlaces.j0, h1, h2]

end Go.Proofs.Ythmnagmfpfncfaa.Pure
