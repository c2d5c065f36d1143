/- quarry: pointer.Within answers what the document's Within answers, for every two pointers of a bulk of at most 1048576: the second form's own bound, no other condition. -/
import Derived.Test.YthmnagmfpfncfaaDefPointerWithin
namespace Go.Proofs.Ythmnagmfpfncfaa.Pure
open Go.RowKit Go.Proofs.Ythmnagmfpfncfaa.PPointerWithin Go.Proofs.YthmnagmfpfncfaaW.PrintWords Go.Proofs.YthmnagmfpfncfaaW.PrintLast

theorem w64s (i : Nat) (h : i ≤ 140737488351232) : wrap64 ((i : Int) + 1) = ((i + 1 : Nat) : Int) := by unfold wrap64; omega
theorem w64p (i : Nat) (h : i ≤ 140737488351232) : wrap64 (((i + 1 : Nat) : Int) - 1) = (i : Int) := by unfold wrap64; omega
def out2 : Option (List (List UInt8)) → List ByteArray × Int
  | some l => (bas l, 0)
  | none => ([], 200)
theorem parse_out (s : ByteArray) : parseV s = out2 (namesOf s.data.toList) := by
  unfold parseV
  cases namesOf s.data.toList <;> rfl
theorem bt_byte (s : ByteArray) (m : Nat) (h : m < s.size) : bt s (m : Int) = ((s[m]'h).toNat : Int) := by
  unfold bt
  rw [dif_pos (by simpa using h)]
  rfl
theorem bas_len (l : List (List UInt8)) : (bas l).length = l.length := by simp [bas]
theorem bas_last (done : List (List UInt8)) (cur : List UInt8) : rdOf ByteArray.empty (bas (done ++ [cur])) (done.length : Int) = ⟨cur.toArray⟩ := by
  unfold rdOf bas
  simp
theorem bas_set (done : List (List UInt8)) (cur x : List UInt8) : (bas (done ++ [cur])).set done.length ⟨x.toArray⟩ = bas (done ++ [x]) := by
  unfold bas
  rw [List.map_append, List.set_append]
  simp
theorem ba_app (a b : List UInt8) : (⟨a.toArray⟩ : ByteArray) ++ (⟨b.toArray⟩ : ByteArray) = ⟨(a ++ b).toArray⟩ := by
  apply ByteArray.ext
  apply Array.ext'
  simp
theorem ex_one (s : ByteArray) (i : Nat) (h : i < s.size) : s.extract i (i + 1) = ⟨[s[i]].toArray⟩ := by
  apply ByteArray.ext
  apply Array.ext'
  have := pp_get s i h
  simp only [ByteArray.data_extract, Array.toList_extract, List.extract_eq_take_drop]
  rw [this]
  simp
theorem size_list (l : List UInt8) : (⟨l.toArray⟩ : ByteArray).size = l.length := by simp [ByteArray.size]
theorem u8ne (b : UInt8) (m : Int) {a : UInt8} (h : ¬ a = b) (hm : (b.toNat : Int) = m) : ¬ (a.toNat : Int) = m := fun e => h (UInt8.toNat_inj.mp (by omega))

theorem ref_end (s : ByteArray) (i : Nat) (done : List (List UInt8)) (cur : List UInt8) (hd : s.size ≤ i) : Ev (fun k => quarryref20_Parse.l0 k s (bas (done ++ [cur])) (i : Int)) (out2 (namesGo (s.data.toList.drop i) false done cur)) := by
  rw [List.drop_of_length_le (by rw [data_length]; omega)]
  refine Ev.step (f := fun _ => some (bas (done ++ [cur]), 0)) (fun k => ?_) (Ev.now _)
  rw [quarryref20_Parse.l0]
  rw [if_neg (by omega)]
theorem ref_loop (s : ByteArray) (hs : s.size ≤ 140737488) : ∀ (d i : Nat) (done : List (List UInt8)) (cur : List UInt8), s.size ≤ i + d → 0 < i → done.length + 1 ≤ i → cur.length ≤ i →
    Ev (fun k => quarryref20_Parse.l0 k s (bas (done ++ [cur])) (i : Int)) (out2 (namesGo (s.data.toList.drop i) false done cur))
  | 0, i, done, cur, hd, h0, hl, hc => ref_end s i done cur hd
  | d + 1, i, done, cur, hd, h0, hl, hc => by
    by_cases hi : i < s.size
    case neg => exact ref_end s i done cur (by omega)
    rw [pp_get s i hi]
    have hlen : (bas (done ++ [cur])).length = done.length + 1 := by rw [bas_len, List.length_append]; rfl
    have hwp := w64p done.length (by omega)
    have hwi := w64s i (by omega)
    have hb := bt_byte s i hi
    by_cases c1 : s[i] = 47
    · rw [namesGo, if_pos c1]
      have ih := ref_loop s hs d (i + 1) (done ++ [cur]) [] (by omega) (by omega) (by rw [List.length_append]; simp; omega) (by simp)
      refine Ev.step (fun k => ?_) ih
      simp only [quarryref20_Parse.l0]
      rw [if_pos (by omega), if_pos (by omega), hb, if_pos (by rw [c1]; rfl), hlen, if_pos (by omega), hwi]
      congr 1
      simp [bas]
    · have n1 := u8ne 47 47 c1 rfl
      by_cases c2 : s[i] = 126
      · rw [namesGo, if_neg c1, if_pos c2]
        by_cases hlast : i + 1 = s.size
        · rw [List.drop_of_length_le (by rw [data_length]; omega)]
          refine Ev.step (fun k => ?_) (Ev.step (g := fun k => quarryref20_Parse.j2 k s (bas (done ++ [cur])) ((i + 1 : Nat) : Int) (done.length : Int) true) (f := fun _ => some ([], 200)) (fun k => ?_) (Ev.now _))
          · simp only [quarryref20_Parse.l0]
            rw [if_pos (by omega), if_pos (by omega), hb, if_neg n1, if_pos (by rw [c2]; rfl), hwi, if_pos (by omega), hlen, hwp]
          · rw [quarryref20_Parse.j2]
            rw [if_pos rfl]
        · have hi2 : i + 1 < s.size := by omega
          rw [pp_get s (i + 1) hi2]
          have hstep : ∀ r : List ByteArray × Int, Ev (fun k => quarryref20_Parse.j2 k s (bas (done ++ [cur])) ((i + 1 : Nat) : Int) (done.length : Int) (if s[i + 1] = 48 then false else ((s[i + 1].toNat : Int) != 49))) r → Ev (fun k => quarryref20_Parse.l0 k s (bas (done ++ [cur])) (i : Int)) r := by
            intro r hr
            refine Ev.step (fun k => ?_) hr
            simp only [quarryref20_Parse.l0]
            rw [if_pos (by omega), if_pos (by omega), hb, if_neg n1, if_pos (by rw [c2]; rfl), hwi, if_neg (by omega), if_pos (by omega), if_pos (by omega), bt_byte s (i + 1) hi2, hlen, hwp]
            by_cases c3 : s[i + 1] = 48
            · rw [if_pos (by rw [c3]; rfl), if_pos c3]
            · rw [if_neg (u8ne 48 48 c3 rfl), if_neg c3]
          apply hstep
          by_cases c3 : s[i + 1] = 49
          · rw [namesGo, if_pos c3, if_neg (by rw [c3]; decide), c3]
            have ih := ref_loop s hs d (i + 2) done (cur ++ [47]) (by omega) (by omega) (by omega) (by simp; omega)
            refine Ev.step (fun k => ?_) ih
            rw [quarryref20_Parse.j2]
            rw [if_neg (by decide), if_pos (by omega), if_pos (by omega), bt_byte s (i + 1) hi2, if_neg (by rw [c3]; decide), if_pos (by omega), if_pos (by omega), bas_last, size_list, if_pos (by omega), w64s (i + 1) (by omega), Int.toNat_natCast, show (⟨#[47]⟩ : ByteArray) = ⟨[47].toArray⟩ from rfl, ba_app, bas_set]
          · by_cases c4 : s[i + 1] = 48
            · rw [namesGo, if_neg c3, if_pos c4, if_pos c4]
              have ih := ref_loop s hs d (i + 2) done (cur ++ [126]) (by omega) (by omega) (by omega) (by simp; omega)
              refine Ev.step (fun k => ?_) ih
              rw [quarryref20_Parse.j2]
              rw [if_neg (by decide), if_pos (by omega), if_pos (by omega), bt_byte s (i + 1) hi2, if_pos (by rw [c4]; rfl), if_pos (by omega), if_pos (by omega), bas_last, size_list, if_pos (by omega), w64s (i + 1) (by omega), Int.toNat_natCast, show (⟨#[126]⟩ : ByteArray) = ⟨[126].toArray⟩ from rfl, ba_app, bas_set]
            · rw [namesGo, if_neg c3, if_neg c4, if_neg c4]
              refine Ev.step (f := fun _ => some ([], 200)) (fun k => ?_) (Ev.now _)
              rw [quarryref20_Parse.j2]
              rw [if_pos (bne_iff_ne.mpr (u8ne 49 49 c3 rfl))]
      · have n2 := u8ne 126 126 c2 rfl
        rw [namesGo, if_neg c1, if_neg c2]
        have ih := ref_loop s hs d (i + 1) done (cur ++ [s[i]]) (by omega) (by omega) (by omega) (by simp; omega)
        refine Ev.step (fun k => ?_) ih
        simp only [quarryref20_Parse.l0]
        rw [if_pos (by omega), if_pos (by omega), hb, if_neg n1, if_neg n2, hlen, hwp, hwi, if_pos (by omega), if_pos (by omega), if_pos (by omega), if_pos (by omega), Int.toNat_natCast, Int.toNat_natCast, Int.toNat_natCast, ex_one s i hi, bas_last, size_list, size_list, if_pos (by simp; omega), ba_app, bas_set]

theorem ref_parse (s : ByteArray) (hs : s.size ≤ 140737488) : Ev (fun k => quarryref20_Parse.f k s) (parseV s) := by
  rw [parse_out]
  by_cases h0 : s.size = 0
  · have e : s.data.toList = [] := List.eq_nil_of_length_eq_zero (by rw [data_length]; omega)
    refine Ev.congr (f := fun k => quarryref20_Parse.j0 k s false) (fun k => ?_) ?_
    · unfold quarryref20_Parse.f
      rw [if_pos (by rw [ByteArray.toList_eq, e])]
    · rw [e]
      refine Ev.step (f := fun k => quarryref20_Parse.l0 k s [] 0) (fun k => ?_) (Ev.step (f := fun _ => some ([], 0)) (fun k => ?_) (Ev.now _))
      · rw [quarryref20_Parse.j0]
        rw [if_neg (by decide)]
      · simp only [quarryref20_Parse.l0]
        rw [if_neg (by omega)]
  · have hp : 0 < s.size := by omega
    have e := pp_get s 0 hp
    rw [List.drop_zero] at e
    have hb := bt_byte s 0 hp
    refine Ev.congr (f := fun k => quarryref20_Parse.j0 k s ((s[0].toNat : Int) != 47)) (fun k => ?_) ?_
    · unfold quarryref20_Parse.f
      rw [if_neg (by rw [ByteArray.toList_eq, e]; simp), if_pos (by omega)]
      rw [show (0 : Int) = ((0 : Nat) : Int) from rfl, hb]
    · rw [e, namesOf]
      by_cases c : s[0] = 47
      · rw [if_pos c, c]
        have ih := ref_loop s hs (s.size - 1) 1 [] [] (by omega) (by omega) (by simp) (by simp)
        refine Ev.step (f := fun k => quarryref20_Parse.l0 k s [] 0) (fun k => ?_) (Ev.step (fun k => ?_) ih)
        · rw [quarryref20_Parse.j0]
          rw [if_neg (by decide)]
        · simp only [quarryref20_Parse.l0]
          rw [if_pos (by omega), if_pos (by omega), show (0 : Int) = ((0 : Nat) : Int) from rfl, hb, c, if_pos (by rfl), if_pos (by simp), w64s 0 (by omega)]
          rfl
      · rw [if_neg c]
        refine Ev.step (f := fun _ => some ([], 200)) (fun k => ?_) (Ev.now _)
        rw [quarryref20_Parse.j0]
        rw [if_pos (bne_iff_ne.mpr (u8ne 47 47 c rfl))]

/-! the names -/
theorem go_len : ∀ (l : List UInt8) (t : Bool) (done : List (List UInt8)) (cur : List UInt8) (r : List (List UInt8)), namesGo l t done cur = some r → r.length ≤ done.length + 1 + l.length
  | [], true, _, _, _, h => by simp [namesGo] at h
  | [], false, done, cur, r, h => by simp [namesGo] at h; subst h; simp
  | c :: l, true, done, cur, r, h => by
    rw [namesGo] at h
    split at h
    · have := go_len l _ _ _ _ h; simp; omega
    · split at h
      · have := go_len l _ _ _ _ h; simp; omega
      · simp at h
  | c :: l, false, done, cur, r, h => by
    rw [namesGo] at h
    split at h
    · have := go_len l _ _ _ _ h; simp at *; omega
    · split at h
      · have := go_len l _ _ _ _ h; simp; omega
      · have := go_len l _ _ _ _ h; simp; omega
theorem parse_len (s : ByteArray) : (parseV s).1.length ≤ s.size + 1 := by
  unfold parseV
  have hd := data_length s
  cases h : s.data.toList with
  | nil => simp [namesOf, bas]
  | cons c r =>
    rw [h, List.length_cons] at hd
    rw [namesOf]
    split
    · rename_i l hl
      split at hl
      · have := go_len _ _ _ _ _ hl
        simp [bas] at *
        omega
      · simp at hl
    · simp

/-- Do the one's names begin with the other's? -/
def pw : List ByteArray → List ByteArray → Bool
  | _, [] => true
  | [], _ :: _ => false
  | y :: a, x :: b => if y.toList = x.toList then pw a b else false
theorem pw_len : ∀ a b, pw a b = true → b.length ≤ a.length
  | _, [], _ => by simp
  | [], _ :: _, h => by simp [pw] at h
  | y :: a, x :: b, h => by
    rw [pw] at h
    split at h
    · have := pw_len a b h; simp; omega
    · simp at h
theorem rd_at (l : List ByteArray) (i : Nat) (h : i < l.length) : rdOf ByteArray.empty l (i : Int) = l[i] := by
  unfold rdOf
  simp [h]
theorem loop_p (a b : List ByteArray) (hb : b.length ≤ 140737488) : ∀ (d i : Nat), i + d = b.length → Ev (fun k => pointer_Within.l0 k a b (b.length : Int) (i : Int)) (pw (a.drop i) (b.drop i), 0)
  | 0, i, hd => by
    rw [List.drop_of_length_le (l := b) (by omega)]
    refine Ev.step (f := fun _ => some (true, 0)) (fun k => ?_) ?_
    · simp only [pointer_Within.l0]
      rw [if_neg (by omega)]
    · rw [pw]; exact Ev.now _
  | d + 1, i, hd => by
    have hi : i < b.length := by omega
    rw [List.drop_eq_getElem_cons hi]
    by_cases ha : i < a.length
    · rw [List.drop_eq_getElem_cons ha, pw]
      by_cases he : a[i].toList = b[i].toList
      · rw [if_pos he]
        refine Ev.step (fun k => ?_) (loop_p a b hb d (i + 1) (by omega))
        simp only [pointer_Within.l0]
        rw [if_pos (by omega), if_pos (by omega), if_pos (by omega), if_neg (by omega), if_pos (by omega), rd_at a i ha, rd_at b i hi, if_pos he, w64s i (by omega)]
      · rw [if_neg he]
        refine Ev.step (f := fun _ => some (false, 0)) (fun k => ?_) (Ev.now _)
        simp only [pointer_Within.l0]
        rw [if_pos (by omega), if_pos (by omega), if_pos (by omega), if_neg (by omega), if_pos (by omega), rd_at a i ha, rd_at b i hi, if_neg he]
    · rw [List.drop_of_length_le (l := a) (by omega), pw]
      refine Ev.step (f := fun _ => some (false, 0)) (fun k => ?_) (Ev.now _)
      simp only [pointer_Within.l0]
      rw [if_pos (by omega), if_pos (by omega), if_pos (by omega), if_pos (by omega)]
theorem loop_r (a b : List ByteArray) (hb : b.length ≤ 140737488) (hab : b.length ≤ a.length) : ∀ (d i : Nat), i + d = b.length → Ev (fun k => quarryref20_Within.l0 k a b (i : Int)) (pw (a.drop i) (b.drop i), 0)
  | 0, i, hd => by
    rw [List.drop_of_length_le (l := b) (by omega)]
    refine Ev.step (f := fun _ => some (true, 0)) (fun k => ?_) ?_
    · simp only [quarryref20_Within.l0]
      rw [if_neg (by omega)]
    · rw [pw]; exact Ev.now _
  | d + 1, i, hd => by
    have hi : i < b.length := by omega
    have ha : i < a.length := by omega
    rw [List.drop_eq_getElem_cons hi, List.drop_eq_getElem_cons ha, pw]
    by_cases he : a[i].toList = b[i].toList
    · rw [if_pos he]
      refine Ev.step (fun k => ?_) (loop_r a b hb hab d (i + 1) (by omega))
      simp only [quarryref20_Within.l0]
      rw [if_pos (by omega), if_pos (by omega), if_pos (by omega), rd_at a i ha, rd_at b i hi, if_pos he, w64s i (by omega)]
    · rw [if_neg he]
      refine Ev.step (f := fun _ => some (false, 0)) (fun k => ?_) (Ev.now _)
      simp only [quarryref20_Within.l0]
      rw [if_pos (by omega), if_pos (by omega), if_pos (by omega), rd_at a i ha, rd_at b i hi, if_neg he]

def withinV (s t : ByteArray) : Bool × Int := if (parseV s).2 = 0 ∧ (parseV t).2 = 0 then (pw (parseV s).1 (parseV t).1, 0) else (false, 200)
theorem within_p (s t : ByteArray) (hs : s.size ≤ 14073748) (ht : t.size ≤ 14073748) : Ev (fun k => pointer_Within.f k s t) (withinV s t) := by
  have hl := parse_len t
  have ps : pointer_Parse.f s = some (parseV s) := by unfold pointer_Parse.f; rw [if_pos (by omega)]
  have pt : pointer_Parse.f t = some (parseV t) := by unfold pointer_Parse.f; rw [if_pos (by omega)]
  unfold withinV
  by_cases h1 : (parseV s).2 = 0
  · by_cases h2 : (parseV t).2 = 0
    · rw [if_pos ⟨h1, h2⟩]
      refine Ev.congr (f := fun k => pointer_Within.j0 k (parseV s).1 (parseV t).1 false) (fun k => ?_) (Ev.step (fun k => ?_) (loop_p (parseV s).1 (parseV t).1 (by omega) (parseV t).1.length 0 (by omega)))
      · unfold pointer_Within.f
        rw [ps, pt, Option.bind_some, Option.bind_some, if_pos h1, h2]
        rfl
      · rw [pointer_Within.j0]
        rw [if_neg (by decide)]
        rfl
    · rw [if_neg (fun h => h2 h.2)]
      refine Ev.congr (f := fun k => pointer_Within.j0 k (parseV s).1 (parseV t).1 true) (fun k => ?_) (Ev.step (f := fun _ => some (false, 200)) (fun k => ?_) (Ev.now _))
      · unfold pointer_Within.f
        rw [ps, pt, Option.bind_some, Option.bind_some, if_pos h1, show ((parseV t).2 != 0) = true from bne_iff_ne.mpr h2]
      · rw [pointer_Within.j0]
        rw [if_pos rfl]
  · rw [if_neg (fun h => h1 h.1)]
    refine Ev.congr (f := fun k => pointer_Within.j0 k (parseV s).1 (parseV t).1 true) (fun k => ?_) (Ev.step (f := fun _ => some (false, 200)) (fun k => ?_) (Ev.now _))
    · unfold pointer_Within.f
      rw [ps, pt, Option.bind_some, Option.bind_some, if_neg h1]
    · rw [pointer_Within.j0]
      rw [if_pos rfl]
theorem within_r (s t : ByteArray) (hs : s.size ≤ 14073748) (ht : t.size ≤ 14073748) : Ev (fun k => quarryref20_Within.f k s t) (withinV s t) := by
  have hl := parse_len t
  unfold quarryref20_Within.f
  refine Ev.bind (f := fun k bt120 => (quarryref20_Parse.f k t).bind fun bt124 => (if bt120.2 = 0 then (quarryref20_Within.j0 k bt120.1 bt124.1 (bt124.2 != 0)) else (quarryref20_Within.j0 k bt120.1 bt124.1 true))) (ref_parse s (by omega)) ?_
  refine Ev.bind (f := fun k bt124 => if (parseV s).2 = 0 then (quarryref20_Within.j0 k (parseV s).1 bt124.1 (bt124.2 != 0)) else (quarryref20_Within.j0 k (parseV s).1 bt124.1 true)) (ref_parse t (by omega)) ?_
  unfold withinV
  by_cases h1 : (parseV s).2 = 0
  · by_cases h2 : (parseV t).2 = 0
    · rw [if_pos ⟨h1, h2⟩]
      simp only [if_pos h1, h2]
      by_cases hlen : (parseV t).1.length ≤ (parseV s).1.length
      · refine Ev.step (fun k => ?_) (loop_r (parseV s).1 (parseV t).1 (by omega) hlen (parseV t).1.length 0 (by omega))
        rw [quarryref20_Within.j0]
        rw [if_neg (by decide), if_neg (by omega)]
        rfl
      · have hn : pw (parseV s).1 (parseV t).1 = false := by
          cases h : pw (parseV s).1 (parseV t).1 with
          | false => rfl
          | true => exact absurd (pw_len _ _ h) hlen
        rw [hn]
        refine Ev.step (f := fun _ => some (false, 0)) (fun k => ?_) (Ev.now _)
        rw [quarryref20_Within.j0]
        rw [if_neg (by decide), if_pos (by omega)]
    · rw [if_neg (fun h => h2 h.2)]
      simp only [if_pos h1, show ((parseV t).2 != 0) = true from bne_iff_ne.mpr h2]
      refine Ev.step (f := fun _ => some (false, 200)) (fun k => ?_) (Ev.now _)
      rw [quarryref20_Within.j0]
      rw [if_pos rfl]
  · rw [if_neg (fun h => h1 h.1)]
    simp only [if_neg h1]
    refine Ev.step (f := fun _ => some (false, 200)) (fun k => ?_) (Ev.now _)
    rw [quarryref20_Within.j0]
    rw [if_pos rfl]

theorem PointerWithin : quarrylaw20_PointerWithin.PureU := by
  intro s t _ _ hb
  have h0 := within_p (⟨#[47, 97, 47, 98]⟩ : ByteArray) (⟨#[47, 97]⟩ : ByteArray) (by decide) (by decide)
  have e0 : withinV (⟨#[47, 97, 47, 98]⟩ : ByteArray) (⟨#[47, 97]⟩ : ByteArray) = (true, 0) := by
    have p1 : parseV (⟨#[47, 97, 47, 98]⟩ : ByteArray) = ([⟨#[97]⟩, ⟨#[98]⟩], 0) := by decide +kernel
    have p2 : parseV (⟨#[47, 97]⟩ : ByteArray) = ([⟨#[97]⟩], 0) := by decide +kernel
    unfold withinV
    rw [p1, p2, if_pos ⟨rfl, rfl⟩, pw, if_pos rfl, pw]
  rw [e0] at h0
  refine Ev.rounds (r := true) ?_
  unfold quarrylaw20_PointerWithin.f
  refine Ev.bind (f := fun k bt130 => if bt130.1 = true then (quarrylaw20_PointerWithin.j0 k s t (bt130.2 != 0)) else (quarrylaw20_PointerWithin.j0 k s t true)) h0 ?_
  refine Ev.congr (f := fun k => quarrylaw20_PointerWithin.j0 k s t false) (fun k => by rw [if_pos rfl]; rfl) ?_
  refine Ev.step (fun k => ?_) (Ev.bind (f := fun k bt132 => (quarryref20_Within.f k s t).bind fun bt134 => (if (bt132.1 == bt134.1) = true then (some (bt132.2 == bt134.2)) else (some false))) (within_p s t (by omega) (by omega)) (Ev.bind (f := fun k bt134 => if ((withinV s t).1 == bt134.1) = true then (some ((withinV s t).2 == bt134.2)) else (some false)) (within_r s t (by omega) (by omega)) ?_))
  · rw [quarrylaw20_PointerWithin.j0]
    rw [if_neg (by decide)]
  · simp only [beq_self_eq_true, if_true]
    exact Ev.now _
end Go.Proofs.Ythmnagmfpfncfaa.Pure
