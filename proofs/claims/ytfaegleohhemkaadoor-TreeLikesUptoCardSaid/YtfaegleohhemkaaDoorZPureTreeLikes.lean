/- quarry: tree.Same and tree.Alike answer what the document's answer, for every two structs of a value within the bound. -/
import Derived.Test.YtfaegleohhemkaaDoorZDefTreeLikes
import Derived.Lib.Strings
import Derived.Lib.Bytealg
import Derived.Test.YtfaegleohhemkaaDoorZTreeLikesW1
namespace Go.Proofs.YtfaegleohhemkaaDoor.QValTreeLikes
open Go.RowKit Go.Proofs.YtfaegleohhemkaaDoor.PTreeLikes Go.Proofs.YtfaegleohhemkaaDoorW.PrintWords Go.Proofs.YtfaegleohhemkaaDoorW.PrintLast
set_option linter.unusedVariables false
set_option linter.unusedSimpArgs false
theorem w64 (n : Int) (h : -9223372036854775808 ≤ n) (h2 : n ≤ 9223372036854775807) : wrap64 n = n:=by unfold wrap64;omega
theorem w64s (i : Nat) (h : i ≤ 140737488351232) : wrap64 ((i : Int) + 1) = ((i + 1 : Nat) : Int):=by unfold wrap64;omega
theorem kid_lt {x y : S25} (h : y ∈ x.f5) : SizeOf.sizeOf y < SizeOf.sizeOf x:=by
 cases x with
 | mk f0 f1 f2 f3 f4 f5 =>
 have:=List.sizeOf_lt_of_mem (show y ∈ f5 from h);rw [S25.mk.sizeOf_spec]
 omega
theorem rd_mem (l : List S25) (i : Nat) (h : i < l.length) : rd_T25 l (i : Int) ∈ l:=by
 unfold rd_T25
 rw [Int.toNat_natCast,List.getD_eq_getElem?_getD,List.getElem?_eq_getElem h,Option.getD_some];exact List.getElem_mem h
theorem told_some (a b c : Int) : ∃ r,quarryref00_told.f a b c = some r:=by unfold quarryref00_told.f;split <;> exact ⟨_,rfl⟩
theorem left_loop1 (x : S25) (hl4 : x.f4.length * 16 ≤ 140737488351232) (hl : x.f5.length * 96 ≤ 140737488351232)
  (hk : ∀ y ∈ x.f5,∀ a b c : Int,∃ r,Ev (fun k=>quarryref00_leftOfValue.f k y.f0 y.f1 y.f2 y.f3 y.f4 y.f5 a b c) r) : ∀ (d i : Nat) (a b c : Int),i + d = x.f5.length → ∃ r,Ev (fun k=>quarryref00_leftOfValue.l1 k a b c (i : Int) x.f0 x.f1 x.f2 x.f3 x.f4 x.f5) r
 | 0,i,a,b,c,h=>⟨c,Ev.step (f:=fun k=>quarryref00_leftOfValue.j3 k a b c (i : Int) false x.f0 x.f1 x.f2 x.f3 x.f4 x.f5) (fun k=>by simp only [quarryref00_leftOfValue.l1];rw [if_neg (by omega)]) (Ev.step (f:=fun _=>some c) (fun k=>by simp only [quarryref00_leftOfValue.j3];rw [if_neg (by simp)]) (Ev.now _))⟩
 | d + 1,i,a,b,c,h=>by
  have hlt : i < x.f5.length:=by omega
  by_cases hc : c ≥ 0
  ·by_cases h4 : (i : Int) < (x.f4.length : Int)
   ·obtain ⟨r1,hr1⟩:=hk _ (rd_mem x.f5 i hlt) (wrap64 (a + 1)) (wrap64 ((wrap64 (b + 21)) + (wrap64 (2 * ((rdOf ByteArray.empty x.f4 (i : Int)).size : Int))))) c;obtain ⟨r2,hr2⟩:=left_loop1 x hl4 hl hk d (i + 1) a b r1 (by omega);refine ⟨r2,Ev.step (f:=fun k=>quarryref00_leftOfValue.j3 k a b c (i : Int) true x.f0 x.f1 x.f2 x.f3 x.f4 x.f5) (fun k=>by simp only [quarryref00_leftOfValue.l1];rw [if_pos (by omega),decide_eq_true hc]) (Ev.step (f:=fun k=>(quarryref00_leftOfValue.f k (rd_T25 x.f5 (i : Int)).f0 (rd_T25 x.f5 (i : Int)).f1 (rd_T25 x.f5 (i : Int)).f2 (rd_T25 x.f5 (i : Int)).f3 (rd_T25 x.f5 (i : Int)).f4 (rd_T25 x.f5 (i : Int)).f5 (wrap64 (a + 1)) (wrap64 ((wrap64 (b + 21)) + (wrap64 (2 * ((rdOf ByteArray.empty x.f4 (i : Int)).size : Int))))) c).bind fun t=>quarryref00_leftOfValue.l1 k a b t ((i + 1 : Nat) : Int) x.f0 x.f1 x.f2 x.f3 x.f4 x.f5) (fun k=>?_) (Ev.bind hr1 hr2))⟩;simp only [quarryref00_leftOfValue.j3];rw [if_pos trivial,if_pos h4,if_pos (by omega),if_pos (by omega),w64s i (by omega)]
   obtain ⟨r1,hr1⟩:=hk _ (rd_mem x.f5 i hlt) (wrap64 (a + 1)) (wrap64 (b + 21)) c;obtain ⟨r2,hr2⟩:=left_loop1 x hl4 hl hk d (i + 1) a b r1 (by omega);refine ⟨r2,Ev.step (f:=fun k=>quarryref00_leftOfValue.j3 k a b c (i : Int) true x.f0 x.f1 x.f2 x.f3 x.f4 x.f5) (fun k=>by simp only [quarryref00_leftOfValue.l1];rw [if_pos (by omega),decide_eq_true hc]) (Ev.step (f:=fun k=>(quarryref00_leftOfValue.f k (rd_T25 x.f5 (i : Int)).f0 (rd_T25 x.f5 (i : Int)).f1 (rd_T25 x.f5 (i : Int)).f2 (rd_T25 x.f5 (i : Int)).f3 (rd_T25 x.f5 (i : Int)).f4 (rd_T25 x.f5 (i : Int)).f5 (wrap64 (a + 1)) (wrap64 (b + 21)) c).bind fun t=>quarryref00_leftOfValue.l1 k a b t ((i + 1 : Nat) : Int) x.f0 x.f1 x.f2 x.f3 x.f4 x.f5) (fun k=>?_) (Ev.bind hr1 hr2))⟩;simp only [quarryref00_leftOfValue.j3];rw [if_pos trivial,if_neg h4,if_pos (by omega),if_pos (by omega),w64s i (by omega)]
  refine ⟨c,Ev.step (f:=fun k=>quarryref00_leftOfValue.j3 k a b c (i : Int) false x.f0 x.f1 x.f2 x.f3 x.f4 x.f5) (fun k=>by simp only [quarryref00_leftOfValue.l1];rw [if_pos (by omega),decide_eq_false hc]) (Ev.step (f:=fun _=>some c) (fun k=>by simp only [quarryref00_leftOfValue.j3];rw [if_neg (by simp)]) (Ev.now _))⟩
theorem left_loop0 (x : S25) (hl4 : x.f4.length * 16 ≤ 140737488351232)
  (hj : ∀ a b c : Int,∃ r,Ev (fun k=>quarryref00_leftOfValue.j1 k a b c x.f0 x.f1 x.f2 x.f3 x.f4 x.f5) r) : ∀ (d i : Nat) (a b c : Int),i + d = x.f4.length → ∃ r,Ev (fun k=>quarryref00_leftOfValue.l0 k a b c (i : Int) x.f0 x.f1 x.f2 x.f3 x.f4 x.f5) r
 | 0,i,a,b,c,h=>by
  obtain ⟨r,hr⟩:=hj a b c;exact ⟨r,Ev.step (fun k=>by simp only [quarryref00_leftOfValue.l0];rw [if_neg (by omega)]) hr⟩
 | d + 1,i,a,b,c,h=>by
  by_cases hc : c ≥ 0
  ·obtain ⟨t,ht⟩:=told_some ((rdOf ByteArray.empty x.f4 (i : Int)).size : Int) a 0;obtain ⟨r,hr⟩:=left_loop0 x hl4 hj d (i + 1) a b (wrap64 (c - t)) (by omega);refine ⟨r,Ev.step (fun k=>?_) hr⟩;simp only [quarryref00_leftOfValue.l0];rw [if_pos (by omega),if_pos hc,if_pos (by omega),ht,Option.bind_some,w64s i (by omega)]
  obtain ⟨r,hr⟩:=hj a b c;exact ⟨r,Ev.step (fun k=>by simp only [quarryref00_leftOfValue.l0];rw [if_pos (by omega),if_neg hc]) hr⟩
theorem left_ev (n : Nat) : ∀ (x : S25),SizeOf.sizeOf x ≤ n → SZ25 x → ∀ a b c : Int,∃ r,Ev (fun k=>quarryref00_leftOfValue.f k x.f0 x.f1 x.f2 x.f3 x.f4 x.f5 a b c) r:=by
 induction n with
 | zero=>intro x hn;cases x;simp at hn
 | succ n ih =>
  intro x hn hx a b c
  cases hx with
  | mk _ h0 h1 h2 h3 h4 h4' h5 h5' =>
  by_cases ha : a > 65536
  ·exact ⟨-1,Ev.step (f:=fun _=>some (-1)) (fun k=>by simp only [quarryref00_leftOfValue.f];rw [if_pos ha]) (Ev.now _)⟩
  obtain ⟨t,ht⟩:=told_some (wrap64 ((x.f2.size : Int) + (x.f3.size : Int))) a b
  obtain ⟨r,hr⟩:=left_loop0 x h4 (fun a b c=>by
   obtain ⟨r,hr⟩:=left_loop1 x h4 h5 (fun y hy=>ih y (by have:=kid_lt hy;omega) (h5' y hy)) x.f5.length 0 a b c (by omega)
   exact ⟨r,Ev.step (fun k=>by simp only [quarryref00_leftOfValue.j1];rfl) hr⟩) x.f4.length 0 a b (wrap64 (c - t)) (by omega)
  refine ⟨r,Ev.step (fun k=>?_) hr⟩;simp only [quarryref00_leftOfValue.f];rw [if_neg ha,ht,Option.bind_some];rfl
theorem beyond_ev (x : S25) (hx : SZ25 x) : ∃ r,Ev (fun k=>quarryref00_BeyondValue.f k x.f0 x.f1 x.f2 x.f3 x.f4 x.f5) r:=by
 obtain ⟨r,hr⟩:=left_ev (SizeOf.sizeOf x) x (Nat.le_refl _) hx 1 0 2147483647;exact ⟨decide (r < 0),Ev.bind hr (Ev.now _)⟩
theorem small_raw (x : S25) : x.f2.size ≤ bulk25 x:=by cases x;simp only [bulk25];omega
theorem small_text (x : S25) : x.f3.size ≤ bulk25 x:=by cases x;simp only [bulk25];omega
theorem le_sum_map {α : Type} (g : α → Nat) : ∀ (l : List α) (a : α),a ∈ l → g a ≤ (l.map g).sum
 | [],a,h=>by cases h
 | b :: r,a,h=>by
  rw [List.map_cons,List.sum_cons]
  rcases List.mem_cons.1 h with rfl|h
  ·omega
  have:=le_sum_map g r a h;omega
theorem small_name (x : S25) (s : ByteArray) (h : s ∈ x.f4) : s.size ≤ bulk25 x:=by
 cases x with
 | mk f0 f1 f2 f3 f4 f5 =>
 have:=le_sum_map (fun x : ByteArray=>x.size + 1) f4 s h;simp only [bulk25];have h2 : s.size + 1 ≤ (f4.map fun x : ByteArray=>x.size + 1).sum:=this
 omega
theorem small_kid (x : S25) (y : S25) (h : y ∈ x.f5) : bulk25 y ≤ bulk25 x:=by
 cases x with
 | mk f0 f1 f2 f3 f4 f5 =>
 have:=le_sum_map bulk25 f5 y h
 rw [← bulks25_eq] at this
 show _ ≤ bulk25 (⟨f0,f1,f2,f3,f4,f5⟩ : S25)
 simp only [bulk25]
 omega
theorem small_len (x : S25) : x.f5.length ≤ bulk25 x ∧ x.f4.length ≤ bulk25 x:=by
 cases x with
 | mk f0 f1 f2 f3 f4 f5 =>
 have h1 : ∀ l : List S25,l.length ≤ bulks25 l:=by
  intro l
  induction l with
  | nil=>exact Nat.le_refl _
  | cons b r ih =>
   have hb : 1 ≤ bulk25 b:=by cases b;simp only [bulk25];omega
   rw [List.length_cons,bulks25]
   omega
 have h2 : ∀ l : List ByteArray,l.length ≤ (l.map fun x : ByteArray=>x.size + 1).sum:=by
  intro l
  induction l with
  | nil=>exact Nat.le_refl _
  | cons b r ih=>rw [List.length_cons,List.map_cons,List.sum_cons];omega
 have a:=h1 f5;have b:=h2 f4;simp only [bulk25]
 omega
end Go.Proofs.YtfaegleohhemkaaDoor.QValTreeLikes
namespace Go.Proofs.YtfaegleohhemkaaDoor.QDecTreeLikes
open Go.RowKit Go.Proofs.YtfaegleohhemkaaDoor.PTreeLikes Go.Proofs.YtfaegleohhemkaaDoorW.PrintWords Go.Proofs.YtfaegleohhemkaaDoorW.PrintLast
set_option linter.unusedVariables false
set_option linter.unusedSimpArgs false
theorem w64 (n : Int) (h : -9223372036854775808 ≤ n) (h2 : n ≤ 9223372036854775807) : wrap64 n = n:=by unfold wrap64;omega
theorem w64s (i : Nat) (h : i ≤ 140737488351232) : wrap64 ((i : Int) + 1) = ((i + 1 : Nat) : Int):=by unfold wrap64;omega
abbrev lft (s : ByteArray) (i : Nat) : List UInt8:=s.data.toList.drop i
theorem lft_cons (s : ByteArray) (i : Nat) (h : i < s.size) : lft s i = s[i] :: lft s (i + 1):=rd_get s i h
theorem lft_nil (s : ByteArray) (i : Nat) (h : ¬ i < s.size) : lft s i = []:=rd_none s i h
theorem lft_len (s : ByteArray) (i : Nat) : (lft s i).length = s.size - i:=by rw [lft,List.length_drop,data_length]
theorem bt_get (s : ByteArray) (i : Nat) (h : i < s.size) : bt s (i : Int) = (s[i].toNat : Int):=by
 unfold bt
 rw [dif_pos (by rw [Int.toNat_natCast];exact h)]
 simp
theorem lft_lt (s : ByteArray) (i : Nat) (c : UInt8) (r : List UInt8) (h : lft s i = c :: r) : i < s.size:=by
 rcases Nat.lt_or_ge i s.size with hl|hl
 ·exact hl
 rw [lft_nil s i (by omega)] at h;cases h
theorem lft_step (s : ByteArray) (i : Nat) (c : UInt8) (r : List UInt8) (h : lft s i = c :: r) : i < s.size ∧ bt s (i : Int) = (c.toNat : Int) ∧ lft s (i + 1) = r:=by
 have hl:=lft_lt s i c r h
 rw [lft_cons s i hl] at h
 injection h with h1 h2
 exact ⟨hl,by rw [bt_get s i hl,h1],h2⟩
theorem lft_add (s : ByteArray) (i n : Nat) : lft s (i + n) = (lft s i).drop n:=by rw [lft,lft,List.drop_drop]
theorem extract_lft (s : ByteArray) (i n : Nat) : s.extract i (i + n) = ⟨((lft s i).take n).toArray⟩:=by
 apply ByteArray.ext
 apply Array.ext'
 rw [ByteArray.data_extract,Array.toList_extract,lft]
 simp
theorem digit_some (s : ByteArray) (i : Nat) : quarryref11_digit.f s (i : Int) = some (match lft s i with|[]=>false|c :: _=>rdD c):=by
 unfold quarryref11_digit.f
 by_cases h : i < s.size
 ·rw [if_pos (by omega),if_pos (by omega),bt_get s i h,lft_cons s i h];simp only
  unfold rdD
  by_cases h2 : (48 : Int) ≤ (s[i].toNat : Int)
  ·rw [if_pos h2]
   congr 1
   rw [decide_eq_decide]
   omega
  rw [if_neg h2]
  congr 1
  rw [eq_comm,decide_eq_false_iff_not]
  omega
 rw [if_neg (by omega),lft_nil s i h]
theorem is_some (s : ByteArray) (i : Nat) (a b : UInt8) : quarryref11_is.f s (i : Int) (a.toNat : Int) (b.toNat : Int) = some (match lft s i with|[]=>false|c :: _=>decide (c = a ∨ c = b)):=by
 unfold quarryref11_is.f
 by_cases h : i < s.size
 ·rw [if_pos (by omega),if_pos (by omega),bt_get s i h,lft_cons s i h];simp only
  by_cases h2 : s[i] = a
  ·rw [if_pos (by rw [h2])]
   simp [h2]
  rw [if_neg (fun e=>h2 (UInt8.toNat_inj.mp (by omega)))]
  congr 1
  by_cases h3 : s[i] = b
  ·simp [h3]
  have : ¬ (s[i].toNat : Int) = (b.toNat : Int):=fun e=>h3 (UInt8.toNat_inj.mp (by omega))
  simp [h2,h3,this]
 rw [if_neg (by omega),lft_nil s i h]
def dgs (l : List UInt8) : List UInt8:=l.takeWhile rdD
def dgr (l : List UInt8) : List UInt8:=l.dropWhile rdD
theorem dgs_nil : dgs [] = []:=rfl
theorem dgs_cons (c : UInt8) (r : List UInt8) : dgs (c :: r) = if rdD c = true then c :: dgs r else []:=by unfold dgs;rw [List.takeWhile_cons];try rfl
theorem dgr_cons (c : UInt8) (r : List UInt8) : dgr (c :: r) = if rdD c = true then dgr r else c :: r:=by unfold dgr;rw [List.dropWhile_cons];try rfl
theorem dg_len (l : List UInt8) : (dgs l).length + (dgr l).length = l.length:=by
 have:=congrArg List.length (List.takeWhile_append_dropWhile (p:=rdD) (l:=l))
 rw [List.length_append] at this
 exact this
theorem dgs_take : ∀ l : List UInt8,l.take (dgs l).length = dgs l
 | []=>rfl
 | c :: r=>by
  rw [dgs_cons]
  split
  ·rw [List.length_cons,List.take_succ_cons,dgs_take r]
  rfl
theorem dgr_drop : ∀ l : List UInt8,l.drop (dgs l).length = dgr l
 | []=>rfl
 | c :: r=>by
  rw [dgs_cons,dgr_cons]
  split
  ·rw [List.length_cons,List.drop_succ_cons,dgr_drop r]
  rfl
theorem digits_ev (s : ByteArray) (hs : s.size ≤ 1099511627776) : ∀ (d i : Nat),s.size - i = d → i ≤ s.size + 1 → Ev (fun k=>quarryref11_digits.l0 k s (i : Int)) (((i + (dgs (lft s i)).length : Nat)) : Int)
 | 0,i,hd,hi=>by
  have hn : lft s i = []:=lft_nil s i (by omega);refine Ev.step (f:=fun _=>some (((i + (dgs (lft s i)).length : Nat)) : Int)) (fun k=>?_) (Ev.now _);rw [quarryref11_digits.l0,digit_some,hn];rfl
 | d + 1,i,hd,hi=>by
  have hlt : i < s.size:=by omega
  have hc:=lft_cons s i hlt
  cases hdd : rdD s[i] with
  | true =>
   have ih:=digits_ev s hs d (i + 1) (by omega) (by omega)
   have e : i + (dgs (lft s i)).length = i + 1 + (dgs (lft s (i + 1))).length:=by rw [hc,dgs_cons,if_pos hdd,List.length_cons];omega
   rw [e];refine Ev.step (fun k=>?_) ih;rw [quarryref11_digits.l0,digit_some,hc,Option.bind_some];simp only [hdd];rw [if_pos trivial,w64s i (by omega)]
  | false =>
   have e : i + (dgs (lft s i)).length = i:=by rw [hc,dgs_cons,if_neg (by rw [hdd];decide)];rfl
   rw [e];refine Ev.step (f:=fun _=>some (i : Int)) (fun k=>?_) (Ev.now _);rw [quarryref11_digits.l0,digit_some,hc,Option.bind_some];simp only [hdd];rw [if_neg (by decide)]
theorem digits_f (s : ByteArray) (hs : s.size ≤ 1099511627776) (i : Nat) (hi : i ≤ s.size + 1) : Ev (fun k=>quarryref11_digits.f k s (i : Int)) (((i + (dgs (lft s i)).length : Nat)) : Int):=digits_ev s hs _ i rfl hi
def expV (l : List UInt8) : List UInt8 × List UInt8 × Bool :=
 match l with
 | []=>([],[],true)
 | c :: r=>if c = 101 ∨ c = 69 then
   match r with
   | []=>([],[],false)
   | q :: t=>if q = 43 ∨ q = 45 then (if dgs t = [] then ([],t,false) else (q :: dgs t,dgr t,true)) else (if dgs (q :: t) = [] then ([],q :: t,false) else (dgs (q :: t),dgr (q :: t),true))
  else ([],c :: r,true)
def pointV (W l : List UInt8) : List UInt8 × List UInt8 × List UInt8 × List UInt8 × Bool :=
 match l with
 | []=>(W,[],expV [])
 | c :: r=>if c = 46 then (if dgs r = [] then (W,[],[],r,false) else (W,dgs r,expV (dgr r))) else (W,[],expV (c :: r))
def wholeV (l : List UInt8) : List UInt8 × List UInt8 × List UInt8 × List UInt8 × Bool :=
 match l with
 | []=>([],[],[],[],false)
 | d :: r=>if rdD d = true then (if d = 48 then pointV [d] r else pointV (d :: dgs r) (dgr r)) else ([],[],[],d :: r,false)
def scanV (l : List UInt8) : Bool × List UInt8 × List UInt8 × List UInt8 × List UInt8 × Bool :=
 match l with
 | []=>(false,wholeV [])
 | c :: r=>if c = 45 then (true,wholeV r) else (false,wholeV (c :: r))
abbrev B (l : List UInt8) : ByteArray:=⟨l.toArray⟩
abbrev fin (s : ByteArray) (l : List UInt8) : Int:=(s.size : Int) - (l.length : Int)
theorem fin_lft (s : ByteArray) (i : Nat) (h : i ≤ s.size) : fin s (lft s i) = (i : Int):=by unfold fin;rw [lft_len];omega
theorem dgr_lft (s : ByteArray) (i : Nat) : dgr (lft s i) = lft s (i + (dgs (lft s i)).length):=by rw [lft_add,dgr_drop]
theorem dgs_le (s : ByteArray) (i : Nat) (h : i ≤ s.size) : i + (dgs (lft s i)).length ≤ s.size:=by have:=dg_len (lft s i);rw [lft_len] at this;omega
theorem extract_dgs (s : ByteArray) (i : Nat) : s.extract i (i + (dgs (lft s i)).length) = B (dgs (lft s i)):=by rw [extract_lft,dgs_take]
theorem dgs_nil_len (l : List UInt8) : (dgs l = []) ↔ (dgs l).length = 0:=by rw [List.length_eq_zero_iff]
theorem expV_cons (c : UInt8) (r : List UInt8) : expV (c :: r) = if c = 101 ∨ c = 69 then (match r with|[]=>([],[],false)|q :: t=>if q = 43 ∨ q = 45 then (if dgs t = [] then ([],t,false) else (q :: dgs t,dgr t,true)) else (if dgs (q :: t) = [] then ([],q :: t,false) else (dgs (q :: t),dgr (q :: t),true))) else ([],c :: r,true):=rfl
theorem tail_ev (s : ByteArray) (hs : s.size ≤ 1099511627776) (i1 j : Nat) (hij : i1 ≤ j) (hj : j ≤ s.size) (neg : Bool) (W Bl : ByteArray) :
  Ev (fun k=>(quarryref11_digits.f k s (j : Int)).bind fun t=>(if t = (j : Int) then (some (neg,W,Bl,B [],t,false)) else (if 0 ≤ (i1 : Int) then (if (i1 : Int) ≤ t then (if t ≤ (s.size : Int) then (some (neg,W,Bl,s.extract (i1 : Int).toNat (t : Int).toNat,t,true)) else (none)) else (none)) else (none))))
   (if dgs (lft s j) = [] then (neg,W,Bl,B [],(j : Int),false) else (neg,W,Bl,s.extract i1 (j + (dgs (lft s j)).length),((j + (dgs (lft s j)).length : Nat) : Int),true)):=by
 refine Ev.bind (f:=fun _ t=>_) (digits_f s hs j (by omega)) ?_
 by_cases h : dgs (lft s j) = []
 ·rw [if_pos h,if_pos (by rw [h];rfl)]
  have e : ((j + (dgs (lft s j)).length : Nat) : Int) = (j : Int):=by rw [h];rfl
  rw [e];exact Ev.now _
 have hl : (dgs (lft s j)).length ≠ 0:=fun e=>h ((dgs_nil_len _).mpr e)
 have hle:=dgs_le s j hj;rw [if_neg h,if_neg (by omega),if_pos (by omega),if_pos (by omega),if_pos (by omega),Int.toNat_natCast,Int.toNat_natCast];exact Ev.now _
theorem exp_ev (s : ByteArray) (hs : s.size ≤ 1099511627776) (i : Nat) (hi : i ≤ s.size) (neg : Bool) (W Bl : ByteArray) :
  Ev (fun k=>quarryref11_scan.j2 k s (i : Int) neg W Bl (B [])) (neg,W,Bl,B (expV (lft s i)).1,fin s (expV (lft s i)).2.1,(expV (lft s i)).2.2):=by
 have h101 : ((101 : UInt8).toNat : Int) = 101:=rfl;have h69 : ((69 : UInt8).toNat : Int) = 69:=rfl;have h43 : ((43 : UInt8).toNat : Int) = 43:=rfl;have h45 : ((45 : UInt8).toNat : Int) = 45:=rfl;have hisE:=is_some s i 101 69
 rw [h101,h69] at hisE
 cases hl : lft s i with
 | nil =>
  rw [hl] at hisE
  refine Ev.step (f:=fun _=>some _) (fun k=>?_) (Ev.now _);rw [quarryref11_scan.j2,hisE,Option.bind_some];simp only;rw [if_neg (by decide)]
  have : fin s (expV []).2.1 = (i : Int):=by rw [← fin_lft s i hi,hl];rfl
  rw [this];rfl
 | cons c r =>
  obtain ⟨hlt,hbt,hr⟩:=lft_step s i c r hl
  rw [hl] at hisE
  simp only at hisE
  rw [expV_cons]
  by_cases hc : c = 101 ∨ c = 69
  ·rw [decide_eq_true hc] at hisE
   rw [if_pos hc];have hisS:=is_some s (i + 1) 43 45
   rw [h43,h45,hr] at hisS
   have w1 : wrap64 ((i : Int) + 1) = ((i + 1 : Nat) : Int):=w64s i (by omega);have w2 : wrap64 (((i + 1 : Nat) : Int) + 1) = ((i + 2 : Nat) : Int):=w64s (i + 1) (by omega);have ht1:=tail_ev s hs (i + 1) (i + 1) (Nat.le_refl _) (by omega) neg W Bl
   have nosign : (∀ q t,r = q :: t → ¬ (q = 43 ∨ q = 45)) → Ev (fun k=>quarryref11_scan.j2 k s (i : Int) neg W Bl (B [])) (if dgs (lft s (i + 1)) = [] then (neg,W,Bl,B [],((i + 1 : Nat) : Int),false) else (neg,W,Bl,s.extract (i + 1) (i + 1 + (dgs (lft s (i + 1))).length),((i + 1 + (dgs (lft s (i + 1))).length : Nat) : Int),true)):=by
    intro hq
    have hisF : quarryref11_is.f s ((i + 1 : Nat) : Int) 43 45 = some false:=by
     rw [hisS]
     cases r with
     | nil=>rfl
     | cons q t=>simp only;rw [decide_eq_false (hq q t rfl)]
    refine Ev.step (fun k=>?_) ht1;rw [quarryref11_scan.j2,hisE,Option.bind_some,if_pos rfl,w1,hisF,Option.bind_some,if_neg (by decide)]
   cases hr2 : r with
   | nil =>
    have h:=nosign (fun q t e=>by rw [hr2] at e;cases e)
    rw [hr,hr2,if_pos dgs_nil] at h
    have e0 : fin s [] = ((i + 1 : Nat) : Int):=by rw [← hr2,← hr,fin_lft s (i + 1) (by omega)]
    simp only;rw [e0];exact h
   | cons q t =>
    rw [hr2] at hr
    obtain ⟨hlt2,_,hr3⟩:=lft_step s (i + 1) q t hr;simp only
    by_cases hq : q = 43 ∨ q = 45
    ·rw [if_pos hq]
     have hisT : quarryref11_is.f s ((i + 1 : Nat) : Int) 43 45 = some true:=by rw [hisS,hr2];simp only;rw [decide_eq_true hq]
     have ht2:=tail_ev s hs (i + 1) (i + 2) (by omega) (by omega) neg W Bl
     have h : Ev (fun k=>quarryref11_scan.j2 k s (i : Int) neg W Bl (B [])) _:=Ev.step (fun k=>by
      rw [quarryref11_scan.j2,hisE,Option.bind_some,if_pos rfl,w1,hisT,Option.bind_some,if_pos rfl,w2]) ht2
     rw [show lft s (i + 2) = t from hr3] at h
     by_cases hd : dgs t = []
     ·rw [if_pos hd] at h ⊢
      have e0 : fin s t = ((i + 2 : Nat) : Int):=by rw [← hr3,fin_lft s (i + 2) (by omega)]
      simp only;rw [e0];exact h
     rw [if_neg hd] at h ⊢
     have e0 : fin s (dgr t) = ((i + 2 + (dgs t).length : Nat) : Int):=by
      have:=dgs_le s (i + 2) (by omega)
      rw [show lft s (i + 2) = t from hr3] at this
      rw [← show lft s (i + 2) = t from hr3,dgr_lft,fin_lft _ _ (by rw [show lft s (i + 2) = t from hr3];exact this)]
     have e1 : s.extract (i + 1) (i + 2 + (dgs t).length) = B (q :: dgs t):=by
      have:=extract_lft s (i + 1) ((dgs t).length + 1)
      rw [hr,List.take_succ_cons,dgs_take] at this
      rw [show i + 1 + ((dgs t).length + 1) = i + 2 + (dgs t).length from by omega] at this
      exact this
     simp only;rw [e0,← e1];exact h
    rw [if_neg hq];have h:=nosign (fun q' t' e=>by rw [hr2] at e;injection e with e1 e2;rw [← e1];exact hq)
    rw [hr] at h
    by_cases hd : dgs (q :: t) = []
    ·rw [if_pos hd] at h ⊢
     have e0 : fin s (q :: t) = ((i + 1 : Nat) : Int):=by rw [← hr,fin_lft s (i + 1) (by omega)]
     simp only;rw [e0];exact h
    rw [if_neg hd] at h ⊢
    have e0 : fin s (dgr (q :: t)) = ((i + 1 + (dgs (q :: t)).length : Nat) : Int):=by
     have:=dgs_le s (i + 1) (by omega);rw [← hr,dgr_lft,fin_lft _ _ this]
    have e1 : s.extract (i + 1) (i + 1 + (dgs (q :: t)).length) = B (dgs (q :: t)):=by
     have:=extract_dgs s (i + 1)
     rw [hr] at this
     exact this
    simp only;rw [e0,← e1];exact h
  rw [decide_eq_false hc] at hisE
  rw [if_neg hc];refine Ev.step (f:=fun _=>some _) (fun k=>?_) (Ev.now _);rw [quarryref11_scan.j2,hisE,Option.bind_some,if_neg (by decide)];simp only;rw [← hl,fin_lft s i hi]
theorem point_ev (s : ByteArray) (hs : s.size ≤ 1099511627776) (a i : Nat) (hai : a ≤ i) (hi : i ≤ s.size) (neg : Bool) (W : List UInt8) (hW : s.extract a i = B W) :
  Ev (fun k=>quarryref11_scan.j1 k s (a : Int) (i : Int) neg (B []) (B []) (B [])) (neg,B (pointV W (lft s i)).1,B (pointV W (lft s i)).2.1,B (pointV W (lft s i)).2.2.1,fin s (pointV W (lft s i)).2.2.2.1,(pointV W (lft s i)).2.2.2.2):=by
 have h46 : ((46 : UInt8).toNat : Int) = 46:=rfl;have his:=is_some s i 46 46
 rw [h46] at his
 have w1 : wrap64 ((i : Int) + 1) = ((i + 1 : Nat) : Int):=w64s i (by omega);have hex:=exp_ev s hs i hi neg (B W) (B [])
 have nodot : (∀ c r,lft s i = c :: r → ¬ c = 46) → Ev (fun k=>quarryref11_scan.j1 k s (a : Int) (i : Int) neg (B []) (B []) (B [])) (neg,B W,B [],B (expV (lft s i)).1,fin s (expV (lft s i)).2.1,(expV (lft s i)).2.2):=by
  intro hq
  have hisF : quarryref11_is.f s (i : Int) 46 46 = some false:=by
   rw [his]
   cases hl : lft s i with
   | nil=>rfl
   | cons c r=>simp only;rw [decide_eq_false (fun h=>hq c r hl (h.elim id id))]
  refine Ev.step (fun k=>?_) hex;rw [quarryref11_scan.j1,if_pos (by omega),if_pos (by omega),if_pos (by omega),hisF,Option.bind_some,if_neg (by decide),Int.toNat_natCast,Int.toNat_natCast,hW]
 cases hl : lft s i with
 | nil =>
  have h:=nodot (fun c r e=>by rw [hl] at e;cases e)
  rw [hl] at h
  exact h
 | cons c r =>
  obtain ⟨hlt,hbt,hr⟩:=lft_step s i c r hl
  by_cases hc : c = 46
  ·have hisT : quarryref11_is.f s (i : Int) 46 46 = some true:=by rw [his,hl];simp only;rw [decide_eq_true (.inl hc)]
   have hd:=digits_f s hs (i + 1) (by omega)
   have eP : pointV W (c :: r) = if dgs r = [] then (W,[],[],r,false) else (W,dgs r,expV (dgr r)):=by unfold pointV;simp only;rw [if_pos hc]
   rw [hr] at hd
   rw [eP];have hle:=dgs_le s (i + 1) (by omega)
   rw [hr] at hle
   refine Ev.step (f:=fun k=>(quarryref11_digits.f k s ((i + 1 : Nat) : Int)).bind fun t=>if t = ((i + 1 : Nat) : Int) then some (neg,B W,B [],B [],t,false) else if 0 ≤ ((i + 1 : Nat) : Int) then (if ((i + 1 : Nat) : Int) ≤ t then (if t ≤ (s.size : Int) then quarryref11_scan.j2 k s t neg (B W) (s.extract ((i + 1 : Nat) : Int).toNat t.toNat) (B []) else none) else none) else none) (fun k=>?_) (Ev.bind hd ?_)
   ·rw [quarryref11_scan.j1,if_pos (by omega),if_pos (by omega),if_pos (by omega),hisT,Option.bind_some,if_pos rfl,Int.toNat_natCast,Int.toNat_natCast,hW,w1]
   by_cases hd : dgs r = []
   ·have e : ((i + 1 + (dgs r).length : Nat) : Int) = ((i + 1 : Nat) : Int):=by rw [hd];rfl
    have e0 : fin s r = ((i + 1 : Nat) : Int):=by rw [← hr,fin_lft s (i + 1) (by omega)]
    rw [if_pos hd,e];refine Ev.congr (fun k=>if_pos rfl) ?_;simp only;rw [e0];exact Ev.now _
   have hl2 : (dgs r).length ≠ 0:=fun e=>hd ((dgs_nil_len _).mpr e)
   have e1 : s.extract (i + 1) (i + 1 + (dgs r).length) = B (dgs r):=by
    have:=extract_dgs s (i + 1)
    rw [hr] at this
    exact this
   have e2 : lft s (i + 1 + (dgs r).length) = dgr r:=by
    have:=dgr_lft s (i + 1)
    rw [hr] at this
    exact this.symm
   rw [if_neg hd];have h:=exp_ev s hs (i + 1 + (dgs r).length) hle neg (B W) (B (dgs r))
   rw [e2] at h
   refine Ev.congr (fun k=>?_) h;rw [if_neg (by omega),if_pos (by omega),if_pos (by omega),if_pos (by omega),Int.toNat_natCast,Int.toNat_natCast,e1]
  have h:=nodot (fun c' r' e=>by rw [hl] at e;injection e with e1 e2;rw [← e1];exact hc)
  have eP : pointV W (c :: r) = (W,[],expV (c :: r)):=by unfold pointV;simp only;rw [if_neg hc]
  rw [hl] at h
  rw [eP];exact h
theorem whole_ev (s : ByteArray) (hs : s.size ≤ 1099511627776) (i : Nat) (hi : i ≤ s.size) (neg : Bool) :
  Ev (fun k=>quarryref11_scan.j0 k s (i : Int) neg (B []) (B []) (B [])) (neg,B (wholeV (lft s i)).1,B (wholeV (lft s i)).2.1,B (wholeV (lft s i)).2.2.1,fin s (wholeV (lft s i)).2.2.2.1,(wholeV (lft s i)).2.2.2.2):=by
 have hd:=digit_some s i;have w1 : wrap64 ((i : Int) + 1) = ((i + 1 : Nat) : Int):=w64s i (by omega)
 cases hl : lft s i with
 | nil =>
  rw [hl] at hd
  refine Ev.step (f:=fun _=>some _) (fun k=>?_) (Ev.now _);rw [quarryref11_scan.j0,hd,Option.bind_some];simp only;rw [if_neg (by decide)]
  have : fin s (wholeV []).2.2.2.1 = (i : Int):=by rw [← fin_lft s i hi,hl];rfl
  rw [this];rfl
 | cons c r =>
  obtain ⟨hlt,hbt,hr⟩:=lft_step s i c r hl
  rw [hl] at hd
  simp only at hd
  cases hc : rdD c with
  | false =>
   rw [hc] at hd
   have eP : wholeV (c :: r) = ([],[],[],c :: r,false):=by unfold wholeV;simp only;rw [if_neg (by rw [hc];decide)]
   rw [eP];refine Ev.step (f:=fun _=>some _) (fun k=>?_) (Ev.now _);rw [quarryref11_scan.j0,hd,Option.bind_some,if_neg (by decide)];simp only;rw [← hl,fin_lft s i hi]
  | true =>
   rw [hc] at hd
   have hdg:=digits_f s hs i (by omega)
   rw [hl] at hdg
   have hle:=dgs_le s i hi
   rw [hl] at hle
   have e1 : s.extract i (i + 1) = B [c]:=by
    have:=extract_lft s i 1
    rw [hl] at this
    exact this
   by_cases h48 : c = 48
   ·have eP : wholeV (c :: r) = pointV [c] r:=by unfold wholeV;simp only;rw [if_pos hc,if_pos h48]
    rw [eP];have h:=point_ev s hs i (i + 1) (by omega) (by omega) neg [c] e1
    rw [hr] at h
    refine Ev.step (f:=fun k=>(quarryref11_digits.f k s (i : Int)).bind fun t160=>quarryref11_scan.j1 k s (i : Int) ((i + 1 : Nat) : Int) neg (B []) (B []) (B [])) (fun k=>?_) (Ev.bind (f:=fun k _=>quarryref11_scan.j1 k s (i : Int) ((i + 1 : Nat) : Int) neg (B []) (B []) (B [])) hdg h);rw [quarryref11_scan.j0,hd,Option.bind_some,if_pos rfl]
    congr 1
    funext t
    rw [if_pos (by omega),if_pos (by omega),hbt,if_pos (by rw [h48];rfl),w1]
   have eP : wholeV (c :: r) = pointV (c :: dgs r) (dgr r):=by unfold wholeV;simp only;rw [if_pos hc,if_neg h48]
   rw [eP]
   have e2 : dgs (c :: r) = c :: dgs r:=by rw [dgs_cons,if_pos hc]
   have e3 : s.extract i (i + (dgs (c :: r)).length) = B (c :: dgs r):=by
    have:=extract_dgs s i
    rw [hl,e2] at this
    rw [e2];exact this
   have e4 : lft s (i + (dgs (c :: r)).length) = dgr r:=by
    have:=dgr_lft s i
    rw [hl,dgr_cons,if_pos hc] at this
    exact this.symm
   have h:=point_ev s hs i (i + (dgs (c :: r)).length) (by omega) hle neg (c :: dgs r) e3
   rw [e4] at h
   refine Ev.step (f:=fun k=>(quarryref11_digits.f k s (i : Int)).bind fun t160=>quarryref11_scan.j1 k s (i : Int) t160 neg (B []) (B []) (B [])) (fun k=>?_) (Ev.bind (f:=fun k t160=>quarryref11_scan.j1 k s (i : Int) t160 neg (B []) (B []) (B [])) hdg h);rw [quarryref11_scan.j0,hd,Option.bind_some,if_pos rfl]
   congr 1
   funext t
   rw [if_pos (by omega),if_pos (by omega),hbt,if_neg (fun e=>h48 (UInt8.toNat_inj.mp (by show c.toNat = 48;omega)))]
theorem scan_ev (s : ByteArray) (hs : s.size ≤ 1099511627776) (i : Nat) (hi : i ≤ s.size) :
  Ev (fun k=>quarryref11_scan.f k s (i : Int)) ((scanV (lft s i)).1,B (scanV (lft s i)).2.1,B (scanV (lft s i)).2.2.1,B (scanV (lft s i)).2.2.2.1,fin s (scanV (lft s i)).2.2.2.2.1,(scanV (lft s i)).2.2.2.2.2):=by
 have h45 : ((45 : UInt8).toNat : Int) = 45:=rfl;have his:=is_some s i 45 45
 rw [h45] at his
 have w1 : wrap64 ((i : Int) + 1) = ((i + 1 : Nat) : Int):=w64s i (by omega)
 have noneg : (∀ c r,lft s i = c :: r → ¬ c = 45) → Ev (fun k=>quarryref11_scan.f k s (i : Int)) (false,B (wholeV (lft s i)).1,B (wholeV (lft s i)).2.1,B (wholeV (lft s i)).2.2.1,fin s (wholeV (lft s i)).2.2.2.1,(wholeV (lft s i)).2.2.2.2):=by
  intro hq
  have hisF : quarryref11_is.f s (i : Int) 45 45 = some false:=by
   rw [his]
   cases hl : lft s i with
   | nil=>rfl
   | cons c r=>simp only;rw [decide_eq_false (fun h=>hq c r hl (h.elim id id))]
  refine Ev.congr (fun k=>?_) (whole_ev s hs i hi false)
  unfold quarryref11_scan.f
  rw [hisF,Option.bind_some,if_neg (by decide)]
 cases hl : lft s i with
 | nil =>
  have h:=noneg (fun c r e=>by rw [hl] at e;cases e)
  rw [hl] at h
  exact h
 | cons c r =>
  obtain ⟨hlt,hbt,hr⟩:=lft_step s i c r hl
  by_cases hc : c = 45
  ·have hisT : quarryref11_is.f s (i : Int) 45 45 = some true:=by rw [his,hl];simp only;rw [decide_eq_true (.inl hc)]
   have eP : scanV (c :: r) = (true,wholeV r):=by unfold scanV;simp only;rw [if_pos hc]
   rw [eP];have h:=whole_ev s hs (i + 1) (by omega) true
   rw [hr] at h
   refine Ev.congr (fun k=>?_) h
   unfold quarryref11_scan.f
   rw [hisT,Option.bind_some,if_pos rfl,w1]
  have h:=noneg (fun c' r' e=>by rw [hl] at e;injection e with e1 e2;rw [← e1];exact hc)
  have eP : scanV (c :: r) = (false,wholeV (c :: r)):=by unfold scanV;simp only;rw [if_neg hc]
  rw [hl] at h
  rw [eP];exact h
def numL : List UInt8 → Bool → Int → Int
 | [],neg,n=>if neg = true then - (if n > 1000000000000000 then 1000000000000001 else n) else (if n > 1000000000000000 then 1000000000000001 else n)
 | c :: r,neg,n=>numL r (if c = 45 then true else neg) (if rdD c = true ∧ n ≤ 1000000000000000 then n * 10 + ((c.toNat : Int) - 48) else n)
theorem number_ev (X : ByteArray) (hX : X.size ≤ 1099511627776) : ∀ (d i : Nat) (neg : Bool) (n : Int),X.size - i = d → 0 ≤ n → n ≤ 10000000000000100 → Ev (fun k=>quarryref11_number.l0 k X 1000000000000000 neg n (i : Int)) (numL (lft X i) neg n)
 | 0,i,neg,n,hd,h0,h1=>by
  rw [lft_nil X i (by omega)];refine Ev.step (f:=fun _=>some _) (fun k=>?_) (Ev.now _);rw [quarryref11_number.l0,if_neg (by omega),numL]
  by_cases hn : n > 1000000000000000
  ·rw [if_pos hn,if_pos hn,w64 (1000000000000000 + 1) (by omega) (by omega),w64 _ (by omega) (by omega)];cases neg
   ·rw [if_neg (by decide),if_neg (by decide)];rfl
   rw [if_pos rfl,if_pos rfl];rfl
  rw [if_neg hn,if_neg hn,w64 (-n) (by omega) (by omega)];cases neg
  ·rw [if_neg (by decide),if_neg (by decide)]
  rw [if_pos rfl,if_pos rfl]
 | d + 1,i,neg,n,hd,h0,h1=>by
  have hlt : i < X.size:=by omega
  have hc:=lft_cons X i hlt;have hb:=bt_get X i hlt;have hw:=w64s i (by omega)
  have hu : (X[i].toNat : Int) ≤ 255:=by have:=X[i].toNat_lt;omega
  have hr:=number_ev X hX d (i + 1);rw [hc,numL]
  by_cases h45 : X[i] = 45
  ·have h45i : (X[i].toNat : Int) = 45:=by rw [h45];rfl
   have hnd : ¬ (rdD X[i] = true ∧ n ≤ 1000000000000000):=by rw [h45];intro h;exact absurd h.1 (by decide)
   rw [if_pos h45,if_neg hnd];refine Ev.step (fun k=>?_) (hr true n (by omega) h0 h1);rw [quarryref11_number.l0,if_pos (by omega),if_pos (by omega),hb,if_pos h45i,if_neg (by omega),hw]
  have h45i : ¬ (X[i].toNat : Int) = 45:=fun e=>h45 (UInt8.toNat_inj.mp (by show X[i].toNat = 45;omega))
  rw [if_neg h45]
  by_cases hdg : rdD X[i] = true
  ·have hdr : 48 ≤ X[i].toNat ∧ X[i].toNat ≤ 57:=by unfold rdD at hdg;exact of_decide_eq_true hdg
   by_cases hn : n ≤ 1000000000000000
   ·rw [if_pos ⟨hdg,hn⟩];refine Ev.step (fun k=>?_) (hr neg (n * 10 + ((X[i].toNat : Int) - 48)) (by omega) (by omega) (by omega));rw [quarryref11_number.l0,if_pos (by omega),if_pos (by omega),hb,if_neg h45i,if_pos (by omega),if_pos (by omega),if_pos hn,hw,w64 (n * 10) (by omega) (by omega),w64 (X[i].toNat : Int) (by omega) (by omega),w64 (n * 10 + (X[i].toNat : Int)) (by omega) (by omega),w64 _ (by omega) (by omega)];rw [show n * 10 + (X[i].toNat : Int) - 48 = n * 10 + ((X[i].toNat : Int) - 48) from by omega]
   rw [if_neg (fun h=>hn h.2)];refine Ev.step (fun k=>?_) (hr neg n (by omega) h0 h1);rw [quarryref11_number.l0,if_pos (by omega),if_pos (by omega),hb,if_neg h45i,if_pos (by omega),if_pos (by omega),if_neg hn,hw]
  have hdr : ¬ (48 ≤ X[i].toNat ∧ X[i].toNat ≤ 57):=by unfold rdD at hdg;intro h;exact hdg (decide_eq_true h)
  rw [if_neg (fun h=>hdg h.1)];refine Ev.step (fun k=>?_) (hr neg n (by omega) h0 h1);rw [quarryref11_number.l0,if_pos (by omega),if_pos (by omega),hb,if_neg h45i,hw]
  by_cases h48 : (X[i].toNat : Int) ≥ 48
  ·rw [if_pos h48,if_neg (by omega)]
  rw [if_neg h48]
def mkV (neg : Bool) (all : List UInt8) (e : Int) : Bool × ByteArray × Int × Bool :=
 if rdBody all = [] then (neg,B [],0,true)
 else if e + ((rdLead all).length : Int) - ((rdBody all).length : Int) > 1073741824 ∨ e + ((rdLead all).length : Int) - ((rdBody all).length : Int) < -1073741824 then (false,B [],0,false)
 else (neg,B (rdBody all),e + ((rdLead all).length : Int) - ((rdBody all).length : Int),true)
theorem lft_B (all : List UInt8) (i : Nat) : lft (B all) i = all.drop i:=rfl
theorem B_size (all : List UInt8) : (B all).size = all.length:=by simp [ByteArray.size]
theorem B_app (a b : List UInt8) : B a ++ B b = B (a ++ b):=by
 apply ByteArray.ext
 apply Array.ext'
 simp
theorem lead_cons (c : UInt8) (r : List UInt8) : rdLead (c :: r) = if c = 48 then rdLead r else c :: r:=by
 unfold rdLead
 rw [List.dropWhile_cons]
 by_cases h : c = 48
 ·subst h;rfl
 have : (c == 48) = false:=by simpa using h
 rw [this,if_neg h];rfl
theorem make1_ev (neg : Bool) (all : List UInt8) (hl : all.length ≤ 1099511627776) (i : Nat) (hi : i ≤ all.length) (hlead : rdLead all = all.drop i) (e0 : Int) (he0 : -4611686018427387904 ≤ e0) (he1 : e0 ≤ 4611686018427387904) :
  ∀ (d : Nat),i + d ≤ all.length → rdTail (all.drop i) = rdTail ((all.drop i).take d) → Ev (fun k=>quarryref11_Make.l1 k neg (B all) (e0 + ((all.length - (i + d) : Nat) : Int)) (i : Int) ((i + d : Nat) : Int)) (mkV neg all e0)
 | 0,hd,ht=>by
  have hbody : rdBody all = []:=by show rdTail (rdLead all) = [];rw [hlead,ht];rfl
  refine Ev.step (f:=fun k=>quarryref11_Make.j3 k neg (B all) (e0 + ((all.length - (i + 0) : Nat) : Int)) (i : Int) ((i + 0 : Nat) : Int)) (fun k=>?_) (Ev.step (f:=fun _=>some (mkV neg all e0)) (fun k=>?_) (Ev.now _))
  ·rw [quarryref11_Make.l1,if_neg (by omega)]
  rw [quarryref11_Make.j3,if_pos (by omega),mkV,if_pos hbody]
 | d + 1,hd,ht=>by
  have hlt : i + d < all.length:=by omega
  have hlt2 : i + d < (B all).size:=by rw [B_size];exact hlt
  have hb:=bt_get (B all) (i + d) hlt2;have hg : (B all)[i + d] = all[i + d]:=rfl
  rw [hg] at hb
  have hw : wrap64 (((i + (d + 1) : Nat) : Int) - 1) = ((i + d : Nat) : Int):=by rw [w64 _ (by omega) (by omega)];omega
  have hs : ((B all).size : Int) = (all.length : Int):=by rw [B_size]
  have hseg : (all.drop i).take (d + 1) = (all.drop i).take d ++ [all[i + d]]:=by
   rw [List.take_succ_eq_append_getElem (by rw [List.length_drop];omega),List.getElem_drop]
  rw [hseg,rdTail_snoc] at ht
  by_cases h48 : all[i + d] = 48
  ·rw [if_pos h48] at ht
   have ih:=make1_ev neg all hl i hi hlead e0 he0 he1 d (by omega) ht;refine Ev.step (fun k=>?_) ih;rw [quarryref11_Make.l1,if_pos (by omega),hw,if_pos (by omega),if_pos (by omega),hb,if_pos (by rw [h48];rfl),w64 _ (by omega) (by omega)]
   congr 1
   omega
  rw [if_neg h48] at ht
  have hbody : rdBody all = (all.drop i).take (d + 1):=by
   rw [hseg]
   show rdTail (rdLead all) = _
   rw [hlead,ht]
  have hlen : (rdBody all).length = d + 1:=by rw [hbody,List.length_take,List.length_drop];omega
  have hne : ¬ rdBody all = []:=fun h=>by rw [h] at hlen;simp at hlen
  have hll : (rdLead all).length = all.length - i:=by rw [hlead,List.length_drop]
  have he : e0 + ((rdLead all).length : Int) - ((rdBody all).length : Int) = e0 + ((all.length - (i + (d + 1)) : Nat) : Int):=by rw [hlen,hll];omega
  have hx : (B all).extract i (i + (d + 1)) = B (rdBody all):=by rw [extract_lft,lft_B,hbody]
  refine Ev.step (f:=fun k=>quarryref11_Make.j3 k neg (B all) (e0 + ((all.length - (i + (d + 1)) : Nat) : Int)) (i : Int) ((i + (d + 1) : Nat) : Int)) (fun k=>?_) (Ev.step (f:=fun _=>some (mkV neg all e0)) (fun k=>?_) (Ev.now _))
  ·rw [quarryref11_Make.l1,if_pos (by omega),hw,if_pos (by omega),if_pos (by omega),hb,if_neg (fun e=>h48 (UInt8.toNat_inj.mp (by show (all[i + d]).toNat = 48;omega)))]
  rw [quarryref11_Make.j3,if_neg (by omega),mkV,if_neg hne,he]
  by_cases h1 : e0 + ((all.length - (i + (d + 1)) : Nat) : Int) > 1073741824
  ·rw [if_pos h1,if_pos (.inl h1)]
  by_cases h2 : e0 + ((all.length - (i + (d + 1)) : Nat) : Int) < -1073741824
  ·rw [if_neg h1,if_pos h2,if_pos (.inr h2)]
  have h12 : ¬ (e0 + ((all.length - (i + (d + 1)) : Nat) : Int) > 1073741824 ∨ e0 + ((all.length - (i + (d + 1)) : Nat) : Int) < -1073741824):=fun h=>h.elim h1 h2
  rw [if_neg h1,if_neg h2,if_neg h12,if_pos (by omega),if_pos (by omega),if_pos (by omega),Int.toNat_natCast,Int.toNat_natCast,hx]
theorem make0_ev (neg : Bool) (all : List UInt8) (hl : all.length ≤ 1099511627776) (e0 : Int) (he0 : -4611686018427387904 ≤ e0) (he1 : e0 ≤ 4611686018427387904) :
  ∀ (d i : Nat),i + d = all.length → rdLead all = rdLead (all.drop i) → Ev (fun k=>quarryref11_Make.l0 k neg (B all) e0 (i : Int)) (mkV neg all e0)
 | 0,i,hd,ht=>by
  have e : all.drop i = []:=List.drop_of_length_le (by omega)
  have hlead : rdLead all = all.drop i:=by rw [ht,e];rfl
  have h:=make1_ev neg all hl i (by omega) hlead e0 he0 he1 0 (by omega) (by rw [e];rfl);refine Ev.step (f:=fun k=>quarryref11_Make.j1 k neg (B all) e0 (i : Int)) (fun k=>?_) (Ev.step (fun k=>?_) h)
  ·rw [quarryref11_Make.l0,if_neg (by rw [B_size];omega)]
  rw [quarryref11_Make.j1,B_size]
  congr 1
  ·omega
  omega
 | d + 1,i,hd,ht=>by
  have hlt : i < all.length:=by omega
  have hlt2 : i < (B all).size:=by rw [B_size];exact hlt
  have hb:=bt_get (B all) i hlt2;have hg : (B all)[i] = all[i]:=rfl
  rw [hg] at hb
  have hdr : all.drop i = all[i] :: all.drop (i + 1):=List.drop_eq_getElem_cons hlt
  rw [hdr,lead_cons] at ht
  by_cases h48 : all[i] = 48
  ·rw [if_pos h48] at ht
   refine Ev.step (fun k=>?_) (make0_ev neg all hl e0 he0 he1 d (i + 1) (by omega) ht);rw [quarryref11_Make.l0,if_pos (by rw [B_size];omega),if_pos (by omega),hb,if_pos (by rw [h48];rfl),w64s i (by omega)]
  rw [if_neg h48,← hdr] at ht
  have h:=make1_ev neg all hl i (by omega) ht e0 he0 he1 (all.length - i) (by omega) (by rw [List.take_of_length_le (by rw [List.length_drop];omega)]);refine Ev.step (f:=fun k=>quarryref11_Make.j1 k neg (B all) e0 (i : Int)) (fun k=>?_) (Ev.step (fun k=>?_) h)
  ·rw [quarryref11_Make.l0,if_pos (by rw [B_size];omega),if_pos (by omega),hb,if_neg (fun e=>h48 (UInt8.toNat_inj.mp (by show (all[i]).toNat = 48;omega)))]
  rw [quarryref11_Make.j1,B_size]
  congr 1
  ·omega
  omega
theorem make_ev (neg : Bool) (all : List UInt8) (hl : all.length ≤ 1099511627776) (e0 : Int) (he0 : -4611686018427387904 ≤ e0) (he1 : e0 ≤ 4611686018427387904) : Ev (fun k=>quarryref11_Make.f k neg (B all) e0) (mkV neg all e0) :=
 make0_ev neg all hl e0 he0 he1 all.length 0 (by omega) rfl
theorem whole_app : ∀ (l all : List UInt8),rdWhole l all = rdPoint (dgr l) (all ++ dgs l)
 | [],all=>by rw [rdWhole];simp [dgs,dgr]
 | c :: r,all=>by
  rw [rdWhole,dgs_cons,dgr_cons]
  cases h : rdD c with
  | true=>rw [if_pos rfl,if_pos rfl,if_pos rfl,whole_app r];simp
  | false=>rw [if_neg (by decide),if_neg (by decide),if_neg (by decide)];simp
theorem below_app : ∀ (l all : List UInt8) (down : Nat) (x : UInt8),rdBelow l all down x = rdExp (dgr l) (all ++ x :: dgs l) (down + 1 + (dgs l).length)
 | [],all,down,x=>by rw [rdBelow];simp [dgs,dgr]
 | c :: r,all,down,x=>by
  rw [rdBelow,dgs_cons,dgr_cons]
  cases h : rdD c with
  | true =>
   rw [if_pos rfl,if_pos rfl,if_pos rfl,below_app r];simp only [List.append_assoc,List.singleton_append,List.length_cons]
   congr 1
   omega
  | false=>rw [if_neg (by decide),if_neg (by decide),if_neg (by decide)];simp
def tens (l : List UInt8) : Int:=l.foldl rdE 0
theorem tens_app : ∀ (l : List UInt8) (e : Int) (x : UInt8),rdTens l e x = ((dgs l).foldl rdE (rdE e x),dgr l)
 | [],e,x=>rfl
 | c :: r,e,x=>by
  rw [rdTens,dgs_cons,dgr_cons]
  cases h : rdD c with
  | true=>rw [if_pos rfl,if_pos rfl,if_pos rfl,tens_app r];rfl
  | false=>rw [if_neg (by decide),if_neg (by decide),if_neg (by decide)];rfl
def expE (X : List UInt8) : Int :=
 match X with
 | []=>0
 | q :: ds=>if q = 45 then - tens ds else if q = 43 then tens ds else tens (q :: ds)
def Fits (o : RdOut) (all : List UInt8) (down : Nat) (X left : List UInt8) (ok : Bool) : Prop:=o.1 = ok ∧ o.2.2.2.2 = left ∧ (ok = true → o.2.1 = all ∧ o.2.2.1 = down ∧ o.2.2.2.1 = expE X)
theorem pow_fits (l all : List UInt8) (down : Nat) (turned : Bool) (X : List UInt8) (hX : ∀ ds,dgs l = ds → ds ≠ [] → expE X = if turned = true then - tens ds else tens ds) :
  Fits (rdPow l all down turned) all down X (if dgs l = [] then l else dgr l) (if dgs l = [] then false else true):=by
 unfold rdPow
 cases l with
 | nil=>exact ⟨rfl,rfl,fun h=>by cases h⟩
 | cons d r =>
  simp only;have e1:=dgs_cons d r;have e2:=dgr_cons d r
  cases h : rdD d with
  | true =>
   rw [h,if_pos rfl] at e1 e2
   have hne : ¬ dgs (d :: r) = []:=by rw [e1];simp
   rw [if_neg hne,if_neg hne,if_pos rfl,tens_app];refine ⟨rfl,e2.symm,fun _=>⟨rfl,rfl,?_⟩⟩;rw [hX _ rfl hne,e1];rfl
  | false =>
   rw [h,if_neg (by decide)] at e1 e2
   rw [if_pos e1,if_pos e1,if_neg (by decide)];exact ⟨rfl,rfl,fun h=>by cases h⟩
theorem exp_fits (l all : List UInt8) (down : Nat) : Fits (rdExp l all down) all down (expV l).1 (expV l).2.1 (expV l).2.2:=by
 cases l with
 | nil=>exact ⟨rfl,rfl,fun _=>⟨rfl,rfl,rfl⟩⟩
 | cons c r =>
  rw [rdExp_cons,expV_cons]
  by_cases hc : c = 101 ∨ c = 69
  ·rw [if_pos hc,if_pos hc]
   cases r with
   | nil=>exact ⟨rfl,rfl,fun h=>by cases h⟩
   | cons q t =>
    simp only
    by_cases h43 : q = 43
    ·subst h43;rw [if_pos rfl,if_pos (.inl rfl)]
     by_cases hd : dgs t = []
     ·have h:=pow_fits t all down false [] (fun ds e hne=>absurd (e.symm.trans hd) hne)
      rw [if_pos hd,if_pos hd] at h
      rw [if_pos hd];exact h
     have h:=pow_fits t all down false (43 :: dgs t) (fun ds e hne=>by rw [← e];rfl)
     rw [if_neg hd,if_neg hd] at h
     rw [if_neg hd];exact h
    by_cases h45 : q = 45
    ·subst h45;rw [if_neg (by decide),if_pos rfl,if_pos (.inr rfl)]
     by_cases hd : dgs t = []
     ·have h:=pow_fits t all down true [] (fun ds e hne=>absurd (e.symm.trans hd) hne)
      rw [if_pos hd,if_pos hd] at h
      rw [if_pos hd];exact h
     have h:=pow_fits t all down true (45 :: dgs t) (fun ds e hne=>by rw [← e];rfl)
     rw [if_neg hd,if_neg hd] at h
     rw [if_neg hd];exact h
    rw [if_neg h43,if_neg h45,if_neg (fun h=>h.elim h43 h45)]
    by_cases hd : dgs (q :: t) = []
    ·have h:=pow_fits (q :: t) all down false [] (fun ds e hne=>absurd (e.symm.trans hd) hne)
     rw [if_pos hd,if_pos hd] at h
     rw [if_pos hd];exact h
    have h:=pow_fits (q :: t) all down false (dgs (q :: t)) (fun ds e hne=>by
     rw [dgs_cons] at hd ⊢
     cases hq : rdD q with
     | true =>
      rw [if_pos rfl]
      rw [dgs_cons,hq,if_pos rfl] at e
      rw [← e]
      show (if q = 45 then _ else if q = 43 then _ else _) = _
      rw [if_neg h45,if_neg h43];rfl
     | false=>rw [hq] at hd;exact absurd rfl hd)
    rw [if_neg hd,if_neg hd] at h
    rw [if_neg hd];exact h
  rw [if_neg hc,if_neg hc];exact ⟨rfl,rfl,fun _=>⟨rfl,rfl,rfl⟩⟩
theorem point_fits (l W : List UInt8) : Fits (rdPoint l W) ((pointV W l).1 ++ (pointV W l).2.1) (pointV W l).2.1.length (pointV W l).2.2.1 (pointV W l).2.2.2.1 (pointV W l).2.2.2.2:=by
 cases l with
 | nil =>
  show Fits (rdExp [] W 0) (W ++ []) 0 (expV []).1 (expV []).2.1 (expV []).2.2
  rw [List.append_nil];exact exp_fits [] W 0
 | cons c r =>
  have eP : pointV W (c :: r) = if c = 46 then (if dgs r = [] then (W,[],[],r,false) else (W,dgs r,expV (dgr r))) else (W,[],expV (c :: r)):=rfl
  rw [rdPoint_cons,eP]
  by_cases hc : c = 46
  ·rw [if_pos hc,if_pos hc]
   cases r with
   | nil=>exact ⟨rfl,rfl,fun h=>by cases h⟩
   | cons d q =>
    simp only;have e1:=dgs_cons d q;have e2:=dgr_cons d q
    cases h : rdD d with
    | true =>
     rw [h,if_pos rfl] at e1 e2
     have hne : ¬ dgs (d :: q) = []:=by rw [e1];simp
     rw [if_pos rfl,if_neg hne,below_app,e1,e2];have:=exp_fits (dgr q) (W ++ d :: dgs q) (0 + 1 + (dgs q).length)
     rw [show 0 + 1 + (dgs q).length = (d :: dgs q).length from by rw [List.length_cons];omega] at this ⊢
     exact this
    | false =>
     rw [h,if_neg (by decide)] at e1 e2
     rw [if_neg (by decide),if_pos e1];exact ⟨rfl,rfl,fun h=>by cases h⟩
  rw [if_neg hc,if_neg hc]
  show Fits (rdExp (c :: r) W 0) (W ++ []) 0 (expV (c :: r)).1 (expV (c :: r)).2.1 (expV (c :: r)).2.2
  rw [List.append_nil];exact exp_fits (c :: r) W 0
theorem whole_fits (l : List UInt8) : Fits (rdFirst l) ((wholeV l).1 ++ (wholeV l).2.1) (wholeV l).2.1.length (wholeV l).2.2.1 (wholeV l).2.2.2.1 (wholeV l).2.2.2.2:=by
 cases l with
 | nil=>exact ⟨rfl,rfl,fun h=>by cases h⟩
 | cons d r =>
  have eW : wholeV (d :: r) = if rdD d = true then (if d = 48 then pointV [d] r else pointV (d :: dgs r) (dgr r)) else ([],[],[],d :: r,false):=rfl
  have eF : rdFirst (d :: r) = if rdD d = true then (if d = 48 then rdPoint r [d] else rdWhole r [d]) else (false,[],0,0,d :: r):=rfl
  rw [eW,eF]
  by_cases h : rdD d = true
  ·rw [if_pos h,if_pos h]
   by_cases h48 : d = 48
   ·rw [if_pos h48,if_pos h48];exact point_fits r [d]
   rw [if_neg h48,if_neg h48,whole_app];exact point_fits (dgr r) (d :: dgs r)
  rw [if_neg h,if_neg h];exact ⟨rfl,rfl,fun h=>by cases h⟩
theorem scan_fits (l : List UInt8) : (rdAll l).1 = (scanV l).1 ∧ Fits (rdAll l).2 ((scanV l).2.1 ++ (scanV l).2.2.1) (scanV l).2.2.1.length (scanV l).2.2.2.1 (scanV l).2.2.2.2.1 (scanV l).2.2.2.2.2:=by
 cases l with
 | nil=>exact ⟨rfl,whole_fits []⟩
 | cons c r =>
  have e1 : rdAll (c :: r) = if c = 45 then (true,rdFirst r) else (false,rdFirst (c :: r)):=rfl
  have e2 : scanV (c :: r) = if c = 45 then (true,wholeV r) else (false,wholeV (c :: r)):=rfl
  rw [e1,e2]
  by_cases h : c = 45
  ·rw [if_pos h,if_pos h];exact ⟨rfl,whole_fits r⟩
  rw [if_neg h,if_neg h];exact ⟨rfl,whole_fits (c :: r)⟩
def AllD (l : List UInt8) : Prop:=∀ c,c ∈ l → rdD c = true
theorem dgs_all : ∀ l : List UInt8,AllD (dgs l)
 | []=>fun c h=>by cases h
 | c :: r=>by
  rw [dgs_cons]
  cases h : rdD c with
  | true =>
   rw [if_pos rfl];intro x hx
   rcases List.mem_cons.1 hx with rfl|hx
   ·exact h
   exact dgs_all r x hx
  | false =>
   rw [if_neg (by decide)];intro x hx;cases hx
def FormX (X : List UInt8) : Prop:=X = [] ∨ ∃ q ds,X = q :: ds ∧ AllD ds ∧ (q = 43 ∨ q = 45 ∨ rdD q = true)
theorem form_dgs (l : List UInt8) : FormX (dgs l):=by
 have h:=dgs_all l
 cases e : dgs l with
 | nil=>exact .inl rfl
 | cons q ds =>
  rw [e] at h
  exact .inr ⟨q,ds,rfl,fun c hc=>h c (List.mem_cons_of_mem _ hc),.inr (.inr (h q List.mem_cons_self))⟩
theorem dgr_length (l : List UInt8) : (dgr l).length + (dgs l).length = l.length:=by have:=dg_len l;omega
theorem exp_form (l : List UInt8) : FormX (expV l).1 ∧ (expV l).1.length ≤ l.length ∧ (expV l).2.1.length ≤ l.length:=by
 cases l with
 | nil=>exact ⟨.inl rfl,Nat.le_refl _,Nat.le_refl _⟩
 | cons c r =>
  rw [expV_cons]
  by_cases hc : c = 101 ∨ c = 69
  ·rw [if_pos hc]
   cases r with
   | nil=>exact ⟨.inl rfl,by simp,by simp⟩
   | cons q t =>
    simp only;have h1:=dgr_length t;have h2:=dgr_length (q :: t)
    rw [List.length_cons] at h2
    by_cases hq : q = 43 ∨ q = 45
    ·rw [if_pos hq]
     by_cases hd : dgs t = []
     ·rw [if_pos hd];exact ⟨.inl rfl,by simp,by simp only [List.length_cons];omega⟩
     rw [if_neg hd];exact ⟨.inr ⟨q,dgs t,rfl,dgs_all t,hq.elim .inl (fun h=>.inr (.inl h))⟩,by simp only [List.length_cons];omega,by simp only [List.length_cons];omega⟩
    rw [if_neg hq]
    by_cases hd : dgs (q :: t) = []
    ·rw [if_pos hd];exact ⟨.inl rfl,by simp,by simp⟩
    rw [if_neg hd];exact ⟨form_dgs _,by simp only [List.length_cons];omega,by simp only [List.length_cons];omega⟩
  rw [if_neg hc];exact ⟨.inl rfl,by simp,Nat.le_refl _⟩
theorem point_form (W l : List UInt8) : FormX (pointV W l).2.2.1 ∧ (pointV W l).1.length + (pointV W l).2.1.length + (pointV W l).2.2.1.length ≤ W.length + l.length ∧ (pointV W l).2.2.2.1.length ≤ l.length:=by
 cases l with
 | nil=>exact ⟨.inl rfl,by simp [pointV,expV],Nat.le_refl _⟩
 | cons c r =>
  have eP : pointV W (c :: r) = if c = 46 then (if dgs r = [] then (W,[],[],r,false) else (W,dgs r,expV (dgr r))) else (W,[],expV (c :: r)):=rfl
  rw [eP]
  by_cases hc : c = 46
  ·rw [if_pos hc];have h1:=dgr_length r
   by_cases hd : dgs r = []
   ·rw [if_pos hd];exact ⟨.inl rfl,by simp,by simp⟩
   rw [if_neg hd];obtain ⟨h2,h3,h4⟩:=exp_form (dgr r);exact ⟨h2,by simp only [List.length_cons];omega,by simp only [List.length_cons];omega⟩
  rw [if_neg hc];obtain ⟨h2,h3,h4⟩:=exp_form (c :: r);exact ⟨h2,by simp only [List.length_nil];omega,h4⟩
theorem whole_form (l : List UInt8) : FormX (wholeV l).2.2.1 ∧ (wholeV l).1.length + (wholeV l).2.1.length + (wholeV l).2.2.1.length ≤ l.length ∧ (wholeV l).2.2.2.1.length ≤ l.length:=by
 cases l with
 | nil=>exact ⟨.inl rfl,Nat.le_refl _,Nat.le_refl _⟩
 | cons d r =>
  have eW : wholeV (d :: r) = if rdD d = true then (if d = 48 then pointV [d] r else pointV (d :: dgs r) (dgr r)) else ([],[],[],d :: r,false):=rfl
  rw [eW]
  by_cases h : rdD d = true
  ·rw [if_pos h];have h1:=dgr_length r
   by_cases h48 : d = 48
   ·rw [if_pos h48];obtain ⟨h2,h3,h4⟩:=point_form [d] r
    simp only [List.length_cons,List.length_nil] at h3 ⊢
    exact ⟨h2,by omega,by omega⟩
   rw [if_neg h48];obtain ⟨h2,h3,h4⟩:=point_form (d :: dgs r) (dgr r)
   simp only [List.length_cons] at h3 ⊢
   exact ⟨h2,by omega,by omega⟩
  rw [if_neg h];exact ⟨.inl rfl,by simp,Nat.le_refl _⟩
theorem scan_form (l : List UInt8) : FormX (scanV l).2.2.2.1 ∧ (scanV l).2.1.length + (scanV l).2.2.1.length + (scanV l).2.2.2.1.length ≤ l.length ∧ (scanV l).2.2.2.2.1.length ≤ l.length:=by
 cases l with
 | nil=>exact whole_form []
 | cons c r =>
  have e2 : scanV (c :: r) = if c = 45 then (true,wholeV r) else (false,wholeV (c :: r)):=rfl
  rw [e2]
  by_cases h : c = 45
  ·rw [if_pos h];obtain ⟨h2,h3,h4⟩:=whole_form r;simp only [List.length_cons];exact ⟨h2,by omega,by omega⟩
  rw [if_neg h];exact whole_form (c :: r)
def Rel (e n : Int) : Prop:=(e = n ∧ 0 ≤ n ∧ n ≤ 1000000000000000) ∨ (n > 1000000000000000 ∧ e > 1000000000000000)
def clamp (n : Int) : Int:=if n > 1000000000000000 then 1000000000000001 else n
theorem num_digs : ∀ (ds : List UInt8) (neg : Bool) (n e : Int),AllD ds → Rel e n → ∃ n',numL ds neg n = (if neg = true then - clamp n' else clamp n') ∧ Rel (ds.foldl rdE e) n'
 | [],neg,n,e,_,hr=>⟨n,rfl,hr⟩
 | c :: r,neg,n,e,hd,hr=>by
  have hc:=hd c List.mem_cons_self
  have hdr : 48 ≤ c.toNat ∧ c.toNat ≤ 57:=by unfold rdD at hc;exact of_decide_eq_true hc
  have h45 : ¬ c = 45:=fun h=>by rw [h] at hc;exact absurd hc (by decide)
  rw [numL,if_neg h45,List.foldl_cons];refine num_digs r neg _ _ (fun x hx=>hd x (List.mem_cons_of_mem _ hx)) ?_
  rcases hr with ⟨rfl,h0,h1⟩|⟨h1,h2⟩
  ·have hE : rdE e c = 10 * e + ((c.toNat : Int) - 48):=by unfold rdE;rw [if_pos (by omega)]
   rw [if_pos ⟨hc,h1⟩,hE]
   by_cases hn : 10 * e + ((c.toNat : Int) - 48) ≤ 1000000000000000
   ·exact .inl ⟨by omega,by omega,by omega⟩
   exact .inr ⟨by omega,by omega⟩
  have hE : rdE e c > 1000000000000000:=by unfold rdE;split <;> omega
  rw [if_neg (fun h=>by have:=h.2;omega)];exact .inr ⟨h1,hE⟩
def Sat (E N : Int) : Prop:=(E = N ∧ -1000000000000000 ≤ N ∧ N ≤ 1000000000000000) ∨ (E > 1000000000000000 ∧ N = 1000000000000001) ∨ (E < -1000000000000000 ∧ N = -1000000000000001)
theorem sat_pos {e n : Int} (h : Rel e n) : Sat e (clamp n):=by
 unfold clamp
 rcases h with ⟨rfl,h0,h1⟩|⟨h1,h2⟩
 ·rw [if_neg (by omega)];exact .inl ⟨rfl,by omega,by omega⟩
 rw [if_pos h1];exact .inr (.inl ⟨h2,rfl⟩)
theorem sat_neg {e n : Int} (h : Rel e n) : Sat (-e) (- clamp n):=by
 unfold clamp
 rcases h with ⟨rfl,h0,h1⟩|⟨h1,h2⟩
 ·rw [if_neg (by omega)];exact .inl ⟨rfl,by omega,by omega⟩
 rw [if_pos h1];exact .inr (.inr ⟨by omega,rfl⟩)
theorem exp_sat (X : List UInt8) (h : FormX X) : Sat (expE X) (numL X false 0):=by
 have h00 : Rel 0 0:=.inl ⟨rfl,by omega,by omega⟩
 rcases h with rfl|⟨q,ds,rfl,hd,hq⟩
 ·exact .inl ⟨rfl,by show (-1000000000000000 : Int) ≤ 0;omega,by show (0 : Int) ≤ 1000000000000000;omega⟩
 show Sat (if q = 45 then - tens ds else if q = 43 then tens ds else tens (q :: ds)) _
 by_cases h45 : q = 45
 ·subst h45;rw [if_pos rfl,numL,if_pos rfl,if_neg (fun h=>absurd h.1 (by decide))];obtain ⟨n',e1,e2⟩:=num_digs ds true 0 0 hd h00;rw [e1,if_pos rfl];exact sat_neg e2
 by_cases h43 : q = 43
 ·subst h43;rw [if_neg (by decide),if_pos rfl,numL,if_neg (by decide),if_neg (fun h=>absurd h.1 (by decide))];obtain ⟨n',e1,e2⟩:=num_digs ds false 0 0 hd h00;rw [e1,if_neg (by decide)];exact sat_pos e2
 rw [if_neg h45,if_neg h43]
 have hqd : rdD q = true:=by rcases hq with h|h|h;exact absurd h h43;exact absurd h h45;exact h
 obtain ⟨n',e1,e2⟩:=num_digs (q :: ds) false 0 0 (fun c hc=>by rcases List.mem_cons.1 hc with rfl|hc;exact hqd;exact hd c hc) h00;rw [e1,if_neg (by decide)];exact sat_pos e2
theorem lead_len (l : List UInt8) : (rdLead l).length ≤ l.length:=by unfold rdLead;exact (List.dropWhile_suffix _).length_le
theorem body_len (l : List UInt8) : (rdBody l).length ≤ (rdLead l).length:=by
 unfold rdBody
 rw [List.length_reverse];have:=(List.dropWhile_suffix (· == 48) (l:=(rdLead l).reverse)).length_le
 rw [List.length_reverse] at this
 exact this
theorem sat_eq (neg : Bool) (all : List UInt8) (down : Nat) (E N : Int) (h : Sat E N) (hl : all.length ≤ 1099511627776) (hd : down ≤ 1099511627776) : numV neg all down E = mkV neg all (N - down):=by
 have h1:=lead_len all;have h2:=body_len all
 unfold numV mkV
 by_cases hb : rdBody all = []
 ·rw [if_pos hb,if_pos hb]
 rw [if_neg hb,if_neg hb]
 rcases h with ⟨rfl,_,_⟩|⟨h3,rfl⟩|⟨h3,rfl⟩
 ·rfl
 ·rw [if_pos (.inl (by omega)),if_pos (.inl (by omega))]
 rw [if_pos (.inr (by omega)),if_pos (.inr (by omega))]
theorem sat_bd {E N : Int} (h : Sat E N) : -1000000000000001 ≤ N ∧ N ≤ 1000000000000001:=by
 rcases h with ⟨_,_,_⟩|⟨_,rfl⟩|⟨_,rfl⟩ <;> omega
theorem number_f (X : List UInt8) (hX : X.length ≤ 1099511627776) : Ev (fun k=>quarryref11_number.f k (B X) 1000000000000000) (numL X false 0):=number_ev (B X) (by rw [B_size];exact hX) (B X).size 0 false 0 rfl (by omega) (by omega)
theorem read_ev (s : ByteArray) (hs : s.size ≤ 1099511627776) (i : Nat) (hi : i ≤ s.size) : Ev (fun k=>quarryref11_Read.f k s (i : Int)) (decV s (i : Int)):=by
 have hv : decV s (i : Int) = decOut s (rdAll (lft s i)).1 (rdAll (lft s i)).2:=by unfold decV;rw [if_neg (fun h=>by omega),Int.toNat_natCast]
 obtain ⟨hn,hf1,hf2,hf3⟩:=scan_fits (lft s i);obtain ⟨hX,hlen,hleft⟩:=scan_form (lft s i)
 rw [lft_len] at hlen
 have hsc:=scan_ev s hs i hi
 generalize scanV (lft s i) = sv at *
 obtain ⟨neg,W,Bl,X,left,ok⟩:=sv
 simp only at hn hf1 hf2 hf3 hX hlen hleft hsc
 generalize rdAll (lft s i) = ra at *
 obtain ⟨neg',ok',all,down,E,left'⟩:=ra
 simp only at hn hf1 hf2 hf3
 subst hn;subst hf1;subst hf2;rw [hv]
 have body : Ev (fun k=>quarryref11_Read.j0 k s (i : Int) false) (decOut s neg' (ok',all,down,E,left')):=by
  cases ok' with
  | false =>
   have e1 : decOut s neg' (false,all,down,E,left') = (false,⟨#[]⟩,0,fin s left',110):=decOut_bad s neg' (all,down,E,left');rw [e1];refine Ev.step (f:=fun k=>(quarryref11_scan.f k s (i : Int)).bind fun b=>if b.2.2.2.2.2 = true then (quarryref11_number.f k b.2.2.2.1 1000000000000000).bind fun t176=>(if b.2.1.size + b.2.2.1.size ≤ 9223372036854775807 then ((quarryref11_Make.f k b.1 (b.2.1 ++ b.2.2.1) (wrap64 (t176 - (b.2.2.1.size : Int)))).bind fun bt177=>(if bt177.2.2.2 = true then (some (bt177.1,bt177.2.1,bt177.2.2.1,b.2.2.2.2.1,0)) else (some (false,(⟨#[]⟩ : ByteArray),0,b.2.2.2.2.1,111)))) else (none)) else some (false,(⟨#[]⟩ : ByteArray),0,b.2.2.2.2.1,110)) (fun k=>?_) (Ev.bind hsc ?_)
   ·rw [quarryref11_Read.j0,if_neg (by decide)]
   exact Ev.congr (fun k=>if_neg Bool.false_ne_true) (Ev.now _)
  | true =>
   obtain ⟨hall,hdown,hE⟩:=hf3 rfl;subst hall;subst hdown;subst hE;have hsat:=exp_sat X hX;have hbd:=sat_bd hsat;have hq:=sat_eq neg' (W ++ Bl) Bl.length (expE X) (numL X false 0) hsat (by rw [List.length_append];omega) (by omega);have hnum:=number_f X (by omega);have hmk:=make_ev neg' (W ++ Bl) (by rw [List.length_append];omega) (numL X false 0 - (Bl.length : Int)) (by omega) (by omega)
   have hres : Ev (fun k=>(quarryref11_Make.f k neg' (B W ++ B Bl) (wrap64 (numL X false 0 - ((B Bl).size : Int)))).bind fun bt177=>(if bt177.2.2.2 = true then (some (bt177.1,bt177.2.1,bt177.2.2.1,fin s left',(0 : Int))) else (some (false,(⟨#[]⟩ : ByteArray),(0 : Int),fin s left',(111 : Int))))) (decOut s neg' (true,W ++ Bl,Bl.length,expE X,left')):=by
    rw [B_app,B_size,w64 _ (by omega) (by omega)];refine Ev.bind (f:=fun _ bt177=>_) hmk ?_;rw [← hq]
    generalize hg : numV neg' (W ++ Bl) Bl.length (expE X) = q
    obtain ⟨q1,q2,q3,q4⟩:=q
    cases q4 with
    | true=>rw [decOut_yes _ _ _ _ _ _ _ _ _ hg];exact Ev.congr (fun k=>if_pos rfl) (Ev.now _)
    | false=>rw [decOut_no _ _ _ _ _ _ _ _ _ hg];exact Ev.congr (fun k=>if_neg Bool.false_ne_true) (Ev.now _)
   refine Ev.step (f:=fun k=>(quarryref11_scan.f k s (i : Int)).bind fun b=>if b.2.2.2.2.2 = true then (quarryref11_number.f k b.2.2.2.1 1000000000000000).bind fun t176=>(if b.2.1.size + b.2.2.1.size ≤ 9223372036854775807 then ((quarryref11_Make.f k b.1 (b.2.1 ++ b.2.2.1) (wrap64 (t176 - (b.2.2.1.size : Int)))).bind fun bt177=>(if bt177.2.2.2 = true then (some (bt177.1,bt177.2.1,bt177.2.2.1,b.2.2.2.2.1,0)) else (some (false,(⟨#[]⟩ : ByteArray),0,b.2.2.2.2.1,111)))) else (none)) else some (false,(⟨#[]⟩ : ByteArray),0,b.2.2.2.2.1,110)) (fun k=>?_) (Ev.bind hsc ?_)
   ·rw [quarryref11_Read.j0,if_neg (by decide)]
   refine Ev.congr (fun k=>if_pos rfl) (Ev.bind (f:=fun k t176=>if (B W).size + (B Bl).size ≤ 9223372036854775807 then _ else _) hnum ?_);refine Ev.congr (fun k=>if_pos (by rw [B_size,B_size];omega)) ?_;exact hres
 refine Ev.congr (fun k=>?_) body
 unfold quarryref11_Read.f
 rw [if_neg (by omega),decide_eq_false (by omega)]
theorem decV_end (s : ByteArray) (i : Nat) (hi : i ≤ s.size) : (decV s (i : Int)).2.2.2.1 ≤ (s.size : Int) ∧ ((decV s (i : Int)).2.2.2.2 = 0 ∨ (decV s (i : Int)).2.2.2.2 = 110 ∨ (decV s (i : Int)).2.2.2.2 = 111):=by
 have hv : decV s (i : Int) = decOut s (rdAll (lft s i)).1 (rdAll (lft s i)).2:=by unfold decV;rw [if_neg (fun h=>by omega),Int.toNat_natCast]
 rw [hv]
 unfold decOut
 simp only
 split
 ·exact ⟨by simp only;omega,.inr (.inl rfl)⟩
 split
 ·exact ⟨by simp only;omega,.inl rfl⟩
 split
 ·exact ⟨by simp only;omega,.inr (.inr rfl)⟩
 exact ⟨by simp only;omega,.inl rfl⟩
theorem of_ev (s : ByteArray) (hs : s.size ≤ 1099511627776) : ∃ r,decimal_Of.f s = some r ∧ Ev (fun k=>quarryref11_Of.f k s) r ∧ (r.2.2.2 = 0 ∨ r.2.2.2 = 110 ∨ r.2.2.2 = 111):=by
 have hr:=read_ev s hs 0 (by omega);obtain ⟨he,hc⟩:=decV_end s 0 (by omega)
 have hf : decimal_Read.f s 0 = some (decV s ((0 : Nat) : Int)):=by unfold decimal_Read.f;rw [if_pos hs];rfl
 generalize decV s ((0 : Nat) : Int) = d at *
 obtain ⟨d1,d2,d3,d4,d5⟩:=d
 simp only at he hc
 by_cases h110 : d5 = 110
 ·refine ⟨(false,⟨#[]⟩,0,110),?_,?_,.inr (.inl rfl)⟩
  ·unfold decimal_Of.f;rw [hf,Option.bind_some,if_pos h110]
  refine Ev.congr (fun k=>?_) (Ev.bind (f:=fun _ b=>if b.2.2.2.2 = 110 then some (false,(⟨#[]⟩ : ByteArray),0,110) else if b.2.2.2.1 = (s.size : Int) then some (b.1,b.2.1,b.2.2.1,b.2.2.2.2) else some (false,(⟨#[]⟩ : ByteArray),0,110)) hr ?_)
  ·rfl
  exact Ev.congr (fun k=>if_pos h110) (Ev.now _)
 by_cases hend : d4 < (s.size : Int)
 ·refine ⟨(false,⟨#[]⟩,0,110),?_,?_,.inr (.inl rfl)⟩
  ·unfold decimal_Of.f;rw [hf,Option.bind_some,if_neg h110,if_pos hend]
  refine Ev.congr (fun k=>?_) (Ev.bind (f:=fun _ b=>if b.2.2.2.2 = 110 then some (false,(⟨#[]⟩ : ByteArray),0,110) else if b.2.2.2.1 = (s.size : Int) then some (b.1,b.2.1,b.2.2.1,b.2.2.2.2) else some (false,(⟨#[]⟩ : ByteArray),0,110)) hr ?_)
  ·rfl
  exact Ev.congr (fun k=>(if_neg h110).trans (if_neg (by simp only;omega))) (Ev.now _)
 refine ⟨(d1,d2,d3,d5),?_,?_,hc⟩
 ·unfold decimal_Of.f;rw [hf,Option.bind_some,if_neg h110,if_neg hend]
 refine Ev.congr (fun k=>?_) (Ev.bind (f:=fun _ b=>if b.2.2.2.2 = 110 then some (false,(⟨#[]⟩ : ByteArray),0,110) else if b.2.2.2.1 = (s.size : Int) then some (b.1,b.2.1,b.2.2.1,b.2.2.2.2) else some (false,(⟨#[]⟩ : ByteArray),0,110)) hr ?_)
 ·rfl
 exact Ev.congr (fun k=>(if_neg h110).trans (if_pos (by simp only;omega))) (Ev.now _)
end Go.Proofs.YtfaegleohhemkaaDoor.QDecTreeLikes
namespace Go.Proofs.YtfaegleohhemkaaDoor.QUtfTreeLikes
open Go.RowKit Go.Proofs.YtfaegleohhemkaaDoor.PTreeLikes Go.Proofs.YtfaegleohhemkaaDoorW.PrintWords Go.Proofs.YtfaegleohhemkaaDoorW.PrintLast
set_option linter.unusedVariables false
set_option linter.unusedSimpArgs false
theorem w64 (n : Int) (h : -9223372036854775808 ≤ n) (h2 : n ≤ 9223372036854775807) : wrap64 n = n:=by unfold wrap64;omega
theorem w32 (n : Int) (h : -2147483648 ≤ n) (h2 : n ≤ 2147483647) : wrap32 n = n:=by unfold wrap32;omega
def sizeV (c : Int) : Int:=if c < 0 then 0 else if c > 1114111 then 0 else if 55296 ≤ c ∧ c ≤ 57343 then 0 else if c < 128 then 1 else if c < 2048 then 2 else if c < 65536 then 3 else 4
theorem size_ev (c : Int) : Ev (fun k=>quarryref05_Size.f k c) (sizeV c):=by
 have j (b : Bool) : Ev (fun k=>quarryref05_Size.j0 k c b) (if b = true then 0 else if c < 128 then 1 else if c < 2048 then 2 else if c < 65536 then 3 else 4):=by
  refine Ev.step (f:=fun _=>some _) (fun k=>?_) (Ev.now _);rw [quarryref05_Size.j0];cases b
  ·rw [if_neg (by decide),if_neg Bool.false_ne_true]
   by_cases h1 : c < 128
   ·rw [if_pos h1,if_pos h1]
   by_cases h2 : c < 2048
   ·rw [if_neg h1,if_neg h1,if_pos h2,if_pos h2]
   by_cases h3 : c < 65536
   ·rw [if_neg h1,if_neg h1,if_neg h2,if_neg h2,if_pos h3,if_pos h3]
   rw [if_neg h1,if_neg h1,if_neg h2,if_neg h2,if_neg h3,if_neg h3]
  rw [if_pos rfl,if_pos rfl]
 unfold sizeV
 by_cases h0 : c < 0
 ·rw [if_pos h0];exact Ev.congr (fun k=>by unfold quarryref05_Size.f;rw [if_pos h0]) (j true)
 rw [if_neg h0]
 by_cases h1 : c > 1114111
 ·rw [if_pos h1];exact Ev.congr (fun k=>by unfold quarryref05_Size.f;rw [if_neg h0,if_pos h1]) (j true)
 rw [if_neg h1]
 by_cases h2 : c ≥ 55296
 ·by_cases h3 : c ≤ 57343
  ·rw [if_pos ⟨h2,h3⟩];exact Ev.congr (fun k=>by unfold quarryref05_Size.f;rw [if_neg h0,if_neg h1,if_pos h2,decide_eq_true h3]) (j true)
  rw [if_neg (fun h=>h3 h.2)];exact Ev.congr (fun k=>by unfold quarryref05_Size.f;rw [if_neg h0,if_neg h1,if_pos h2,decide_eq_false h3]) (j false)
 rw [if_neg (fun h=>h2 h.1)];exact Ev.congr (fun k=>by unfold quarryref05_Size.f;rw [if_neg h0,if_neg h1,if_neg h2]) (j false)
theorem hit_ev (b : List Int) (size high c0 : Int) (hh : high ≤ 2147483646) (h0 : c0 ≤ high) (hs : sizeV c0 = size) : ∀ (c : Int),0 ≤ c → c ≤ c0 → (∀ x,c ≤ x → x < c0 → ¬ sizeV x = size) → (c ≤ 55296 → 55296 < c0 → high > 57343 → 57344 ≤ c0) →
  Ev (fun k=>quarryref05_Begins.l0 k b size high c) (true,c0,((b.length : Int) == size))
 | c,hc,hcc,hn,hj=>by
  by_cases he : c = c0
  ·subst he;refine Ev.step (f:=fun k=>(quarryref05_Size.f k c).bind fun t=>if t = size then some (true,c,((b.length : Int) == size)) else (if c = 55296 then (if high > 57343 then (quarryref05_Begins.l0 k b size high (57343 + 1)) else (quarryref05_Begins.l0 k b size high (wrap64 (c + 1)))) else (quarryref05_Begins.l0 k b size high (wrap64 (c + 1))))) (fun k=>?_) (Ev.bind (size_ev c) ?_)
   ·rw [quarryref05_Begins.l0,if_pos h0,w32 c (by omega) (by omega)]
   exact Ev.congr (fun k=>if_pos hs) (Ev.now _)
  have hlt : c < c0:=by omega
  have hns:=hn c (Int.le_refl _) hlt;refine Ev.step (f:=fun k=>(quarryref05_Size.f k c).bind fun t=>if t = size then some (true,c,((b.length : Int) == size)) else (if c = 55296 then (if high > 57343 then (quarryref05_Begins.l0 k b size high (57343 + 1)) else (quarryref05_Begins.l0 k b size high (wrap64 (c + 1)))) else (quarryref05_Begins.l0 k b size high (wrap64 (c + 1))))) (fun k=>?_) (Ev.bind (size_ev c) ?_)
  ·rw [quarryref05_Begins.l0,if_pos (by omega),w32 c (by omega) (by omega)]
  refine Ev.congr (fun k=>if_neg hns) ?_
  by_cases hj1 : c = 55296
  ·by_cases hj2 : high > 57343
   ·have:=hj (by omega) (by omega) hj2;refine Ev.congr (fun k=>(if_pos hj1).trans (if_pos hj2)) ?_;exact hit_ev b size high c0 hh h0 hs 57344 (by omega) (by omega) (fun x h1 h2=>hn x (by omega) h2) (fun h=>by omega)
   refine Ev.congr (fun k=>(if_pos hj1).trans ((if_neg hj2).trans (by rw [w64 _ (by omega) (by omega)]))) ?_;exact hit_ev b size high c0 hh h0 hs (c + 1) (by omega) (by omega) (fun x h1 h2=>hn x (by omega) h2) (fun h=>by omega)
  refine Ev.congr (fun k=>(if_neg hj1).trans (by rw [w64 _ (by omega) (by omega)])) ?_;exact hit_ev b size high c0 hh h0 hs (c + 1) (by omega) (by omega) (fun x h1 h2=>hn x (by omega) h2) (fun h h2 h3=>hj (by omega) h2 h3)
 termination_by c=>(c0 - c).toNat
theorem miss_ev (b : List Int) (size high : Int) (hh : high ≤ 2147483646) : ∀ (c : Int),0 ≤ c → (∀ x,c ≤ x → x ≤ high → ¬ sizeV x = size) →
  Ev (fun k=>quarryref05_Begins.l0 k b size high c) (false,0,false)
 | c,hc,hn=>by
  by_cases he : c ≤ high
  ·have hns:=hn c (Int.le_refl _) he;refine Ev.step (f:=fun k=>(quarryref05_Size.f k c).bind fun t=>if t = size then some (true,c,((b.length : Int) == size)) else (if c = 55296 then (if high > 57343 then (quarryref05_Begins.l0 k b size high (57343 + 1)) else (quarryref05_Begins.l0 k b size high (wrap64 (c + 1)))) else (quarryref05_Begins.l0 k b size high (wrap64 (c + 1))))) (fun k=>?_) (Ev.bind (size_ev c) ?_)
   ·rw [quarryref05_Begins.l0,if_pos he,w32 c (by omega) (by omega)]
   refine Ev.congr (fun k=>if_neg hns) ?_
   by_cases hj1 : c = 55296
   ·by_cases hj2 : high > 57343
    ·refine Ev.congr (fun k=>(if_pos hj1).trans (if_pos hj2)) ?_;exact miss_ev b size high hh 57344 (by omega) (fun x h1 h2=>hn x (by omega) h2)
    refine Ev.congr (fun k=>(if_pos hj1).trans ((if_neg hj2).trans (by rw [w64 _ (by omega) (by omega)]))) ?_;exact miss_ev b size high hh (c + 1) (by omega) (fun x h1 h2=>hn x (by omega) h2)
   refine Ev.congr (fun k=>(if_neg hj1).trans (by rw [w64 _ (by omega) (by omega)])) ?_;exact miss_ev b size high hh (c + 1) (by omega) (fun x h1 h2=>hn x (by omega) h2)
  refine Ev.step (f:=fun _=>some _) (fun k=>?_) (Ev.now _);rw [quarryref05_Begins.l0,if_neg he]
 termination_by c=>(high + 1 - c).toNat
def fillV : Nat → Int → Int → Int × Int
 | 0,low,high=>(low,high)
 | d + 1,low,high=>fillV d (low * 64) (high * 64 + 63)
theorem fill_mono : ∀ (e : Nat) (a b : Int),0 ≤ a → 0 ≤ b → b ≤ (fillV e a b).2
 | 0,a,b,_,_=>Int.le_refl _
 | e + 1,a,b,ha,hb=>by
  have:=fill_mono e (a * 64) (b * 64 + 63) (by omega) (by omega)
  show b ≤ (fillV e _ _).2
  omega
theorem fill_ev (size : Int) : ∀ (d : Nat) (low high i : Int),size - i = d → 0 ≤ i → size ≤ 4 → 0 ≤ low → low ≤ high → (fillV d low high).2 ≤ 2097152 → Ev (fun k=>quarryref05_span.l1 k size low high i) (size,(fillV d low high).1,(fillV d low high).2)
 | 0,low,high,i,hd,hi,hs,l0,l1,hf=>by
  refine Ev.step (f:=fun _=>some _) (fun k=>?_) (Ev.now _);rw [quarryref05_span.l1,if_neg (by omega)];rfl
 | d + 1,low,high,i,hd,hi,hs,l0,l1,hf=>by
  have hm:=fill_mono d (low * 64) (high * 64 + 63) (by omega) (by omega);have hf' : (fillV d (low * 64) (high * 64 + 63)).2 ≤ 2097152:=hf;refine Ev.step (fun k=>?_) (fill_ev size d (low * 64) (high * 64 + 63) (i + 1) (by omega) (by omega) hs (by omega) (by omega) hf');rw [quarryref05_span.l1,if_pos (by omega),w64 (low * 64) (by omega) (by omega),w64 (high * 64) (by omega) (by omega),w64 (high * 64 + 63) (by omega) (by omega),w64 (i + 1) (by omega) (by omega)]
def headV (x : Int) : Int × Int:=if x < 128 then (1,x) else if x < 192 then (0,0) else if x < 224 then (2,x - 192) else if x < 240 then (3,x - 224) else if x < 248 then (4,x - 240) else (0,0)
section
variable {b : List Int} {R : Int × Int × Int}
theorem span_head {x : Int} (hx0 : 0 ≤ x) (hx1 : x ≤ 255) (hl : 0 < b.length) (hb : rd b 0 = x) (h : Ev (fun k=>quarryref05_span.j6 k b (headV x).1 (headV x).2) R) : Ev (fun k=>quarryref05_span.f k b) R:=by
 have wx : wrap64 (rd b 0) = x:=by rw [hb,w64 x (by omega) (by omega)]
 have w1 : wrap64 (x - 192) = x - 192:=w64 _ (by omega) (by omega);have w2 : wrap64 (x - 224) = x - 224:=w64 _ (by omega) (by omega);have w3 : wrap64 (x - 240) = x - 240:=w64 _ (by omega) (by omega)
 have h5 (sz lw : Int) (c : Bool) (hc : c = decide (240 ≤ x ∧ x < 248)) (hh : headV x = if c = true then (4,x - 240) else (sz,lw)) : Ev (fun k=>quarryref05_span.j5 k b x sz lw c) R:=by
  refine Ev.step (fun k=>?_) h;rw [quarryref05_span.j5,hh,w3];cases c
  ·rw [if_neg (by decide),if_neg (by decide)]
  rw [if_pos rfl,if_pos rfl]
 have h4 (sz lw : Int) (hh : headV x = if 240 ≤ x ∧ x < 248 then (4,x - 240) else (sz,lw)) : Ev (fun k=>quarryref05_span.j4 k b x sz lw) R:=by
  refine Ev.step (fun k=>?_) (h5 sz lw (decide (240 ≤ x ∧ x < 248)) rfl (by rw [hh];simp));rw [quarryref05_span.j4]
  by_cases hx : x ≥ 240
  ·rw [if_pos hx]
   congr 1
   rw [decide_eq_decide];omega
  rw [if_neg hx]
  congr 1
  rw [eq_comm,decide_eq_false_iff_not];omega
 have h3 (sz lw : Int) (c : Bool) (hc : c = decide (224 ≤ x ∧ x < 240)) (hh : headV x = if 240 ≤ x ∧ x < 248 then (4,x - 240) else if c = true then (3,x - 224) else (sz,lw)) : Ev (fun k=>quarryref05_span.j3 k b x sz lw c) R:=by
  cases c with
  | true=>exact Ev.step (fun k=>by rw [quarryref05_span.j3,if_pos rfl,w2]) (h4 3 (x - 224) (by rw [hh];rfl))
  | false=>exact Ev.step (fun k=>by rw [quarryref05_span.j3,if_neg (by decide)]) (h4 sz lw (by rw [hh];rfl))
 have h2 (sz lw : Int) (hh : headV x = if 240 ≤ x ∧ x < 248 then (4,x - 240) else if 224 ≤ x ∧ x < 240 then (3,x - 224) else (sz,lw)) : Ev (fun k=>quarryref05_span.j2 k b x sz lw) R:=by
  refine Ev.step (fun k=>?_) (h3 sz lw (decide (224 ≤ x ∧ x < 240)) rfl (by rw [hh];simp));rw [quarryref05_span.j2]
  by_cases hx : x ≥ 224
  ·rw [if_pos hx]
   congr 1
   rw [decide_eq_decide];omega
  rw [if_neg hx]
  congr 1
  rw [eq_comm,decide_eq_false_iff_not];omega
 have h1 (sz lw : Int) (c : Bool) (hc : c = decide (192 ≤ x ∧ x < 224)) (hh : headV x = if 240 ≤ x ∧ x < 248 then (4,x - 240) else if 224 ≤ x ∧ x < 240 then (3,x - 224) else if c = true then (2,x - 192) else (sz,lw)) : Ev (fun k=>quarryref05_span.j1 k b x sz lw c) R:=by
  cases c with
  | true=>exact Ev.step (fun k=>by rw [quarryref05_span.j1,if_pos rfl,w1]) (h2 2 (x - 192) (by rw [hh];rfl))
  | false=>exact Ev.step (fun k=>by rw [quarryref05_span.j1,if_neg (by decide)]) (h2 sz lw (by rw [hh];rfl))
 have h0 (sz lw : Int) (hh : headV x = if 240 ≤ x ∧ x < 248 then (4,x - 240) else if 224 ≤ x ∧ x < 240 then (3,x - 224) else if 192 ≤ x ∧ x < 224 then (2,x - 192) else (sz,lw)) : Ev (fun k=>quarryref05_span.j0 k b x sz lw) R:=by
  refine Ev.step (fun k=>?_) (h1 sz lw (decide (192 ≤ x ∧ x < 224)) rfl (by rw [hh];simp));rw [quarryref05_span.j0]
  by_cases hx : x ≥ 192
  ·rw [if_pos hx]
   congr 1
   rw [decide_eq_decide];omega
  rw [if_neg hx]
  congr 1
  rw [eq_comm,decide_eq_false_iff_not];omega
 have hv : headV x = if 240 ≤ x ∧ x < 248 then (4,x - 240) else if 224 ≤ x ∧ x < 240 then (3,x - 224) else if 192 ≤ x ∧ x < 224 then (2,x - 192) else (if x < 128 then (1,x) else (0,0)):=by
  unfold headV
  by_cases a1 : x < 128
  ·rw [if_pos a1,if_neg (by omega),if_neg (by omega),if_neg (by omega),if_pos a1]
  rw [if_neg a1]
  by_cases a2 : x < 192
  ·rw [if_pos a2,if_neg (by omega),if_neg (by omega),if_neg (by omega),if_neg a1]
  rw [if_neg a2]
  by_cases a3 : x < 224
  ·rw [if_pos a3,if_neg (by omega),if_neg (by omega),if_pos (by omega)]
  rw [if_neg a3]
  by_cases a4 : x < 240
  ·rw [if_pos a4,if_neg (by omega),if_pos (by omega)]
  rw [if_neg a4]
  by_cases a5 : x < 248
  ·rw [if_pos a5,if_pos (by omega)]
  rw [if_neg a5,if_neg (by omega),if_neg (by omega),if_neg (by omega),if_neg a1]
 by_cases hx : x < 128
 ·refine Ev.congr (fun k=>?_) (h0 1 x (by rw [hv,if_pos hx]))
  unfold quarryref05_span.f
  rw [if_pos (by omega),wx,if_pos hx]
 refine Ev.congr (fun k=>?_) (h0 0 0 (by rw [hv,if_neg hx]))
 unfold quarryref05_span.f
 rw [if_pos (by omega),wx,if_neg hx]
theorem span_none {low : Int} : Ev (fun k=>quarryref05_span.j6 k b 0 low) (0,1,0):=by
 refine Ev.step (f:=fun _=>some _) (fun k=>?_) (Ev.now _);rw [quarryref05_span.j6,if_pos rfl]
theorem span_some {size low : Int} (h0 : ¬ size = 0) (h : Ev (fun k=>quarryref05_span.l0 k b size low 1) R) : Ev (fun k=>quarryref05_span.j6 k b size low) R:=by
 refine Ev.step (fun k=>?_) h;rw [quarryref05_span.j6,if_neg h0]
theorem span_next {size low i y : Int} (hi : i < (b.length : Int)) (h0 : 0 ≤ i) (hs : i < size) (hy : rd b i = y) (y0 : 128 ≤ y) (y1 : y < 192) (l0 : 0 ≤ low) (l1 : low ≤ 2097152) (hz : i ≤ 4) (h : Ev (fun k=>quarryref05_span.l0 k b size (low * 64 + y - 128) (i + 1)) R) : Ev (fun k=>quarryref05_span.l0 k b size low i) R:=by
 have wy : wrap64 (rd b i) = y:=by rw [hy,w64 y (by omega) (by omega)]
 refine Ev.step (fun k=>?_) h;rw [quarryref05_span.l0,if_pos hi,if_pos h0,if_neg (by omega),wy,if_neg (by omega),if_neg (by omega),w64 (low * 64) (by omega) (by omega),w64 (low * 64 + y) (by omega) (by omega),w64 (low * 64 + y - 128) (by omega) (by omega),w64 (i + 1) (by omega) (by omega)]
theorem span_bad {size low i y : Int} (hi : i < (b.length : Int)) (h0 : 0 ≤ i) (hs : i < size) (hy : rd b i = y) (hyb : y < 128 ∨ 192 ≤ y) (y0 : 0 ≤ y) (y1 : y ≤ 255) : Ev (fun k=>quarryref05_span.l0 k b size low i) (0,1,0):=by
 have wy : wrap64 (rd b i) = y:=by rw [hy,w64 y (by omega) (by omega)]
 refine Ev.step (f:=fun _=>some _) (fun k=>?_) (Ev.now _);rw [quarryref05_span.l0,if_pos hi,if_pos h0,if_neg (by omega),wy]
 by_cases h : y < 128
 ·rw [if_pos h]
 rw [if_neg h,if_pos (by omega)]
theorem span_last {size low i : Int} (hi : i = (b.length : Int)) (h : Ev (fun k=>quarryref05_span.l1 k size low low i) R) : Ev (fun k=>quarryref05_span.l0 k b size low i) R:=by
 refine Ev.step (fun k=>?_) h;rw [quarryref05_span.l0,if_neg (by omega),hi]
end
theorem begins_of {b : List Int} {size low high : Int} {R : Bool × Int × Bool} (hs : Ev (fun k=>quarryref05_span.f k b) (size,low,high)) (h : Ev (fun k=>quarryref05_Begins.l0 k b size high low) R) : Ev (fun k=>quarryref05_Begins.f k b) R :=
 Ev.congr (f:=fun k=>(quarryref05_span.f k b).bind fun t=>quarryref05_Begins.l0 k b t.1 t.2.2 t.2.1) (fun _=>rfl) (Ev.bind (f:=fun k t=>quarryref05_Begins.l0 k b t.1 t.2.2 t.2.1) hs h)
theorem begins_none {b : List Int} (hs : Ev (fun k=>quarryref05_span.f k b) (0,1,0)) : Ev (fun k=>quarryref05_Begins.f k b) (false,0,false) :=
 begins_of hs (miss_ev b 0 0 (by omega) 1 (by omega) (fun x h1 h2=>by omega))
theorem sizeV_spec (c : Int) : (sizeV c = 0 ∧ (c < 0 ∨ c > 1114111 ∨ (55296 ≤ c ∧ c ≤ 57343))) ∨ (sizeV c = 1 ∧ 0 ≤ c ∧ c < 128) ∨ (sizeV c = 2 ∧ 128 ≤ c ∧ c < 2048) ∨ (sizeV c = 3 ∧ 2048 ≤ c ∧ c < 65536 ∧ ¬ (55296 ≤ c ∧ c ≤ 57343)) ∨ (sizeV c = 4 ∧ 65536 ≤ c ∧ c ≤ 1114111):=by
 unfold sizeV
 by_cases h0 : c < 0
 ·rw [if_pos h0];exact .inl ⟨rfl,.inl h0⟩
 rw [if_neg h0]
 by_cases h1 : c > 1114111
 ·rw [if_pos h1];exact .inl ⟨rfl,.inr (.inl h1)⟩
 rw [if_neg h1]
 by_cases h2 : 55296 ≤ c ∧ c ≤ 57343
 ·rw [if_pos h2];exact .inl ⟨rfl,.inr (.inr h2)⟩
 rw [if_neg h2]
 by_cases h3 : c < 128
 ·rw [if_pos h3];exact .inr (.inl ⟨rfl,by omega,h3⟩)
 rw [if_neg h3]
 by_cases h4 : c < 2048
 ·rw [if_pos h4];exact .inr (.inr (.inl ⟨rfl,by omega,h4⟩))
 rw [if_neg h4]
 by_cases h5 : c < 65536
 ·rw [if_pos h5];exact .inr (.inr (.inr (.inl ⟨rfl,by omega,h5,h2⟩)))
 rw [if_neg h5];exact .inr (.inr (.inr (.inr ⟨rfl,by omega,by omega⟩)))
theorem u8Begin_spec (x : Int) : (x < 128 ∧ u8Begin x = some (0,128,191)) ∨ (128 ≤ x ∧ x < 194 ∧ u8Begin x = none) ∨ (194 ≤ x ∧ x < 224 ∧ u8Begin x = some (1,128,191)) ∨ (x = 224 ∧ u8Begin x = some (2,160,191)) ∨ (x = 237 ∧ u8Begin x = some (2,128,159)) ∨ (225 ≤ x ∧ x < 240 ∧ x ≠ 237 ∧ u8Begin x = some (2,128,191)) ∨ (x = 240 ∧ u8Begin x = some (3,144,191)) ∨ (241 ≤ x ∧ x < 244 ∧ u8Begin x = some (3,128,191)) ∨ (x = 244 ∧ u8Begin x = some (3,128,143)) ∨ (245 ≤ x ∧ u8Begin x = none):=by
 unfold u8Begin
 by_cases h1 : x < 128
 ·rw [if_pos h1];exact .inl ⟨h1,rfl⟩
 rw [if_neg h1]
 by_cases h2 : x < 194
 ·rw [if_pos h2];exact .inr (.inl ⟨by omega,h2,rfl⟩)
 rw [if_neg h2]
 by_cases h3 : x < 224
 ·rw [if_pos h3];exact .inr (.inr (.inl ⟨by omega,h3,rfl⟩))
 rw [if_neg h3]
 by_cases h4 : x = 224
 ·rw [if_pos h4];exact .inr (.inr (.inr (.inl ⟨h4,rfl⟩)))
 rw [if_neg h4]
 by_cases h5 : x = 237
 ·rw [if_pos h5];exact .inr (.inr (.inr (.inr (.inl ⟨h5,rfl⟩))))
 rw [if_neg h5]
 by_cases h6 : x < 240
 ·rw [if_pos h6];exact .inr (.inr (.inr (.inr (.inr (.inl ⟨by omega,h6,h5,rfl⟩)))))
 rw [if_neg h6]
 by_cases h7 : x = 240
 ·rw [if_pos h7];exact .inr (.inr (.inr (.inr (.inr (.inr (.inl ⟨h7,rfl⟩))))))
 rw [if_neg h7]
 by_cases h8 : x < 244
 ·rw [if_pos h8];exact .inr (.inr (.inr (.inr (.inr (.inr (.inr (.inl ⟨by omega,h8,rfl⟩)))))))
 rw [if_neg h8]
 by_cases h9 : x = 244
 ·rw [if_pos h9];exact .inr (.inr (.inr (.inr (.inr (.inr (.inr (.inr (.inl ⟨h9,rfl⟩))))))))
 rw [if_neg h9];exact .inr (.inr (.inr (.inr (.inr (.inr (.inr (.inr (.inr ⟨by omega,rfl⟩))))))))
def St (p : List Int) (want lo hi : Int) : Prop :=
 (p = [] ∧ want = 0) ∨
 (∃ x,p = [x] ∧ 194 ≤ x ∧ x ≤ 244 ∧ u8Begin x = some (want,lo,hi)) ∨
 (∃ x y a l h,p = [x,y] ∧ 224 ≤ x ∧ x ≤ 244 ∧ u8Begin x = some (a,l,h) ∧ l ≤ y ∧ y ≤ h ∧ want = a - 1 ∧ lo = 128 ∧ hi = 191) ∨
 (∃ x y z l h,p = [x,y,z] ∧ 240 ≤ x ∧ x ≤ 244 ∧ u8Begin x = some (3,l,h) ∧ l ≤ y ∧ y ≤ h ∧ 128 ≤ z ∧ z ≤ 191 ∧ want = 1 ∧ lo = 128 ∧ hi = 191)
def Ok (p : List Int) (want lo hi c : Int) : Prop :=
 (u8Step want lo hi c = none ∧ Ev (fun k=>quarryref05_Begins.f k (p ++ [c])) (false,0,false)) ∨ ∃ w l h r,u8Step want lo hi c = some (w,l,h) ∧ 0 ≤ w ∧ Ev (fun k=>quarryref05_Begins.f k (p ++ [c])) (true,r,decide (w = 0)) ∧ (w ≠ 0 → St (p ++ [c]) w l h)
theorem begins_hit {b : List Int} {size low high : Int} (c0 : Int) (m : Bool) (hs : Ev (fun k=>quarryref05_span.f k b) (size,low,high)) (hm : ((b.length : Int) == size) = m) (h1 : high ≤ 2147483646) (h2 : c0 ≤ high) (h3 : sizeV c0 = size) (h4 : 0 ≤ low) (h5 : low ≤ c0) (h6 : ∀ x,low ≤ x → x < c0 → ¬ sizeV x = size) (h7 : low ≤ 55296 → 55296 < c0 → high > 57343 → 57344 ≤ c0) : Ev (fun k=>quarryref05_Begins.f k b) (true,c0,m):=by
 subst hm;exact begins_of hs (hit_ev b size high c0 h1 h2 h3 low h4 h5 h6 h7)
theorem begins_miss {b : List Int} {size low high : Int} (hs : Ev (fun k=>quarryref05_span.f k b) (size,low,high)) (h1 : high ≤ 2147483646) (h4 : 0 ≤ low) (h6 : ∀ x,low ≤ x → x ≤ high → ¬ sizeV x = size) : Ev (fun k=>quarryref05_Begins.f k b) (false,0,false) :=
 begins_of hs (miss_ev b size high h1 low h4 h6)
theorem head_of (x : Int) : (x < 128 ∧ headV x = (1,x)) ∨ (128 ≤ x ∧ x < 192 ∧ headV x = (0,0)) ∨ (192 ≤ x ∧ x < 224 ∧ headV x = (2,x - 192)) ∨ (224 ≤ x ∧ x < 240 ∧ headV x = (3,x - 224)) ∨ (240 ≤ x ∧ x < 248 ∧ headV x = (4,x - 240)) ∨ (248 ≤ x ∧ headV x = (0,0)):=by
 unfold headV
 by_cases a1 : x < 128
 ·rw [if_pos a1];exact .inl ⟨a1,rfl⟩
 rw [if_neg a1]
 by_cases a2 : x < 192
 ·rw [if_pos a2];exact .inr (.inl ⟨by omega,a2,rfl⟩)
 rw [if_neg a2]
 by_cases a3 : x < 224
 ·rw [if_pos a3];exact .inr (.inr (.inl ⟨by omega,a3,rfl⟩))
 rw [if_neg a3]
 by_cases a4 : x < 240
 ·rw [if_pos a4];exact .inr (.inr (.inr (.inl ⟨by omega,a4,rfl⟩)))
 rw [if_neg a4]
 by_cases a5 : x < 248
 ·rw [if_pos a5];exact .inr (.inr (.inr (.inr (.inl ⟨by omega,a5,rfl⟩))))
 rw [if_neg a5];exact .inr (.inr (.inr (.inr (.inr ⟨by omega,rfl⟩))))
theorem span1 (x : Int) (h0 : 0 ≤ x) (h1 : x ≤ 255) : (x < 128 → Ev (fun k=>quarryref05_span.f k [x]) (1,x,x)) ∧ (192 ≤ x → x < 224 → Ev (fun k=>quarryref05_span.f k [x]) (2,(x - 192) * 64,(x - 192) * 64 + 63)) ∧ (224 ≤ x → x < 240 → Ev (fun k=>quarryref05_span.f k [x]) (3,(x - 224) * 4096,(x - 224) * 4096 + 4095)) ∧ (240 ≤ x → x < 248 → Ev (fun k=>quarryref05_span.f k [x]) (4,(x - 240) * 262144,(x - 240) * 262144 + 262143)) ∧ ((128 ≤ x ∧ x < 192) ∨ 248 ≤ x → Ev (fun k=>quarryref05_span.f k [x]) (0,1,0)):=by
 have hd {R : Int × Int × Int}:=span_head (b:=[x]) (R:=R) h0 h1 (by simp) rfl;have e:=head_of x;refine ⟨fun a=>?_,fun a b=>?_,fun a b=>?_,fun a b=>?_,fun a=>?_⟩
 ·have eh : headV x = (1,x):=by rcases e with ⟨_,e⟩|⟨_,_,e⟩|⟨_,_,e⟩|⟨_,_,e⟩|⟨_,_,e⟩|⟨_,e⟩ <;> first|exact e|(exfalso;omega)
  refine hd ?_;rw [eh];exact span_some (by omega) (span_last rfl (fill_ev 1 0 x x 1 (by omega) (by omega) (by omega) h0 (Int.le_refl _) (by show x ≤ _;omega)))
 ·have eh : headV x = (2,x - 192):=by rcases e with ⟨_,e⟩|⟨_,_,e⟩|⟨_,_,e⟩|⟨_,_,e⟩|⟨_,_,e⟩|⟨_,e⟩ <;> first|exact e|(exfalso;omega)
  refine hd ?_;rw [eh];have h:=fill_ev 2 1 (x - 192) (x - 192) 1 (by omega) (by omega) (by omega) (by omega) (Int.le_refl _) (by show (x - 192) * 64 + 63 ≤ _;omega);exact span_some (by omega) (span_last rfl h)
 ·have eh : headV x = (3,x - 224):=by rcases e with ⟨_,e⟩|⟨_,_,e⟩|⟨_,_,e⟩|⟨_,_,e⟩|⟨_,_,e⟩|⟨_,e⟩ <;> first|exact e|(exfalso;omega)
  refine hd ?_;rw [eh];have h:=fill_ev 3 2 (x - 224) (x - 224) 1 (by omega) (by omega) (by omega) (by omega) (Int.le_refl _) (by show ((x - 224) * 64 + 63) * 64 + 63 ≤ _;omega)
  have e1 : (fillV 2 (x - 224) (x - 224)).1 = (x - 224) * 4096:=by show (x - 224) * 64 * 64 = _;omega
  have e2 : (fillV 2 (x - 224) (x - 224)).2 = (x - 224) * 4096 + 4095:=by show ((x - 224) * 64 + 63) * 64 + 63 = _;omega
  rw [e1,e2] at h
  exact span_some (by omega) (span_last rfl h)
 ·have eh : headV x = (4,x - 240):=by rcases e with ⟨_,e⟩|⟨_,_,e⟩|⟨_,_,e⟩|⟨_,_,e⟩|⟨_,_,e⟩|⟨_,e⟩ <;> first|exact e|(exfalso;omega)
  refine hd ?_;rw [eh];have h:=fill_ev 4 3 (x - 240) (x - 240) 1 (by omega) (by omega) (by omega) (by omega) (Int.le_refl _) (by show (((x - 240) * 64 + 63) * 64 + 63) * 64 + 63 ≤ _;omega)
  have e1 : (fillV 3 (x - 240) (x - 240)).1 = (x - 240) * 262144:=by show (x - 240) * 64 * 64 * 64 = _;omega
  have e2 : (fillV 3 (x - 240) (x - 240)).2 = (x - 240) * 262144 + 262143:=by show (((x - 240) * 64 + 63) * 64 + 63) * 64 + 63 = _;omega
  rw [e1,e2] at h
  exact span_some (by omega) (span_last rfl h)
 have eh : headV x = (0,0):=by rcases e with ⟨_,e⟩|⟨_,_,e⟩|⟨_,_,e⟩|⟨_,_,e⟩|⟨_,_,e⟩|⟨_,e⟩ <;> first|exact e|(exfalso;omega)
 refine hd ?_;rw [eh];exact span_none
theorem ok1 (lo hi c : Int) (h0 : 0 ≤ c) (h1 : c ≤ 255) : Ok [] 0 lo hi c:=by
 obtain ⟨s1,s2,s3,s4,s5⟩:=span1 c h0 h1
 have hu : u8Step 0 lo hi c = u8Begin c:=by unfold u8Step;rw [if_pos rfl]
 show (u8Step 0 lo hi c = none ∧ Ev (fun k=>quarryref05_Begins.f k [c]) (false,0,false)) ∨ ∃ w l h r,u8Step 0 lo hi c = some (w,l,h) ∧ 0 ≤ w ∧ Ev (fun k=>quarryref05_Begins.f k [c]) (true,r,decide (w = 0)) ∧ (w ≠ 0 → St [c] w l h)
 rw [hu];have hsp:=u8Begin_spec c;have sp:=sizeV_spec
 rcases hsp with ⟨a,e⟩|⟨a,b,e⟩|⟨a,b,e⟩|⟨a,e⟩|⟨a,e⟩|⟨a,b,b2,e⟩|⟨a,e⟩|⟨a,b,e⟩|⟨a,e⟩|⟨a,e⟩
 ·exact .inr ⟨0,128,191,c,e,Int.le_refl _,begins_hit c true (s1 a) rfl (by omega) (Int.le_refl _) (by have:=sp c;omega) h0 (Int.le_refl _) (fun x h1 h2=>by omega) (fun h1 h2 h3=>by omega),fun h=>absurd rfl h⟩
 ·refine .inl ⟨e,?_⟩
  by_cases hc : c < 192
  ·exact begins_none (s5 (.inl ⟨a,hc⟩))
  exact begins_miss (s2 (by omega) (by omega)) (by omega) (by omega) (fun x h1 h2 h3=>by have:=sp x;omega)
 ·exact .inr ⟨1,128,191,(c - 192) * 64,e,by omega,begins_hit _ false (s2 (by omega) b) rfl (by omega) (by omega) (by have:=sp ((c - 192) * 64);omega) (by omega) (Int.le_refl _) (fun x h1 h2=>by omega) (fun h1 h2 h3=>by omega),fun _=>.inr (.inl ⟨c,rfl,a,by omega,e⟩)⟩
 ·exact .inr ⟨2,160,191,2048,e,by omega,begins_hit 2048 false (s3 (by omega) (by omega)) rfl (by omega) (by omega) (by have:=sp 2048;omega) (by omega) (by omega) (fun x h1 h2 h3=>by have:=sp x;omega) (fun h1 h2 h3=>by omega),fun _=>.inr (.inl ⟨c,rfl,by omega,by omega,e⟩)⟩
 ·exact .inr ⟨2,128,159,(c - 224) * 4096,e,by omega,begins_hit _ false (s3 (by omega) (by omega)) rfl (by omega) (by omega) (by have:=sp ((c - 224) * 4096);omega) (by omega) (Int.le_refl _) (fun x h1 h2 h3=>by omega) (fun h1 h2 h3=>by omega),fun _=>.inr (.inl ⟨c,rfl,by omega,by omega,e⟩)⟩
 ·exact .inr ⟨2,128,191,(c - 224) * 4096,e,by omega,begins_hit _ false (s3 (by omega) (by omega)) rfl (by omega) (by omega) (by have:=sp ((c - 224) * 4096);omega) (by omega) (Int.le_refl _) (fun x h1 h2 h3=>by omega) (fun h1 h2 h3=>by omega),fun _=>.inr (.inl ⟨c,rfl,by omega,by omega,e⟩)⟩
 ·exact .inr ⟨3,144,191,65536,e,by omega,begins_hit 65536 false (s4 (by omega) (by omega)) rfl (by omega) (by omega) (by have:=sp 65536;omega) (by omega) (by omega) (fun x h1 h2 h3=>by have:=sp x;omega) (fun h1 h2 h3=>by omega),fun _=>.inr (.inl ⟨c,rfl,by omega,by omega,e⟩)⟩
 ·exact .inr ⟨3,128,191,(c - 240) * 262144,e,by omega,begins_hit _ false (s4 (by omega) (by omega)) rfl (by omega) (by omega) (by have:=sp ((c - 240) * 262144);omega) (by omega) (Int.le_refl _) (fun x h1 h2 h3=>by omega) (fun h1 h2 h3=>by omega),fun _=>.inr (.inl ⟨c,rfl,by omega,by omega,e⟩)⟩
 ·exact .inr ⟨3,128,143,(c - 240) * 262144,e,by omega,begins_hit _ false (s4 (by omega) (by omega)) rfl (by omega) (by omega) (by have:=sp ((c - 240) * 262144);omega) (by omega) (Int.le_refl _) (fun x h1 h2 h3=>by omega) (fun h1 h2 h3=>by omega),fun _=>.inr (.inl ⟨c,rfl,by omega,by omega,e⟩)⟩
 refine .inl ⟨e,?_⟩
 by_cases hc : c < 248
 ·exact begins_miss (s4 (by omega) hc) (by omega) (by omega) (fun x h1 h2 h3=>by have:=sp x;omega)
 exact begins_none (s5 (.inr (by omega)))
theorem span2_1 (x y : Int) (x0 : 192 ≤ x) (x1 : x < 224) (y0 : 128 ≤ y) (y1 : y < 192) : Ev (fun k=>quarryref05_span.f k [x,y]) (2,((x - 192) * 64 + y - 128) * 1,((x - 192) * 64 + y - 128) * 1 + 0):=by
 have eh : headV x = (2,x - 192):=by rcases head_of x with ⟨_,e⟩|⟨_,_,e⟩|⟨_,_,e⟩|⟨_,_,e⟩|⟨_,_,e⟩|⟨_,e⟩ <;> first|exact e|(exfalso;omega)
 refine span_head (b:=[x,y]) (x:=x) (by omega) (by omega) (by simp) rfl ?_;rw [eh];have h:=fill_ev 2 0 ((x - 192) * 64 + y - 128) ((x - 192) * 64 + y - 128) 2 (by omega) (by omega) (by omega) (by omega) (Int.le_refl _) (by show ((x - 192) * 64 + y - 128) ≤ _;omega)
 have e1 : (fillV 0 ((x - 192) * 64 + y - 128) ((x - 192) * 64 + y - 128)).1 = ((x - 192) * 64 + y - 128) * 1:=by show ((x - 192) * 64 + y - 128) = _;omega
 have e2 : (fillV 0 ((x - 192) * 64 + y - 128) ((x - 192) * 64 + y - 128)).2 = ((x - 192) * 64 + y - 128) * 1 + 0:=by show ((x - 192) * 64 + y - 128) = _;omega
 rw [e1,e2] at h
 exact span_some (by omega) (span_next (y:=y) (i:=1) (by simp) (by omega) (by omega) rfl y0 y1 (by omega) (by omega) (by omega) <|  span_last rfl h)
theorem spanb2_0 (x  u : Int) (x0 : 192 ≤ x) (x1 : x < 224)  (u0 : 0 ≤ u) (u1 : u ≤ 255) (ub : u < 128 ∨ 192 ≤ u) : Ev (fun k=>quarryref05_span.f k [x,u]) (0,1,0):=by
 have eh : headV x = (2,x - 192):=by rcases head_of x with ⟨_,e⟩|⟨_,_,e⟩|⟨_,_,e⟩|⟨_,_,e⟩|⟨_,_,e⟩|⟨_,e⟩ <;> first|exact e|(exfalso;omega)
 refine span_head (b:=[x,u]) (x:=x) (by omega) (by omega) (by simp) rfl ?_;rw [eh];exact span_some (by omega) ( span_bad (y:=u) (i:=1) (by simp) (by omega) (by omega) rfl ub u0 u1)
theorem span3_1 (x y : Int) (x0 : 224 ≤ x) (x1 : x < 240) (y0 : 128 ≤ y) (y1 : y < 192) : Ev (fun k=>quarryref05_span.f k [x,y]) (3,((x - 224) * 64 + y - 128) * 64,((x - 224) * 64 + y - 128) * 64 + 63):=by
 have eh : headV x = (3,x - 224):=by rcases head_of x with ⟨_,e⟩|⟨_,_,e⟩|⟨_,_,e⟩|⟨_,_,e⟩|⟨_,_,e⟩|⟨_,e⟩ <;> first|exact e|(exfalso;omega)
 refine span_head (b:=[x,y]) (x:=x) (by omega) (by omega) (by simp) rfl ?_;rw [eh];have h:=fill_ev 3 1 ((x - 224) * 64 + y - 128) ((x - 224) * 64 + y - 128) 2 (by omega) (by omega) (by omega) (by omega) (Int.le_refl _) (by show (((x - 224) * 64 + y - 128) * 64 + 63) ≤ _;omega)
 have e1 : (fillV 1 ((x - 224) * 64 + y - 128) ((x - 224) * 64 + y - 128)).1 = ((x - 224) * 64 + y - 128) * 64:=by show (((x - 224) * 64 + y - 128) * 64) = _;omega
 have e2 : (fillV 1 ((x - 224) * 64 + y - 128) ((x - 224) * 64 + y - 128)).2 = ((x - 224) * 64 + y - 128) * 64 + 63:=by show (((x - 224) * 64 + y - 128) * 64 + 63) = _;omega
 rw [e1,e2] at h
 exact span_some (by omega) (span_next (y:=y) (i:=1) (by simp) (by omega) (by omega) rfl y0 y1 (by omega) (by omega) (by omega) <|  span_last rfl h)
theorem span3_2 (x y z : Int) (x0 : 224 ≤ x) (x1 : x < 240) (y0 : 128 ≤ y) (y1 : y < 192) (z0 : 128 ≤ z) (z1 : z < 192) : Ev (fun k=>quarryref05_span.f k [x,y,z]) (3,(((x - 224) * 64 + y - 128) * 64 + z - 128) * 1,(((x - 224) * 64 + y - 128) * 64 + z - 128) * 1 + 0):=by
 have eh : headV x = (3,x - 224):=by rcases head_of x with ⟨_,e⟩|⟨_,_,e⟩|⟨_,_,e⟩|⟨_,_,e⟩|⟨_,_,e⟩|⟨_,e⟩ <;> first|exact e|(exfalso;omega)
 refine span_head (b:=[x,y,z]) (x:=x) (by omega) (by omega) (by simp) rfl ?_;rw [eh];have h:=fill_ev 3 0 (((x - 224) * 64 + y - 128) * 64 + z - 128) (((x - 224) * 64 + y - 128) * 64 + z - 128) 3 (by omega) (by omega) (by omega) (by omega) (Int.le_refl _) (by show (((x - 224) * 64 + y - 128) * 64 + z - 128) ≤ _;omega)
 have e1 : (fillV 0 (((x - 224) * 64 + y - 128) * 64 + z - 128) (((x - 224) * 64 + y - 128) * 64 + z - 128)).1 = (((x - 224) * 64 + y - 128) * 64 + z - 128) * 1:=by show (((x - 224) * 64 + y - 128) * 64 + z - 128) = _;omega
 have e2 : (fillV 0 (((x - 224) * 64 + y - 128) * 64 + z - 128) (((x - 224) * 64 + y - 128) * 64 + z - 128)).2 = (((x - 224) * 64 + y - 128) * 64 + z - 128) * 1 + 0:=by show (((x - 224) * 64 + y - 128) * 64 + z - 128) = _;omega
 rw [e1,e2] at h
 exact span_some (by omega) (span_next (y:=y) (i:=1) (by simp) (by omega) (by omega) rfl y0 y1 (by omega) (by omega) (by omega) <| span_next (y:=z) (i:=2) (by simp) (by omega) (by omega) rfl z0 z1 (by omega) (by omega) (by omega) <|  span_last rfl h)
theorem spanb3_0 (x  u : Int) (x0 : 224 ≤ x) (x1 : x < 240)  (u0 : 0 ≤ u) (u1 : u ≤ 255) (ub : u < 128 ∨ 192 ≤ u) : Ev (fun k=>quarryref05_span.f k [x,u]) (0,1,0):=by
 have eh : headV x = (3,x - 224):=by rcases head_of x with ⟨_,e⟩|⟨_,_,e⟩|⟨_,_,e⟩|⟨_,_,e⟩|⟨_,_,e⟩|⟨_,e⟩ <;> first|exact e|(exfalso;omega)
 refine span_head (b:=[x,u]) (x:=x) (by omega) (by omega) (by simp) rfl ?_;rw [eh];exact span_some (by omega) ( span_bad (y:=u) (i:=1) (by simp) (by omega) (by omega) rfl ub u0 u1)
theorem spanb3_1 (x y u : Int) (x0 : 224 ≤ x) (x1 : x < 240) (y0 : 128 ≤ y) (y1 : y < 192) (u0 : 0 ≤ u) (u1 : u ≤ 255) (ub : u < 128 ∨ 192 ≤ u) : Ev (fun k=>quarryref05_span.f k [x,y,u]) (0,1,0):=by
 have eh : headV x = (3,x - 224):=by rcases head_of x with ⟨_,e⟩|⟨_,_,e⟩|⟨_,_,e⟩|⟨_,_,e⟩|⟨_,_,e⟩|⟨_,e⟩ <;> first|exact e|(exfalso;omega)
 refine span_head (b:=[x,y,u]) (x:=x) (by omega) (by omega) (by simp) rfl ?_;rw [eh];exact span_some (by omega) (span_next (y:=y) (i:=1) (by simp) (by omega) (by omega) rfl y0 y1 (by omega) (by omega) (by omega) <|  span_bad (y:=u) (i:=2) (by simp) (by omega) (by omega) rfl ub u0 u1)
theorem span4_1 (x y : Int) (x0 : 240 ≤ x) (x1 : x < 248) (y0 : 128 ≤ y) (y1 : y < 192) : Ev (fun k=>quarryref05_span.f k [x,y]) (4,((x - 240) * 64 + y - 128) * 4096,((x - 240) * 64 + y - 128) * 4096 + 4095):=by
 have eh : headV x = (4,x - 240):=by rcases head_of x with ⟨_,e⟩|⟨_,_,e⟩|⟨_,_,e⟩|⟨_,_,e⟩|⟨_,_,e⟩|⟨_,e⟩ <;> first|exact e|(exfalso;omega)
 refine span_head (b:=[x,y]) (x:=x) (by omega) (by omega) (by simp) rfl ?_;rw [eh];have h:=fill_ev 4 2 ((x - 240) * 64 + y - 128) ((x - 240) * 64 + y - 128) 2 (by omega) (by omega) (by omega) (by omega) (Int.le_refl _) (by show ((((x - 240) * 64 + y - 128) * 64 + 63) * 64 + 63) ≤ _;omega)
 have e1 : (fillV 2 ((x - 240) * 64 + y - 128) ((x - 240) * 64 + y - 128)).1 = ((x - 240) * 64 + y - 128) * 4096:=by show ((((x - 240) * 64 + y - 128) * 64) * 64) = _;omega
 have e2 : (fillV 2 ((x - 240) * 64 + y - 128) ((x - 240) * 64 + y - 128)).2 = ((x - 240) * 64 + y - 128) * 4096 + 4095:=by show ((((x - 240) * 64 + y - 128) * 64 + 63) * 64 + 63) = _;omega
 rw [e1,e2] at h
 exact span_some (by omega) (span_next (y:=y) (i:=1) (by simp) (by omega) (by omega) rfl y0 y1 (by omega) (by omega) (by omega) <|  span_last rfl h)
theorem span4_2 (x y z : Int) (x0 : 240 ≤ x) (x1 : x < 248) (y0 : 128 ≤ y) (y1 : y < 192) (z0 : 128 ≤ z) (z1 : z < 192) : Ev (fun k=>quarryref05_span.f k [x,y,z]) (4,(((x - 240) * 64 + y - 128) * 64 + z - 128) * 64,(((x - 240) * 64 + y - 128) * 64 + z - 128) * 64 + 63):=by
 have eh : headV x = (4,x - 240):=by rcases head_of x with ⟨_,e⟩|⟨_,_,e⟩|⟨_,_,e⟩|⟨_,_,e⟩|⟨_,_,e⟩|⟨_,e⟩ <;> first|exact e|(exfalso;omega)
 refine span_head (b:=[x,y,z]) (x:=x) (by omega) (by omega) (by simp) rfl ?_;rw [eh];have h:=fill_ev 4 1 (((x - 240) * 64 + y - 128) * 64 + z - 128) (((x - 240) * 64 + y - 128) * 64 + z - 128) 3 (by omega) (by omega) (by omega) (by omega) (Int.le_refl _) (by show ((((x - 240) * 64 + y - 128) * 64 + z - 128) * 64 + 63) ≤ _;omega)
 have e1 : (fillV 1 (((x - 240) * 64 + y - 128) * 64 + z - 128) (((x - 240) * 64 + y - 128) * 64 + z - 128)).1 = (((x - 240) * 64 + y - 128) * 64 + z - 128) * 64:=by show ((((x - 240) * 64 + y - 128) * 64 + z - 128) * 64) = _;omega
 have e2 : (fillV 1 (((x - 240) * 64 + y - 128) * 64 + z - 128) (((x - 240) * 64 + y - 128) * 64 + z - 128)).2 = (((x - 240) * 64 + y - 128) * 64 + z - 128) * 64 + 63:=by show ((((x - 240) * 64 + y - 128) * 64 + z - 128) * 64 + 63) = _;omega
 rw [e1,e2] at h
 exact span_some (by omega) (span_next (y:=y) (i:=1) (by simp) (by omega) (by omega) rfl y0 y1 (by omega) (by omega) (by omega) <| span_next (y:=z) (i:=2) (by simp) (by omega) (by omega) rfl z0 z1 (by omega) (by omega) (by omega) <|  span_last rfl h)
theorem span4_3 (x y z t : Int) (x0 : 240 ≤ x) (x1 : x < 248) (y0 : 128 ≤ y) (y1 : y < 192) (z0 : 128 ≤ z) (z1 : z < 192) (t0 : 128 ≤ t) (t1 : t < 192) : Ev (fun k=>quarryref05_span.f k [x,y,z,t]) (4,((((x - 240) * 64 + y - 128) * 64 + z - 128) * 64 + t - 128) * 1,((((x - 240) * 64 + y - 128) * 64 + z - 128) * 64 + t - 128) * 1 + 0):=by
 have eh : headV x = (4,x - 240):=by rcases head_of x with ⟨_,e⟩|⟨_,_,e⟩|⟨_,_,e⟩|⟨_,_,e⟩|⟨_,_,e⟩|⟨_,e⟩ <;> first|exact e|(exfalso;omega)
 refine span_head (b:=[x,y,z,t]) (x:=x) (by omega) (by omega) (by simp) rfl ?_;rw [eh];have h:=fill_ev 4 0 ((((x - 240) * 64 + y - 128) * 64 + z - 128) * 64 + t - 128) ((((x - 240) * 64 + y - 128) * 64 + z - 128) * 64 + t - 128) 4 (by omega) (by omega) (by omega) (by omega) (Int.le_refl _) (by show ((((x - 240) * 64 + y - 128) * 64 + z - 128) * 64 + t - 128) ≤ _;omega)
 have e1 : (fillV 0 ((((x - 240) * 64 + y - 128) * 64 + z - 128) * 64 + t - 128) ((((x - 240) * 64 + y - 128) * 64 + z - 128) * 64 + t - 128)).1 = ((((x - 240) * 64 + y - 128) * 64 + z - 128) * 64 + t - 128) * 1:=by show ((((x - 240) * 64 + y - 128) * 64 + z - 128) * 64 + t - 128) = _;omega
 have e2 : (fillV 0 ((((x - 240) * 64 + y - 128) * 64 + z - 128) * 64 + t - 128) ((((x - 240) * 64 + y - 128) * 64 + z - 128) * 64 + t - 128)).2 = ((((x - 240) * 64 + y - 128) * 64 + z - 128) * 64 + t - 128) * 1 + 0:=by show ((((x - 240) * 64 + y - 128) * 64 + z - 128) * 64 + t - 128) = _;omega
 rw [e1,e2] at h
 exact span_some (by omega) (span_next (y:=y) (i:=1) (by simp) (by omega) (by omega) rfl y0 y1 (by omega) (by omega) (by omega) <| span_next (y:=z) (i:=2) (by simp) (by omega) (by omega) rfl z0 z1 (by omega) (by omega) (by omega) <| span_next (y:=t) (i:=3) (by simp) (by omega) (by omega) rfl t0 t1 (by omega) (by omega) (by omega) <|  span_last rfl h)
theorem spanb4_0 (x  u : Int) (x0 : 240 ≤ x) (x1 : x < 248)  (u0 : 0 ≤ u) (u1 : u ≤ 255) (ub : u < 128 ∨ 192 ≤ u) : Ev (fun k=>quarryref05_span.f k [x,u]) (0,1,0):=by
 have eh : headV x = (4,x - 240):=by rcases head_of x with ⟨_,e⟩|⟨_,_,e⟩|⟨_,_,e⟩|⟨_,_,e⟩|⟨_,_,e⟩|⟨_,e⟩ <;> first|exact e|(exfalso;omega)
 refine span_head (b:=[x,u]) (x:=x) (by omega) (by omega) (by simp) rfl ?_;rw [eh];exact span_some (by omega) ( span_bad (y:=u) (i:=1) (by simp) (by omega) (by omega) rfl ub u0 u1)
theorem spanb4_1 (x y u : Int) (x0 : 240 ≤ x) (x1 : x < 248) (y0 : 128 ≤ y) (y1 : y < 192) (u0 : 0 ≤ u) (u1 : u ≤ 255) (ub : u < 128 ∨ 192 ≤ u) : Ev (fun k=>quarryref05_span.f k [x,y,u]) (0,1,0):=by
 have eh : headV x = (4,x - 240):=by rcases head_of x with ⟨_,e⟩|⟨_,_,e⟩|⟨_,_,e⟩|⟨_,_,e⟩|⟨_,_,e⟩|⟨_,e⟩ <;> first|exact e|(exfalso;omega)
 refine span_head (b:=[x,y,u]) (x:=x) (by omega) (by omega) (by simp) rfl ?_;rw [eh];exact span_some (by omega) (span_next (y:=y) (i:=1) (by simp) (by omega) (by omega) rfl y0 y1 (by omega) (by omega) (by omega) <|  span_bad (y:=u) (i:=2) (by simp) (by omega) (by omega) rfl ub u0 u1)
theorem spanb4_2 (x y z u : Int) (x0 : 240 ≤ x) (x1 : x < 248) (y0 : 128 ≤ y) (y1 : y < 192) (z0 : 128 ≤ z) (z1 : z < 192) (u0 : 0 ≤ u) (u1 : u ≤ 255) (ub : u < 128 ∨ 192 ≤ u) : Ev (fun k=>quarryref05_span.f k [x,y,z,u]) (0,1,0):=by
 have eh : headV x = (4,x - 240):=by rcases head_of x with ⟨_,e⟩|⟨_,_,e⟩|⟨_,_,e⟩|⟨_,_,e⟩|⟨_,_,e⟩|⟨_,e⟩ <;> first|exact e|(exfalso;omega)
 refine span_head (b:=[x,y,z,u]) (x:=x) (by omega) (by omega) (by simp) rfl ?_;rw [eh];exact span_some (by omega) (span_next (y:=y) (i:=1) (by simp) (by omega) (by omega) rfl y0 y1 (by omega) (by omega) (by omega) <| span_next (y:=z) (i:=2) (by simp) (by omega) (by omega) rfl z0 z1 (by omega) (by omega) (by omega) <|  span_bad (y:=u) (i:=3) (by simp) (by omega) (by omega) rfl ub u0 u1)
theorem step_some {want lo hi c : Int} (hw : want ≠ 0) (h0 : lo ≤ c) (h1 : c ≤ hi) : u8Step want lo hi c = some (want - 1,128,191):=by unfold u8Step;rw [if_neg hw,if_neg (fun h=>by omega)]
theorem step_none {want lo hi c : Int} (hw : want ≠ 0) (h : c < lo ∨ c > hi) : u8Step want lo hi c = none:=by unfold u8Step;rw [if_neg hw,if_pos h]
theorem ok2 (x want lo hi c : Int) (h0 : 0 ≤ c) (h1 : c ≤ 255) (x0 : 194 ≤ x) (x1 : x ≤ 244) (hb : u8Begin x = some (want,lo,hi)) : Ok [x] want lo hi c:=by
 have sp:=sizeV_spec;have hsp:=u8Begin_spec x
 show (u8Step want lo hi c = none ∧ Ev (fun k=>quarryref05_Begins.f k [x,c]) (false,0,false)) ∨ ∃ w l h r,u8Step want lo hi c = some (w,l,h) ∧ 0 ≤ w ∧ Ev (fun k=>quarryref05_Begins.f k [x,c]) (true,r,decide (w = 0)) ∧ (w ≠ 0 → St [x,c] w l h)
 by_cases hc : c < 128 ∨ 192 ≤ c
 ·have hB : Ev (fun k=>quarryref05_Begins.f k [x,c]) (false,0,false):=by
   by_cases a : x < 224
   ·exact begins_none (spanb2_0 x c (by omega) a h0 h1 hc)
   by_cases b : x < 240
   ·exact begins_none (spanb3_0 x c (by omega) b h0 h1 hc)
   exact begins_none (spanb4_0 x c (by omega) (by omega) h0 h1 hc)
  refine .inl ⟨?_,hB⟩
  rcases hsp with ⟨a,e⟩|⟨a,b,e⟩|⟨a,b,e⟩|⟨a,e⟩|⟨a,e⟩|⟨a,b,b2,e⟩|⟨a,e⟩|⟨a,b,e⟩|⟨a,e⟩|⟨a,e⟩
  all_goals first
   | (exfalso;omega)
   | (rw [hb] at e;simp only [Option.some.injEq,Prod.mk.injEq] at e;obtain ⟨rfl,rfl,rfl⟩:=e;exact step_none (by omega) (by omega))
 have c0 : 128 ≤ c:=by omega
 have c1 : c < 192:=by omega
 have st3 : 224 ≤ x → ∀ (a l h : Int),u8Begin x = some (a,l,h) → l ≤ c → c ≤ h → St [x,c] (a - 1) 128 191:=fun hx a l h e l0 l1=>.inr (.inr (.inl ⟨x,c,a,l,h,rfl,hx,x1,e,l0,l1,rfl,rfl,rfl⟩))
 rcases hsp with ⟨a,e⟩|⟨a,b,e⟩|⟨a,b,e⟩|⟨a,e⟩|⟨a,e⟩|⟨a,b,b2,e⟩|⟨a,e⟩|⟨a,b,e⟩|⟨a,e⟩|⟨a,e⟩
 ·exfalso;omega
 ·exfalso;omega
 ·rw [hb] at e;simp only [Option.some.injEq,Prod.mk.injEq] at e;obtain ⟨rfl,rfl,rfl⟩:=e
  exact .inr ⟨0,128,191,_,step_some (by omega) (by omega) (by omega),by omega,begins_hit _ true (span2_1 x c (by omega) b c0 c1) rfl (by omega) (by omega) (by have:=sp (((x - 192) * 64 + c - 128) * 1);omega) (by omega) (Int.le_refl _) (fun x h1 h2 h3=>by omega) (fun h1 h2 h3=>by omega),fun h=>absurd rfl h⟩
 ·have e':=e;rw [hb] at e;simp only [Option.some.injEq,Prod.mk.injEq] at e;obtain ⟨rfl,rfl,rfl⟩:=e
  have hs:=span3_1 x c (by omega) (by omega) c0 c1
  by_cases hk : 160 ≤ c
  ·exact .inr ⟨1,128,191,_,step_some (by omega) (by omega) (by omega),by omega,begins_hit _ false hs rfl (by omega) (by omega) (by have:=sp (((x - 224) * 64 + c - 128) * 64);omega) (by omega) (Int.le_refl _) (fun x h1 h2 h3=>by omega) (fun h1 h2 h3=>by omega),fun _=>st3 (by omega) 2 160 191 e' hk (by omega)⟩
  exact .inl ⟨step_none (by omega) (by omega),begins_miss hs (by omega) (by omega) (fun y h1 h2 h3=>by have:=sp y;omega)⟩
 ·have e':=e;rw [hb] at e;simp only [Option.some.injEq,Prod.mk.injEq] at e;obtain ⟨rfl,rfl,rfl⟩:=e
  have hs:=span3_1 x c (by omega) (by omega) c0 c1
  by_cases hk : c ≤ 159
  ·exact .inr ⟨1,128,191,_,step_some (by omega) (by omega) (by omega),by omega,begins_hit _ false hs rfl (by omega) (by omega) (by have:=sp (((x - 224) * 64 + c - 128) * 64);omega) (by omega) (Int.le_refl _) (fun x h1 h2 h3=>by omega) (fun h1 h2 h3=>by omega),fun _=>st3 (by omega) 2 128 159 e' (by omega) hk⟩
  exact .inl ⟨step_none (by omega) (by omega),begins_miss hs (by omega) (by omega) (fun y h1 h2 h3=>by have:=sp y;omega)⟩
 ·have e':=e;rw [hb] at e;simp only [Option.some.injEq,Prod.mk.injEq] at e;obtain ⟨rfl,rfl,rfl⟩:=e
  have hs:=span3_1 x c (by omega) (by omega) c0 c1;exact .inr ⟨1,128,191,_,step_some (by omega) (by omega) (by omega),by omega,begins_hit _ false hs rfl (by omega) (by omega) (by have:=sp (((x - 224) * 64 + c - 128) * 64);omega) (by omega) (Int.le_refl _) (fun x h1 h2 h3=>by omega) (fun h1 h2 h3=>by omega),fun _=>st3 (by omega) 2 128 191 e' (by omega) (by omega)⟩
 ·have e':=e;rw [hb] at e;simp only [Option.some.injEq,Prod.mk.injEq] at e;obtain ⟨rfl,rfl,rfl⟩:=e
  have hs:=span4_1 x c (by omega) (by omega) c0 c1
  by_cases hk : 144 ≤ c
  ·exact .inr ⟨2,128,191,_,step_some (by omega) (by omega) (by omega),by omega,begins_hit _ false hs rfl (by omega) (by omega) (by have:=sp (((x - 240) * 64 + c - 128) * 4096);omega) (by omega) (Int.le_refl _) (fun x h1 h2 h3=>by omega) (fun h1 h2 h3=>by omega),fun _=>st3 (by omega) 3 144 191 e' hk (by omega)⟩
  exact .inl ⟨step_none (by omega) (by omega),begins_miss hs (by omega) (by omega) (fun y h1 h2 h3=>by have:=sp y;omega)⟩
 ·have e':=e;rw [hb] at e;simp only [Option.some.injEq,Prod.mk.injEq] at e;obtain ⟨rfl,rfl,rfl⟩:=e
  have hs:=span4_1 x c (by omega) (by omega) c0 c1;exact .inr ⟨2,128,191,_,step_some (by omega) (by omega) (by omega),by omega,begins_hit _ false hs rfl (by omega) (by omega) (by have:=sp (((x - 240) * 64 + c - 128) * 4096);omega) (by omega) (Int.le_refl _) (fun x h1 h2 h3=>by omega) (fun h1 h2 h3=>by omega),fun _=>st3 (by omega) 3 128 191 e' (by omega) (by omega)⟩
 ·have e':=e;rw [hb] at e;simp only [Option.some.injEq,Prod.mk.injEq] at e;obtain ⟨rfl,rfl,rfl⟩:=e
  have hs:=span4_1 x c (by omega) (by omega) c0 c1
  by_cases hk : c ≤ 143
  ·exact .inr ⟨2,128,191,_,step_some (by omega) (by omega) (by omega),by omega,begins_hit _ false hs rfl (by omega) (by omega) (by have:=sp (((x - 240) * 64 + c - 128) * 4096);omega) (by omega) (Int.le_refl _) (fun x h1 h2 h3=>by omega) (fun h1 h2 h3=>by omega),fun _=>st3 (by omega) 3 128 143 e' (by omega) hk⟩
  exact .inl ⟨step_none (by omega) (by omega),begins_miss hs (by omega) (by omega) (fun y h1 h2 h3=>by have:=sp y;omega)⟩
 exfalso;omega
theorem ok3 (x y a l h c : Int) (h0 : 0 ≤ c) (h1 : c ≤ 255) (x0 : 224 ≤ x) (x1 : x ≤ 244) (hb : u8Begin x = some (a,l,h)) (y0 : l ≤ y) (y1 : y ≤ h) : Ok [x,y] (a - 1) 128 191 c:=by
 have sp:=sizeV_spec;have hsp:=u8Begin_spec x
 show (u8Step (a - 1) 128 191 c = none ∧ Ev (fun k=>quarryref05_Begins.f k [x,y,c]) (false,0,false)) ∨ ∃ w l h r,u8Step (a - 1) 128 191 c = some (w,l,h) ∧ 0 ≤ w ∧ Ev (fun k=>quarryref05_Begins.f k [x,y,c]) (true,r,decide (w = 0)) ∧ (w ≠ 0 → St [x,y,c] w l h)
 have hfacts : (a = 2 ∧ x < 240 ∧ 128 ≤ y ∧ y < 192 ∧ (x = 224 → 160 ≤ y) ∧ (x = 237 → y ≤ 159)) ∨ (a = 3 ∧ 240 ≤ x ∧ 128 ≤ y ∧ y < 192 ∧ (x = 240 → 144 ≤ y) ∧ (x = 244 → y ≤ 143)):=by
  rcases hsp with ⟨q,e⟩|⟨q,b,e⟩|⟨q,b,e⟩|⟨q,e⟩|⟨q,e⟩|⟨q,b,b2,e⟩|⟨q,e⟩|⟨q,b,e⟩|⟨q,e⟩|⟨q,e⟩
  all_goals first
   | (exfalso;omega)
   | (rw [hb] at e;simp only [Option.some.injEq,Prod.mk.injEq] at e;obtain ⟨rfl,rfl,rfl⟩:=e;omega)
 rcases hfacts with ⟨rfl,hx,ya,yb,q1,q2⟩|⟨rfl,hx,ya,yb,q1,q2⟩
 ·by_cases hc : c < 128 ∨ 192 ≤ c
  ·exact .inl ⟨step_none (by omega) (by omega),begins_none (spanb3_1 x y c (by omega) hx ya yb h0 h1 hc)⟩
  have hs:=span3_2 x y c (by omega) hx ya yb (by omega) (by omega);exact .inr ⟨0,128,191,_,step_some (by omega) (by omega) (by omega),by omega,begins_hit _ true hs rfl (by omega) (by omega) (by have:=sp ((((x - 224) * 64 + y - 128) * 64 + c - 128) * 1);omega) (by omega) (Int.le_refl _) (fun x h1 h2 h3=>by omega) (fun h1 h2 h3=>by omega),fun h=>absurd rfl h⟩
 by_cases hc : c < 128 ∨ 192 ≤ c
 ·exact .inl ⟨step_none (by omega) (by omega),begins_none (spanb4_1 x y c (by omega) (by omega) ya yb h0 h1 hc)⟩
 have hs:=span4_2 x y c (by omega) (by omega) ya yb (by omega) (by omega);exact .inr ⟨1,128,191,_,step_some (by omega) (by omega) (by omega),by omega,begins_hit _ false hs rfl (by omega) (by omega) (by have:=sp ((((x - 240) * 64 + y - 128) * 64 + c - 128) * 64);omega) (by omega) (Int.le_refl _) (fun x h1 h2 h3=>by omega) (fun h1 h2 h3=>by omega),fun _=>.inr (.inr (.inr ⟨x,y,c,l,h,rfl,hx,x1,hb,y0,y1,by omega,by omega,rfl,rfl,rfl⟩))⟩
theorem ok4 (x y z l h c : Int) (h0 : 0 ≤ c) (h1 : c ≤ 255) (x0 : 240 ≤ x) (x1 : x ≤ 244) (hb : u8Begin x = some (3,l,h)) (y0 : l ≤ y) (y1 : y ≤ h) (z0 : 128 ≤ z) (z1 : z ≤ 191) : Ok [x,y,z] 1 128 191 c:=by
 have sp:=sizeV_spec;have hsp:=u8Begin_spec x
 show (u8Step 1 128 191 c = none ∧ Ev (fun k=>quarryref05_Begins.f k [x,y,z,c]) (false,0,false)) ∨ ∃ w l h r,u8Step 1 128 191 c = some (w,l,h) ∧ 0 ≤ w ∧ Ev (fun k=>quarryref05_Begins.f k [x,y,z,c]) (true,r,decide (w = 0)) ∧ (w ≠ 0 → St [x,y,z,c] w l h)
 have hfacts : 128 ≤ y ∧ y < 192 ∧ (x = 240 → 144 ≤ y) ∧ (x = 244 → y ≤ 143):=by
  rcases hsp with ⟨q,e⟩|⟨q,b,e⟩|⟨q,b,e⟩|⟨q,e⟩|⟨q,e⟩|⟨q,b,b2,e⟩|⟨q,e⟩|⟨q,b,e⟩|⟨q,e⟩|⟨q,e⟩
  all_goals first
   | (exfalso;omega)
   | (rw [hb] at e;simp only [Option.some.injEq,Prod.mk.injEq] at e;obtain ⟨_,rfl,rfl⟩:=e;omega)
 obtain ⟨ya,yb,q1,q2⟩:=hfacts
 by_cases hc : c < 128 ∨ 192 ≤ c
 ·exact .inl ⟨step_none (by omega) (by omega),begins_none (spanb4_2 x y z c (by omega) (by omega) ya yb z0 (by omega) h0 h1 hc)⟩
 have hs:=span4_3 x y z c (by omega) (by omega) ya yb z0 (by omega) (by omega) (by omega);exact .inr ⟨0,128,191,_,step_some (by omega) (by omega) (by omega),by omega,begins_hit _ true hs rfl (by omega) (by omega) (by have:=sp (((((x - 240) * 64 + y - 128) * 64 + z - 128) * 64 + c - 128) * 1);omega) (by omega) (Int.le_refl _) (fun x h1 h2 h3=>by omega) (fun h1 h2 h3=>by omega),fun h=>absurd rfl h⟩
theorem ok_all (p : List Int) (want lo hi c : Int) (h0 : 0 ≤ c) (h1 : c ≤ 255) (hS : St p want lo hi) : Ok p want lo hi c:=by
 rcases hS with ⟨rfl,rfl⟩|⟨x,rfl,x0,x1,e⟩|⟨x,y,a,l,h,rfl,x0,x1,e,y0,y1,rfl,rfl,rfl⟩|⟨x,y,z,l,h,rfl,x0,x1,e,y0,y1,z0,z1,rfl,rfl,rfl⟩
 ·exact ok1 lo hi c h0 h1
 ·exact ok2 x want lo hi c h0 h1 x0 x1 e
 ·exact ok3 x y a l h c h0 h1 x0 x1 e y0 y1
 exact ok4 x y z l h c h0 h1 x0 x1 e y0 y1 z0 z1
theorem St.want {p : List Int} {want lo hi : Int} (hS : St p want lo hi) (hp : p ≠ []) : 0 < want:=by
 rcases hS with ⟨rfl,rfl⟩|⟨x,rfl,x0,x1,e⟩|⟨x,y,a,l,h,rfl,x0,x1,e,y0,y1,rfl,rfl,rfl⟩|⟨x,y,z,l,h,rfl,x0,x1,e,y0,y1,z0,z1,rfl,rfl,rfl⟩
 ·exact absurd rfl hp
 ·rcases u8Begin_spec x with ⟨q,e2⟩|⟨q,b,e2⟩|⟨q,b,e2⟩|⟨q,e2⟩|⟨q,e2⟩|⟨q,b,b2,e2⟩|⟨q,e2⟩|⟨q,b,e2⟩|⟨q,e2⟩|⟨q,e2⟩
  all_goals first
   | (exfalso;omega)
   | (rw [e] at e2;simp only [Option.some.injEq,Prod.mk.injEq] at e2;obtain ⟨rfl,_⟩:=e2;omega)
 ·rcases u8Begin_spec x with ⟨q,e2⟩|⟨q,b,e2⟩|⟨q,b,e2⟩|⟨q,e2⟩|⟨q,e2⟩|⟨q,b,b2,e2⟩|⟨q,e2⟩|⟨q,b,e2⟩|⟨q,e2⟩|⟨q,e2⟩
  all_goals first
   | (exfalso;omega)
   | (rw [e] at e2;simp only [Option.some.injEq,Prod.mk.injEq] at e2;obtain ⟨rfl,_⟩:=e2;omega)
 omega
theorem bytes_snoc (s : ByteArray) (f m : Nat) (h : f + m < s.size) : bytesOf (s.extract f (f + (m + 1))) = bytesOf (s.extract f (f + m)) ++ [(s[f + m].toNat : Int)]:=by
 have e : ∀ n,(s.extract f (f + n)).data.toList = (s.data.toList.drop f).take n:=by
  intro n;rw [ByteArray.data_extract,Array.toList_extract]
  simp
 unfold bytesOf
 rw [e,e,List.take_succ_eq_append_getElem (by rw [List.length_drop,data_length];omega),List.map_append,List.getElem_drop];rfl
theorem bytes_none (s : ByteArray) (f : Nat) : bytesOf (s.extract f (f + 0)) = []:=by
 unfold bytesOf
 rw [ByteArray.data_extract,Array.toList_extract]
 simp
theorem walk_ev (s : ByteArray) (hs : s.size ≤ 1099511627776) : ∀ (d f m : Nat) (want lo hi : Int),s.size - (f + m) = d → f + m ≤ s.size → (m = 0 → f < s.size) → St (bytesOf (s.extract f (f + m))) want lo hi →
  Ev (fun k=>quarryref05_Walk.l0 k s f (m + 1)) (u8Run (s.data.toList.drop (f + m)) want lo hi ((f + m : Nat) : Int))
 | 0,f,m,want,lo,hi,hd,hle,hm,hS=>by
  have hne : bytesOf (s.extract f (f + m)) ≠ []:=by
   intro h;have h2:=congrArg List.length h
   rw [bytesOf_length,ByteArray.size_extract] at h2
   simp at h2
   by_cases h0 : m = 0
   ·have:=hm h0;omega
   omega
  have hw:=hS.want hne;rw [rd_none s (f + m) (by omega),u8Run,if_pos hw];refine Ev.step (f:=fun _=>some _) (fun k=>?_) (Ev.now _);rw [quarryref05_Walk.l0,if_pos (by omega)]
  congr 1
  omega
 | d + 1,f,m,want,lo,hi,hd,hle,hm,hS=>by
  have hlt : f + m < s.size:=by omega
  have hu : (s[f + m].toNat : Int) ≤ 255:=by have:=s[f + m].toNat_lt;omega
  have hok:=ok_all _ want lo hi (s[f + m].toNat : Int) (by omega) hu hS;have hb:=bytes_snoc s f m hlt;rw [rd_get s (f + m) hlt,u8Run]
  unfold Ok at hok
  rw [← hb] at hok
  rcases hok with ⟨e,hB⟩|⟨w,l,h,r,e,hw0,hB,hst⟩
  ·rw [e];refine Ev.step (f:=fun k=>(quarryref05_Begins.f k (bytesOf (s.extract f (f + (m + 1))))).bind fun t=>if t.1 = true then (if t.2.2 = true then (if f + (m + 1) < s.size then quarryref05_Walk.l0 k s (f + (m + 1)) 1 else some (-1)) else quarryref05_Walk.l0 k s f (m + 1 + 1)) else some ((f : Int) + ((m + 1 : Nat) : Int) - 1)) (fun k=>?_) (Ev.bind hB ?_)
   ·rw [quarryref05_Walk.l0,if_neg (by omega)]
   refine Ev.congr (f:=fun _=>some ((f + m : Nat) : Int)) (fun k=>?_) (Ev.now _);rw [if_neg Bool.false_ne_true]
   congr 1
   omega
  rw [e];refine Ev.step (f:=fun k=>(quarryref05_Begins.f k (bytesOf (s.extract f (f + (m + 1))))).bind fun t=>if t.1 = true then (if t.2.2 = true then (if f + (m + 1) < s.size then quarryref05_Walk.l0 k s (f + (m + 1)) 1 else some (-1)) else quarryref05_Walk.l0 k s f (m + 1 + 1)) else some ((f : Int) + ((m + 1 : Nat) : Int) - 1)) (fun k=>?_) (Ev.bind hB ?_)
  ·rw [quarryref05_Walk.l0,if_neg (by omega)]
  refine Ev.congr (fun k=>if_pos rfl) ?_
  have ec : ((f + m : Nat) : Int) + 1 = ((f + (m + 1) : Nat) : Int):=by omega
  by_cases hz : w = 0
  ·subst hz;refine Ev.congr (fun k=>if_pos rfl) ?_
   by_cases hl : f + (m + 1) < s.size
   ·have ih:=walk_ev s hs d (f + (m + 1)) 0 0 l h (by omega) (by omega) (fun _=>hl) (by rw [bytes_none];exact .inl ⟨rfl,rfl⟩);refine Ev.congr (fun k=>if_pos hl) ?_
    show Ev _ (u8Run (s.data.toList.drop (f + (m + 1))) 0 l h (((f + m : Nat) : Int) + 1))
    rw [ec];exact ih
   refine Ev.congr (f:=fun _=>some (-1)) (fun k=>if_neg hl) ?_
   show Ev _ (u8Run (s.data.toList.drop (f + (m + 1))) 0 l h (((f + m : Nat) : Int) + 1))
   rw [rd_none s (f + (m + 1)) hl];exact Ev.now _
  have ih:=walk_ev s hs d f (m + 1) w l h (by omega) (by omega) (fun h=>by omega) (hst hz);refine Ev.congr (fun k=>if_neg (by simp [hz])) ?_
  show Ev _ (u8Run (s.data.toList.drop (f + (m + 1))) w l h (((f + m : Nat) : Int) + 1))
  rw [ec];exact ih
theorem bad_ev (s : ByteArray) (hs : s.size ≤ 1099511627776) : Ev (fun k=>quarryref05_Bad.f k s) (u8Run s.data.toList 0 0 0 0):=by
 by_cases h : 0 < s.size
 ·have h2:=walk_ev s hs s.size 0 0 0 0 0 (by omega) (by omega) (fun _=>h) (by rw [bytes_none];exact .inl ⟨rfl,rfl⟩);refine Ev.congr (fun k=>?_) h2
  unfold quarryref05_Bad.f
  rw [if_pos hs,if_pos h]
 have e : s.data.toList = []:=List.eq_nil_of_length_eq_zero (by rw [data_length];omega);rw [e];refine Ev.congr (f:=fun _=>some (-1)) (fun k=>?_) (Ev.now _)
 unfold quarryref05_Bad.f
 rw [if_pos hs,if_neg h]
theorem run_ge : ∀ (l : List UInt8) (want lo hi came : Int),0 ≤ came → u8Run l want lo hi came = -1 ∨ 0 ≤ u8Run l want lo hi came
 | [],want,lo,hi,came,h=>by
  rw [u8Run]
  split
  ·exact .inr h
  exact .inl rfl
 | c :: r,want,lo,hi,came,h=>by
  rw [u8Run]
  split
  ·exact .inr h
  exact run_ge r _ _ _ _ (by omega)
end Go.Proofs.YtfaegleohhemkaaDoor.QUtfTreeLikes
namespace Go.Proofs.YtfaegleohhemkaaDoor.QTreeTreeLikes
open Go.RowKit Go.Proofs.YtfaegleohhemkaaDoor.PTreeLikes Go.Proofs.YtfaegleohhemkaaDoorW.PrintWords Go.Proofs.YtfaegleohhemkaaDoorW.PrintLast Go.Proofs.YtfaegleohhemkaaDoor.QValTreeLikes
set_option linter.unusedVariables false
set_option linter.unusedSimpArgs false
theorem used_f (x : S25) : tree_used.f x.f0 x.f1 x.f2 x.f3 x.f4 x.f5 = some (x.f1,(x.f2.toList != ([] : List UInt8)),(x.f3.toList != ([] : List UInt8)),decide ((x.f4.length : Int) > 0),decide ((x.f5.length : Int) > 0)):=rfl
theorem nn (n : Nat) : decide ((n : Int) > 0) = !decide (n = 0):=by
 cases n <;> simp
theorem bne_nil (l : List UInt8) : (l != ([] : List UInt8)) = !decide (l = []):=by cases l <;> rfl
theorem beq_nil (l : List UInt8) : (l == ([] : List UInt8)) = decide (l = []):=by cases l <;> rfl
def noneB (x : S25) : Bool:=decide (x.f4.length = 0) && decide (x.f5.length = 0)
def p1 (x : S25) : Bool:=noneB x && !x.f1 && decide (x.f2.toList = []) && decide (x.f3.toList = [])
def p2 (x : S25) : Bool:=noneB x && decide (x.f2.toList = []) && decide (x.f3.toList = [])
def p3 (x : S25) : Bool:=noneB x && !x.f1 && decide (¬ x.f2.toList = []) && decide (x.f3.toList = [])
def p4 (x : S25) : Bool:=noneB x && !x.f1 && decide (x.f2.toList = [])
def p5 (x : S25) : Bool:=decide (x.f4.length = 0) && !x.f1 && decide (x.f2.toList = []) && decide (x.f3.toList = [])
def p6 (x : S25) : Bool:=!x.f1 && decide (x.f2.toList = []) && decide (x.f3.toList = [])
theorem q1 (x : S25) : eq5 x.f1 (x.f2.toList != ([] : List UInt8)) (x.f3.toList != ([] : List UInt8)) (decide ((x.f4.length : Int) > 0)) (decide ((x.f5.length : Int) > 0)) false false false false false = p1 x:=by
 rw [nn,nn,bne_nil,bne_nil];unfold eq5 p1 noneB
 cases x.f1 <;> cases decide (x.f2.toList = []) <;> cases decide (x.f3.toList = []) <;> cases decide (x.f4.length = 0) <;> cases decide (x.f5.length = 0) <;> rfl
theorem q2 (x : S25) : eq5 x.f1 (x.f2.toList != ([] : List UInt8)) (x.f3.toList != ([] : List UInt8)) (decide ((x.f4.length : Int) > 0)) (decide ((x.f5.length : Int) > 0)) x.f1 false false false false = p2 x:=by
 rw [nn,nn,bne_nil,bne_nil];unfold eq5 p2 noneB
 cases x.f1 <;> cases decide (x.f2.toList = []) <;> cases decide (x.f3.toList = []) <;> cases decide (x.f4.length = 0) <;> cases decide (x.f5.length = 0) <;> rfl
theorem q3 (x : S25) : eq5 x.f1 (x.f2.toList != ([] : List UInt8)) (x.f3.toList != ([] : List UInt8)) (decide ((x.f4.length : Int) > 0)) (decide ((x.f5.length : Int) > 0)) false true false false false = p3 x:=by
 rw [nn,nn,bne_nil,bne_nil];unfold eq5 p3 noneB;rw [decide_not]
 cases x.f1 <;> cases decide (x.f2.toList = []) <;> cases decide (x.f3.toList = []) <;> cases decide (x.f4.length = 0) <;> cases decide (x.f5.length = 0) <;> rfl
theorem q4 (x : S25) : eq5 x.f1 (x.f2.toList != ([] : List UInt8)) (x.f3.toList != ([] : List UInt8)) (decide ((x.f4.length : Int) > 0)) (decide ((x.f5.length : Int) > 0)) false false (x.f3.toList != ([] : List UInt8)) false false = p4 x:=by
 rw [nn,nn,bne_nil,bne_nil];unfold eq5 p4 noneB
 cases x.f1 <;> cases decide (x.f2.toList = []) <;> cases decide (x.f3.toList = []) <;> cases decide (x.f4.length = 0) <;> cases decide (x.f5.length = 0) <;> rfl
theorem q5 (x : S25) : eq5 x.f1 (x.f2.toList != ([] : List UInt8)) (x.f3.toList != ([] : List UInt8)) (decide ((x.f4.length : Int) > 0)) (decide ((x.f5.length : Int) > 0)) false false false false (decide ((x.f5.length : Int) > 0)) = p5 x:=by
 rw [nn,nn,bne_nil,bne_nil];unfold eq5 p5
 cases x.f1 <;> cases decide (x.f2.toList = []) <;> cases decide (x.f3.toList = []) <;> cases decide (x.f4.length = 0) <;> cases decide (x.f5.length = 0) <;> rfl
theorem q6 (x : S25) : eq5 x.f1 (x.f2.toList != ([] : List UInt8)) (x.f3.toList != ([] : List UInt8)) (decide ((x.f4.length : Int) > 0)) (decide ((x.f5.length : Int) > 0)) false false false (decide ((x.f4.length : Int) > 0)) (decide ((x.f5.length : Int) > 0)) = p6 x:=by
 rw [nn,nn,bne_nil,bne_nil];unfold eq5 p6
 cases x.f1 <;> cases decide (x.f2.toList = []) <;> cases decide (x.f3.toList = []) <;> cases decide (x.f4.length = 0) <;> cases decide (x.f5.length = 0) <;> rfl
def anyBad (l : List ByteArray) : Bool:=l.any badB
def Sm (x : S25) : Prop:=bulk25 x ≤ 1048576
theorem tree_plain_f (x : S25) (hs : Sm x) : tree_plain.f x.f0 x.f1 x.f2 x.f3 x.f4 x.f5 =
  if x.f0 = 1 then some (p1 x) else if x.f0 = 2 then some (p2 x) else if x.f0 = 3 then (decimal_Of.f x.f2).bind fun d=>some (p3 x && (d.2.2.2 != 110))
  else if x.f0 = 4 then (if p4 x = true then some (decide (u8Run x.f3.data.toList 0 0 0 0 < 0)) else some false) else if x.f0 = 5 then some (p5 x)
  else if x.f0 = 6 then (if p6 x = true then (if x.f4.length = x.f5.length then some (!anyBad x.f4) else some false) else some false) else some false:=by
 have h3:=small_text x
 have h4 : ∀ s ∈ x.f4,s.size ≤ 1099511627776:=fun s h=>by have:=small_name x s h;unfold Sm at hs;omega
 have hb : utf8_Bad.f x.f3 = some (u8Run x.f3.data.toList 0 0 0 0):=by unfold utf8_Bad.f;rw [if_pos (by unfold Sm at hs;omega)]
 have hbs : tree_plain.bads x.f4 = some (anyBad x.f4):=by unfold tree_plain.bads anyBad;rw [if_pos (by simpa using h4)]
 unfold tree_plain.f
 rw [used_f,Option.bind_some];simp only;rw [q1,q2,q3,q4,q5,q6,hb,hbs];rfl
theorem bad_neg (s : ByteArray) : (u8Run s.data.toList 0 0 0 0 = -1) ↔ badB s = false:=by
 have h:=QUtfTreeLikes.run_ge s.data.toList 0 0 0 0 (by omega)
 unfold badB
 rw [decide_eq_false_iff_not]
 omega
theorem names_ev (x : S25) (hs : Sm x) : ∀ (d i : Nat),i + d = x.f4.length → Ev (fun k=>quarryref17_plain.l0 k (i : Int) x.f0 x.f1 x.f2 x.f3 x.f4 x.f5) (!anyBad (x.f4.drop i) && (p6 x && decide (x.f4.length = x.f5.length)))
 | 0,i,hd=>by
  have e : x.f4.drop i = []:=List.drop_of_length_le (by omega);rw [e];refine Ev.step (f:=fun _=>some _) (fun k=>?_) (Ev.now _);rw [quarryref17_plain.l0,if_neg (by omega)]
  unfold p6
  have hl : ((x.f4.length : Int) == (x.f5.length : Int)) = decide (x.f4.length = x.f5.length):=by
   by_cases h : x.f4.length = x.f5.length
   ·rw [decide_eq_true h];simp [h]
   rw [decide_eq_false h];exact beq_eq_false_iff_ne.mpr (by omega)
  rw [hl]
  show _ = some (!false && (!x.f1 && decide (x.f2.toList = []) && decide (x.f3.toList = []) && decide (x.f4.length = x.f5.length)))
  cases h1 : x.f1
  ·rw [if_neg (by decide)]
   by_cases h2 : x.f2.toList = []
   ·rw [if_pos h2,decide_eq_true h2]
    by_cases h3 : x.f3.toList = []
    ·rw [if_pos h3,decide_eq_true h3];rfl
    rw [if_neg h3,decide_eq_false h3];rfl
   rw [if_neg h2,decide_eq_false h2];rfl
  rw [if_pos rfl];rfl
 | d + 1,i,hd=>by
  have hlt : i < x.f4.length:=by omega
  have hsz:=small_name x x.f4[i] (List.getElem_mem hlt);have hl:=(small_len x).2
  have hrd : rdOf ByteArray.empty x.f4 (i : Int) = x.f4[i]:=by unfold rdOf;simp [hlt]
  have hdr : x.f4.drop i = x.f4[i] :: x.f4.drop (i + 1):=List.drop_eq_getElem_cons hlt;have hb:=QUtfTreeLikes.bad_ev x.f4[i] (by unfold Sm at hs;omega);rw [hdr]
  have ea : anyBad (x.f4[i] :: x.f4.drop (i + 1)) = (badB x.f4[i] || anyBad (x.f4.drop (i + 1))):=by unfold anyBad;rw [List.any_cons]
  rw [ea];refine Ev.step (f:=fun k=>(quarryref05_Bad.f k x.f4[i]).bind fun t=>if t = (-1) then quarryref17_plain.l0 k ((i + 1 : Nat) : Int) x.f0 x.f1 x.f2 x.f3 x.f4 x.f5 else some false) (fun k=>?_) (Ev.bind hb ?_)
  ·rw [quarryref17_plain.l0,if_pos (by omega),if_pos (by omega),hrd,w64s i (by unfold Sm at hs;omega)]
  by_cases h : u8Run x.f4[i].data.toList 0 0 0 0 = -1
  ·rw [(bad_neg _).mp h];refine Ev.congr (fun k=>if_pos h) ?_;exact names_ev x hs d (i + 1) (by omega)
  have hbt : badB x.f4[i] = true:=by
   cases e : badB x.f4[i] with
   | true=>rfl
   | false=>exact absurd ((bad_neg _).mpr e) h
  rw [hbt];exact Ev.congr (f:=fun _=>some false) (fun k=>if_neg h) (Ev.now _)
theorem plain_ev (x : S25) (hs : Sm x) : ∃ b,tree_plain.f x.f0 x.f1 x.f2 x.f3 x.f4 x.f5 = some b ∧ Ev (fun k=>quarryref17_plain.f k x.f0 x.f1 x.f2 x.f3 x.f4 x.f5) b:=by
 have ht:=tree_plain_f x hs;have hr:=small_raw x;have h3:=small_text x
 have lead (b : Bool) (h : Ev (fun k=>quarryref17_plain.j0 k (noneB x) x.f0 x.f1 x.f2 x.f3 x.f4 x.f5) b) : Ev (fun k=>quarryref17_plain.f k x.f0 x.f1 x.f2 x.f3 x.f4 x.f5) b:=by
  refine Ev.congr (fun k=>?_) h
  unfold quarryref17_plain.f noneB
  by_cases h4 : x.f4.length = 0
  ·rw [if_pos (by omega),decide_eq_true h4]
   congr 1
   by_cases h5 : x.f5.length = 0
   ·rw [decide_eq_true h5,h5];rfl
   rw [decide_eq_false h5];exact beq_eq_false_iff_ne.mpr (by omega)
  rw [if_neg (by omega),decide_eq_false h4];rfl
 by_cases k1 : x.f0 = 1
 ·rw [if_pos k1] at ht
  refine ⟨_,ht,lead _ ?_⟩;refine Ev.step (f:=fun _=>some (p1 x)) (fun k=>?_) (Ev.now _);rw [quarryref17_plain.j0,if_pos k1]
  unfold p1
  cases noneB x
  ·rw [if_neg (by decide)];rfl
  rw [if_pos rfl];cases x.f1
  ·rw [if_neg (by decide)]
   by_cases h2 : x.f2.toList = []
   ·rw [if_pos h2,decide_eq_true h2,beq_nil];rfl
   rw [if_neg h2,decide_eq_false h2];rfl
  rw [if_pos rfl];rfl
 rw [if_neg k1] at ht
 by_cases k2 : x.f0 = 2
 ·rw [if_pos k2] at ht
  refine ⟨_,ht,lead _ ?_⟩;refine Ev.step (f:=fun _=>some (p2 x)) (fun k=>?_) (Ev.now _);rw [quarryref17_plain.j0,if_neg k1,if_pos k2]
  unfold p2
  cases noneB x
  ·rw [if_neg (by decide)];rfl
  rw [if_pos rfl]
  by_cases h2 : x.f2.toList = []
  ·rw [if_pos h2,decide_eq_true h2,beq_nil];rfl
  rw [if_neg h2,decide_eq_false h2];rfl
 rw [if_neg k2] at ht
 by_cases k3 : x.f0 = 3
 ·rw [if_pos k3] at ht
  obtain ⟨d,hd1,hd2,hd3⟩:=QDecTreeLikes.of_ev x.f2 (by unfold Sm at hs;omega)
  rw [hd1,Option.bind_some] at ht
  refine ⟨_,ht,lead _ ?_⟩
  have hraw : x.f2.toList = [] → d.2.2.2 = 110:=by
   intro h
   have e : x.f2 = ⟨#[]⟩:=by
    rw [ByteArray.toList_eq] at h
    apply ByteArray.ext
    apply Array.ext'
    exact h
   rw [e] at hd1
   have : decimal_Of.f (⟨#[]⟩ : ByteArray) = some (false,⟨#[]⟩,0,110):=rfl
   rw [this] at hd1
   exact (congrArg (fun z=>z.2.2.2) (Option.some.inj hd1)).symm
  refine Ev.step (f:=fun k=>(quarryref11_Of.f k x.f2).bind fun b=>(if noneB x = true then (if x.f1 = true then (some false) else (if x.f3.toList = ([] : List UInt8) then (if b.2.2.2 = 0 then (some true) else (some (b.2.2.2 == 111))) else (some false))) else (some false))) (fun k=>?_) (Ev.bind hd2 ?_)
  ·rw [quarryref17_plain.j0,if_neg k1,if_neg k2,if_pos k3]
  refine Ev.congr (f:=fun _=>some (p3 x && (d.2.2.2 != 110))) (fun k=>?_) (Ev.now _)
  unfold p3
  by_cases h110 : d.2.2.2 = 110
  ·have hn : (d.2.2.2 != 110) = false:=by rw [h110];rfl
   rw [hn,Bool.and_false]
   have e1 : ¬ d.2.2.2 = 0:=by omega
   have e2 : (d.2.2.2 == 111) = false:=beq_eq_false_iff_ne.mpr (by omega);rw [e2,if_neg e1]
   repeat' split
   all_goals rfl
  have hn : (d.2.2.2 != 110) = true:=bne_iff_ne.mpr h110
  have hne : ¬ x.f2.toList = []:=fun h=>h110 (hraw h)
  have e3 : (if d.2.2.2 = 0 then (some true) else (some (d.2.2.2 == 111))) = some true:=by
   by_cases h0 : d.2.2.2 = 0
   ·rw [if_pos h0]
   rw [if_neg h0]
   have : d.2.2.2 = 111:=by omega
   rw [this];rfl
  rw [hn,Bool.and_true,decide_eq_true hne,e3];cases noneB x
  ·rw [if_neg (by decide)];rfl
  rw [if_pos rfl];cases x.f1
  ·rw [if_neg (by decide)]
   by_cases h2 : x.f3.toList = []
   ·rw [if_pos h2,decide_eq_true h2];rfl
   rw [if_neg h2,decide_eq_false h2];rfl
  rw [if_pos rfl];rfl
 rw [if_neg k3] at ht
 by_cases k4 : x.f0 = 4
 ·rw [if_pos k4] at ht
  have hb:=QUtfTreeLikes.bad_ev x.f3 (by unfold Sm at hs;omega)
  by_cases hp : p4 x = true
  ·rw [if_pos hp] at ht
   refine ⟨_,ht,lead _ ?_⟩
   unfold p4 at hp
   simp only [Bool.and_eq_true,decide_eq_true_eq,Bool.not_eq_true'] at hp
   obtain ⟨⟨hn,h1⟩,h2⟩:=hp;refine Ev.step (f:=fun k=>(quarryref05_Bad.f k x.f3).bind fun t=>some (t == (-1))) (fun k=>?_) (Ev.bind hb (Ev.congr (f:=fun _=>some (decide (u8Run x.f3.data.toList 0 0 0 0 < 0))) (fun k=>?_) (Ev.now _)))
   ·rw [quarryref17_plain.j0,if_neg k1,if_neg k2,if_neg k3,if_pos k4,hn,if_pos rfl,h1,if_neg (by decide),if_pos h2]
   congr 1
   have h:=QUtfTreeLikes.run_ge x.f3.data.toList 0 0 0 0 (by omega)
   by_cases e : u8Run x.f3.data.toList 0 0 0 0 = -1
   ·rw [e];rfl
   rw [decide_eq_false (by omega)];exact beq_eq_false_iff_ne.mpr e
  rw [if_neg hp] at ht
  refine ⟨_,ht,lead _ ?_⟩;refine Ev.step (f:=fun _=>some false) (fun k=>?_) (Ev.now _);rw [quarryref17_plain.j0,if_neg k1,if_neg k2,if_neg k3,if_pos k4]
  unfold p4 at hp
  cases hn : noneB x
  ·rw [if_neg (by decide)]
  rw [if_pos rfl];cases h1 : x.f1
  ·rw [if_neg (by decide)]
   by_cases h2 : x.f2.toList = []
   ·exact absurd (by rw [hn,h1,decide_eq_true h2];rfl) hp
   rw [if_neg h2]
  rw [if_pos rfl]
 rw [if_neg k4] at ht
 by_cases k5 : x.f0 = 5
 ·rw [if_pos k5] at ht
  refine ⟨_,ht,lead _ ?_⟩;refine Ev.step (f:=fun _=>some (p5 x)) (fun k=>?_) (Ev.now _);rw [quarryref17_plain.j0,if_neg k1,if_neg k2,if_neg k3,if_neg k4,if_pos k5]
  unfold p5
  have h4 : ((x.f4.length : Int) == 0) = decide (x.f4.length = 0):=by
   by_cases h : x.f4.length = 0
   ·rw [decide_eq_true h,h];rfl
   rw [decide_eq_false h];exact beq_eq_false_iff_ne.mpr (by omega)
  rw [h4];cases x.f1
  ·rw [if_neg (by decide)]
   by_cases h2 : x.f2.toList = []
   ·rw [if_pos h2,decide_eq_true h2]
    by_cases h3 : x.f3.toList = []
    ·rw [if_pos h3,decide_eq_true h3];cases decide (x.f4.length = 0) <;> rfl
    rw [if_neg h3,decide_eq_false h3];cases decide (x.f4.length = 0) <;> rfl
   rw [if_neg h2,decide_eq_false h2];cases decide (x.f4.length = 0) <;> rfl
  rw [if_pos rfl];cases decide (x.f4.length = 0) <;> rfl
 rw [if_neg k5] at ht
 by_cases k6 : x.f0 = 6
 ·rw [if_pos k6] at ht
  have hn:=names_ev x hs x.f4.length 0 (by omega)
  rw [List.drop_zero] at hn
  refine ⟨(!anyBad x.f4 && (p6 x && decide (x.f4.length = x.f5.length))),?_,lead _ ?_⟩
  ·rw [ht];cases p6 x
   ·rw [if_neg (by decide)];cases anyBad x.f4 <;> rfl
   rw [if_pos rfl]
   by_cases h : x.f4.length = x.f5.length
   ·rw [if_pos h,decide_eq_true h];cases anyBad x.f4 <;> rfl
   rw [if_neg h,decide_eq_false h];cases anyBad x.f4 <;> rfl
  refine Ev.step (fun k=>?_) hn;rw [quarryref17_plain.j0,if_neg k1,if_neg k2,if_neg k3,if_neg k4,if_neg k5,if_pos k6];rfl
 rw [if_neg k6] at ht
 refine ⟨_,ht,lead _ ?_⟩;refine Ev.step (f:=fun _=>some false) (fun k=>?_) (Ev.now _);rw [quarryref17_plain.j0,if_neg k1,if_neg k2,if_neg k3,if_neg k4,if_neg k5,if_neg k6]
theorem holds_f (x : S25) : tree_holds.f x.f0 x.f1 x.f2 x.f3 x.f4 x.f5 = some (decide (x.f0 = 5 ∨ x.f0 = 6)):=by
 unfold tree_holds.f
 by_cases h : x.f0 = 5
 ·rw [if_pos h,decide_eq_true (.inl h)]
 rw [if_neg h]
 by_cases h6 : x.f0 = 6
 ·rw [decide_eq_true (.inr h6),h6];rfl
 rw [decide_eq_false (fun e=>e.elim h h6)]
 congr 1
 exact beq_eq_false_iff_ne.mpr h6
def Both {α : Type} (f g : Nat → Option α) : Prop:=∃ b,Ev f b ∧ Ev g b
theorem formed_loop (x : S25) (hs : Sm x) (hk : ∀ y ∈ x.f5,∀ left : Int,Both (fun k=>tree_formed.f k y.f0 y.f1 y.f2 y.f3 y.f4 y.f5 left) (fun k=>quarryref17_formed.f k y.f0 y.f1 y.f2 y.f3 y.f4 y.f5 left)) (left : Int) : ∀ (d i : Nat),i + d = x.f5.length →
  Both (fun k=>tree_formed.l0 k left x.f5 (x.f5.length : Int) (i : Int)) (fun k=>quarryref17_formed.l0 k left (i : Int) x.f0 x.f1 x.f2 x.f3 x.f4 x.f5)
 | 0,i,hd=>⟨true,Ev.step (f:=fun _=>some true) (fun k=>by rw [tree_formed.l0,if_neg (by omega)]) (Ev.now _),Ev.step (f:=fun _=>some true) (fun k=>by rw [quarryref17_formed.l0,if_neg (by omega)]) (Ev.now _)⟩
 | d + 1,i,hd=>by
  have hlt : i < x.f5.length:=by omega
  have hl:=(small_len x).1;have hw:=w64s i (by unfold Sm at hs;omega);obtain ⟨b,h1,h2⟩:=hk _ (rd_mem x.f5 i hlt) (wrap64 (left - 1));obtain ⟨r,ih1,ih2⟩:=formed_loop x hs hk left d (i + 1) (by omega)
  cases b with
  | true =>
   refine ⟨r,Ev.step (fun k=>?_) (Ev.bind (f:=fun k t=>if t = true then tree_formed.l0 k left x.f5 (x.f5.length : Int) ((i + 1 : Nat) : Int) else some false) h1 (Ev.congr (fun k=>if_pos rfl) ih1)),Ev.step (fun k=>?_) (Ev.bind (f:=fun k t=>if t = true then quarryref17_formed.l0 k left ((i + 1 : Nat) : Int) x.f0 x.f1 x.f2 x.f3 x.f4 x.f5 else some false) h2 (Ev.congr (fun k=>if_pos rfl) ih2))⟩
   ·rw [tree_formed.l0,if_pos (by omega),if_pos (by omega),if_pos (by omega),hw]
   rw [quarryref17_formed.l0,if_pos (by omega),if_pos (by omega),hw]
  | false =>
   refine ⟨false,Ev.step (fun k=>?_) (Ev.bind (f:=fun k t=>if t = true then tree_formed.l0 k left x.f5 (x.f5.length : Int) ((i + 1 : Nat) : Int) else some false) h1 (Ev.congr (f:=fun _=>some false) (fun k=>if_neg Bool.false_ne_true) (Ev.now _))),Ev.step (fun k=>?_) (Ev.bind (f:=fun k t=>if t = true then quarryref17_formed.l0 k left ((i + 1 : Nat) : Int) x.f0 x.f1 x.f2 x.f3 x.f4 x.f5 else some false) h2 (Ev.congr (f:=fun _=>some false) (fun k=>if_neg Bool.false_ne_true) (Ev.now _)))⟩
   ·rw [tree_formed.l0,if_pos (by omega),if_pos (by omega),if_pos (by omega),hw]
   rw [quarryref17_formed.l0,if_pos (by omega),if_pos (by omega),hw]
theorem formed_ev (n : Nat) : ∀ (x : S25),SizeOf.sizeOf x ≤ n → Sm x → ∀ left : Int,Both (fun k=>tree_formed.f k x.f0 x.f1 x.f2 x.f3 x.f4 x.f5 left) (fun k=>quarryref17_formed.f k x.f0 x.f1 x.f2 x.f3 x.f4 x.f5 left):=by
 induction n with
 | zero=>intro x hn;cases x;simp at hn
 | succ n ih =>
  intro x hn hs left;obtain ⟨b,hp1,hp2⟩:=plain_ev x hs;have hh:=holds_f x;obtain ⟨r,l1,l2⟩:=formed_loop x hs (fun y hy=>ih y (by have:=kid_lt hy;omega) (by have:=small_kid x y hy;unfold Sm at hs ⊢;omega)) left x.f5.length 0 (by omega)
  have jt (c : Bool) : Ev (fun k=>tree_formed.j0 k left c x.f0 x.f1 x.f2 x.f3 x.f4 x.f5) (if c = true then false else r):=by
   cases c
   ·exact Ev.step (fun k=>by rw [tree_formed.j0,if_neg (by decide)];rfl) l1
   exact Ev.step (f:=fun _=>some false) (fun k=>by rw [tree_formed.j0,if_pos rfl]) (Ev.now _)
  have jr (c : Bool) : Ev (fun k=>quarryref17_formed.j0 k left c x.f0 x.f1 x.f2 x.f3 x.f4 x.f5) (if c = true then false else r):=by
   cases c
   ·exact Ev.step (fun k=>by rw [quarryref17_formed.j0,if_neg (by decide)];rfl) l2
   exact Ev.step (f:=fun _=>some false) (fun k=>by rw [quarryref17_formed.j0,if_pos rfl]) (Ev.now _)
  cases b with
  | false =>
   refine ⟨false,Ev.step (fun k=>?_) (jt true),Ev.step (fun k=>?_) (Ev.bind (f:=fun k t=>if t = true then (if x.f0 = 5 then (quarryref17_formed.j0 k left (left == 0) x.f0 x.f1 x.f2 x.f3 x.f4 x.f5) else (if x.f0 = 6 then (quarryref17_formed.j0 k left (left == 0) x.f0 x.f1 x.f2 x.f3 x.f4 x.f5) else (quarryref17_formed.j0 k left false x.f0 x.f1 x.f2 x.f3 x.f4 x.f5))) else some false) hp2 (Ev.congr (f:=fun _=>some false) (fun k=>if_neg Bool.false_ne_true) (Ev.now _)))⟩
   ·rw [tree_formed.f,hp1,Option.bind_some,if_neg (by decide)]
   rw [quarryref17_formed.f]
  | true =>
   by_cases hc : x.f0 = 5 ∨ x.f0 = 6
   ·rw [decide_eq_true hc] at hh
    refine ⟨_,Ev.step (fun k=>?_) (jt (left == 0)),Ev.step (fun k=>?_) (Ev.bind (f:=fun k t=>if t = true then (if x.f0 = 5 then (quarryref17_formed.j0 k left (left == 0) x.f0 x.f1 x.f2 x.f3 x.f4 x.f5) else (if x.f0 = 6 then (quarryref17_formed.j0 k left (left == 0) x.f0 x.f1 x.f2 x.f3 x.f4 x.f5) else (quarryref17_formed.j0 k left false x.f0 x.f1 x.f2 x.f3 x.f4 x.f5))) else some false) hp2 (Ev.congr (fun k=>?_) (jr (left == 0))))⟩
    ·rw [tree_formed.f,hp1,Option.bind_some,if_pos rfl,hh,Option.bind_some,if_pos rfl]
    ·rw [quarryref17_formed.f]
    rw [if_pos rfl]
    by_cases h5 : x.f0 = 5
    ·rw [if_pos h5]
    rw [if_neg h5,if_pos (hc.resolve_left h5)]
   rw [decide_eq_false hc] at hh
   refine ⟨_,Ev.step (fun k=>?_) (jt false),Ev.step (fun k=>?_) (Ev.bind (f:=fun k t=>if t = true then (if x.f0 = 5 then (quarryref17_formed.j0 k left (left == 0) x.f0 x.f1 x.f2 x.f3 x.f4 x.f5) else (if x.f0 = 6 then (quarryref17_formed.j0 k left (left == 0) x.f0 x.f1 x.f2 x.f3 x.f4 x.f5) else (quarryref17_formed.j0 k left false x.f0 x.f1 x.f2 x.f3 x.f4 x.f5))) else some false) hp2 (Ev.congr (fun k=>?_) (jr false)))⟩
   ·rw [tree_formed.f,hp1,Option.bind_some,if_pos rfl,hh,Option.bind_some,if_neg (by decide)]
   ·rw [quarryref17_formed.f]
   rw [if_pos rfl,if_neg (fun h=>hc (.inl h)),if_neg (fun h=>hc (.inr h))]
theorem Formed_ev (x : S25) (hs : Sm x) : Both (fun k=>tree_Formed.f k x.f0 x.f1 x.f2 x.f3 x.f4 x.f5) (fun k=>quarryref17_Formed.f k x.f0 x.f1 x.f2 x.f3 x.f4 x.f5):=by
 obtain ⟨b,h1,h2⟩:=formed_ev (SizeOf.sizeOf x) x (Nat.le_refl _) hs 1024;exact ⟨b,Ev.bind (f:=fun _ t=>some t) h1 (Ev.now _),Ev.bind (f:=fun _ t=>some t) h2 (Ev.now _)⟩
end Go.Proofs.YtfaegleohhemkaaDoor.QTreeTreeLikes
namespace Go.Proofs.YtfaegleohhemkaaDoor.QOrdTreeLikes
set_option linter.unusedVariables false
set_option linter.unusedSimpArgs false
section
variable {α : Type} (lt : α → α → Bool) (f : Nat → α)
structure Strict : Prop where
 irr : ∀ a,lt a a = false
 tr : ∀ a b c,lt a b = true → lt b c = true → lt a c = true
 tri : ∀ a b,lt a b = false → lt b a = false → a = b
def Ahead (i k : Nat) : Prop:=lt (f i) (f k) = true ∨ (f i = f k ∧ i < k)
def mergeL : List Nat → List Nat → List Nat
 | [],R=>R
 | x :: L,[]=>x :: L
 | x :: L,y :: R=>if lt (f y) (f x) = false then x :: mergeL L (y :: R) else y :: mergeL (x :: L) R
termination_by L R=>L.length + R.length
def pass (w : Nat) : Nat → List Nat → List Nat
 | 0,_=>[]
 | n + 1,l=>if l = [] then [] else mergeL lt f (l.take w) ((l.drop w).take w) ++ pass w n (l.drop (2 * w))
variable {lt f}
theorem mergeL_nil (L : List Nat) : mergeL lt f L [] = L:=by cases L <;> rw [mergeL]
theorem mergeL_perm : ∀ L R,(mergeL lt f L R).Perm (L ++ R)
 | [],R=>by rw [mergeL];exact List.Perm.refl _
 | x :: L,[]=>by rw [mergeL,List.append_nil]
 | x :: L,y :: R=>by
  rw [mergeL]
  split
  ·exact (mergeL_perm L (y :: R)).cons x
  exact ((mergeL_perm (x :: L) R).cons y).trans List.perm_middle.symm
termination_by L R=>L.length + R.length
theorem mergeL_mem {L R : List Nat} {z : Nat} : z ∈ mergeL lt f L R ↔ z ∈ L ∨ z ∈ R:=by rw [(mergeL_perm L R).mem_iff,List.mem_append]
theorem Ahead.trans (S : Strict lt) {a b c : Nat} (h : Ahead lt f a b) (g : Ahead lt f b c) : Ahead lt f a c:=by
 rcases h with h|⟨h1,h2⟩
 ·rcases g with g|⟨g1,g2⟩
  ·exact .inl (S.tr _ _ _ h g)
  exact .inl (g1 ▸ h)
 rcases g with g|⟨g1,g2⟩
 ·exact .inl (h1 ▸ g)
 exact .inr ⟨h1.trans g1,Nat.lt_trans h2 g2⟩
theorem mergeL_sorted (S : Strict lt) : ∀ L R,L.Pairwise (Ahead lt f) → R.Pairwise (Ahead lt f) → (∀ x ∈ L,∀ y ∈ R,x < y) → (mergeL lt f L R).Pairwise (Ahead lt f)
 | [],R,_,hR,_=>by rw [mergeL];exact hR
 | x :: L,[],hL,_,_=>by rw [mergeL];exact hL
 | x :: L,y :: R,hL,hR,h=>by
  rw [mergeL];have hL':=List.pairwise_cons.1 hL;have hR':=List.pairwise_cons.1 hR
  split
  ·rename_i g
   have hxy : Ahead lt f x y:=by
    by_cases q : lt (f x) (f y) = true
    ·exact .inl q
    exact .inr ⟨S.tri _ _ (by simpa using q) g,h x (by simp) y (by simp)⟩
   refine List.pairwise_cons.2 ⟨fun z hz=>?_,mergeL_sorted S L (y :: R) hL'.2 hR (fun a ha b hb=>h a (by simp [ha]) b hb)⟩
   rcases mergeL_mem.1 hz with hz|hz
   ·exact hL'.1 z hz
   rcases List.mem_cons.1 hz with rfl|hz
   ·exact hxy
   exact hxy.trans S (hR'.1 z hz)
  rename_i g
  have hyx : Ahead lt f y x:=.inl (by simpa using g);refine List.pairwise_cons.2 ⟨fun z hz=>?_,mergeL_sorted S (x :: L) R hL hR'.2 (fun a ha b hb=>h a ha b (by simp [hb]))⟩
  rcases mergeL_mem.1 hz with hz|hz
  ·rcases List.mem_cons.1 hz with rfl|hz
   ·exact hyx
   exact hyx.trans S (hL'.1 z hz)
  exact hR'.1 z hz
termination_by L R=>L.length + R.length
inductive RowsN (lt : α → α → Bool) (f : Nat → α) (w : Nat) : List Nat → Prop
 | nil : RowsN lt f w []
 | cons (B r : List Nat) : (B.length = w ∨ (B.length ≤ w ∧ r = [])) → B.Pairwise (Ahead lt f) → (∀ x ∈ B,∀ y ∈ r,x < y) → RowsN lt f w r → RowsN lt f w (B ++ r)
theorem take_left {B r : List Nat} {w : Nat} (h : B.length = w ∨ (B.length ≤ w ∧ r = [])) : (B ++ r).take w = B ∧ (B ++ r).drop w = r:=by
 rcases h with h|⟨h,rfl⟩
 ·subst h;exact ⟨List.take_left,List.drop_left⟩
 rw [List.append_nil];exact ⟨List.take_of_length_le h,List.drop_of_length_le h⟩
theorem pass_rows (S : Strict lt) {w : Nat} (hw : 0 < w) : ∀ (n : Nat) (l : List Nat),l.length ≤ n → RowsN lt f w l → RowsN lt f (2 * w) (pass lt f w n l) ∧ (pass lt f w n l).Perm l
 | 0,l,hn,h=>by
  have : l = []:=List.length_eq_zero_iff.1 (by omega);subst this;exact ⟨.nil,List.Perm.refl _⟩
 | n + 1,l,hn,h=>by
  rw [pass]
  split
  ·rename_i e;subst e;exact ⟨.nil,List.Perm.refl _⟩
  rename_i hne
  cases h with
  | nil=>exact absurd rfl hne
  | cons B r hB hs hx hr =>
   obtain ⟨t1,t2⟩:=take_left hB;rw [show (B ++ r).drop (2 * w) = ((B ++ r).drop w).drop w by rw [List.drop_drop];congr 1;omega,t1,t2]
   have hBl : B.length ≤ w:=by rcases hB with hB|hB <;> omega
   cases hr with
   | nil =>
    rw [List.take_nil,List.drop_nil,mergeL_nil]
    have e : pass lt f w n [] = []:=by cases n <;> simp [pass]
    rw [e];exact ⟨.cons B [] (.inr ⟨by omega,rfl⟩) hs (by intro x _ y hy;cases hy) .nil,List.Perm.refl _⟩
   | cons B2 r2 hB2 hs2 hx2 hr2 =>
    obtain ⟨u1,u2⟩:=take_left hB2;rw [u1,u2]
    have hB2l : B2.length ≤ w:=by rcases hB2 with hB2|hB2 <;> omega
    have lB : (B ++ (B2 ++ r2)).length ≤ n + 1:=hn
    rw [List.length_append,List.length_append] at lB
    have hn2 : r2.length ≤ n:=by
     rcases hB with hB|⟨_,hB⟩
     ·omega
     have:=congrArg List.length hB
     rw [List.length_append,List.length_nil] at this
     omega
    obtain ⟨p1,p2⟩:=pass_rows S hw n r2 hn2 hr2
    have hm : (mergeL lt f B B2).length = B.length + B2.length:=by rw [(mergeL_perm B B2).length_eq,List.length_append]
    refine ⟨.cons _ _ ?_ (mergeL_sorted S B B2 hs hs2 (fun x hx' y hy=>hx x hx' y (by simp [hy]))) ?_ p1,?_⟩
    ·rw [hm]
     rcases hB2 with e2|⟨e2,e3⟩
     ·rcases hB with e1|⟨e1,e4⟩
      ·exact .inl (by omega)
      have:=congrArg List.length e4
      rw [List.length_append,List.length_nil] at this
      omega
     subst e3;refine .inr ⟨by omega,?_⟩;exact List.Perm.eq_nil p2
    ·intro x hx' y hy;have hy2 : y ∈ r2:=p2.mem_iff.1 hy
     rcases mergeL_mem.1 hx' with g|g
     ·exact hx x g y (by simp [hy2])
     exact hx2 x g y hy2
    rw [← List.append_assoc];exact (mergeL_perm B B2).append p2
theorem rows_one : ∀ (k i : Nat),RowsN lt f 1 (List.range' i k)
 | 0,i=>.nil
 | k + 1,i=>by
  rw [List.range'_succ];refine .cons [i] _ (.inl rfl) (by simp) ?_ (rows_one k (i + 1));intro x hx y hy
  simp at hx hy
  omega
theorem rows_all {w : Nat} {l : List Nat} (h : RowsN lt f w l) (hl : l.length ≤ w) (hw : 0 < w) : l.Pairwise (Ahead lt f):=by
 cases h with
 | nil=>exact List.Pairwise.nil
 | cons B r hB hs hx hr =>
  have hr0 : r = []:=by
   rw [List.length_append] at hl
   rcases hB with hB|hB
   ·exact List.length_eq_zero_iff.1 (by omega)
   exact hB.2
  subst hr0;rw [List.append_nil];exact hs
structure Order (lt : α → α → Bool) (f : Nat → α) (n : Nat) (o : List Nat) : Prop where
 perm : o.Perm (List.range n)
 sorted : o.Pairwise (Ahead lt f)
theorem Order.len {n : Nat} {o : List Nat} (h : Order lt f n o) : o.length = n:=by rw [h.perm.length_eq,List.length_range]
theorem Order.mem {n : Nat} {o : List Nat} (h : Order lt f n o) {i : Nat} : i ∈ o ↔ i < n:=by rw [h.perm.mem_iff,List.mem_range]
theorem Order.lt_at {n : Nat} {o : List Nat} (h : Order lt f n o) {p q : Nat} (hq : q < o.length) (hp : p < q) : Ahead lt f o[p] o[q]:=List.pairwise_iff_getElem.1 h.sorted p q _ _ hp
theorem Order.found (S : Strict lt) {n : Nat} {o : List Nat} (h : Order lt f n o) {t : α} {low : Nat} (hl : low ≤ o.length) (h1 : ∀ p (hp : p < o.length),p < low → lt (f o[p]) t = true) (h2 : ∀ p (hp : p < o.length),low ≤ p → lt (f o[p]) t = false) :
  (∀ (hlow : low < o.length),f o[low] = t → ∀ j,j < n → f j = t → o[low] ≤ j) ∧ ((∀ (hlow : low < o.length),f o[low] ≠ t) → ∀ j,j < n → f j ≠ t):=by
 constructor
 ·intro hlow e j hj ej;obtain ⟨p,hp,rfl⟩:=List.mem_iff_getElem.1 (h.mem.2 hj)
  have : low ≤ p:=by
   rcases Nat.lt_or_ge p low with g|g
   ·have:=h1 p hp g
    rw [ej,S.irr] at this
    cases this
   exact g
  rcases Nat.lt_or_eq_of_le this with g|g
  ·rcases h.lt_at hp g with q|⟨_,q⟩
   ·rw [e,ej,S.irr] at q;cases q
   omega
  subst g;exact Nat.le_refl _
 intro hne j hj ej;obtain ⟨p,hp,rfl⟩:=List.mem_iff_getElem.1 (h.mem.2 hj)
 have hlp : low ≤ p:=by
  rcases Nat.lt_or_ge p low with g|g
  ·have:=h1 p hp g
   rw [ej,S.irr] at this
   cases this
  exact g
 have hlow : low < o.length:=by omega
 refine hne hlow ?_
 rcases Nat.lt_or_eq_of_le hlp with g|g
 ·rcases h.lt_at hp g with q|⟨q,_⟩
  ·have:=h2 low hlow (Nat.le_refl _)
   rw [ej] at q
   rw [q] at this;cases this
  exact q.trans ej
 subst g;exact ej
theorem Order.below (S : Strict lt) {n : Nat} {o : List Nat} (h : Order lt f n o) {t : α} {p q : Nat} (hq : q < o.length) (hp : p ≤ q) (g : lt (f o[q]) t = true) : lt (f o[p]) t = true:=by
 rcases Nat.lt_or_eq_of_le hp with e|e
 ·rcases h.lt_at hq e with u|⟨u,_⟩
  ·exact S.tr _ _ _ u g
  rw [u];exact g
 subst e;exact g
end
theorem strict_bytes : Strict Go.Op.bytesLess:=by
 have irr : ∀ a,Go.Op.bytesLess a a = false:=by
  intro a
  induction a with
  | nil=>rfl
  | cons x a ih=>simp [Go.Op.bytesLess,ih]
 have tri : ∀ a b,Go.Op.bytesLess a b = false → Go.Op.bytesLess b a = false → a = b:=by
  intro a
  induction a with
  | nil=>intro b h1 h2;cases b with
   | nil=>rfl
   | cons y b=>simp [Go.Op.bytesLess] at h1
  | cons x a ih=>intro b h1 h2;cases b with
   | nil=>simp [Go.Op.bytesLess] at h2
   | cons y b =>
    simp only [Go.Op.bytesLess,Bool.or_eq_false_iff,decide_eq_false_iff_not,Bool.and_eq_false_iff,beq_eq_false_iff_ne] at h1 h2
    have e : x = y:=UInt8.le_antisymm (UInt8.not_lt.1 h2.1) (UInt8.not_lt.1 h1.1);subst e
    rcases h1.2 with q|q
    ·exact absurd rfl q
    rcases h2.2 with r|r
    ·exact absurd rfl r
    rw [ih b q r]
 refine ⟨irr,?_,tri⟩;intro a
 induction a with
 | nil=>intro b c h1 h2;cases c with
  | nil=>cases b <;> simp [Go.Op.bytesLess] at h2
  | cons z c=>rfl
 | cons x a ih=>intro b c h1 h2;cases b with
  | nil=>simp [Go.Op.bytesLess] at h1
  | cons y b=>cases c with
   | nil=>simp [Go.Op.bytesLess] at h2
   | cons z c =>
    simp only [Go.Op.bytesLess,Bool.or_eq_true,decide_eq_true_eq,Bool.and_eq_true,beq_iff_eq] at h1 h2 ⊢
    rcases h1 with h1|⟨rfl,h1⟩
    ·rcases h2 with h2|⟨rfl,h2⟩
     ·exact .inl (UInt8.lt_trans h1 h2)
     exact .inl h1
    rcases h2 with h2|⟨rfl,h2⟩
    ·exact .inl h2
    exact .inr ⟨rfl,ih b c h1 h2⟩
end Go.Proofs.YtfaegleohhemkaaDoor.QOrdTreeLikes
namespace Go.Proofs.YtfaegleohhemkaaDoor.QPlcTreeLikes
open Go.RowKit Go.Proofs.YtfaegleohhemkaaDoor.PTreeLikes Go.Proofs.YtfaegleohhemkaaDoorW.PrintWords Go.Proofs.YtfaegleohhemkaaDoorW.PrintLast Go.Proofs.YtfaegleohhemkaaDoor.QOrdTreeLikes
set_option linter.unusedVariables false
set_option linter.unusedSimpArgs false
abbrev nm (names : List ByteArray) (i : Nat) : List UInt8:=(rdOf ByteArray.empty names (i : Int)).toList
abbrev ints (o : List Nat) : List Int:=List.map (fun n : Nat=>(n : Int)) o
theorem w64 (n : Int) (h : -9223372036854775808 ≤ n) (h2 : n ≤ 9223372036854775807) : wrap64 n = n:=by unfold wrap64;omega
theorem rd_ints {o : List Nat} {i : Nat} (h : i < o.length) : rd (ints o) (i : Int) = (o[i] : Int):=by
 unfold rd
 simp [h]
theorem ints_len (o : List Nat) : (ints o).length = o.length:=List.length_map _
theorem ints_app (a b : List Nat) : ints (a ++ b) = ints a ++ ints b:=List.map_append
theorem l0_run (names : List ByteArray) (hl : names.length ≤ 1048576) : ∀ (n i : Nat),i + n = names.length → ∀ K,quarryref17_Ordered.l0 (K + n + 1) names (ints (List.range i)) (i : Int) = quarryref17_Ordered.l1 K names (ints (List.range names.length)) 1
 | 0,i,h,K=>by
  rw [show K + 0 + 1 = K + 1 by omega,quarryref17_Ordered.l0,if_neg (by omega),show i = names.length by omega]
 | n + 1,i,h,K=>by
  rw [show K + (n + 1) + 1 = (K + n + 1) + 1 by omega,quarryref17_Ordered.l0,if_pos (by omega),if_pos (by rw [ints_len,List.length_range];omega),w64 _ (by omega) (by omega)]
  have e : ints (List.range i) ++ [(i : Int)] = ints (List.range (i + 1)):=by rw [List.range_succ,ints_app];rfl
  rw [e];exact l0_run names hl n (i + 1) (by omega) K
abbrev seg (o : List Nat) (i m : Nat) : List Nat:=(o.drop i).take (m - i)
theorem seg_nil {o : List Nat} {i m : Nat} (h : m ≤ i) : seg o i m = []:=by
 show (o.drop i).take (m - i) = []
 rw [show m - i = 0 by omega,List.take_zero]
theorem seg_cons {o : List Nat} {i m : Nat} (h : i < m) (hm : m ≤ o.length) : seg o i m = o[i]'(by omega) :: seg o (i + 1) m:=by
 show (o.drop i).take (m - i) = _ :: (o.drop (i + 1)).take (m - (i + 1))
 rw [List.drop_eq_getElem_cons (show i < o.length by omega),show m - i = (m - (i + 1)) + 1 by omega,List.take_succ_cons]
theorem l3_run (names : List ByteArray) (hl : names.length ≤ 1048576) (o : List Nat) (ho : o.length = names.length) (hlt : ∀ i (h : i < o.length),o[i] < names.length) (w frm m e : Nat) (hm : m ≤ o.length) (he : e ≤ o.length) (hw : w ≤ 1048576) (hf : frm ≤ 1048576) :
  ∀ (n i k : Nat) (next : List Nat),i ≤ m → k ≤ e → (m - i) + (e - k) = n → next.length + n ≤ 1048576 * 3 → ∀ K,
  quarryref17_Ordered.l3 (K + 2 * n + 2) names (ints o) (w : Int) (ints next) (frm : Int) (m : Int) (e : Int) (i : Int) (k : Int) = quarryref17_Ordered.l2 K names (ints o) (w : Int) (ints (next ++ mergeL Op.bytesLess (nm names) (seg o i m) (seg o k e))) (wrap64 ((frm : Int) + wrap64 (2 * (w : Int))))
 | 0,i,k,next,hi,hk,hn,hx,K=>by
  rw [show K + 2 * 0 + 2 = K + 1 + 1 by omega,quarryref17_Ordered.l3,if_neg (by omega),decide_eq_false (by omega),quarryref17_Ordered.j4,if_neg (by decide),seg_nil (by omega),seg_nil (by omega),mergeL,List.append_nil]
 | n + 1,i,k,next,hi,hk,hn,hx,K=>by
  have hlen : (ints next).length < 17592186044416:=by rw [ints_len];omega
  have app : ∀ a : Nat,ints next ++ [(a : Int)] = ints (next ++ [a]):=fun a=>by rw [ints_app];rfl
  by_cases ci : i < m
  ·by_cases ck : k < e
   ·have hi2 : i < o.length:=by omega
    have hk2 : k < o.length:=by omega
    have b1:=hlt i hi2;have b2:=hlt k hk2;rw [show K + 2 * (n + 1) + 2 = (K + 2 * n + 2) + 1 + 1 by omega,quarryref17_Ordered.l3,if_pos (by omega),quarryref17_Ordered.j4,if_pos rfl,if_neg (by omega),if_pos (by omega),if_pos (by omega),if_pos (by rw [ints_len];omega),rd_ints hi2,if_pos (by omega),if_pos (by omega),if_pos (by omega),if_pos (by rw [ints_len];omega),rd_ints hk2,if_pos (by omega),if_pos (by omega),seg_cons ci hm,seg_cons ck he,mergeL]
    by_cases c : Op.bytesLess (nm names o[k]) (nm names o[i]) = true
    ·rw [if_pos c,if_pos hlen,w64 _ (by omega) (by omega),app,if_neg (by rw [c];decide),← seg_cons ci hm];have ih:=l3_run names hl o ho hlt w frm m e hm he hw hf n i (k + 1) (next ++ [o[k]]) hi (by omega) (by omega) (by rw [List.length_append];simp;omega) K
     rw [List.append_assoc] at ih
     exact ih
    have c0 : Op.bytesLess (nm names o[k]) (nm names o[i]) = false:=by simpa using c
    rw [if_neg c,if_pos hlen,w64 _ (by omega) (by omega),app,if_pos c0,← seg_cons ck he];have ih:=l3_run names hl o ho hlt w frm m e hm he hw hf n (i + 1) k (next ++ [o[i]]) (by omega) hk (by omega) (by rw [List.length_append];simp;omega) K
    rw [List.append_assoc] at ih
    exact ih
   have hi2 : i < o.length:=by omega
   rw [show K + 2 * (n + 1) + 2 = (K + 2 * n + 2) + 1 + 1 by omega,quarryref17_Ordered.l3,if_pos (by omega),quarryref17_Ordered.j4,if_pos rfl,if_pos (by omega),if_pos (by omega),if_pos (by rw [ints_len];omega),if_pos hlen,rd_ints hi2,w64 _ (by omega) (by omega),app];have ih:=l3_run names hl o ho hlt w frm m e hm he hw hf n (i + 1) k (next ++ [o[i]]) (by omega) hk (by omega) (by rw [List.length_append];simp;omega) K
   rw [seg_nil (show e ≤ k by omega),mergeL_nil] at ih ⊢
   rw [seg_cons ci hm]
   rw [List.append_assoc] at ih
   exact ih
  have ck : k < e:=by omega
  have hk2 : k < o.length:=by omega
  rw [show K + 2 * (n + 1) + 2 = (K + 2 * n + 2) + 1 + 1 by omega,quarryref17_Ordered.l3,if_neg (by omega),decide_eq_true (by omega),quarryref17_Ordered.j4,if_pos rfl,if_neg (by omega),if_neg (by omega),if_pos (by omega),if_pos (by rw [ints_len];omega),if_pos hlen,rd_ints hk2,w64 _ (by omega) (by omega),app];have ih:=l3_run names hl o ho hlt w frm m e hm he hw hf n i (k + 1) (next ++ [o[k]]) hi (by omega) (by omega) (by rw [List.length_append];simp;omega) K
  rw [seg_nil (show m ≤ i by omega),mergeL] at ih ⊢
  rw [seg_cons ck he]
  rw [List.append_assoc] at ih
  exact ih
theorem wadd (a b : Nat) (h : a + b ≤ 1000000000) : wrap64 ((a : Int) + (b : Int)) = ((a + b : Nat) : Int):=by
 rw [w64 _ (by omega) (by omega)];omega
theorem wtwo (w : Nat) (h : w ≤ 1000000000) : wrap64 (2 * (w : Int)) = ((2 * w : Nat) : Int):=by
 rw [w64 _ (by omega) (by omega)];omega
theorem mn_min (a b : Nat) : mn (a : Int) (b : Int) = ((min a b : Nat) : Int):=by
 unfold mn
 split <;> omega
theorem seg_take {o : List Nat} {i w : Nat} : seg o i (min (i + w) o.length) = (o.drop i).take w:=by
 show (o.drop i).take (min (i + w) o.length - i) = _
 by_cases h : i + w ≤ o.length
 ·rw [show min (i + w) o.length - i = w by omega]
 rw [List.take_of_length_le (by rw [List.length_drop];omega),List.take_of_length_le (by rw [List.length_drop];omega)]
theorem l2_run (names : List ByteArray) (hl : names.length ≤ 1048576) (o : List Nat) (ho : o.length = names.length) (hlt : ∀ i (h : i < o.length),o[i] < names.length) (w : Nat) (hw0 : 0 < w) (hw : w ≤ 1048576) :
  ∀ (n frm : Nat) (next : List Nat),o.length ≤ frm + n → frm ≤ 1048576 * 3 → next.length ≤ frm → ∃ c,∀ K,
  quarryref17_Ordered.l2 (K + c) names (ints o) (w : Int) (ints next) (frm : Int) = quarryref17_Ordered.l1 K names (ints (next ++ pass Op.bytesLess (nm names) w (n + 1) (o.drop frm))) ((2 * w : Nat) : Int)
 | n,frm,next,h,hf,hx=>by
  by_cases c : frm < o.length
  ·obtain ⟨n,rfl⟩ : ∃ n',n = n' + 1:=⟨n - 1,by omega⟩
   obtain ⟨c1,h1⟩:=l2_run names hl o ho hlt w hw0 hw n (frm + 2 * w) (next ++ mergeL Op.bytesLess (nm names) ((o.drop frm).take w) (((o.drop frm).drop w).take w)) (by omega) (by omega) (by
    rw [List.length_append,(mergeL_perm _ _).length_eq,List.length_append,List.length_take,List.length_take];omega)
   have hne : o.drop frm ≠ []:=fun e=>by
    have:=congrArg List.length e
    rw [List.length_drop,List.length_nil] at this
    omega
   have ep : pass Op.bytesLess (nm names) w (n + 1 + 1) (o.drop frm) = mergeL Op.bytesLess (nm names) ((o.drop frm).take w) (((o.drop frm).drop w).take w) ++ pass Op.bytesLess (nm names) w (n + 1) ((o.drop frm).drop (2 * w)):=by
    rw [pass,if_neg hne]
   rw [show (o.drop frm).drop (2 * w) = o.drop (frm + 2 * w) from List.drop_drop] at ep
   refine ⟨c1 + (2 * ((min (frm + w) o.length - frm) + (min (min (frm + w) o.length + w) o.length - min (frm + w) o.length)) + 2) + 1,fun K=>?_⟩
   have b0 : (frm : Int) < (names.length : Int):=by omega
   have b1 : frm + w ≤ 1000000000:=by omega
   have b2 : min (frm + w) o.length + w ≤ 1000000000:=by omega
   have b3 : frm + 2 * w ≤ 1000000000:=by omega
   have b4 : w ≤ 1000000000:=by omega
   have l3:=l3_run names hl o ho hlt w frm (min (frm + w) o.length) (min (min (frm + w) o.length + w) o.length) (Nat.min_le_right _ _) (Nat.min_le_right _ _) hw (by omega) _ frm (min (frm + w) o.length) next (by omega) (by omega) rfl (by omega) (K + c1);rw [← Nat.add_assoc,← Nat.add_assoc,← Nat.add_assoc,quarryref17_Ordered.l2,if_pos b0,wadd _ _ b1,← ho,mn_min,wadd _ _ b2,mn_min];refine Eq.trans l3 ?_;rw [wtwo _ b4,wadd _ _ b3,seg_take]
   have e4 : seg o (min (frm + w) o.length) (min (min (frm + w) o.length + w) o.length) = ((o.drop frm).drop w).take w:=by
    rw [seg_take,List.drop_drop]
    by_cases g : frm + w ≤ o.length
    ·rw [Nat.min_eq_left g]
    rw [List.drop_of_length_le (show o.length ≤ min (frm + w) o.length by omega),List.drop_of_length_le (show o.length ≤ frm + w by omega)]
   rw [e4,h1 K,ep,List.append_assoc]
  refine ⟨1,fun K=>?_⟩;have e : o.drop frm = []:=List.drop_of_length_le (by omega);rw [quarryref17_Ordered.l2,if_neg (by omega),e,pass,if_pos rfl,List.append_nil,wtwo _ (by omega)]
termination_by n=>n
theorem l1_run (names : List ByteArray) (hl : names.length ≤ 1048576) : ∀ (n w : Nat) (o : List Nat),names.length ≤ w + n → 0 < w → w ≤ 1048576 * 2 → RowsN Op.bytesLess (nm names) w o → o.Perm (List.range names.length) → ∃ c o',(∀ K,quarryref17_Ordered.l1 (K + c) names (ints o) (w : Int) = some (ints o')) ∧ Order Op.bytesLess (nm names) names.length o'
 | n,w,o,h,hw,hw2,hr,hp=>by
  have ho : o.length = names.length:=by rw [hp.length_eq,List.length_range]
  by_cases c : w < names.length
  ·have hlt : ∀ i (h : i < o.length),o[i] < names.length:=fun i hi=>List.mem_range.1 (hp.mem_iff.1 (List.getElem_mem hi))
   obtain ⟨c2,h2⟩:=l2_run names hl o ho hlt w hw (by omega) o.length 0 [] (by omega) (by omega) (by simp);obtain ⟨p1,p2⟩:=pass_rows strict_bytes hw (o.length + 1) o (by omega) hr;obtain ⟨c3,o',h3,h4⟩:=l1_run names hl (n - w) (2 * w) _ (by omega) (by omega) (by omega) p1 (p2.trans hp);refine ⟨c3 + c2 + 1,o',fun K=>?_,h4⟩;rw [← Nat.add_assoc,quarryref17_Ordered.l1,if_pos (by omega),← Nat.add_assoc];refine Eq.trans (h2 (K + c3)) ?_;rw [List.nil_append,List.drop_zero];exact h3 K
  refine ⟨1,o,fun K=>by rw [quarryref17_Ordered.l1,if_neg (by omega)],⟨hp,rows_all hr (by omega) hw⟩⟩
termination_by n w=>n
theorem ordered_eq (names : List ByteArray) (hl : names.length ≤ 1048576) : ∃ c o,(∀ K,quarryref17_Ordered.f (K + c) names = some (ints o)) ∧ Order Op.bytesLess (nm names) names.length o:=by
 have hr : RowsN Op.bytesLess (nm names) 1 (List.range names.length):=by
  rw [List.range_eq_range'];exact rows_one _ _
 obtain ⟨c,o,h1,h2⟩:=l1_run names hl names.length 1 _ (by omega) (by decide) (by decide) hr (List.Perm.refl _);refine ⟨c + names.length + 1,o,fun K=>?_,h2⟩
 unfold quarryref17_Ordered.f
 have e:=l0_run names hl names.length 0 (by omega) (K + c);rw [show K + (c + names.length + 1) = K + c + names.length + 1 by omega];exact e.trans (h1 K)
def PlaceIs (names : List ByteArray) (t : ByteArray) (r : Int) : Prop :=
 (∃ j : Nat,r = (j : Int) ∧ j < names.length ∧ nm names j = t.toList ∧ ∀ i,i < names.length → nm names i = t.toList → j ≤ i) ∨ (r = -1 ∧ ∀ i,i < names.length → nm names i ≠ t.toList)
theorem mid_eq (a b : Nat) (h : a + b ≤ 1000000000) : wrap64 (Int.tdiv (wrap64 ((a : Int) + (b : Int))) 2) = (((a + b) / 2 : Nat) : Int):=by
 rw [wadd a b h,Int.tdiv_eq_ediv_of_nonneg (by omega),w64 _ (by omega) (by omega)]
 omega
theorem place_run (names : List ByteArray) (hl : names.length ≤ 1048576) {o : List Nat} (hO : Order Op.bytesLess (nm names) names.length o) (t : ByteArray) :
  ∀ (n low high : Nat),high - low ≤ n → low ≤ high → high ≤ o.length → (∀ p (hp : p < o.length),p < low → Op.bytesLess (nm names o[p]) t.toList = true) → (∀ p (hp : p < o.length),high ≤ p → Op.bytesLess (nm names o[p]) t.toList = false) →
  ∃ r,PlaceIs names t r ∧ ∀ K,quarryref17_Place.l0 (K + n + 1) names (ints o) t (low : Int) (high : Int) = some r
 | n,low,high,hn,hlh,hh,h1,h2=>by
  have ol:=hO.len
  by_cases c : low < high
  ·obtain ⟨n,rfl⟩ : ∃ n',n = n' + 1:=⟨n - 1,by omega⟩
   have hs : low + high ≤ 1000000000:=by omega
   obtain ⟨m,hm⟩ : ∃ m,m = (low + high) / 2:=⟨_,rfl⟩
   have hmo : m < o.length:=by omega
   have hom : o[m] < names.length:=hO.mem.1 (List.getElem_mem hmo)
   have a1 : (low : Int) < (high : Int):=by omega
   have a2 : (0 : Int) ≤ (m : Int):=by omega
   have a3 : (m : Int) < ((ints o).length : Int):=by rw [ints_len];omega
   have a4 : (0 : Int) ≤ ((o[m] : Nat) : Int):=by omega
   have a5 : ((o[m] : Nat) : Int) < (names.length : Int):=by omega
   have st : ∀ K,quarryref17_Place.l0 (K + (n + 1) + 1) names (ints o) t (low : Int) (high : Int) = if Op.bytesLess (nm names o[m]) t.toList = true then quarryref17_Place.l0 (K + n + 1) names (ints o) t ((m + 1 : Nat) : Int) (high : Int) else quarryref17_Place.l0 (K + n + 1) names (ints o) t (low : Int) (m : Int):=by
    intro K;rw [show K + (n + 1) + 1 = (K + n + 1) + 1 by omega,quarryref17_Place.l0,mid_eq _ _ hs,← hm,if_pos a1,if_pos a2,if_pos a3,rd_ints hmo,if_pos a4,if_pos a5,show wrap64 ((m : Int) + 1) = ((m + 1 : Nat) : Int) from wadd m 1 (by omega)]
   by_cases g : Op.bytesLess (nm names o[m]) t.toList = true
   ·obtain ⟨r,r1,r2⟩:=place_run names hl hO t n (m + 1) high (by omega) (by omega) hh (fun p hp hpm=>hO.below strict_bytes hmo (by omega) g) h2;exact ⟨r,r1,fun K=>by rw [st,if_pos g];exact r2 K⟩
   obtain ⟨r,r1,r2⟩:=place_run names hl hO t n low m (by omega) (by omega) (by omega) h1 (fun p hp hpm=>by
    by_cases q : Op.bytesLess (nm names o[p]) t.toList = true
    ·exact absurd (hO.below strict_bytes hp hpm q) g
    simpa using q)
   exact ⟨r,r1,fun K=>by rw [st,if_neg g];exact r2 K⟩
  have e : high = low:=by omega
  subst e;obtain ⟨f1,f2⟩:=hO.found strict_bytes (t:=t.toList) hh h1 h2
  have a1 : ¬ (high : Int) < (high : Int):=by omega
  by_cases d : high = o.length
  ·refine ⟨-1,.inr ⟨rfl,f2 (fun h=>by omega)⟩,fun K=>?_⟩;rw [quarryref17_Place.l0,if_neg a1,if_pos (by rw [ints_len];omega)]
  have hho : high < o.length:=by omega
  have hom : o[high] < names.length:=hO.mem.1 (List.getElem_mem hho)
  have b1 : ¬ (high : Int) = ((ints o).length : Int):=by rw [ints_len];omega
  have b2 : (0 : Int) ≤ (high : Int):=by omega
  have b3 : (high : Int) < ((ints o).length : Int):=by rw [ints_len];omega
  have b4 : (0 : Int) ≤ ((o[high] : Nat) : Int):=by omega
  have b5 : ((o[high] : Nat) : Int) < (names.length : Int):=by omega
  by_cases g : nm names o[high] = t.toList
  ·refine ⟨(o[high] : Nat),.inl ⟨_,rfl,hom,g,f1 hho g⟩,fun K=>?_⟩;rw [quarryref17_Place.l0,if_neg a1,if_neg b1,if_pos b2,if_pos b3,rd_ints hho,if_pos b4,if_pos b5,if_pos g]
  refine ⟨-1,.inr ⟨rfl,f2 (fun h=>g)⟩,fun K=>?_⟩;rw [quarryref17_Place.l0,if_neg a1,if_neg b1,if_pos b2,if_pos b3,rd_ints hho,if_pos b4,if_pos b5,if_neg g]
termination_by n=>n
theorem place_eq (names : List ByteArray) (hl : names.length ≤ 1048576) {o : List Nat} (hO : Order Op.bytesLess (nm names) names.length o) (t : ByteArray) : ∃ r,PlaceIs names t r ∧ ∀ K,quarryref17_Place.f (K + names.length + 1) names (ints o) t = some r:=by
 have ol:=hO.len;obtain ⟨r,r1,r2⟩:=place_run names hl hO t names.length 0 o.length (by omega) (Nat.zero_le _) (Nat.le_refl _) (fun p hp h=>by omega) (fun p hp h=>by omega);refine ⟨r,r1,fun K=>?_⟩
 unfold quarryref17_Place.f
 rw [ints_len];exact r2 K
end Go.Proofs.YtfaegleohhemkaaDoor.QPlcTreeLikes
namespace Go.Proofs.YtfaegleohhemkaaDoor.QCovTreeLikes
open Go.RowKit Go.Proofs.YtfaegleohhemkaaDoor.PTreeLikes Go.Proofs.YtfaegleohhemkaaDoorW.PrintWords Go.Proofs.YtfaegleohhemkaaDoorW.PrintLast Go.Proofs.YtfaegleohhemkaaDoor.QOrdTreeLikes Go.Proofs.YtfaegleohhemkaaDoor.QPlcTreeLikes
set_option linter.unusedVariables false
set_option linter.unusedSimpArgs false
theorem nm_get {names : List ByteArray} {i : Nat} (h : i < names.length) : nm names i = names[i].toList:=by
 show (rdOf ByteArray.empty names (i : Int)).toList = _
 unfold rdOf
 simp [h]
abbrev bys (names : List ByteArray) : List (List UInt8):=List.map ByteArray.toList names
theorem mem_nm {names : List ByteArray} {x : List UInt8} : x ∈ bys names ↔ ∃ i,i < names.length ∧ nm names i = x:=by
 rw [List.mem_map]
 constructor
 ·rintro ⟨s,hs,rfl⟩;obtain ⟨i,hi,rfl⟩:=List.mem_iff_getElem.1 hs;exact ⟨i,hi,nm_get hi⟩
 rintro ⟨i,hi,rfl⟩;exact ⟨names[i],List.getElem_mem hi,(nm_get hi).symm⟩
theorem PlaceIs.neg {names : List ByteArray} {t : ByteArray} {r : Int} (h : PlaceIs names t r) : r < 0 ↔ t.toList ∉ bys names:=by
 rw [mem_nm]
 rcases h with ⟨j,rfl,j1,j2,j3⟩|⟨rfl,h⟩
 ·exact ⟨fun g=>by omega,fun g=>absurd ⟨j,j1,j2⟩ g⟩
 exact ⟨fun _ ⟨i,i1,i2⟩=>h i i1 i2,fun _=>by decide⟩
theorem has_run (z0 : Int) (z1 : Bool) (z2 z3 : ByteArray) (A : List ByteArray) (z5 : List S25) (y0 : Int) (y1 : Bool) (y2 y3 : ByteArray) (B : List ByteArray) (y5 : List S25) (hA : A.length ≤ 1048576) (hB : B.length ≤ 1048576) {o : List Nat} (hO : Order Op.bytesLess (nm B) B.length o) :
  ∀ n i,i + n = A.length → ∀ K,quarryref17_has.l0 (K + n + B.length + 2) (ints o) (i : Int) z0 z1 z2 z3 A z5 y0 y1 y2 y3 B y5 = some (decide (∀ x ∈ A.drop i,x.toList ∈ bys B))
 | 0,i,h,K=>by
  rw [show K + 0 + B.length + 2 = (K + B.length + 1) + 1 by omega,quarryref17_has.l0,if_neg (by omega),List.drop_of_length_le (by omega)]
  simp
 | n + 1,i,h,K=>by
  have hi : i < A.length:=by omega
  have e1 : rdOf ByteArray.empty A (i : Int) = A[i]:=by unfold rdOf;simp [hi]
  obtain ⟨r,r1,r2⟩:=place_eq B hB hO A[i];have f1:=r2 (K + n + 1);rw [show K + (n + 1) + B.length + 2 = ((K + n + 1) + B.length + 1) + 1 by omega,quarryref17_has.l0,if_pos (by omega),if_pos (by omega),e1,f1,Option.bind_some,List.drop_eq_getElem_cons hi]
  by_cases c : r < 0
  ·rw [if_pos c];have:=(PlaceIs.neg r1).1 c
   congr 1
   symm
   rw [decide_eq_false_iff_not];intro g;exact this (g _ List.mem_cons_self)
  rw [if_neg c,show wrap64 ((i : Int) + 1) = ((i + 1 : Nat) : Int) from wadd i 1 (by omega),show (K + n + 1) + B.length + 1 = K + n + B.length + 2 by omega,has_run z0 z1 z2 z3 A z5 y0 y1 y2 y3 B y5 hA hB hO n (i + 1) (by omega) K]
  have hm : A[i].toList ∈ bys B:=Classical.byContradiction fun g=>c ((PlaceIs.neg r1).2 g)
  congr 1
  rw [decide_eq_decide]
  constructor
  ·intro g x hx
   rcases List.mem_cons.1 hx with rfl|hx
   ·exact hm
   exact g x hx
  intro g x hx;exact g x (List.mem_cons_of_mem _ hx)
theorem has_eq (z0 : Int) (z1 : Bool) (z2 z3 : ByteArray) (A : List ByteArray) (z5 : List S25) (y0 : Int) (y1 : Bool) (y2 y3 : ByteArray) (B : List ByteArray) (y5 : List S25) (hA : A.length ≤ 1048576) (hB : B.length ≤ 1048576) :
  ∃ c,∀ K,quarryref17_has.f (K + c) z0 z1 z2 z3 A z5 y0 y1 y2 y3 B y5 = some (decide (∀ x ∈ A,x.toList ∈ bys B)):=by
 obtain ⟨c,o,h1,h2⟩:=ordered_eq B hB;refine ⟨c + (A.length + B.length + 2),fun K=>?_⟩
 unfold quarryref17_has.f
 have e:=has_run z0 z1 z2 z3 A z5 y0 y1 y2 y3 B y5 hA hB h2 A.length 0 (by omega) (K + c);rw [show K + (c + (A.length + B.length + 2)) = (K + (A.length + B.length + 2)) + c by omega,h1,Option.bind_some,show K + (A.length + B.length + 2) + c = K + c + A.length + B.length + 2 by omega];exact e
def GoodM (A B : List ByteArray) (ans : S25 → S25 → Bool) (P Q : List S25) (i : Nat) : Prop :=
 (∀ j,j < i → nm A j ≠ nm A i) → ∃ j,j < B.length ∧ nm B j = nm A i ∧ (∀ j',j' < B.length → nm B j' = nm A i → j ≤ j') ∧ ans (rd_T25 P (i : Int)) (rd_T25 Q (j : Int)) = true
theorem place_self {A : List ByteArray} {i : Nat} (hi : i < A.length) {r : Int} (h : PlaceIs A A[i] r) : r = (i : Int) ↔ ∀ j,j < i → nm A j ≠ nm A i:=by
 have e:=nm_get hi
 rcases h with ⟨j,rfl,j1,j2,j3⟩|⟨rfl,h⟩
 ·constructor
  ·intro g k hk ek;have:=j3 k (by omega) (by rw [ek,e])
   omega
  intro g;have a:=j3 i hi e
  rcases Nat.lt_or_eq_of_le a with b|b
  ·exact absurd (by rw [j2,e]) (g j b)
  omega
 exact absurd e (h i hi)
theorem cov_run {rq : Int → Bool → ByteArray → ByteArray → List ByteArray → List S25 → Int → Bool → ByteArray → ByteArray → List ByteArray → List S25 → Option Bool} {ans : S25 → S25 → Bool}
  (z0 : Int) (z1 : Bool) (z2 z3 : ByteArray) (A : List ByteArray) (P : List S25) (y0 : Int) (y1 : Bool) (y2 y3 : ByteArray) (B : List ByteArray) (Q : List S25) (hA : A.length ≤ 1048576) (hB : B.length ≤ 1048576) (hP : P.length = A.length) (hQ : Q.length = B.length)
  (hq : ∀ i j : Nat,i < P.length → j < Q.length → rq (rd_T25 P i).f0 (rd_T25 P i).f1 (rd_T25 P i).f2 (rd_T25 P i).f3 (rd_T25 P i).f4 (rd_T25 P i).f5 (rd_T25 Q j).f0 (rd_T25 Q j).f1 (rd_T25 Q j).f2 (rd_T25 Q j).f3 (rd_T25 Q j).f4 (rd_T25 Q j).f5 = some (ans (rd_T25 P i) (rd_T25 Q j)))
  {o1 o2 : List Nat} (h1 : Order Op.bytesLess (nm A) A.length o1) (h2 : Order Op.bytesLess (nm B) B.length o2) :
  ∀ n i,i + n = A.length → ∃ b,(∀ K,quarryref17_covers.l0 rq (K + n + A.length + B.length + 3) (ints o1) (ints o2) (i : Int) z0 z1 z2 z3 A P y0 y1 y2 y3 B Q = some b) ∧ (b = true ↔ ∀ p,i ≤ p → p < A.length → GoodM A B ans P Q p)
 | 0,i,h=>by
  refine ⟨true,fun K=>?_,by simp;intro p q1 q2;omega⟩;rw [show K + 0 + A.length + B.length + 3 = (K + A.length + B.length + 2) + 1 by omega,quarryref17_covers.l0,if_neg (by omega)]
 | n + 1,i,h=>by
  have hi : i < A.length:=by omega
  have e1 : rdOf ByteArray.empty A (i : Int) = A[i]:=by unfold rdOf;simp [hi]
  obtain ⟨b,b1,b2⟩:=cov_run z0 z1 z2 z3 A P y0 y1 y2 y3 B Q hA hB hP hQ hq h1 h2 n (i + 1) (by omega);obtain ⟨r,r1,r2⟩:=place_eq A hA h1 A[i];obtain ⟨s,s1,s2⟩:=place_eq B hB h2 A[i]
  have a1 : (i : Int) < (A.length : Int):=by omega
  have a2 : (0 : Int) ≤ (i : Int):=by omega
  have a3 : (i : Int) < (P.length : Int):=by omega
  have rest : GoodM A B ans P Q i → ((∀ p,i + 1 ≤ p → p < A.length → GoodM A B ans P Q p) ↔ (∀ p,i ≤ p → p < A.length → GoodM A B ans P Q p)):=by
   intro g
   constructor
   ·intro q p hp hl
    rcases Nat.lt_or_eq_of_le hp with c|c
    ·exact q p c hl
    subst c;exact g
   intro q p hp hl;exact q p (by omega) hl
  have st : ∀ K,quarryref17_covers.l0 rq (K + (n + 1) + A.length + B.length + 3) (ints o1) (ints o2) (i : Int) z0 z1 z2 z3 A P y0 y1 y2 y3 B Q = if r = (i : Int) then (if s < 0 then some false else (if (i : Int) < (P.length : Int) then (if 0 ≤ s then (if s < (Q.length : Int) then ((rq (rd_T25 P i).f0 (rd_T25 P i).f1 (rd_T25 P i).f2 (rd_T25 P i).f3 (rd_T25 P i).f4 (rd_T25 P i).f5 (rd_T25 Q s).f0 (rd_T25 Q s).f1 (rd_T25 Q s).f2 (rd_T25 Q s).f3 (rd_T25 Q s).f4 (rd_T25 Q s).f5).bind fun t=>if t = true then some b else some false) else none) else none) else none)) else some b:=by
   intro K;have f1:=r2 (K + n + B.length + 2);have f2:=s2 (K + n + A.length + 2)
   rw [show (K + n + B.length + 2) + A.length + 1 = K + n + A.length + B.length + 3 by omega] at f1
   rw [show (K + n + A.length + 2) + B.length + 1 = K + n + A.length + B.length + 3 by omega] at f2
   rw [show K + (n + 1) + A.length + B.length + 3 = (K + n + A.length + B.length + 3) + 1 by omega,quarryref17_covers.l0,if_pos a1,if_pos a2,e1,f1,Option.bind_some,f2,Option.bind_some,show wrap64 ((i : Int) + 1) = ((i + 1 : Nat) : Int) from wadd i 1 (by omega),b1 K]
  by_cases c : r = (i : Int)
  ·by_cases d : s < 0
   ·refine ⟨false,fun K=>by rw [st,if_pos c,if_pos d],?_⟩
    constructor
    ·intro g;cases g
    intro g;obtain ⟨j,j1,j2,_⟩:=g i (Nat.le_refl _) hi ((place_self hi r1).1 c);exact absurd (mem_nm.2 ⟨j,j1,by rw [j2,nm_get hi]⟩) ((PlaceIs.neg s1).1 d)
   rcases s1 with ⟨j,rfl,j1,j2,j3⟩|⟨rfl,_⟩
   ·have g0:=hq i j (by omega) (by omega);have ne:=nm_get hi
    cases ha : ans (rd_T25 P (i : Int)) (rd_T25 Q (j : Int)) with
    | true =>
     refine ⟨b,fun K=>?_,b2.trans (rest (fun _=>⟨j,j1,by rw [j2,ne],fun j' h' e'=>j3 j' h' (by rw [e',ne]),ha⟩))⟩;rw [st,if_pos c,if_neg d,if_pos a3,if_pos (by omega),if_pos (by omega),g0,ha,Option.bind_some,if_pos rfl]
    | false =>
     refine ⟨false,fun K=>?_,?_⟩
     ·rw [st,if_pos c,if_neg d,if_pos a3,if_pos (by omega),if_pos (by omega),g0,ha,Option.bind_some,if_neg (by decide)]
     constructor
     ·intro g;cases g
     intro g;obtain ⟨j',k1,k2,k3,k4⟩:=g i (Nat.le_refl _) hi ((place_self hi r1).1 c);have x1:=k3 j j1 (by rw [j2,ne]);have x2:=j3 j' k1 (by rw [k2,ne])
     have : j' = j:=by omega
     subst this
     rw [ha] at k4;cases k4
   exact absurd (by decide) d
  exact ⟨b,fun K=>by rw [st,if_neg c],b2.trans (rest (fun g=>absurd ((place_self hi r1).2 g) c))⟩
theorem covers_eq {rq : Int → Bool → ByteArray → ByteArray → List ByteArray → List S25 → Int → Bool → ByteArray → ByteArray → List ByteArray → List S25 → Option Bool} {ans : S25 → S25 → Bool}
  (z0 : Int) (z1 : Bool) (z2 z3 : ByteArray) (A : List ByteArray) (P : List S25) (y0 : Int) (y1 : Bool) (y2 y3 : ByteArray) (B : List ByteArray) (Q : List S25) (hA : A.length ≤ 1048576) (hB : B.length ≤ 1048576) (hP : P.length = A.length) (hQ : Q.length = B.length)
  (hq : ∀ i j : Nat,i < P.length → j < Q.length → rq (rd_T25 P i).f0 (rd_T25 P i).f1 (rd_T25 P i).f2 (rd_T25 P i).f3 (rd_T25 P i).f4 (rd_T25 P i).f5 (rd_T25 Q j).f0 (rd_T25 Q j).f1 (rd_T25 Q j).f2 (rd_T25 Q j).f3 (rd_T25 Q j).f4 (rd_T25 Q j).f5 = some (ans (rd_T25 P i) (rd_T25 Q j))) :
  ∃ c b,(∀ K,quarryref17_covers.f rq (K + c) z0 z1 z2 z3 A P y0 y1 y2 y3 B Q = some b) ∧ (b = true ↔ ∀ p,p < A.length → GoodM A B ans P Q p):=by
 obtain ⟨c1,o1,g1,h1⟩:=ordered_eq A hA;obtain ⟨c2,o2,g2,h2⟩:=ordered_eq B hB;obtain ⟨b,b1,b2⟩:=cov_run z0 z1 z2 z3 A P y0 y1 y2 y3 B Q hA hB hP hQ hq h1 h2 A.length 0 (by omega);refine ⟨c1 + c2 + A.length + A.length + B.length + 3,b,fun K=>?_,b2.trans ⟨fun g p hp=>g p (Nat.zero_le _) hp,fun g p _ hp=>g p hp⟩⟩
 unfold quarryref17_covers.f
 have e1:=g1 (K + c2 + A.length + A.length + B.length + 3);have e2:=g2 (K + c1 + A.length + A.length + B.length + 3);have e3:=b1 (K + c1 + c2);rw [show K + (c1 + c2 + A.length + A.length + B.length + 3) = K + c2 + A.length + A.length + B.length + 3 + c1 by omega,e1,Option.bind_some,show K + c2 + A.length + A.length + B.length + 3 + c1 = K + c1 + A.length + A.length + B.length + 3 + c2 by omega,e2,Option.bind_some,show K + c1 + A.length + A.length + B.length + 3 + c2 = K + c1 + c2 + A.length + A.length + B.length + 3 by omega];exact e3
end Go.Proofs.YtfaegleohhemkaaDoor.QCovTreeLikes
namespace Go.Proofs.YtfaegleohhemkaaDoor.QNamesTreeLikes
set_option linter.unusedVariables false
set_option linter.unusedSimpArgs false
section
variable {α : Type} [DecidableEq α]
def cnt : List α → Nat
 | []=>0
 | s :: r=>if s ∈ r then cnt r else cnt r + 1
def dd : List α → List α
 | []=>[]
 | s :: r=>if s ∈ r then dd r else s :: dd r
theorem dd_mem : ∀ {l : List α} {x : α},x ∈ dd l ↔ x ∈ l
 | [],x=>Iff.rfl
 | s :: r,x=>by
  rw [dd]
  split
  ·rename_i h
   rw [dd_mem,List.mem_cons];exact ⟨.inr,fun g=>g.elim (fun e=>e ▸ h) id⟩
  rw [List.mem_cons,List.mem_cons,dd_mem]
theorem dd_len : ∀ l : List α,(dd l).length = cnt l
 | []=>rfl
 | s :: r=>by rw [dd,cnt];split <;> simp [dd_len r]
theorem dd_nodup : ∀ l : List α,(dd l).Nodup
 | []=>List.nodup_nil
 | s :: r=>by
  rw [dd]
  split
  ·exact dd_nodup r
  rename_i h
  exact List.nodup_cons.2 ⟨fun g=>h (dd_mem.1 g),dd_nodup r⟩
theorem len_le : ∀ {X Y : List α},X.Nodup → (∀ x ∈ X,x ∈ Y) → X.length ≤ Y.length
 | [],Y,_,_=>Nat.zero_le _
 | x :: X,Y,h,g=>by
  obtain ⟨h1,h2⟩:=List.nodup_cons.1 h;have hx:=g x (by simp);have:=len_le (X:=X) (Y:=Y.erase x) h2 (fun z hz=>(List.mem_erase_of_ne (show z ≠ x from fun e=>h1 (by rw [← e];exact hz))).2 (g z (by simp [hz])))
  rw [List.length_erase_of_mem hx] at this
  have:=List.length_pos_of_mem hx;rw [List.length_cons]
  omega
theorem cnt_eq {A B : List α} (h : ∀ x ∈ A,x ∈ B) : cnt A = cnt B ↔ ∀ x ∈ B,x ∈ A:=by
 rw [← dd_len,← dd_len]
 constructor
 ·intro e x hx
  refine Classical.byContradiction fun hn=>?_
  have:=len_le (X:=x :: dd A) (Y:=dd B) (List.nodup_cons.2 ⟨fun g=>hn (dd_mem.1 g),dd_nodup A⟩) (fun z hz=>by
   rcases List.mem_cons.1 hz with rfl|hz
   ·exact dd_mem.2 hx
   exact dd_mem.2 (h z (dd_mem.1 hz)))
  rw [List.length_cons] at this
  omega
 intro g;have a:=len_le (X:=dd A) (Y:=dd B) (dd_nodup A) (fun z hz=>dd_mem.2 (h z (dd_mem.1 hz)));have b:=len_le (X:=dd B) (Y:=dd A) (dd_nodup B) (fun z hz=>dd_mem.2 (g z (dd_mem.1 hz)))
 omega
end
end Go.Proofs.YtfaegleohhemkaaDoor.QNamesTreeLikes
namespace Go.Proofs.YtfaegleohhemkaaDoor.QLikTreeLikes
open Go.RowKit Go.Proofs.YtfaegleohhemkaaDoor.PTreeLikes Go.Proofs.YtfaegleohhemkaaDoorW.PrintWords Go.Proofs.YtfaegleohhemkaaDoorW.PrintLast Go.Proofs.YtfaegleohhemkaaDoor.QOrdTreeLikes Go.Proofs.YtfaegleohhemkaaDoor.QPlcTreeLikes Go.Proofs.YtfaegleohhemkaaDoor.QCovTreeLikes Go.Proofs.YtfaegleohhemkaaDoor.QNamesTreeLikes
set_option linter.unusedVariables false
set_option linter.unusedSimpArgs false
theorem lookP_some (t : ByteArray) : ∀ (A : List ByteArray) (P : List S25),P.length = A.length → ∀ x,lookP t (A.zip P) = some x ↔ ∃ i,∃ (hi : i < A.length),A[i].data.toList = t.data.toList ∧ (∀ j (hj : j < A.length),j < i → A[j].data.toList ≠ t.data.toList) ∧ x = rd_T25 P (i : Int)
 | [],P,h,x=>by
  simp [lookP]
 | s :: A,[],h,x=>by simp at h
 | s :: A,p :: P,h,x=>by
  have hl : P.length = A.length:=by simpa using h
  have r0 : rd_T25 (p :: P) ((0 : Nat) : Int) = p:=rfl
  have rs : ∀ i : Nat,rd_T25 (p :: P) ((i + 1 : Nat) : Int) = rd_T25 P (i : Int):=fun i=>rfl
  rw [List.zip_cons_cons,lookP]
  by_cases c : s.data.toList = t.data.toList
  ·rw [if_pos c]
   constructor
   ·intro e;cases e;exact ⟨0,by simp,c,by intro j hj h0;omega,r0.symm⟩
   rintro ⟨i,hi,e1,e2,rfl⟩
   cases i with
   | zero=>rw [r0]
   | succ i=>exact absurd c (e2 0 (by simp) (by omega))
  rw [if_neg c,lookP_some t A P hl x]
  constructor
  ·rintro ⟨i,hi,e1,e2,rfl⟩;refine ⟨i + 1,by simp;omega,by simpa using e1,?_,(rs i).symm⟩;intro j hj hji
   cases j with
   | zero=>exact c
   | succ j=>simpa using e2 j (by simpa using hj) (by omega)
  rintro ⟨i,hi,e1,e2,rfl⟩
  cases i with
  | zero=>exact absurd (by simpa using e1) c
  | succ i =>
   refine ⟨i,by simpa using hi,by simpa using e1,?_,rs i⟩;intro j hj hji;have:=e2 (j + 1) (by simp;omega) (by omega)
   rwa [List.getElem_cons_succ] at this
theorem lookP_isSome (t : ByteArray) : ∀ (A : List ByteArray) (P : List S25),P.length = A.length → ((lookP t (A.zip P)).isSome = true ↔ t.data.toList ∈ A.map (fun s=>s.data.toList))
 | [],P,h=>by simp [lookP]
 | s :: A,[],h=>by simp at h
 | s :: A,p :: P,h=>by
  have hl : P.length = A.length:=by simpa using h
  rw [List.zip_cons_cons,lookP,List.map_cons,List.mem_cons]
  by_cases c : s.data.toList = t.data.toList
  ·rw [if_pos c];simp [c]
  rw [if_neg c,lookP_isSome t A P hl];exact ⟨.inr,fun h=>h.resolve_left (fun e=>c e.symm)⟩
theorem sizeP_cnt : ∀ (A : List ByteArray) (P : List S25),P.length = A.length → sizeP (A.zip P) = cnt (A.map (fun s=>s.data.toList))
 | [],P,h=>by simp [sizeP,cnt]
 | s :: A,[],h=>by simp at h
 | s :: A,p :: P,h=>by
  have hl : P.length = A.length:=by simpa using h
  rw [List.zip_cons_cons,sizeP,List.map_cons,cnt,sizeP_cnt A P hl]
  by_cases c : s.data.toList ∈ A.map (fun s=>s.data.toList)
  ·rw [if_pos c,if_pos ((lookP_isSome s A P hl).2 c)]
  rw [if_neg c,if_neg (fun g=>c ((lookP_isSome s A P hl).1 g))]
theorem ansP_eq {rec : S25 → S25 → Option Bool} {ans : S25 → S25 → Bool} {ps qs : List (ByteArray × S25)} (hr : ∀ s t x y,lookP s ps = some x → lookP t qs = some y → rec x y = some (ans x y)) :
  ∀ l : List ByteArray,∃ u,ansP rec ps qs l = some u ∧ (u = true ↔ ∀ s ∈ l,∀ x,lookP s ps = some x → ∃ y,lookP s qs = some y ∧ ans x y = true)
 | []=>⟨true,rfl,by simp⟩
 | s :: r=>by
  obtain ⟨u,u1,u2⟩:=ansP_eq hr r
  have all : ∀ (p : ByteArray → Prop),(∀ z ∈ s :: r,p z) ↔ p s ∧ ∀ z ∈ r,p z:=fun p=>by simp
  rw [ansP]
  cases hp : lookP s ps with
  | none =>
   refine ⟨u,u1,u2.trans ?_⟩;rw [all];exact ⟨fun g=>⟨fun x h=>(by rw [hp] at h;cases h),g⟩,fun g=>g.2⟩
  | some x =>
   cases hq : lookP s qs with
   | none =>
    refine ⟨false,by simp only [u1,Option.bind_some],?_⟩;rw [all]
    constructor
    ·intro g;cases g
    intro g;obtain ⟨y,hy,_⟩:=g.1 x hp
    rw [hq] at hy;cases hy
   | some y =>
    refine ⟨ans x y && u,by simp only [hr s s x y hp hq,u1,Option.bind_some],?_⟩;rw [all,Bool.and_eq_true,u2]
    constructor
    ·rintro ⟨a,b⟩;refine ⟨fun x' h=>?_,b⟩
     rw [hp] at h;cases h
     exact ⟨y,hq,a⟩
    rintro ⟨a,b⟩;obtain ⟨y',hy,e⟩:=a x hp
    rw [hq] at hy;cases hy
    exact ⟨e,b⟩
end Go.Proofs.YtfaegleohhemkaaDoor.QLikTreeLikes
namespace Go.Proofs.YtfaegleohhemkaaDoor.QObjTreeLikes
open Go.RowKit Go.Proofs.YtfaegleohhemkaaDoor.PTreeLikes Go.Proofs.YtfaegleohhemkaaDoorW.PrintWords Go.Proofs.YtfaegleohhemkaaDoorW.PrintLast Go.Proofs.YtfaegleohhemkaaDoor.QOrdTreeLikes Go.Proofs.YtfaegleohhemkaaDoor.QPlcTreeLikes Go.Proofs.YtfaegleohhemkaaDoor.QCovTreeLikes Go.Proofs.YtfaegleohhemkaaDoor.QNamesTreeLikes Go.Proofs.YtfaegleohhemkaaDoor.QLikTreeLikes
set_option linter.unusedVariables false
set_option linter.unusedSimpArgs false
theorem nm_data {names : List ByteArray} {i : Nat} (h : i < names.length) : nm names i = names[i].data.toList:=by rw [nm_get h,Go.Lib.toList_data]
theorem bytes_data (names : List ByteArray) : bys names = names.map (fun s=>s.data.toList):=by
 show names.map ByteArray.toList = _
 exact List.map_congr_left (fun s _=>Go.Lib.toList_data s)
theorem first_eq {ans : S25 → S25 → Bool} {A B : List ByteArray} {P Q : List S25} (hP : P.length = A.length) (hQ : Q.length = B.length) :
  (∀ s ∈ A,∀ x,lookP s (A.zip P) = some x → ∃ y,lookP s (B.zip Q) = some y ∧ ans x y = true) ↔ ∀ p,p < A.length → GoodM A B ans P Q p:=by
 constructor
 ·intro h p hp hf;have e : lookP A[p] (A.zip P) = some (rd_T25 P (p : Int)):=(lookP_some A[p] A P hP _).2 ⟨p,hp,rfl,fun j hj hjp g=>hf j hjp (by rw [nm_data hj,nm_data hp];exact g),rfl⟩;obtain ⟨y,hy,ha⟩:=h A[p] (List.getElem_mem hp) _ e;obtain ⟨j,hj,j1,j2,rfl⟩:=(lookP_some A[p] B Q hQ _).1 hy;refine ⟨j,hj,by rw [nm_data hj,nm_data hp];exact j1,?_,ha⟩;intro j' hj' e'
  rw [nm_data hj',nm_data hp] at e'
  exact Nat.le_of_not_lt (fun g=>j2 j' hj' g e')
 intro h s hs x hx;obtain ⟨i,hi,i1,i2,rfl⟩:=(lookP_some s A P hP _).1 hx;obtain ⟨j,hj,j1,j2,j3⟩:=h i hi (fun j hji g=>i2 j (by omega) hji (by rw [nm_data (by omega),nm_data hi] at g;exact g.trans i1));refine ⟨_,(lookP_some s B Q hQ _).2 ⟨j,hj,?_,?_,rfl⟩,j3⟩
 ·rw [nm_data hj,nm_data hi] at j1;exact j1.trans i1
 intro j' hj' hjj g;have:=j2 j' hj' (by rw [nm_data hj',nm_data hi,i1];exact g)
 omega
theorem obj_eq {ans : S25 → S25 → Bool} {A B : List ByteArray} {P Q : List S25} (hP : P.length = A.length) (hQ : Q.length = B.length) :
  ((∀ s ∈ A,∀ x,lookP s (A.zip P) = some x → ∃ y,lookP s (B.zip Q) = some y ∧ ans x y = true) ∧ sizeP (A.zip P) = sizeP (B.zip Q)) ↔ ((∀ x ∈ B,x.toList ∈ bys A) ∧ ∀ p,p < A.length → GoodM A B ans P Q p):=by
 rw [first_eq hP hQ,sizeP_cnt A P hP,sizeP_cnt B Q hQ]
 have sub : (∀ p,p < A.length → GoodM A B ans P Q p) → ∀ x ∈ A.map (fun s=>s.data.toList),x ∈ B.map (fun s=>s.data.toList):=by
  intro h x hx;obtain ⟨s,hs,rfl⟩:=List.mem_map.1 hx;have e : (lookP s (A.zip P)).isSome = true:=(lookP_isSome s A P hP).2 hx;obtain ⟨v,hv⟩:=Option.isSome_iff_exists.1 e;obtain ⟨y,hy,_⟩:=(first_eq hP hQ).2 h s hs v hv;exact (lookP_isSome s B Q hQ).1 (by rw [hy];rfl)
 have hb : (∀ x ∈ B,x.toList ∈ bys A) ↔ ∀ x ∈ B.map (fun s=>s.data.toList),x ∈ A.map (fun s=>s.data.toList):=by
  rw [bytes_data]
  constructor
  ·intro h x hx;obtain ⟨s,hs,rfl⟩:=List.mem_map.1 hx;have:=h s hs
   rwa [Go.Lib.toList_data] at this
  intro h s hs;rw [Go.Lib.toList_data];exact h _ (List.mem_map.2 ⟨s,hs,rfl⟩)
 rw [hb]
 constructor
 ·rintro ⟨h1,h2⟩;exact ⟨(cnt_eq (sub h1)).1 h2,h1⟩
 rintro ⟨h1,h2⟩;exact ⟨h2,(cnt_eq (sub h2)).2 h1⟩
end Go.Proofs.YtfaegleohhemkaaDoor.QObjTreeLikes
namespace Go.Proofs.YtfaegleohhemkaaDoor.QCmpTreeLikes
open Go.RowKit Go.Proofs.YtfaegleohhemkaaDoor.PTreeLikes Go.Proofs.YtfaegleohhemkaaDoorW.PrintWords Go.Proofs.YtfaegleohhemkaaDoorW.PrintLast
set_option linter.unusedVariables false
set_option linter.unusedSimpArgs false
theorem w64 (n : Int) (h : -9223372036854775808 ≤ n) (h2 : n ≤ 9223372036854775807) : wrap64 n = n:=by unfold wrap64;omega
def lastOk (d : ByteArray) (e : Int) : Bool:=if bt d 0 = 48 then false else if bt d ((d.size : Int) - 1) = 48 then false else if (-1073741824) ≤ e then decide (e ≤ 1073741824) else false
theorem formed_run (neg : Bool) (d : ByteArray) (e : Int) (h0 : 0 < d.size) (hs : d.size ≤ 1099511627776) : ∀ n i : Nat,i + n = d.size →
  ∃ b,(∀ K,decimal_Formed.l0 (K + n + 1) (d.size : Int) (i : Int) neg d e = some b) ∧ (∀ K,quarryref11_Formed.l0 (K + n + 1) (i : Int) neg d e = some b)
 | 0,i,h=>by
  have a1 : ¬ (i : Int) < (d.size : Int):=by omega
  have a2 : (0 : Int) < (d.size : Int):=by omega
  have a3 : ¬ (d.size : Int) = 0:=by omega
  have a4 : (0 : Int) ≤ (d.size : Int) - 1:=by omega
  have a5 : (d.size : Int) - 1 < (d.size : Int):=by omega
  have w : wrap64 ((d.size : Int) - 1) = (d.size : Int) - 1:=w64 _ (by omega) (by omega);refine ⟨lastOk d e,fun K=>?_,fun K=>?_⟩
  ·unfold lastOk
   rw [show K + 0 + 1 = K + 1 by omega,decimal_Formed.l0,if_neg a1,if_pos a2,w,if_pos a4,if_pos a5]
   split
   ·rfl
   split
   ·rfl
   split <;> rfl
  unfold lastOk
  rw [show K + 0 + 1 = K + 1 by omega,quarryref11_Formed.l0,if_neg a1,if_neg a3,if_pos a2,w,if_pos a4,if_pos a5]
  split
  ·rfl
  split
  ·rfl
  split <;> rfl
 | n + 1,i,h=>by
  obtain ⟨b,b1,b2⟩:=formed_run neg d e h0 hs n (i + 1) (by omega)
  have a1 : (i : Int) < (d.size : Int):=by omega
  have a2 : (0 : Int) ≤ (i : Int):=by omega
  have r:=bt_range d (i : Int)
  have w : wrap64 ((i : Int) + 1) = ((i + 1 : Nat) : Int):=by rw [w64 _ (by omega) (by omega)];omega
  by_cases c : 48 ≤ bt d (i : Int) ∧ bt d (i : Int) ≤ 57
  ·have c1 : ¬ ((bt d (i : Int) - 48) % 256) > 9:=by omega
   have dg : quarryref11_digit.f d (i : Int) = some true:=by
    unfold quarryref11_digit.f
    simp [a1,a2,c.1,c.2]
   refine ⟨b,fun K=>?_,fun K=>?_⟩
   ·rw [show K + (n + 1) + 1 = (K + n + 1) + 1 by omega,decimal_Formed.l0,if_pos a1,if_pos a2,if_pos a1,if_neg c1,w,b1]
   rw [show K + (n + 1) + 1 = (K + n + 1) + 1 by omega,quarryref11_Formed.l0,if_pos a1,dg,Option.bind_some,if_pos rfl,w,b2]
  have c1 : ((bt d (i : Int) - 48) % 256) > 9:=by omega
  have dg : quarryref11_digit.f d (i : Int) = some false:=by
   unfold quarryref11_digit.f
   by_cases q : 48 ≤ bt d (i : Int)
   ·have : ¬ bt d (i : Int) ≤ 57:=fun g=>c ⟨q,g⟩
    simp [a1,a2,q,this]
   simp [a1,a2,q]
  refine ⟨false,fun K=>?_,fun K=>?_⟩
  ·rw [show K + (n + 1) + 1 = (K + n + 1) + 1 by omega,decimal_Formed.l0,if_pos a1,if_pos a2,if_pos a1,if_pos c1]
  rw [show K + (n + 1) + 1 = (K + n + 1) + 1 by omega,quarryref11_Formed.l0,if_pos a1,dg,Option.bind_some,if_neg (by decide)]
theorem size_nil {d : ByteArray} : d.toList = ([] : List UInt8) ↔ d.size = 0:=by
 rw [Go.Lib.toList_data]
 constructor
 ·intro h;have:=congrArg List.length h
  simpa using this
 intro h
 have : d.data.toList.length = 0:=by simpa using h
 exact List.length_eq_zero_iff.1 this
theorem formed_eq (neg : Bool) (d : ByteArray) (e : Int) (hs : d.size ≤ 1099511627776) : ∃ b,(∀ K,decimal_Formed.f (K + d.size + 1) neg d e = some b) ∧ (∀ K,quarryref11_Formed.f (K + d.size + 1) neg d e = some b):=by
 unfold decimal_Formed.f quarryref11_Formed.f
 by_cases h : d.size = 0
 ·refine ⟨e == 0,fun K=>by rw [if_pos (size_nil.2 h)],fun K=>?_⟩;rw [quarryref11_Formed.l0,if_neg (by omega),if_pos (by omega)]
 obtain ⟨b,b1,b2⟩:=formed_run neg d e (by omega) hs d.size 0 (by omega);exact ⟨b,fun K=>by rw [if_neg (fun g=>h (size_nil.1 g))];exact b1 K,b2⟩
def sg (neg : Bool) (d : ByteArray) : Int:=if d.size = 0 then 0 else if neg = true then -1 else 1
theorem sign_a (neg : Bool) (d : ByteArray) (e : Int) : decimal_sign.f neg d e = some (sg neg d):=by
 unfold decimal_sign.f sg
 by_cases h : d.size = 0
 ·rw [if_pos (size_nil.2 h),if_pos h]
 rw [if_neg (fun g=>h (size_nil.1 g)),if_neg h];split <;> rfl
theorem sign_b (neg : Bool) (d : ByteArray) (e : Int) : quarryref11_sign.f neg d e = some (sg neg d):=by
 unfold quarryref11_sign.f sg
 by_cases h : d.size = 0
 ·rw [if_pos (by omega),if_pos h]
 rw [if_neg (by omega),if_neg h];split <;> rfl
theorem cmp_int (a b : Int) : cmp_Compare_int.f a b = some (if a < b then -1 else if a > b then 1 else 0):=by
 unfold cmp_Compare_int.f cmp_isNaN_int.f
 simp only [Option.bind_some,bne_self_eq_false,Bool.false_eq_true,if_false]
 split
 ·rfl
 split <;> rfl
theorem or_two (a b : Int) (K : Nat) : cmp_Or_int.f (K + 3) [a,b] = some (if a = 0 then b else a):=by
 unfold cmp_Or_int.f
 have l2 : (([a,b] : List Int).length : Int) = 2:=rfl
 have t0 : (0 : Int) < 2:=by decide
 have t1 : (1 : Int) < 2:=by decide
 have t2 : ¬ (2 : Int) < 2:=by decide
 have p0 : (0 : Int) ≤ 0:=by decide
 have p1 : (0 : Int) ≤ 1:=by decide
 rw [l2];rw [show K + 3 = (K + 2) + 1 by omega,cmp_Or_int.l0,if_pos t0,if_pos p0,l2,if_pos t0,show rd [a,b] 0 = a from rfl]
 by_cases h : a = 0
 ·rw [if_pos h,show wrap64 (0 + 1) = 1 from w64 _ (by decide) (by decide),show K + 2 = (K + 1) + 1 by omega,cmp_Or_int.l0,if_pos t1,if_pos p1,l2,if_pos t1,show rd [a,b] 1 = b from rfl,if_pos h]
  by_cases g : b = 0
  ·rw [if_pos g,show wrap64 (1 + 1) = 2 from w64 _ (by decide) (by decide),cmp_Or_int.l0,if_neg t2,g]
  rw [if_neg g]
 rw [if_neg h,if_neg h]
theorem cmpb_three : ∀ a b : List UInt8,(Lib.compareBytes a b = -1 ∧ Op.bytesLess a b = true) ∨ (Lib.compareBytes a b = 1 ∧ Op.bytesLess b a = true) ∨ (Lib.compareBytes a b = 0 ∧ a = b)
 | [],[]=>.inr (.inr ⟨rfl,rfl⟩)
 | [],_ :: _=>.inl ⟨rfl,rfl⟩
 | _ :: _,[]=>.inr (.inl ⟨rfl,rfl⟩)
 | x :: a,y :: b=>by
  rw [Lib.compareBytes]
  by_cases h1 : x < y
  ·rw [if_pos h1];exact .inl ⟨rfl,by simp [Op.bytesLess,h1]⟩
  rw [if_neg h1]
  by_cases h2 : y < x
  ·rw [if_pos h2];exact .inr (.inl ⟨rfl,by simp [Op.bytesLess,h2]⟩)
  rw [if_neg h2];have e : x = y:=UInt8.le_antisymm (UInt8.not_lt.1 h2) (UInt8.not_lt.1 h1);subst e
  rcases cmpb_three a b with ⟨c,d⟩|⟨c,d⟩|⟨c,d⟩
  ·exact .inl ⟨c,by simp [Op.bytesLess,d]⟩
  ·exact .inr (.inl ⟨c,by simp [Op.bytesLess,d]⟩)
  exact .inr (.inr ⟨c,by rw [d]⟩)
theorem above_eq (n1 : Bool) (d1 : ByteArray) (e1 : Int) (n2 : Bool) (d2 : ByteArray) (e2 : Int) : quarryref11_above.f n1 d1 e1 n2 d2 e2 = some (if wrap64 ((d1.size : Int) + e1) = wrap64 ((d2.size : Int) + e2) then Op.bytesLess d2.toList d1.toList else decide (wrap64 ((d1.size : Int) + e1) > wrap64 ((d2.size : Int) + e2))):=by
 unfold quarryref11_above.f
 split <;> rfl
theorem sg_pm {neg : Bool} {d : ByteArray} (h : sg neg d ≠ 0) : sg neg d = 1 ∨ sg neg d = -1:=by
 unfold sg at *
 by_cases g : d.size = 0
 ·rw [if_pos g] at h;exact absurd rfl h
 rw [if_neg g];cases neg
 ·left;rfl
 right;rfl
theorem cmp_zero (n1 : Bool) (d1 : ByteArray) (e1 : Int) (n2 : Bool) (d2 : ByteArray) (e2 : Int) (h1 : d1.size ≤ 1099511627776) (h2 : d2.size ≤ 1099511627776) :
  ∃ c,∃ r s : Int × Int,(∀ K,decimal_Cmp.f (K + c) n1 d1 e1 n2 d2 e2 = some r) ∧ (∀ K,quarryref11_Cmp.f (K + c) n1 d1 e1 n2 d2 e2 = some s) ∧ (r.1 == 0) = (s.1 == 0):=by
 obtain ⟨b1,p1,q1⟩:=formed_eq n1 d1 e1 h1;obtain ⟨b2,p2,q2⟩:=formed_eq n2 d2 e2 h2
 have P1 : ∀ K,decimal_Formed.f (K + (d1.size + d2.size + 10)) n1 d1 e1 = some b1:=fun K=>by rw [show K + (d1.size + d2.size + 10) = (K + d2.size + 9) + d1.size + 1 by omega];exact p1 _
 have P2 : ∀ K,decimal_Formed.f (K + (d1.size + d2.size + 10)) n2 d2 e2 = some b2:=fun K=>by rw [show K + (d1.size + d2.size + 10) = (K + d1.size + 9) + d2.size + 1 by omega];exact p2 _
 have Q1 : ∀ K,quarryref11_Formed.f (K + (d1.size + d2.size + 10)) n1 d1 e1 = some b1:=fun K=>by rw [show K + (d1.size + d2.size + 10) = (K + d2.size + 9) + d1.size + 1 by omega];exact q1 _
 have Q2 : ∀ K,quarryref11_Formed.f (K + (d1.size + d2.size + 10)) n2 d2 e2 = some b2:=fun K=>by rw [show K + (d1.size + d2.size + 10) = (K + d1.size + 9) + d2.size + 1 by omega];exact q2 _
 have ex : ∀ (b : Bool),(∀ K,decimal_Cmp.f (K + (d1.size + d2.size + 10)) n1 d1 e1 n2 d2 e2 = decimal_Cmp.j0 (K + (d1.size + d2.size + 10)) (!(b1 && b2)) n1 d1 e1 n2 d2 e2) ∧ (∀ K,quarryref11_Cmp.f (K + (d1.size + d2.size + 10)) n1 d1 e1 n2 d2 e2 = quarryref11_Cmp.j0 (K + (d1.size + d2.size + 10)) (!(b1 && b2)) n1 d1 e1 n2 d2 e2):=by
  intro _;refine ⟨fun K=>?_,fun K=>?_⟩
  ·unfold decimal_Cmp.f
   rw [P1,Option.bind_some]
   cases b1 with
   | false=>rfl
   | true=>rw [if_pos rfl,P2,Option.bind_some,Bool.true_and]
  unfold quarryref11_Cmp.f
  rw [Q1,Option.bind_some]
  cases b1 with
  | false=>rfl
  | true=>rw [if_pos rfl,Q2,Option.bind_some,Bool.true_and]
 obtain ⟨x1,x2⟩:=ex true;refine ⟨d1.size + d2.size + 10,?_⟩
 cases hb : (b1 && b2) with
 | false =>
  refine ⟨(0,1),(0,1),fun K=>?_,fun K=>?_,rfl⟩
  ·rw [x1,hb,show K + (d1.size + d2.size + 10) = (K + d1.size + d2.size + 9) + 1 by omega,decimal_Cmp.j0];rfl
  rw [x2,hb,show K + (d1.size + d2.size + 10) = (K + d1.size + d2.size + 9) + 1 by omega,quarryref11_Cmp.j0];rfl
 | true =>
  obtain ⟨s1,hs1⟩ : ∃ s1,s1 = sg n1 d1:=⟨_,rfl⟩
  obtain ⟨s2,hs2⟩ : ∃ s2,s2 = sg n2 d2:=⟨_,rfl⟩
  have y1 : ∀ K,decimal_Cmp.f (K + (d1.size + d2.size + 10)) n1 d1 e1 n2 d2 e2 = if s1 = s2 then decimal_Cmp.j1 (K + d1.size + d2.size + 9) s1 (s1 == 0) n1 d1 e1 n2 d2 e2 else decimal_Cmp.j1 (K + d1.size + d2.size + 9) s1 true n1 d1 e1 n2 d2 e2:=fun K=>by
   rw [x1,hb,show K + (d1.size + d2.size + 10) = (K + d1.size + d2.size + 9) + 1 by omega,decimal_Cmp.j0,if_neg (by decide),sign_a,Option.bind_some,sign_a,Option.bind_some,← hs1,← hs2]
  have y2 : ∀ K,quarryref11_Cmp.f (K + (d1.size + d2.size + 10)) n1 d1 e1 n2 d2 e2 = if s1 < s2 then some (-1,0) else if s1 > s2 then some (1,0) else if s1 = 0 then some (0,0) else (quarryref11_above.f n1 d1 e1 n2 d2 e2).bind fun t=>if t = true then some (s1,0) else (quarryref11_above.f n2 d2 e2 n1 d1 e1).bind fun u=>if u = true then some (wrap64 (-s1),0) else some (0,0):=fun K=>by
   rw [x2,hb,show K + (d1.size + d2.size + 10) = (K + d1.size + d2.size + 9) + 1 by omega,quarryref11_Cmp.j0,if_neg (by decide),sign_b,Option.bind_some,sign_b,Option.bind_some,← hs1,← hs2]
  have z1 : ∀ K,decimal_Cmp.j1 (K + d1.size + d2.size + 9) s1 true n1 d1 e1 n2 d2 e2 = some (if s1 < s2 then -1 else if s1 > s2 then 1 else 0,0):=fun K=>by
   rw [show K + d1.size + d2.size + 9 = (K + d1.size + d2.size + 8) + 1 by omega,decimal_Cmp.j1,if_pos rfl,sign_a,Option.bind_some,← hs2,cmp_int,Option.bind_some]
  by_cases c : s1 = s2
  ·by_cases c0 : s1 = 0
   ·refine ⟨(0,0),(0,0),fun K=>?_,fun K=>?_,rfl⟩
    ·rw [y1,if_pos c,show (s1 == 0) = true by rw [c0];rfl,z1,if_neg (by omega),if_neg (by omega)]
    rw [y2,if_neg (by omega),if_neg (by omega),if_pos c0]
   have c01 : (s1 == 0) = false:=beq_false_of_ne c0
   have hs : s1 = 1 ∨ s1 = -1:=by rw [hs1] at c0 ⊢;exact sg_pm c0
   have m1 : wrap64 (s1 * -1) ≠ 0:=by rcases hs with e|e <;> rw [e] <;> unfold wrap64 <;> decide
   have m2 : wrap64 (s1 * 1) ≠ 0:=by rcases hs with e|e <;> rw [e] <;> unfold wrap64 <;> decide
   have m3 : wrap64 (-s1) ≠ 0:=by rcases hs with e|e <;> rw [e] <;> unfold wrap64 <;> decide
   have m0 : wrap64 (s1 * 0) = 0:=by rw [Int.mul_zero];unfold wrap64;decide
   obtain ⟨L1,hL1⟩ : ∃ L1,L1 = wrap64 ((d1.size : Int) + e1):=⟨_,rfl⟩
   obtain ⟨L2,hL2⟩ : ∃ L2,L2 = wrap64 ((d2.size : Int) + e2):=⟨_,rfl⟩
   have A1 : quarryref11_above.f n1 d1 e1 n2 d2 e2 = some (if L1 = L2 then Op.bytesLess d2.data.toList d1.data.toList else decide (L1 > L2)):=by rw [above_eq,← hL1,← hL2,Go.Lib.toList_data,Go.Lib.toList_data]
   have A2 : quarryref11_above.f n2 d2 e2 n1 d1 e1 = some (if L2 = L1 then Op.bytesLess d1.data.toList d2.data.toList else decide (L2 > L1)):=by rw [above_eq,← hL1,← hL2,Go.Lib.toList_data,Go.Lib.toList_data]
   have y3 : ∀ K,decimal_Cmp.f (K + (d1.size + d2.size + 10)) n1 d1 e1 n2 d2 e2 = some (wrap64 (s1 * (if (if L1 < L2 then (-1 : Int) else if L1 > L2 then 1 else 0) = 0 then Lib.compareBytes d1.data.toList d2.data.toList else (if L1 < L2 then (-1 : Int) else if L1 > L2 then 1 else 0))),0):=fun K=>by
    rw [y1,if_pos c,c01,show K + d1.size + d2.size + 9 = (K + d1.size + d2.size + 8) + 1 by omega,decimal_Cmp.j1,if_neg (by decide),← hL1,← hL2,cmp_int,Option.bind_some]
    unfold strings_Compare.f
    rw [Option.bind_some,show K + d1.size + d2.size + 8 = (K + d1.size + d2.size + 5) + 3 by omega,or_two,Option.bind_some]
   have y4 : ∀ K,quarryref11_Cmp.f (K + (d1.size + d2.size + 10)) n1 d1 e1 n2 d2 e2 = if (if L1 = L2 then Op.bytesLess d2.data.toList d1.data.toList else decide (L1 > L2)) = true then some (s1,0) else if (if L2 = L1 then Op.bytesLess d1.data.toList d2.data.toList else decide (L2 > L1)) = true then some (wrap64 (-s1),0) else some (0,0):=fun K=>by
    rw [y2,if_neg (by omega),if_neg (by omega),if_neg c0,A1,Option.bind_some,A2,Option.bind_some]
   have ne : ∀ {a b : Int},a ≠ 0 → b ≠ 0 → (a == 0) = (b == 0):=fun ha hb=>by rw [beq_false_of_ne ha,beq_false_of_ne hb]
   rcases Int.lt_trichotomy L1 L2 with g|g|g
   ·exact ⟨(wrap64 (s1 * -1),0),(wrap64 (-s1),0),fun K=>by rw [y3,if_pos g,if_neg (by decide)],fun K=>by rw [y4,if_neg (show ¬ L1 = L2 by omega),decide_eq_false (show ¬ L1 > L2 by omega),if_neg (by decide),if_neg (show ¬ L2 = L1 by omega),decide_eq_true (show L2 > L1 from g),if_pos rfl],ne m1 m3⟩
   ·have g1 : ¬ L1 < L2:=by omega
    have g2 : ¬ L1 > L2:=by omega
    rcases cmpb_three d1.data.toList d2.data.toList with ⟨q,q2⟩|⟨q,q2⟩|⟨q,q2⟩
    ·have q3 : Op.bytesLess d2.data.toList d1.data.toList = false:=by
      have:=bytes_gtr d2.data.toList d1.data.toList
      rw [q2] at this
      cases e : Op.bytesLess d2.data.toList d1.data.toList
      ·rfl
      rw [e] at this;cases this
     exact ⟨(wrap64 (s1 * -1),0),(wrap64 (-s1),0),fun K=>by rw [y3,if_neg g1,if_neg g2,if_pos rfl,q],fun K=>by rw [y4,if_pos g,q3,if_neg (by decide),if_pos g.symm,q2,if_pos rfl],ne m1 m3⟩
    ·exact ⟨(wrap64 (s1 * 1),0),(s1,0),fun K=>by rw [y3,if_neg g1,if_neg g2,if_pos rfl,q],fun K=>by rw [y4,if_pos g,q2,if_pos rfl],ne m2 c0⟩
    refine ⟨(wrap64 (s1 * 0),0),(0,0),fun K=>by rw [y3,if_neg g1,if_neg g2,if_pos rfl,q],fun K=>?_,by rw [m0]⟩;rw [y4,if_pos g,if_pos g.symm,q2,bytes_irr,if_neg (by decide),if_neg (by decide)]
   exact ⟨(wrap64 (s1 * 1),0),(s1,0),fun K=>by rw [y3,if_neg (show ¬ L1 < L2 by omega),if_pos g,if_neg (by decide)],fun K=>by rw [y4,if_neg (show ¬ L1 = L2 by omega),decide_eq_true (show L1 > L2 from g),if_pos rfl],ne m2 c0⟩
  rcases Int.lt_or_gt_of_ne c with g|g
  ·exact ⟨(-1,0),(-1,0),fun K=>by rw [y1,if_neg c,z1,if_pos g],fun K=>by rw [y2,if_pos g],rfl⟩
  exact ⟨(1,0),(1,0),fun K=>by rw [y1,if_neg c,z1,if_neg (by omega),if_pos (by omega)],fun K=>by rw [y2,if_neg (by omega),if_pos (by omega)],rfl⟩
end Go.Proofs.YtfaegleohhemkaaDoor.QCmpTreeLikes
namespace Go.Proofs.YtfaegleohhemkaaDoor.QNumTreeLikes
open Go.RowKit Go.Proofs.YtfaegleohhemkaaDoor.PTreeLikes Go.Proofs.YtfaegleohhemkaaDoorW.PrintWords Go.Proofs.YtfaegleohhemkaaDoorW.PrintLast
set_option linter.unusedVariables false
set_option linter.unusedSimpArgs false
theorem pow_all (l all : List UInt8) (down : Nat) (t : Bool) : (rdPow l all down t).2.1 = all:=by
 unfold rdPow
 repeat' split
 all_goals rfl
theorem exp_all (l all : List UInt8) (down : Nat) : (rdExp l all down).2.1 = all:=by
 unfold rdExp
 repeat' split
 all_goals first|rfl|exact pow_all _ _ _ _
theorem below_len : ∀ (l all : List UInt8) (down : Nat) (x : UInt8),(rdBelow l all down x).2.1.length ≤ all.length + l.length + 1
 | [],all,down,x=>by rw [rdBelow,exp_all];simp
 | c :: r,all,down,x=>by
  rw [rdBelow]
  split
  ·have:=below_len r (all ++ [x]) (down + 1) c
   rw [List.length_append] at this
   simp only [List.length_cons,List.length_nil] at this ⊢
   omega
  rw [exp_all,List.length_append];simp only [List.length_cons,List.length_nil];omega
theorem point_len (l all : List UInt8) : (rdPoint l all).2.1.length ≤ all.length + l.length:=by
 unfold rdPoint
 split
 ·rw [exp_all];exact Nat.le_add_right _ _
 split
 ·split
  ·exact Nat.le_add_right _ _
  split
  ·rename_i q _
   have:=below_len q all 0 ‹_›
   simp only [List.length_cons] at this ⊢
   omega
  exact Nat.le_add_right _ _
 rw [exp_all];exact Nat.le_add_right _ _
theorem whole_len : ∀ (l all : List UInt8),(rdWhole l all).2.1.length ≤ all.length + l.length
 | [],all=>point_len [] all
 | c :: r,all=>by
  rw [rdWhole]
  split
  ·have:=whole_len r (all ++ [c])
   rw [List.length_append] at this
   simp only [List.length_cons,List.length_nil] at this ⊢
   omega
  exact point_len _ _
theorem first_len (l : List UInt8) : (rdFirst l).2.1.length ≤ l.length:=by
 unfold rdFirst
 split
 ·exact Nat.zero_le _
 rename_i d r
 split
 ·split
  ·have:=point_len r [d]
   simp only [List.length_cons,List.length_nil] at this ⊢
   omega
  have:=whole_len r [d]
  simp only [List.length_cons,List.length_nil] at this ⊢
  omega
 exact Nat.zero_le _
theorem all_len (l : List UInt8) : (rdAll l).2.2.1.length ≤ l.length:=by
 unfold rdAll
 split
 ·exact first_len _
 split
 ·have:=first_len ‹List UInt8›
  simp only [List.length_cons] at this ⊢
  omega
 exact first_len _
theorem drop_len (p : UInt8 → Bool) : ∀ l : List UInt8,(l.dropWhile p).length ≤ l.length
 | []=>Nat.le_refl _
 | c :: r=>by
  rw [List.dropWhile_cons]
  split
  ·have:=drop_len p r;rw [List.length_cons];omega
  exact Nat.le_refl _
theorem body_len (l : List UInt8) : (rdBody l).length ≤ l.length:=by
 unfold rdBody rdLead
 rw [List.length_reverse];exact Nat.le_trans (drop_len _ _) (by rw [List.length_reverse];exact drop_len _ _)
theorem decV_size (s : ByteArray) : (decV s 0).2.1.size ≤ s.size:=by
 have a:=all_len s.data.toList;have b:=body_len (rdAll s.data.toList).2.2.1;have c : s.data.toList.length = s.size:=rfl
 unfold decV
 rw [if_neg (by omega)]
 show (decOut s (rdAll s.data.toList).1 (rdAll s.data.toList).2).2.1.size ≤ s.size
 unfold decOut
 simp only
 split
 ·exact Nat.zero_le _
 split
 ·exact Nat.zero_le _
 split
 ·exact Nat.zero_le _
 show (rdBody (rdAll s.data.toList).2.2.1).toArray.size ≤ _
 rw [List.size_toArray];omega
theorem of_size (s : ByteArray) (hs : s.size ≤ 1099511627776) {r : Bool × ByteArray × Int × Int} (h : decimal_Of.f s = some r) : r.2.1.size ≤ s.size:=by
 have hv:=decV_size s
 unfold decimal_Of.f decimal_Read.f at h
 rw [if_pos hs,Option.bind_some] at h
 generalize decV s 0 = d at h hv
 split at h
 ·cases h;exact Nat.zero_le _
 split at h
 ·cases h;exact Nat.zero_le _
 cases h;exact hv
theorem Ev.at {α : Type} {g : Nat → Option α} {c : Nat} {r : α} (h : ∀ K,g (K + c) = some r) : Ev g r:=by
 refine ⟨c,fun k hk=>?_⟩;obtain ⟨d,rfl⟩:=Nat.exists_eq_add_of_le hk;rw [Nat.add_comm];exact h d
theorem numbers_ev (a b : ByteArray) (ha : a.size ≤ 1099511627776) (hb : b.size ≤ 1099511627776) : ∃ t,Ev (fun k=>tree_numbers.f k a b) t ∧ Ev (fun k=>(quarryref11_Of.f k a).bind fun x=>(quarryref11_Of.f k b).bind fun y=>if x.2.2.2 = 0 then (if y.2.2.2 = 0 then ((quarryref11_Cmp.f k x.1 x.2.1 x.2.2.1 y.1 y.2.1 y.2.2.1).bind fun z=>some (z.1 == 0)) else some (a.toList == b.toList)) else some (a.toList == b.toList)) t:=by
 obtain ⟨x,x1,x2,x3⟩:=QDecTreeLikes.of_ev a ha;obtain ⟨y,y1,y2,y3⟩:=QDecTreeLikes.of_ev b hb;have sx:=of_size a ha x1;have sy:=of_size b hb y1
 by_cases cx : x.2.2.2 = 0
 ·by_cases cy : y.2.2.2 = 0
  ·obtain ⟨c,r,s,h1,h2,h3⟩:=QCmpTreeLikes.cmp_zero x.1 x.2.1 x.2.2.1 y.1 y.2.1 y.2.2.1 (by omega) (by omega);refine ⟨r.1 == 0,Ev.congr (f:=fun k=>(decimal_Cmp.f k x.1 x.2.1 x.2.2.1 y.1 y.2.1 y.2.2.1).bind fun z=>some (z.1 == 0)) (fun k=>?_) (Ev.bind (Ev.at h1) (Ev.now _)),Ev.bind x2 (Ev.bind y2 (Ev.congr (f:=fun k=>(quarryref11_Cmp.f k x.1 x.2.1 x.2.2.1 y.1 y.2.1 y.2.2.1).bind fun z=>some (z.1 == 0)) (fun k=>?_) (Ev.bind (Ev.at h2) (Ev.congr (f:=fun _=>some (r.1 == 0)) (fun k=>?_) (Ev.now _)))))⟩
   ·rw [tree_numbers.f,x1,y1];simp only [Option.bind_some];rw [if_pos cx,if_pos cy]
   ·rw [if_pos cx,if_pos cy]
   rw [h3]
  refine ⟨a.toList == b.toList,Ev.congr (f:=fun _=>some (a.toList == b.toList)) (fun k=>?_) (Ev.now _),Ev.bind x2 (Ev.bind y2 (Ev.congr (f:=fun _=>some (a.toList == b.toList)) (fun k=>?_) (Ev.now _)))⟩
  ·rw [tree_numbers.f,x1,y1];simp only [Option.bind_some];rw [if_pos cx,if_neg cy]
  rw [if_pos cx,if_neg cy]
 refine ⟨a.toList == b.toList,Ev.congr (f:=fun _=>some (a.toList == b.toList)) (fun k=>?_) (Ev.now _),Ev.bind x2 (Ev.bind y2 (Ev.congr (f:=fun _=>some (a.toList == b.toList)) (fun k=>?_) (Ev.now _)))⟩
 ·rw [tree_numbers.f,x1,y1];simp only [Option.bind_some];rw [if_neg cx]
 rw [if_neg cx]
end Go.Proofs.YtfaegleohhemkaaDoor.QNumTreeLikes
namespace Go.Proofs.YtfaegleohhemkaaDoor.QSameTreeLikes
open Go.RowKit Go.Proofs.YtfaegleohhemkaaDoor.PTreeLikes Go.Proofs.YtfaegleohhemkaaDoorW.PrintWords Go.Proofs.YtfaegleohhemkaaDoorW.PrintLast Go.Proofs.YtfaegleohhemkaaDoor.QValTreeLikes Go.Proofs.YtfaegleohhemkaaDoor.QTreeTreeLikes
set_option linter.unusedVariables false
set_option linter.unusedSimpArgs false
theorem rd_get (l : List S25) (i : Nat) (h : i < l.length) : rd_T25 l (i : Int) = l[i]:=by unfold rd_T25;simp [h]
theorem Both.no {f g : Nat → Option Bool} (h1 : ∀ k,f (k + 1) = some false) (h2 : ∀ k,g (k + 1) = some false) : Both f g :=
 ⟨false,Ev.step (f:=fun _=>some false) h1 (Ev.now _),Ev.step (f:=fun _=>some false) h2 (Ev.now _)⟩
theorem Both.step {α : Type} {f f' g g' : Nat → Option α} (h1 : ∀ k,f (k + 1) = f' k) (h2 : ∀ k,g (k + 1) = g' k) (h : Both f' g') : Both f g:=by
 obtain ⟨b,a,c⟩:=h;exact ⟨b,Ev.step h1 a,Ev.step h2 c⟩
theorem Both.congr {α : Type} {f f' g g' : Nat → Option α} (h1 : ∀ k,f k = f' k) (h2 : ∀ k,g k = g' k) (h : Both f' g') : Both f g:=by
 obtain ⟨b,a,c⟩:=h;exact ⟨b,Ev.congr h1 a,Ev.congr h2 c⟩
theorem all2_both {F G : Nat → S25 → S25 → Option Bool} {L : Nat → Int → Option Bool} {P Q : List S25} (hl : P.length = Q.length) (hs : P.length ≤ 1048576)
  (hL : ∀ k i,L (k + 1) i = if i < (P.length : Int) then (if 0 ≤ i then (if i < (Q.length : Int) then ((G k (rd_T25 P i) (rd_T25 Q i)).bind fun t=>if t = true then L k (wrap64 (i + 1)) else some false) else none) else none) else some true)
  (hk : ∀ u ∈ P,∀ v ∈ Q,Both (fun k=>F k u v) (fun k=>G k u v)) : ∀ d i,i + d = P.length → Both (fun k=>all2 (F k) (P.drop i) (Q.drop i)) (fun k=>L k (i : Int))
 | 0,i,h=>by
  refine ⟨true,?_,Ev.step (f:=fun _=>some true) (fun k=>by rw [hL,if_neg (by omega)]) (Ev.now _)⟩;rw [List.drop_of_length_le (show P.length ≤ i by omega),List.drop_of_length_le (show Q.length ≤ i by omega)];exact Ev.now _
 | d + 1,i,h=>by
  have h1 : i < P.length:=by omega
  have h2 : i < Q.length:=by omega
  obtain ⟨b,b1,b2⟩:=hk _ (List.getElem_mem h1) _ (List.getElem_mem h2);obtain ⟨r,r1,r2⟩:=all2_both hl hs hL hk d (i + 1) (by omega)
  have e1 : ∀ k,all2 (F k) (P.drop i) (Q.drop i) = (F k P[i] Q[i]).bind fun t=>if t = true then all2 (F k) (P.drop (i + 1)) (Q.drop (i + 1)) else some false:=fun k=>by
   rw [List.drop_eq_getElem_cons h1,List.drop_eq_getElem_cons h2,all2]
  have e2 : ∀ k,L (k + 1) (i : Int) = (G k P[i] Q[i]).bind fun t=>if t = true then L k ((i + 1 : Nat) : Int) else some false:=fun k=>by
   rw [hL,if_pos (by omega),if_pos (by omega),if_pos (by omega),rd_get P i h1,rd_get Q i h2,w64s i (by omega)]
  cases b with
  | true=>exact ⟨r,Ev.congr e1 (Ev.bind b1 (Ev.congr (fun k=>if_pos rfl) r1)),Ev.step e2 (Ev.bind b2 (Ev.congr (fun k=>if_pos rfl) r2))⟩
  | false=>exact ⟨false,Ev.congr e1 (Ev.bind b1 (Ev.congr (f:=fun _=>some false) (fun k=>if_neg Bool.false_ne_true) (Ev.now _))),Ev.step e2 (Ev.bind b2 (Ev.congr (f:=fun _=>some false) (fun k=>if_neg Bool.false_ne_true) (Ev.now _)))⟩
theorem texts_loop (A B : List ByteArray) (hl : A.length = B.length) (hs : A.length ≤ 1048576) : ∀ d i,i + d = A.length → Both (fun k=>slices_Equal_string_string.l0 k A B (A.length : Int) (i : Int)) (fun k=>quarryref00_SameTexts.l0 k A B (i : Int))
 | 0,i,h=>⟨true,Ev.step (f:=fun _=>some true) (fun k=>by rw [slices_Equal_string_string.l0,if_neg (by omega)]) (Ev.now _),Ev.step (f:=fun _=>some true) (fun k=>by rw [quarryref00_SameTexts.l0,if_neg (by omega)]) (Ev.now _)⟩
 | d + 1,i,h=>by
  have r:=texts_loop A B hl hs d (i + 1) (by omega);have w:=w64s i (by omega)
  by_cases c : (rdOf ByteArray.empty A (i : Int)).toList = (rdOf ByteArray.empty B (i : Int)).toList
  ·refine Both.step (fun k=>?_) (fun k=>?_) r
   ·rw [slices_Equal_string_string.l0,if_pos (by omega),if_pos (by omega),if_pos (by omega),if_pos (by omega),if_pos c,w]
   rw [quarryref00_SameTexts.l0,if_pos (by omega),if_pos (by omega),if_pos (by omega),if_pos c,w]
  refine Both.no (fun k=>?_) (fun k=>?_)
  ·rw [slices_Equal_string_string.l0,if_pos (by omega),if_pos (by omega),if_pos (by omega),if_pos (by omega),if_neg c]
  rw [quarryref00_SameTexts.l0,if_pos (by omega),if_pos (by omega),if_pos (by omega),if_neg c]
theorem texts_both (A B : List ByteArray) (hs : A.length ≤ 1048576) : Both (fun k=>slices_Equal_string_string.f k A B) (fun k=>quarryref00_SameTexts.f k A B):=by
 by_cases c : A.length = B.length
 ·refine Both.congr (fun k=>?_) (fun k=>?_) (texts_loop A B c hs A.length 0 (by omega))
  ·rw [slices_Equal_string_string.f,if_pos (by omega)];rfl
  rw [quarryref00_SameTexts.f,if_pos (by omega)];rfl
 refine Both.congr (f':=fun _=>some false) (g':=fun _=>some false) (fun k=>?_) (fun k=>?_) ⟨false,Ev.now _,Ev.now _⟩
 ·rw [slices_Equal_string_string.f,if_neg (by omega)]
 rw [quarryref00_SameTexts.f,if_neg (by omega)]
theorem same_ev (n : Nat) : ∀ x y : S25,SizeOf.sizeOf x ≤ n → Sm x → Sm y → Both (fun k=>tree_Same.f k x.f0 x.f1 x.f2 x.f3 x.f4 x.f5 y.f0 y.f1 y.f2 y.f3 y.f4 y.f5) (fun k=>quarryref00_SameValue.f k x.f0 x.f1 x.f2 x.f3 x.f4 x.f5 y.f0 y.f1 y.f2 y.f3 y.f4 y.f5):=by
 induction n with
 | zero=>intro x y hn;cases x;simp at hn
 | succ n ih =>
  intro x y hn hx hy;have hlx:=small_len x
  unfold Sm at hx hy
  have jn : Ev (fun k=>quarryref00_SameValue.j0 k true x.f0 x.f1 x.f2 x.f3 x.f4 x.f5 y.f0 y.f1 y.f2 y.f3 y.f4 y.f5) false:=Ev.step (f:=fun _=>some false) (fun k=>by rw [quarryref00_SameValue.j0,if_pos rfl]) (Ev.now _);have no {f : Nat → Option Bool} (h : ∀ k,f (k + 1) = some false) : Ev f false:=Ev.step (f:=fun _=>some false) h (Ev.now _)
  by_cases c0 : x.f0 = y.f0
  ·by_cases c1 : x.f1 = y.f1
   ·have c1' : ¬ (x.f1 != y.f1) = true:=by rw [c1];simp
    by_cases c2 : x.f2.toList = y.f2.toList
    ·by_cases c3 : x.f3.toList = y.f3.toList
     ·obtain ⟨b,t1,t2⟩:=texts_both x.f4 y.f4 (by omega)
      by_cases c5 : x.f5.length = y.f5.length
      ·cases b with
       | true =>
        obtain ⟨r,r1,r2⟩:=all2_both (F:=fun k u v=>tree_Same.f k u.f0 u.f1 u.f2 u.f3 u.f4 u.f5 v.f0 v.f1 v.f2 v.f3 v.f4 v.f5) (G:=fun k u v=>quarryref00_SameValue.f k u.f0 u.f1 u.f2 u.f3 u.f4 u.f5 v.f0 v.f1 v.f2 v.f3 v.f4 v.f5) (L:=fun k i=>quarryref00_SameValue.l0 k i x.f0 x.f1 x.f2 x.f3 x.f4 x.f5 y.f0 y.f1 y.f2 y.f3 y.f4 y.f5) (P:=x.f5) (Q:=y.f5) c5 (by omega) (fun k i=>by rw [quarryref00_SameValue.l0]) (fun u hu v hv=>ih u v (by have:=kid_lt hu;omega) (by have:=small_kid x u hu;unfold Sm;omega) (by have:=small_kid y v hv;unfold Sm;omega)) x.f5.length 0 (by omega)
        rw [List.drop_zero,List.drop_zero] at r1
        refine ⟨r,Ev.step (fun k=>?_) (Ev.bind (f:=fun k t=>if t = true then all2 (fun u v=>tree_Same.f k u.f0 u.f1 u.f2 u.f3 u.f4 u.f5 v.f0 v.f1 v.f2 v.f3 v.f4 v.f5) x.f5 y.f5 else some false) t1 (Ev.congr (fun k=>if_pos rfl) r1)),Ev.step (fun k=>?_) (Ev.bind (f:=fun k t=>quarryref00_SameValue.j0 k (!t) x.f0 x.f1 x.f2 x.f3 x.f4 x.f5 y.f0 y.f1 y.f2 y.f3 y.f4 y.f5) t2 (Ev.step (fun k=>?_) r2))⟩
        ·rw [tree_Same.f,if_pos c0,if_pos c1,if_pos c2,if_pos c3,if_pos c5]
        ·rw [quarryref00_SameValue.f,if_pos c0,if_neg c1',if_pos c2,if_pos c3,if_pos (by omega)]
        rw [quarryref00_SameValue.j0,if_neg (by decide)];rfl
       | false =>
        refine ⟨false,Ev.step (fun k=>?_) (Ev.bind (f:=fun k t=>if t = true then all2 (fun u v=>tree_Same.f k u.f0 u.f1 u.f2 u.f3 u.f4 u.f5 v.f0 v.f1 v.f2 v.f3 v.f4 v.f5) x.f5 y.f5 else some false) t1 (Ev.congr (f:=fun _=>some false) (fun k=>if_neg (by decide)) (Ev.now _))),Ev.step (fun k=>?_) (Ev.bind (f:=fun k t=>quarryref00_SameValue.j0 k (!t) x.f0 x.f1 x.f2 x.f3 x.f4 x.f5 y.f0 y.f1 y.f2 y.f3 y.f4 y.f5) t2 jn)⟩
        ·rw [tree_Same.f,if_pos c0,if_pos c1,if_pos c2,if_pos c3,if_pos c5]
        rw [quarryref00_SameValue.f,if_pos c0,if_neg c1',if_pos c2,if_pos c3,if_pos (by omega)]
      refine ⟨false,Ev.step (fun k=>?_) (Ev.bind (f:=fun k t=>if t = true then some false else some false) t1 (Ev.congr (f:=fun _=>some false) (fun k=>by split <;> rfl) (Ev.now _))),Ev.step (fun k=>?_) jn⟩
      ·rw [tree_Same.f,if_pos c0,if_pos c1,if_pos c2,if_pos c3,if_neg c5]
      rw [quarryref00_SameValue.f,if_pos c0,if_neg c1',if_pos c2,if_pos c3,if_neg (by omega)]
     exact ⟨false,no (fun k=>by rw [tree_Same.f,if_pos c0,if_pos c1,if_pos c2,if_neg c3]),Ev.step (fun k=>by rw [quarryref00_SameValue.f,if_pos c0,if_neg c1',if_pos c2,if_neg c3]) jn⟩
    exact ⟨false,no (fun k=>by rw [tree_Same.f,if_pos c0,if_pos c1,if_neg c2]),Ev.step (fun k=>by rw [quarryref00_SameValue.f,if_pos c0,if_neg c1',if_neg c2]) jn⟩
   have c1' : (x.f1 != y.f1) = true:=by simpa using c1
   exact ⟨false,no (fun k=>by rw [tree_Same.f,if_pos c0,if_neg c1]),Ev.step (fun k=>by rw [quarryref00_SameValue.f,if_pos c0,if_pos c1']) jn⟩
  exact ⟨false,no (fun k=>by rw [tree_Same.f,if_neg c0]),Ev.step (fun k=>by rw [quarryref00_SameValue.f,if_neg c0]) jn⟩
theorem Same_ev (x y : S25) (hx : Sm x) (hy : Sm y) : Both (fun k=>tree_Same.f k x.f0 x.f1 x.f2 x.f3 x.f4 x.f5 y.f0 y.f1 y.f2 y.f3 y.f4 y.f5) (fun k=>quarryref17_Same.f k x.f0 x.f1 x.f2 x.f3 x.f4 x.f5 y.f0 y.f1 y.f2 y.f3 y.f4 y.f5):=by
 obtain ⟨b,h1,h2⟩:=same_ev (SizeOf.sizeOf x) x y (Nat.le_refl _) hx hy;exact ⟨b,h1,Ev.bind (f:=fun _ t=>some t) h2 (Ev.now _)⟩
end Go.Proofs.YtfaegleohhemkaaDoor.QSameTreeLikes
namespace Go.Proofs.YtfaegleohhemkaaDoor.QAlkTreeLikes
open Go.RowKit Go.Proofs.YtfaegleohhemkaaDoor.PTreeLikes Go.Proofs.YtfaegleohhemkaaDoorW.PrintWords Go.Proofs.YtfaegleohhemkaaDoorW.PrintLast Go.Proofs.YtfaegleohhemkaaDoor.QValTreeLikes Go.Proofs.YtfaegleohhemkaaDoor.QTreeTreeLikes Go.Proofs.YtfaegleohhemkaaDoor.QSameTreeLikes Go.Proofs.YtfaegleohhemkaaDoor.QLikTreeLikes Go.Proofs.YtfaegleohhemkaaDoor.QCovTreeLikes Go.Proofs.YtfaegleohhemkaaDoor.QObjTreeLikes
set_option linter.unusedVariables false
set_option linter.unusedSimpArgs false
structure Own (x : S25) : Prop where
 k1 : x.f0 = 1 → x.f1 = false ∧ x.f3.toList = ([] : List UInt8)
 k2 : x.f0 = 2 → x.f3.toList = ([] : List UInt8)
 k4 : x.f0 = 4 → x.f1 = false
 k6 : x.f0 = 6 → x.f4.length = x.f5.length
 any : x.f0 = 1 ∨ x.f0 = 2 ∨ x.f0 = 3 ∨ x.f0 = 4 ∨ x.f0 = 5 ∨ x.f0 = 6
inductive Wf : S25 → Prop
 | mk (x : S25) (h : Own x) (k : ∀ y ∈ x.f5,Wf y) : Wf x
theorem Wf.own {x : S25} (h : Wf x) : Own x:=by cases h;assumption
theorem Wf.kid {x y : S25} (h : Wf x) (hy : y ∈ x.f5) : Wf y:=by cases h with|mk _ h k=>exact k y hy
theorem plain_own (x : S25) (hs : Sm x) (h : tree_plain.f x.f0 x.f1 x.f2 x.f3 x.f4 x.f5 = some true) : Own x:=by
 rw [tree_plain_f x hs] at h
 by_cases c1 : x.f0 = 1
 ·rw [if_pos c1] at h
  have h:=Option.some.inj h
  unfold p1 at h
  simp only [Bool.and_eq_true,Bool.not_eq_true',decide_eq_true_eq] at h
  exact ⟨fun _=>⟨h.1.1.2,h.2⟩,fun e=>by omega,fun e=>by omega,fun e=>by omega,.inl c1⟩
 rw [if_neg c1] at h
 by_cases c2 : x.f0 = 2
 ·rw [if_pos c2] at h
  have h:=Option.some.inj h
  unfold p2 at h
  simp only [Bool.and_eq_true,Bool.not_eq_true',decide_eq_true_eq] at h
  exact ⟨fun e=>by omega,fun e=>h.2,fun e=>by omega,fun e=>by omega,.inr (.inl c2)⟩
 rw [if_neg c2] at h
 by_cases c3 : x.f0 = 3
 ·exact ⟨fun e=>by omega,fun e=>by omega,fun e=>by omega,fun e=>by omega,.inr (.inr (.inl c3))⟩
 rw [if_neg c3] at h
 by_cases c4 : x.f0 = 4
 ·rw [if_pos c4] at h
  by_cases hp : p4 x = true
  ·unfold p4 at hp
   simp only [Bool.and_eq_true,Bool.not_eq_true',decide_eq_true_eq] at hp
   exact ⟨fun e=>by omega,fun e=>by omega,fun e=>hp.1.2,fun e=>by omega,.inr (.inr (.inr (.inl c4)))⟩
  rw [if_neg hp] at h;cases h
 rw [if_neg c4] at h
 by_cases c5 : x.f0 = 5
 ·exact ⟨fun e=>by omega,fun e=>by omega,fun e=>by omega,fun e=>by omega,.inr (.inr (.inr (.inr (.inl c5))))⟩
 rw [if_neg c5] at h
 by_cases c6 : x.f0 = 6
 ·rw [if_pos c6] at h
  by_cases hp : p6 x = true
  ·rw [if_pos hp] at h
   by_cases hl : x.f4.length = x.f5.length
   ·exact ⟨fun e=>by omega,fun e=>by omega,fun e=>by omega,fun e=>hl,.inr (.inr (.inr (.inr (.inr c6))))⟩
   rw [if_neg hl] at h;cases h
  rw [if_neg hp] at h;cases h
 rw [if_neg c6] at h;cases h
theorem loop_wf (left : Int) (P : List S25) (hs : P.length ≤ 1048576) : ∀ (k i : Nat),tree_formed.l0 k left P (P.length : Int) (i : Int) = some true → ∀ j (hj : j < P.length),i ≤ j → ∃ k',tree_formed.f k' P[j].f0 P[j].f1 P[j].f2 P[j].f3 P[j].f4 P[j].f5 (wrap64 (left - 1)) = some true
 | 0,i,h,j,hj,hij=>by rw [tree_formed.l0] at h;cases h
 | k + 1,i,h,j,hj,hij=>by
  rw [tree_formed.l0,if_pos (by omega),if_pos (by omega),if_pos (by omega),rd_get P i (by omega),w64s i (by omega)] at h
  obtain ⟨t,ht,h⟩:=Option.bind_eq_some_iff.mp h
  cases t with
  | false=>rw [if_neg (by decide)] at h;cases h
  | true =>
   rw [if_pos rfl] at h
   rcases Nat.lt_or_eq_of_le hij with g|g
   ·exact loop_wf left P hs k (i + 1) h j hj g
   subst g;exact ⟨k,ht⟩
theorem formed_wf (n : Nat) : ∀ x : S25,SizeOf.sizeOf x ≤ n → Sm x → ∀ k left,tree_formed.f k x.f0 x.f1 x.f2 x.f3 x.f4 x.f5 left = some true → Wf x:=by
 induction n with
 | zero=>intro x hn;cases x;simp at hn
 | succ n ih =>
  intro x hn hx k left h
  cases k with
  | zero=>rw [tree_formed.f] at h;cases h
  | succ k =>
  rw [tree_formed.f] at h
  obtain ⟨t,ht,h⟩:=Option.bind_eq_some_iff.mp h
  have j0 : ∀ c,tree_formed.j0 k left c x.f0 x.f1 x.f2 x.f3 x.f4 x.f5 = some true → ∃ k',tree_formed.l0 k' left x.f5 (x.f5.length : Int) ((0 : Nat) : Int) = some true:=by
   intro c hc
   cases k with
   | zero=>rw [tree_formed.j0] at hc;cases hc
   | succ k =>
    rw [tree_formed.j0] at hc
    cases c with
    | true=>rw [if_pos rfl] at hc;cases hc
    | false=>rw [if_neg (by decide)] at hc;exact ⟨k,hc⟩
  have e : ∃ c,tree_formed.j0 k left c x.f0 x.f1 x.f2 x.f3 x.f4 x.f5 = some true:=by
   cases t with
   | false=>rw [if_neg (by decide)] at h;exact ⟨_,h⟩
   | true =>
    rw [if_pos rfl,holds_f,Option.bind_some] at h
    split at h
    ·exact ⟨_,h⟩
    exact ⟨_,h⟩
  obtain ⟨c,hc⟩:=e
  cases t with
  | false =>
   rw [if_neg (by decide)] at h
   cases k with
   | zero=>rw [tree_formed.j0] at h;cases h
   | succ k=>rw [tree_formed.j0,if_pos rfl] at h;cases h
  | true =>
   obtain ⟨k',hk'⟩:=j0 c hc;refine Wf.mk x (plain_own x hx ht) (fun y hy=>?_);obtain ⟨j,hj,rfl⟩:=List.mem_iff_getElem.1 hy;obtain ⟨k2,h2⟩:=loop_wf left x.f5 (by have:=small_len x;unfold Sm at hx;omega) k' 0 hk' j hj (Nat.zero_le _);exact ih _ (by have:=kid_lt hy;omega) (by have:=small_kid x _ hy;unfold Sm at hx ⊢;omega) k2 _ h2
theorem uni {α : Type} {p : α → Nat → Prop} : ∀ l : List α,(∀ a ∈ l,∃ K,∀ k,K ≤ k → p a k) → ∃ K,∀ k,K ≤ k → ∀ a ∈ l,p a k
 | [],h=>⟨0,fun k _ a ha=>by cases ha⟩
 | a :: r,h=>by
  obtain ⟨K1,h1⟩:=h a (by simp);obtain ⟨K2,h2⟩:=uni r (fun b hb=>h b (by simp [hb]));refine ⟨max K1 K2,fun k hk b hb=>?_⟩
  rcases List.mem_cons.1 hb with rfl|hb
  ·exact h1 k (by omega)
  exact h2 k (by omega) b hb
theorem mem_look {A : List ByteArray} {P : List S25} (h : P.length = A.length) {s : ByteArray} {x : S25} (e : lookP s (A.zip P) = some x) : x ∈ P:=by
 obtain ⟨i,hi,_,_,rfl⟩:=(lookP_some s A P h x).1 e;exact rd_mem P i (by omega)
theorem okK_yes (x : S25) (hx : Sm x) (hl : x.f4.length = x.f5.length) : okK x.f4 x.f5 = true:=by
 unfold okK
 rw [decide_eq_true hl,Bool.true_and,List.all_eq_true];intro s hs;have:=small_name x s hs
 unfold Sm at hx
 exact decide_eq_true (by omega)
theorem alike_ev (n : Nat) : ∀ x y : S25,SizeOf.sizeOf x ≤ n → Sm x → Sm y → Wf x → Wf y → Both (fun k=>tree_alike.f k x.f0 x.f1 x.f2 x.f3 x.f4 x.f5 y.f0 y.f1 y.f2 y.f3 y.f4 y.f5) (fun k=>quarryref17_alike.f k x.f0 x.f1 x.f2 x.f3 x.f4 x.f5 y.f0 y.f1 y.f2 y.f3 y.f4 y.f5):=by
 induction n with
 | zero=>intro x y hn;cases x;simp at hn
 | succ n ih =>
  intro x y hn hx hy wx wy;have lx:=small_len x;have ly:=small_len y;have rx:=small_raw x;have ry:=small_raw y;have ox:=wx.own;have oy:=wy.own
  have ihk : ∀ u ∈ x.f5,∀ v ∈ y.f5,Both (fun k=>tree_alike.f k u.f0 u.f1 u.f2 u.f3 u.f4 u.f5 v.f0 v.f1 v.f2 v.f3 v.f4 v.f5) (fun k=>quarryref17_alike.f k u.f0 u.f1 u.f2 u.f3 u.f4 u.f5 v.f0 v.f1 v.f2 v.f3 v.f4 v.f5):=fun u hu v hv=>ih u v (by have:=kid_lt hu;omega) (by have:=small_kid x u hu;unfold Sm at hx ⊢;omega) (by have:=small_kid y v hv;unfold Sm at hy ⊢;omega) (wx.kid hu) (wy.kid hv)
  by_cases c0 : x.f0 = y.f0
  ·by_cases c3 : x.f0 = 3
   ·obtain ⟨t,t1,t2⟩:=QNumTreeLikes.numbers_ev x.f2 y.f2 (by unfold Sm at hx;omega) (by unfold Sm at hy;omega);refine ⟨t,Ev.step (fun k=>?_) t1,Ev.step (fun k=>?_) t2⟩
    ·rw [tree_alike.f,if_pos c0,if_pos c3]
    rw [quarryref17_alike.f,if_pos c0,if_neg (by omega),if_neg (by omega),if_pos c3]
   by_cases c5 : x.f0 = 5
   ·by_cases cl : x.f5.length = y.f5.length
    ·obtain ⟨r,r1,r2⟩:=all2_both (F:=fun k u v=>tree_alike.f k u.f0 u.f1 u.f2 u.f3 u.f4 u.f5 v.f0 v.f1 v.f2 v.f3 v.f4 v.f5) (G:=fun k u v=>quarryref17_alike.f k u.f0 u.f1 u.f2 u.f3 u.f4 u.f5 v.f0 v.f1 v.f2 v.f3 v.f4 v.f5) (L:=fun k i=>quarryref17_alike.l0 k i x.f0 x.f1 x.f2 x.f3 x.f4 x.f5 y.f0 y.f1 y.f2 y.f3 y.f4 y.f5) (P:=x.f5) (Q:=y.f5) cl (by unfold Sm at hx;omega) (fun k i=>by rw [quarryref17_alike.l0]) ihk x.f5.length 0 (by omega)
     rw [List.drop_zero,List.drop_zero] at r1
     refine ⟨r,Ev.step (fun k=>?_) r1,Ev.step (fun k=>?_) r2⟩
     ·rw [tree_alike.f,if_pos c0,if_neg c3,if_pos c5,if_pos cl]
     rw [quarryref17_alike.f,if_pos c0,if_neg (by omega),if_neg (by omega),if_neg c3,if_pos c5,if_pos (by omega)];rfl
    refine Both.no (fun k=>?_) (fun k=>?_)
    ·rw [tree_alike.f,if_pos c0,if_neg c3,if_pos c5,if_neg cl]
    rw [quarryref17_alike.f,if_pos c0,if_neg (by omega),if_neg (by omega),if_neg c3,if_pos c5,if_neg (by omega)]
   by_cases c6 : x.f0 = 6
   ·have hlx:=ox.k6 c6;have hly:=oy.k6 (c0 ▸ c6)
    have hb : ∀ uv : S25 × S25,∃ b : Bool,uv.1 ∈ x.f5 → uv.2 ∈ y.f5 → ∃ K,∀ k,K ≤ k → tree_alike.f k uv.1.f0 uv.1.f1 uv.1.f2 uv.1.f3 uv.1.f4 uv.1.f5 uv.2.f0 uv.2.f1 uv.2.f2 uv.2.f3 uv.2.f4 uv.2.f5 = some b ∧ quarryref17_alike.f k uv.1.f0 uv.1.f1 uv.1.f2 uv.1.f3 uv.1.f4 uv.1.f5 uv.2.f0 uv.2.f1 uv.2.f2 uv.2.f3 uv.2.f4 uv.2.f5 = some b:=by
     intro uv
     by_cases g : uv.1 ∈ x.f5 ∧ uv.2 ∈ y.f5
     ·obtain ⟨b,⟨K1,h1⟩,⟨K2,h2⟩⟩:=ihk _ g.1 _ g.2;exact ⟨b,fun _ _=>⟨max K1 K2,fun k hk=>⟨h1 k (by omega),h2 k (by omega)⟩⟩⟩
     exact ⟨false,fun g1 g2=>absurd ⟨g1,g2⟩ g⟩
    obtain ⟨g,hg⟩:=Classical.skolem.1 hb
    obtain ⟨K,hK⟩ : ∃ K,∀ k,K ≤ k → ∀ u ∈ x.f5,∀ v ∈ y.f5,tree_alike.f k u.f0 u.f1 u.f2 u.f3 u.f4 u.f5 v.f0 v.f1 v.f2 v.f3 v.f4 v.f5 = some (g (u,v)) ∧ quarryref17_alike.f k u.f0 u.f1 u.f2 u.f3 u.f4 u.f5 v.f0 v.f1 v.f2 v.f3 v.f4 v.f5 = some (g (u,v)) :=
     uni x.f5 (fun u hu=>uni y.f5 (fun v hv=>hg (u,v) hu hv))
    obtain ⟨b,hbc⟩ : ∃ b : Bool,b = true ↔ ((∀ z ∈ y.f4,z.toList ∈ bys x.f4) ∧ ∀ p,p < x.f4.length → GoodM x.f4 y.f4 (fun u v=>g (u,v)) x.f5 y.f5 p):=by
     by_cases c : ((∀ z ∈ y.f4,z.toList ∈ bys x.f4) ∧ ∀ p,p < x.f4.length → GoodM x.f4 y.f4 (fun u v=>g (u,v)) x.f5 y.f5 p)
     ·exact ⟨true,fun _=>c,fun _=>rfl⟩
     exact ⟨false,fun e=>(by cases e),fun e=>absurd e c⟩
    refine ⟨b,⟨K + 1,fun n hn=>?_⟩,?_⟩
    ·obtain ⟨m,rfl⟩ : ∃ m,n = m + 1:=⟨n - 1,by omega⟩
     obtain ⟨u,u1,u2⟩:=ansP_eq (rec:=fun u v=>tree_alike.f m u.f0 u.f1 u.f2 u.f3 u.f4 u.f5 v.f0 v.f1 v.f2 v.f3 v.f4 v.f5) (ans:=fun u v=>g (u,v)) (ps:=x.f4.zip x.f5) (qs:=y.f4.zip y.f5) (fun s t u v h1 h2=>(hK m (by omega) u (mem_look hlx.symm h1) v (mem_look hly.symm h2)).1) x.f4
     show tree_alike.f (m + 1) x.f0 x.f1 x.f2 x.f3 x.f4 x.f5 y.f0 y.f1 y.f2 y.f3 y.f4 y.f5 = some b
     rw [tree_alike.f,if_pos c0,if_neg c3,if_neg c5,if_pos c6,if_pos (okK_yes x hx hlx),if_pos (okK_yes y hy hly),u1,Option.bind_some]
     congr 1
     rw [Bool.eq_iff_iff,Bool.and_eq_true,decide_eq_true_eq,u2,hbc];exact obj_eq hlx.symm hly.symm
    obtain ⟨c1,h1⟩:=has_eq y.f0 y.f1 y.f2 y.f3 y.f4 y.f5 x.f0 x.f1 x.f2 x.f3 x.f4 x.f5 (by unfold Sm at hy;omega) (by unfold Sm at hx;omega);obtain ⟨c2,b2,g1,g2⟩:=covers_eq (rq:=fun z0 z1 z2 z3 z4 z5 z6 z7 z8 z9 z10 z11=>quarryref17_alike.f K z0 z1 z2 z3 z4 z5 z6 z7 z8 z9 z10 z11) (ans:=fun u v=>g (u,v)) x.f0 x.f1 x.f2 x.f3 x.f4 x.f5 y.f0 y.f1 y.f2 y.f3 y.f4 y.f5 (by unfold Sm at hx;omega) (by unfold Sm at hy;omega) hlx.symm hly.symm (fun i j hi hj=>(hK K (Nat.le_refl _) _ (rd_mem x.f5 i hi) _ (rd_mem y.f5 j hj)).2)
    have gc : Ev (fun k=>quarryref17_covers.f (fun z0 z1 z2 z3 z4 z5 z6 z7 z8 z9 z10 z11=>quarryref17_alike.f k z0 z1 z2 z3 z4 z5 z6 z7 z8 z9 z10 z11) k x.f0 x.f1 x.f2 x.f3 x.f4 x.f5 y.f0 y.f1 y.f2 y.f3 y.f4 y.f5) b2:=by
     refine ⟨K + c2 + 1,fun k hk=>?_⟩
     obtain ⟨d,rfl⟩ : ∃ d,k = (d + c2) + 1:=⟨k - c2 - 1,by omega⟩
     refine quarryref17_covers.le (rq:=fun z0 z1 z2 z3 z4 z5 z6 z7 z8 z9 z10 z11=>quarryref17_alike.f K z0 z1 z2 z3 z4 z5 z6 z7 z8 z9 z10 z11) (fun z0 z1 z2 z3 z4 z5 z6 z7 z8 z9 z10 z11=>?_) (d + c2) _ _ _ _ _ _ _ _ _ _ _ _ b2 (g1 d);intro r hr;exact at_rounds (g:=fun k=>quarryref17_alike.f k z0 z1 z2 z3 z4 z5 z6 z7 z8 z9 z10 z11) (fun k=>quarryref17_alike.mono _ _ _ _ _ _ _ _ _ _ _ _ k) (by omega) hr
    refine Ev.step (f:=fun k=>(quarryref17_has.f k y.f0 y.f1 y.f2 y.f3 y.f4 y.f5 x.f0 x.f1 x.f2 x.f3 x.f4 x.f5).bind fun t=>if t = true then ((quarryref17_covers.f (fun z0 z1 z2 z3 z4 z5 z6 z7 z8 z9 z10 z11=>quarryref17_alike.f k z0 z1 z2 z3 z4 z5 z6 z7 z8 z9 z10 z11) k x.f0 x.f1 x.f2 x.f3 x.f4 x.f5 y.f0 y.f1 y.f2 y.f3 y.f4 y.f5).bind fun t=>some t) else some false) (fun k=>?_) (Ev.bind (QNumTreeLikes.Ev.at h1) ?_)
    ·rw [quarryref17_alike.f,if_pos c0,if_neg (by omega),if_neg (by omega),if_neg c3,if_neg c5,if_pos c6]
    by_cases ch : ∀ z ∈ y.f4,z.toList ∈ bys x.f4
    ·rw [decide_eq_true ch];refine Ev.congr (fun k=>if_pos rfl) (Ev.bind gc ?_)
     have e : b2 = b:=by rw [Bool.eq_iff_iff,g2,hbc];exact ⟨fun h=>⟨ch,h⟩,fun h=>h.2⟩
     rw [e];exact Ev.now _
    rw [decide_eq_false ch]
    have e : b = false:=by
     cases b with
     | false=>rfl
     | true=>exact absurd (hbc.1 rfl).1 ch
    rw [e];exact Ev.congr (f:=fun _=>some false) (fun k=>if_neg (by decide)) (Ev.now _)
   have e : ∀ k,tree_alike.f (k + 1) x.f0 x.f1 x.f2 x.f3 x.f4 x.f5 y.f0 y.f1 y.f2 y.f3 y.f4 y.f5 = some ((x.f1 == y.f1) && (x.f3.toList == y.f3.toList)):=fun k=>by rw [tree_alike.f,if_pos c0,if_neg c3,if_neg c5,if_neg c6]
   refine ⟨(x.f1 == y.f1) && (x.f3.toList == y.f3.toList),Ev.step (f:=fun _=>some ((x.f1 == y.f1) && (x.f3.toList == y.f3.toList))) e (Ev.now _),Ev.step (f:=fun _=>some ((x.f1 == y.f1) && (x.f3.toList == y.f3.toList))) (fun k=>?_) (Ev.now _)⟩;rw [quarryref17_alike.f,if_pos c0,if_neg c3,if_neg c5,if_neg c6]
   by_cases c2 : x.f0 = 2
   ·rw [if_pos c2,ox.k2 c2,oy.k2 (c0 ▸ c2)];simp
   rw [if_neg c2]
   by_cases c4 : x.f0 = 4
   ·rw [if_pos c4,ox.k4 c4,oy.k4 (c0 ▸ c4)];simp
   rw [if_neg c4]
   have c1 : x.f0 = 1:=by have:=ox.any;omega
   obtain ⟨a1,a2⟩:=ox.k1 c1;obtain ⟨b1,b2⟩:=oy.k1 (c0 ▸ c1);rw [a1,a2,b1,b2];rfl
  have e1 : ∀ k,tree_alike.f (k + 1) x.f0 x.f1 x.f2 x.f3 x.f4 x.f5 y.f0 y.f1 y.f2 y.f3 y.f4 y.f5 = some false:=fun k=>by rw [tree_alike.f,if_neg c0]
  have e2 : ∀ k,quarryref17_alike.f (k + 1) x.f0 x.f1 x.f2 x.f3 x.f4 x.f5 y.f0 y.f1 y.f2 y.f3 y.f4 y.f5 = some false:=fun k=>by rw [quarryref17_alike.f,if_neg c0]
  exact Both.no e1 e2
theorem Alike_ev (x y : S25) (hx : Sm x) (hy : Sm y) : Both (fun k=>tree_Alike.f k x.f0 x.f1 x.f2 x.f3 x.f4 x.f5 y.f0 y.f1 y.f2 y.f3 y.f4 y.f5) (fun k=>quarryref17_Alike.f k x.f0 x.f1 x.f2 x.f3 x.f4 x.f5 y.f0 y.f1 y.f2 y.f3 y.f4 y.f5):=by
 obtain ⟨p,p1,p2⟩:=Formed_ev x hx;obtain ⟨q,q1,q2⟩:=Formed_ev y hy
 have wf : ∀ z : S25,Sm z → Ev (fun k=>tree_Formed.f k z.f0 z.f1 z.f2 z.f3 z.f4 z.f5) true → Wf z:=by
  intro z hz h;obtain ⟨k,hk⟩:=Ev.rounds h
  rw [tree_Formed.f] at hk
  obtain ⟨t,ht,hk⟩:=Option.bind_eq_some_iff.mp hk;cases hk;exact formed_wf (SizeOf.sizeOf z) z (Nat.le_refl _) hz k _ ht
 cases p with
 | false=>exact ⟨false,Ev.bind p1 (Ev.congr (f:=fun _=>some false) (fun k=>if_neg (by decide)) (Ev.now _)),Ev.bind p2 (Ev.congr (f:=fun _=>some false) (fun k=>if_neg (by decide)) (Ev.now _))⟩
 | true =>
  cases q with
  | false=>exact ⟨false,Ev.bind p1 (Ev.congr (fun k=>if_pos rfl) (Ev.bind q1 (Ev.congr (f:=fun _=>some false) (fun k=>if_neg (by decide)) (Ev.now _)))),Ev.bind p2 (Ev.congr (fun k=>if_pos rfl) (Ev.bind q2 (Ev.congr (f:=fun _=>some false) (fun k=>if_neg (by decide)) (Ev.now _))))⟩
  | true =>
   obtain ⟨b,b1,b2⟩:=alike_ev (SizeOf.sizeOf x) x y (Nat.le_refl _) hx hy (wf x hx p1) (wf y hy q1);exact ⟨b,Ev.bind p1 (Ev.congr (fun k=>if_pos rfl) (Ev.bind q1 (Ev.congr (fun k=>if_pos rfl) (Ev.bind b1 (Ev.now _))))),Ev.bind p2 (Ev.congr (fun k=>if_pos rfl) (Ev.bind q2 (Ev.congr (fun k=>if_pos rfl) (Ev.bind b2 (Ev.now _)))))⟩
end Go.Proofs.YtfaegleohhemkaaDoor.QAlkTreeLikes
namespace Go.Proofs.YtfaegleohhemkaaDoor.Pure
open Go.RowKit Go.Proofs.YtfaegleohhemkaaDoor.PTreeLikes Go.Proofs.YtfaegleohhemkaaDoorW.PrintWords Go.Proofs.YtfaegleohhemkaaDoorW.PrintLast Go.Proofs.YtfaegleohhemkaaDoor.QValTreeLikes Go.Proofs.YtfaegleohhemkaaDoor.QTreeTreeLikes Go.Proofs.YtfaegleohhemkaaDoor.QSameTreeLikes Go.Proofs.YtfaegleohhemkaaDoor.QAlkTreeLikes
set_option linter.unusedVariables false
set_option linter.unusedSimpArgs false
def smallV : S25:=⟨6,false,⟨#[]⟩,⟨#[]⟩,[⟨#[97]⟩,⟨#[98]⟩],[⟨5,false,⟨#[]⟩,⟨#[]⟩,[],[⟨3,false,⟨#[49,46,48]⟩,⟨#[]⟩,[],[]⟩,⟨2,true,⟨#[]⟩,⟨#[]⟩,[],[]⟩]⟩,⟨1,false,⟨#[]⟩,⟨#[]⟩,[],[]⟩]⟩
theorem small_same : Ev (fun k=>tree_Same.f k smallV.f0 smallV.f1 smallV.f2 smallV.f3 smallV.f4 smallV.f5 smallV.f0 smallV.f1 smallV.f2 smallV.f3 smallV.f4 smallV.f5) true :=
 Ev.of (fun k=>tree_Same.mono _ _ _ _ _ _ _ _ _ _ _ _ k) (k:=20) (by decide +kernel)
theorem small_alike : Ev (fun k=>tree_Alike.f k 3 false (⟨#[49,46,48]⟩ : ByteArray) (⟨#[]⟩ : ByteArray) ([] : List ByteArray) ([] : List S25) 3 false (⟨#[49,48,101,45,49]⟩ : ByteArray) (⟨#[]⟩ : ByteArray) ([] : List ByteArray) ([] : List S25)) true :=
 Ev.of (fun k=>tree_Alike.mono _ _ _ _ _ _ _ _ _ _ _ _ k) (k:=20) (by decide +kernel)
theorem TreeLikes : quarrylaw17_TreeLikes.Pure:=by
 intro x y hx hy hb
 have sx : Sm x:=by unfold Sm;omega
 have sy : Sm y:=by unfold Sm;omega
 obtain ⟨s,s1,s2⟩:=Same_ev x y sx sy;obtain ⟨a,a1,a2⟩:=Alike_ev x y sx sy;obtain ⟨p,hp⟩:=beyond_ev x hx;obtain ⟨q,hq⟩:=beyond_ev y hy
 have h1 : ∀ b,Ev (fun k=>quarrylaw17_TreeLikes.j1 k b x.f0 x.f1 x.f2 x.f3 x.f4 x.f5 y.f0 y.f1 y.f2 y.f3 y.f4 y.f5) true:=by
  intro b
  cases b with
  | true=>exact Ev.step (f:=fun _=>some true) (fun k=>by rw [quarrylaw17_TreeLikes.j1,if_pos rfl]) (Ev.now _)
  | false =>
   refine Ev.step (fun k=>by rw [quarrylaw17_TreeLikes.j1,if_neg (by decide)]) (Ev.bind s1 (Ev.bind s2 (Ev.congr (fun k=>if_pos (beq_self_eq_true _)) (Ev.bind a1 (Ev.bind a2 ?_)))));exact Ev.congr (f:=fun _=>some true) (fun k=>congrArg some (beq_self_eq_true _)) (Ev.now _)
 have h0 : Ev (fun k=>quarrylaw17_TreeLikes.j0 k false x.f0 x.f1 x.f2 x.f3 x.f4 x.f5 y.f0 y.f1 y.f2 y.f3 y.f4 y.f5) true:=by
  refine Ev.step (fun k=>by rw [quarrylaw17_TreeLikes.j0,if_neg (by decide)]) (Ev.bind hp ?_)
  cases p with
  | true=>exact Ev.congr (fun k=>if_pos rfl) (h1 true)
  | false=>exact Ev.congr (fun k=>if_neg (by decide)) (Ev.bind hq (h1 q))
 have hl : Ev (fun k=>quarrylaw17_TreeLikes.f k x.f0 x.f1 x.f2 x.f3 x.f4 x.f5 y.f0 y.f1 y.f2 y.f3 y.f4 y.f5) true:=by
  refine Ev.congr (fun k=>by unfold quarrylaw17_TreeLikes.f quarrylaw17_smallValue.f;simp only [Option.bind_some];rfl) ?_;exact Ev.bind small_same (Ev.congr (fun k=>if_pos rfl) (Ev.bind small_alike h0))
 exact Ev.rounds hl
end Go.Proofs.YtfaegleohhemkaaDoor.Pure
