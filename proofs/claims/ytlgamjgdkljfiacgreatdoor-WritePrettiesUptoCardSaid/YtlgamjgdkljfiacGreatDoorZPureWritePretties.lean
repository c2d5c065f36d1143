/- quarry: write.Pretty answers what the document's answer does, for every struct of a value and every indent within the bound. -/
import Derived.Test.YtlgamjgdkljfiacGreatDoorZDefWritePretties
namespace Go.Proofs.YtlgamjgdkljfiacGreatDoor.QValWritePretties
open Go.RowKit Go.Proofs.YtlgamjgdkljfiacGreatDoor.PWritePretties Go.Proofs.YtlgamjgdkljfiacGreatDoorW.PrintWords Go.Proofs.YtlgamjgdkljfiacGreatDoorW.PrintLast
set_option linter.unusedVariables false
set_option linter.unusedSimpArgs false
theorem w64 (n : Int) (h : -9223372036854775808 ≤ n) (h2 : n ≤ 9223372036854775807) : wrap64 n = n:=by unfold wrap64;omega
theorem w64s (i : Nat) (h : i ≤ 140737488351232) : wrap64 ((i : Int) + 1) = ((i + 1 : Nat) : Int):=by unfold wrap64;omega
theorem kid_lt {x y : S25} (h : y ∈ x.f5) : SizeOf.sizeOf y < SizeOf.sizeOf x:=by
 cases x with
 | mk f0 f1 f2 f3 f4 f5 =>
 have:=List.sizeOf_lt_of_mem (show y ∈ f5 from h);rw [S25.mk.sizeOf_spec]
 omega
theorem rd_mem (l : List S25) (i : Nat) (h : i < l.length) : rd_T25 l (i : Int) ∈ l:=by
 unfold rd_T25
 rw [Int.toNat_natCast,List.getD_eq_getElem?_getD,List.getElem?_eq_getElem h,Option.getD_some];exact List.getElem_mem h
theorem take_rd (l : List S25) (i : Nat) (h : i < l.length) : l.take i ++ [rd_T25 l (i : Int)] = l.take (i + 1):=by
 unfold rd_T25
 rw [Int.toNat_natCast,List.getD_eq_getElem?_getD,List.getElem?_eq_getElem h,Option.getD_some,List.take_succ_eq_append_getElem h]
theorem eta_ (x : S25) : (⟨x.f0,x.f1,x.f2,x.f3,x.f4,x.f5⟩ : S25) = x:=by cases x;rfl
theorem told_some (a b c : Int) : ∃ r,quarryref00_told.f a b c = some r:=by unfold quarryref00_told.f;split <;> exact ⟨_,rfl⟩
theorem left_loop1 (x : S25) (hl4 : x.f4.length * 16 ≤ 140737488351232) (hl : x.f5.length * 96 ≤ 140737488351232)
  (hk : ∀ y ∈ x.f5,∀ a b c : Int,∃ r,Ev (fun k=>quarryref00_leftOfValue.f k y.f0 y.f1 y.f2 y.f3 y.f4 y.f5 a b c) r) : ∀ (d i : Nat) (a b c : Int),i + d = x.f5.length → ∃ r,Ev (fun k=>quarryref00_leftOfValue.l1 k a b c (i : Int) x.f0 x.f1 x.f2 x.f3 x.f4 x.f5) r
 | 0,i,a,b,c,h=>⟨c,Ev.step (f:=fun k=>quarryref00_leftOfValue.j3 k a b c (i : Int) false x.f0 x.f1 x.f2 x.f3 x.f4 x.f5) (fun k=>by simp only [quarryref00_leftOfValue.l1];rw [if_neg (by omega)]) (Ev.step (f:=fun _=>some c) (fun k=>by simp only [quarryref00_leftOfValue.j3];rw [if_neg (by simp)]) (Ev.now _))⟩
 | d + 1,i,a,b,c,h=>by
  have hlt : i < x.f5.length:=by omega
  by_cases hc : c ≥ 0
  ·by_cases h4 : (i : Int) < (x.f4.length : Int)
   ·obtain ⟨r1,hr1⟩:=hk _ (rd_mem x.f5 i hlt) (wrap64 (a + 1)) (wrap64 ((wrap64 (b + 21)) + (wrap64 (2 * ((rdOf ByteArray.empty x.f4 (i : Int)).size : Int))))) c;obtain ⟨r2,hr2⟩:=left_loop1 x hl4 hl hk d (i + 1) a b r1 (by omega);refine ⟨r2,Ev.step (f:=fun k=>quarryref00_leftOfValue.j3 k a b c (i : Int) true x.f0 x.f1 x.f2 x.f3 x.f4 x.f5) (fun k=>by simp only [quarryref00_leftOfValue.l1];rw [if_pos (by omega),decide_eq_true hc]) (Ev.step (f:=fun k=>(quarryref00_leftOfValue.f k (rd_T25 x.f5 (i : Int)).f0 (rd_T25 x.f5 (i : Int)).f1 (rd_T25 x.f5 (i : Int)).f2 (rd_T25 x.f5 (i : Int)).f3 (rd_T25 x.f5 (i : Int)).f4 (rd_T25 x.f5 (i : Int)).f5 (wrap64 (a + 1)) (wrap64 ((wrap64 (b + 21)) + (wrap64 (2 * ((rdOf ByteArray.empty x.f4 (i : Int)).size : Int))))) c).bind fun t=>quarryref00_leftOfValue.l1 k a b t ((i + 1 : Nat) : Int) x.f0 x.f1 x.f2 x.f3 x.f4 x.f5) (fun k=>?_) (Ev.bind hr1 hr2))⟩;simp only [quarryref00_leftOfValue.j3];rw [if_pos trivial,if_pos h4,if_pos (by omega),if_pos (by omega),w64s i (by omega)]
   obtain ⟨r1,hr1⟩:=hk _ (rd_mem x.f5 i hlt) (wrap64 (a + 1)) (wrap64 (b + 21)) c;obtain ⟨r2,hr2⟩:=left_loop1 x hl4 hl hk d (i + 1) a b r1 (by omega);refine ⟨r2,Ev.step (f:=fun k=>quarryref00_leftOfValue.j3 k a b c (i : Int) true x.f0 x.f1 x.f2 x.f3 x.f4 x.f5) (fun k=>by simp only [quarryref00_leftOfValue.l1];rw [if_pos (by omega),decide_eq_true hc]) (Ev.step (f:=fun k=>(quarryref00_leftOfValue.f k (rd_T25 x.f5 (i : Int)).f0 (rd_T25 x.f5 (i : Int)).f1 (rd_T25 x.f5 (i : Int)).f2 (rd_T25 x.f5 (i : Int)).f3 (rd_T25 x.f5 (i : Int)).f4 (rd_T25 x.f5 (i : Int)).f5 (wrap64 (a + 1)) (wrap64 (b + 21)) c).bind fun t=>quarryref00_leftOfValue.l1 k a b t ((i + 1 : Nat) : Int) x.f0 x.f1 x.f2 x.f3 x.f4 x.f5) (fun k=>?_) (Ev.bind hr1 hr2))⟩;simp only [quarryref00_leftOfValue.j3];rw [if_pos trivial,if_neg h4,if_pos (by omega),if_pos (by omega),w64s i (by omega)]
  refine ⟨c,Ev.step (f:=fun k=>quarryref00_leftOfValue.j3 k a b c (i : Int) false x.f0 x.f1 x.f2 x.f3 x.f4 x.f5) (fun k=>by simp only [quarryref00_leftOfValue.l1];rw [if_pos (by omega),decide_eq_false hc]) (Ev.step (f:=fun _=>some c) (fun k=>by simp only [quarryref00_leftOfValue.j3];rw [if_neg (by simp)]) (Ev.now _))⟩
theorem left_loop0 (x : S25) (hl4 : x.f4.length * 16 ≤ 140737488351232)
  (hj : ∀ a b c : Int,∃ r,Ev (fun k=>quarryref00_leftOfValue.j1 k a b c x.f0 x.f1 x.f2 x.f3 x.f4 x.f5) r) : ∀ (d i : Nat) (a b c : Int),i + d = x.f4.length → ∃ r,Ev (fun k=>quarryref00_leftOfValue.l0 k a b c (i : Int) x.f0 x.f1 x.f2 x.f3 x.f4 x.f5) r
 | 0,i,a,b,c,h=>by
  obtain ⟨r,hr⟩:=hj a b c;exact ⟨r,Ev.step (fun k=>by simp only [quarryref00_leftOfValue.l0];rw [if_neg (by omega)]) hr⟩
 | d + 1,i,a,b,c,h=>by
  by_cases hc : c ≥ 0
  ·obtain ⟨t,ht⟩:=told_some ((rdOf ByteArray.empty x.f4 (i : Int)).size : Int) a 0;obtain ⟨r,hr⟩:=left_loop0 x hl4 hj d (i + 1) a b (wrap64 (c - t)) (by omega);refine ⟨r,Ev.step (fun k=>?_) hr⟩;simp only [quarryref00_leftOfValue.l0];rw [if_pos (by omega),if_pos hc,if_pos (by omega),ht,Option.bind_some,w64s i (by omega)]
  obtain ⟨r,hr⟩:=hj a b c;exact ⟨r,Ev.step (fun k=>by simp only [quarryref00_leftOfValue.l0];rw [if_pos (by omega),if_neg hc]) hr⟩
theorem left_ev (n : Nat) : ∀ (x : S25),SizeOf.sizeOf x ≤ n → SZ25 x → ∀ a b c : Int,∃ r,Ev (fun k=>quarryref00_leftOfValue.f k x.f0 x.f1 x.f2 x.f3 x.f4 x.f5 a b c) r:=by
 induction n with
 | zero=>intro x hn;cases x;simp at hn
 | succ n ih =>
  intro x hn hx a b c
  cases hx with
  | mk _ h0 h1 h2 h3 h4 h4' h5 h5' =>
  by_cases ha : a > 65536
  ·exact ⟨-1,Ev.step (f:=fun _=>some (-1)) (fun k=>by simp only [quarryref00_leftOfValue.f];rw [if_pos ha]) (Ev.now _)⟩
  obtain ⟨t,ht⟩:=told_some (wrap64 ((x.f2.size : Int) + (x.f3.size : Int))) a b
  obtain ⟨r,hr⟩:=left_loop0 x h4 (fun a b c=>by
   obtain ⟨r,hr⟩:=left_loop1 x h4 h5 (fun y hy=>ih y (by have:=kid_lt hy;omega) (h5' y hy)) x.f5.length 0 a b c (by omega)
   exact ⟨r,Ev.step (fun k=>by simp only [quarryref00_leftOfValue.j1];rfl) hr⟩) x.f4.length 0 a b (wrap64 (c - t)) (by omega)
  refine ⟨r,Ev.step (fun k=>?_) hr⟩;simp only [quarryref00_leftOfValue.f];rw [if_neg ha,ht,Option.bind_some];rfl
theorem beyond_ev (x : S25) (hx : SZ25 x) : ∃ r,Ev (fun k=>quarryref00_BeyondValue.f k x.f0 x.f1 x.f2 x.f3 x.f4 x.f5) r:=by
 obtain ⟨r,hr⟩:=left_ev (SizeOf.sizeOf x) x (Nat.le_refl _) hx 1 0 2147483647;exact ⟨decide (r < 0),Ev.bind hr (Ev.now _)⟩
theorem small_raw (x : S25) : x.f2.size ≤ bulk25 x:=by cases x;simp only [bulk25];omega
theorem small_text (x : S25) : x.f3.size ≤ bulk25 x:=by cases x;simp only [bulk25];omega
theorem le_sum_map {α : Type} (g : α → Nat) : ∀ (l : List α) (a : α),a ∈ l → g a ≤ (l.map g).sum
 | [],a,h=>by cases h
 | b :: r,a,h=>by
  rw [List.map_cons,List.sum_cons]
  rcases List.mem_cons.1 h with rfl|h
  ·omega
  have:=le_sum_map g r a h;omega
theorem small_name (x : S25) (s : ByteArray) (h : s ∈ x.f4) : s.size ≤ bulk25 x:=by
 cases x with
 | mk f0 f1 f2 f3 f4 f5 =>
 have:=le_sum_map (fun x : ByteArray=>x.size + 1) f4 s h;simp only [bulk25];have h2 : s.size + 1 ≤ (f4.map fun x : ByteArray=>x.size + 1).sum:=this
 omega
theorem small_kid (x : S25) (y : S25) (h : y ∈ x.f5) : bulk25 y ≤ bulk25 x:=by
 cases x with
 | mk f0 f1 f2 f3 f4 f5 =>
 have:=le_sum_map bulk25 f5 y h
 rw [← bulks25_eq] at this
 show _ ≤ bulk25 (⟨f0,f1,f2,f3,f4,f5⟩ : S25)
 simp only [bulk25]
 omega
theorem small_len (x : S25) : x.f5.length ≤ bulk25 x ∧ x.f4.length ≤ bulk25 x:=by
 cases x with
 | mk f0 f1 f2 f3 f4 f5 =>
 have h1 : ∀ l : List S25,l.length ≤ bulks25 l:=by
  intro l
  induction l with
  | nil=>exact Nat.le_refl _
  | cons b r ih =>
   have hb : 1 ≤ bulk25 b:=by cases b;simp only [bulk25];omega
   rw [List.length_cons,bulks25]
   omega
 have h2 : ∀ l : List ByteArray,l.length ≤ (l.map fun x : ByteArray=>x.size + 1).sum:=by
  intro l
  induction l with
  | nil=>exact Nat.le_refl _
  | cons b r ih=>rw [List.length_cons,List.map_cons,List.sum_cons];omega
 have a:=h1 f5;have b:=h2 f4;simp only [bulk25]
 omega
end Go.Proofs.YtlgamjgdkljfiacGreatDoor.QValWritePretties
namespace Go.Proofs.YtlgamjgdkljfiacGreatDoor.QFewWritePretties
open Go.RowKit Go.Proofs.YtlgamjgdkljfiacGreatDoor.PWritePretties Go.Proofs.YtlgamjgdkljfiacGreatDoorW.PrintWords Go.Proofs.YtlgamjgdkljfiacGreatDoorW.PrintLast Go.Proofs.YtlgamjgdkljfiacGreatDoor.QValWritePretties
set_option linter.unusedVariables false
set_option linter.unusedSimpArgs false
theorem bulk_eq (x : S25) : bulk25 x = 7 + x.f2.size + x.f3.size + (x.f4.map fun x : ByteArray=>x.size + 1).sum + bulks25 x.f5:=by
 cases x;simp only [bulk25];omega
theorem bulks_cons (y : S25) (l : List S25) : bulks25 (y :: l) = bulk25 y + bulks25 l:=rfl
theorem bulks_app (l m : List S25) : bulks25 (l ++ m) = bulks25 l + bulks25 m:=by
 rw [bulks25_eq,bulks25_eq,bulks25_eq,List.map_append,List.sum_append]
theorem bulk_pos (y : S25) : 7 ≤ bulk25 y:=by rw [bulk_eq];omega
theorem bulks_len : ∀ l : List S25,7 * l.length ≤ bulks25 l
 | []=>by simp
 | y :: l=>by
  have h1:=bulk_pos y;have h2:=bulks_len l;rw [bulks_cons,List.length_cons]
  omega
theorem sum_take_le : ∀ (l : List ByteArray) (m : Nat),((l.take m).map fun x : ByteArray=>x.size + 1).sum ≤ (l.map fun x : ByteArray=>x.size + 1).sum
 | [],m=>by simp
 | s :: l,0=>by simp
 | s :: l,m + 1=>by
  have h:=sum_take_le l m;rw [List.take_succ_cons,List.map_cons,List.map_cons,List.sum_cons,List.sum_cons]
  omega
theorem drop_rd (l : List S25) (i : Nat) (h : i < l.length) : l.drop i = rd_T25 l (i : Int) :: l.drop (i + 1):=by
 unfold rd_T25
 rw [Int.toNat_natCast,List.getD_eq_getElem?_getD,List.getElem?_eq_getElem h,Option.getD_some];exact List.drop_eq_getElem_cons h
def withL (x : S25) (l4 : List ByteArray) (l5 : List S25) : S25:=⟨x.f0,x.f1,x.f2,x.f3,l4,l5⟩
theorem withL_ok (x : S25) (hx : SZ25 x) (hs : bulk25 x ≤ 1048576) (m : Nat) (acc : List S25) (ha : ∀ z ∈ acc,SZ25 z) (hb : bulks25 acc ≤ bulks25 x.f5) : SZ25 (withL x (x.f4.take m) acc) ∧ bulk25 (withL x (x.f4.take m) acc) ≤ bulk25 x:=by
 have e1:=bulk_eq x;have e2:=bulk_eq (withL x (x.f4.take m) acc);have e3:=sum_take_le x.f4 m;have e4:=bulks_len acc
 have e5 : bulk25 (withL x (x.f4.take m) acc) ≤ bulk25 x:=by
  rw [e1,e2]
  show 7 + x.f2.size + x.f3.size + ((x.f4.take m).map fun x : ByteArray=>x.size + 1).sum + bulks25 acc ≤ _
  omega
 refine ⟨?_,e5⟩
 cases hx with
 | mk _ h0 h1 h2 h3 h4 h4' h5 h5' =>
 refine SZ25.mk _ h0 h1 h2 h3 ?_ (fun y hy=>h4' y (List.mem_of_mem_take hy)) ?_ ha
 ·show (x.f4.take m).length * 16 ≤ _
  have:=List.length_take_le' m x.f4
  omega
 show acc.length * 96 ≤ _
 omega
theorem few_end (x : S25) (hs : bulk25 x ≤ 1048576) (left : Int) (acc : List S25) (i : Nat) (h : ¬ ((i : Int) < (x.f5.length : Int)) ∨ ¬ left > 0) : ∃ m,Ev (fun k=>quarryref00_fewValue.l0 k left acc (i : Int) x.f0 x.f1 x.f2 x.f3 x.f4 x.f5) (x.f0,x.f1,x.f2,x.f3,x.f4.take m,acc,left):=by
 have hl4:=(small_len x).2
 have tl : ∀ n : Nat,([] : List ByteArray).length + (x.f4.take n).length < 8796093022208:=by
  intro n;have:=List.length_take_le' n x.f4;rw [List.length_nil];omega
 have t0 : 0 ≤ mn (x.f4.length : Int) (acc.length : Int):=by unfold mn;split <;> omega
 have t1 : mn (x.f4.length : Int) (acc.length : Int) ≤ (x.f4.length : Int):=by unfold mn;split <;> omega
 by_cases h1 : (acc.length : Int) < (x.f5.length : Int)
 ·refine ⟨(mn (x.f4.length : Int) (acc.length : Int)).toNat,Ev.step (f:=fun _=>some _) (fun k=>?_) (Ev.now _)⟩;rw [quarryref00_fewValue.l0]
  rcases h with h|h
  ·rw [if_neg h,if_pos h1,if_pos t0,if_pos t1,if_pos (tl _),List.nil_append]
  by_cases h2 : (i : Int) < (x.f5.length : Int)
  ·rw [if_pos h2,if_neg h,if_pos h1,if_pos t0,if_pos t1,if_pos (tl _),List.nil_append]
  rw [if_neg h2,if_pos h1,if_pos t0,if_pos t1,if_pos (tl _),List.nil_append]
 by_cases h3 : (x.f4.length : Int) > wrap64 ((acc.length : Int) + left)
 ·refine ⟨(mn (x.f4.length : Int) (acc.length : Int)).toNat,Ev.step (f:=fun _=>some _) (fun k=>?_) (Ev.now _)⟩;rw [quarryref00_fewValue.l0]
  rcases h with h|h
  ·rw [if_neg h,if_neg h1,if_pos h3,if_pos t0,if_pos t1,if_pos (tl _),List.nil_append]
  by_cases h2 : (i : Int) < (x.f5.length : Int)
  ·rw [if_pos h2,if_neg h,if_neg h1,if_pos h3,if_pos t0,if_pos t1,if_pos (tl _),List.nil_append]
  rw [if_neg h2,if_neg h1,if_pos h3,if_pos t0,if_pos t1,if_pos (tl _),List.nil_append]
 refine ⟨((x.f4.length : Nat) : Int).toNat,Ev.step (f:=fun _=>some _) (fun k=>?_) (Ev.now _)⟩
 have t2 : (0 : Int) ≤ (x.f4.length : Int):=by omega
 rw [quarryref00_fewValue.l0]
 rcases h with h|h
 ·rw [if_neg h,if_neg h1,if_neg h3,if_pos t2,if_pos (Int.le_refl _),if_pos (tl _),List.nil_append]
 by_cases h2 : (i : Int) < (x.f5.length : Int)
 ·rw [if_pos h2,if_neg h,if_neg h1,if_neg h3,if_pos t2,if_pos (Int.le_refl _),if_pos (tl _),List.nil_append]
 rw [if_neg h2,if_neg h1,if_neg h3,if_pos t2,if_pos (Int.le_refl _),if_pos (tl _),List.nil_append]
theorem few_loop (x : S25) (hx : SZ25 x) (hs : bulk25 x ≤ 1048576)
  (hk : ∀ z ∈ x.f5,∀ left : Int,∃ (y : S25) (r : Int),Ev (fun k=>quarryref00_fewValue.f k z.f0 z.f1 z.f2 z.f3 z.f4 z.f5 left) (y.f0,y.f1,y.f2,y.f3,y.f4,y.f5,r) ∧ SZ25 y ∧ bulk25 y ≤ bulk25 z) :
  ∀ (d i : Nat) (left : Int) (acc : List S25),i + d = x.f5.length → (∀ z ∈ acc,SZ25 z) → bulks25 acc + bulks25 (x.f5.drop i) ≤ bulks25 x.f5 →
   ∃ (y : S25) (r : Int),Ev (fun k=>quarryref00_fewValue.l0 k left acc (i : Int) x.f0 x.f1 x.f2 x.f3 x.f4 x.f5) (y.f0,y.f1,y.f2,y.f3,y.f4,y.f5,r) ∧ SZ25 y ∧ bulk25 y ≤ bulk25 x
 | 0,i,left,acc,hd,ha,hb=>by
  obtain ⟨m,hm⟩:=few_end x hs left acc i (.inl (by omega));obtain ⟨w1,w2⟩:=withL_ok x hx hs m acc ha (by omega);exact ⟨withL x (x.f4.take m) acc,left,hm,w1,w2⟩
 | d + 1,i,left,acc,hd,ha,hb=>by
  have hlt : i < x.f5.length:=by omega
  by_cases hl : left > 0
  ·obtain ⟨y,r,h1,h2,h3⟩:=hk _ (rd_mem x.f5 i hlt) (wrap64 (left - 1));have hb2:=hb
   rw [drop_rd x.f5 i hlt,bulks_cons] at hb2
   have e1:=bulk_eq x;have e4:=bulks_len acc;have hl5:=(small_len x).1
   obtain ⟨y2,r2,g1,g2,g3⟩:=few_loop x hx hs hk d (i + 1) r (acc ++ [⟨y.f0,y.f1,y.f2,y.f3,y.f4,y.f5⟩]) (by omega) (by
    intro z hz
    rcases List.mem_append.mp hz with hz|hz
    ·exact ha z hz
    ·rw [List.mem_singleton] at hz;rw [hz,eta_];exact h2) (by
    rw [bulks_app,eta_]
    show bulks25 acc + (bulk25 y + 0) + _ ≤ _
    omega)
   refine ⟨y2,r2,Ev.step (fun k=>?_) (Ev.bind (f:=fun k bt=>if acc.length < 1466015503701 then (quarryref00_fewValue.l0 k bt.2.2.2.2.2.2 (acc ++ [(⟨bt.1,bt.2.1,bt.2.2.1,bt.2.2.2.1,bt.2.2.2.2.1,bt.2.2.2.2.2.1⟩ : S25)]) ((i + 1 : Nat) : Int) x.f0 x.f1 x.f2 x.f3 x.f4 x.f5) else none) h1 (Ev.congr (fun k=>if_pos (by omega)) g1)),g2,g3⟩;rw [quarryref00_fewValue.l0,if_pos (by omega),if_pos hl,if_pos (by omega),w64s i (by omega)]
  obtain ⟨m,hm⟩:=few_end x hs left acc i (.inr hl);obtain ⟨w1,w2⟩:=withL_ok x hx hs m acc ha (by omega);exact ⟨withL x (x.f4.take m) acc,left,hm,w1,w2⟩
theorem few_ev (n : Nat) : ∀ (x : S25),SizeOf.sizeOf x ≤ n → SZ25 x → bulk25 x ≤ 1048576 → ∀ left : Int,∃ (y : S25) (r : Int),Ev (fun k=>quarryref00_fewValue.f k x.f0 x.f1 x.f2 x.f3 x.f4 x.f5 left) (y.f0,y.f1,y.f2,y.f3,y.f4,y.f5,r) ∧ SZ25 y ∧ bulk25 y ≤ bulk25 x:=by
 induction n with
 | zero=>intro x hn;cases x;simp at hn
 | succ n ih =>
  intro x hn hx hs left
  have hk5 : ∀ y ∈ x.f5,SZ25 y:=by cases hx with|mk _ h0 h1 h2 h3 h4 h4' h5 h5'=>exact h5'
  obtain ⟨y,r,h1,h2,h3⟩:=few_loop x hx hs (fun z hz=>ih z (by have:=kid_lt hz;omega) (hk5 z hz) (Nat.le_trans (small_kid x z hz) hs)) x.f5.length 0 left [] (by omega) (by intro z hz;cases hz) (by simp [bulks25]);exact ⟨y,r,Ev.step (fun k=>by rw [quarryref00_fewValue.f];rfl) h1,h2,h3⟩
theorem Few_ev (x : S25) (hx : SZ25 x) (hs : bulk25 x ≤ 1048576) (n : Int) : ∃ y : S25,Ev (fun k=>quarryref00_FewValue.f k x.f0 x.f1 x.f2 x.f3 x.f4 x.f5 n) (y.f0,y.f1,y.f2,y.f3,y.f4,y.f5) ∧ SZ25 y ∧ bulk25 y ≤ bulk25 x:=by
 obtain ⟨y,r,h1,h2,h3⟩:=few_ev (SizeOf.sizeOf x) x (Nat.le_refl _) hx hs (wrap64 (n - 1));exact ⟨y,Ev.congr (fun k=>by rw [quarryref00_FewValue.f]) (Ev.bind (f:=fun _ bt=>some (bt.1,bt.2.1,bt.2.2.1,bt.2.2.2.1,bt.2.2.2.2.1,bt.2.2.2.2.2.1)) h1 (Ev.now _)),h2,h3⟩
theorem texts_loop (l : List ByteArray) (hl : l.length ≤ 1048576) : ∀ (d i : Nat),i + d = l.length → Ev (fun k=>quarryref00_CopyTexts.l0 k l (l.take i) (i : Int)) l
 | 0,i,hd=>by
  refine Ev.step (f:=fun _=>some l) (fun k=>?_) (Ev.now _);rw [quarryref00_CopyTexts.l0,if_neg (by omega),List.take_of_length_le (by omega)]
 | d + 1,i,hd=>by
  have hlt : i < l.length:=by omega
  have hrd : rdOf ByteArray.empty l (i : Int) = l[i]:=by unfold rdOf;simp [hlt]
  refine Ev.step (fun k=>?_) (texts_loop l hl d (i + 1) (by omega));rw [quarryref00_CopyTexts.l0,if_pos (by omega),if_pos (by omega),if_pos (by rw [List.length_take];omega),hrd,w64s i (by omega),List.take_succ_eq_append_getElem hlt]
theorem texts_ev (l : List ByteArray) (hl : l.length ≤ 1048576) : Ev (fun k=>quarryref00_CopyTexts.f k l) l:=by
 have h:=texts_loop l hl l.length 0 (by omega);exact Ev.congr (fun k=>by rw [quarryref00_CopyTexts.f];rfl) h
theorem copy_loop (x : S25) (hs : bulk25 x ≤ 1048576) (hk : ∀ z ∈ x.f5,Ev (fun k=>quarryref00_CopyValue.f k z.f0 z.f1 z.f2 z.f3 z.f4 z.f5) (z.f0,z.f1,z.f2,z.f3,z.f4,z.f5)) :
  ∀ (d i : Nat),i + d = x.f5.length → Ev (fun k=>quarryref00_CopyValue.l0 k (i : Int) x.f0 x.f1 x.f2 x.f3 x.f4 x.f5 x.f0 x.f1 x.f2 x.f3 x.f4 (x.f5.take i)) (x.f0,x.f1,x.f2,x.f3,x.f4,x.f5)
 | 0,i,hd=>by
  refine Ev.step (f:=fun _=>some (x.f0,x.f1,x.f2,x.f3,x.f4,x.f5)) (fun k=>?_) (Ev.now _);rw [quarryref00_CopyValue.l0,if_neg (by omega),List.take_of_length_le (by omega)]
 | d + 1,i,hd=>by
  have hlt : i < x.f5.length:=by omega
  have hl:=(small_len x).1;have ih:=copy_loop x hs hk d (i + 1) (by omega);refine Ev.step (fun k=>?_) (Ev.bind (f:=fun k bt=>if (x.f5.take i).length < 1466015503701 then (quarryref00_CopyValue.l0 k ((i + 1 : Nat) : Int) x.f0 x.f1 x.f2 x.f3 x.f4 x.f5 x.f0 x.f1 x.f2 x.f3 x.f4 (x.f5.take i ++ [(⟨bt.1,bt.2.1,bt.2.2.1,bt.2.2.2.1,bt.2.2.2.2.1,bt.2.2.2.2.2⟩ : S25)])) else none) (hk _ (rd_mem x.f5 i hlt)) (Ev.congr (fun k=>?_) ih))
  ·rw [quarryref00_CopyValue.l0,if_pos (by omega),if_pos (by omega),w64s i (by omega)]
  simp only;rw [if_pos (by rw [List.length_take];omega),eta_,take_rd x.f5 i hlt]
theorem copy_ev (n : Nat) : ∀ (x : S25),SizeOf.sizeOf x ≤ n → bulk25 x ≤ 1048576 → Ev (fun k=>quarryref00_CopyValue.f k x.f0 x.f1 x.f2 x.f3 x.f4 x.f5) (x.f0,x.f1,x.f2,x.f3,x.f4,x.f5):=by
 induction n with
 | zero=>intro x hn;cases x;simp at hn
 | succ n ih =>
  intro x hn hs;have h:=copy_loop x hs (fun z hz=>ih z (by have:=kid_lt hz;omega) (Nat.le_trans (small_kid x z hz) hs)) x.f5.length 0 (by omega);have hl:=(small_len x).2;refine Ev.step (fun k=>by rw [quarryref00_CopyValue.f]) (Ev.bind (f:=fun k t=>quarryref00_CopyValue.l0 k 0 x.f0 x.f1 x.f2 x.f3 x.f4 x.f5 x.f0 x.f1 x.f2 x.f3 t ([] : List S25)) (texts_ev x.f4 (by omega)) h)
theorem Copy_ev (x : S25) (hs : bulk25 x ≤ 1048576) : Ev (fun k=>quarryref00_CopyValue.f k x.f0 x.f1 x.f2 x.f3 x.f4 x.f5) (x.f0,x.f1,x.f2,x.f3,x.f4,x.f5):=copy_ev _ x (Nat.le_refl _) hs
end Go.Proofs.YtlgamjgdkljfiacGreatDoor.QFewWritePretties
namespace Go.Proofs.YtlgamjgdkljfiacGreatDoor.QDecWritePretties
open Go.RowKit Go.Proofs.YtlgamjgdkljfiacGreatDoor.PWritePretties Go.Proofs.YtlgamjgdkljfiacGreatDoorW.PrintWords Go.Proofs.YtlgamjgdkljfiacGreatDoorW.PrintLast
set_option linter.unusedVariables false
set_option linter.unusedSimpArgs false
theorem w64 (n : Int) (h : -9223372036854775808 ≤ n) (h2 : n ≤ 9223372036854775807) : wrap64 n = n:=by unfold wrap64;omega
theorem w64s (i : Nat) (h : i ≤ 140737488351232) : wrap64 ((i : Int) + 1) = ((i + 1 : Nat) : Int):=by unfold wrap64;omega
abbrev lft (s : ByteArray) (i : Nat) : List UInt8:=s.data.toList.drop i
theorem lft_cons (s : ByteArray) (i : Nat) (h : i < s.size) : lft s i = s[i] :: lft s (i + 1):=rd_get s i h
theorem lft_nil (s : ByteArray) (i : Nat) (h : ¬ i < s.size) : lft s i = []:=rd_none s i h
theorem lft_len (s : ByteArray) (i : Nat) : (lft s i).length = s.size - i:=by rw [lft,List.length_drop,data_length]
theorem bt_get (s : ByteArray) (i : Nat) (h : i < s.size) : bt s (i : Int) = (s[i].toNat : Int):=by
 unfold bt
 rw [dif_pos (by rw [Int.toNat_natCast];exact h)]
 simp
theorem lft_lt (s : ByteArray) (i : Nat) (c : UInt8) (r : List UInt8) (h : lft s i = c :: r) : i < s.size:=by
 rcases Nat.lt_or_ge i s.size with hl|hl
 ·exact hl
 rw [lft_nil s i (by omega)] at h;cases h
theorem lft_step (s : ByteArray) (i : Nat) (c : UInt8) (r : List UInt8) (h : lft s i = c :: r) : i < s.size ∧ bt s (i : Int) = (c.toNat : Int) ∧ lft s (i + 1) = r:=by
 have hl:=lft_lt s i c r h
 rw [lft_cons s i hl] at h
 injection h with h1 h2
 exact ⟨hl,by rw [bt_get s i hl,h1],h2⟩
theorem lft_add (s : ByteArray) (i n : Nat) : lft s (i + n) = (lft s i).drop n:=by rw [lft,lft,List.drop_drop]
theorem extract_lft (s : ByteArray) (i n : Nat) : s.extract i (i + n) = ⟨((lft s i).take n).toArray⟩:=by
 apply ByteArray.ext
 apply Array.ext'
 rw [ByteArray.data_extract,Array.toList_extract,lft]
 simp
theorem digit_some (s : ByteArray) (i : Nat) : quarryref11_digit.f s (i : Int) = some (match lft s i with|[]=>false|c :: _=>rdD c):=by
 unfold quarryref11_digit.f
 by_cases h : i < s.size
 ·rw [if_pos (by omega),if_pos (by omega),bt_get s i h,lft_cons s i h];simp only
  unfold rdD
  by_cases h2 : (48 : Int) ≤ (s[i].toNat : Int)
  ·rw [if_pos h2]
   congr 1
   rw [decide_eq_decide]
   omega
  rw [if_neg h2]
  congr 1
  rw [eq_comm,decide_eq_false_iff_not]
  omega
 rw [if_neg (by omega),lft_nil s i h]
theorem is_some (s : ByteArray) (i : Nat) (a b : UInt8) : quarryref11_is.f s (i : Int) (a.toNat : Int) (b.toNat : Int) = some (match lft s i with|[]=>false|c :: _=>decide (c = a ∨ c = b)):=by
 unfold quarryref11_is.f
 by_cases h : i < s.size
 ·rw [if_pos (by omega),if_pos (by omega),bt_get s i h,lft_cons s i h];simp only
  by_cases h2 : s[i] = a
  ·rw [if_pos (by rw [h2])]
   simp [h2]
  rw [if_neg (fun e=>h2 (UInt8.toNat_inj.mp (by omega)))]
  congr 1
  by_cases h3 : s[i] = b
  ·simp [h3]
  have : ¬ (s[i].toNat : Int) = (b.toNat : Int):=fun e=>h3 (UInt8.toNat_inj.mp (by omega))
  simp [h2,h3,this]
 rw [if_neg (by omega),lft_nil s i h]
def dgs (l : List UInt8) : List UInt8:=l.takeWhile rdD
def dgr (l : List UInt8) : List UInt8:=l.dropWhile rdD
theorem dgs_nil : dgs [] = []:=rfl
theorem dgs_cons (c : UInt8) (r : List UInt8) : dgs (c :: r) = if rdD c = true then c :: dgs r else []:=by unfold dgs;rw [List.takeWhile_cons];try rfl
theorem dgr_cons (c : UInt8) (r : List UInt8) : dgr (c :: r) = if rdD c = true then dgr r else c :: r:=by unfold dgr;rw [List.dropWhile_cons];try rfl
theorem dg_len (l : List UInt8) : (dgs l).length + (dgr l).length = l.length:=by
 have:=congrArg List.length (List.takeWhile_append_dropWhile (p:=rdD) (l:=l))
 rw [List.length_append] at this
 exact this
theorem dgs_take : ∀ l : List UInt8,l.take (dgs l).length = dgs l
 | []=>rfl
 | c :: r=>by
  rw [dgs_cons]
  split
  ·rw [List.length_cons,List.take_succ_cons,dgs_take r]
  rfl
theorem dgr_drop : ∀ l : List UInt8,l.drop (dgs l).length = dgr l
 | []=>rfl
 | c :: r=>by
  rw [dgs_cons,dgr_cons]
  split
  ·rw [List.length_cons,List.drop_succ_cons,dgr_drop r]
  rfl
theorem digits_ev (s : ByteArray) (hs : s.size ≤ 1099511627776) : ∀ (d i : Nat),s.size - i = d → i ≤ s.size + 1 → Ev (fun k=>quarryref11_digits.l0 k s (i : Int)) (((i + (dgs (lft s i)).length : Nat)) : Int)
 | 0,i,hd,hi=>by
  have hn : lft s i = []:=lft_nil s i (by omega);refine Ev.step (f:=fun _=>some (((i + (dgs (lft s i)).length : Nat)) : Int)) (fun k=>?_) (Ev.now _);rw [quarryref11_digits.l0,digit_some,hn];rfl
 | d + 1,i,hd,hi=>by
  have hlt : i < s.size:=by omega
  have hc:=lft_cons s i hlt
  cases hdd : rdD s[i] with
  | true =>
   have ih:=digits_ev s hs d (i + 1) (by omega) (by omega)
   have e : i + (dgs (lft s i)).length = i + 1 + (dgs (lft s (i + 1))).length:=by rw [hc,dgs_cons,if_pos hdd,List.length_cons];omega
   rw [e];refine Ev.step (fun k=>?_) ih;rw [quarryref11_digits.l0,digit_some,hc,Option.bind_some];simp only [hdd];rw [if_pos trivial,w64s i (by omega)]
  | false =>
   have e : i + (dgs (lft s i)).length = i:=by rw [hc,dgs_cons,if_neg (by rw [hdd];decide)];rfl
   rw [e];refine Ev.step (f:=fun _=>some (i : Int)) (fun k=>?_) (Ev.now _);rw [quarryref11_digits.l0,digit_some,hc,Option.bind_some];simp only [hdd];rw [if_neg (by decide)]
theorem digits_f (s : ByteArray) (hs : s.size ≤ 1099511627776) (i : Nat) (hi : i ≤ s.size + 1) : Ev (fun k=>quarryref11_digits.f k s (i : Int)) (((i + (dgs (lft s i)).length : Nat)) : Int):=digits_ev s hs _ i rfl hi
def expV (l : List UInt8) : List UInt8 × List UInt8 × Bool :=
 match l with
 | []=>([],[],true)
 | c :: r=>if c = 101 ∨ c = 69 then
   match r with
   | []=>([],[],false)
   | q :: t=>if q = 43 ∨ q = 45 then (if dgs t = [] then ([],t,false) else (q :: dgs t,dgr t,true)) else (if dgs (q :: t) = [] then ([],q :: t,false) else (dgs (q :: t),dgr (q :: t),true))
  else ([],c :: r,true)
def pointV (W l : List UInt8) : List UInt8 × List UInt8 × List UInt8 × List UInt8 × Bool :=
 match l with
 | []=>(W,[],expV [])
 | c :: r=>if c = 46 then (if dgs r = [] then (W,[],[],r,false) else (W,dgs r,expV (dgr r))) else (W,[],expV (c :: r))
def wholeV (l : List UInt8) : List UInt8 × List UInt8 × List UInt8 × List UInt8 × Bool :=
 match l with
 | []=>([],[],[],[],false)
 | d :: r=>if rdD d = true then (if d = 48 then pointV [d] r else pointV (d :: dgs r) (dgr r)) else ([],[],[],d :: r,false)
def scanV (l : List UInt8) : Bool × List UInt8 × List UInt8 × List UInt8 × List UInt8 × Bool :=
 match l with
 | []=>(false,wholeV [])
 | c :: r=>if c = 45 then (true,wholeV r) else (false,wholeV (c :: r))
abbrev B (l : List UInt8) : ByteArray:=⟨l.toArray⟩
abbrev fin (s : ByteArray) (l : List UInt8) : Int:=(s.size : Int) - (l.length : Int)
theorem fin_lft (s : ByteArray) (i : Nat) (h : i ≤ s.size) : fin s (lft s i) = (i : Int):=by unfold fin;rw [lft_len];omega
theorem dgr_lft (s : ByteArray) (i : Nat) : dgr (lft s i) = lft s (i + (dgs (lft s i)).length):=by rw [lft_add,dgr_drop]
theorem dgs_le (s : ByteArray) (i : Nat) (h : i ≤ s.size) : i + (dgs (lft s i)).length ≤ s.size:=by have:=dg_len (lft s i);rw [lft_len] at this;omega
theorem extract_dgs (s : ByteArray) (i : Nat) : s.extract i (i + (dgs (lft s i)).length) = B (dgs (lft s i)):=by rw [extract_lft,dgs_take]
theorem dgs_nil_len (l : List UInt8) : (dgs l = []) ↔ (dgs l).length = 0:=by rw [List.length_eq_zero_iff]
theorem expV_cons (c : UInt8) (r : List UInt8) : expV (c :: r) = if c = 101 ∨ c = 69 then (match r with|[]=>([],[],false)|q :: t=>if q = 43 ∨ q = 45 then (if dgs t = [] then ([],t,false) else (q :: dgs t,dgr t,true)) else (if dgs (q :: t) = [] then ([],q :: t,false) else (dgs (q :: t),dgr (q :: t),true))) else ([],c :: r,true):=rfl
theorem tail_ev (s : ByteArray) (hs : s.size ≤ 1099511627776) (i1 j : Nat) (hij : i1 ≤ j) (hj : j ≤ s.size) (neg : Bool) (W Bl : ByteArray) :
  Ev (fun k=>(quarryref11_digits.f k s (j : Int)).bind fun t=>(if t = (j : Int) then (some (neg,W,Bl,B [],t,false)) else (if 0 ≤ (i1 : Int) then (if (i1 : Int) ≤ t then (if t ≤ (s.size : Int) then (some (neg,W,Bl,s.extract (i1 : Int).toNat (t : Int).toNat,t,true)) else (none)) else (none)) else (none))))
   (if dgs (lft s j) = [] then (neg,W,Bl,B [],(j : Int),false) else (neg,W,Bl,s.extract i1 (j + (dgs (lft s j)).length),((j + (dgs (lft s j)).length : Nat) : Int),true)):=by
 refine Ev.bind (f:=fun _ t=>_) (digits_f s hs j (by omega)) ?_
 by_cases h : dgs (lft s j) = []
 ·rw [if_pos h,if_pos (by rw [h];rfl)]
  have e : ((j + (dgs (lft s j)).length : Nat) : Int) = (j : Int):=by rw [h];rfl
  rw [e];exact Ev.now _
 have hl : (dgs (lft s j)).length ≠ 0:=fun e=>h ((dgs_nil_len _).mpr e)
 have hle:=dgs_le s j hj;rw [if_neg h,if_neg (by omega),if_pos (by omega),if_pos (by omega),if_pos (by omega),Int.toNat_natCast,Int.toNat_natCast];exact Ev.now _
theorem exp_ev (s : ByteArray) (hs : s.size ≤ 1099511627776) (i : Nat) (hi : i ≤ s.size) (neg : Bool) (W Bl : ByteArray) :
  Ev (fun k=>quarryref11_scan.j2 k s (i : Int) neg W Bl (B [])) (neg,W,Bl,B (expV (lft s i)).1,fin s (expV (lft s i)).2.1,(expV (lft s i)).2.2):=by
 have h101 : ((101 : UInt8).toNat : Int) = 101:=rfl;have h69 : ((69 : UInt8).toNat : Int) = 69:=rfl;have h43 : ((43 : UInt8).toNat : Int) = 43:=rfl;have h45 : ((45 : UInt8).toNat : Int) = 45:=rfl;have hisE:=is_some s i 101 69
 rw [h101,h69] at hisE
 cases hl : lft s i with
 | nil =>
  rw [hl] at hisE
  refine Ev.step (f:=fun _=>some _) (fun k=>?_) (Ev.now _);rw [quarryref11_scan.j2,hisE,Option.bind_some];simp only;rw [if_neg (by decide)]
  have : fin s (expV []).2.1 = (i : Int):=by rw [← fin_lft s i hi,hl];rfl
  rw [this];rfl
 | cons c r =>
  obtain ⟨hlt,hbt,hr⟩:=lft_step s i c r hl
  rw [hl] at hisE
  simp only at hisE
  rw [expV_cons]
  by_cases hc : c = 101 ∨ c = 69
  ·rw [decide_eq_true hc] at hisE
   rw [if_pos hc];have hisS:=is_some s (i + 1) 43 45
   rw [h43,h45,hr] at hisS
   have w1 : wrap64 ((i : Int) + 1) = ((i + 1 : Nat) : Int):=w64s i (by omega);have w2 : wrap64 (((i + 1 : Nat) : Int) + 1) = ((i + 2 : Nat) : Int):=w64s (i + 1) (by omega);have ht1:=tail_ev s hs (i + 1) (i + 1) (Nat.le_refl _) (by omega) neg W Bl
   have nosign : (∀ q t,r = q :: t → ¬ (q = 43 ∨ q = 45)) → Ev (fun k=>quarryref11_scan.j2 k s (i : Int) neg W Bl (B [])) (if dgs (lft s (i + 1)) = [] then (neg,W,Bl,B [],((i + 1 : Nat) : Int),false) else (neg,W,Bl,s.extract (i + 1) (i + 1 + (dgs (lft s (i + 1))).length),((i + 1 + (dgs (lft s (i + 1))).length : Nat) : Int),true)):=by
    intro hq
    have hisF : quarryref11_is.f s ((i + 1 : Nat) : Int) 43 45 = some false:=by
     rw [hisS]
     cases r with
     | nil=>rfl
     | cons q t=>simp only;rw [decide_eq_false (hq q t rfl)]
    refine Ev.step (fun k=>?_) ht1;rw [quarryref11_scan.j2,hisE,Option.bind_some,if_pos rfl,w1,hisF,Option.bind_some,if_neg (by decide)]
   cases hr2 : r with
   | nil =>
    have h:=nosign (fun q t e=>by rw [hr2] at e;cases e)
    rw [hr,hr2,if_pos dgs_nil] at h
    have e0 : fin s [] = ((i + 1 : Nat) : Int):=by rw [← hr2,← hr,fin_lft s (i + 1) (by omega)]
    simp only;rw [e0];exact h
   | cons q t =>
    rw [hr2] at hr
    obtain ⟨hlt2,_,hr3⟩:=lft_step s (i + 1) q t hr;simp only
    by_cases hq : q = 43 ∨ q = 45
    ·rw [if_pos hq]
     have hisT : quarryref11_is.f s ((i + 1 : Nat) : Int) 43 45 = some true:=by rw [hisS,hr2];simp only;rw [decide_eq_true hq]
     have ht2:=tail_ev s hs (i + 1) (i + 2) (by omega) (by omega) neg W Bl
     have h : Ev (fun k=>quarryref11_scan.j2 k s (i : Int) neg W Bl (B [])) _:=Ev.step (fun k=>by
      rw [quarryref11_scan.j2,hisE,Option.bind_some,if_pos rfl,w1,hisT,Option.bind_some,if_pos rfl,w2]) ht2
     rw [show lft s (i + 2) = t from hr3] at h
     by_cases hd : dgs t = []
     ·rw [if_pos hd] at h ⊢
      have e0 : fin s t = ((i + 2 : Nat) : Int):=by rw [← hr3,fin_lft s (i + 2) (by omega)]
      simp only;rw [e0];exact h
     rw [if_neg hd] at h ⊢
     have e0 : fin s (dgr t) = ((i + 2 + (dgs t).length : Nat) : Int):=by
      have:=dgs_le s (i + 2) (by omega)
      rw [show lft s (i + 2) = t from hr3] at this
      rw [← show lft s (i + 2) = t from hr3,dgr_lft,fin_lft _ _ (by rw [show lft s (i + 2) = t from hr3];exact this)]
     have e1 : s.extract (i + 1) (i + 2 + (dgs t).length) = B (q :: dgs t):=by
      have:=extract_lft s (i + 1) ((dgs t).length + 1)
      rw [hr,List.take_succ_cons,dgs_take] at this
      rw [show i + 1 + ((dgs t).length + 1) = i + 2 + (dgs t).length from by omega] at this
      exact this
     simp only;rw [e0,← e1];exact h
    rw [if_neg hq];have h:=nosign (fun q' t' e=>by rw [hr2] at e;injection e with e1 e2;rw [← e1];exact hq)
    rw [hr] at h
    by_cases hd : dgs (q :: t) = []
    ·rw [if_pos hd] at h ⊢
     have e0 : fin s (q :: t) = ((i + 1 : Nat) : Int):=by rw [← hr,fin_lft s (i + 1) (by omega)]
     simp only;rw [e0];exact h
    rw [if_neg hd] at h ⊢
    have e0 : fin s (dgr (q :: t)) = ((i + 1 + (dgs (q :: t)).length : Nat) : Int):=by
     have:=dgs_le s (i + 1) (by omega);rw [← hr,dgr_lft,fin_lft _ _ this]
    have e1 : s.extract (i + 1) (i + 1 + (dgs (q :: t)).length) = B (dgs (q :: t)):=by
     have:=extract_dgs s (i + 1)
     rw [hr] at this
     exact this
    simp only;rw [e0,← e1];exact h
  rw [decide_eq_false hc] at hisE
  rw [if_neg hc];refine Ev.step (f:=fun _=>some _) (fun k=>?_) (Ev.now _);rw [quarryref11_scan.j2,hisE,Option.bind_some,if_neg (by decide)];simp only;rw [← hl,fin_lft s i hi]
theorem point_ev (s : ByteArray) (hs : s.size ≤ 1099511627776) (a i : Nat) (hai : a ≤ i) (hi : i ≤ s.size) (neg : Bool) (W : List UInt8) (hW : s.extract a i = B W) :
  Ev (fun k=>quarryref11_scan.j1 k s (a : Int) (i : Int) neg (B []) (B []) (B [])) (neg,B (pointV W (lft s i)).1,B (pointV W (lft s i)).2.1,B (pointV W (lft s i)).2.2.1,fin s (pointV W (lft s i)).2.2.2.1,(pointV W (lft s i)).2.2.2.2):=by
 have h46 : ((46 : UInt8).toNat : Int) = 46:=rfl;have his:=is_some s i 46 46
 rw [h46] at his
 have w1 : wrap64 ((i : Int) + 1) = ((i + 1 : Nat) : Int):=w64s i (by omega);have hex:=exp_ev s hs i hi neg (B W) (B [])
 have nodot : (∀ c r,lft s i = c :: r → ¬ c = 46) → Ev (fun k=>quarryref11_scan.j1 k s (a : Int) (i : Int) neg (B []) (B []) (B [])) (neg,B W,B [],B (expV (lft s i)).1,fin s (expV (lft s i)).2.1,(expV (lft s i)).2.2):=by
  intro hq
  have hisF : quarryref11_is.f s (i : Int) 46 46 = some false:=by
   rw [his]
   cases hl : lft s i with
   | nil=>rfl
   | cons c r=>simp only;rw [decide_eq_false (fun h=>hq c r hl (h.elim id id))]
  refine Ev.step (fun k=>?_) hex;rw [quarryref11_scan.j1,if_pos (by omega),if_pos (by omega),if_pos (by omega),hisF,Option.bind_some,if_neg (by decide),Int.toNat_natCast,Int.toNat_natCast,hW]
 cases hl : lft s i with
 | nil =>
  have h:=nodot (fun c r e=>by rw [hl] at e;cases e)
  rw [hl] at h
  exact h
 | cons c r =>
  obtain ⟨hlt,hbt,hr⟩:=lft_step s i c r hl
  by_cases hc : c = 46
  ·have hisT : quarryref11_is.f s (i : Int) 46 46 = some true:=by rw [his,hl];simp only;rw [decide_eq_true (.inl hc)]
   have hd:=digits_f s hs (i + 1) (by omega)
   have eP : pointV W (c :: r) = if dgs r = [] then (W,[],[],r,false) else (W,dgs r,expV (dgr r)):=by unfold pointV;simp only;rw [if_pos hc]
   rw [hr] at hd
   rw [eP];have hle:=dgs_le s (i + 1) (by omega)
   rw [hr] at hle
   refine Ev.step (f:=fun k=>(quarryref11_digits.f k s ((i + 1 : Nat) : Int)).bind fun t=>if t = ((i + 1 : Nat) : Int) then some (neg,B W,B [],B [],t,false) else if 0 ≤ ((i + 1 : Nat) : Int) then (if ((i + 1 : Nat) : Int) ≤ t then (if t ≤ (s.size : Int) then quarryref11_scan.j2 k s t neg (B W) (s.extract ((i + 1 : Nat) : Int).toNat t.toNat) (B []) else none) else none) else none) (fun k=>?_) (Ev.bind hd ?_)
   ·rw [quarryref11_scan.j1,if_pos (by omega),if_pos (by omega),if_pos (by omega),hisT,Option.bind_some,if_pos rfl,Int.toNat_natCast,Int.toNat_natCast,hW,w1]
   by_cases hd : dgs r = []
   ·have e : ((i + 1 + (dgs r).length : Nat) : Int) = ((i + 1 : Nat) : Int):=by rw [hd];rfl
    have e0 : fin s r = ((i + 1 : Nat) : Int):=by rw [← hr,fin_lft s (i + 1) (by omega)]
    rw [if_pos hd,e];refine Ev.congr (fun k=>if_pos rfl) ?_;simp only;rw [e0];exact Ev.now _
   have hl2 : (dgs r).length ≠ 0:=fun e=>hd ((dgs_nil_len _).mpr e)
   have e1 : s.extract (i + 1) (i + 1 + (dgs r).length) = B (dgs r):=by
    have:=extract_dgs s (i + 1)
    rw [hr] at this
    exact this
   have e2 : lft s (i + 1 + (dgs r).length) = dgr r:=by
    have:=dgr_lft s (i + 1)
    rw [hr] at this
    exact this.symm
   rw [if_neg hd];have h:=exp_ev s hs (i + 1 + (dgs r).length) hle neg (B W) (B (dgs r))
   rw [e2] at h
   refine Ev.congr (fun k=>?_) h;rw [if_neg (by omega),if_pos (by omega),if_pos (by omega),if_pos (by omega),Int.toNat_natCast,Int.toNat_natCast,e1]
  have h:=nodot (fun c' r' e=>by rw [hl] at e;injection e with e1 e2;rw [← e1];exact hc)
  have eP : pointV W (c :: r) = (W,[],expV (c :: r)):=by unfold pointV;simp only;rw [if_neg hc]
  rw [hl] at h
  rw [eP];exact h
theorem whole_ev (s : ByteArray) (hs : s.size ≤ 1099511627776) (i : Nat) (hi : i ≤ s.size) (neg : Bool) :
  Ev (fun k=>quarryref11_scan.j0 k s (i : Int) neg (B []) (B []) (B [])) (neg,B (wholeV (lft s i)).1,B (wholeV (lft s i)).2.1,B (wholeV (lft s i)).2.2.1,fin s (wholeV (lft s i)).2.2.2.1,(wholeV (lft s i)).2.2.2.2):=by
 have hd:=digit_some s i;have w1 : wrap64 ((i : Int) + 1) = ((i + 1 : Nat) : Int):=w64s i (by omega)
 cases hl : lft s i with
 | nil =>
  rw [hl] at hd
  refine Ev.step (f:=fun _=>some _) (fun k=>?_) (Ev.now _);rw [quarryref11_scan.j0,hd,Option.bind_some];simp only;rw [if_neg (by decide)]
  have : fin s (wholeV []).2.2.2.1 = (i : Int):=by rw [← fin_lft s i hi,hl];rfl
  rw [this];rfl
 | cons c r =>
  obtain ⟨hlt,hbt,hr⟩:=lft_step s i c r hl
  rw [hl] at hd
  simp only at hd
  cases hc : rdD c with
  | false =>
   rw [hc] at hd
   have eP : wholeV (c :: r) = ([],[],[],c :: r,false):=by unfold wholeV;simp only;rw [if_neg (by rw [hc];decide)]
   rw [eP];refine Ev.step (f:=fun _=>some _) (fun k=>?_) (Ev.now _);rw [quarryref11_scan.j0,hd,Option.bind_some,if_neg (by decide)];simp only;rw [← hl,fin_lft s i hi]
  | true =>
   rw [hc] at hd
   have hdg:=digits_f s hs i (by omega)
   rw [hl] at hdg
   have hle:=dgs_le s i hi
   rw [hl] at hle
   have e1 : s.extract i (i + 1) = B [c]:=by
    have:=extract_lft s i 1
    rw [hl] at this
    exact this
   by_cases h48 : c = 48
   ·have eP : wholeV (c :: r) = pointV [c] r:=by unfold wholeV;simp only;rw [if_pos hc,if_pos h48]
    rw [eP];have h:=point_ev s hs i (i + 1) (by omega) (by omega) neg [c] e1
    rw [hr] at h
    refine Ev.step (f:=fun k=>(quarryref11_digits.f k s (i : Int)).bind fun t160=>quarryref11_scan.j1 k s (i : Int) ((i + 1 : Nat) : Int) neg (B []) (B []) (B [])) (fun k=>?_) (Ev.bind (f:=fun k _=>quarryref11_scan.j1 k s (i : Int) ((i + 1 : Nat) : Int) neg (B []) (B []) (B [])) hdg h);rw [quarryref11_scan.j0,hd,Option.bind_some,if_pos rfl]
    congr 1
    funext t
    rw [if_pos (by omega),if_pos (by omega),hbt,if_pos (by rw [h48];rfl),w1]
   have eP : wholeV (c :: r) = pointV (c :: dgs r) (dgr r):=by unfold wholeV;simp only;rw [if_pos hc,if_neg h48]
   rw [eP]
   have e2 : dgs (c :: r) = c :: dgs r:=by rw [dgs_cons,if_pos hc]
   have e3 : s.extract i (i + (dgs (c :: r)).length) = B (c :: dgs r):=by
    have:=extract_dgs s i
    rw [hl,e2] at this
    rw [e2];exact this
   have e4 : lft s (i + (dgs (c :: r)).length) = dgr r:=by
    have:=dgr_lft s i
    rw [hl,dgr_cons,if_pos hc] at this
    exact this.symm
   have h:=point_ev s hs i (i + (dgs (c :: r)).length) (by omega) hle neg (c :: dgs r) e3
   rw [e4] at h
   refine Ev.step (f:=fun k=>(quarryref11_digits.f k s (i : Int)).bind fun t160=>quarryref11_scan.j1 k s (i : Int) t160 neg (B []) (B []) (B [])) (fun k=>?_) (Ev.bind (f:=fun k t160=>quarryref11_scan.j1 k s (i : Int) t160 neg (B []) (B []) (B [])) hdg h);rw [quarryref11_scan.j0,hd,Option.bind_some,if_pos rfl]
   congr 1
   funext t
   rw [if_pos (by omega),if_pos (by omega),hbt,if_neg (fun e=>h48 (UInt8.toNat_inj.mp (by show c.toNat = 48;omega)))]
theorem scan_ev (s : ByteArray) (hs : s.size ≤ 1099511627776) (i : Nat) (hi : i ≤ s.size) :
  Ev (fun k=>quarryref11_scan.f k s (i : Int)) ((scanV (lft s i)).1,B (scanV (lft s i)).2.1,B (scanV (lft s i)).2.2.1,B (scanV (lft s i)).2.2.2.1,fin s (scanV (lft s i)).2.2.2.2.1,(scanV (lft s i)).2.2.2.2.2):=by
 have h45 : ((45 : UInt8).toNat : Int) = 45:=rfl;have his:=is_some s i 45 45
 rw [h45] at his
 have w1 : wrap64 ((i : Int) + 1) = ((i + 1 : Nat) : Int):=w64s i (by omega)
 have noneg : (∀ c r,lft s i = c :: r → ¬ c = 45) → Ev (fun k=>quarryref11_scan.f k s (i : Int)) (false,B (wholeV (lft s i)).1,B (wholeV (lft s i)).2.1,B (wholeV (lft s i)).2.2.1,fin s (wholeV (lft s i)).2.2.2.1,(wholeV (lft s i)).2.2.2.2):=by
  intro hq
  have hisF : quarryref11_is.f s (i : Int) 45 45 = some false:=by
   rw [his]
   cases hl : lft s i with
   | nil=>rfl
   | cons c r=>simp only;rw [decide_eq_false (fun h=>hq c r hl (h.elim id id))]
  refine Ev.congr (fun k=>?_) (whole_ev s hs i hi false)
  unfold quarryref11_scan.f
  rw [hisF,Option.bind_some,if_neg (by decide)]
 cases hl : lft s i with
 | nil =>
  have h:=noneg (fun c r e=>by rw [hl] at e;cases e)
  rw [hl] at h
  exact h
 | cons c r =>
  obtain ⟨hlt,hbt,hr⟩:=lft_step s i c r hl
  by_cases hc : c = 45
  ·have hisT : quarryref11_is.f s (i : Int) 45 45 = some true:=by rw [his,hl];simp only;rw [decide_eq_true (.inl hc)]
   have eP : scanV (c :: r) = (true,wholeV r):=by unfold scanV;simp only;rw [if_pos hc]
   rw [eP];have h:=whole_ev s hs (i + 1) (by omega) true
   rw [hr] at h
   refine Ev.congr (fun k=>?_) h
   unfold quarryref11_scan.f
   rw [hisT,Option.bind_some,if_pos rfl,w1]
  have h:=noneg (fun c' r' e=>by rw [hl] at e;injection e with e1 e2;rw [← e1];exact hc)
  have eP : scanV (c :: r) = (false,wholeV (c :: r)):=by unfold scanV;simp only;rw [if_neg hc]
  rw [hl] at h
  rw [eP];exact h
def numL : List UInt8 → Bool → Int → Int
 | [],neg,n=>if neg = true then - (if n > 1000000000000000 then 1000000000000001 else n) else (if n > 1000000000000000 then 1000000000000001 else n)
 | c :: r,neg,n=>numL r (if c = 45 then true else neg) (if rdD c = true ∧ n ≤ 1000000000000000 then n * 10 + ((c.toNat : Int) - 48) else n)
theorem number_ev (X : ByteArray) (hX : X.size ≤ 1099511627776) : ∀ (d i : Nat) (neg : Bool) (n : Int),X.size - i = d → 0 ≤ n → n ≤ 10000000000000100 → Ev (fun k=>quarryref11_number.l0 k X 1000000000000000 neg n (i : Int)) (numL (lft X i) neg n)
 | 0,i,neg,n,hd,h0,h1=>by
  rw [lft_nil X i (by omega)];refine Ev.step (f:=fun _=>some _) (fun k=>?_) (Ev.now _);rw [quarryref11_number.l0,if_neg (by omega),numL]
  by_cases hn : n > 1000000000000000
  ·rw [if_pos hn,if_pos hn,w64 (1000000000000000 + 1) (by omega) (by omega),w64 _ (by omega) (by omega)];cases neg
   ·rw [if_neg (by decide),if_neg (by decide)];rfl
   rw [if_pos rfl,if_pos rfl];rfl
  rw [if_neg hn,if_neg hn,w64 (-n) (by omega) (by omega)];cases neg
  ·rw [if_neg (by decide),if_neg (by decide)]
  rw [if_pos rfl,if_pos rfl]
 | d + 1,i,neg,n,hd,h0,h1=>by
  have hlt : i < X.size:=by omega
  have hc:=lft_cons X i hlt;have hb:=bt_get X i hlt;have hw:=w64s i (by omega)
  have hu : (X[i].toNat : Int) ≤ 255:=by have:=X[i].toNat_lt;omega
  have hr:=number_ev X hX d (i + 1);rw [hc,numL]
  by_cases h45 : X[i] = 45
  ·have h45i : (X[i].toNat : Int) = 45:=by rw [h45];rfl
   have hnd : ¬ (rdD X[i] = true ∧ n ≤ 1000000000000000):=by rw [h45];intro h;exact absurd h.1 (by decide)
   rw [if_pos h45,if_neg hnd];refine Ev.step (fun k=>?_) (hr true n (by omega) h0 h1);rw [quarryref11_number.l0,if_pos (by omega),if_pos (by omega),hb,if_pos h45i,if_neg (by omega),hw]
  have h45i : ¬ (X[i].toNat : Int) = 45:=fun e=>h45 (UInt8.toNat_inj.mp (by show X[i].toNat = 45;omega))
  rw [if_neg h45]
  by_cases hdg : rdD X[i] = true
  ·have hdr : 48 ≤ X[i].toNat ∧ X[i].toNat ≤ 57:=by unfold rdD at hdg;exact of_decide_eq_true hdg
   by_cases hn : n ≤ 1000000000000000
   ·rw [if_pos ⟨hdg,hn⟩];refine Ev.step (fun k=>?_) (hr neg (n * 10 + ((X[i].toNat : Int) - 48)) (by omega) (by omega) (by omega));rw [quarryref11_number.l0,if_pos (by omega),if_pos (by omega),hb,if_neg h45i,if_pos (by omega),if_pos (by omega),if_pos hn,hw,w64 (n * 10) (by omega) (by omega),w64 (X[i].toNat : Int) (by omega) (by omega),w64 (n * 10 + (X[i].toNat : Int)) (by omega) (by omega),w64 _ (by omega) (by omega)];rw [show n * 10 + (X[i].toNat : Int) - 48 = n * 10 + ((X[i].toNat : Int) - 48) from by omega]
   rw [if_neg (fun h=>hn h.2)];refine Ev.step (fun k=>?_) (hr neg n (by omega) h0 h1);rw [quarryref11_number.l0,if_pos (by omega),if_pos (by omega),hb,if_neg h45i,if_pos (by omega),if_pos (by omega),if_neg hn,hw]
  have hdr : ¬ (48 ≤ X[i].toNat ∧ X[i].toNat ≤ 57):=by unfold rdD at hdg;intro h;exact hdg (decide_eq_true h)
  rw [if_neg (fun h=>hdg h.1)];refine Ev.step (fun k=>?_) (hr neg n (by omega) h0 h1);rw [quarryref11_number.l0,if_pos (by omega),if_pos (by omega),hb,if_neg h45i,hw]
  by_cases h48 : (X[i].toNat : Int) ≥ 48
  ·rw [if_pos h48,if_neg (by omega)]
  rw [if_neg h48]
def mkV (neg : Bool) (all : List UInt8) (e : Int) : Bool × ByteArray × Int × Bool :=
 if rdBody all = [] then (neg,B [],0,true)
 else if e + ((rdLead all).length : Int) - ((rdBody all).length : Int) > 1073741824 ∨ e + ((rdLead all).length : Int) - ((rdBody all).length : Int) < -1073741824 then (false,B [],0,false)
 else (neg,B (rdBody all),e + ((rdLead all).length : Int) - ((rdBody all).length : Int),true)
theorem lft_B (all : List UInt8) (i : Nat) : lft (B all) i = all.drop i:=rfl
theorem B_size (all : List UInt8) : (B all).size = all.length:=by simp [ByteArray.size]
theorem B_app (a b : List UInt8) : B a ++ B b = B (a ++ b):=by
 apply ByteArray.ext
 apply Array.ext'
 simp
theorem lead_cons (c : UInt8) (r : List UInt8) : rdLead (c :: r) = if c = 48 then rdLead r else c :: r:=by
 unfold rdLead
 rw [List.dropWhile_cons]
 by_cases h : c = 48
 ·subst h;rfl
 have : (c == 48) = false:=by simpa using h
 rw [this,if_neg h];rfl
theorem make1_ev (neg : Bool) (all : List UInt8) (hl : all.length ≤ 1099511627776) (i : Nat) (hi : i ≤ all.length) (hlead : rdLead all = all.drop i) (e0 : Int) (he0 : -4611686018427387904 ≤ e0) (he1 : e0 ≤ 4611686018427387904) :
  ∀ (d : Nat),i + d ≤ all.length → rdTail (all.drop i) = rdTail ((all.drop i).take d) → Ev (fun k=>quarryref11_Make.l1 k neg (B all) (e0 + ((all.length - (i + d) : Nat) : Int)) (i : Int) ((i + d : Nat) : Int)) (mkV neg all e0)
 | 0,hd,ht=>by
  have hbody : rdBody all = []:=by show rdTail (rdLead all) = [];rw [hlead,ht];rfl
  refine Ev.step (f:=fun k=>quarryref11_Make.j3 k neg (B all) (e0 + ((all.length - (i + 0) : Nat) : Int)) (i : Int) ((i + 0 : Nat) : Int)) (fun k=>?_) (Ev.step (f:=fun _=>some (mkV neg all e0)) (fun k=>?_) (Ev.now _))
  ·rw [quarryref11_Make.l1,if_neg (by omega)]
  rw [quarryref11_Make.j3,if_pos (by omega),mkV,if_pos hbody]
 | d + 1,hd,ht=>by
  have hlt : i + d < all.length:=by omega
  have hlt2 : i + d < (B all).size:=by rw [B_size];exact hlt
  have hb:=bt_get (B all) (i + d) hlt2;have hg : (B all)[i + d] = all[i + d]:=rfl
  rw [hg] at hb
  have hw : wrap64 (((i + (d + 1) : Nat) : Int) - 1) = ((i + d : Nat) : Int):=by rw [w64 _ (by omega) (by omega)];omega
  have hs : ((B all).size : Int) = (all.length : Int):=by rw [B_size]
  have hseg : (all.drop i).take (d + 1) = (all.drop i).take d ++ [all[i + d]]:=by
   rw [List.take_succ_eq_append_getElem (by rw [List.length_drop];omega),List.getElem_drop]
  rw [hseg,rdTail_snoc] at ht
  by_cases h48 : all[i + d] = 48
  ·rw [if_pos h48] at ht
   have ih:=make1_ev neg all hl i hi hlead e0 he0 he1 d (by omega) ht;refine Ev.step (fun k=>?_) ih;rw [quarryref11_Make.l1,if_pos (by omega),hw,if_pos (by omega),if_pos (by omega),hb,if_pos (by rw [h48];rfl),w64 _ (by omega) (by omega)]
   congr 1
   omega
  rw [if_neg h48] at ht
  have hbody : rdBody all = (all.drop i).take (d + 1):=by
   rw [hseg]
   show rdTail (rdLead all) = _
   rw [hlead,ht]
  have hlen : (rdBody all).length = d + 1:=by rw [hbody,List.length_take,List.length_drop];omega
  have hne : ¬ rdBody all = []:=fun h=>by rw [h] at hlen;simp at hlen
  have hll : (rdLead all).length = all.length - i:=by rw [hlead,List.length_drop]
  have he : e0 + ((rdLead all).length : Int) - ((rdBody all).length : Int) = e0 + ((all.length - (i + (d + 1)) : Nat) : Int):=by rw [hlen,hll];omega
  have hx : (B all).extract i (i + (d + 1)) = B (rdBody all):=by rw [extract_lft,lft_B,hbody]
  refine Ev.step (f:=fun k=>quarryref11_Make.j3 k neg (B all) (e0 + ((all.length - (i + (d + 1)) : Nat) : Int)) (i : Int) ((i + (d + 1) : Nat) : Int)) (fun k=>?_) (Ev.step (f:=fun _=>some (mkV neg all e0)) (fun k=>?_) (Ev.now _))
  ·rw [quarryref11_Make.l1,if_pos (by omega),hw,if_pos (by omega),if_pos (by omega),hb,if_neg (fun e=>h48 (UInt8.toNat_inj.mp (by show (all[i + d]).toNat = 48;omega)))]
  rw [quarryref11_Make.j3,if_neg (by omega),mkV,if_neg hne,he]
  by_cases h1 : e0 + ((all.length - (i + (d + 1)) : Nat) : Int) > 1073741824
  ·rw [if_pos h1,if_pos (.inl h1)]
  by_cases h2 : e0 + ((all.length - (i + (d + 1)) : Nat) : Int) < -1073741824
  ·rw [if_neg h1,if_pos h2,if_pos (.inr h2)]
  have h12 : ¬ (e0 + ((all.length - (i + (d + 1)) : Nat) : Int) > 1073741824 ∨ e0 + ((all.length - (i + (d + 1)) : Nat) : Int) < -1073741824):=fun h=>h.elim h1 h2
  rw [if_neg h1,if_neg h2,if_neg h12,if_pos (by omega),if_pos (by omega),if_pos (by omega),Int.toNat_natCast,Int.toNat_natCast,hx]
theorem make0_ev (neg : Bool) (all : List UInt8) (hl : all.length ≤ 1099511627776) (e0 : Int) (he0 : -4611686018427387904 ≤ e0) (he1 : e0 ≤ 4611686018427387904) :
  ∀ (d i : Nat),i + d = all.length → rdLead all = rdLead (all.drop i) → Ev (fun k=>quarryref11_Make.l0 k neg (B all) e0 (i : Int)) (mkV neg all e0)
 | 0,i,hd,ht=>by
  have e : all.drop i = []:=List.drop_of_length_le (by omega)
  have hlead : rdLead all = all.drop i:=by rw [ht,e];rfl
  have h:=make1_ev neg all hl i (by omega) hlead e0 he0 he1 0 (by omega) (by rw [e];rfl);refine Ev.step (f:=fun k=>quarryref11_Make.j1 k neg (B all) e0 (i : Int)) (fun k=>?_) (Ev.step (fun k=>?_) h)
  ·rw [quarryref11_Make.l0,if_neg (by rw [B_size];omega)]
  rw [quarryref11_Make.j1,B_size]
  congr 1
  ·omega
  omega
 | d + 1,i,hd,ht=>by
  have hlt : i < all.length:=by omega
  have hlt2 : i < (B all).size:=by rw [B_size];exact hlt
  have hb:=bt_get (B all) i hlt2;have hg : (B all)[i] = all[i]:=rfl
  rw [hg] at hb
  have hdr : all.drop i = all[i] :: all.drop (i + 1):=List.drop_eq_getElem_cons hlt
  rw [hdr,lead_cons] at ht
  by_cases h48 : all[i] = 48
  ·rw [if_pos h48] at ht
   refine Ev.step (fun k=>?_) (make0_ev neg all hl e0 he0 he1 d (i + 1) (by omega) ht);rw [quarryref11_Make.l0,if_pos (by rw [B_size];omega),if_pos (by omega),hb,if_pos (by rw [h48];rfl),w64s i (by omega)]
  rw [if_neg h48,← hdr] at ht
  have h:=make1_ev neg all hl i (by omega) ht e0 he0 he1 (all.length - i) (by omega) (by rw [List.take_of_length_le (by rw [List.length_drop];omega)]);refine Ev.step (f:=fun k=>quarryref11_Make.j1 k neg (B all) e0 (i : Int)) (fun k=>?_) (Ev.step (fun k=>?_) h)
  ·rw [quarryref11_Make.l0,if_pos (by rw [B_size];omega),if_pos (by omega),hb,if_neg (fun e=>h48 (UInt8.toNat_inj.mp (by show (all[i]).toNat = 48;omega)))]
  rw [quarryref11_Make.j1,B_size]
  congr 1
  ·omega
  omega
theorem make_ev (neg : Bool) (all : List UInt8) (hl : all.length ≤ 1099511627776) (e0 : Int) (he0 : -4611686018427387904 ≤ e0) (he1 : e0 ≤ 4611686018427387904) : Ev (fun k=>quarryref11_Make.f k neg (B all) e0) (mkV neg all e0) :=
 make0_ev neg all hl e0 he0 he1 all.length 0 (by omega) rfl
theorem whole_app : ∀ (l all : List UInt8),rdWhole l all = rdPoint (dgr l) (all ++ dgs l)
 | [],all=>by rw [rdWhole];simp [dgs,dgr]
 | c :: r,all=>by
  rw [rdWhole,dgs_cons,dgr_cons]
  cases h : rdD c with
  | true=>rw [if_pos rfl,if_pos rfl,if_pos rfl,whole_app r];simp
  | false=>rw [if_neg (by decide),if_neg (by decide),if_neg (by decide)];simp
theorem below_app : ∀ (l all : List UInt8) (down : Nat) (x : UInt8),rdBelow l all down x = rdExp (dgr l) (all ++ x :: dgs l) (down + 1 + (dgs l).length)
 | [],all,down,x=>by rw [rdBelow];simp [dgs,dgr]
 | c :: r,all,down,x=>by
  rw [rdBelow,dgs_cons,dgr_cons]
  cases h : rdD c with
  | true =>
   rw [if_pos rfl,if_pos rfl,if_pos rfl,below_app r];simp only [List.append_assoc,List.singleton_append,List.length_cons]
   congr 1
   omega
  | false=>rw [if_neg (by decide),if_neg (by decide),if_neg (by decide)];simp
def tens (l : List UInt8) : Int:=l.foldl rdE 0
theorem tens_app : ∀ (l : List UInt8) (e : Int) (x : UInt8),rdTens l e x = ((dgs l).foldl rdE (rdE e x),dgr l)
 | [],e,x=>rfl
 | c :: r,e,x=>by
  rw [rdTens,dgs_cons,dgr_cons]
  cases h : rdD c with
  | true=>rw [if_pos rfl,if_pos rfl,if_pos rfl,tens_app r];rfl
  | false=>rw [if_neg (by decide),if_neg (by decide),if_neg (by decide)];rfl
def expE (X : List UInt8) : Int :=
 match X with
 | []=>0
 | q :: ds=>if q = 45 then - tens ds else if q = 43 then tens ds else tens (q :: ds)
def Fits (o : RdOut) (all : List UInt8) (down : Nat) (X left : List UInt8) (ok : Bool) : Prop:=o.1 = ok ∧ o.2.2.2.2 = left ∧ (ok = true → o.2.1 = all ∧ o.2.2.1 = down ∧ o.2.2.2.1 = expE X)
theorem pow_fits (l all : List UInt8) (down : Nat) (turned : Bool) (X : List UInt8) (hX : ∀ ds,dgs l = ds → ds ≠ [] → expE X = if turned = true then - tens ds else tens ds) :
  Fits (rdPow l all down turned) all down X (if dgs l = [] then l else dgr l) (if dgs l = [] then false else true):=by
 unfold rdPow
 cases l with
 | nil=>exact ⟨rfl,rfl,fun h=>by cases h⟩
 | cons d r =>
  simp only;have e1:=dgs_cons d r;have e2:=dgr_cons d r
  cases h : rdD d with
  | true =>
   rw [h,if_pos rfl] at e1 e2
   have hne : ¬ dgs (d :: r) = []:=by rw [e1];simp
   rw [if_neg hne,if_neg hne,if_pos rfl,tens_app];refine ⟨rfl,e2.symm,fun _=>⟨rfl,rfl,?_⟩⟩;rw [hX _ rfl hne,e1];rfl
  | false =>
   rw [h,if_neg (by decide)] at e1 e2
   rw [if_pos e1,if_pos e1,if_neg (by decide)];exact ⟨rfl,rfl,fun h=>by cases h⟩
theorem exp_fits (l all : List UInt8) (down : Nat) : Fits (rdExp l all down) all down (expV l).1 (expV l).2.1 (expV l).2.2:=by
 cases l with
 | nil=>exact ⟨rfl,rfl,fun _=>⟨rfl,rfl,rfl⟩⟩
 | cons c r =>
  rw [rdExp_cons,expV_cons]
  by_cases hc : c = 101 ∨ c = 69
  ·rw [if_pos hc,if_pos hc]
   cases r with
   | nil=>exact ⟨rfl,rfl,fun h=>by cases h⟩
   | cons q t =>
    simp only
    by_cases h43 : q = 43
    ·subst h43;rw [if_pos rfl,if_pos (.inl rfl)]
     by_cases hd : dgs t = []
     ·have h:=pow_fits t all down false [] (fun ds e hne=>absurd (e.symm.trans hd) hne)
      rw [if_pos hd,if_pos hd] at h
      rw [if_pos hd];exact h
     have h:=pow_fits t all down false (43 :: dgs t) (fun ds e hne=>by rw [← e];rfl)
     rw [if_neg hd,if_neg hd] at h
     rw [if_neg hd];exact h
    by_cases h45 : q = 45
    ·subst h45;rw [if_neg (by decide),if_pos rfl,if_pos (.inr rfl)]
     by_cases hd : dgs t = []
     ·have h:=pow_fits t all down true [] (fun ds e hne=>absurd (e.symm.trans hd) hne)
      rw [if_pos hd,if_pos hd] at h
      rw [if_pos hd];exact h
     have h:=pow_fits t all down true (45 :: dgs t) (fun ds e hne=>by rw [← e];rfl)
     rw [if_neg hd,if_neg hd] at h
     rw [if_neg hd];exact h
    rw [if_neg h43,if_neg h45,if_neg (fun h=>h.elim h43 h45)]
    by_cases hd : dgs (q :: t) = []
    ·have h:=pow_fits (q :: t) all down false [] (fun ds e hne=>absurd (e.symm.trans hd) hne)
     rw [if_pos hd,if_pos hd] at h
     rw [if_pos hd];exact h
    have h:=pow_fits (q :: t) all down false (dgs (q :: t)) (fun ds e hne=>by
     rw [dgs_cons] at hd ⊢
     cases hq : rdD q with
     | true =>
      rw [if_pos rfl]
      rw [dgs_cons,hq,if_pos rfl] at e
      rw [← e]
      show (if q = 45 then _ else if q = 43 then _ else _) = _
      rw [if_neg h45,if_neg h43];rfl
     | false=>rw [hq] at hd;exact absurd rfl hd)
    rw [if_neg hd,if_neg hd] at h
    rw [if_neg hd];exact h
  rw [if_neg hc,if_neg hc];exact ⟨rfl,rfl,fun _=>⟨rfl,rfl,rfl⟩⟩
theorem point_fits (l W : List UInt8) : Fits (rdPoint l W) ((pointV W l).1 ++ (pointV W l).2.1) (pointV W l).2.1.length (pointV W l).2.2.1 (pointV W l).2.2.2.1 (pointV W l).2.2.2.2:=by
 cases l with
 | nil =>
  show Fits (rdExp [] W 0) (W ++ []) 0 (expV []).1 (expV []).2.1 (expV []).2.2
  rw [List.append_nil];exact exp_fits [] W 0
 | cons c r =>
  have eP : pointV W (c :: r) = if c = 46 then (if dgs r = [] then (W,[],[],r,false) else (W,dgs r,expV (dgr r))) else (W,[],expV (c :: r)):=rfl
  rw [rdPoint_cons,eP]
  by_cases hc : c = 46
  ·rw [if_pos hc,if_pos hc]
   cases r with
   | nil=>exact ⟨rfl,rfl,fun h=>by cases h⟩
   | cons d q =>
    simp only;have e1:=dgs_cons d q;have e2:=dgr_cons d q
    cases h : rdD d with
    | true =>
     rw [h,if_pos rfl] at e1 e2
     have hne : ¬ dgs (d :: q) = []:=by rw [e1];simp
     rw [if_pos rfl,if_neg hne,below_app,e1,e2];have:=exp_fits (dgr q) (W ++ d :: dgs q) (0 + 1 + (dgs q).length)
     rw [show 0 + 1 + (dgs q).length = (d :: dgs q).length from by rw [List.length_cons];omega] at this ⊢
     exact this
    | false =>
     rw [h,if_neg (by decide)] at e1 e2
     rw [if_neg (by decide),if_pos e1];exact ⟨rfl,rfl,fun h=>by cases h⟩
  rw [if_neg hc,if_neg hc]
  show Fits (rdExp (c :: r) W 0) (W ++ []) 0 (expV (c :: r)).1 (expV (c :: r)).2.1 (expV (c :: r)).2.2
  rw [List.append_nil];exact exp_fits (c :: r) W 0
theorem whole_fits (l : List UInt8) : Fits (rdFirst l) ((wholeV l).1 ++ (wholeV l).2.1) (wholeV l).2.1.length (wholeV l).2.2.1 (wholeV l).2.2.2.1 (wholeV l).2.2.2.2:=by
 cases l with
 | nil=>exact ⟨rfl,rfl,fun h=>by cases h⟩
 | cons d r =>
  have eW : wholeV (d :: r) = if rdD d = true then (if d = 48 then pointV [d] r else pointV (d :: dgs r) (dgr r)) else ([],[],[],d :: r,false):=rfl
  have eF : rdFirst (d :: r) = if rdD d = true then (if d = 48 then rdPoint r [d] else rdWhole r [d]) else (false,[],0,0,d :: r):=rfl
  rw [eW,eF]
  by_cases h : rdD d = true
  ·rw [if_pos h,if_pos h]
   by_cases h48 : d = 48
   ·rw [if_pos h48,if_pos h48];exact point_fits r [d]
   rw [if_neg h48,if_neg h48,whole_app];exact point_fits (dgr r) (d :: dgs r)
  rw [if_neg h,if_neg h];exact ⟨rfl,rfl,fun h=>by cases h⟩
theorem scan_fits (l : List UInt8) : (rdAll l).1 = (scanV l).1 ∧ Fits (rdAll l).2 ((scanV l).2.1 ++ (scanV l).2.2.1) (scanV l).2.2.1.length (scanV l).2.2.2.1 (scanV l).2.2.2.2.1 (scanV l).2.2.2.2.2:=by
 cases l with
 | nil=>exact ⟨rfl,whole_fits []⟩
 | cons c r =>
  have e1 : rdAll (c :: r) = if c = 45 then (true,rdFirst r) else (false,rdFirst (c :: r)):=rfl
  have e2 : scanV (c :: r) = if c = 45 then (true,wholeV r) else (false,wholeV (c :: r)):=rfl
  rw [e1,e2]
  by_cases h : c = 45
  ·rw [if_pos h,if_pos h];exact ⟨rfl,whole_fits r⟩
  rw [if_neg h,if_neg h];exact ⟨rfl,whole_fits (c :: r)⟩
def AllD (l : List UInt8) : Prop:=∀ c,c ∈ l → rdD c = true
theorem dgs_all : ∀ l : List UInt8,AllD (dgs l)
 | []=>fun c h=>by cases h
 | c :: r=>by
  rw [dgs_cons]
  cases h : rdD c with
  | true =>
   rw [if_pos rfl];intro x hx
   rcases List.mem_cons.1 hx with rfl|hx
   ·exact h
   exact dgs_all r x hx
  | false =>
   rw [if_neg (by decide)];intro x hx;cases hx
def FormX (X : List UInt8) : Prop:=X = [] ∨ ∃ q ds,X = q :: ds ∧ AllD ds ∧ (q = 43 ∨ q = 45 ∨ rdD q = true)
theorem form_dgs (l : List UInt8) : FormX (dgs l):=by
 have h:=dgs_all l
 cases e : dgs l with
 | nil=>exact .inl rfl
 | cons q ds =>
  rw [e] at h
  exact .inr ⟨q,ds,rfl,fun c hc=>h c (List.mem_cons_of_mem _ hc),.inr (.inr (h q List.mem_cons_self))⟩
theorem dgr_length (l : List UInt8) : (dgr l).length + (dgs l).length = l.length:=by have:=dg_len l;omega
theorem exp_form (l : List UInt8) : FormX (expV l).1 ∧ (expV l).1.length ≤ l.length ∧ (expV l).2.1.length ≤ l.length:=by
 cases l with
 | nil=>exact ⟨.inl rfl,Nat.le_refl _,Nat.le_refl _⟩
 | cons c r =>
  rw [expV_cons]
  by_cases hc : c = 101 ∨ c = 69
  ·rw [if_pos hc]
   cases r with
   | nil=>exact ⟨.inl rfl,by simp,by simp⟩
   | cons q t =>
    simp only;have h1:=dgr_length t;have h2:=dgr_length (q :: t)
    rw [List.length_cons] at h2
    by_cases hq : q = 43 ∨ q = 45
    ·rw [if_pos hq]
     by_cases hd : dgs t = []
     ·rw [if_pos hd];exact ⟨.inl rfl,by simp,by simp only [List.length_cons];omega⟩
     rw [if_neg hd];exact ⟨.inr ⟨q,dgs t,rfl,dgs_all t,hq.elim .inl (fun h=>.inr (.inl h))⟩,by simp only [List.length_cons];omega,by simp only [List.length_cons];omega⟩
    rw [if_neg hq]
    by_cases hd : dgs (q :: t) = []
    ·rw [if_pos hd];exact ⟨.inl rfl,by simp,by simp⟩
    rw [if_neg hd];exact ⟨form_dgs _,by simp only [List.length_cons];omega,by simp only [List.length_cons];omega⟩
  rw [if_neg hc];exact ⟨.inl rfl,by simp,Nat.le_refl _⟩
theorem point_form (W l : List UInt8) : FormX (pointV W l).2.2.1 ∧ (pointV W l).1.length + (pointV W l).2.1.length + (pointV W l).2.2.1.length ≤ W.length + l.length ∧ (pointV W l).2.2.2.1.length ≤ l.length:=by
 cases l with
 | nil=>exact ⟨.inl rfl,by simp [pointV,expV],Nat.le_refl _⟩
 | cons c r =>
  have eP : pointV W (c :: r) = if c = 46 then (if dgs r = [] then (W,[],[],r,false) else (W,dgs r,expV (dgr r))) else (W,[],expV (c :: r)):=rfl
  rw [eP]
  by_cases hc : c = 46
  ·rw [if_pos hc];have h1:=dgr_length r
   by_cases hd : dgs r = []
   ·rw [if_pos hd];exact ⟨.inl rfl,by simp,by simp⟩
   rw [if_neg hd];obtain ⟨h2,h3,h4⟩:=exp_form (dgr r);exact ⟨h2,by simp only [List.length_cons];omega,by simp only [List.length_cons];omega⟩
  rw [if_neg hc];obtain ⟨h2,h3,h4⟩:=exp_form (c :: r);exact ⟨h2,by simp only [List.length_nil];omega,h4⟩
theorem whole_form (l : List UInt8) : FormX (wholeV l).2.2.1 ∧ (wholeV l).1.length + (wholeV l).2.1.length + (wholeV l).2.2.1.length ≤ l.length ∧ (wholeV l).2.2.2.1.length ≤ l.length:=by
 cases l with
 | nil=>exact ⟨.inl rfl,Nat.le_refl _,Nat.le_refl _⟩
 | cons d r =>
  have eW : wholeV (d :: r) = if rdD d = true then (if d = 48 then pointV [d] r else pointV (d :: dgs r) (dgr r)) else ([],[],[],d :: r,false):=rfl
  rw [eW]
  by_cases h : rdD d = true
  ·rw [if_pos h];have h1:=dgr_length r
   by_cases h48 : d = 48
   ·rw [if_pos h48];obtain ⟨h2,h3,h4⟩:=point_form [d] r
    simp only [List.length_cons,List.length_nil] at h3 ⊢
    exact ⟨h2,by omega,by omega⟩
   rw [if_neg h48];obtain ⟨h2,h3,h4⟩:=point_form (d :: dgs r) (dgr r)
   simp only [List.length_cons] at h3 ⊢
   exact ⟨h2,by omega,by omega⟩
  rw [if_neg h];exact ⟨.inl rfl,by simp,Nat.le_refl _⟩
theorem scan_form (l : List UInt8) : FormX (scanV l).2.2.2.1 ∧ (scanV l).2.1.length + (scanV l).2.2.1.length + (scanV l).2.2.2.1.length ≤ l.length ∧ (scanV l).2.2.2.2.1.length ≤ l.length:=by
 cases l with
 | nil=>exact whole_form []
 | cons c r =>
  have e2 : scanV (c :: r) = if c = 45 then (true,wholeV r) else (false,wholeV (c :: r)):=rfl
  rw [e2]
  by_cases h : c = 45
  ·rw [if_pos h];obtain ⟨h2,h3,h4⟩:=whole_form r;simp only [List.length_cons];exact ⟨h2,by omega,by omega⟩
  rw [if_neg h];exact whole_form (c :: r)
def Rel (e n : Int) : Prop:=(e = n ∧ 0 ≤ n ∧ n ≤ 1000000000000000) ∨ (n > 1000000000000000 ∧ e > 1000000000000000)
def clamp (n : Int) : Int:=if n > 1000000000000000 then 1000000000000001 else n
theorem num_digs : ∀ (ds : List UInt8) (neg : Bool) (n e : Int),AllD ds → Rel e n → ∃ n',numL ds neg n = (if neg = true then - clamp n' else clamp n') ∧ Rel (ds.foldl rdE e) n'
 | [],neg,n,e,_,hr=>⟨n,rfl,hr⟩
 | c :: r,neg,n,e,hd,hr=>by
  have hc:=hd c List.mem_cons_self
  have hdr : 48 ≤ c.toNat ∧ c.toNat ≤ 57:=by unfold rdD at hc;exact of_decide_eq_true hc
  have h45 : ¬ c = 45:=fun h=>by rw [h] at hc;exact absurd hc (by decide)
  rw [numL,if_neg h45,List.foldl_cons];refine num_digs r neg _ _ (fun x hx=>hd x (List.mem_cons_of_mem _ hx)) ?_
  rcases hr with ⟨rfl,h0,h1⟩|⟨h1,h2⟩
  ·have hE : rdE e c = 10 * e + ((c.toNat : Int) - 48):=by unfold rdE;rw [if_pos (by omega)]
   rw [if_pos ⟨hc,h1⟩,hE]
   by_cases hn : 10 * e + ((c.toNat : Int) - 48) ≤ 1000000000000000
   ·exact .inl ⟨by omega,by omega,by omega⟩
   exact .inr ⟨by omega,by omega⟩
  have hE : rdE e c > 1000000000000000:=by unfold rdE;split <;> omega
  rw [if_neg (fun h=>by have:=h.2;omega)];exact .inr ⟨h1,hE⟩
def Sat (E N : Int) : Prop:=(E = N ∧ -1000000000000000 ≤ N ∧ N ≤ 1000000000000000) ∨ (E > 1000000000000000 ∧ N = 1000000000000001) ∨ (E < -1000000000000000 ∧ N = -1000000000000001)
theorem sat_pos {e n : Int} (h : Rel e n) : Sat e (clamp n):=by
 unfold clamp
 rcases h with ⟨rfl,h0,h1⟩|⟨h1,h2⟩
 ·rw [if_neg (by omega)];exact .inl ⟨rfl,by omega,by omega⟩
 rw [if_pos h1];exact .inr (.inl ⟨h2,rfl⟩)
theorem sat_neg {e n : Int} (h : Rel e n) : Sat (-e) (- clamp n):=by
 unfold clamp
 rcases h with ⟨rfl,h0,h1⟩|⟨h1,h2⟩
 ·rw [if_neg (by omega)];exact .inl ⟨rfl,by omega,by omega⟩
 rw [if_pos h1];exact .inr (.inr ⟨by omega,rfl⟩)
theorem exp_sat (X : List UInt8) (h : FormX X) : Sat (expE X) (numL X false 0):=by
 have h00 : Rel 0 0:=.inl ⟨rfl,by omega,by omega⟩
 rcases h with rfl|⟨q,ds,rfl,hd,hq⟩
 ·exact .inl ⟨rfl,by show (-1000000000000000 : Int) ≤ 0;omega,by show (0 : Int) ≤ 1000000000000000;omega⟩
 show Sat (if q = 45 then - tens ds else if q = 43 then tens ds else tens (q :: ds)) _
 by_cases h45 : q = 45
 ·subst h45;rw [if_pos rfl,numL,if_pos rfl,if_neg (fun h=>absurd h.1 (by decide))];obtain ⟨n',e1,e2⟩:=num_digs ds true 0 0 hd h00;rw [e1,if_pos rfl];exact sat_neg e2
 by_cases h43 : q = 43
 ·subst h43;rw [if_neg (by decide),if_pos rfl,numL,if_neg (by decide),if_neg (fun h=>absurd h.1 (by decide))];obtain ⟨n',e1,e2⟩:=num_digs ds false 0 0 hd h00;rw [e1,if_neg (by decide)];exact sat_pos e2
 rw [if_neg h45,if_neg h43]
 have hqd : rdD q = true:=by rcases hq with h|h|h;exact absurd h h43;exact absurd h h45;exact h
 obtain ⟨n',e1,e2⟩:=num_digs (q :: ds) false 0 0 (fun c hc=>by rcases List.mem_cons.1 hc with rfl|hc;exact hqd;exact hd c hc) h00;rw [e1,if_neg (by decide)];exact sat_pos e2
theorem lead_len (l : List UInt8) : (rdLead l).length ≤ l.length:=by unfold rdLead;exact (List.dropWhile_suffix _).length_le
theorem body_len (l : List UInt8) : (rdBody l).length ≤ (rdLead l).length:=by
 unfold rdBody
 rw [List.length_reverse];have:=(List.dropWhile_suffix (· == 48) (l:=(rdLead l).reverse)).length_le
 rw [List.length_reverse] at this
 exact this
theorem sat_eq (neg : Bool) (all : List UInt8) (down : Nat) (E N : Int) (h : Sat E N) (hl : all.length ≤ 1099511627776) (hd : down ≤ 1099511627776) : numV neg all down E = mkV neg all (N - down):=by
 have h1:=lead_len all;have h2:=body_len all
 unfold numV mkV
 by_cases hb : rdBody all = []
 ·rw [if_pos hb,if_pos hb]
 rw [if_neg hb,if_neg hb]
 rcases h with ⟨rfl,_,_⟩|⟨h3,rfl⟩|⟨h3,rfl⟩
 ·rfl
 ·rw [if_pos (.inl (by omega)),if_pos (.inl (by omega))]
 rw [if_pos (.inr (by omega)),if_pos (.inr (by omega))]
theorem sat_bd {E N : Int} (h : Sat E N) : -1000000000000001 ≤ N ∧ N ≤ 1000000000000001:=by
 rcases h with ⟨_,_,_⟩|⟨_,rfl⟩|⟨_,rfl⟩ <;> omega
theorem number_f (X : List UInt8) (hX : X.length ≤ 1099511627776) : Ev (fun k=>quarryref11_number.f k (B X) 1000000000000000) (numL X false 0):=number_ev (B X) (by rw [B_size];exact hX) (B X).size 0 false 0 rfl (by omega) (by omega)
theorem read_ev (s : ByteArray) (hs : s.size ≤ 1099511627776) (i : Nat) (hi : i ≤ s.size) : Ev (fun k=>quarryref11_Read.f k s (i : Int)) (decV s (i : Int)):=by
 have hv : decV s (i : Int) = decOut s (rdAll (lft s i)).1 (rdAll (lft s i)).2:=by unfold decV;rw [if_neg (fun h=>by omega),Int.toNat_natCast]
 obtain ⟨hn,hf1,hf2,hf3⟩:=scan_fits (lft s i);obtain ⟨hX,hlen,hleft⟩:=scan_form (lft s i)
 rw [lft_len] at hlen
 have hsc:=scan_ev s hs i hi
 generalize scanV (lft s i) = sv at *
 obtain ⟨neg,W,Bl,X,left,ok⟩:=sv
 simp only at hn hf1 hf2 hf3 hX hlen hleft hsc
 generalize rdAll (lft s i) = ra at *
 obtain ⟨neg',ok',all,down,E,left'⟩:=ra
 simp only at hn hf1 hf2 hf3
 subst hn;subst hf1;subst hf2;rw [hv]
 have body : Ev (fun k=>quarryref11_Read.j0 k s (i : Int) false) (decOut s neg' (ok',all,down,E,left')):=by
  cases ok' with
  | false =>
   have e1 : decOut s neg' (false,all,down,E,left') = (false,⟨#[]⟩,0,fin s left',110):=decOut_bad s neg' (all,down,E,left');rw [e1];refine Ev.step (f:=fun k=>(quarryref11_scan.f k s (i : Int)).bind fun b=>if b.2.2.2.2.2 = true then (quarryref11_number.f k b.2.2.2.1 1000000000000000).bind fun t176=>(if b.2.1.size + b.2.2.1.size ≤ 9223372036854775807 then ((quarryref11_Make.f k b.1 (b.2.1 ++ b.2.2.1) (wrap64 (t176 - (b.2.2.1.size : Int)))).bind fun bt177=>(if bt177.2.2.2 = true then (some (bt177.1,bt177.2.1,bt177.2.2.1,b.2.2.2.2.1,0)) else (some (false,(⟨#[]⟩ : ByteArray),0,b.2.2.2.2.1,111)))) else (none)) else some (false,(⟨#[]⟩ : ByteArray),0,b.2.2.2.2.1,110)) (fun k=>?_) (Ev.bind hsc ?_)
   ·rw [quarryref11_Read.j0,if_neg (by decide)]
   exact Ev.congr (fun k=>if_neg Bool.false_ne_true) (Ev.now _)
  | true =>
   obtain ⟨hall,hdown,hE⟩:=hf3 rfl;subst hall;subst hdown;subst hE;have hsat:=exp_sat X hX;have hbd:=sat_bd hsat;have hq:=sat_eq neg' (W ++ Bl) Bl.length (expE X) (numL X false 0) hsat (by rw [List.length_append];omega) (by omega);have hnum:=number_f X (by omega);have hmk:=make_ev neg' (W ++ Bl) (by rw [List.length_append];omega) (numL X false 0 - (Bl.length : Int)) (by omega) (by omega)
   have hres : Ev (fun k=>(quarryref11_Make.f k neg' (B W ++ B Bl) (wrap64 (numL X false 0 - ((B Bl).size : Int)))).bind fun bt177=>(if bt177.2.2.2 = true then (some (bt177.1,bt177.2.1,bt177.2.2.1,fin s left',(0 : Int))) else (some (false,(⟨#[]⟩ : ByteArray),(0 : Int),fin s left',(111 : Int))))) (decOut s neg' (true,W ++ Bl,Bl.length,expE X,left')):=by
    rw [B_app,B_size,w64 _ (by omega) (by omega)];refine Ev.bind (f:=fun _ bt177=>_) hmk ?_;rw [← hq]
    generalize hg : numV neg' (W ++ Bl) Bl.length (expE X) = q
    obtain ⟨q1,q2,q3,q4⟩:=q
    cases q4 with
    | true=>rw [decOut_yes _ _ _ _ _ _ _ _ _ hg];exact Ev.congr (fun k=>if_pos rfl) (Ev.now _)
    | false=>rw [decOut_no _ _ _ _ _ _ _ _ _ hg];exact Ev.congr (fun k=>if_neg Bool.false_ne_true) (Ev.now _)
   refine Ev.step (f:=fun k=>(quarryref11_scan.f k s (i : Int)).bind fun b=>if b.2.2.2.2.2 = true then (quarryref11_number.f k b.2.2.2.1 1000000000000000).bind fun t176=>(if b.2.1.size + b.2.2.1.size ≤ 9223372036854775807 then ((quarryref11_Make.f k b.1 (b.2.1 ++ b.2.2.1) (wrap64 (t176 - (b.2.2.1.size : Int)))).bind fun bt177=>(if bt177.2.2.2 = true then (some (bt177.1,bt177.2.1,bt177.2.2.1,b.2.2.2.2.1,0)) else (some (false,(⟨#[]⟩ : ByteArray),0,b.2.2.2.2.1,111)))) else (none)) else some (false,(⟨#[]⟩ : ByteArray),0,b.2.2.2.2.1,110)) (fun k=>?_) (Ev.bind hsc ?_)
   ·rw [quarryref11_Read.j0,if_neg (by decide)]
   refine Ev.congr (fun k=>if_pos rfl) (Ev.bind (f:=fun k t176=>if (B W).size + (B Bl).size ≤ 9223372036854775807 then _ else _) hnum ?_);refine Ev.congr (fun k=>if_pos (by rw [B_size,B_size];omega)) ?_;exact hres
 refine Ev.congr (fun k=>?_) body
 unfold quarryref11_Read.f
 rw [if_neg (by omega),decide_eq_false (by omega)]
theorem decV_end (s : ByteArray) (i : Nat) (hi : i ≤ s.size) : (decV s (i : Int)).2.2.2.1 ≤ (s.size : Int) ∧ ((decV s (i : Int)).2.2.2.2 = 0 ∨ (decV s (i : Int)).2.2.2.2 = 110 ∨ (decV s (i : Int)).2.2.2.2 = 111):=by
 have hv : decV s (i : Int) = decOut s (rdAll (lft s i)).1 (rdAll (lft s i)).2:=by unfold decV;rw [if_neg (fun h=>by omega),Int.toNat_natCast]
 rw [hv]
 unfold decOut
 simp only
 split
 ·exact ⟨by simp only;omega,.inr (.inl rfl)⟩
 split
 ·exact ⟨by simp only;omega,.inl rfl⟩
 split
 ·exact ⟨by simp only;omega,.inr (.inr rfl)⟩
 exact ⟨by simp only;omega,.inl rfl⟩
theorem of_ev (s : ByteArray) (hs : s.size ≤ 1099511627776) : ∃ r,decimal_Of.f s = some r ∧ Ev (fun k=>quarryref11_Of.f k s) r ∧ (r.2.2.2 = 0 ∨ r.2.2.2 = 110 ∨ r.2.2.2 = 111):=by
 have hr:=read_ev s hs 0 (by omega);obtain ⟨he,hc⟩:=decV_end s 0 (by omega)
 have hf : decimal_Read.f s 0 = some (decV s ((0 : Nat) : Int)):=by unfold decimal_Read.f;rw [if_pos hs];rfl
 generalize decV s ((0 : Nat) : Int) = d at *
 obtain ⟨d1,d2,d3,d4,d5⟩:=d
 simp only at he hc
 by_cases h110 : d5 = 110
 ·refine ⟨(false,⟨#[]⟩,0,110),?_,?_,.inr (.inl rfl)⟩
  ·unfold decimal_Of.f;rw [hf,Option.bind_some,if_pos h110]
  refine Ev.congr (fun k=>?_) (Ev.bind (f:=fun _ b=>if b.2.2.2.2 = 110 then some (false,(⟨#[]⟩ : ByteArray),0,110) else if b.2.2.2.1 = (s.size : Int) then some (b.1,b.2.1,b.2.2.1,b.2.2.2.2) else some (false,(⟨#[]⟩ : ByteArray),0,110)) hr ?_)
  ·rfl
  exact Ev.congr (fun k=>if_pos h110) (Ev.now _)
 by_cases hend : d4 < (s.size : Int)
 ·refine ⟨(false,⟨#[]⟩,0,110),?_,?_,.inr (.inl rfl)⟩
  ·unfold decimal_Of.f;rw [hf,Option.bind_some,if_neg h110,if_pos hend]
  refine Ev.congr (fun k=>?_) (Ev.bind (f:=fun _ b=>if b.2.2.2.2 = 110 then some (false,(⟨#[]⟩ : ByteArray),0,110) else if b.2.2.2.1 = (s.size : Int) then some (b.1,b.2.1,b.2.2.1,b.2.2.2.2) else some (false,(⟨#[]⟩ : ByteArray),0,110)) hr ?_)
  ·rfl
  exact Ev.congr (fun k=>(if_neg h110).trans (if_neg (by simp only;omega))) (Ev.now _)
 refine ⟨(d1,d2,d3,d5),?_,?_,hc⟩
 ·unfold decimal_Of.f;rw [hf,Option.bind_some,if_neg h110,if_neg hend]
 refine Ev.congr (fun k=>?_) (Ev.bind (f:=fun _ b=>if b.2.2.2.2 = 110 then some (false,(⟨#[]⟩ : ByteArray),0,110) else if b.2.2.2.1 = (s.size : Int) then some (b.1,b.2.1,b.2.2.1,b.2.2.2.2) else some (false,(⟨#[]⟩ : ByteArray),0,110)) hr ?_)
 ·rfl
 exact Ev.congr (fun k=>(if_neg h110).trans (if_pos (by simp only;omega))) (Ev.now _)
end Go.Proofs.YtlgamjgdkljfiacGreatDoor.QDecWritePretties
namespace Go.Proofs.YtlgamjgdkljfiacGreatDoor.QUtfWritePretties
open Go.RowKit Go.Proofs.YtlgamjgdkljfiacGreatDoor.PWritePretties Go.Proofs.YtlgamjgdkljfiacGreatDoorW.PrintWords Go.Proofs.YtlgamjgdkljfiacGreatDoorW.PrintLast
set_option linter.unusedVariables false
set_option linter.unusedSimpArgs false
theorem w64 (n : Int) (h : -9223372036854775808 ≤ n) (h2 : n ≤ 9223372036854775807) : wrap64 n = n:=by unfold wrap64;omega
theorem w32 (n : Int) (h : -2147483648 ≤ n) (h2 : n ≤ 2147483647) : wrap32 n = n:=by unfold wrap32;omega
def sizeV (c : Int) : Int:=if c < 0 then 0 else if c > 1114111 then 0 else if 55296 ≤ c ∧ c ≤ 57343 then 0 else if c < 128 then 1 else if c < 2048 then 2 else if c < 65536 then 3 else 4
theorem size_ev (c : Int) : Ev (fun k=>quarryref05_Size.f k c) (sizeV c):=by
 have j (b : Bool) : Ev (fun k=>quarryref05_Size.j0 k c b) (if b = true then 0 else if c < 128 then 1 else if c < 2048 then 2 else if c < 65536 then 3 else 4):=by
  refine Ev.step (f:=fun _=>some _) (fun k=>?_) (Ev.now _);rw [quarryref05_Size.j0];cases b
  ·rw [if_neg (by decide),if_neg Bool.false_ne_true]
   by_cases h1 : c < 128
   ·rw [if_pos h1,if_pos h1]
   by_cases h2 : c < 2048
   ·rw [if_neg h1,if_neg h1,if_pos h2,if_pos h2]
   by_cases h3 : c < 65536
   ·rw [if_neg h1,if_neg h1,if_neg h2,if_neg h2,if_pos h3,if_pos h3]
   rw [if_neg h1,if_neg h1,if_neg h2,if_neg h2,if_neg h3,if_neg h3]
  rw [if_pos rfl,if_pos rfl]
 unfold sizeV
 by_cases h0 : c < 0
 ·rw [if_pos h0];exact Ev.congr (fun k=>by unfold quarryref05_Size.f;rw [if_pos h0]) (j true)
 rw [if_neg h0]
 by_cases h1 : c > 1114111
 ·rw [if_pos h1];exact Ev.congr (fun k=>by unfold quarryref05_Size.f;rw [if_neg h0,if_pos h1]) (j true)
 rw [if_neg h1]
 by_cases h2 : c ≥ 55296
 ·by_cases h3 : c ≤ 57343
  ·rw [if_pos ⟨h2,h3⟩];exact Ev.congr (fun k=>by unfold quarryref05_Size.f;rw [if_neg h0,if_neg h1,if_pos h2,decide_eq_true h3]) (j true)
  rw [if_neg (fun h=>h3 h.2)];exact Ev.congr (fun k=>by unfold quarryref05_Size.f;rw [if_neg h0,if_neg h1,if_pos h2,decide_eq_false h3]) (j false)
 rw [if_neg (fun h=>h2 h.1)];exact Ev.congr (fun k=>by unfold quarryref05_Size.f;rw [if_neg h0,if_neg h1,if_neg h2]) (j false)
theorem hit_ev (b : List Int) (size high c0 : Int) (hh : high ≤ 2147483646) (h0 : c0 ≤ high) (hs : sizeV c0 = size) : ∀ (c : Int),0 ≤ c → c ≤ c0 → (∀ x,c ≤ x → x < c0 → ¬ sizeV x = size) → (c ≤ 55296 → 55296 < c0 → high > 57343 → 57344 ≤ c0) →
  Ev (fun k=>quarryref05_Begins.l0 k b size high c) (true,c0,((b.length : Int) == size))
 | c,hc,hcc,hn,hj=>by
  by_cases he : c = c0
  ·subst he;refine Ev.step (f:=fun k=>(quarryref05_Size.f k c).bind fun t=>if t = size then some (true,c,((b.length : Int) == size)) else (if c = 55296 then (if high > 57343 then (quarryref05_Begins.l0 k b size high (57343 + 1)) else (quarryref05_Begins.l0 k b size high (wrap64 (c + 1)))) else (quarryref05_Begins.l0 k b size high (wrap64 (c + 1))))) (fun k=>?_) (Ev.bind (size_ev c) ?_)
   ·rw [quarryref05_Begins.l0,if_pos h0,w32 c (by omega) (by omega)]
   exact Ev.congr (fun k=>if_pos hs) (Ev.now _)
  have hlt : c < c0:=by omega
  have hns:=hn c (Int.le_refl _) hlt;refine Ev.step (f:=fun k=>(quarryref05_Size.f k c).bind fun t=>if t = size then some (true,c,((b.length : Int) == size)) else (if c = 55296 then (if high > 57343 then (quarryref05_Begins.l0 k b size high (57343 + 1)) else (quarryref05_Begins.l0 k b size high (wrap64 (c + 1)))) else (quarryref05_Begins.l0 k b size high (wrap64 (c + 1))))) (fun k=>?_) (Ev.bind (size_ev c) ?_)
  ·rw [quarryref05_Begins.l0,if_pos (by omega),w32 c (by omega) (by omega)]
  refine Ev.congr (fun k=>if_neg hns) ?_
  by_cases hj1 : c = 55296
  ·by_cases hj2 : high > 57343
   ·have:=hj (by omega) (by omega) hj2;refine Ev.congr (fun k=>(if_pos hj1).trans (if_pos hj2)) ?_;exact hit_ev b size high c0 hh h0 hs 57344 (by omega) (by omega) (fun x h1 h2=>hn x (by omega) h2) (fun h=>by omega)
   refine Ev.congr (fun k=>(if_pos hj1).trans ((if_neg hj2).trans (by rw [w64 _ (by omega) (by omega)]))) ?_;exact hit_ev b size high c0 hh h0 hs (c + 1) (by omega) (by omega) (fun x h1 h2=>hn x (by omega) h2) (fun h=>by omega)
  refine Ev.congr (fun k=>(if_neg hj1).trans (by rw [w64 _ (by omega) (by omega)])) ?_;exact hit_ev b size high c0 hh h0 hs (c + 1) (by omega) (by omega) (fun x h1 h2=>hn x (by omega) h2) (fun h h2 h3=>hj (by omega) h2 h3)
 termination_by c=>(c0 - c).toNat
theorem miss_ev (b : List Int) (size high : Int) (hh : high ≤ 2147483646) : ∀ (c : Int),0 ≤ c → (∀ x,c ≤ x → x ≤ high → ¬ sizeV x = size) →
  Ev (fun k=>quarryref05_Begins.l0 k b size high c) (false,0,false)
 | c,hc,hn=>by
  by_cases he : c ≤ high
  ·have hns:=hn c (Int.le_refl _) he;refine Ev.step (f:=fun k=>(quarryref05_Size.f k c).bind fun t=>if t = size then some (true,c,((b.length : Int) == size)) else (if c = 55296 then (if high > 57343 then (quarryref05_Begins.l0 k b size high (57343 + 1)) else (quarryref05_Begins.l0 k b size high (wrap64 (c + 1)))) else (quarryref05_Begins.l0 k b size high (wrap64 (c + 1))))) (fun k=>?_) (Ev.bind (size_ev c) ?_)
   ·rw [quarryref05_Begins.l0,if_pos he,w32 c (by omega) (by omega)]
   refine Ev.congr (fun k=>if_neg hns) ?_
   by_cases hj1 : c = 55296
   ·by_cases hj2 : high > 57343
    ·refine Ev.congr (fun k=>(if_pos hj1).trans (if_pos hj2)) ?_;exact miss_ev b size high hh 57344 (by omega) (fun x h1 h2=>hn x (by omega) h2)
    refine Ev.congr (fun k=>(if_pos hj1).trans ((if_neg hj2).trans (by rw [w64 _ (by omega) (by omega)]))) ?_;exact miss_ev b size high hh (c + 1) (by omega) (fun x h1 h2=>hn x (by omega) h2)
   refine Ev.congr (fun k=>(if_neg hj1).trans (by rw [w64 _ (by omega) (by omega)])) ?_;exact miss_ev b size high hh (c + 1) (by omega) (fun x h1 h2=>hn x (by omega) h2)
  refine Ev.step (f:=fun _=>some _) (fun k=>?_) (Ev.now _);rw [quarryref05_Begins.l0,if_neg he]
 termination_by c=>(high + 1 - c).toNat
def fillV : Nat → Int → Int → Int × Int
 | 0,low,high=>(low,high)
 | d + 1,low,high=>fillV d (low * 64) (high * 64 + 63)
theorem fill_mono : ∀ (e : Nat) (a b : Int),0 ≤ a → 0 ≤ b → b ≤ (fillV e a b).2
 | 0,a,b,_,_=>Int.le_refl _
 | e + 1,a,b,ha,hb=>by
  have:=fill_mono e (a * 64) (b * 64 + 63) (by omega) (by omega)
  show b ≤ (fillV e _ _).2
  omega
theorem fill_ev (size : Int) : ∀ (d : Nat) (low high i : Int),size - i = d → 0 ≤ i → size ≤ 4 → 0 ≤ low → low ≤ high → (fillV d low high).2 ≤ 2097152 → Ev (fun k=>quarryref05_span.l1 k size low high i) (size,(fillV d low high).1,(fillV d low high).2)
 | 0,low,high,i,hd,hi,hs,l0,l1,hf=>by
  refine Ev.step (f:=fun _=>some _) (fun k=>?_) (Ev.now _);rw [quarryref05_span.l1,if_neg (by omega)];rfl
 | d + 1,low,high,i,hd,hi,hs,l0,l1,hf=>by
  have hm:=fill_mono d (low * 64) (high * 64 + 63) (by omega) (by omega);have hf' : (fillV d (low * 64) (high * 64 + 63)).2 ≤ 2097152:=hf;refine Ev.step (fun k=>?_) (fill_ev size d (low * 64) (high * 64 + 63) (i + 1) (by omega) (by omega) hs (by omega) (by omega) hf');rw [quarryref05_span.l1,if_pos (by omega),w64 (low * 64) (by omega) (by omega),w64 (high * 64) (by omega) (by omega),w64 (high * 64 + 63) (by omega) (by omega),w64 (i + 1) (by omega) (by omega)]
def headV (x : Int) : Int × Int:=if x < 128 then (1,x) else if x < 192 then (0,0) else if x < 224 then (2,x - 192) else if x < 240 then (3,x - 224) else if x < 248 then (4,x - 240) else (0,0)
section
variable {b : List Int} {R : Int × Int × Int}
theorem span_head {x : Int} (hx0 : 0 ≤ x) (hx1 : x ≤ 255) (hl : 0 < b.length) (hb : rd b 0 = x) (h : Ev (fun k=>quarryref05_span.j6 k b (headV x).1 (headV x).2) R) : Ev (fun k=>quarryref05_span.f k b) R:=by
 have wx : wrap64 (rd b 0) = x:=by rw [hb,w64 x (by omega) (by omega)]
 have w1 : wrap64 (x - 192) = x - 192:=w64 _ (by omega) (by omega);have w2 : wrap64 (x - 224) = x - 224:=w64 _ (by omega) (by omega);have w3 : wrap64 (x - 240) = x - 240:=w64 _ (by omega) (by omega)
 have h5 (sz lw : Int) (c : Bool) (hc : c = decide (240 ≤ x ∧ x < 248)) (hh : headV x = if c = true then (4,x - 240) else (sz,lw)) : Ev (fun k=>quarryref05_span.j5 k b x sz lw c) R:=by
  refine Ev.step (fun k=>?_) h;rw [quarryref05_span.j5,hh,w3];cases c
  ·rw [if_neg (by decide),if_neg (by decide)]
  rw [if_pos rfl,if_pos rfl]
 have h4 (sz lw : Int) (hh : headV x = if 240 ≤ x ∧ x < 248 then (4,x - 240) else (sz,lw)) : Ev (fun k=>quarryref05_span.j4 k b x sz lw) R:=by
  refine Ev.step (fun k=>?_) (h5 sz lw (decide (240 ≤ x ∧ x < 248)) rfl (by rw [hh];simp));rw [quarryref05_span.j4]
  by_cases hx : x ≥ 240
  ·rw [if_pos hx]
   congr 1
   rw [decide_eq_decide];omega
  rw [if_neg hx]
  congr 1
  rw [eq_comm,decide_eq_false_iff_not];omega
 have h3 (sz lw : Int) (c : Bool) (hc : c = decide (224 ≤ x ∧ x < 240)) (hh : headV x = if 240 ≤ x ∧ x < 248 then (4,x - 240) else if c = true then (3,x - 224) else (sz,lw)) : Ev (fun k=>quarryref05_span.j3 k b x sz lw c) R:=by
  cases c with
  | true=>exact Ev.step (fun k=>by rw [quarryref05_span.j3,if_pos rfl,w2]) (h4 3 (x - 224) (by rw [hh];rfl))
  | false=>exact Ev.step (fun k=>by rw [quarryref05_span.j3,if_neg (by decide)]) (h4 sz lw (by rw [hh];rfl))
 have h2 (sz lw : Int) (hh : headV x = if 240 ≤ x ∧ x < 248 then (4,x - 240) else if 224 ≤ x ∧ x < 240 then (3,x - 224) else (sz,lw)) : Ev (fun k=>quarryref05_span.j2 k b x sz lw) R:=by
  refine Ev.step (fun k=>?_) (h3 sz lw (decide (224 ≤ x ∧ x < 240)) rfl (by rw [hh];simp));rw [quarryref05_span.j2]
  by_cases hx : x ≥ 224
  ·rw [if_pos hx]
   congr 1
   rw [decide_eq_decide];omega
  rw [if_neg hx]
  congr 1
  rw [eq_comm,decide_eq_false_iff_not];omega
 have h1 (sz lw : Int) (c : Bool) (hc : c = decide (192 ≤ x ∧ x < 224)) (hh : headV x = if 240 ≤ x ∧ x < 248 then (4,x - 240) else if 224 ≤ x ∧ x < 240 then (3,x - 224) else if c = true then (2,x - 192) else (sz,lw)) : Ev (fun k=>quarryref05_span.j1 k b x sz lw c) R:=by
  cases c with
  | true=>exact Ev.step (fun k=>by rw [quarryref05_span.j1,if_pos rfl,w1]) (h2 2 (x - 192) (by rw [hh];rfl))
  | false=>exact Ev.step (fun k=>by rw [quarryref05_span.j1,if_neg (by decide)]) (h2 sz lw (by rw [hh];rfl))
 have h0 (sz lw : Int) (hh : headV x = if 240 ≤ x ∧ x < 248 then (4,x - 240) else if 224 ≤ x ∧ x < 240 then (3,x - 224) else if 192 ≤ x ∧ x < 224 then (2,x - 192) else (sz,lw)) : Ev (fun k=>quarryref05_span.j0 k b x sz lw) R:=by
  refine Ev.step (fun k=>?_) (h1 sz lw (decide (192 ≤ x ∧ x < 224)) rfl (by rw [hh];simp));rw [quarryref05_span.j0]
  by_cases hx : x ≥ 192
  ·rw [if_pos hx]
   congr 1
   rw [decide_eq_decide];omega
  rw [if_neg hx]
  congr 1
  rw [eq_comm,decide_eq_false_iff_not];omega
 have hv : headV x = if 240 ≤ x ∧ x < 248 then (4,x - 240) else if 224 ≤ x ∧ x < 240 then (3,x - 224) else if 192 ≤ x ∧ x < 224 then (2,x - 192) else (if x < 128 then (1,x) else (0,0)):=by
  unfold headV
  by_cases a1 : x < 128
  ·rw [if_pos a1,if_neg (by omega),if_neg (by omega),if_neg (by omega),if_pos a1]
  rw [if_neg a1]
  by_cases a2 : x < 192
  ·rw [if_pos a2,if_neg (by omega),if_neg (by omega),if_neg (by omega),if_neg a1]
  rw [if_neg a2]
  by_cases a3 : x < 224
  ·rw [if_pos a3,if_neg (by omega),if_neg (by omega),if_pos (by omega)]
  rw [if_neg a3]
  by_cases a4 : x < 240
  ·rw [if_pos a4,if_neg (by omega),if_pos (by omega)]
  rw [if_neg a4]
  by_cases a5 : x < 248
  ·rw [if_pos a5,if_pos (by omega)]
  rw [if_neg a5,if_neg (by omega),if_neg (by omega),if_neg (by omega),if_neg a1]
 by_cases hx : x < 128
 ·refine Ev.congr (fun k=>?_) (h0 1 x (by rw [hv,if_pos hx]))
  unfold quarryref05_span.f
  rw [if_pos (by omega),wx,if_pos hx]
 refine Ev.congr (fun k=>?_) (h0 0 0 (by rw [hv,if_neg hx]))
 unfold quarryref05_span.f
 rw [if_pos (by omega),wx,if_neg hx]
theorem span_none {low : Int} : Ev (fun k=>quarryref05_span.j6 k b 0 low) (0,1,0):=by
 refine Ev.step (f:=fun _=>some _) (fun k=>?_) (Ev.now _);rw [quarryref05_span.j6,if_pos rfl]
theorem span_some {size low : Int} (h0 : ¬ size = 0) (h : Ev (fun k=>quarryref05_span.l0 k b size low 1) R) : Ev (fun k=>quarryref05_span.j6 k b size low) R:=by
 refine Ev.step (fun k=>?_) h;rw [quarryref05_span.j6,if_neg h0]
theorem span_next {size low i y : Int} (hi : i < (b.length : Int)) (h0 : 0 ≤ i) (hs : i < size) (hy : rd b i = y) (y0 : 128 ≤ y) (y1 : y < 192) (l0 : 0 ≤ low) (l1 : low ≤ 2097152) (hz : i ≤ 4) (h : Ev (fun k=>quarryref05_span.l0 k b size (low * 64 + y - 128) (i + 1)) R) : Ev (fun k=>quarryref05_span.l0 k b size low i) R:=by
 have wy : wrap64 (rd b i) = y:=by rw [hy,w64 y (by omega) (by omega)]
 refine Ev.step (fun k=>?_) h;rw [quarryref05_span.l0,if_pos hi,if_pos h0,if_neg (by omega),wy,if_neg (by omega),if_neg (by omega),w64 (low * 64) (by omega) (by omega),w64 (low * 64 + y) (by omega) (by omega),w64 (low * 64 + y - 128) (by omega) (by omega),w64 (i + 1) (by omega) (by omega)]
theorem span_bad {size low i y : Int} (hi : i < (b.length : Int)) (h0 : 0 ≤ i) (hs : i < size) (hy : rd b i = y) (hyb : y < 128 ∨ 192 ≤ y) (y0 : 0 ≤ y) (y1 : y ≤ 255) : Ev (fun k=>quarryref05_span.l0 k b size low i) (0,1,0):=by
 have wy : wrap64 (rd b i) = y:=by rw [hy,w64 y (by omega) (by omega)]
 refine Ev.step (f:=fun _=>some _) (fun k=>?_) (Ev.now _);rw [quarryref05_span.l0,if_pos hi,if_pos h0,if_neg (by omega),wy]
 by_cases h : y < 128
 ·rw [if_pos h]
 rw [if_neg h,if_pos (by omega)]
theorem span_last {size low i : Int} (hi : i = (b.length : Int)) (h : Ev (fun k=>quarryref05_span.l1 k size low low i) R) : Ev (fun k=>quarryref05_span.l0 k b size low i) R:=by
 refine Ev.step (fun k=>?_) h;rw [quarryref05_span.l0,if_neg (by omega),hi]
end
theorem begins_of {b : List Int} {size low high : Int} {R : Bool × Int × Bool} (hs : Ev (fun k=>quarryref05_span.f k b) (size,low,high)) (h : Ev (fun k=>quarryref05_Begins.l0 k b size high low) R) : Ev (fun k=>quarryref05_Begins.f k b) R :=
 Ev.congr (f:=fun k=>(quarryref05_span.f k b).bind fun t=>quarryref05_Begins.l0 k b t.1 t.2.2 t.2.1) (fun _=>rfl) (Ev.bind (f:=fun k t=>quarryref05_Begins.l0 k b t.1 t.2.2 t.2.1) hs h)
theorem begins_none {b : List Int} (hs : Ev (fun k=>quarryref05_span.f k b) (0,1,0)) : Ev (fun k=>quarryref05_Begins.f k b) (false,0,false) :=
 begins_of hs (miss_ev b 0 0 (by omega) 1 (by omega) (fun x h1 h2=>by omega))
theorem sizeV_spec (c : Int) : (sizeV c = 0 ∧ (c < 0 ∨ c > 1114111 ∨ (55296 ≤ c ∧ c ≤ 57343))) ∨ (sizeV c = 1 ∧ 0 ≤ c ∧ c < 128) ∨ (sizeV c = 2 ∧ 128 ≤ c ∧ c < 2048) ∨ (sizeV c = 3 ∧ 2048 ≤ c ∧ c < 65536 ∧ ¬ (55296 ≤ c ∧ c ≤ 57343)) ∨ (sizeV c = 4 ∧ 65536 ≤ c ∧ c ≤ 1114111):=by
 unfold sizeV
 by_cases h0 : c < 0
 ·rw [if_pos h0];exact .inl ⟨rfl,.inl h0⟩
 rw [if_neg h0]
 by_cases h1 : c > 1114111
 ·rw [if_pos h1];exact .inl ⟨rfl,.inr (.inl h1)⟩
 rw [if_neg h1]
 by_cases h2 : 55296 ≤ c ∧ c ≤ 57343
 ·rw [if_pos h2];exact .inl ⟨rfl,.inr (.inr h2)⟩
 rw [if_neg h2]
 by_cases h3 : c < 128
 ·rw [if_pos h3];exact .inr (.inl ⟨rfl,by omega,h3⟩)
 rw [if_neg h3]
 by_cases h4 : c < 2048
 ·rw [if_pos h4];exact .inr (.inr (.inl ⟨rfl,by omega,h4⟩))
 rw [if_neg h4]
 by_cases h5 : c < 65536
 ·rw [if_pos h5];exact .inr (.inr (.inr (.inl ⟨rfl,by omega,h5,h2⟩)))
 rw [if_neg h5];exact .inr (.inr (.inr (.inr ⟨rfl,by omega,by omega⟩)))
theorem u8Begin_spec (x : Int) : (x < 128 ∧ u8Begin x = some (0,128,191)) ∨ (128 ≤ x ∧ x < 194 ∧ u8Begin x = none) ∨ (194 ≤ x ∧ x < 224 ∧ u8Begin x = some (1,128,191)) ∨ (x = 224 ∧ u8Begin x = some (2,160,191)) ∨ (x = 237 ∧ u8Begin x = some (2,128,159)) ∨ (225 ≤ x ∧ x < 240 ∧ x ≠ 237 ∧ u8Begin x = some (2,128,191)) ∨ (x = 240 ∧ u8Begin x = some (3,144,191)) ∨ (241 ≤ x ∧ x < 244 ∧ u8Begin x = some (3,128,191)) ∨ (x = 244 ∧ u8Begin x = some (3,128,143)) ∨ (245 ≤ x ∧ u8Begin x = none):=by
 unfold u8Begin
 by_cases h1 : x < 128
 ·rw [if_pos h1];exact .inl ⟨h1,rfl⟩
 rw [if_neg h1]
 by_cases h2 : x < 194
 ·rw [if_pos h2];exact .inr (.inl ⟨by omega,h2,rfl⟩)
 rw [if_neg h2]
 by_cases h3 : x < 224
 ·rw [if_pos h3];exact .inr (.inr (.inl ⟨by omega,h3,rfl⟩))
 rw [if_neg h3]
 by_cases h4 : x = 224
 ·rw [if_pos h4];exact .inr (.inr (.inr (.inl ⟨h4,rfl⟩)))
 rw [if_neg h4]
 by_cases h5 : x = 237
 ·rw [if_pos h5];exact .inr (.inr (.inr (.inr (.inl ⟨h5,rfl⟩))))
 rw [if_neg h5]
 by_cases h6 : x < 240
 ·rw [if_pos h6];exact .inr (.inr (.inr (.inr (.inr (.inl ⟨by omega,h6,h5,rfl⟩)))))
 rw [if_neg h6]
 by_cases h7 : x = 240
 ·rw [if_pos h7];exact .inr (.inr (.inr (.inr (.inr (.inr (.inl ⟨h7,rfl⟩))))))
 rw [if_neg h7]
 by_cases h8 : x < 244
 ·rw [if_pos h8];exact .inr (.inr (.inr (.inr (.inr (.inr (.inr (.inl ⟨by omega,h8,rfl⟩)))))))
 rw [if_neg h8]
 by_cases h9 : x = 244
 ·rw [if_pos h9];exact .inr (.inr (.inr (.inr (.inr (.inr (.inr (.inr (.inl ⟨h9,rfl⟩))))))))
 rw [if_neg h9];exact .inr (.inr (.inr (.inr (.inr (.inr (.inr (.inr (.inr ⟨by omega,rfl⟩))))))))
def St (p : List Int) (want lo hi : Int) : Prop :=
 (p = [] ∧ want = 0) ∨
 (∃ x,p = [x] ∧ 194 ≤ x ∧ x ≤ 244 ∧ u8Begin x = some (want,lo,hi)) ∨
 (∃ x y a l h,p = [x,y] ∧ 224 ≤ x ∧ x ≤ 244 ∧ u8Begin x = some (a,l,h) ∧ l ≤ y ∧ y ≤ h ∧ want = a - 1 ∧ lo = 128 ∧ hi = 191) ∨
 (∃ x y z l h,p = [x,y,z] ∧ 240 ≤ x ∧ x ≤ 244 ∧ u8Begin x = some (3,l,h) ∧ l ≤ y ∧ y ≤ h ∧ 128 ≤ z ∧ z ≤ 191 ∧ want = 1 ∧ lo = 128 ∧ hi = 191)
def Ok (p : List Int) (want lo hi c : Int) : Prop :=
 (u8Step want lo hi c = none ∧ Ev (fun k=>quarryref05_Begins.f k (p ++ [c])) (false,0,false)) ∨ ∃ w l h r,u8Step want lo hi c = some (w,l,h) ∧ 0 ≤ w ∧ Ev (fun k=>quarryref05_Begins.f k (p ++ [c])) (true,r,decide (w = 0)) ∧ (w ≠ 0 → St (p ++ [c]) w l h)
theorem begins_hit {b : List Int} {size low high : Int} (c0 : Int) (m : Bool) (hs : Ev (fun k=>quarryref05_span.f k b) (size,low,high)) (hm : ((b.length : Int) == size) = m) (h1 : high ≤ 2147483646) (h2 : c0 ≤ high) (h3 : sizeV c0 = size) (h4 : 0 ≤ low) (h5 : low ≤ c0) (h6 : ∀ x,low ≤ x → x < c0 → ¬ sizeV x = size) (h7 : low ≤ 55296 → 55296 < c0 → high > 57343 → 57344 ≤ c0) : Ev (fun k=>quarryref05_Begins.f k b) (true,c0,m):=by
 subst hm;exact begins_of hs (hit_ev b size high c0 h1 h2 h3 low h4 h5 h6 h7)
theorem begins_miss {b : List Int} {size low high : Int} (hs : Ev (fun k=>quarryref05_span.f k b) (size,low,high)) (h1 : high ≤ 2147483646) (h4 : 0 ≤ low) (h6 : ∀ x,low ≤ x → x ≤ high → ¬ sizeV x = size) : Ev (fun k=>quarryref05_Begins.f k b) (false,0,false) :=
 begins_of hs (miss_ev b size high h1 low h4 h6)
theorem head_of (x : Int) : (x < 128 ∧ headV x = (1,x)) ∨ (128 ≤ x ∧ x < 192 ∧ headV x = (0,0)) ∨ (192 ≤ x ∧ x < 224 ∧ headV x = (2,x - 192)) ∨ (224 ≤ x ∧ x < 240 ∧ headV x = (3,x - 224)) ∨ (240 ≤ x ∧ x < 248 ∧ headV x = (4,x - 240)) ∨ (248 ≤ x ∧ headV x = (0,0)):=by
 unfold headV
 by_cases a1 : x < 128
 ·rw [if_pos a1];exact .inl ⟨a1,rfl⟩
 rw [if_neg a1]
 by_cases a2 : x < 192
 ·rw [if_pos a2];exact .inr (.inl ⟨by omega,a2,rfl⟩)
 rw [if_neg a2]
 by_cases a3 : x < 224
 ·rw [if_pos a3];exact .inr (.inr (.inl ⟨by omega,a3,rfl⟩))
 rw [if_neg a3]
 by_cases a4 : x < 240
 ·rw [if_pos a4];exact .inr (.inr (.inr (.inl ⟨by omega,a4,rfl⟩)))
 rw [if_neg a4]
 by_cases a5 : x < 248
 ·rw [if_pos a5];exact .inr (.inr (.inr (.inr (.inl ⟨by omega,a5,rfl⟩))))
 rw [if_neg a5];exact .inr (.inr (.inr (.inr (.inr ⟨by omega,rfl⟩))))
theorem span1 (x : Int) (h0 : 0 ≤ x) (h1 : x ≤ 255) : (x < 128 → Ev (fun k=>quarryref05_span.f k [x]) (1,x,x)) ∧ (192 ≤ x → x < 224 → Ev (fun k=>quarryref05_span.f k [x]) (2,(x - 192) * 64,(x - 192) * 64 + 63)) ∧ (224 ≤ x → x < 240 → Ev (fun k=>quarryref05_span.f k [x]) (3,(x - 224) * 4096,(x - 224) * 4096 + 4095)) ∧ (240 ≤ x → x < 248 → Ev (fun k=>quarryref05_span.f k [x]) (4,(x - 240) * 262144,(x - 240) * 262144 + 262143)) ∧ ((128 ≤ x ∧ x < 192) ∨ 248 ≤ x → Ev (fun k=>quarryref05_span.f k [x]) (0,1,0)):=by
 have hd {R : Int × Int × Int}:=span_head (b:=[x]) (R:=R) h0 h1 (by simp) rfl;have e:=head_of x;refine ⟨fun a=>?_,fun a b=>?_,fun a b=>?_,fun a b=>?_,fun a=>?_⟩
 ·have eh : headV x = (1,x):=by rcases e with ⟨_,e⟩|⟨_,_,e⟩|⟨_,_,e⟩|⟨_,_,e⟩|⟨_,_,e⟩|⟨_,e⟩ <;> first|exact e|(exfalso;omega)
  refine hd ?_;rw [eh];exact span_some (by omega) (span_last rfl (fill_ev 1 0 x x 1 (by omega) (by omega) (by omega) h0 (Int.le_refl _) (by show x ≤ _;omega)))
 ·have eh : headV x = (2,x - 192):=by rcases e with ⟨_,e⟩|⟨_,_,e⟩|⟨_,_,e⟩|⟨_,_,e⟩|⟨_,_,e⟩|⟨_,e⟩ <;> first|exact e|(exfalso;omega)
  refine hd ?_;rw [eh];have h:=fill_ev 2 1 (x - 192) (x - 192) 1 (by omega) (by omega) (by omega) (by omega) (Int.le_refl _) (by show (x - 192) * 64 + 63 ≤ _;omega);exact span_some (by omega) (span_last rfl h)
 ·have eh : headV x = (3,x - 224):=by rcases e with ⟨_,e⟩|⟨_,_,e⟩|⟨_,_,e⟩|⟨_,_,e⟩|⟨_,_,e⟩|⟨_,e⟩ <;> first|exact e|(exfalso;omega)
  refine hd ?_;rw [eh];have h:=fill_ev 3 2 (x - 224) (x - 224) 1 (by omega) (by omega) (by omega) (by omega) (Int.le_refl _) (by show ((x - 224) * 64 + 63) * 64 + 63 ≤ _;omega)
  have e1 : (fillV 2 (x - 224) (x - 224)).1 = (x - 224) * 4096:=by show (x - 224) * 64 * 64 = _;omega
  have e2 : (fillV 2 (x - 224) (x - 224)).2 = (x - 224) * 4096 + 4095:=by show ((x - 224) * 64 + 63) * 64 + 63 = _;omega
  rw [e1,e2] at h
  exact span_some (by omega) (span_last rfl h)
 ·have eh : headV x = (4,x - 240):=by rcases e with ⟨_,e⟩|⟨_,_,e⟩|⟨_,_,e⟩|⟨_,_,e⟩|⟨_,_,e⟩|⟨_,e⟩ <;> first|exact e|(exfalso;omega)
  refine hd ?_;rw [eh];have h:=fill_ev 4 3 (x - 240) (x - 240) 1 (by omega) (by omega) (by omega) (by omega) (Int.le_refl _) (by show (((x - 240) * 64 + 63) * 64 + 63) * 64 + 63 ≤ _;omega)
  have e1 : (fillV 3 (x - 240) (x - 240)).1 = (x - 240) * 262144:=by show (x - 240) * 64 * 64 * 64 = _;omega
  have e2 : (fillV 3 (x - 240) (x - 240)).2 = (x - 240) * 262144 + 262143:=by show (((x - 240) * 64 + 63) * 64 + 63) * 64 + 63 = _;omega
  rw [e1,e2] at h
  exact span_some (by omega) (span_last rfl h)
 have eh : headV x = (0,0):=by rcases e with ⟨_,e⟩|⟨_,_,e⟩|⟨_,_,e⟩|⟨_,_,e⟩|⟨_,_,e⟩|⟨_,e⟩ <;> first|exact e|(exfalso;omega)
 refine hd ?_;rw [eh];exact span_none
theorem ok1 (lo hi c : Int) (h0 : 0 ≤ c) (h1 : c ≤ 255) : Ok [] 0 lo hi c:=by
 obtain ⟨s1,s2,s3,s4,s5⟩:=span1 c h0 h1
 have hu : u8Step 0 lo hi c = u8Begin c:=by unfold u8Step;rw [if_pos rfl]
 show (u8Step 0 lo hi c = none ∧ Ev (fun k=>quarryref05_Begins.f k [c]) (false,0,false)) ∨ ∃ w l h r,u8Step 0 lo hi c = some (w,l,h) ∧ 0 ≤ w ∧ Ev (fun k=>quarryref05_Begins.f k [c]) (true,r,decide (w = 0)) ∧ (w ≠ 0 → St [c] w l h)
 rw [hu];have hsp:=u8Begin_spec c;have sp:=sizeV_spec
 rcases hsp with ⟨a,e⟩|⟨a,b,e⟩|⟨a,b,e⟩|⟨a,e⟩|⟨a,e⟩|⟨a,b,b2,e⟩|⟨a,e⟩|⟨a,b,e⟩|⟨a,e⟩|⟨a,e⟩
 ·exact .inr ⟨0,128,191,c,e,Int.le_refl _,begins_hit c true (s1 a) rfl (by omega) (Int.le_refl _) (by have:=sp c;omega) h0 (Int.le_refl _) (fun x h1 h2=>by omega) (fun h1 h2 h3=>by omega),fun h=>absurd rfl h⟩
 ·refine .inl ⟨e,?_⟩
  by_cases hc : c < 192
  ·exact begins_none (s5 (.inl ⟨a,hc⟩))
  exact begins_miss (s2 (by omega) (by omega)) (by omega) (by omega) (fun x h1 h2 h3=>by have:=sp x;omega)
 ·exact .inr ⟨1,128,191,(c - 192) * 64,e,by omega,begins_hit _ false (s2 (by omega) b) rfl (by omega) (by omega) (by have:=sp ((c - 192) * 64);omega) (by omega) (Int.le_refl _) (fun x h1 h2=>by omega) (fun h1 h2 h3=>by omega),fun _=>.inr (.inl ⟨c,rfl,a,by omega,e⟩)⟩
 ·exact .inr ⟨2,160,191,2048,e,by omega,begins_hit 2048 false (s3 (by omega) (by omega)) rfl (by omega) (by omega) (by have:=sp 2048;omega) (by omega) (by omega) (fun x h1 h2 h3=>by have:=sp x;omega) (fun h1 h2 h3=>by omega),fun _=>.inr (.inl ⟨c,rfl,by omega,by omega,e⟩)⟩
 ·exact .inr ⟨2,128,159,(c - 224) * 4096,e,by omega,begins_hit _ false (s3 (by omega) (by omega)) rfl (by omega) (by omega) (by have:=sp ((c - 224) * 4096);omega) (by omega) (Int.le_refl _) (fun x h1 h2 h3=>by omega) (fun h1 h2 h3=>by omega),fun _=>.inr (.inl ⟨c,rfl,by omega,by omega,e⟩)⟩
 ·exact .inr ⟨2,128,191,(c - 224) * 4096,e,by omega,begins_hit _ false (s3 (by omega) (by omega)) rfl (by omega) (by omega) (by have:=sp ((c - 224) * 4096);omega) (by omega) (Int.le_refl _) (fun x h1 h2 h3=>by omega) (fun h1 h2 h3=>by omega),fun _=>.inr (.inl ⟨c,rfl,by omega,by omega,e⟩)⟩
 ·exact .inr ⟨3,144,191,65536,e,by omega,begins_hit 65536 false (s4 (by omega) (by omega)) rfl (by omega) (by omega) (by have:=sp 65536;omega) (by omega) (by omega) (fun x h1 h2 h3=>by have:=sp x;omega) (fun h1 h2 h3=>by omega),fun _=>.inr (.inl ⟨c,rfl,by omega,by omega,e⟩)⟩
 ·exact .inr ⟨3,128,191,(c - 240) * 262144,e,by omega,begins_hit _ false (s4 (by omega) (by omega)) rfl (by omega) (by omega) (by have:=sp ((c - 240) * 262144);omega) (by omega) (Int.le_refl _) (fun x h1 h2 h3=>by omega) (fun h1 h2 h3=>by omega),fun _=>.inr (.inl ⟨c,rfl,by omega,by omega,e⟩)⟩
 ·exact .inr ⟨3,128,143,(c - 240) * 262144,e,by omega,begins_hit _ false (s4 (by omega) (by omega)) rfl (by omega) (by omega) (by have:=sp ((c - 240) * 262144);omega) (by omega) (Int.le_refl _) (fun x h1 h2 h3=>by omega) (fun h1 h2 h3=>by omega),fun _=>.inr (.inl ⟨c,rfl,by omega,by omega,e⟩)⟩
 refine .inl ⟨e,?_⟩
 by_cases hc : c < 248
 ·exact begins_miss (s4 (by omega) hc) (by omega) (by omega) (fun x h1 h2 h3=>by have:=sp x;omega)
 exact begins_none (s5 (.inr (by omega)))
theorem span2_1 (x y : Int) (x0 : 192 ≤ x) (x1 : x < 224) (y0 : 128 ≤ y) (y1 : y < 192) : Ev (fun k=>quarryref05_span.f k [x,y]) (2,((x - 192) * 64 + y - 128) * 1,((x - 192) * 64 + y - 128) * 1 + 0):=by
 have eh : headV x = (2,x - 192):=by rcases head_of x with ⟨_,e⟩|⟨_,_,e⟩|⟨_,_,e⟩|⟨_,_,e⟩|⟨_,_,e⟩|⟨_,e⟩ <;> first|exact e|(exfalso;omega)
 refine span_head (b:=[x,y]) (x:=x) (by omega) (by omega) (by simp) rfl ?_;rw [eh];have h:=fill_ev 2 0 ((x - 192) * 64 + y - 128) ((x - 192) * 64 + y - 128) 2 (by omega) (by omega) (by omega) (by omega) (Int.le_refl _) (by show ((x - 192) * 64 + y - 128) ≤ _;omega)
 have e1 : (fillV 0 ((x - 192) * 64 + y - 128) ((x - 192) * 64 + y - 128)).1 = ((x - 192) * 64 + y - 128) * 1:=by show ((x - 192) * 64 + y - 128) = _;omega
 have e2 : (fillV 0 ((x - 192) * 64 + y - 128) ((x - 192) * 64 + y - 128)).2 = ((x - 192) * 64 + y - 128) * 1 + 0:=by show ((x - 192) * 64 + y - 128) = _;omega
 rw [e1,e2] at h
 exact span_some (by omega) (span_next (y:=y) (i:=1) (by simp) (by omega) (by omega) rfl y0 y1 (by omega) (by omega) (by omega) <|  span_last rfl h)
theorem spanb2_0 (x  u : Int) (x0 : 192 ≤ x) (x1 : x < 224)  (u0 : 0 ≤ u) (u1 : u ≤ 255) (ub : u < 128 ∨ 192 ≤ u) : Ev (fun k=>quarryref05_span.f k [x,u]) (0,1,0):=by
 have eh : headV x = (2,x - 192):=by rcases head_of x with ⟨_,e⟩|⟨_,_,e⟩|⟨_,_,e⟩|⟨_,_,e⟩|⟨_,_,e⟩|⟨_,e⟩ <;> first|exact e|(exfalso;omega)
 refine span_head (b:=[x,u]) (x:=x) (by omega) (by omega) (by simp) rfl ?_;rw [eh];exact span_some (by omega) ( span_bad (y:=u) (i:=1) (by simp) (by omega) (by omega) rfl ub u0 u1)
theorem span3_1 (x y : Int) (x0 : 224 ≤ x) (x1 : x < 240) (y0 : 128 ≤ y) (y1 : y < 192) : Ev (fun k=>quarryref05_span.f k [x,y]) (3,((x - 224) * 64 + y - 128) * 64,((x - 224) * 64 + y - 128) * 64 + 63):=by
 have eh : headV x = (3,x - 224):=by rcases head_of x with ⟨_,e⟩|⟨_,_,e⟩|⟨_,_,e⟩|⟨_,_,e⟩|⟨_,_,e⟩|⟨_,e⟩ <;> first|exact e|(exfalso;omega)
 refine span_head (b:=[x,y]) (x:=x) (by omega) (by omega) (by simp) rfl ?_;rw [eh];have h:=fill_ev 3 1 ((x - 224) * 64 + y - 128) ((x - 224) * 64 + y - 128) 2 (by omega) (by omega) (by omega) (by omega) (Int.le_refl _) (by show (((x - 224) * 64 + y - 128) * 64 + 63) ≤ _;omega)
 have e1 : (fillV 1 ((x - 224) * 64 + y - 128) ((x - 224) * 64 + y - 128)).1 = ((x - 224) * 64 + y - 128) * 64:=by show (((x - 224) * 64 + y - 128) * 64) = _;omega
 have e2 : (fillV 1 ((x - 224) * 64 + y - 128) ((x - 224) * 64 + y - 128)).2 = ((x - 224) * 64 + y - 128) * 64 + 63:=by show (((x - 224) * 64 + y - 128) * 64 + 63) = _;omega
 rw [e1,e2] at h
 exact span_some (by omega) (span_next (y:=y) (i:=1) (by simp) (by omega) (by omega) rfl y0 y1 (by omega) (by omega) (by omega) <|  span_last rfl h)
theorem span3_2 (x y z : Int) (x0 : 224 ≤ x) (x1 : x < 240) (y0 : 128 ≤ y) (y1 : y < 192) (z0 : 128 ≤ z) (z1 : z < 192) : Ev (fun k=>quarryref05_span.f k [x,y,z]) (3,(((x - 224) * 64 + y - 128) * 64 + z - 128) * 1,(((x - 224) * 64 + y - 128) * 64 + z - 128) * 1 + 0):=by
 have eh : headV x = (3,x - 224):=by rcases head_of x with ⟨_,e⟩|⟨_,_,e⟩|⟨_,_,e⟩|⟨_,_,e⟩|⟨_,_,e⟩|⟨_,e⟩ <;> first|exact e|(exfalso;omega)
 refine span_head (b:=[x,y,z]) (x:=x) (by omega) (by omega) (by simp) rfl ?_;rw [eh];have h:=fill_ev 3 0 (((x - 224) * 64 + y - 128) * 64 + z - 128) (((x - 224) * 64 + y - 128) * 64 + z - 128) 3 (by omega) (by omega) (by omega) (by omega) (Int.le_refl _) (by show (((x - 224) * 64 + y - 128) * 64 + z - 128) ≤ _;omega)
 have e1 : (fillV 0 (((x - 224) * 64 + y - 128) * 64 + z - 128) (((x - 224) * 64 + y - 128) * 64 + z - 128)).1 = (((x - 224) * 64 + y - 128) * 64 + z - 128) * 1:=by show (((x - 224) * 64 + y - 128) * 64 + z - 128) = _;omega
 have e2 : (fillV 0 (((x - 224) * 64 + y - 128) * 64 + z - 128) (((x - 224) * 64 + y - 128) * 64 + z - 128)).2 = (((x - 224) * 64 + y - 128) * 64 + z - 128) * 1 + 0:=by show (((x - 224) * 64 + y - 128) * 64 + z - 128) = _;omega
 rw [e1,e2] at h
 exact span_some (by omega) (span_next (y:=y) (i:=1) (by simp) (by omega) (by omega) rfl y0 y1 (by omega) (by omega) (by omega) <| span_next (y:=z) (i:=2) (by simp) (by omega) (by omega) rfl z0 z1 (by omega) (by omega) (by omega) <|  span_last rfl h)
theorem spanb3_0 (x  u : Int) (x0 : 224 ≤ x) (x1 : x < 240)  (u0 : 0 ≤ u) (u1 : u ≤ 255) (ub : u < 128 ∨ 192 ≤ u) : Ev (fun k=>quarryref05_span.f k [x,u]) (0,1,0):=by
 have eh : headV x = (3,x - 224):=by rcases head_of x with ⟨_,e⟩|⟨_,_,e⟩|⟨_,_,e⟩|⟨_,_,e⟩|⟨_,_,e⟩|⟨_,e⟩ <;> first|exact e|(exfalso;omega)
 refine span_head (b:=[x,u]) (x:=x) (by omega) (by omega) (by simp) rfl ?_;rw [eh];exact span_some (by omega) ( span_bad (y:=u) (i:=1) (by simp) (by omega) (by omega) rfl ub u0 u1)
theorem spanb3_1 (x y u : Int) (x0 : 224 ≤ x) (x1 : x < 240) (y0 : 128 ≤ y) (y1 : y < 192) (u0 : 0 ≤ u) (u1 : u ≤ 255) (ub : u < 128 ∨ 192 ≤ u) : Ev (fun k=>quarryref05_span.f k [x,y,u]) (0,1,0):=by
 have eh : headV x = (3,x - 224):=by rcases head_of x with ⟨_,e⟩|⟨_,_,e⟩|⟨_,_,e⟩|⟨_,_,e⟩|⟨_,_,e⟩|⟨_,e⟩ <;> first|exact e|(exfalso;omega)
 refine span_head (b:=[x,y,u]) (x:=x) (by omega) (by omega) (by simp) rfl ?_;rw [eh];exact span_some (by omega) (span_next (y:=y) (i:=1) (by simp) (by omega) (by omega) rfl y0 y1 (by omega) (by omega) (by omega) <|  span_bad (y:=u) (i:=2) (by simp) (by omega) (by omega) rfl ub u0 u1)
theorem span4_1 (x y : Int) (x0 : 240 ≤ x) (x1 : x < 248) (y0 : 128 ≤ y) (y1 : y < 192) : Ev (fun k=>quarryref05_span.f k [x,y]) (4,((x - 240) * 64 + y - 128) * 4096,((x - 240) * 64 + y - 128) * 4096 + 4095):=by
 have eh : headV x = (4,x - 240):=by rcases head_of x with ⟨_,e⟩|⟨_,_,e⟩|⟨_,_,e⟩|⟨_,_,e⟩|⟨_,_,e⟩|⟨_,e⟩ <;> first|exact e|(exfalso;omega)
 refine span_head (b:=[x,y]) (x:=x) (by omega) (by omega) (by simp) rfl ?_;rw [eh];have h:=fill_ev 4 2 ((x - 240) * 64 + y - 128) ((x - 240) * 64 + y - 128) 2 (by omega) (by omega) (by omega) (by omega) (Int.le_refl _) (by show ((((x - 240) * 64 + y - 128) * 64 + 63) * 64 + 63) ≤ _;omega)
 have e1 : (fillV 2 ((x - 240) * 64 + y - 128) ((x - 240) * 64 + y - 128)).1 = ((x - 240) * 64 + y - 128) * 4096:=by show ((((x - 240) * 64 + y - 128) * 64) * 64) = _;omega
 have e2 : (fillV 2 ((x - 240) * 64 + y - 128) ((x - 240) * 64 + y - 128)).2 = ((x - 240) * 64 + y - 128) * 4096 + 4095:=by show ((((x - 240) * 64 + y - 128) * 64 + 63) * 64 + 63) = _;omega
 rw [e1,e2] at h
 exact span_some (by omega) (span_next (y:=y) (i:=1) (by simp) (by omega) (by omega) rfl y0 y1 (by omega) (by omega) (by omega) <|  span_last rfl h)
theorem span4_2 (x y z : Int) (x0 : 240 ≤ x) (x1 : x < 248) (y0 : 128 ≤ y) (y1 : y < 192) (z0 : 128 ≤ z) (z1 : z < 192) : Ev (fun k=>quarryref05_span.f k [x,y,z]) (4,(((x - 240) * 64 + y - 128) * 64 + z - 128) * 64,(((x - 240) * 64 + y - 128) * 64 + z - 128) * 64 + 63):=by
 have eh : headV x = (4,x - 240):=by rcases head_of x with ⟨_,e⟩|⟨_,_,e⟩|⟨_,_,e⟩|⟨_,_,e⟩|⟨_,_,e⟩|⟨_,e⟩ <;> first|exact e|(exfalso;omega)
 refine span_head (b:=[x,y,z]) (x:=x) (by omega) (by omega) (by simp) rfl ?_;rw [eh];have h:=fill_ev 4 1 (((x - 240) * 64 + y - 128) * 64 + z - 128) (((x - 240) * 64 + y - 128) * 64 + z - 128) 3 (by omega) (by omega) (by omega) (by omega) (Int.le_refl _) (by show ((((x - 240) * 64 + y - 128) * 64 + z - 128) * 64 + 63) ≤ _;omega)
 have e1 : (fillV 1 (((x - 240) * 64 + y - 128) * 64 + z - 128) (((x - 240) * 64 + y - 128) * 64 + z - 128)).1 = (((x - 240) * 64 + y - 128) * 64 + z - 128) * 64:=by show ((((x - 240) * 64 + y - 128) * 64 + z - 128) * 64) = _;omega
 have e2 : (fillV 1 (((x - 240) * 64 + y - 128) * 64 + z - 128) (((x - 240) * 64 + y - 128) * 64 + z - 128)).2 = (((x - 240) * 64 + y - 128) * 64 + z - 128) * 64 + 63:=by show ((((x - 240) * 64 + y - 128) * 64 + z - 128) * 64 + 63) = _;omega
 rw [e1,e2] at h
 exact span_some (by omega) (span_next (y:=y) (i:=1) (by simp) (by omega) (by omega) rfl y0 y1 (by omega) (by omega) (by omega) <| span_next (y:=z) (i:=2) (by simp) (by omega) (by omega) rfl z0 z1 (by omega) (by omega) (by omega) <|  span_last rfl h)
theorem span4_3 (x y z t : Int) (x0 : 240 ≤ x) (x1 : x < 248) (y0 : 128 ≤ y) (y1 : y < 192) (z0 : 128 ≤ z) (z1 : z < 192) (t0 : 128 ≤ t) (t1 : t < 192) : Ev (fun k=>quarryref05_span.f k [x,y,z,t]) (4,((((x - 240) * 64 + y - 128) * 64 + z - 128) * 64 + t - 128) * 1,((((x - 240) * 64 + y - 128) * 64 + z - 128) * 64 + t - 128) * 1 + 0):=by
 have eh : headV x = (4,x - 240):=by rcases head_of x with ⟨_,e⟩|⟨_,_,e⟩|⟨_,_,e⟩|⟨_,_,e⟩|⟨_,_,e⟩|⟨_,e⟩ <;> first|exact e|(exfalso;omega)
 refine span_head (b:=[x,y,z,t]) (x:=x) (by omega) (by omega) (by simp) rfl ?_;rw [eh];have h:=fill_ev 4 0 ((((x - 240) * 64 + y - 128) * 64 + z - 128) * 64 + t - 128) ((((x - 240) * 64 + y - 128) * 64 + z - 128) * 64 + t - 128) 4 (by omega) (by omega) (by omega) (by omega) (Int.le_refl _) (by show ((((x - 240) * 64 + y - 128) * 64 + z - 128) * 64 + t - 128) ≤ _;omega)
 have e1 : (fillV 0 ((((x - 240) * 64 + y - 128) * 64 + z - 128) * 64 + t - 128) ((((x - 240) * 64 + y - 128) * 64 + z - 128) * 64 + t - 128)).1 = ((((x - 240) * 64 + y - 128) * 64 + z - 128) * 64 + t - 128) * 1:=by show ((((x - 240) * 64 + y - 128) * 64 + z - 128) * 64 + t - 128) = _;omega
 have e2 : (fillV 0 ((((x - 240) * 64 + y - 128) * 64 + z - 128) * 64 + t - 128) ((((x - 240) * 64 + y - 128) * 64 + z - 128) * 64 + t - 128)).2 = ((((x - 240) * 64 + y - 128) * 64 + z - 128) * 64 + t - 128) * 1 + 0:=by show ((((x - 240) * 64 + y - 128) * 64 + z - 128) * 64 + t - 128) = _;omega
 rw [e1,e2] at h
 exact span_some (by omega) (span_next (y:=y) (i:=1) (by simp) (by omega) (by omega) rfl y0 y1 (by omega) (by omega) (by omega) <| span_next (y:=z) (i:=2) (by simp) (by omega) (by omega) rfl z0 z1 (by omega) (by omega) (by omega) <| span_next (y:=t) (i:=3) (by simp) (by omega) (by omega) rfl t0 t1 (by omega) (by omega) (by omega) <|  span_last rfl h)
theorem spanb4_0 (x  u : Int) (x0 : 240 ≤ x) (x1 : x < 248)  (u0 : 0 ≤ u) (u1 : u ≤ 255) (ub : u < 128 ∨ 192 ≤ u) : Ev (fun k=>quarryref05_span.f k [x,u]) (0,1,0):=by
 have eh : headV x = (4,x - 240):=by rcases head_of x with ⟨_,e⟩|⟨_,_,e⟩|⟨_,_,e⟩|⟨_,_,e⟩|⟨_,_,e⟩|⟨_,e⟩ <;> first|exact e|(exfalso;omega)
 refine span_head (b:=[x,u]) (x:=x) (by omega) (by omega) (by simp) rfl ?_;rw [eh];exact span_some (by omega) ( span_bad (y:=u) (i:=1) (by simp) (by omega) (by omega) rfl ub u0 u1)
theorem spanb4_1 (x y u : Int) (x0 : 240 ≤ x) (x1 : x < 248) (y0 : 128 ≤ y) (y1 : y < 192) (u0 : 0 ≤ u) (u1 : u ≤ 255) (ub : u < 128 ∨ 192 ≤ u) : Ev (fun k=>quarryref05_span.f k [x,y,u]) (0,1,0):=by
 have eh : headV x = (4,x - 240):=by rcases head_of x with ⟨_,e⟩|⟨_,_,e⟩|⟨_,_,e⟩|⟨_,_,e⟩|⟨_,_,e⟩|⟨_,e⟩ <;> first|exact e|(exfalso;omega)
 refine span_head (b:=[x,y,u]) (x:=x) (by omega) (by omega) (by simp) rfl ?_;rw [eh];exact span_some (by omega) (span_next (y:=y) (i:=1) (by simp) (by omega) (by omega) rfl y0 y1 (by omega) (by omega) (by omega) <|  span_bad (y:=u) (i:=2) (by simp) (by omega) (by omega) rfl ub u0 u1)
theorem spanb4_2 (x y z u : Int) (x0 : 240 ≤ x) (x1 : x < 248) (y0 : 128 ≤ y) (y1 : y < 192) (z0 : 128 ≤ z) (z1 : z < 192) (u0 : 0 ≤ u) (u1 : u ≤ 255) (ub : u < 128 ∨ 192 ≤ u) : Ev (fun k=>quarryref05_span.f k [x,y,z,u]) (0,1,0):=by
 have eh : headV x = (4,x - 240):=by rcases head_of x with ⟨_,e⟩|⟨_,_,e⟩|⟨_,_,e⟩|⟨_,_,e⟩|⟨_,_,e⟩|⟨_,e⟩ <;> first|exact e|(exfalso;omega)
 refine span_head (b:=[x,y,z,u]) (x:=x) (by omega) (by omega) (by simp) rfl ?_;rw [eh];exact span_some (by omega) (span_next (y:=y) (i:=1) (by simp) (by omega) (by omega) rfl y0 y1 (by omega) (by omega) (by omega) <| span_next (y:=z) (i:=2) (by simp) (by omega) (by omega) rfl z0 z1 (by omega) (by omega) (by omega) <|  span_bad (y:=u) (i:=3) (by simp) (by omega) (by omega) rfl ub u0 u1)
theorem step_some {want lo hi c : Int} (hw : want ≠ 0) (h0 : lo ≤ c) (h1 : c ≤ hi) : u8Step want lo hi c = some (want - 1,128,191):=by unfold u8Step;rw [if_neg hw,if_neg (fun h=>by omega)]
theorem step_none {want lo hi c : Int} (hw : want ≠ 0) (h : c < lo ∨ c > hi) : u8Step want lo hi c = none:=by unfold u8Step;rw [if_neg hw,if_pos h]
theorem ok2 (x want lo hi c : Int) (h0 : 0 ≤ c) (h1 : c ≤ 255) (x0 : 194 ≤ x) (x1 : x ≤ 244) (hb : u8Begin x = some (want,lo,hi)) : Ok [x] want lo hi c:=by
 have sp:=sizeV_spec;have hsp:=u8Begin_spec x
 show (u8Step want lo hi c = none ∧ Ev (fun k=>quarryref05_Begins.f k [x,c]) (false,0,false)) ∨ ∃ w l h r,u8Step want lo hi c = some (w,l,h) ∧ 0 ≤ w ∧ Ev (fun k=>quarryref05_Begins.f k [x,c]) (true,r,decide (w = 0)) ∧ (w ≠ 0 → St [x,c] w l h)
 by_cases hc : c < 128 ∨ 192 ≤ c
 ·have hB : Ev (fun k=>quarryref05_Begins.f k [x,c]) (false,0,false):=by
   by_cases a : x < 224
   ·exact begins_none (spanb2_0 x c (by omega) a h0 h1 hc)
   by_cases b : x < 240
   ·exact begins_none (spanb3_0 x c (by omega) b h0 h1 hc)
   exact begins_none (spanb4_0 x c (by omega) (by omega) h0 h1 hc)
  refine .inl ⟨?_,hB⟩
  rcases hsp with ⟨a,e⟩|⟨a,b,e⟩|⟨a,b,e⟩|⟨a,e⟩|⟨a,e⟩|⟨a,b,b2,e⟩|⟨a,e⟩|⟨a,b,e⟩|⟨a,e⟩|⟨a,e⟩
  all_goals first
   | (exfalso;omega)
   | (rw [hb] at e;simp only [Option.some.injEq,Prod.mk.injEq] at e;obtain ⟨rfl,rfl,rfl⟩:=e;exact step_none (by omega) (by omega))
 have c0 : 128 ≤ c:=by omega
 have c1 : c < 192:=by omega
 have st3 : 224 ≤ x → ∀ (a l h : Int),u8Begin x = some (a,l,h) → l ≤ c → c ≤ h → St [x,c] (a - 1) 128 191:=fun hx a l h e l0 l1=>.inr (.inr (.inl ⟨x,c,a,l,h,rfl,hx,x1,e,l0,l1,rfl,rfl,rfl⟩))
 rcases hsp with ⟨a,e⟩|⟨a,b,e⟩|⟨a,b,e⟩|⟨a,e⟩|⟨a,e⟩|⟨a,b,b2,e⟩|⟨a,e⟩|⟨a,b,e⟩|⟨a,e⟩|⟨a,e⟩
 ·exfalso;omega
 ·exfalso;omega
 ·rw [hb] at e;simp only [Option.some.injEq,Prod.mk.injEq] at e;obtain ⟨rfl,rfl,rfl⟩:=e
  exact .inr ⟨0,128,191,_,step_some (by omega) (by omega) (by omega),by omega,begins_hit _ true (span2_1 x c (by omega) b c0 c1) rfl (by omega) (by omega) (by have:=sp (((x - 192) * 64 + c - 128) * 1);omega) (by omega) (Int.le_refl _) (fun x h1 h2 h3=>by omega) (fun h1 h2 h3=>by omega),fun h=>absurd rfl h⟩
 ·have e':=e;rw [hb] at e;simp only [Option.some.injEq,Prod.mk.injEq] at e;obtain ⟨rfl,rfl,rfl⟩:=e
  have hs:=span3_1 x c (by omega) (by omega) c0 c1
  by_cases hk : 160 ≤ c
  ·exact .inr ⟨1,128,191,_,step_some (by omega) (by omega) (by omega),by omega,begins_hit _ false hs rfl (by omega) (by omega) (by have:=sp (((x - 224) * 64 + c - 128) * 64);omega) (by omega) (Int.le_refl _) (fun x h1 h2 h3=>by omega) (fun h1 h2 h3=>by omega),fun _=>st3 (by omega) 2 160 191 e' hk (by omega)⟩
  exact .inl ⟨step_none (by omega) (by omega),begins_miss hs (by omega) (by omega) (fun y h1 h2 h3=>by have:=sp y;omega)⟩
 ·have e':=e;rw [hb] at e;simp only [Option.some.injEq,Prod.mk.injEq] at e;obtain ⟨rfl,rfl,rfl⟩:=e
  have hs:=span3_1 x c (by omega) (by omega) c0 c1
  by_cases hk : c ≤ 159
  ·exact .inr ⟨1,128,191,_,step_some (by omega) (by omega) (by omega),by omega,begins_hit _ false hs rfl (by omega) (by omega) (by have:=sp (((x - 224) * 64 + c - 128) * 64);omega) (by omega) (Int.le_refl _) (fun x h1 h2 h3=>by omega) (fun h1 h2 h3=>by omega),fun _=>st3 (by omega) 2 128 159 e' (by omega) hk⟩
  exact .inl ⟨step_none (by omega) (by omega),begins_miss hs (by omega) (by omega) (fun y h1 h2 h3=>by have:=sp y;omega)⟩
 ·have e':=e;rw [hb] at e;simp only [Option.some.injEq,Prod.mk.injEq] at e;obtain ⟨rfl,rfl,rfl⟩:=e
  have hs:=span3_1 x c (by omega) (by omega) c0 c1;exact .inr ⟨1,128,191,_,step_some (by omega) (by omega) (by omega),by omega,begins_hit _ false hs rfl (by omega) (by omega) (by have:=sp (((x - 224) * 64 + c - 128) * 64);omega) (by omega) (Int.le_refl _) (fun x h1 h2 h3=>by omega) (fun h1 h2 h3=>by omega),fun _=>st3 (by omega) 2 128 191 e' (by omega) (by omega)⟩
 ·have e':=e;rw [hb] at e;simp only [Option.some.injEq,Prod.mk.injEq] at e;obtain ⟨rfl,rfl,rfl⟩:=e
  have hs:=span4_1 x c (by omega) (by omega) c0 c1
  by_cases hk : 144 ≤ c
  ·exact .inr ⟨2,128,191,_,step_some (by omega) (by omega) (by omega),by omega,begins_hit _ false hs rfl (by omega) (by omega) (by have:=sp (((x - 240) * 64 + c - 128) * 4096);omega) (by omega) (Int.le_refl _) (fun x h1 h2 h3=>by omega) (fun h1 h2 h3=>by omega),fun _=>st3 (by omega) 3 144 191 e' hk (by omega)⟩
  exact .inl ⟨step_none (by omega) (by omega),begins_miss hs (by omega) (by omega) (fun y h1 h2 h3=>by have:=sp y;omega)⟩
 ·have e':=e;rw [hb] at e;simp only [Option.some.injEq,Prod.mk.injEq] at e;obtain ⟨rfl,rfl,rfl⟩:=e
  have hs:=span4_1 x c (by omega) (by omega) c0 c1;exact .inr ⟨2,128,191,_,step_some (by omega) (by omega) (by omega),by omega,begins_hit _ false hs rfl (by omega) (by omega) (by have:=sp (((x - 240) * 64 + c - 128) * 4096);omega) (by omega) (Int.le_refl _) (fun x h1 h2 h3=>by omega) (fun h1 h2 h3=>by omega),fun _=>st3 (by omega) 3 128 191 e' (by omega) (by omega)⟩
 ·have e':=e;rw [hb] at e;simp only [Option.some.injEq,Prod.mk.injEq] at e;obtain ⟨rfl,rfl,rfl⟩:=e
  have hs:=span4_1 x c (by omega) (by omega) c0 c1
  by_cases hk : c ≤ 143
  ·exact .inr ⟨2,128,191,_,step_some (by omega) (by omega) (by omega),by omega,begins_hit _ false hs rfl (by omega) (by omega) (by have:=sp (((x - 240) * 64 + c - 128) * 4096);omega) (by omega) (Int.le_refl _) (fun x h1 h2 h3=>by omega) (fun h1 h2 h3=>by omega),fun _=>st3 (by omega) 3 128 143 e' (by omega) hk⟩
  exact .inl ⟨step_none (by omega) (by omega),begins_miss hs (by omega) (by omega) (fun y h1 h2 h3=>by have:=sp y;omega)⟩
 exfalso;omega
theorem ok3 (x y a l h c : Int) (h0 : 0 ≤ c) (h1 : c ≤ 255) (x0 : 224 ≤ x) (x1 : x ≤ 244) (hb : u8Begin x = some (a,l,h)) (y0 : l ≤ y) (y1 : y ≤ h) : Ok [x,y] (a - 1) 128 191 c:=by
 have sp:=sizeV_spec;have hsp:=u8Begin_spec x
 show (u8Step (a - 1) 128 191 c = none ∧ Ev (fun k=>quarryref05_Begins.f k [x,y,c]) (false,0,false)) ∨ ∃ w l h r,u8Step (a - 1) 128 191 c = some (w,l,h) ∧ 0 ≤ w ∧ Ev (fun k=>quarryref05_Begins.f k [x,y,c]) (true,r,decide (w = 0)) ∧ (w ≠ 0 → St [x,y,c] w l h)
 have hfacts : (a = 2 ∧ x < 240 ∧ 128 ≤ y ∧ y < 192 ∧ (x = 224 → 160 ≤ y) ∧ (x = 237 → y ≤ 159)) ∨ (a = 3 ∧ 240 ≤ x ∧ 128 ≤ y ∧ y < 192 ∧ (x = 240 → 144 ≤ y) ∧ (x = 244 → y ≤ 143)):=by
  rcases hsp with ⟨q,e⟩|⟨q,b,e⟩|⟨q,b,e⟩|⟨q,e⟩|⟨q,e⟩|⟨q,b,b2,e⟩|⟨q,e⟩|⟨q,b,e⟩|⟨q,e⟩|⟨q,e⟩
  all_goals first
   | (exfalso;omega)
   | (rw [hb] at e;simp only [Option.some.injEq,Prod.mk.injEq] at e;obtain ⟨rfl,rfl,rfl⟩:=e;omega)
 rcases hfacts with ⟨rfl,hx,ya,yb,q1,q2⟩|⟨rfl,hx,ya,yb,q1,q2⟩
 ·by_cases hc : c < 128 ∨ 192 ≤ c
  ·exact .inl ⟨step_none (by omega) (by omega),begins_none (spanb3_1 x y c (by omega) hx ya yb h0 h1 hc)⟩
  have hs:=span3_2 x y c (by omega) hx ya yb (by omega) (by omega);exact .inr ⟨0,128,191,_,step_some (by omega) (by omega) (by omega),by omega,begins_hit _ true hs rfl (by omega) (by omega) (by have:=sp ((((x - 224) * 64 + y - 128) * 64 + c - 128) * 1);omega) (by omega) (Int.le_refl _) (fun x h1 h2 h3=>by omega) (fun h1 h2 h3=>by omega),fun h=>absurd rfl h⟩
 by_cases hc : c < 128 ∨ 192 ≤ c
 ·exact .inl ⟨step_none (by omega) (by omega),begins_none (spanb4_1 x y c (by omega) (by omega) ya yb h0 h1 hc)⟩
 have hs:=span4_2 x y c (by omega) (by omega) ya yb (by omega) (by omega);exact .inr ⟨1,128,191,_,step_some (by omega) (by omega) (by omega),by omega,begins_hit _ false hs rfl (by omega) (by omega) (by have:=sp ((((x - 240) * 64 + y - 128) * 64 + c - 128) * 64);omega) (by omega) (Int.le_refl _) (fun x h1 h2 h3=>by omega) (fun h1 h2 h3=>by omega),fun _=>.inr (.inr (.inr ⟨x,y,c,l,h,rfl,hx,x1,hb,y0,y1,by omega,by omega,rfl,rfl,rfl⟩))⟩
theorem ok4 (x y z l h c : Int) (h0 : 0 ≤ c) (h1 : c ≤ 255) (x0 : 240 ≤ x) (x1 : x ≤ 244) (hb : u8Begin x = some (3,l,h)) (y0 : l ≤ y) (y1 : y ≤ h) (z0 : 128 ≤ z) (z1 : z ≤ 191) : Ok [x,y,z] 1 128 191 c:=by
 have sp:=sizeV_spec;have hsp:=u8Begin_spec x
 show (u8Step 1 128 191 c = none ∧ Ev (fun k=>quarryref05_Begins.f k [x,y,z,c]) (false,0,false)) ∨ ∃ w l h r,u8Step 1 128 191 c = some (w,l,h) ∧ 0 ≤ w ∧ Ev (fun k=>quarryref05_Begins.f k [x,y,z,c]) (true,r,decide (w = 0)) ∧ (w ≠ 0 → St [x,y,z,c] w l h)
 have hfacts : 128 ≤ y ∧ y < 192 ∧ (x = 240 → 144 ≤ y) ∧ (x = 244 → y ≤ 143):=by
  rcases hsp with ⟨q,e⟩|⟨q,b,e⟩|⟨q,b,e⟩|⟨q,e⟩|⟨q,e⟩|⟨q,b,b2,e⟩|⟨q,e⟩|⟨q,b,e⟩|⟨q,e⟩|⟨q,e⟩
  all_goals first
   | (exfalso;omega)
   | (rw [hb] at e;simp only [Option.some.injEq,Prod.mk.injEq] at e;obtain ⟨_,rfl,rfl⟩:=e;omega)
 obtain ⟨ya,yb,q1,q2⟩:=hfacts
 by_cases hc : c < 128 ∨ 192 ≤ c
 ·exact .inl ⟨step_none (by omega) (by omega),begins_none (spanb4_2 x y z c (by omega) (by omega) ya yb z0 (by omega) h0 h1 hc)⟩
 have hs:=span4_3 x y z c (by omega) (by omega) ya yb z0 (by omega) (by omega) (by omega);exact .inr ⟨0,128,191,_,step_some (by omega) (by omega) (by omega),by omega,begins_hit _ true hs rfl (by omega) (by omega) (by have:=sp (((((x - 240) * 64 + y - 128) * 64 + z - 128) * 64 + c - 128) * 1);omega) (by omega) (Int.le_refl _) (fun x h1 h2 h3=>by omega) (fun h1 h2 h3=>by omega),fun h=>absurd rfl h⟩
theorem ok_all (p : List Int) (want lo hi c : Int) (h0 : 0 ≤ c) (h1 : c ≤ 255) (hS : St p want lo hi) : Ok p want lo hi c:=by
 rcases hS with ⟨rfl,rfl⟩|⟨x,rfl,x0,x1,e⟩|⟨x,y,a,l,h,rfl,x0,x1,e,y0,y1,rfl,rfl,rfl⟩|⟨x,y,z,l,h,rfl,x0,x1,e,y0,y1,z0,z1,rfl,rfl,rfl⟩
 ·exact ok1 lo hi c h0 h1
 ·exact ok2 x want lo hi c h0 h1 x0 x1 e
 ·exact ok3 x y a l h c h0 h1 x0 x1 e y0 y1
 exact ok4 x y z l h c h0 h1 x0 x1 e y0 y1 z0 z1
theorem St.want {p : List Int} {want lo hi : Int} (hS : St p want lo hi) (hp : p ≠ []) : 0 < want:=by
 rcases hS with ⟨rfl,rfl⟩|⟨x,rfl,x0,x1,e⟩|⟨x,y,a,l,h,rfl,x0,x1,e,y0,y1,rfl,rfl,rfl⟩|⟨x,y,z,l,h,rfl,x0,x1,e,y0,y1,z0,z1,rfl,rfl,rfl⟩
 ·exact absurd rfl hp
 ·rcases u8Begin_spec x with ⟨q,e2⟩|⟨q,b,e2⟩|⟨q,b,e2⟩|⟨q,e2⟩|⟨q,e2⟩|⟨q,b,b2,e2⟩|⟨q,e2⟩|⟨q,b,e2⟩|⟨q,e2⟩|⟨q,e2⟩
  all_goals first
   | (exfalso;omega)
   | (rw [e] at e2;simp only [Option.some.injEq,Prod.mk.injEq] at e2;obtain ⟨rfl,_⟩:=e2;omega)
 ·rcases u8Begin_spec x with ⟨q,e2⟩|⟨q,b,e2⟩|⟨q,b,e2⟩|⟨q,e2⟩|⟨q,e2⟩|⟨q,b,b2,e2⟩|⟨q,e2⟩|⟨q,b,e2⟩|⟨q,e2⟩|⟨q,e2⟩
  all_goals first
   | (exfalso;omega)
   | (rw [e] at e2;simp only [Option.some.injEq,Prod.mk.injEq] at e2;obtain ⟨rfl,_⟩:=e2;omega)
 omega
theorem bytes_snoc (s : ByteArray) (f m : Nat) (h : f + m < s.size) : bytesOf (s.extract f (f + (m + 1))) = bytesOf (s.extract f (f + m)) ++ [(s[f + m].toNat : Int)]:=by
 have e : ∀ n,(s.extract f (f + n)).data.toList = (s.data.toList.drop f).take n:=by
  intro n;rw [ByteArray.data_extract,Array.toList_extract]
  simp
 unfold bytesOf
 rw [e,e,List.take_succ_eq_append_getElem (by rw [List.length_drop,data_length];omega),List.map_append,List.getElem_drop];rfl
theorem bytes_none (s : ByteArray) (f : Nat) : bytesOf (s.extract f (f + 0)) = []:=by
 unfold bytesOf
 rw [ByteArray.data_extract,Array.toList_extract]
 simp
theorem walk_ev (s : ByteArray) (hs : s.size ≤ 1099511627776) : ∀ (d f m : Nat) (want lo hi : Int),s.size - (f + m) = d → f + m ≤ s.size → (m = 0 → f < s.size) → St (bytesOf (s.extract f (f + m))) want lo hi →
  Ev (fun k=>quarryref05_Walk.l0 k s f (m + 1)) (u8Run (s.data.toList.drop (f + m)) want lo hi ((f + m : Nat) : Int))
 | 0,f,m,want,lo,hi,hd,hle,hm,hS=>by
  have hne : bytesOf (s.extract f (f + m)) ≠ []:=by
   intro h;have h2:=congrArg List.length h
   rw [bytesOf_length,ByteArray.size_extract] at h2
   simp at h2
   by_cases h0 : m = 0
   ·have:=hm h0;omega
   omega
  have hw:=hS.want hne;rw [rd_none s (f + m) (by omega),u8Run,if_pos hw];refine Ev.step (f:=fun _=>some _) (fun k=>?_) (Ev.now _);rw [quarryref05_Walk.l0,if_pos (by omega)]
  congr 1
  omega
 | d + 1,f,m,want,lo,hi,hd,hle,hm,hS=>by
  have hlt : f + m < s.size:=by omega
  have hu : (s[f + m].toNat : Int) ≤ 255:=by have:=s[f + m].toNat_lt;omega
  have hok:=ok_all _ want lo hi (s[f + m].toNat : Int) (by omega) hu hS;have hb:=bytes_snoc s f m hlt;rw [rd_get s (f + m) hlt,u8Run]
  unfold Ok at hok
  rw [← hb] at hok
  rcases hok with ⟨e,hB⟩|⟨w,l,h,r,e,hw0,hB,hst⟩
  ·rw [e];refine Ev.step (f:=fun k=>(quarryref05_Begins.f k (bytesOf (s.extract f (f + (m + 1))))).bind fun t=>if t.1 = true then (if t.2.2 = true then (if f + (m + 1) < s.size then quarryref05_Walk.l0 k s (f + (m + 1)) 1 else some (-1)) else quarryref05_Walk.l0 k s f (m + 1 + 1)) else some ((f : Int) + ((m + 1 : Nat) : Int) - 1)) (fun k=>?_) (Ev.bind hB ?_)
   ·rw [quarryref05_Walk.l0,if_neg (by omega)]
   refine Ev.congr (f:=fun _=>some ((f + m : Nat) : Int)) (fun k=>?_) (Ev.now _);rw [if_neg Bool.false_ne_true]
   congr 1
   omega
  rw [e];refine Ev.step (f:=fun k=>(quarryref05_Begins.f k (bytesOf (s.extract f (f + (m + 1))))).bind fun t=>if t.1 = true then (if t.2.2 = true then (if f + (m + 1) < s.size then quarryref05_Walk.l0 k s (f + (m + 1)) 1 else some (-1)) else quarryref05_Walk.l0 k s f (m + 1 + 1)) else some ((f : Int) + ((m + 1 : Nat) : Int) - 1)) (fun k=>?_) (Ev.bind hB ?_)
  ·rw [quarryref05_Walk.l0,if_neg (by omega)]
  refine Ev.congr (fun k=>if_pos rfl) ?_
  have ec : ((f + m : Nat) : Int) + 1 = ((f + (m + 1) : Nat) : Int):=by omega
  by_cases hz : w = 0
  ·subst hz;refine Ev.congr (fun k=>if_pos rfl) ?_
   by_cases hl : f + (m + 1) < s.size
   ·have ih:=walk_ev s hs d (f + (m + 1)) 0 0 l h (by omega) (by omega) (fun _=>hl) (by rw [bytes_none];exact .inl ⟨rfl,rfl⟩);refine Ev.congr (fun k=>if_pos hl) ?_
    show Ev _ (u8Run (s.data.toList.drop (f + (m + 1))) 0 l h (((f + m : Nat) : Int) + 1))
    rw [ec];exact ih
   refine Ev.congr (f:=fun _=>some (-1)) (fun k=>if_neg hl) ?_
   show Ev _ (u8Run (s.data.toList.drop (f + (m + 1))) 0 l h (((f + m : Nat) : Int) + 1))
   rw [rd_none s (f + (m + 1)) hl];exact Ev.now _
  have ih:=walk_ev s hs d f (m + 1) w l h (by omega) (by omega) (fun h=>by omega) (hst hz);refine Ev.congr (fun k=>if_neg (by simp [hz])) ?_
  show Ev _ (u8Run (s.data.toList.drop (f + (m + 1))) w l h (((f + m : Nat) : Int) + 1))
  rw [ec];exact ih
theorem bad_ev (s : ByteArray) (hs : s.size ≤ 1099511627776) : Ev (fun k=>quarryref05_Bad.f k s) (u8Run s.data.toList 0 0 0 0):=by
 by_cases h : 0 < s.size
 ·have h2:=walk_ev s hs s.size 0 0 0 0 0 (by omega) (by omega) (fun _=>h) (by rw [bytes_none];exact .inl ⟨rfl,rfl⟩);refine Ev.congr (fun k=>?_) h2
  unfold quarryref05_Bad.f
  rw [if_pos hs,if_pos h]
 have e : s.data.toList = []:=List.eq_nil_of_length_eq_zero (by rw [data_length];omega);rw [e];refine Ev.congr (f:=fun _=>some (-1)) (fun k=>?_) (Ev.now _)
 unfold quarryref05_Bad.f
 rw [if_pos hs,if_neg h]
theorem run_ge : ∀ (l : List UInt8) (want lo hi came : Int),0 ≤ came → u8Run l want lo hi came = -1 ∨ 0 ≤ u8Run l want lo hi came
 | [],want,lo,hi,came,h=>by
  rw [u8Run]
  split
  ·exact .inr h
  exact .inl rfl
 | c :: r,want,lo,hi,came,h=>by
  rw [u8Run]
  split
  ·exact .inr h
  exact run_ge r _ _ _ _ (by omega)
end Go.Proofs.YtlgamjgdkljfiacGreatDoor.QUtfWritePretties
namespace Go.Proofs.YtlgamjgdkljfiacGreatDoor.QTreeWritePretties
open Go.RowKit Go.Proofs.YtlgamjgdkljfiacGreatDoor.PWritePretties Go.Proofs.YtlgamjgdkljfiacGreatDoorW.PrintWords Go.Proofs.YtlgamjgdkljfiacGreatDoorW.PrintLast Go.Proofs.YtlgamjgdkljfiacGreatDoor.QValWritePretties
set_option linter.unusedVariables false
set_option linter.unusedSimpArgs false
theorem used_f (x : S25) : tree_used.f x.f0 x.f1 x.f2 x.f3 x.f4 x.f5 = some (x.f1,(x.f2.toList != ([] : List UInt8)),(x.f3.toList != ([] : List UInt8)),decide ((x.f4.length : Int) > 0),decide ((x.f5.length : Int) > 0)):=rfl
theorem nn (n : Nat) : decide ((n : Int) > 0) = !decide (n = 0):=by
 cases n <;> simp
theorem bne_nil (l : List UInt8) : (l != ([] : List UInt8)) = !decide (l = []):=by cases l <;> rfl
theorem beq_nil (l : List UInt8) : (l == ([] : List UInt8)) = decide (l = []):=by cases l <;> rfl
def noneB (x : S25) : Bool:=decide (x.f4.length = 0) && decide (x.f5.length = 0)
def p1 (x : S25) : Bool:=noneB x && !x.f1 && decide (x.f2.toList = []) && decide (x.f3.toList = [])
def p2 (x : S25) : Bool:=noneB x && decide (x.f2.toList = []) && decide (x.f3.toList = [])
def p3 (x : S25) : Bool:=noneB x && !x.f1 && decide (¬ x.f2.toList = []) && decide (x.f3.toList = [])
def p4 (x : S25) : Bool:=noneB x && !x.f1 && decide (x.f2.toList = [])
def p5 (x : S25) : Bool:=decide (x.f4.length = 0) && !x.f1 && decide (x.f2.toList = []) && decide (x.f3.toList = [])
def p6 (x : S25) : Bool:=!x.f1 && decide (x.f2.toList = []) && decide (x.f3.toList = [])
theorem q1 (x : S25) : eq5 x.f1 (x.f2.toList != ([] : List UInt8)) (x.f3.toList != ([] : List UInt8)) (decide ((x.f4.length : Int) > 0)) (decide ((x.f5.length : Int) > 0)) false false false false false = p1 x:=by
 rw [nn,nn,bne_nil,bne_nil];unfold eq5 p1 noneB
 cases x.f1 <;> cases decide (x.f2.toList = []) <;> cases decide (x.f3.toList = []) <;> cases decide (x.f4.length = 0) <;> cases decide (x.f5.length = 0) <;> rfl
theorem q2 (x : S25) : eq5 x.f1 (x.f2.toList != ([] : List UInt8)) (x.f3.toList != ([] : List UInt8)) (decide ((x.f4.length : Int) > 0)) (decide ((x.f5.length : Int) > 0)) x.f1 false false false false = p2 x:=by
 rw [nn,nn,bne_nil,bne_nil];unfold eq5 p2 noneB
 cases x.f1 <;> cases decide (x.f2.toList = []) <;> cases decide (x.f3.toList = []) <;> cases decide (x.f4.length = 0) <;> cases decide (x.f5.length = 0) <;> rfl
theorem q3 (x : S25) : eq5 x.f1 (x.f2.toList != ([] : List UInt8)) (x.f3.toList != ([] : List UInt8)) (decide ((x.f4.length : Int) > 0)) (decide ((x.f5.length : Int) > 0)) false true false false false = p3 x:=by
 rw [nn,nn,bne_nil,bne_nil];unfold eq5 p3 noneB;rw [decide_not]
 cases x.f1 <;> cases decide (x.f2.toList = []) <;> cases decide (x.f3.toList = []) <;> cases decide (x.f4.length = 0) <;> cases decide (x.f5.length = 0) <;> rfl
theorem q4 (x : S25) : eq5 x.f1 (x.f2.toList != ([] : List UInt8)) (x.f3.toList != ([] : List UInt8)) (decide ((x.f4.length : Int) > 0)) (decide ((x.f5.length : Int) > 0)) false false (x.f3.toList != ([] : List UInt8)) false false = p4 x:=by
 rw [nn,nn,bne_nil,bne_nil];unfold eq5 p4 noneB
 cases x.f1 <;> cases decide (x.f2.toList = []) <;> cases decide (x.f3.toList = []) <;> cases decide (x.f4.length = 0) <;> cases decide (x.f5.length = 0) <;> rfl
theorem q5 (x : S25) : eq5 x.f1 (x.f2.toList != ([] : List UInt8)) (x.f3.toList != ([] : List UInt8)) (decide ((x.f4.length : Int) > 0)) (decide ((x.f5.length : Int) > 0)) false false false false (decide ((x.f5.length : Int) > 0)) = p5 x:=by
 rw [nn,nn,bne_nil,bne_nil];unfold eq5 p5
 cases x.f1 <;> cases decide (x.f2.toList = []) <;> cases decide (x.f3.toList = []) <;> cases decide (x.f4.length = 0) <;> cases decide (x.f5.length = 0) <;> rfl
theorem q6 (x : S25) : eq5 x.f1 (x.f2.toList != ([] : List UInt8)) (x.f3.toList != ([] : List UInt8)) (decide ((x.f4.length : Int) > 0)) (decide ((x.f5.length : Int) > 0)) false false false (decide ((x.f4.length : Int) > 0)) (decide ((x.f5.length : Int) > 0)) = p6 x:=by
 rw [nn,nn,bne_nil,bne_nil];unfold eq5 p6
 cases x.f1 <;> cases decide (x.f2.toList = []) <;> cases decide (x.f3.toList = []) <;> cases decide (x.f4.length = 0) <;> cases decide (x.f5.length = 0) <;> rfl
def anyBad (l : List ByteArray) : Bool:=l.any badB
def Sm (x : S25) : Prop:=bulk25 x ≤ 1048576
theorem tree_plain_f (x : S25) (hs : Sm x) : tree_plain.f x.f0 x.f1 x.f2 x.f3 x.f4 x.f5 =
  if x.f0 = 1 then some (p1 x) else if x.f0 = 2 then some (p2 x) else if x.f0 = 3 then (decimal_Of.f x.f2).bind fun d=>some (p3 x && (d.2.2.2 != 110))
  else if x.f0 = 4 then (if p4 x = true then some (decide (u8Run x.f3.data.toList 0 0 0 0 < 0)) else some false) else if x.f0 = 5 then some (p5 x)
  else if x.f0 = 6 then (if p6 x = true then (if x.f4.length = x.f5.length then some (!anyBad x.f4) else some false) else some false) else some false:=by
 have h3:=small_text x
 have h4 : ∀ s ∈ x.f4,s.size ≤ 1099511627776:=fun s h=>by have:=small_name x s h;unfold Sm at hs;omega
 have hb : utf8_Bad.f x.f3 = some (u8Run x.f3.data.toList 0 0 0 0):=by unfold utf8_Bad.f;rw [if_pos (by unfold Sm at hs;omega)]
 have hbs : tree_plain.bads x.f4 = some (anyBad x.f4):=by unfold tree_plain.bads anyBad;rw [if_pos (by simpa using h4)]
 unfold tree_plain.f
 rw [used_f,Option.bind_some];simp only;rw [q1,q2,q3,q4,q5,q6,hb,hbs];rfl
theorem bad_neg (s : ByteArray) : (u8Run s.data.toList 0 0 0 0 = -1) ↔ badB s = false:=by
 have h:=QUtfWritePretties.run_ge s.data.toList 0 0 0 0 (by omega)
 unfold badB
 rw [decide_eq_false_iff_not]
 omega
theorem names_ev (x : S25) (hs : Sm x) : ∀ (d i : Nat),i + d = x.f4.length → Ev (fun k=>quarryref17_plain.l0 k (i : Int) x.f0 x.f1 x.f2 x.f3 x.f4 x.f5) (!anyBad (x.f4.drop i) && (p6 x && decide (x.f4.length = x.f5.length)))
 | 0,i,hd=>by
  have e : x.f4.drop i = []:=List.drop_of_length_le (by omega);rw [e];refine Ev.step (f:=fun _=>some _) (fun k=>?_) (Ev.now _);rw [quarryref17_plain.l0,if_neg (by omega)]
  unfold p6
  have hl : ((x.f4.length : Int) == (x.f5.length : Int)) = decide (x.f4.length = x.f5.length):=by
   by_cases h : x.f4.length = x.f5.length
   ·rw [decide_eq_true h];simp [h]
   rw [decide_eq_false h];exact beq_eq_false_iff_ne.mpr (by omega)
  rw [hl]
  show _ = some (!false && (!x.f1 && decide (x.f2.toList = []) && decide (x.f3.toList = []) && decide (x.f4.length = x.f5.length)))
  cases h1 : x.f1
  ·rw [if_neg (by decide)]
   by_cases h2 : x.f2.toList = []
   ·rw [if_pos h2,decide_eq_true h2]
    by_cases h3 : x.f3.toList = []
    ·rw [if_pos h3,decide_eq_true h3];rfl
    rw [if_neg h3,decide_eq_false h3];rfl
   rw [if_neg h2,decide_eq_false h2];rfl
  rw [if_pos rfl];rfl
 | d + 1,i,hd=>by
  have hlt : i < x.f4.length:=by omega
  have hsz:=small_name x x.f4[i] (List.getElem_mem hlt);have hl:=(small_len x).2
  have hrd : rdOf ByteArray.empty x.f4 (i : Int) = x.f4[i]:=by unfold rdOf;simp [hlt]
  have hdr : x.f4.drop i = x.f4[i] :: x.f4.drop (i + 1):=List.drop_eq_getElem_cons hlt;have hb:=QUtfWritePretties.bad_ev x.f4[i] (by unfold Sm at hs;omega);rw [hdr]
  have ea : anyBad (x.f4[i] :: x.f4.drop (i + 1)) = (badB x.f4[i] || anyBad (x.f4.drop (i + 1))):=by unfold anyBad;rw [List.any_cons]
  rw [ea];refine Ev.step (f:=fun k=>(quarryref05_Bad.f k x.f4[i]).bind fun t=>if t = (-1) then quarryref17_plain.l0 k ((i + 1 : Nat) : Int) x.f0 x.f1 x.f2 x.f3 x.f4 x.f5 else some false) (fun k=>?_) (Ev.bind hb ?_)
  ·rw [quarryref17_plain.l0,if_pos (by omega),if_pos (by omega),hrd,w64s i (by unfold Sm at hs;omega)]
  by_cases h : u8Run x.f4[i].data.toList 0 0 0 0 = -1
  ·rw [(bad_neg _).mp h];refine Ev.congr (fun k=>if_pos h) ?_;exact names_ev x hs d (i + 1) (by omega)
  have hbt : badB x.f4[i] = true:=by
   cases e : badB x.f4[i] with
   | true=>rfl
   | false=>exact absurd ((bad_neg _).mpr e) h
  rw [hbt];exact Ev.congr (f:=fun _=>some false) (fun k=>if_neg h) (Ev.now _)
theorem plain_ev (x : S25) (hs : Sm x) : ∃ b,tree_plain.f x.f0 x.f1 x.f2 x.f3 x.f4 x.f5 = some b ∧ Ev (fun k=>quarryref17_plain.f k x.f0 x.f1 x.f2 x.f3 x.f4 x.f5) b:=by
 have ht:=tree_plain_f x hs;have hr:=small_raw x;have h3:=small_text x
 have lead (b : Bool) (h : Ev (fun k=>quarryref17_plain.j0 k (noneB x) x.f0 x.f1 x.f2 x.f3 x.f4 x.f5) b) : Ev (fun k=>quarryref17_plain.f k x.f0 x.f1 x.f2 x.f3 x.f4 x.f5) b:=by
  refine Ev.congr (fun k=>?_) h
  unfold quarryref17_plain.f noneB
  by_cases h4 : x.f4.length = 0
  ·rw [if_pos (by omega),decide_eq_true h4]
   congr 1
   by_cases h5 : x.f5.length = 0
   ·rw [decide_eq_true h5,h5];rfl
   rw [decide_eq_false h5];exact beq_eq_false_iff_ne.mpr (by omega)
  rw [if_neg (by omega),decide_eq_false h4];rfl
 by_cases k1 : x.f0 = 1
 ·rw [if_pos k1] at ht
  refine ⟨_,ht,lead _ ?_⟩;refine Ev.step (f:=fun _=>some (p1 x)) (fun k=>?_) (Ev.now _);rw [quarryref17_plain.j0,if_pos k1]
  unfold p1
  cases noneB x
  ·rw [if_neg (by decide)];rfl
  rw [if_pos rfl];cases x.f1
  ·rw [if_neg (by decide)]
   by_cases h2 : x.f2.toList = []
   ·rw [if_pos h2,decide_eq_true h2,beq_nil];rfl
   rw [if_neg h2,decide_eq_false h2];rfl
  rw [if_pos rfl];rfl
 rw [if_neg k1] at ht
 by_cases k2 : x.f0 = 2
 ·rw [if_pos k2] at ht
  refine ⟨_,ht,lead _ ?_⟩;refine Ev.step (f:=fun _=>some (p2 x)) (fun k=>?_) (Ev.now _);rw [quarryref17_plain.j0,if_neg k1,if_pos k2]
  unfold p2
  cases noneB x
  ·rw [if_neg (by decide)];rfl
  rw [if_pos rfl]
  by_cases h2 : x.f2.toList = []
  ·rw [if_pos h2,decide_eq_true h2,beq_nil];rfl
  rw [if_neg h2,decide_eq_false h2];rfl
 rw [if_neg k2] at ht
 by_cases k3 : x.f0 = 3
 ·rw [if_pos k3] at ht
  obtain ⟨d,hd1,hd2,hd3⟩:=QDecWritePretties.of_ev x.f2 (by unfold Sm at hs;omega)
  rw [hd1,Option.bind_some] at ht
  refine ⟨_,ht,lead _ ?_⟩
  have hraw : x.f2.toList = [] → d.2.2.2 = 110:=by
   intro h
   have e : x.f2 = ⟨#[]⟩:=by
    rw [ByteArray.toList_eq] at h
    apply ByteArray.ext
    apply Array.ext'
    exact h
   rw [e] at hd1
   have : decimal_Of.f (⟨#[]⟩ : ByteArray) = some (false,⟨#[]⟩,0,110):=rfl
   rw [this] at hd1
   exact (congrArg (fun z=>z.2.2.2) (Option.some.inj hd1)).symm
  refine Ev.step (f:=fun k=>(quarryref11_Of.f k x.f2).bind fun b=>(if noneB x = true then (if x.f1 = true then (some false) else (if x.f3.toList = ([] : List UInt8) then (if b.2.2.2 = 0 then (some true) else (some (b.2.2.2 == 111))) else (some false))) else (some false))) (fun k=>?_) (Ev.bind hd2 ?_)
  ·rw [quarryref17_plain.j0,if_neg k1,if_neg k2,if_pos k3]
  refine Ev.congr (f:=fun _=>some (p3 x && (d.2.2.2 != 110))) (fun k=>?_) (Ev.now _)
  unfold p3
  by_cases h110 : d.2.2.2 = 110
  ·have hn : (d.2.2.2 != 110) = false:=by rw [h110];rfl
   rw [hn,Bool.and_false]
   have e1 : ¬ d.2.2.2 = 0:=by omega
   have e2 : (d.2.2.2 == 111) = false:=beq_eq_false_iff_ne.mpr (by omega);rw [e2,if_neg e1]
   repeat' split
   all_goals rfl
  have hn : (d.2.2.2 != 110) = true:=bne_iff_ne.mpr h110
  have hne : ¬ x.f2.toList = []:=fun h=>h110 (hraw h)
  have e3 : (if d.2.2.2 = 0 then (some true) else (some (d.2.2.2 == 111))) = some true:=by
   by_cases h0 : d.2.2.2 = 0
   ·rw [if_pos h0]
   rw [if_neg h0]
   have : d.2.2.2 = 111:=by omega
   rw [this];rfl
  rw [hn,Bool.and_true,decide_eq_true hne,e3];cases noneB x
  ·rw [if_neg (by decide)];rfl
  rw [if_pos rfl];cases x.f1
  ·rw [if_neg (by decide)]
   by_cases h2 : x.f3.toList = []
   ·rw [if_pos h2,decide_eq_true h2];rfl
   rw [if_neg h2,decide_eq_false h2];rfl
  rw [if_pos rfl];rfl
 rw [if_neg k3] at ht
 by_cases k4 : x.f0 = 4
 ·rw [if_pos k4] at ht
  have hb:=QUtfWritePretties.bad_ev x.f3 (by unfold Sm at hs;omega)
  by_cases hp : p4 x = true
  ·rw [if_pos hp] at ht
   refine ⟨_,ht,lead _ ?_⟩
   unfold p4 at hp
   simp only [Bool.and_eq_true,decide_eq_true_eq,Bool.not_eq_true'] at hp
   obtain ⟨⟨hn,h1⟩,h2⟩:=hp;refine Ev.step (f:=fun k=>(quarryref05_Bad.f k x.f3).bind fun t=>some (t == (-1))) (fun k=>?_) (Ev.bind hb (Ev.congr (f:=fun _=>some (decide (u8Run x.f3.data.toList 0 0 0 0 < 0))) (fun k=>?_) (Ev.now _)))
   ·rw [quarryref17_plain.j0,if_neg k1,if_neg k2,if_neg k3,if_pos k4,hn,if_pos rfl,h1,if_neg (by decide),if_pos h2]
   congr 1
   have h:=QUtfWritePretties.run_ge x.f3.data.toList 0 0 0 0 (by omega)
   by_cases e : u8Run x.f3.data.toList 0 0 0 0 = -1
   ·rw [e];rfl
   rw [decide_eq_false (by omega)];exact beq_eq_false_iff_ne.mpr e
  rw [if_neg hp] at ht
  refine ⟨_,ht,lead _ ?_⟩;refine Ev.step (f:=fun _=>some false) (fun k=>?_) (Ev.now _);rw [quarryref17_plain.j0,if_neg k1,if_neg k2,if_neg k3,if_pos k4]
  unfold p4 at hp
  cases hn : noneB x
  ·rw [if_neg (by decide)]
  rw [if_pos rfl];cases h1 : x.f1
  ·rw [if_neg (by decide)]
   by_cases h2 : x.f2.toList = []
   ·exact absurd (by rw [hn,h1,decide_eq_true h2];rfl) hp
   rw [if_neg h2]
  rw [if_pos rfl]
 rw [if_neg k4] at ht
 by_cases k5 : x.f0 = 5
 ·rw [if_pos k5] at ht
  refine ⟨_,ht,lead _ ?_⟩;refine Ev.step (f:=fun _=>some (p5 x)) (fun k=>?_) (Ev.now _);rw [quarryref17_plain.j0,if_neg k1,if_neg k2,if_neg k3,if_neg k4,if_pos k5]
  unfold p5
  have h4 : ((x.f4.length : Int) == 0) = decide (x.f4.length = 0):=by
   by_cases h : x.f4.length = 0
   ·rw [decide_eq_true h,h];rfl
   rw [decide_eq_false h];exact beq_eq_false_iff_ne.mpr (by omega)
  rw [h4];cases x.f1
  ·rw [if_neg (by decide)]
   by_cases h2 : x.f2.toList = []
   ·rw [if_pos h2,decide_eq_true h2]
    by_cases h3 : x.f3.toList = []
    ·rw [if_pos h3,decide_eq_true h3];cases decide (x.f4.length = 0) <;> rfl
    rw [if_neg h3,decide_eq_false h3];cases decide (x.f4.length = 0) <;> rfl
   rw [if_neg h2,decide_eq_false h2];cases decide (x.f4.length = 0) <;> rfl
  rw [if_pos rfl];cases decide (x.f4.length = 0) <;> rfl
 rw [if_neg k5] at ht
 by_cases k6 : x.f0 = 6
 ·rw [if_pos k6] at ht
  have hn:=names_ev x hs x.f4.length 0 (by omega)
  rw [List.drop_zero] at hn
  refine ⟨(!anyBad x.f4 && (p6 x && decide (x.f4.length = x.f5.length))),?_,lead _ ?_⟩
  ·rw [ht];cases p6 x
   ·rw [if_neg (by decide)];cases anyBad x.f4 <;> rfl
   rw [if_pos rfl]
   by_cases h : x.f4.length = x.f5.length
   ·rw [if_pos h,decide_eq_true h];cases anyBad x.f4 <;> rfl
   rw [if_neg h,decide_eq_false h];cases anyBad x.f4 <;> rfl
  refine Ev.step (fun k=>?_) hn;rw [quarryref17_plain.j0,if_neg k1,if_neg k2,if_neg k3,if_neg k4,if_neg k5,if_pos k6];rfl
 rw [if_neg k6] at ht
 refine ⟨_,ht,lead _ ?_⟩;refine Ev.step (f:=fun _=>some false) (fun k=>?_) (Ev.now _);rw [quarryref17_plain.j0,if_neg k1,if_neg k2,if_neg k3,if_neg k4,if_neg k5,if_neg k6]
theorem holds_f (x : S25) : tree_holds.f x.f0 x.f1 x.f2 x.f3 x.f4 x.f5 = some (decide (x.f0 = 5 ∨ x.f0 = 6)):=by
 unfold tree_holds.f
 by_cases h : x.f0 = 5
 ·rw [if_pos h,decide_eq_true (.inl h)]
 rw [if_neg h]
 by_cases h6 : x.f0 = 6
 ·rw [decide_eq_true (.inr h6),h6];rfl
 rw [decide_eq_false (fun e=>e.elim h h6)]
 congr 1
 exact beq_eq_false_iff_ne.mpr h6
def Both {α : Type} (f g : Nat → Option α) : Prop:=∃ b,Ev f b ∧ Ev g b
theorem formed_loop (x : S25) (hs : Sm x) (hk : ∀ y ∈ x.f5,∀ left : Int,Both (fun k=>tree_formed.f k y.f0 y.f1 y.f2 y.f3 y.f4 y.f5 left) (fun k=>quarryref17_formed.f k y.f0 y.f1 y.f2 y.f3 y.f4 y.f5 left)) (left : Int) : ∀ (d i : Nat),i + d = x.f5.length →
  Both (fun k=>tree_formed.l0 k left x.f5 (x.f5.length : Int) (i : Int)) (fun k=>quarryref17_formed.l0 k left (i : Int) x.f0 x.f1 x.f2 x.f3 x.f4 x.f5)
 | 0,i,hd=>⟨true,Ev.step (f:=fun _=>some true) (fun k=>by rw [tree_formed.l0,if_neg (by omega)]) (Ev.now _),Ev.step (f:=fun _=>some true) (fun k=>by rw [quarryref17_formed.l0,if_neg (by omega)]) (Ev.now _)⟩
 | d + 1,i,hd=>by
  have hlt : i < x.f5.length:=by omega
  have hl:=(small_len x).1;have hw:=w64s i (by unfold Sm at hs;omega);obtain ⟨b,h1,h2⟩:=hk _ (rd_mem x.f5 i hlt) (wrap64 (left - 1));obtain ⟨r,ih1,ih2⟩:=formed_loop x hs hk left d (i + 1) (by omega)
  cases b with
  | true =>
   refine ⟨r,Ev.step (fun k=>?_) (Ev.bind (f:=fun k t=>if t = true then tree_formed.l0 k left x.f5 (x.f5.length : Int) ((i + 1 : Nat) : Int) else some false) h1 (Ev.congr (fun k=>if_pos rfl) ih1)),Ev.step (fun k=>?_) (Ev.bind (f:=fun k t=>if t = true then quarryref17_formed.l0 k left ((i + 1 : Nat) : Int) x.f0 x.f1 x.f2 x.f3 x.f4 x.f5 else some false) h2 (Ev.congr (fun k=>if_pos rfl) ih2))⟩
   ·rw [tree_formed.l0,if_pos (by omega),if_pos (by omega),if_pos (by omega),hw]
   rw [quarryref17_formed.l0,if_pos (by omega),if_pos (by omega),hw]
  | false =>
   refine ⟨false,Ev.step (fun k=>?_) (Ev.bind (f:=fun k t=>if t = true then tree_formed.l0 k left x.f5 (x.f5.length : Int) ((i + 1 : Nat) : Int) else some false) h1 (Ev.congr (f:=fun _=>some false) (fun k=>if_neg Bool.false_ne_true) (Ev.now _))),Ev.step (fun k=>?_) (Ev.bind (f:=fun k t=>if t = true then quarryref17_formed.l0 k left ((i + 1 : Nat) : Int) x.f0 x.f1 x.f2 x.f3 x.f4 x.f5 else some false) h2 (Ev.congr (f:=fun _=>some false) (fun k=>if_neg Bool.false_ne_true) (Ev.now _)))⟩
   ·rw [tree_formed.l0,if_pos (by omega),if_pos (by omega),if_pos (by omega),hw]
   rw [quarryref17_formed.l0,if_pos (by omega),if_pos (by omega),hw]
theorem formed_ev (n : Nat) : ∀ (x : S25),SizeOf.sizeOf x ≤ n → Sm x → ∀ left : Int,Both (fun k=>tree_formed.f k x.f0 x.f1 x.f2 x.f3 x.f4 x.f5 left) (fun k=>quarryref17_formed.f k x.f0 x.f1 x.f2 x.f3 x.f4 x.f5 left):=by
 induction n with
 | zero=>intro x hn;cases x;simp at hn
 | succ n ih =>
  intro x hn hs left;obtain ⟨b,hp1,hp2⟩:=plain_ev x hs;have hh:=holds_f x;obtain ⟨r,l1,l2⟩:=formed_loop x hs (fun y hy=>ih y (by have:=kid_lt hy;omega) (by have:=small_kid x y hy;unfold Sm at hs ⊢;omega)) left x.f5.length 0 (by omega)
  have jt (c : Bool) : Ev (fun k=>tree_formed.j0 k left c x.f0 x.f1 x.f2 x.f3 x.f4 x.f5) (if c = true then false else r):=by
   cases c
   ·exact Ev.step (fun k=>by rw [tree_formed.j0,if_neg (by decide)];rfl) l1
   exact Ev.step (f:=fun _=>some false) (fun k=>by rw [tree_formed.j0,if_pos rfl]) (Ev.now _)
  have jr (c : Bool) : Ev (fun k=>quarryref17_formed.j0 k left c x.f0 x.f1 x.f2 x.f3 x.f4 x.f5) (if c = true then false else r):=by
   cases c
   ·exact Ev.step (fun k=>by rw [quarryref17_formed.j0,if_neg (by decide)];rfl) l2
   exact Ev.step (f:=fun _=>some false) (fun k=>by rw [quarryref17_formed.j0,if_pos rfl]) (Ev.now _)
  cases b with
  | false =>
   refine ⟨false,Ev.step (fun k=>?_) (jt true),Ev.step (fun k=>?_) (Ev.bind (f:=fun k t=>if t = true then (if x.f0 = 5 then (quarryref17_formed.j0 k left (left == 0) x.f0 x.f1 x.f2 x.f3 x.f4 x.f5) else (if x.f0 = 6 then (quarryref17_formed.j0 k left (left == 0) x.f0 x.f1 x.f2 x.f3 x.f4 x.f5) else (quarryref17_formed.j0 k left false x.f0 x.f1 x.f2 x.f3 x.f4 x.f5))) else some false) hp2 (Ev.congr (f:=fun _=>some false) (fun k=>if_neg Bool.false_ne_true) (Ev.now _)))⟩
   ·rw [tree_formed.f,hp1,Option.bind_some,if_neg (by decide)]
   rw [quarryref17_formed.f]
  | true =>
   by_cases hc : x.f0 = 5 ∨ x.f0 = 6
   ·rw [decide_eq_true hc] at hh
    refine ⟨_,Ev.step (fun k=>?_) (jt (left == 0)),Ev.step (fun k=>?_) (Ev.bind (f:=fun k t=>if t = true then (if x.f0 = 5 then (quarryref17_formed.j0 k left (left == 0) x.f0 x.f1 x.f2 x.f3 x.f4 x.f5) else (if x.f0 = 6 then (quarryref17_formed.j0 k left (left == 0) x.f0 x.f1 x.f2 x.f3 x.f4 x.f5) else (quarryref17_formed.j0 k left false x.f0 x.f1 x.f2 x.f3 x.f4 x.f5))) else some false) hp2 (Ev.congr (fun k=>?_) (jr (left == 0))))⟩
    ·rw [tree_formed.f,hp1,Option.bind_some,if_pos rfl,hh,Option.bind_some,if_pos rfl]
    ·rw [quarryref17_formed.f]
    rw [if_pos rfl]
    by_cases h5 : x.f0 = 5
    ·rw [if_pos h5]
    rw [if_neg h5,if_pos (hc.resolve_left h5)]
   rw [decide_eq_false hc] at hh
   refine ⟨_,Ev.step (fun k=>?_) (jt false),Ev.step (fun k=>?_) (Ev.bind (f:=fun k t=>if t = true then (if x.f0 = 5 then (quarryref17_formed.j0 k left (left == 0) x.f0 x.f1 x.f2 x.f3 x.f4 x.f5) else (if x.f0 = 6 then (quarryref17_formed.j0 k left (left == 0) x.f0 x.f1 x.f2 x.f3 x.f4 x.f5) else (quarryref17_formed.j0 k left false x.f0 x.f1 x.f2 x.f3 x.f4 x.f5))) else some false) hp2 (Ev.congr (fun k=>?_) (jr false)))⟩
   ·rw [tree_formed.f,hp1,Option.bind_some,if_pos rfl,hh,Option.bind_some,if_neg (by decide)]
   ·rw [quarryref17_formed.f]
   rw [if_pos rfl,if_neg (fun h=>hc (.inl h)),if_neg (fun h=>hc (.inr h))]
theorem Formed_ev (x : S25) (hs : Sm x) : Both (fun k=>tree_Formed.f k x.f0 x.f1 x.f2 x.f3 x.f4 x.f5) (fun k=>quarryref17_Formed.f k x.f0 x.f1 x.f2 x.f3 x.f4 x.f5):=by
 obtain ⟨b,h1,h2⟩:=formed_ev (SizeOf.sizeOf x) x (Nat.le_refl _) hs 1024;exact ⟨b,Ev.bind (f:=fun _ t=>some t) h1 (Ev.now _),Ev.bind (f:=fun _ t=>some t) h2 (Ev.now _)⟩
end Go.Proofs.YtlgamjgdkljfiacGreatDoor.QTreeWritePretties
namespace Go.Proofs.YtlgamjgdkljfiacGreatDoor.QFrmWritePretties
open Go.RowKit Go.Proofs.YtlgamjgdkljfiacGreatDoor.PWritePretties Go.Proofs.YtlgamjgdkljfiacGreatDoorW.PrintWords Go.Proofs.YtlgamjgdkljfiacGreatDoorW.PrintLast Go.Proofs.YtlgamjgdkljfiacGreatDoor.QValWritePretties Go.Proofs.YtlgamjgdkljfiacGreatDoor.QTreeWritePretties
set_option linter.unusedVariables false
set_option linter.unusedSimpArgs false
theorem rd_get (l : List S25) (i : Nat) (h : i < l.length) : rd_T25 l (i : Int) = l[i]:=by
 unfold rd_T25
 rw [Int.toNat_natCast,List.getD_eq_getElem?_getD,List.getElem?_eq_getElem h,Option.getD_some]
theorem of_tot (s : ByteArray) (hs : s.size ≤ 1099511627776) : ∃ r,decimal_Of.f s = some r:=by
 unfold decimal_Of.f decimal_Read.f
 rw [if_pos hs,Option.bind_some]
 split
 ·exact ⟨_,rfl⟩
 split <;> exact ⟨_,rfl⟩
inductive Frm : Nat → S25 → Prop
 | mk (n : Nat) (x : S25) (h : tree_plain.f x.f0 x.f1 x.f2 x.f3 x.f4 x.f5 = some true) (d : x.f5 ≠ [] → 0 < n) (c : (x.f0 = 5 ∨ x.f0 = 6) → 0 < n) (k : ∀ y ∈ x.f5,Frm (n - 1) y) : Frm n x
theorem Frm.mono : ∀ {n : Nat} {x : S25},Frm n x → ∀ m,n ≤ m → Frm m x:=by
 intro n x h
 induction h with
 | mk n x h d c k ih =>
  intro m hm;exact .mk m x h (fun e=>by have:=d e;omega) (fun e=>by have:=c e;omega) (fun y hy=>ih y hy (m - 1) (by omega))
theorem Frm.kid {n : Nat} {x y : S25} (h : Frm n x) (hy : y ∈ x.f5) : Frm n y:=by
 cases h with
 | mk _ _ h d c k=>exact (k y hy).mono n (by omega)
theorem plain_tot (x : S25) (hs : Sm x) : ∃ b,tree_plain.f x.f0 x.f1 x.f2 x.f3 x.f4 x.f5 = some b:=by
 rw [tree_plain_f x hs];obtain ⟨r,hr⟩:=of_tot x.f2 (by have:=small_raw x;unfold Sm at hs;omega);rw [hr]
 split
 ·exact ⟨_,rfl⟩
 split
 ·exact ⟨_,rfl⟩
 split
 ·exact ⟨_,rfl⟩
 split
 ·split <;> exact ⟨_,rfl⟩
 split
 ·exact ⟨_,rfl⟩
 split
 ·split
  ·split <;> exact ⟨_,rfl⟩
  exact ⟨_,rfl⟩
 exact ⟨_,rfl⟩
theorem plain_kids (x : S25) (hs : Sm x) (h : tree_plain.f x.f0 x.f1 x.f2 x.f3 x.f4 x.f5 = some true) (h5 : ¬ (x.f0 = 5 ∨ x.f0 = 6)) : x.f5 = []:=by
 rw [tree_plain_f x hs] at h
 have nb : noneB x = true → x.f5 = []:=by
  intro g
  unfold noneB at g
  simp only [Bool.and_eq_true,decide_eq_true_eq] at g
  exact List.length_eq_zero_iff.1 g.2
 apply nb
 by_cases c1 : x.f0 = 1
 ·rw [if_pos c1] at h
  have h:=Option.some.inj h
  unfold p1 at h
  simp only [Bool.and_eq_true] at h
  exact h.1.1.1
 rw [if_neg c1] at h
 by_cases c2 : x.f0 = 2
 ·rw [if_pos c2] at h
  have h:=Option.some.inj h
  unfold p2 at h
  simp only [Bool.and_eq_true] at h
  exact h.1.1
 rw [if_neg c2] at h
 by_cases c3 : x.f0 = 3
 ·rw [if_pos c3] at h
  obtain ⟨d,hd,h⟩:=Option.bind_eq_some_iff.mp h;have h:=Option.some.inj h
  unfold p3 at h
  simp only [Bool.and_eq_true] at h
  exact h.1.1.1.1
 rw [if_neg c3] at h
 by_cases c4 : x.f0 = 4
 ·rw [if_pos c4] at h
  by_cases hp : p4 x = true
  ·unfold p4 at hp
   simp only [Bool.and_eq_true] at hp
   exact hp.1.1
  rw [if_neg hp] at h;cases h
 rw [if_neg c4,if_neg (fun e=>h5 (.inl e)),if_neg (fun e=>h5 (.inr e))] at h
 cases h
theorem w64m (n : Nat) (h : 0 < n) (h2 : n ≤ 1024) : wrap64 ((n : Int) - 1) = ((n - 1 : Nat) : Int):=by unfold wrap64;omega
theorem floop_tot (left : Int) (P : List S25) (hs : P.length ≤ 1048576) {p : S25 → Bool} (hk : ∀ y ∈ P,Ev (fun k=>tree_formed.f k y.f0 y.f1 y.f2 y.f3 y.f4 y.f5 (wrap64 (left - 1))) (p y)) : ∀ d i : Nat,i + d = P.length → Ev (fun k=>tree_formed.l0 k left P (P.length : Int) (i : Int)) ((P.drop i).all p)
 | 0,i,h=>by
  rw [List.drop_of_length_le (by omega)];exact Ev.step (f:=fun _=>some true) (fun k=>by rw [tree_formed.l0,if_neg (by omega)]) (Ev.now _)
 | d + 1,i,h=>by
  have hi : i < P.length:=by omega
  have ih:=floop_tot left P hs hk d (i + 1) (by omega);have b1:=hk _ (List.getElem_mem hi)
  have st : ∀ k,tree_formed.l0 (k + 1) left P (P.length : Int) (i : Int) = (tree_formed.f k P[i].f0 P[i].f1 P[i].f2 P[i].f3 P[i].f4 P[i].f5 (wrap64 (left - 1))).bind fun t=>if t = true then tree_formed.l0 k left P (P.length : Int) ((i + 1 : Nat) : Int) else some false:=fun k=>by
   rw [tree_formed.l0,if_pos (by omega),if_pos (by omega),if_pos (by omega),rd_get P i hi,w64s i (by omega)]
  rw [List.drop_eq_getElem_cons hi,List.all_cons];refine Ev.step st (Ev.bind b1 ?_)
  cases p P[i] with
  | true=>exact Ev.congr (fun k=>if_pos rfl) (by rw [Bool.true_and];exact ih)
  | false=>exact Ev.congr (f:=fun _=>some false) (fun k=>if_neg (by decide)) (Ev.now _)
theorem formed_tot (m : Nat) : ∀ x : S25,SizeOf.sizeOf x ≤ m → Sm x → ∀ n : Nat,n ≤ 1024 → ∃ b,Ev (fun k=>tree_formed.f k x.f0 x.f1 x.f2 x.f3 x.f4 x.f5 (n : Int)) b ∧ (b = true ↔ Frm n x):=by
 induction m with
 | zero=>intro x hn;cases x;simp at hn
 | succ m ih =>
  intro x hm hs n hn;obtain ⟨b,hb⟩:=plain_tot x hs;have hh:=holds_f x;have hl:=(small_len x).1
  have j0 : ∀ c r,Ev (fun k=>tree_formed.l0 k (n : Int) x.f5 (x.f5.length : Int) 0) r → Ev (fun k=>tree_formed.j0 k (n : Int) c x.f0 x.f1 x.f2 x.f3 x.f4 x.f5) (if c = true then false else r):=by
   intro c r hr
   cases c with
   | true=>exact Ev.step (f:=fun _=>some false) (fun k=>by rw [tree_formed.j0,if_pos rfl]) (Ev.now _)
   | false=>exact Ev.step (fun k=>by rw [tree_formed.j0,if_neg (by decide)]) hr
  have jt : Ev (fun k=>tree_formed.j0 k (n : Int) true x.f0 x.f1 x.f2 x.f3 x.f4 x.f5) false:=Ev.step (f:=fun _=>some false) (fun k=>by rw [tree_formed.j0,if_pos rfl]) (Ev.now _)
  cases b with
  | false =>
   refine ⟨false,Ev.step (fun k=>?_) jt,⟨fun e=>(by cases e),fun e=>?_⟩⟩
   ·rw [tree_formed.f,hb,Option.bind_some,if_neg (by decide)]
   cases e with
   | mk _ _ h _ _ _=>rw [hb] at h;cases h
  | true =>
   by_cases c5 : x.f0 = 5 ∨ x.f0 = 6
   ·rw [decide_eq_true c5] at hh
    by_cases c0 : n = 0
    ·subst c0;refine ⟨false,Ev.step (fun k=>?_) jt,⟨fun e=>(by cases e),fun e=>?_⟩⟩
     ·rw [tree_formed.f,hb,Option.bind_some,if_pos rfl,hh,Option.bind_some,if_pos rfl];rfl
     cases e with
     | mk _ _ _ _ c _=>exact absurd (c c5) (by omega)
    have hp : ∀ y : S25,∃ b,y ∈ x.f5 → Ev (fun k=>tree_formed.f k y.f0 y.f1 y.f2 y.f3 y.f4 y.f5 (wrap64 ((n : Int) - 1))) b ∧ (b = true ↔ Frm (n - 1) y):=by
     intro y
     by_cases hy : y ∈ x.f5
     ·obtain ⟨b,b1,b2⟩:=ih y (by have:=kid_lt hy;omega) (by have:=small_kid x y hy;unfold Sm at hs ⊢;omega) (n - 1) (by omega);exact ⟨b,fun _=>⟨by rw [w64m n (by omega) hn];exact b1,b2⟩⟩
     exact ⟨false,fun g=>absurd g hy⟩
    obtain ⟨p,hp⟩:=Classical.skolem.1 hp;have lo:=floop_tot (n : Int) x.f5 (by unfold Sm at hs;omega) (fun y hy=>(hp y hy).1) x.f5.length 0 (by omega);have:=j0 ((n : Int) == 0) _ lo
    rw [show ((n : Int) == 0) = false from beq_eq_false_iff_ne.mpr (by omega),if_neg (by decide),List.drop_zero] at this
    refine ⟨_,Ev.step (fun k=>?_) this,?_⟩
    ·rw [tree_formed.f,hb,Option.bind_some,if_pos rfl,hh,Option.bind_some,if_pos rfl,show ((n : Int) == 0) = false from beq_eq_false_iff_ne.mpr (by omega)]
    rw [List.all_eq_true]
    constructor
    ·intro g;exact .mk n x hb (fun _=>by omega) (fun _=>by omega) (fun y hy=>(hp y hy).2.1 (g y hy))
    intro g y hy
    cases g with
    | mk _ _ _ _ _ k=>exact (hp y hy).2.2 (k y hy)
   rw [decide_eq_false c5] at hh
   have he:=plain_kids x hs hb c5;refine ⟨true,Ev.step (fun k=>?_) (Ev.step (f:=fun k=>tree_formed.l0 k (n : Int) x.f5 (x.f5.length : Int) 0) (g:=fun k=>tree_formed.j0 k (n : Int) false x.f0 x.f1 x.f2 x.f3 x.f4 x.f5) (fun k=>?_) (Ev.step (f:=fun _=>some true) (fun k=>?_) (Ev.now _))),⟨fun _=>?_,fun _=>rfl⟩⟩
   ·rw [tree_formed.f,hb,Option.bind_some,if_pos rfl,hh,Option.bind_some,if_neg (by decide)]
   ·rw [tree_formed.j0,if_neg (by decide)]
   ·rw [tree_formed.l0,he,if_neg (by decide)]
   exact .mk n x hb (fun e=>absurd he e) (fun e=>absurd e c5) (fun y hy=>by rw [he] at hy;cases hy)
theorem Formed_tot (x : S25) (hs : Sm x) : ∃ b,Ev (fun k=>tree_Formed.f k x.f0 x.f1 x.f2 x.f3 x.f4 x.f5) b ∧ (b = true ↔ Frm 1024 x):=by
 obtain ⟨b,b1,b2⟩:=formed_tot (SizeOf.sizeOf x) x (Nat.le_refl _) hs 1024 (Nat.le_refl _);exact ⟨b,Ev.bind (f:=fun _ t=>some t) b1 (Ev.now _),b2⟩
structure Like (x : S25) : Prop where
 kind : x.f0 = 1 ∨ x.f0 = 2 ∨ x.f0 = 3 ∨ x.f0 = 4 ∨ x.f0 = 5 ∨ x.f0 = 6
 raw : x.f0 = 3 → x.f2.toList ≠ []
 keys : x.f0 = 6 → x.f4.length = x.f5.length
theorem plain_like (x : S25) (hs : Sm x) (h : tree_plain.f x.f0 x.f1 x.f2 x.f3 x.f4 x.f5 = some true) : Like x:=by
 rw [tree_plain_f x hs] at h
 by_cases c1 : x.f0 = 1
 ·exact ⟨.inl c1,fun e=>by omega,fun e=>by omega⟩
 by_cases c2 : x.f0 = 2
 ·exact ⟨.inr (.inl c2),fun e=>by omega,fun e=>by omega⟩
 rw [if_neg c1,if_neg c2] at h
 by_cases c3 : x.f0 = 3
 ·refine ⟨.inr (.inr (.inl c3)),fun _=>?_,fun e=>by omega⟩
  rw [if_pos c3] at h
  obtain ⟨d,_,h⟩:=Option.bind_eq_some_iff.mp h;have h:=Option.some.inj h
  unfold p3 at h
  simp only [Bool.and_eq_true,decide_eq_true_eq] at h
  exact h.1.1.2
 rw [if_neg c3] at h
 by_cases c4 : x.f0 = 4
 ·exact ⟨.inr (.inr (.inr (.inl c4))),fun e=>by omega,fun e=>by omega⟩
 by_cases c5 : x.f0 = 5
 ·exact ⟨.inr (.inr (.inr (.inr (.inl c5)))),fun e=>by omega,fun e=>by omega⟩
 rw [if_neg c4,if_neg c5] at h
 by_cases c6 : x.f0 = 6
 ·refine ⟨.inr (.inr (.inr (.inr (.inr c6)))),fun e=>by omega,fun _=>?_⟩
  rw [if_pos c6] at h
  by_cases h6 : p6 x = true
  ·rw [if_pos h6] at h
   by_cases hl : x.f4.length = x.f5.length
   ·exact hl
   rw [if_neg hl] at h;cases h
  rw [if_neg h6] at h;cases h
 rw [if_neg c6] at h;cases h
theorem Frm.like {n : Nat} {x : S25} (h : Frm n x) (hs : Sm x) : Like x:=by
 cases h with
 | mk _ _ h d c k=>exact plain_like x hs h
theorem Sm.kid {x y : S25} (h : Sm x) (hy : y ∈ x.f5) : Sm y:=by
 have:=small_kid x y hy;unfold Sm at h ⊢;omega
end Go.Proofs.YtlgamjgdkljfiacGreatDoor.QFrmWritePretties
namespace Go.Proofs.YtlgamjgdkljfiacGreatDoor.QEscWritePretties
open Go.RowKit Go.Proofs.YtlgamjgdkljfiacGreatDoor.PWritePretties Go.Proofs.YtlgamjgdkljfiacGreatDoorW.PrintWords Go.Proofs.YtlgamjgdkljfiacGreatDoorW.PrintLast
set_option linter.unusedVariables false
set_option linter.unusedSimpArgs false
def numsL (l : List UInt8) : List Int:=l.map fun b=>(b.toNat : Int)
theorem numsL_app (l m : List UInt8) : numsL (l ++ m) = numsL l ++ numsL m:=List.map_append
theorem str_numsL (l : List UInt8) : strOfNums (numsL l) = ⟨l.toArray⟩:=by
 have h : ∀ l : List UInt8,(numsL l).map (fun v=>UInt8.ofNat v.toNat) = l:=by
  intro l
  unfold numsL
  rw [List.map_map]
  conv=>rhs;rw [← List.map_id l]
  apply List.map_congr_left
  intro c _
  simp
 unfold strOfNums
 first
  | (rw [h])
  | (congr 1;exact congrArg _ (h l))
  | simp [numsL]
theorem one_escB (c : UInt8) : oneR c.toNat = ⟨(escB c).toArray⟩:=by
 have h : ∀ n,n < 256 → oneR (UInt8.ofNat n).toNat = ⟨(escB (UInt8.ofNat n)).toArray⟩:=by decide +kernel
 have:=h c.toNat c.toNat_lt
 rwa [UInt8.ofNat_toNat] at this
theorem esc_part (l : List UInt8) (i : Nat) (hi : i < l.length) : (escL (l.take i)).length + (escB l[i]).length ≤ 6 * l.length:=by
 have h1:=escL_le (l.take i);have h2:=(escB_len l[i]).1
 rw [List.length_take] at h1
 omega
theorem bt_get (s : ByteArray) (i : Nat) (hi : i < s.data.toList.length) : bt s (i : Int) = ((s.data.toList[i].toNat : Nat) : Int):=by
 have hl:=data_length s
 unfold bt
 rw [dif_pos (by rw [Int.toNat_natCast];omega)];rfl
theorem one_at (c : UInt8) : quarryref15_one.f ((c.toNat : Nat) : Int) = some ⟨(escB c).toArray⟩:=by
 have hlt:=c.toNat_lt
 unfold quarryref15_one.f
 rw [if_pos (by omega),Int.toNat_natCast,one_escB]
theorem esc_room (l m : List UInt8) (n : Nat) (h : l.length + m.length ≤ 6 * n) (hn : n ≤ 1099511627776) : (numsL l).length + (⟨m.toArray⟩ : ByteArray).size < 140737488355328:=by
 show (numsL l).length + m.toArray.size < _
 rw [List.size_toArray]
 unfold numsL
 rw [List.length_map]
 omega
theorem i64s (i : Nat) (h : i ≤ 1099511627776) : wrap64 ((i : Int) + 1) = ((i + 1 : Nat) : Int):=by unfold wrap64;omega
theorem esc_loop (s : ByteArray) (hs : s.size ≤ 1099511627776) : ∀ (d i : Nat),i + d = s.size → Ev (fun k=>quarryref15_Escape.l0 k s (numsL (escL (s.data.toList.take i))) (i : Int)) (⟨(escL s.data.toList).toArray⟩,0)
 | 0,i,h=>by
  have hl:=data_length s;refine Ev.step (f:=fun _=>some _) (fun k=>?_) (Ev.now _);rw [quarryref15_Escape.l0,if_neg (by omega),List.take_of_length_le (by omega),str_numsL]
 | d + 1,i,h=>by
  have hl:=data_length s
  have hi : i < s.data.toList.length:=by omega
  have hlt : (i : Int) < (s.size : Int):=by omega
  have h0 : (0 : Int) ≤ (i : Int):=by omega
  have hw:=i64s i (by omega)
  have h1 : quarryref15_one.f (bt s (i : Int)) = some ⟨(escB s.data.toList[i]).toArray⟩:=by rw [bt_get s i hi];exact one_at _
  have e1:=esc_room (escL (s.data.toList.take i)) (escB s.data.toList[i]) s.size (by rw [← hl];exact esc_part s.data.toList i hi) hs;have ih:=esc_loop s hs d (i + 1) (by omega)
  rw [escL_take s.data.toList i hi,numsL_app] at ih
  refine Ev.step (fun k=>?_) ih;rw [quarryref15_Escape.l0,if_pos hlt,if_pos h0,h1,Option.bind_some,hw,if_pos e1];rfl
theorem esc_ev (s : ByteArray) (hs : s.size ≤ 1099511627776) : ∃ e,Ev (fun k=>quarryref15_Escape.f k s) (⟨(escT s).toArray⟩,e):=by
 have hb:=QUtfWritePretties.bad_ev s hs
 by_cases h : 0 ≤ u8Run s.data.toList 0 0 0 0
 ·refine ⟨50,Ev.congr (fun k=>by rw [quarryref15_Escape.f]) (Ev.bind (f:=fun k t=>if t ≥ 0 then some ((⟨#[]⟩ : ByteArray),50) else quarryref15_Escape.l0 k s ([] : List Int) 0) hb (Ev.congr (f:=fun _=>some (⟨(escT s).toArray⟩,50)) (fun k=>?_) (Ev.now _)))⟩
  have e : escT s = []:=by unfold escT;rw [if_pos h]
  rw [if_pos h,e]
 refine ⟨0,Ev.congr (fun k=>by rw [quarryref15_Escape.f]) (Ev.bind (f:=fun k t=>if t ≥ 0 then some ((⟨#[]⟩ : ByteArray),50) else quarryref15_Escape.l0 k s ([] : List Int) 0) hb (Ev.congr (fun k=>if_neg h) ?_))⟩
 have e : escT s = escL s.data.toList:=by unfold escT;rw [if_neg h]
 rw [e];exact esc_loop s hs s.size 0 (by omega)
theorem quo_len (s : ByteArray) : (quoL s).length ≤ 6 * s.size + 2:=by
 have:=escT_le s
 unfold quoL
 rw [List.length_cons,List.length_append,List.length_singleton]
 omega
theorem quoted_ev (s : ByteArray) (hs : s.size ≤ 1099511627776) : Ev (fun k=>quarryref18_Quoted.f k s) (⟨(quoL s).toArray⟩ : ByteArray):=by
 obtain ⟨e,h⟩:=esc_ev s hs;have hl:=escT_le s;refine Ev.congr (fun k=>by rw [quarryref18_Quoted.f]) (Ev.bind (f:=fun _ bt=>if 1 + bt.1.size ≤ 9223372036854775807 then (if ((⟨#[34]⟩ : ByteArray) ++ bt.1).size + 1 ≤ 9223372036854775807 then (some (((⟨#[34]⟩ : ByteArray) ++ bt.1) ++ (⟨#[34]⟩ : ByteArray))) else (none)) else (none)) h (Ev.congr (f:=fun _=>some _) (fun k=>?_) (Ev.now _)))
 have z1 : 1 + (⟨(escT s).toArray⟩ : ByteArray).size ≤ 9223372036854775807:=by
  show 1 + (escT s).toArray.size ≤ _
  rw [List.size_toArray];omega
 have z2 : ((⟨#[34]⟩ : ByteArray) ++ ⟨(escT s).toArray⟩).size + 1 ≤ 9223372036854775807:=by
  rw [ByteArray.size_append]
  show 1 + (escT s).toArray.size + 1 ≤ _
  rw [List.size_toArray];omega
 simp only;rw [if_pos z1,if_pos z2,quo_eq]
end Go.Proofs.YtlgamjgdkljfiacGreatDoor.QEscWritePretties
namespace Go.Proofs.YtlgamjgdkljfiacGreatDoor.QCompWritePretties
open Go.RowKit Go.Proofs.YtlgamjgdkljfiacGreatDoor.PWritePretties Go.Proofs.YtlgamjgdkljfiacGreatDoorW.PrintWords Go.Proofs.YtlgamjgdkljfiacGreatDoorW.PrintLast Go.Proofs.YtlgamjgdkljfiacGreatDoor.QValWritePretties Go.Proofs.YtlgamjgdkljfiacGreatDoor.QTreeWritePretties Go.Proofs.YtlgamjgdkljfiacGreatDoor.QFrmWritePretties Go.Proofs.YtlgamjgdkljfiacGreatDoor.QEscWritePretties Go.Proofs.YtlgamjgdkljfiacGreatDoor.QFewWritePretties
set_option linter.unusedVariables false
set_option linter.unusedSimpArgs false
abbrev B (l : List UInt8) : ByteArray:=⟨l.toArray⟩
theorem B_app (a b : List UInt8) : B a ++ B b = B (a ++ b):=by
 apply ByteArray.ext
 apply Array.ext'
 simp
theorem B_size (a : List UInt8) : (B a).size = a.length:=List.size_toArray
theorem B_data (s : ByteArray) : B s.data.toList = s:=by
 apply ByteArray.ext
 apply Array.ext'
 simp
def nsum (l : List ByteArray) : Nat:=(l.map fun x : ByteArray=>x.size + 1).sum
theorem nsum_drop (l : List ByteArray) (i : Nat) : nsum (l.drop (i + 1)) ≤ nsum (l.drop i):=by
 by_cases h : i < l.length
 ·rw [List.drop_eq_getElem_cons h]
  unfold nsum
  rw [List.map_cons,List.sum_cons]
  omega
 rw [List.drop_of_length_le (by omega),List.drop_of_length_le (by omega)];exact Nat.le_refl _
theorem nsum_get (l : List ByteArray) (i : Nat) (h : i < l.length) : nsum (l.drop i) = (rdOf ByteArray.empty l (i : Int)).size + 1 + nsum (l.drop (i + 1)):=by
 have hrd : rdOf ByteArray.empty l (i : Int) = l[i]:=by unfold rdOf;simp [h]
 rw [List.drop_eq_getElem_cons h,hrd]
 unfold nsum
 rw [List.map_cons,List.sum_cons]
def part (x : S25) (i : Nat) : List UInt8:=if x.f0 = 6 then quoL (rdOf ByteArray.empty x.f4 (i : Int)) ++ [58] else []
theorem name_small (x : S25) (hs : Sm x) (i : Nat) : (rdOf ByteArray.empty x.f4 (i : Int)).size ≤ 1048576:=by
 unfold rdOf
 rw [Int.toNat_natCast]
 by_cases h : i < x.f4.length
 ·rw [List.getD_eq_getElem?_getD,List.getElem?_eq_getElem h,Option.getD_some];have:=small_name x _ (List.getElem_mem h)
  unfold Sm at hs
  omega
 rw [List.getD_eq_getElem?_getD,List.getElem?_eq_none (by omega),Option.getD_none];exact Nat.zero_le _
end Go.Proofs.YtlgamjgdkljfiacGreatDoor.QCompWritePretties
namespace Go.Proofs.YtlgamjgdkljfiacGreatDoor.QPretWritePretties
open Go.RowKit Go.Proofs.YtlgamjgdkljfiacGreatDoor.PWritePretties Go.Proofs.YtlgamjgdkljfiacGreatDoorW.PrintWords Go.Proofs.YtlgamjgdkljfiacGreatDoorW.PrintLast Go.Proofs.YtlgamjgdkljfiacGreatDoor.QValWritePretties Go.Proofs.YtlgamjgdkljfiacGreatDoor.QTreeWritePretties Go.Proofs.YtlgamjgdkljfiacGreatDoor.QFrmWritePretties Go.Proofs.YtlgamjgdkljfiacGreatDoor.QEscWritePretties Go.Proofs.YtlgamjgdkljfiacGreatDoor.QFewWritePretties Go.Proofs.YtlgamjgdkljfiacGreatDoor.QCompWritePretties
set_option linter.unusedVariables false
set_option linter.unusedSimpArgs false
theorem numsL_len (l : List UInt8) : (numsL l).length = l.length:=List.length_map _
theorem put_loop (s : ByteArray) (hs : s.size ≤ 1099511627776) (pre : List UInt8) (hp : pre.length ≤ 35184372088832) : ∀ (d i : Nat),i + d = s.size → Ev (fun k=>quarryref18_put.l0 k (numsL (pre ++ s.data.toList.take i)) s (i : Int)) (numsL (pre ++ s.data.toList))
 | 0,i,h=>by
  have hl:=data_length s;refine Ev.step (f:=fun _=>some _) (fun k=>?_) (Ev.now _);rw [quarryref18_put.l0,if_neg (by omega),List.take_of_length_le (by omega)]
 | d + 1,i,h=>by
  have hl:=data_length s
  have hi : i < s.data.toList.length:=by omega
  have hlt : (i : Int) < (s.size : Int):=by omega
  have h0 : (0 : Int) ≤ (i : Int):=by omega
  have hw:=i64s i (by omega);have hb:=bt_get s i hi
  have hz : (numsL (pre ++ s.data.toList.take i)).length < 140737488355328:=by
   rw [numsL_len,List.length_append,List.length_take];omega
  have ih:=put_loop s hs pre hp d (i + 1) (by omega)
  rw [List.take_succ_eq_append_getElem hi,← List.append_assoc,numsL_app] at ih
  refine Ev.step (fun k=>?_) ih;rw [quarryref18_put.l0,if_pos hlt,if_pos h0,if_pos hz,hw,hb];rfl
theorem put_ev (pre s : List UInt8) (hs : s.length ≤ 1099511627776) (hp : pre.length ≤ 35184372088832) : Ev (fun k=>quarryref18_put.f k (numsL pre) (B s)) (numsL (pre ++ s)):=by
 have h:=put_loop (B s) (by rw [B_size];exact hs) pre hp (B s).size 0 (by omega);have e : (B s).data.toList = s:=rfl
 rw [e,List.take_zero,List.append_nil] at h
 exact Ev.congr (fun k=>by rw [quarryref18_put.f];rfl) h
theorem spaces_loop (n : Nat) (hn : n ≤ 1048576) (pre : List UInt8) (hp : pre.length ≤ 35184372088832) : ∀ (d i : Nat),i + d = n → Ev (fun k=>quarryref18_spaces.l0 k (numsL (pre ++ List.replicate i 32)) (n : Int) (i : Int)) (numsL (pre ++ List.replicate n 32))
 | 0,i,h=>by
  have e : i = n:=by omega
  subst e;refine Ev.step (f:=fun _=>some _) (fun k=>?_) (Ev.now _);rw [quarryref18_spaces.l0,if_neg (by omega)]
 | d + 1,i,h=>by
  have hlt : (i : Int) < (n : Int):=by omega
  have hw:=i64s i (by omega)
  have hz : (numsL (pre ++ List.replicate i 32)).length < 140737488355328:=by
   rw [numsL_len,List.length_append,List.length_replicate];omega
  have ih:=spaces_loop n hn pre hp d (i + 1) (by omega)
  rw [List.replicate_succ',← List.append_assoc,numsL_app] at ih
  refine Ev.step (fun k=>?_) ih;rw [quarryref18_spaces.l0,if_pos hlt,if_pos hz,hw];rfl
theorem spaces_ev (n : Nat) (hn : n ≤ 1048576) (pre : List UInt8) (hp : pre.length ≤ 35184372088832) : Ev (fun k=>quarryref18_spaces.f k (numsL pre) (n : Int)) (numsL (pre ++ List.replicate n 32)):=by
 have h:=spaces_loop n hn pre hp n 0 (by omega)
 rw [List.replicate_zero,List.append_nil] at h
 exact Ev.congr (fun k=>by rw [quarryref18_spaces.f];rfl) h
def VQ (n : Nat) : Nat → Int → Bool → ByteArray → ByteArray → List ByteArray → List S25 → Int → Option (List UInt8):=valP (lineL n) ⟨#[58,32]⟩ lineG
def cloL (k0 : Int) : List UInt8:=if k0 = 5 then [93] else [125]
def opnL (k0 : Int) : List UInt8:=if k0 = 5 then [91] else [123]
theorem clo_eq (k0 : Int) : clo k0 = B (cloL k0):=by unfold clo cloL;split <;> rfl
theorem opn_eq (k0 : Int) : opn k0 = B (opnL k0):=by unfold opn opnL;split <;> rfl
theorem cloL_len (k0 : Int) : (cloL k0).length = 1:=by unfold cloL;split <;> rfl
theorem opnL_len (k0 : Int) : (opnL k0).length = 1:=by unfold opnL;split <;> rfl
def part2 (x : S25) (i : Nat) : List UInt8:=if x.f0 = 6 then quoL (rdOf ByteArray.empty x.f4 (i : Int)) ++ [58,32] else []
theorem part2_len (x : S25) (hk : x.f0 = 6 → x.f4.length = x.f5.length) (i : Nat) (hi : i < x.f5.length) : (part2 x i).length + 16384 * nsum (x.f4.drop (i + 1)) ≤ 16384 * nsum (x.f4.drop i):=by
 unfold part2
 by_cases h : x.f0 = 6
 ·rw [if_pos h,List.length_append,nsum_get x.f4 i (by rw [hk h];exact hi)];have:=quo_len (rdOf ByteArray.empty x.f4 (i : Int));simp only [List.length_cons,List.length_nil]
  omega
 rw [if_neg h];have:=nsum_drop x.f4 i;simp only [List.length_nil]
 omega
theorem mul64 (n d : Nat) (hn : n ≤ 8) (hd : d ≤ 1025) : wrap64 ((n : Int) * (d : Int)) = ((n * d : Nat) : Int):=by
 have h : n * d ≤ 8 * 1025:=Nat.mul_le_mul hn hd
 have e : (n : Int) * (d : Int) = ((n * d : Nat) : Int):=by simp
 rw [e]
 unfold wrap64
 omega
theorem add64 (d : Nat) (hd : d ≤ 1025) : wrap64 ((d : Int) + 1) = ((d + 1 : Nat) : Int):=by unfold wrap64;omega
theorem lineL_eq (n d : Nat) : lineL n (d : Int) = 10 :: List.replicate (n * d) 32:=by
 unfold lineL
 rw [Int.toNat_natCast,Nat.mul_comm]
theorem lineG_ok (d : Nat) (hd : d ≤ 1025) : lineG (d : Int) = true:=by
 unfold lineG
 exact decide_eq_true (by omega)
theorem ploop_ev (x : S25) (hs : Sm x) (hk : x.f0 = 6 → x.f4.length = x.f5.length) (n d : Nat) (hn : n ≤ 8) (hd : d ≤ 1024) (F : Nat → Nat → Option (List UInt8))
  (hF : ∀ i,i < x.f5.length → ∃ o,Ev (fun k=>F k i) (part2 x i ++ o) ∧ (∀ pre : List UInt8,pre.length + o.length ≤ 17592186044416 → Ev (fun k=>prt k (numsL pre) (rd_T25 x.f5 (i : Int)) (n : Int) (wrap64 ((d : Int) + 1))) (numsL (pre ++ o))) ∧ o.length + 16384 ≤ 16384 * bulk25 (rd_T25 x.f5 (i : Int))) :
  ∀ m i : Nat,i + m = x.f5.length → ∃ r rr,Ev (fun k=>joinP (lineL n ((d + 1 : Nat) : Int)) (F k) m i) r ∧ (∀ pre : List UInt8,pre.length + rr.length ≤ 17592186044416 → Ev (fun k=>prtL (prt k) k x.f0 x.f4 x.f5 (n : Int) (d : Int) m i (numsL pre)) (numsL (pre ++ rr))) ∧ (if i = 0 ∨ m = 0 then ([] : List UInt8) else [44]) ++ 10 :: rr = r ++ (lineL n (d : Int) ++ cloL x.f0) ∧ rr.length ≤ 16384 * bulks25 (x.f5.drop i) + 16384 * nsum (x.f4.drop i) + 8300
 | 0,i,h=>by
  have hm : n * d ≤ 8 * 1024:=Nat.mul_le_mul hn hd;refine ⟨[],List.replicate (n * d) 32 ++ cloL x.f0,Ev.congr (fun k=>by rw [joinP]) (Ev.now _),fun pre hp=>?_,?_,?_⟩
  ·rw [List.length_append,List.length_replicate,cloL_len] at hp
   refine Ev.congr (fun k=>by rw [prtL,mul64 n d hn (by omega),clo_eq]) (Ev.bind (f:=fun k o=>quarryref18_put.f k o (B (cloL x.f0))) (spaces_ev (n * d) (by omega) pre (by omega)) ?_);rw [← List.append_assoc];exact put_ev _ _ (by rw [cloL_len];omega) (by rw [List.length_append,List.length_replicate];omega)
  ·rw [if_pos (.inr rfl),lineL_eq];rfl
  rw [List.length_append,List.length_replicate,cloL_len];omega
 | m + 1,i,h=>by
  have hi : i < x.f5.length:=by omega
  have hm1 : n * (d + 1) ≤ 8 * 1025:=Nat.mul_le_mul hn (by omega);obtain ⟨o,h1,h2,h3⟩:=hF i hi;obtain ⟨r,rr,g1,g2,g3,g4⟩:=ploop_ev x hs hk n d hn hd F hF m (i + 1) (by omega);have hpl:=part2_len x hk i hi
  have hb : bulks25 (x.f5.drop i) = bulk25 (rd_T25 x.f5 (i : Int)) + bulks25 (x.f5.drop (i + 1)):=by rw [drop_rd x.f5 i hi,bulks_cons]
  have hsm:=name_small x hs i;refine ⟨(if i = 0 then [] else [44]) ++ lineL n ((d + 1 : Nat) : Int) ++ (part2 x i ++ o) ++ r,List.replicate (n * (d + 1)) 32 ++ part2 x i ++ o ++ (if m = 0 then [] else [44]) ++ [10] ++ rr,?_,fun pre hp=>?_,?_,?_⟩
  ·exact Ev.congr (fun k=>by rw [joinP]) (Ev.bind (f:=fun k o=>(joinP (lineL n ((d + 1 : Nat) : Int)) (F k) m (i + 1)).bind fun r=>some ((if i = 0 then [] else [44]) ++ lineL n ((d + 1 : Nat) : Int) ++ o ++ r)) h1 (Ev.bind (f:=fun k r=>some ((if i = 0 then [] else [44]) ++ lineL n ((d + 1 : Nat) : Int) ++ (part2 x i ++ o) ++ r)) g1 (Ev.now _)))
  ·rw [List.length_append,List.length_append,List.length_append,List.length_append,List.length_append,List.length_replicate,List.length_singleton] at hp
   have hc : (if m = 0 then ([] : List UInt8) else [44]).length ≤ 1:=by split <;> simp
   refine Ev.congr (fun k=>by rw [prtL,add64 d (by omega),mul64 n (d + 1) hn (by omega)]) ?_;refine Ev.bind (f:=fun k o1=>(if x.f0 = 6 then (if i < x.f4.length then (quarryref18_Quoted.f k (rdOf ByteArray.empty x.f4 (i : Int))).bind fun q=>(if q.size + 2 ≤ 9223372036854775807 then quarryref18_put.f k o1 (q ++ ⟨#[58,32]⟩) else none) else none) else some o1).bind fun o2=>(prt k o2 (rd_T25 x.f5 (i : Int)) (n : Int) ((d + 1 : Nat) : Int)).bind fun o3=>(if m = 0 then some o3 else quarryref18_put.f k o3 ⟨#[44]⟩).bind fun o4=>(quarryref18_put.f k o4 ⟨#[10]⟩).bind fun o5=>prtL (prt k) k x.f0 x.f4 x.f5 (n : Int) (d : Int) m (i + 1) o5) (spaces_ev (n * (d + 1)) (by omega) pre (by omega)) ?_
   have a2 : Ev (fun k=>if x.f0 = 6 then (if i < x.f4.length then (quarryref18_Quoted.f k (rdOf ByteArray.empty x.f4 (i : Int))).bind fun q=>(if q.size + 2 ≤ 9223372036854775807 then quarryref18_put.f k (numsL (pre ++ List.replicate (n * (d + 1)) 32)) (q ++ ⟨#[58,32]⟩) else none) else none) else some (numsL (pre ++ List.replicate (n * (d + 1)) 32))) (numsL (pre ++ List.replicate (n * (d + 1)) 32 ++ part2 x i)):=by
    by_cases h6 : x.f0 = 6
    ·have hp2 : part2 x i = quoL (rdOf ByteArray.empty x.f4 (i : Int)) ++ [58,32]:=by unfold part2;rw [if_pos h6]
     have hq:=quoted_ev (rdOf ByteArray.empty x.f4 (i : Int)) (by omega);have hql:=quo_len (rdOf ByteArray.empty x.f4 (i : Int))
     have hi4 : i < x.f4.length:=by rw [hk h6];exact hi
     refine Ev.congr (fun k=>by rw [if_pos h6,if_pos hi4]) (Ev.bind (f:=fun k q=>if q.size + 2 ≤ 9223372036854775807 then quarryref18_put.f k (numsL (pre ++ List.replicate (n * (d + 1)) 32)) (q ++ ⟨#[58,32]⟩) else none) hq ?_)
     have e1 : (B (quoL (rdOf ByteArray.empty x.f4 (i : Int))) ++ (⟨#[58,32]⟩ : ByteArray)) = B (part2 x i):=by
      rw [show (⟨#[58,32]⟩ : ByteArray) = B [58,32] from rfl,B_app,hp2]
     refine Ev.congr (fun k=>by rw [if_pos (show (B (quoL (rdOf ByteArray.empty x.f4 (i : Int)))).size + 2 ≤ 9223372036854775807 by rw [B_size];omega),e1]) (put_ev _ _ ?_ ?_)
     ·rw [hp2,List.length_append];simp only [List.length_cons,List.length_nil];omega
     rw [List.length_append,List.length_replicate];omega
    have hp2 : part2 x i = []:=by unfold part2;rw [if_neg h6]
    rw [hp2,List.append_nil];exact Ev.congr (fun k=>if_neg h6) (Ev.now _)
   refine Ev.bind (f:=fun k o2=>(prt k o2 (rd_T25 x.f5 (i : Int)) (n : Int) ((d + 1 : Nat) : Int)).bind fun o3=>(if m = 0 then some o3 else quarryref18_put.f k o3 ⟨#[44]⟩).bind fun o4=>(quarryref18_put.f k o4 ⟨#[10]⟩).bind fun o5=>prtL (prt k) k x.f0 x.f4 x.f5 (n : Int) (d : Int) m (i + 1) o5) a2 ?_;have a3:=h2 (pre ++ List.replicate (n * (d + 1)) 32 ++ part2 x i) (by rw [List.length_append,List.length_append,List.length_replicate];omega)
   rw [add64 d (by omega)] at a3
   refine Ev.bind (f:=fun k o3=>(if m = 0 then some o3 else quarryref18_put.f k o3 ⟨#[44]⟩).bind fun o4=>(quarryref18_put.f k o4 ⟨#[10]⟩).bind fun o5=>prtL (prt k) k x.f0 x.f4 x.f5 (n : Int) (d : Int) m (i + 1) o5) a3 ?_
   have a4 : Ev (fun k=>if m = 0 then some (numsL (pre ++ List.replicate (n * (d + 1)) 32 ++ part2 x i ++ o)) else quarryref18_put.f k (numsL (pre ++ List.replicate (n * (d + 1)) 32 ++ part2 x i ++ o)) ⟨#[44]⟩) (numsL (pre ++ List.replicate (n * (d + 1)) 32 ++ part2 x i ++ o ++ (if m = 0 then [] else [44]))):=by
    by_cases m0 : m = 0
    ·rw [if_pos m0,List.append_nil];exact Ev.congr (fun k=>if_pos m0) (Ev.now _)
    rw [if_neg m0];exact Ev.congr (fun k=>if_neg m0) (put_ev _ [44] (by simp) (by rw [List.length_append,List.length_append,List.length_append,List.length_replicate];omega))
   refine Ev.bind (f:=fun k o4=>(quarryref18_put.f k o4 ⟨#[10]⟩).bind fun o5=>prtL (prt k) k x.f0 x.f4 x.f5 (n : Int) (d : Int) m (i + 1) o5) a4 ?_;refine Ev.bind (f:=fun k o5=>prtL (prt k) k x.f0 x.f4 x.f5 (n : Int) (d : Int) m (i + 1) o5) (put_ev _ [10] (by simp) (by rw [List.length_append,List.length_append,List.length_append,List.length_append,List.length_replicate];omega)) ?_;have a5:=g2 (pre ++ List.replicate (n * (d + 1)) 32 ++ part2 x i ++ o ++ (if m = 0 then [] else [44]) ++ [10]) (by rw [List.length_append,List.length_append,List.length_append,List.length_append,List.length_append,List.length_replicate,List.length_singleton];omega)
   have e5 : pre ++ List.replicate (n * (d + 1)) 32 ++ part2 x i ++ o ++ (if m = 0 then [] else [44]) ++ [10] ++ rr = pre ++ (List.replicate (n * (d + 1)) 32 ++ part2 x i ++ o ++ (if m = 0 then [] else [44]) ++ [10] ++ rr):=by simp only [List.append_assoc]
   rw [e5] at a5
   exact a5
  ·rw [lineL_eq n (d + 1)]
   have ec : (if i = 0 ∨ m + 1 = 0 then ([] : List UInt8) else [44]) = if i = 0 then [] else [44]:=by
    by_cases i0 : i = 0
    ·rw [if_pos (.inl i0),if_pos i0]
    rw [if_neg (by omega),if_neg i0]
   have em : (if i + 1 = 0 ∨ m = 0 then ([] : List UInt8) else [44]) = if m = 0 then [] else [44]:=by
    by_cases m0 : m = 0
    ·rw [if_pos (.inr m0),if_pos m0]
    rw [if_neg (by omega),if_neg m0]
   rw [em] at g3
   rw [ec]
   have e6 : 10 :: (List.replicate (n * (d + 1)) 32 ++ part2 x i ++ o ++ (if m = 0 then [] else [44]) ++ [10] ++ rr) = (10 :: List.replicate (n * (d + 1)) 32) ++ (part2 x i ++ o) ++ ((if m = 0 then [] else [44]) ++ 10 :: rr):=by simp
   rw [e6,g3];simp only [List.append_assoc]
  rw [List.length_append,List.length_append,List.length_append,List.length_append,List.length_append,List.length_replicate,List.length_singleton,hb]
  have hc : (if m = 0 then ([] : List UInt8) else [44]).length ≤ 1:=by split <;> simp
  omega
theorem pret_ev (n : Nat) (hn : n ≤ 8) (N : Nat) : ∀ x : S25,SizeOf.sizeOf x ≤ N → Sm x → ∀ m,Frm m x → ∀ d : Nat,d + m ≤ 1024 → ∃ o : List UInt8,Ev (fun k=>VQ n k x.f0 x.f1 x.f2 x.f3 x.f4 x.f5 (d : Int)) o ∧ (∀ pre : List UInt8,pre.length + o.length ≤ 17592186044416 → Ev (fun k=>prt k (numsL pre) x (n : Int) (d : Int)) (numsL (pre ++ o))) ∧ o.length + 16384 ≤ 16384 * bulk25 x ∧ o ≠ []:=by
 induction N with
 | zero=>intro x hN;cases x;simp at hN
 | succ N ih =>
  intro x hN hs m hm d hd;have lk:=hm.like hs;have hbk:=bulk_eq x;have st (o : Nat → Option (List UInt8)) (r : List UInt8) (h : ∀ k,valN (lineL n) ⟨#[58,32]⟩ lineG (VQ n k) x.f0 x.f1 x.f2 x.f3 x.f4 x.f5 (d : Int) = o k) (h2 : Ev o r) : Ev (fun k=>VQ n k x.f0 x.f1 x.f2 x.f3 x.f4 x.f5 (d : Int)) r:=Ev.step (f:=o) (fun k=>h k) h2
  have leaf (c5 : ¬ x.f0 = 5) (c6 : ¬ x.f0 = 6) (o : List UInt8) (ho : o.length ≤ 1099511627776) (h : Ev (fun k=>quarryref18_word.f k x.f0 x.f1 x.f2 x.f3 x.f4 x.f5) (B o)) : ∀ pre : List UInt8,pre.length + o.length ≤ 17592186044416 → Ev (fun k=>prt k (numsL pre) x (n : Int) (d : Int)) (numsL (pre ++ o)):=by
   intro pre hp;refine Ev.step (f:=fun k=>(quarryref18_word.f k x.f0 x.f1 x.f2 x.f3 x.f4 x.f5).bind fun s=>quarryref18_put.f k (numsL pre) s) (fun k=>?_) (Ev.bind (f:=fun k s=>quarryref18_put.f k (numsL pre) s) h (put_ev pre o ho (by omega)))
   show prtN (prt k) k (numsL pre) x (n : Int) (d : Int) = _
   unfold prtN
   rw [if_neg (by intro q;rcases q with q|q;exact c5 q;exact c6 q)]
  by_cases c1 : x.f0 = 1
  ·exact ⟨[110,117,108,108],st (fun _=>some _) _ (fun k=>by rw [valN,if_pos c1]) (Ev.now _),leaf (by omega) (by omega) _ (by simp) (Ev.congr (f:=fun _=>some (⟨#[110,117,108,108]⟩ : ByteArray)) (fun k=>by rw [quarryref18_word.f,if_pos c1]) (Ev.now _)),by rw [hbk];simp only [List.length_cons,List.length_nil];omega,by simp⟩
  by_cases c2 : x.f0 = 2
  ·by_cases hb : x.f1 = true
   rotate_left
   ·exact ⟨[102,97,108,115,101],st (fun _=>some _) _ (fun k=>by rw [valN,if_neg c1,if_pos c2,if_neg hb]) (Ev.now _),leaf (by omega) (by omega) _ (by simp) (Ev.congr (f:=fun _=>some (⟨#[102,97,108,115,101]⟩ : ByteArray)) (fun k=>by rw [quarryref18_word.f,if_neg c1,if_pos c2,if_neg hb]) (Ev.now _)),by rw [hbk];simp only [List.length_cons,List.length_nil];omega,by simp⟩
   exact ⟨[116,114,117,101],st (fun _=>some _) _ (fun k=>by rw [valN,if_neg c1,if_pos c2,if_pos hb]) (Ev.now _),leaf (by omega) (by omega) _ (by simp) (Ev.congr (f:=fun _=>some (⟨#[116,114,117,101]⟩ : ByteArray)) (fun k=>by rw [quarryref18_word.f,if_neg c1,if_pos c2,if_pos hb]) (Ev.now _)),by rw [hbk];simp only [List.length_cons,List.length_nil];omega,by simp⟩
  by_cases c3 : x.f0 = 3
  ·have h2:=small_raw x
   have h2' : x.f2.data.toList.length ≤ 1099511627776:=by rw [data_length];unfold Sm at hs;omega
   refine ⟨x.f2.data.toList,st (fun _=>some _) _ (fun k=>by rw [valN,if_neg c1,if_neg c2,if_pos c3]) (Ev.now _),leaf (by omega) (by omega) _ h2' (Ev.congr (f:=fun _=>some (B x.f2.data.toList)) (fun k=>by rw [quarryref18_word.f,if_neg c1,if_neg c2,if_pos c3,B_data]) (Ev.now _)),by rw [hbk,data_length];omega,?_⟩;have:=lk.raw c3
   rwa [ByteArray.toList_eq] at this
  by_cases c4 : x.f0 = 4
  ·have h3:=small_text x
   have hsz : x.f3.size ≤ 1048576:=by unfold Sm at hs;omega
   have hq:=quo_len x.f3
   have hsz2 : x.f3.size ≤ 1099511627776:=by omega
   refine ⟨quoL x.f3,st (fun _=>some _) _ (fun k=>by rw [valN,if_neg c1,if_neg c2,if_neg c3,if_pos c4,if_pos hsz2]) (Ev.now _),leaf (by omega) (by omega) _ (by omega) (Ev.congr (fun k=>by rw [quarryref18_word.f,if_neg c1,if_neg c2,if_neg c3]) (Ev.bind (f:=fun _ t=>some t) (quoted_ev x.f3 hsz2) (Ev.now _))),by rw [hbk];omega,by unfold quoL;simp⟩
  have c56 : x.f0 = 5 ∨ x.f0 = 6:=by have:=lk.kind;omega
  have hm0 : 0 < m:=by
   cases hm with
   | mk _ _ _ _ c _=>exact c c56
  have kid (i : Nat) (hi : i < x.f5.length):=ih (rd_T25 x.f5 (i : Int)) (by have:=kid_lt (rd_mem x.f5 i hi);omega) (Sm.kid hs (rd_mem x.f5 i hi)) (m - 1) (by cases hm with|mk _ _ _ _ _ k=>exact k _ (rd_mem x.f5 i hi)) (d + 1) (by omega)
  have hb1 : bulks25 x.f5 ≤ 1048576:=by unfold Sm at hs;omega
  have hb2 : nsum x.f4 ≤ 1048576:=by unfold Sm at hs;unfold nsum;omega
  have hg : lineG (d : Int) = true ∧ lineG (wrap64 ((d : Int) + 1)) = true:=⟨lineG_ok d (by omega),by rw [add64 d (by omega)];exact lineG_ok (d + 1) (by omega)⟩;have hmd : n * d ≤ 8 * 1024:=Nat.mul_le_mul hn (by omega)
  have fin (F : Nat → Nat → Option (List UInt8)) (hF : ∀ i,i < x.f5.length → ∃ o,Ev (fun k=>F k i) (part2 x i ++ o) ∧ (∀ pre : List UInt8,pre.length + o.length ≤ 17592186044416 → Ev (fun k=>prt k (numsL pre) (rd_T25 x.f5 (i : Int)) (n : Int) (wrap64 ((d : Int) + 1))) (numsL (pre ++ o))) ∧ o.length + 16384 ≤ 16384 * bulk25 (rd_T25 x.f5 (i : Int))) :
    ∃ r,Ev (fun k=>joinP (lineL n (wrap64 ((d : Int) + 1))) (F k) x.f5.length 0) r ∧ (∀ pre : List UInt8,pre.length + (opnL x.f0 ++ (r ++ ((if x.f5.length = 0 then [] else lineL n (d : Int)) ++ cloL x.f0))).length ≤ 17592186044416 → Ev (fun k=>prt k (numsL pre) x (n : Int) (d : Int)) (numsL (pre ++ (opnL x.f0 ++ (r ++ ((if x.f5.length = 0 then [] else lineL n (d : Int)) ++ cloL x.f0)))))) ∧ (opnL x.f0 ++ (r ++ ((if x.f5.length = 0 then [] else lineL n (d : Int)) ++ cloL x.f0))).length + 16384 ≤ 16384 * bulk25 x:=by
   obtain ⟨r,rr,g1,g2,g3,g4⟩:=ploop_ev x hs lk.keys n d hn (by omega) F hF x.f5.length 0 (by omega)
   rw [List.drop_zero,List.drop_zero] at g4
   rw [if_pos (.inl rfl),List.nil_append] at g3
   refine ⟨r,by rw [add64 d (by omega)];exact g1,fun pre hp=>?_,?_⟩
   ·by_cases hz : x.f5.length = 0
    ·have hr0 : r = []:=by
      have g1' : Ev (fun k=>joinP (lineL n ((d + 1 : Nat) : Int)) (F k) 0 0) r:=by rw [hz] at g1;exact g1
      obtain ⟨K,hK⟩:=g1';have this : joinP (lineL n ((d + 1 : Nat) : Int)) (F K) 0 0 = some r:=hK K (Nat.le_refl _)
      rw [joinP] at this
      exact (Option.some.inj this).symm
     rw [hr0,if_pos hz,List.nil_append,List.nil_append]
     rw [hr0,if_pos hz,List.nil_append,List.nil_append,List.length_append,opnL_len,cloL_len] at hp
     refine Ev.step (f:=fun k=>quarryref18_put.f k (numsL pre) (B (opnL x.f0 ++ cloL x.f0))) (fun k=>?_) (put_ev _ _ (by rw [List.length_append,opnL_len,cloL_len];omega) (by omega))
     show prtN (prt k) k (numsL pre) x (n : Int) (d : Int) = _
     unfold prtN
     rw [if_pos c56,if_pos hz,opn_eq,clo_eq,B_app]
    rw [if_neg hz,← g3]
    rw [if_neg hz,← g3,List.length_append,opnL_len,List.length_cons] at hp
    have h10:=g2 (pre ++ (opnL x.f0 ++ [10])) (by rw [List.length_append,List.length_append,opnL_len,List.length_singleton];omega)
    have e : pre ++ (opnL x.f0 ++ [10]) ++ rr = pre ++ (opnL x.f0 ++ 10 :: rr):=by simp
    rw [e] at h10
    refine Ev.step (f:=fun k=>(quarryref18_put.f k (numsL pre) (B (opnL x.f0 ++ [10]))).bind fun o=>prtL (prt k) k x.f0 x.f4 x.f5 (n : Int) (d : Int) x.f5.length 0 o) (fun k=>?_) (Ev.bind (f:=fun k o=>prtL (prt k) k x.f0 x.f4 x.f5 (n : Int) (d : Int) x.f5.length 0 o) (put_ev _ _ (by rw [List.length_append,opnL_len,List.length_singleton];omega) (by omega)) h10)
    show prtN (prt k) k (numsL pre) x (n : Int) (d : Int) = _
    unfold prtN
    rw [if_pos c56,if_neg hz,opn_eq,show (⟨#[10]⟩ : ByteArray) = B [10] from rfl,B_app]
   have hl:=congrArg List.length g3
   rw [List.length_cons,List.length_append,List.length_append,lineL_eq,List.length_cons,List.length_replicate,cloL_len] at hl
   have hz : (if x.f5.length = 0 then ([] : List UInt8) else lineL n (d : Int)).length ≤ n * d + 1:=by
    split
    ·exact Nat.zero_le _
    rw [lineL_eq,List.length_cons,List.length_replicate];exact Nat.le_refl _
   rw [List.length_append,List.length_append,List.length_append,opnL_len,cloL_len,hbk]
   unfold nsum at g4
   omega
  by_cases c5 : x.f0 = 5
  ·have eo : opnL x.f0 = [91]:=by unfold opnL;rw [if_pos c5]
   have ec : cloL x.f0 = [93]:=by unfold cloL;rw [if_pos c5]
   obtain ⟨r,g1,g2,g3⟩:=fin (fun k i=>Go.Proofs.YtlgamjgdkljfiacGreatDoor.PWritePretties.valOf (VQ n k) (rd_T25 x.f5 (i : Int)) (wrap64 ((d : Int) + 1))) (fun i hi=>by
    obtain ⟨o,o1,o2,o3,_⟩:=kid i hi
    have hp : part2 x i = []:=by unfold part2;rw [if_neg (by omega)]
    exact ⟨o,by rw [hp,List.nil_append,add64 d (by omega)];exact o1,by rw [add64 d (by omega)];exact o2,o3⟩)
   rw [eo,ec] at g2 g3
   exact ⟨91 :: (r ++ ((if x.f5.length = 0 then [] else lineL n (d : Int)) ++ [93])),st _ _ (fun k=>by rw [valN,if_neg c1,if_neg c2,if_neg c3,if_neg c4,if_pos hg,if_pos c5]) (Ev.bind (f:=fun _ o=>some (91 :: (o ++ ((if x.f5.length = 0 then [] else lineL n (d : Int)) ++ [93])))) g1 (Ev.now _)),g2,g3,by simp⟩
  have c6 : x.f0 = 6:=by omega
  have hkl:=lk.keys c6
  have eo : opnL x.f0 = [123]:=by unfold opnL;rw [if_neg c5]
  have ec : cloL x.f0 = [125]:=by unfold cloL;rw [if_neg c5]
  obtain ⟨r,g1,g2,g3⟩:=fin (fun k i=>if (rdOf ByteArray.empty x.f4 (i : Int)).size ≤ 1099511627776 then (Go.Proofs.YtlgamjgdkljfiacGreatDoor.PWritePretties.valOf (VQ n k) (rd_T25 x.f5 (i : Int)) (wrap64 ((d : Int) + 1))).bind fun o=>some (quoL (rdOf ByteArray.empty x.f4 (i : Int)) ++ ((⟨#[58,32]⟩ : ByteArray).data.toList ++ o)) else none) (fun i hi=>by
   obtain ⟨o,o1,o2,o3,_⟩:=kid i hi
   have hp : part2 x i ++ o = quoL (rdOf ByteArray.empty x.f4 (i : Int)) ++ ((⟨#[58,32]⟩ : ByteArray).data.toList ++ o):=by unfold part2;rw [if_pos c6,List.append_assoc]
   have hn':=name_small x hs i
   exact ⟨o,by rw [hp,add64 d (by omega)];exact Ev.congr (fun k=>if_pos (by omega)) (Ev.bind (f:=fun _ o=>some (quoL (rdOf ByteArray.empty x.f4 (i : Int)) ++ ((⟨#[58,32]⟩ : ByteArray).data.toList ++ o))) o1 (Ev.now _)),by rw [add64 d (by omega)];exact o2,o3⟩)
  rw [eo,ec] at g2 g3
  exact ⟨123 :: (r ++ ((if x.f5.length = 0 then [] else lineL n (d : Int)) ++ [125])),st _ _ (fun k=>by rw [valN,if_neg c1,if_neg c2,if_neg c3,if_neg c4,if_pos hg,if_neg c5,if_pos (by omega)]) (Ev.bind (f:=fun _ o=>some (123 :: (o ++ ((if x.f5.length = 0 then [] else lineL n (d : Int)) ++ [125])))) g1 (Ev.now _)),g2,g3,by simp⟩
theorem Pretty_ev (x : S25) (hs : Sm x) (a : Int) : ∃ r : ByteArray × Int,Ev (fun k=>write_Pretty.f k x.f0 x.f1 x.f2 x.f3 x.f4 x.f5 a) r ∧ Ev (fun k=>quarryref18_Pretty.f k x.f0 x.f1 x.f2 x.f3 x.f4 x.f5 a) r:=by
 obtain ⟨b,b1,b2⟩:=Formed_tot x hs;obtain ⟨b',f1,f2⟩:=Formed_ev x hs
 have hbb : b' = b:=by
  obtain ⟨K,hK⟩:=b1;obtain ⟨L,hL⟩:=f1;have:=hK (max K L) (Nat.le_max_left _ _);have h2:=hL (max K L) (Nat.le_max_right _ _);exact Option.some.inj (h2.symm.trans this)
 subst hbb
 have lead1 (r : ByteArray × Int) (h : Ev (fun k=>if b' = true then (if a < 0 then some ((⟨#[]⟩ : ByteArray),(2 : Int)) else if a > 8 then some (⟨#[]⟩,2) else (VQ a.toNat k x.f0 x.f1 x.f2 x.f3 x.f4 x.f5 0).bind fun o=>if o = [] then none else if o.length ≤ 140737488355328 then some (⟨o.toArray⟩,0) else none) else some (⟨#[]⟩,1)) r) : Ev (fun k=>write_Pretty.f k x.f0 x.f1 x.f2 x.f3 x.f4 x.f5 a) r :=
  Ev.congr (fun k=>by rw [write_Pretty.f];rfl) (Ev.bind (f:=fun k t=>if t = true then (if a < 0 then some ((⟨#[]⟩ : ByteArray),(2 : Int)) else if a > 8 then some (⟨#[]⟩,2) else (VQ a.toNat k x.f0 x.f1 x.f2 x.f3 x.f4 x.f5 0).bind fun o=>if o = [] then none else if o.length ≤ 140737488355328 then some (⟨o.toArray⟩,0) else none) else some (⟨#[]⟩,1)) b1 h)
 have lead2 (r : ByteArray × Int) (h : Ev (fun k=>if b' = true then (if a < 0 then some ((⟨#[]⟩ : ByteArray),(2 : Int)) else if a > 8 then some (⟨#[]⟩,2) else (prt k [] ⟨x.f0,x.f1,x.f2,x.f3,x.f4,x.f5⟩ a 0).bind fun b=>some (strOfNums b,0)) else some (⟨#[]⟩,1)) r) : Ev (fun k=>quarryref18_Pretty.f k x.f0 x.f1 x.f2 x.f3 x.f4 x.f5 a) r :=
  Ev.congr (fun k=>by rw [quarryref18_Pretty.f]) (Ev.bind (f:=fun k t=>if t = true then (if a < 0 then some ((⟨#[]⟩ : ByteArray),(2 : Int)) else if a > 8 then some (⟨#[]⟩,2) else (prt k [] ⟨x.f0,x.f1,x.f2,x.f3,x.f4,x.f5⟩ a 0).bind fun b=>some (strOfNums b,0)) else some (⟨#[]⟩,1)) f2 h)
 cases b' with
 | false=>exact ⟨(⟨#[]⟩,1),lead1 _ (Ev.congr (fun k=>if_neg (by decide)) (Ev.now _)),lead2 _ (Ev.congr (fun k=>if_neg (by decide)) (Ev.now _))⟩
 | true =>
  by_cases h1 : a < 0
  ·exact ⟨(⟨#[]⟩,2),lead1 _ (Ev.congr (fun k=>by rw [if_pos rfl,if_pos h1]) (Ev.now _)),lead2 _ (Ev.congr (fun k=>by rw [if_pos rfl,if_pos h1]) (Ev.now _))⟩
  by_cases h2 : a > 8
  ·exact ⟨(⟨#[]⟩,2),lead1 _ (Ev.congr (fun k=>by rw [if_pos rfl,if_neg h1,if_pos h2]) (Ev.now _)),lead2 _ (Ev.congr (fun k=>by rw [if_pos rfl,if_neg h1,if_pos h2]) (Ev.now _))⟩
  obtain ⟨o,o1,o2,o3,o4⟩:=pret_ev a.toNat (by omega) (SizeOf.sizeOf x) x (Nat.le_refl _) hs 1024 (b2.1 rfl) 0 (by omega)
  have hl : o.length ≤ 17592186044416:=by unfold Sm at hs;omega
  have hl2 : o.length ≤ 140737488355328:=by omega
  have o2:=o2 [] (by simpa using hl)
  rw [Int.toNat_of_nonneg (by omega),List.nil_append] at o2
  have o1 : Ev (fun k=>VQ a.toNat k x.f0 x.f1 x.f2 x.f3 x.f4 x.f5 0) o:=o1;have o2 : Ev (fun k=>prt k [] x a 0) (numsL o):=o2;refine ⟨(B o,0),lead1 _ (Ev.congr (fun k=>by rw [if_pos rfl,if_neg h1,if_neg h2]) (Ev.bind (f:=fun _ o=>if o = [] then none else if o.length ≤ 140737488355328 then some ((⟨o.toArray⟩ : ByteArray),(0 : Int)) else none) o1 (Ev.congr (f:=fun _=>some (B o,(0 : Int))) (fun k=>?_) (Ev.now _)))),lead2 _ (Ev.congr (fun k=>by rw [if_pos rfl,if_neg h1,if_neg h2,eta_]) (Ev.bind (f:=fun _ b=>some (strOfNums b,(0 : Int))) o2 (Ev.congr (f:=fun _=>some (B o,(0 : Int))) (fun k=>?_) (Ev.now _))))⟩
  ·show (if o = [] then none else if o.length ≤ 140737488355328 then some ((⟨o.toArray⟩ : ByteArray),(0 : Int)) else none) = _
   rw [if_neg o4,if_pos hl2]
  rw [str_numsL]
end Go.Proofs.YtlgamjgdkljfiacGreatDoor.QPretWritePretties
namespace Go.Proofs.YtlgamjgdkljfiacGreatDoor.Pure
open Go.RowKit Go.Proofs.YtlgamjgdkljfiacGreatDoor.PWritePretties Go.Proofs.YtlgamjgdkljfiacGreatDoorW.PrintWords Go.Proofs.YtlgamjgdkljfiacGreatDoorW.PrintLast Go.Proofs.YtlgamjgdkljfiacGreatDoor.QValWritePretties Go.Proofs.YtlgamjgdkljfiacGreatDoor.QTreeWritePretties Go.Proofs.YtlgamjgdkljfiacGreatDoor.QFewWritePretties Go.Proofs.YtlgamjgdkljfiacGreatDoor.QPretWritePretties
set_option linter.unusedVariables false
set_option linter.unusedSimpArgs false
theorem awake_ev : Ev (fun k=>quarrylaw18_awake.f k) true :=
 Ev.of (fun k=>quarrylaw18_awake.mono k) (k:=20) (by decide +kernel)
theorem WritePretties : quarrylaw18_WritePretties.Pure:=by
 intro x a hx ha hb;obtain ⟨y,y1,y2,y3⟩:=Few_ev x hx (by omega) 1500
 have sy : Sm y:=by unfold Sm;omega
 obtain ⟨p,hp⟩:=beyond_ev y y2;obtain ⟨r,r1,r2⟩:=Pretty_ev y sy a;have hc:=Copy_ev y (by omega)
 have hl : Ev (fun k=>quarrylaw18_WritePretties.f k x.f0 x.f1 x.f2 x.f3 x.f4 x.f5 a) true:=by
  refine Ev.congr (fun k=>by rw [quarrylaw18_WritePretties.f]) (Ev.bind (f:=fun k bt=>(quarryref00_BeyondValue.f k bt.1 bt.2.1 bt.2.2.1 bt.2.2.2.1 bt.2.2.2.2.1 bt.2.2.2.2.2).bind fun t=>if t = true then some true else (quarryref00_CopyValue.f k bt.1 bt.2.1 bt.2.2.1 bt.2.2.2.1 bt.2.2.2.2.1 bt.2.2.2.2.2).bind fun c=>(write_Pretty.f k c.1 c.2.1 c.2.2.1 c.2.2.2.1 c.2.2.2.2.1 c.2.2.2.2.2 a).bind fun u=>(quarryref18_Pretty.f k bt.1 bt.2.1 bt.2.2.1 bt.2.2.2.1 bt.2.2.2.2.1 bt.2.2.2.2.2 a).bind fun v=>if u.1.toList = v.1.toList then (if u.2 = v.2 then (quarrylaw18_awake.f k).bind fun a=>some a else none) else none) y1 ?_);refine Ev.bind (f:=fun k t=>if t = true then some true else (quarryref00_CopyValue.f k y.f0 y.f1 y.f2 y.f3 y.f4 y.f5).bind fun c=>(write_Pretty.f k c.1 c.2.1 c.2.2.1 c.2.2.2.1 c.2.2.2.2.1 c.2.2.2.2.2 a).bind fun u=>(quarryref18_Pretty.f k y.f0 y.f1 y.f2 y.f3 y.f4 y.f5 a).bind fun v=>if u.1.toList = v.1.toList then (if u.2 = v.2 then (quarrylaw18_awake.f k).bind fun a=>some a else none) else none) hp ?_
  cases p with
  | true=>exact Ev.congr (f:=fun _=>some true) (fun k=>if_pos rfl) (Ev.now _)
  | false =>
   refine Ev.congr (fun k=>if_neg (by decide)) ?_;refine Ev.bind (f:=fun k c=>(write_Pretty.f k c.1 c.2.1 c.2.2.1 c.2.2.2.1 c.2.2.2.2.1 c.2.2.2.2.2 a).bind fun u=>(quarryref18_Pretty.f k y.f0 y.f1 y.f2 y.f3 y.f4 y.f5 a).bind fun v=>if u.1.toList = v.1.toList then (if u.2 = v.2 then (quarrylaw18_awake.f k).bind fun a=>some a else none) else none) hc ?_;refine Ev.bind (f:=fun k u=>(quarryref18_Pretty.f k y.f0 y.f1 y.f2 y.f3 y.f4 y.f5 a).bind fun v=>if u.1.toList = v.1.toList then (if u.2 = v.2 then (quarrylaw18_awake.f k).bind fun a=>some a else none) else none) r1 ?_;refine Ev.bind (f:=fun k v=>if r.1.toList = v.1.toList then (if r.2 = v.2 then (quarrylaw18_awake.f k).bind fun a=>some a else none) else none) r2 ?_;refine Ev.congr (fun k=>by rw [if_pos rfl,if_pos rfl]) (Ev.bind (f:=fun _ a=>some a) awake_ev (Ev.now _))
 exact Ev.rounds hl
end Go.Proofs.YtlgamjgdkljfiacGreatDoor.Pure
