/- quarry: from two values that are alike a pointer leads to values that are alike, or nowhere from both: for every two structs of a value within the bound, and every pointer. -/
import Derived.Test.YtfaegleohhemkaaDoorZDefPointerLikes
import Derived.Lib.Strings
import Derived.Lib.Bytealg
import Derived.Test.YtfaegleohhemkaaDoorZPointerLikesW1
namespace Go.Proofs.YtfaegleohhemkaaDoor.QValPointerLikes
open Go.RowKit Go.Proofs.YtfaegleohhemkaaDoor.PPointerLikes Go.Proofs.YtfaegleohhemkaaDoorW.PrintWords Go.Proofs.YtfaegleohhemkaaDoorW.PrintLast
set_option linter.unusedVariables false
set_option linter.unusedSimpArgs false
theorem w64 (n : Int) (h : -9223372036854775808 ≤ n) (h2 : n ≤ 9223372036854775807) : wrap64 n = n:=by unfold wrap64;omega
theorem w64s (i : Nat) (h : i ≤ 140737488351232) : wrap64 ((i : Int) + 1) = ((i + 1 : Nat) : Int):=by unfold wrap64;omega
theorem kid_lt {x y : S25} (h : y ∈ x.f5) : SizeOf.sizeOf y < SizeOf.sizeOf x:=by
 cases x with
 | mk f0 f1 f2 f3 f4 f5 =>
 have:=List.sizeOf_lt_of_mem (show y ∈ f5 from h);rw [S25.mk.sizeOf_spec]
 omega
theorem rd_mem (l : List S25) (i : Nat) (h : i < l.length) : rd_T25 l (i : Int) ∈ l:=by
 unfold rd_T25
 rw [Int.toNat_natCast,List.getD_eq_getElem?_getD,List.getElem?_eq_getElem h,Option.getD_some];exact List.getElem_mem h
theorem take_rd (l : List S25) (i : Nat) (h : i < l.length) : l.take i ++ [rd_T25 l (i : Int)] = l.take (i + 1):=by
 unfold rd_T25
 rw [Int.toNat_natCast,List.getD_eq_getElem?_getD,List.getElem?_eq_getElem h,Option.getD_some,List.take_succ_eq_append_getElem h]
theorem eta_ (x : S25) : (⟨x.f0,x.f1,x.f2,x.f3,x.f4,x.f5⟩ : S25) = x:=by cases x;rfl
theorem told_some (a b c : Int) : ∃ r,quarryref00_told.f a b c = some r:=by unfold quarryref00_told.f;split <;> exact ⟨_,rfl⟩
theorem left_loop1 (x : S25) (hl4 : x.f4.length * 16 ≤ 140737488351232) (hl : x.f5.length * 96 ≤ 140737488351232)
  (hk : ∀ y ∈ x.f5,∀ a b c : Int,∃ r,Ev (fun k=>quarryref00_leftOfValue.f k y.f0 y.f1 y.f2 y.f3 y.f4 y.f5 a b c) r) : ∀ (d i : Nat) (a b c : Int),i + d = x.f5.length → ∃ r,Ev (fun k=>quarryref00_leftOfValue.l1 k a b c (i : Int) x.f0 x.f1 x.f2 x.f3 x.f4 x.f5) r
 | 0,i,a,b,c,h=>⟨c,Ev.step (f:=fun k=>quarryref00_leftOfValue.j3 k a b c (i : Int) false x.f0 x.f1 x.f2 x.f3 x.f4 x.f5) (fun k=>by simp only [quarryref00_leftOfValue.l1];rw [if_neg (by omega)]) (Ev.step (f:=fun _=>some c) (fun k=>by simp only [quarryref00_leftOfValue.j3];rw [if_neg (by simp)]) (Ev.now _))⟩
 | d + 1,i,a,b,c,h=>by
  have hlt : i < x.f5.length:=by omega
  by_cases hc : c ≥ 0
  ·by_cases h4 : (i : Int) < (x.f4.length : Int)
   ·obtain ⟨r1,hr1⟩:=hk _ (rd_mem x.f5 i hlt) (wrap64 (a + 1)) (wrap64 ((wrap64 (b + 21)) + (wrap64 (2 * ((rdOf ByteArray.empty x.f4 (i : Int)).size : Int))))) c;obtain ⟨r2,hr2⟩:=left_loop1 x hl4 hl hk d (i + 1) a b r1 (by omega);refine ⟨r2,Ev.step (f:=fun k=>quarryref00_leftOfValue.j3 k a b c (i : Int) true x.f0 x.f1 x.f2 x.f3 x.f4 x.f5) (fun k=>by simp only [quarryref00_leftOfValue.l1];rw [if_pos (by omega),decide_eq_true hc]) (Ev.step (f:=fun k=>(quarryref00_leftOfValue.f k (rd_T25 x.f5 (i : Int)).f0 (rd_T25 x.f5 (i : Int)).f1 (rd_T25 x.f5 (i : Int)).f2 (rd_T25 x.f5 (i : Int)).f3 (rd_T25 x.f5 (i : Int)).f4 (rd_T25 x.f5 (i : Int)).f5 (wrap64 (a + 1)) (wrap64 ((wrap64 (b + 21)) + (wrap64 (2 * ((rdOf ByteArray.empty x.f4 (i : Int)).size : Int))))) c).bind fun t=>quarryref00_leftOfValue.l1 k a b t ((i + 1 : Nat) : Int) x.f0 x.f1 x.f2 x.f3 x.f4 x.f5) (fun k=>?_) (Ev.bind hr1 hr2))⟩;simp only [quarryref00_leftOfValue.j3];rw [if_pos trivial,if_pos h4,if_pos (by omega),if_pos (by omega),w64s i (by omega)]
   obtain ⟨r1,hr1⟩:=hk _ (rd_mem x.f5 i hlt) (wrap64 (a + 1)) (wrap64 (b + 21)) c;obtain ⟨r2,hr2⟩:=left_loop1 x hl4 hl hk d (i + 1) a b r1 (by omega);refine ⟨r2,Ev.step (f:=fun k=>quarryref00_leftOfValue.j3 k a b c (i : Int) true x.f0 x.f1 x.f2 x.f3 x.f4 x.f5) (fun k=>by simp only [quarryref00_leftOfValue.l1];rw [if_pos (by omega),decide_eq_true hc]) (Ev.step (f:=fun k=>(quarryref00_leftOfValue.f k (rd_T25 x.f5 (i : Int)).f0 (rd_T25 x.f5 (i : Int)).f1 (rd_T25 x.f5 (i : Int)).f2 (rd_T25 x.f5 (i : Int)).f3 (rd_T25 x.f5 (i : Int)).f4 (rd_T25 x.f5 (i : Int)).f5 (wrap64 (a + 1)) (wrap64 (b + 21)) c).bind fun t=>quarryref00_leftOfValue.l1 k a b t ((i + 1 : Nat) : Int) x.f0 x.f1 x.f2 x.f3 x.f4 x.f5) (fun k=>?_) (Ev.bind hr1 hr2))⟩;simp only [quarryref00_leftOfValue.j3];rw [if_pos trivial,if_neg h4,if_pos (by omega),if_pos (by omega),w64s i (by omega)]
  refine ⟨c,Ev.step (f:=fun k=>quarryref00_leftOfValue.j3 k a b c (i : Int) false x.f0 x.f1 x.f2 x.f3 x.f4 x.f5) (fun k=>by simp only [quarryref00_leftOfValue.l1];rw [if_pos (by omega),decide_eq_false hc]) (Ev.step (f:=fun _=>some c) (fun k=>by simp only [quarryref00_leftOfValue.j3];rw [if_neg (by simp)]) (Ev.now _))⟩
theorem left_loop0 (x : S25) (hl4 : x.f4.length * 16 ≤ 140737488351232)
  (hj : ∀ a b c : Int,∃ r,Ev (fun k=>quarryref00_leftOfValue.j1 k a b c x.f0 x.f1 x.f2 x.f3 x.f4 x.f5) r) : ∀ (d i : Nat) (a b c : Int),i + d = x.f4.length → ∃ r,Ev (fun k=>quarryref00_leftOfValue.l0 k a b c (i : Int) x.f0 x.f1 x.f2 x.f3 x.f4 x.f5) r
 | 0,i,a,b,c,h=>by
  obtain ⟨r,hr⟩:=hj a b c;exact ⟨r,Ev.step (fun k=>by simp only [quarryref00_leftOfValue.l0];rw [if_neg (by omega)]) hr⟩
 | d + 1,i,a,b,c,h=>by
  by_cases hc : c ≥ 0
  ·obtain ⟨t,ht⟩:=told_some ((rdOf ByteArray.empty x.f4 (i : Int)).size : Int) a 0;obtain ⟨r,hr⟩:=left_loop0 x hl4 hj d (i + 1) a b (wrap64 (c - t)) (by omega);refine ⟨r,Ev.step (fun k=>?_) hr⟩;simp only [quarryref00_leftOfValue.l0];rw [if_pos (by omega),if_pos hc,if_pos (by omega),ht,Option.bind_some,w64s i (by omega)]
  obtain ⟨r,hr⟩:=hj a b c;exact ⟨r,Ev.step (fun k=>by simp only [quarryref00_leftOfValue.l0];rw [if_pos (by omega),if_neg hc]) hr⟩
theorem left_ev (n : Nat) : ∀ (x : S25),SizeOf.sizeOf x ≤ n → SZ25 x → ∀ a b c : Int,∃ r,Ev (fun k=>quarryref00_leftOfValue.f k x.f0 x.f1 x.f2 x.f3 x.f4 x.f5 a b c) r:=by
 induction n with
 | zero=>intro x hn;cases x;simp at hn
 | succ n ih =>
  intro x hn hx a b c
  cases hx with
  | mk _ h0 h1 h2 h3 h4 h4' h5 h5' =>
  by_cases ha : a > 65536
  ·exact ⟨-1,Ev.step (f:=fun _=>some (-1)) (fun k=>by simp only [quarryref00_leftOfValue.f];rw [if_pos ha]) (Ev.now _)⟩
  obtain ⟨t,ht⟩:=told_some (wrap64 ((x.f2.size : Int) + (x.f3.size : Int))) a b
  obtain ⟨r,hr⟩:=left_loop0 x h4 (fun a b c=>by
   obtain ⟨r,hr⟩:=left_loop1 x h4 h5 (fun y hy=>ih y (by have:=kid_lt hy;omega) (h5' y hy)) x.f5.length 0 a b c (by omega)
   exact ⟨r,Ev.step (fun k=>by simp only [quarryref00_leftOfValue.j1];rfl) hr⟩) x.f4.length 0 a b (wrap64 (c - t)) (by omega)
  refine ⟨r,Ev.step (fun k=>?_) hr⟩;simp only [quarryref00_leftOfValue.f];rw [if_neg ha,ht,Option.bind_some];rfl
theorem beyond_ev (x : S25) (hx : SZ25 x) : ∃ r,Ev (fun k=>quarryref00_BeyondValue.f k x.f0 x.f1 x.f2 x.f3 x.f4 x.f5) r:=by
 obtain ⟨r,hr⟩:=left_ev (SizeOf.sizeOf x) x (Nat.le_refl _) hx 1 0 2147483647;exact ⟨decide (r < 0),Ev.bind hr (Ev.now _)⟩
theorem small_raw (x : S25) : x.f2.size ≤ bulk25 x:=by cases x;simp only [bulk25];omega
theorem small_text (x : S25) : x.f3.size ≤ bulk25 x:=by cases x;simp only [bulk25];omega
theorem le_sum_map {α : Type} (g : α → Nat) : ∀ (l : List α) (a : α),a ∈ l → g a ≤ (l.map g).sum
 | [],a,h=>by cases h
 | b :: r,a,h=>by
  rw [List.map_cons,List.sum_cons]
  rcases List.mem_cons.1 h with rfl|h
  ·omega
  have:=le_sum_map g r a h;omega
theorem small_name (x : S25) (s : ByteArray) (h : s ∈ x.f4) : s.size ≤ bulk25 x:=by
 cases x with
 | mk f0 f1 f2 f3 f4 f5 =>
 have:=le_sum_map (fun x : ByteArray=>x.size + 1) f4 s h;simp only [bulk25];have h2 : s.size + 1 ≤ (f4.map fun x : ByteArray=>x.size + 1).sum:=this
 omega
theorem small_kid (x : S25) (y : S25) (h : y ∈ x.f5) : bulk25 y ≤ bulk25 x:=by
 cases x with
 | mk f0 f1 f2 f3 f4 f5 =>
 have:=le_sum_map bulk25 f5 y h
 rw [← bulks25_eq] at this
 show _ ≤ bulk25 (⟨f0,f1,f2,f3,f4,f5⟩ : S25)
 simp only [bulk25]
 omega
theorem small_len (x : S25) : x.f5.length ≤ bulk25 x ∧ x.f4.length ≤ bulk25 x:=by
 cases x with
 | mk f0 f1 f2 f3 f4 f5 =>
 have h1 : ∀ l : List S25,l.length ≤ bulks25 l:=by
  intro l
  induction l with
  | nil=>exact Nat.le_refl _
  | cons b r ih =>
   have hb : 1 ≤ bulk25 b:=by cases b;simp only [bulk25];omega
   rw [List.length_cons,bulks25]
   omega
 have h2 : ∀ l : List ByteArray,l.length ≤ (l.map fun x : ByteArray=>x.size + 1).sum:=by
  intro l
  induction l with
  | nil=>exact Nat.le_refl _
  | cons b r ih=>rw [List.length_cons,List.map_cons,List.sum_cons];omega
 have a:=h1 f5;have b:=h2 f4;simp only [bulk25]
 omega
end Go.Proofs.YtfaegleohhemkaaDoor.QValPointerLikes
namespace Go.Proofs.YtfaegleohhemkaaDoor.QDecPointerLikes
open Go.RowKit Go.Proofs.YtfaegleohhemkaaDoor.PPointerLikes Go.Proofs.YtfaegleohhemkaaDoorW.PrintWords Go.Proofs.YtfaegleohhemkaaDoorW.PrintLast
set_option linter.unusedVariables false
set_option linter.unusedSimpArgs false
theorem w64 (n : Int) (h : -9223372036854775808 ≤ n) (h2 : n ≤ 9223372036854775807) : wrap64 n = n:=by unfold wrap64;omega
theorem w64s (i : Nat) (h : i ≤ 140737488351232) : wrap64 ((i : Int) + 1) = ((i + 1 : Nat) : Int):=by unfold wrap64;omega
abbrev B (l : List UInt8) : ByteArray:=⟨l.toArray⟩
abbrev fin (s : ByteArray) (l : List UInt8) : Int:=(s.size : Int) - (l.length : Int)
theorem body_len (l : List UInt8) : (rdBody l).length ≤ (rdLead l).length:=by
 unfold rdBody
 rw [List.length_reverse];have:=(List.dropWhile_suffix (· == 48) (l:=(rdLead l).reverse)).length_le
 rw [List.length_reverse] at this
 exact this
end Go.Proofs.YtfaegleohhemkaaDoor.QDecPointerLikes
namespace Go.Proofs.YtfaegleohhemkaaDoor.QUtfPointerLikes
open Go.RowKit Go.Proofs.YtfaegleohhemkaaDoor.PPointerLikes Go.Proofs.YtfaegleohhemkaaDoorW.PrintWords Go.Proofs.YtfaegleohhemkaaDoorW.PrintLast
set_option linter.unusedVariables false
set_option linter.unusedSimpArgs false
theorem w64 (n : Int) (h : -9223372036854775808 ≤ n) (h2 : n ≤ 9223372036854775807) : wrap64 n = n:=by unfold wrap64;omega
theorem u8Begin_spec (x : Int) : (x < 128 ∧ u8Begin x = some (0,128,191)) ∨ (128 ≤ x ∧ x < 194 ∧ u8Begin x = none) ∨ (194 ≤ x ∧ x < 224 ∧ u8Begin x = some (1,128,191)) ∨ (x = 224 ∧ u8Begin x = some (2,160,191)) ∨ (x = 237 ∧ u8Begin x = some (2,128,159)) ∨ (225 ≤ x ∧ x < 240 ∧ x ≠ 237 ∧ u8Begin x = some (2,128,191)) ∨ (x = 240 ∧ u8Begin x = some (3,144,191)) ∨ (241 ≤ x ∧ x < 244 ∧ u8Begin x = some (3,128,191)) ∨ (x = 244 ∧ u8Begin x = some (3,128,143)) ∨ (245 ≤ x ∧ u8Begin x = none):=by
 unfold u8Begin
 by_cases h1 : x < 128
 ·rw [if_pos h1];exact .inl ⟨h1,rfl⟩
 rw [if_neg h1]
 by_cases h2 : x < 194
 ·rw [if_pos h2];exact .inr (.inl ⟨by omega,h2,rfl⟩)
 rw [if_neg h2]
 by_cases h3 : x < 224
 ·rw [if_pos h3];exact .inr (.inr (.inl ⟨by omega,h3,rfl⟩))
 rw [if_neg h3]
 by_cases h4 : x = 224
 ·rw [if_pos h4];exact .inr (.inr (.inr (.inl ⟨h4,rfl⟩)))
 rw [if_neg h4]
 by_cases h5 : x = 237
 ·rw [if_pos h5];exact .inr (.inr (.inr (.inr (.inl ⟨h5,rfl⟩))))
 rw [if_neg h5]
 by_cases h6 : x < 240
 ·rw [if_pos h6];exact .inr (.inr (.inr (.inr (.inr (.inl ⟨by omega,h6,h5,rfl⟩)))))
 rw [if_neg h6]
 by_cases h7 : x = 240
 ·rw [if_pos h7];exact .inr (.inr (.inr (.inr (.inr (.inr (.inl ⟨h7,rfl⟩))))))
 rw [if_neg h7]
 by_cases h8 : x < 244
 ·rw [if_pos h8];exact .inr (.inr (.inr (.inr (.inr (.inr (.inr (.inl ⟨by omega,h8,rfl⟩)))))))
 rw [if_neg h8]
 by_cases h9 : x = 244
 ·rw [if_pos h9];exact .inr (.inr (.inr (.inr (.inr (.inr (.inr (.inr (.inl ⟨h9,rfl⟩))))))))
 rw [if_neg h9];exact .inr (.inr (.inr (.inr (.inr (.inr (.inr (.inr (.inr ⟨by omega,rfl⟩))))))))
def St (p : List Int) (want lo hi : Int) : Prop :=
 (p = [] ∧ want = 0) ∨
 (∃ x,p = [x] ∧ 194 ≤ x ∧ x ≤ 244 ∧ u8Begin x = some (want,lo,hi)) ∨
 (∃ x y a l h,p = [x,y] ∧ 224 ≤ x ∧ x ≤ 244 ∧ u8Begin x = some (a,l,h) ∧ l ≤ y ∧ y ≤ h ∧ want = a - 1 ∧ lo = 128 ∧ hi = 191) ∨
 (∃ x y z l h,p = [x,y,z] ∧ 240 ≤ x ∧ x ≤ 244 ∧ u8Begin x = some (3,l,h) ∧ l ≤ y ∧ y ≤ h ∧ 128 ≤ z ∧ z ≤ 191 ∧ want = 1 ∧ lo = 128 ∧ hi = 191)
theorem St.want {p : List Int} {want lo hi : Int} (hS : St p want lo hi) (hp : p ≠ []) : 0 < want:=by
 rcases hS with ⟨rfl,rfl⟩|⟨x,rfl,x0,x1,e⟩|⟨x,y,a,l,h,rfl,x0,x1,e,y0,y1,rfl,rfl,rfl⟩|⟨x,y,z,l,h,rfl,x0,x1,e,y0,y1,z0,z1,rfl,rfl,rfl⟩
 ·exact absurd rfl hp
 ·rcases u8Begin_spec x with ⟨q,e2⟩|⟨q,b,e2⟩|⟨q,b,e2⟩|⟨q,e2⟩|⟨q,e2⟩|⟨q,b,b2,e2⟩|⟨q,e2⟩|⟨q,b,e2⟩|⟨q,e2⟩|⟨q,e2⟩
  all_goals first
   | (exfalso;omega)
   | (rw [e] at e2;simp only [Option.some.injEq,Prod.mk.injEq] at e2;obtain ⟨rfl,_⟩:=e2;omega)
 ·rcases u8Begin_spec x with ⟨q,e2⟩|⟨q,b,e2⟩|⟨q,b,e2⟩|⟨q,e2⟩|⟨q,e2⟩|⟨q,b,b2,e2⟩|⟨q,e2⟩|⟨q,b,e2⟩|⟨q,e2⟩|⟨q,e2⟩
  all_goals first
   | (exfalso;omega)
   | (rw [e] at e2;simp only [Option.some.injEq,Prod.mk.injEq] at e2;obtain ⟨rfl,_⟩:=e2;omega)
 omega
end Go.Proofs.YtfaegleohhemkaaDoor.QUtfPointerLikes
namespace Go.Proofs.YtfaegleohhemkaaDoor.QTreePointerLikes
open Go.RowKit Go.Proofs.YtfaegleohhemkaaDoor.PPointerLikes Go.Proofs.YtfaegleohhemkaaDoorW.PrintWords Go.Proofs.YtfaegleohhemkaaDoorW.PrintLast Go.Proofs.YtfaegleohhemkaaDoor.QValPointerLikes
set_option linter.unusedVariables false
set_option linter.unusedSimpArgs false
theorem used_f (x : S25) : tree_used.f x.f0 x.f1 x.f2 x.f3 x.f4 x.f5 = some (x.f1,(x.f2.toList != ([] : List UInt8)),(x.f3.toList != ([] : List UInt8)),decide ((x.f4.length : Int) > 0),decide ((x.f5.length : Int) > 0)):=rfl
theorem nn (n : Nat) : decide ((n : Int) > 0) = !decide (n = 0):=by
 cases n <;> simp
theorem bne_nil (l : List UInt8) : (l != ([] : List UInt8)) = !decide (l = []):=by cases l <;> rfl
def noneB (x : S25) : Bool:=decide (x.f4.length = 0) && decide (x.f5.length = 0)
def p1 (x : S25) : Bool:=noneB x && !x.f1 && decide (x.f2.toList = []) && decide (x.f3.toList = [])
def p2 (x : S25) : Bool:=noneB x && decide (x.f2.toList = []) && decide (x.f3.toList = [])
def p3 (x : S25) : Bool:=noneB x && !x.f1 && decide (¬ x.f2.toList = []) && decide (x.f3.toList = [])
def p4 (x : S25) : Bool:=noneB x && !x.f1 && decide (x.f2.toList = [])
def p5 (x : S25) : Bool:=decide (x.f4.length = 0) && !x.f1 && decide (x.f2.toList = []) && decide (x.f3.toList = [])
def p6 (x : S25) : Bool:=!x.f1 && decide (x.f2.toList = []) && decide (x.f3.toList = [])
theorem q1 (x : S25) : eq5 x.f1 (x.f2.toList != ([] : List UInt8)) (x.f3.toList != ([] : List UInt8)) (decide ((x.f4.length : Int) > 0)) (decide ((x.f5.length : Int) > 0)) false false false false false = p1 x:=by
 rw [nn,nn,bne_nil,bne_nil];unfold eq5 p1 noneB
 cases x.f1 <;> cases decide (x.f2.toList = []) <;> cases decide (x.f3.toList = []) <;> cases decide (x.f4.length = 0) <;> cases decide (x.f5.length = 0) <;> rfl
theorem q2 (x : S25) : eq5 x.f1 (x.f2.toList != ([] : List UInt8)) (x.f3.toList != ([] : List UInt8)) (decide ((x.f4.length : Int) > 0)) (decide ((x.f5.length : Int) > 0)) x.f1 false false false false = p2 x:=by
 rw [nn,nn,bne_nil,bne_nil];unfold eq5 p2 noneB
 cases x.f1 <;> cases decide (x.f2.toList = []) <;> cases decide (x.f3.toList = []) <;> cases decide (x.f4.length = 0) <;> cases decide (x.f5.length = 0) <;> rfl
theorem q3 (x : S25) : eq5 x.f1 (x.f2.toList != ([] : List UInt8)) (x.f3.toList != ([] : List UInt8)) (decide ((x.f4.length : Int) > 0)) (decide ((x.f5.length : Int) > 0)) false true false false false = p3 x:=by
 rw [nn,nn,bne_nil,bne_nil];unfold eq5 p3 noneB;rw [decide_not]
 cases x.f1 <;> cases decide (x.f2.toList = []) <;> cases decide (x.f3.toList = []) <;> cases decide (x.f4.length = 0) <;> cases decide (x.f5.length = 0) <;> rfl
theorem q4 (x : S25) : eq5 x.f1 (x.f2.toList != ([] : List UInt8)) (x.f3.toList != ([] : List UInt8)) (decide ((x.f4.length : Int) > 0)) (decide ((x.f5.length : Int) > 0)) false false (x.f3.toList != ([] : List UInt8)) false false = p4 x:=by
 rw [nn,nn,bne_nil,bne_nil];unfold eq5 p4 noneB
 cases x.f1 <;> cases decide (x.f2.toList = []) <;> cases decide (x.f3.toList = []) <;> cases decide (x.f4.length = 0) <;> cases decide (x.f5.length = 0) <;> rfl
theorem q5 (x : S25) : eq5 x.f1 (x.f2.toList != ([] : List UInt8)) (x.f3.toList != ([] : List UInt8)) (decide ((x.f4.length : Int) > 0)) (decide ((x.f5.length : Int) > 0)) false false false false (decide ((x.f5.length : Int) > 0)) = p5 x:=by
 rw [nn,nn,bne_nil,bne_nil];unfold eq5 p5
 cases x.f1 <;> cases decide (x.f2.toList = []) <;> cases decide (x.f3.toList = []) <;> cases decide (x.f4.length = 0) <;> cases decide (x.f5.length = 0) <;> rfl
theorem q6 (x : S25) : eq5 x.f1 (x.f2.toList != ([] : List UInt8)) (x.f3.toList != ([] : List UInt8)) (decide ((x.f4.length : Int) > 0)) (decide ((x.f5.length : Int) > 0)) false false false (decide ((x.f4.length : Int) > 0)) (decide ((x.f5.length : Int) > 0)) = p6 x:=by
 rw [nn,nn,bne_nil,bne_nil];unfold eq5 p6
 cases x.f1 <;> cases decide (x.f2.toList = []) <;> cases decide (x.f3.toList = []) <;> cases decide (x.f4.length = 0) <;> cases decide (x.f5.length = 0) <;> rfl
def anyBad (l : List ByteArray) : Bool:=l.any badB
def Sm (x : S25) : Prop:=bulk25 x ≤ 1048576
theorem tree_plain_f (x : S25) (hs : Sm x) : tree_plain.f x.f0 x.f1 x.f2 x.f3 x.f4 x.f5 =
  if x.f0 = 1 then some (p1 x) else if x.f0 = 2 then some (p2 x) else if x.f0 = 3 then (decimal_Of.f x.f2).bind fun d=>some (p3 x && (d.2.2.2 != 110))
  else if x.f0 = 4 then (if p4 x = true then some (decide (u8Run x.f3.data.toList 0 0 0 0 < 0)) else some false) else if x.f0 = 5 then some (p5 x)
  else if x.f0 = 6 then (if p6 x = true then (if x.f4.length = x.f5.length then some (!anyBad x.f4) else some false) else some false) else some false:=by
 have h3:=small_text x
 have h4 : ∀ s ∈ x.f4,s.size ≤ 1099511627776:=fun s h=>by have:=small_name x s h;unfold Sm at hs;omega
 have hb : utf8_Bad.f x.f3 = some (u8Run x.f3.data.toList 0 0 0 0):=by unfold utf8_Bad.f;rw [if_pos (by unfold Sm at hs;omega)]
 have hbs : tree_plain.bads x.f4 = some (anyBad x.f4):=by unfold tree_plain.bads anyBad;rw [if_pos (by simpa using h4)]
 unfold tree_plain.f
 rw [used_f,Option.bind_some];simp only;rw [q1,q2,q3,q4,q5,q6,hb,hbs];rfl
theorem holds_f (x : S25) : tree_holds.f x.f0 x.f1 x.f2 x.f3 x.f4 x.f5 = some (decide (x.f0 = 5 ∨ x.f0 = 6)):=by
 unfold tree_holds.f
 by_cases h : x.f0 = 5
 ·rw [if_pos h,decide_eq_true (.inl h)]
 rw [if_neg h]
 by_cases h6 : x.f0 = 6
 ·rw [decide_eq_true (.inr h6),h6];rfl
 rw [decide_eq_false (fun e=>e.elim h h6)]
 congr 1
 exact beq_eq_false_iff_ne.mpr h6
def Both {α : Type} (f g : Nat → Option α) : Prop:=∃ b,Ev f b ∧ Ev g b
end Go.Proofs.YtfaegleohhemkaaDoor.QTreePointerLikes
namespace Go.Proofs.YtfaegleohhemkaaDoor.QMemPointerLikes
open Go.RowKit Go.Proofs.YtfaegleohhemkaaDoor.PPointerLikes Go.Proofs.YtfaegleohhemkaaDoorW.PrintWords Go.Proofs.YtfaegleohhemkaaDoorW.PrintLast Go.Proofs.YtfaegleohhemkaaDoor.QValPointerLikes
set_option linter.unusedVariables false
set_option linter.unusedSimpArgs false
def idxFrom (l : List ByteArray) (a : ByteArray) : Nat → Nat → Int
 | 0,_=>-1
 | d + 1,i=>if (rdOf ByteArray.empty l (i : Int)).toList = a.toList then (i : Int) else idxFrom l a d (i + 1)
def idxOf (l : List ByteArray) (a : ByteArray) : Int:=idxFrom l a l.length 0
theorem idxFrom_range (l : List ByteArray) (a : ByteArray) : ∀ (d i : Nat),idxFrom l a d i = -1 ∨ ((i : Int) ≤ idxFrom l a d i ∧ idxFrom l a d i < (i + d : Nat))
 | 0,i=>.inl rfl
 | d + 1,i=>by
  unfold idxFrom
  split
  ·right;omega
  rcases idxFrom_range l a d (i + 1) with h|h
  ·exact .inl h
  right;omega
theorem index_loop (l : List ByteArray) (a : ByteArray) (hl : l.length ≤ 140737488351232) : ∀ (d i : Nat),i + d = l.length → Ev (fun k=>slices_Index_string_string.l0 k l a (l.length : Int) (i : Int)) (idxFrom l a d i)
 | 0,i,h=>Ev.step (f:=fun _=>some (-1)) (fun k=>by simp only [slices_Index_string_string.l0];rw [if_neg (by omega)]) (Ev.now _)
 | d + 1,i,h=>by
  unfold idxFrom
  by_cases e : (rdOf ByteArray.empty l (i : Int)).toList = a.toList
  ·rw [if_pos e];exact Ev.step (f:=fun _=>some (i : Int)) (fun k=>by simp only [slices_Index_string_string.l0];rw [if_pos (by omega),if_pos (by omega),if_pos (by omega),if_pos e.symm]) (Ev.now _)
  rw [if_neg e];refine Ev.step (f:=fun k=>slices_Index_string_string.l0 k l a (l.length : Int) ((i + 1 : Nat) : Int)) (fun k=>?_) (index_loop l a hl d (i + 1) (by omega));simp only [slices_Index_string_string.l0];rw [if_pos (by omega),if_pos (by omega),if_pos (by omega),if_neg (fun h=>e h.symm),w64s i (by omega)]
theorem index_ev (l : List ByteArray) (a : ByteArray) (hl : l.length ≤ 140737488351232) : Ev (fun k=>slices_Index_string_string.f k l a) (idxOf l a):=index_loop l a hl l.length 0 (by omega)
theorem copied_loop (q0 : Int) (q1 : Bool) (q2 q3 : ByteArray) (q4 : List ByteArray) (l : List S25) (hl : l.length * 96 ≤ 140737488351232)
  (hk : ∀ y ∈ l,Ev (fun k=>tree_copied.f k y.f0 y.f1 y.f2 y.f3 y.f4 y.f5) (y.f0,y.f1,y.f2,y.f3,y.f4,y.f5)) : ∀ (d i : Nat),i + d = l.length → Ev (fun k=>tree_copied.l0 k l (l.length : Int) (i : Int) q0 q1 q2 q3 q4 (l.take i)) (q0,q1,q2,q3,q4,l)
 | 0,i,h=>by
  have e : l.take i = l:=List.take_of_length_le (by omega);rw [e];exact Ev.step (f:=fun _=>some (q0,q1,q2,q3,q4,l)) (fun k=>by simp only [tree_copied.l0];rw [if_neg (by omega)]) (Ev.now _)
 | d + 1,i,h=>by
  have hlt : i < l.length:=by omega
  have hb:=hk _ (rd_mem l i hlt);refine Ev.step (f:=fun k=>(tree_copied.f k (rd_T25 l (i : Int)).f0 (rd_T25 l (i : Int)).f1 (rd_T25 l (i : Int)).f2 (rd_T25 l (i : Int)).f3 (rd_T25 l (i : Int)).f4 (rd_T25 l (i : Int)).f5).bind fun b=>tree_copied.l0 k l (l.length : Int) ((i + 1 : Nat) : Int) q0 q1 q2 q3 q4 (l.take i ++ [(⟨b.1,b.2.1,b.2.2.1,b.2.2.2.1,b.2.2.2.2.1,b.2.2.2.2.2⟩ : S25)])) (fun k=>?_) (Ev.bind hb ?_)
  ·simp only [tree_copied.l0];rw [if_pos (by omega),if_pos (by omega),if_pos (by omega),w64s i (by omega)]
   congr 1
   funext b
   rw [if_pos (by rw [List.length_take];omega)]
  simp only [eta_];rw [take_rd l i hlt];exact copied_loop q0 q1 q2 q3 q4 l hl hk d (i + 1) (by omega)
theorem copied_ev (n : Nat) : ∀ (x : S25),SizeOf.sizeOf x ≤ n → SZ25 x → Ev (fun k=>tree_copied.f k x.f0 x.f1 x.f2 x.f3 x.f4 x.f5) (x.f0,x.f1,x.f2,x.f3,x.f4,x.f5):=by
 induction n with
 | zero=>intro x hn;cases x;simp at hn
 | succ n ih =>
  intro x hn hx
  cases hx with
  | mk _ h0 h1 h2 h3 h4 h4' h5 h5' =>
  refine Ev.step (f:=fun k=>tree_copied.l0 k x.f5 (x.f5.length : Int) ((0 : Nat) : Int) x.f0 x.f1 x.f2 x.f3 x.f4 (x.f5.take 0)) (fun k=>?_) (copied_loop x.f0 x.f1 x.f2 x.f3 x.f4 x.f5 h5 (fun y hy=>ih y (by have:=kid_lt hy;omega) (h5' y hy)) x.f5.length 0 (by omega));simp only [tree_copied.f];rw [if_pos (by simp only [List.length_nil];omega)];rfl
def memberV (x : S25) (a : ByteArray) : S25 × Bool :=
 if x.f0 = 6 then (if (x.f4.length : Int) = (x.f5.length : Int) then (if idxOf x.f4 a < 0 then (z25,false) else (rd_T25 x.f5 (idxOf x.f4 a),true)) else (z25,false)) else (z25,false)
theorem idx_lt (l : List ByteArray) (a : ByteArray) : idxOf l a < (l.length : Int):=by
 rcases idxFrom_range l a l.length 0 with h|h
 ·unfold idxOf;omega
 unfold idxOf;omega
theorem idx_nat (l : List ByteArray) (a : ByteArray) (h : ¬ idxOf l a < 0) : ∃ i : Nat,idxOf l a = (i : Int) ∧ i < l.length:=⟨(idxOf l a).toNat,by omega,by have:=idx_lt l a;omega⟩
theorem member_ev (x : S25) (a : ByteArray) (hx : SZ25 x) : Ev (fun k=>tree_Member.f k x.f0 x.f1 x.f2 x.f3 x.f4 x.f5 a) ((memberV x a).1.f0,(memberV x a).1.f1,(memberV x a).1.f2,(memberV x a).1.f3,(memberV x a).1.f4,(memberV x a).1.f5,(memberV x a).2):=by
 cases hx with
 | mk _ h0 h1 h2 h3 h4 h4' h5 h5' =>
 refine Ev.bind (index_ev x.f4 a (by omega)) ?_
 unfold memberV
 by_cases c1 : x.f0 = 6
 ·rw [if_pos c1]
  by_cases c2 : (x.f4.length : Int) = (x.f5.length : Int)
  ·rw [if_pos c2]
   by_cases c3 : idxOf x.f4 a < 0
   ·rw [if_pos c3];exact Ev.congr (fun k=>by rw [if_pos c1,if_pos c2,if_pos c3];rfl) (Ev.now _)
   rw [if_neg c3];obtain ⟨i,hi,hlt⟩:=idx_nat x.f4 a c3;rw [hi]
   have hlt' : i < x.f5.length:=by omega
   refine Ev.congr (fun k=>by rw [if_pos c1,if_pos c2,if_neg (by omega),if_pos (by omega),if_pos (by omega)]) (Ev.bind (copied_ev _ _ (Nat.le_refl _) (h5' _ (rd_mem x.f5 i hlt'))) (Ev.now _))
  rw [if_neg c2];exact Ev.congr (fun k=>by rw [if_pos c1,if_neg c2];rfl) (Ev.now _)
 rw [if_neg c1];exact Ev.congr (fun k=>by rw [if_neg c1];rfl) (Ev.now _)
theorem sz_z25 : SZ25 z25:=⟨_,by decide,trivial,by decide,by decide,by decide,by simp [z25],by decide,by simp [z25]⟩
theorem sz_member (x : S25) (a : ByteArray) (hx : SZ25 x) : SZ25 (memberV x a).1:=by
 cases hx with
 | mk _ h0 h1 h2 h3 h4 h4' h5 h5' =>
 unfold memberV
 split
 ·split
  ·split
   ·exact sz_z25
   rename_i c2 c3
   obtain ⟨i,hi,hlt⟩:=idx_nat x.f4 a c3;rw [hi];exact h5' _ (rd_mem x.f5 i (by omega))
  exact sz_z25
 exact sz_z25
end Go.Proofs.YtfaegleohhemkaaDoor.QMemPointerLikes
namespace Go.Proofs.YtfaegleohhemkaaDoor.QPtr0PointerLikes
open Go.RowKit Go.Proofs.YtfaegleohhemkaaDoor.PPointerLikes Go.Proofs.YtfaegleohhemkaaDoorW.PrintWords Go.Proofs.YtfaegleohhemkaaDoorW.PrintLast
set_option linter.unusedVariables false
set_option linter.unusedSimpArgs false
theorem w64s (i : Nat) (h : i ≤ 140737488351232) : wrap64 ((i : Int) + 1) = ((i + 1 : Nat) : Int):=by unfold wrap64;omega
theorem go_len : ∀ (l : List UInt8) (t : Bool) (done : List (List UInt8)) (cur : List UInt8) (r : List (List UInt8)),namesGo l t done cur = some r → r.length ≤ done.length + 1 + l.length
 | [],true,_,_,_,h=>by simp [namesGo] at h
 | [],false,done,cur,r,h=>by simp [namesGo] at h;subst h;simp
 | c :: l,true,done,cur,r,h=>by
  rw [namesGo] at h
  split at h
  ·have:=go_len l _ _ _ _ h;simp;omega
  split at h
  ·have:=go_len l _ _ _ _ h;simp;omega
  simp at h
 | c :: l,false,done,cur,r,h=>by
  rw [namesGo] at h
  split at h
  ·have:=go_len l _ _ _ _ h;simp at *;omega
  split at h
  ·have:=go_len l _ _ _ _ h;simp;omega
  have:=go_len l _ _ _ _ h;simp;omega
theorem parse_len (s : ByteArray) : (parseV s).1.length ≤ s.size + 1:=by
 unfold parseV
 have hd:=data_length s
 cases h : s.data.toList with
 | nil=>simp [namesOf,bas]
 | cons c r =>
  rw [h,List.length_cons] at hd
  rw [namesOf]
  split
  ·rename_i l hl
   split at hl
   ·have:=go_len _ _ _ _ _ hl
    simp [bas] at *
    omega
   simp at hl
  simp
end Go.Proofs.YtfaegleohhemkaaDoor.QPtr0PointerLikes
namespace Go.Proofs.YtfaegleohhemkaaDoor.QPlacePPointerLikes
open Go.RowKit Go.Proofs.YtfaegleohhemkaaDoor.PPointerLikes Go.Proofs.YtfaegleohhemkaaDoorW.PrintWords Go.Proofs.YtfaegleohhemkaaDoorW.PrintLast
set_option linter.unusedVariables false
set_option linter.unusedSimpArgs false
theorem w64 (n : Int) (h : -9223372036854775808 ≤ n) (h2 : n ≤ 9223372036854775807) : wrap64 n = n:=by unfold wrap64;omega
theorem pow_room (i : Nat) (h : i ≤ 17) : 10 ^ i ≤ 100000000000000000:=by
 have:=Nat.pow_le_pow_right (n:=10) (by omega) h
 simpa using this
theorem place_loop (s : ByteArray) (hn : s.size ≤ 18) (d : Nat) : ∀ (k i : Nat) (x : Int),i + d = s.size → 0 ≤ x → x < ((10 ^ i : Nat) : Int) → d < k →
  ∃ r,pointer_Place.l0 k s x (s.size : Int) (i : Int) = some r ∧ 0 ≤ r.1:=by
 induction d with
 | zero =>
  intro k i x hi h0 hx hk
  obtain ⟨k,rfl⟩ : ∃ m,k = m + 1:=⟨k - 1,by omega⟩
  exact ⟨(x,true),by simp only [pointer_Place.l0];rw [if_neg (by omega)],h0⟩
 | succ d ih =>
  intro k i x hi h0 hx hk
  obtain ⟨k,rfl⟩ : ∃ m,k = m + 1:=⟨k - 1,by omega⟩
  have hb:=bt_range s (i : Int);have hp:=pow_room i (by omega);have hps : (10 ^ (i + 1) : Nat) = 10 ^ i * 10:=Nat.pow_succ ..
  by_cases h1 : ((bt s (i : Int)) - 48) % 256 > 9
  ·refine ⟨(0,false),?_,Int.le_refl 0⟩;simp only [pointer_Place.l0];rw [if_pos (by omega),if_pos (by omega),if_pos (by omega),if_pos h1]
  obtain ⟨r,hr1,hr0⟩:=ih k (i + 1) (10 * x + (bt s (i : Int) - 48)) (by omega) (by omega) (by omega) (by omega);refine ⟨r,?_,hr0⟩;simp only [pointer_Place.l0];rw [if_pos (by omega),if_pos (by omega),if_pos (by omega),if_neg h1];rw [show ((bt s (i : Int)) - 48) % 256 = bt s (i : Int) - 48 from by omega,w64 (10 * x) (by omega) (by omega),w64 (10 * x + _) (by omega) (by omega),w64 ((i : Int) + 1) (by omega) (by omega)];exact hr1
theorem place_tot (s : ByteArray) (k : Nat) (hk : 20 ≤ k) : ∃ r,pointer_Place.f k s = some r ∧ 0 ≤ r.1:=by
 obtain ⟨k,rfl⟩ : ∃ m,k = m + 1:=⟨k - 1,by omega⟩
 unfold pointer_Place.f
 by_cases h0 : s.size = 0
 ·refine ⟨(0,false),?_,Int.le_refl 0⟩;rw [if_pos (by rw [ByteArray.toList_eq];apply List.eq_nil_of_length_eq_zero;rw [data_length];exact h0)];simp [pointer_Place.j0]
 have hne : ¬ s.toList = ([] : List UInt8):=by
  intro h;apply h0
  rw [ByteArray.toList_eq] at h
  have:=congrArg List.length h
  rw [data_length] at this
  exact this
 rw [if_neg hne]
 by_cases h18 : (s.size : Int) > 18
 ·refine ⟨(0,false),?_,Int.le_refl 0⟩;rw [if_pos h18];simp [pointer_Place.j0]
 rw [if_neg h18]
 by_cases h1 : (s.size : Int) > 1 ∧ bt s 0 = 48
 ·obtain ⟨h1,hz⟩:=h1;refine ⟨(0,false),?_,Int.le_refl 0⟩;rw [if_pos h1,if_pos (by omega),hz];simp [pointer_Place.j0]
 obtain ⟨r,hr1,hr0⟩:=place_loop s (by omega) s.size k 0 0 (by omega) (by omega) (by simp) (by omega);refine ⟨r,?_,hr0⟩
 have e : pointer_Place.j0 (k + 1) s false = some r:=by simp only [pointer_Place.j0];rw [if_neg (by simp)];exact hr1
 by_cases hs1 : (s.size : Int) > 1
 ·have hz : (bt s 0 == 48) = false:=by
   rw [beq_eq_false_iff_ne];exact fun h=>h1 ⟨hs1,h⟩
  rw [if_pos hs1,if_pos (by omega),hz,e]
 rw [if_neg hs1,e]
end Go.Proofs.YtfaegleohhemkaaDoor.QPlacePPointerLikes
namespace Go.Proofs.YtfaegleohhemkaaDoor.QFindPPointerLikes
open Go.RowKit Go.Proofs.YtfaegleohhemkaaDoor.PPointerLikes Go.Proofs.YtfaegleohhemkaaDoorW.PrintWords Go.Proofs.YtfaegleohhemkaaDoorW.PrintLast Go.Proofs.YtfaegleohhemkaaDoor.QValPointerLikes Go.Proofs.YtfaegleohhemkaaDoor.QTreePointerLikes Go.Proofs.YtfaegleohhemkaaDoor.QMemPointerLikes
set_option linter.unusedVariables false
set_option linter.unusedSimpArgs false
def placeV (a : ByteArray) : Int × Bool:=(pointer_Place.f 20 a).getD (0,false)
theorem place_all (a : ByteArray) : pointer_Place.f 20 a = some (placeV a) ∧ 0 ≤ (placeV a).1:=by
 obtain ⟨r,h1,h3⟩:=QPlacePPointerLikes.place_tot a 20 (Nat.le_refl _)
 unfold placeV
 rw [h1];exact ⟨rfl,h3⟩
theorem place_p (a : ByteArray) : Ev (fun k=>pointer_Place.f k a) (placeV a):=Ev.of (fun k=>pointer_Place.mono _ k) (place_all a).1
def stepV (x : S25) (a : ByteArray) : S25 × Bool :=
 if x.f0 = 5 then (if (placeV a).2 = true then (if (placeV a).1 ≥ (x.f5.length : Int) then (z25,false) else (rd_T25 x.f5 (placeV a).1,true)) else (z25,false)) else memberV x a
def t7 (y : S25 × Bool) : Int × Bool × ByteArray × ByteArray × List ByteArray × List S25 × Bool:=(y.1.f0,y.1.f1,y.1.f2,y.1.f3,y.1.f4,y.1.f5,y.2)
theorem step_p (x : S25) (a : ByteArray) (hx : SZ25 x) : Ev (fun k=>pointer_step.f k x.f0 x.f1 x.f2 x.f3 x.f4 x.f5 a) (t7 (stepV x a)):=by
 unfold stepV
 by_cases h5 : x.f0 = 5
 ·rw [if_pos h5];refine Ev.congr (fun k=>by unfold pointer_step.f;rw [if_pos h5]) (Ev.bind (place_p a) ?_);have h0:=(place_all a).2
  by_cases c1 : (placeV a).2 = true
  ·rw [if_pos c1]
   by_cases c2 : (placeV a).1 ≥ (x.f5.length : Int)
   ·rw [if_pos c2];exact Ev.congr (fun k=>by rw [if_pos c1,if_pos c2];rfl) (Ev.now _)
   rw [if_neg c2];exact Ev.congr (fun k=>by rw [if_pos c1,if_neg c2,if_pos h0,if_pos (by omega)];rfl) (Ev.now _)
  rw [if_neg c1];exact Ev.congr (fun k=>by rw [if_neg c1];rfl) (Ev.now _)
 rw [if_neg h5];refine Ev.congr (fun k=>by unfold pointer_step.f;rw [if_neg h5]) (Ev.bind (member_ev x a hx) ?_);exact Ev.congr (fun k=>rfl) (Ev.now _)
theorem sz_step (x : S25) (a : ByteArray) (hx : SZ25 x) : SZ25 (stepV x a).1:=by
 have hm:=sz_member x a hx
 cases hx with
 | mk _ h0 h1 h2 h3 h4 h4' h5 h5' =>
 unfold stepV
 split
 ·split
  ·split
   ·exact sz_z25
   have h:=(place_all a).2;have e : ((placeV a).1.toNat : Int) = (placeV a).1:=Int.toNat_of_nonneg h;have:=rd_mem x.f5 (placeV a).1.toNat (by omega)
   rw [e] at this
   exact h5' _ this
  exact sz_z25
 exact hm
def walkV : S25 → List ByteArray → Option S25
 | x,[]=>some x
 | x,a :: l=>if (stepV x a).2 = true then walkV (stepV x a).1 l else none
def t8 (y : S25) (b : Bool) (e : Int) : Int × Bool × ByteArray × ByteArray × List ByteArray × List S25 × Bool × Int:=(y.f0,y.f1,y.f2,y.f3,y.f4,y.f5,b,e)
def outV : Option S25 → Int × Bool × ByteArray × ByteArray × List ByteArray × List S25 × Bool × Int
 | some y=>t8 y true 0
 | none=>t8 z25 false 0
theorem own_ev (x : S25) (hx : SZ25 x) : Ev (fun k=>pointer_own.f k x.f0 x.f1 x.f2 x.f3 x.f4 x.f5) (x.f0,x.f1,x.f2,x.f3,x.f4,x.f5):=by
 have hw : SZ25 (⟨6,false,⟨#[]⟩,⟨#[]⟩,[⟨#[]⟩],[x]⟩ : S25):=⟨_,by show (Lit.int .i64 6).wf = true;decide,trivial,by show (0 : Nat) ≤ _;omega,by show (0 : Nat) ≤ _;omega,by show (1 : Nat) * 16 ≤ _;omega,by intro y hy;rw [List.mem_singleton.1 hy];decide,by show (1 : Nat) * 96 ≤ _;omega,by intro y hy;rw [List.mem_singleton.1 hy];exact hx⟩;have hm:=member_ev (⟨6,false,⟨#[]⟩,⟨#[]⟩,[⟨#[]⟩],[x]⟩ : S25) ⟨#[]⟩ hw
 have hv : memberV (⟨6,false,⟨#[]⟩,⟨#[]⟩,[⟨#[]⟩],[x]⟩ : S25) ⟨#[]⟩ = (x,true):=by
  have e : idxOf [(⟨#[]⟩ : ByteArray)] ⟨#[]⟩ = 0:=by decide +kernel
  show (if (6 : Int) = 6 then (if ((1 : Nat) : Int) = ((1 : Nat) : Int) then (if idxOf [(⟨#[]⟩ : ByteArray)] ⟨#[]⟩ < 0 then (z25,false) else (rd_T25 [x] (idxOf [(⟨#[]⟩ : ByteArray)] ⟨#[]⟩),true)) else (z25,false)) else (z25,false)) = (x,true)
  rw [if_pos rfl,if_pos rfl,e,if_neg (by decide)];rfl
 rw [hv] at hm
 unfold pointer_own.f
 rw [eta_ x];exact Ev.bind hm (Ev.now _)
theorem find_loop_p (l : List ByteArray) (hl : l.length ≤ 140737488) : ∀ (d i : Nat) (x : S25),i + d = l.length → SZ25 x → Ev (fun k=>pointer_Find.l0 k l (l.length : Int) (i : Int) x.f0 x.f1 x.f2 x.f3 x.f4 x.f5) (outV (walkV x (l.drop i)))
 | 0,i,x,hd,hx=>by
  rw [List.drop_of_length_le (by omega),walkV];refine Ev.step (fun k=>?_) (Ev.bind (f:=fun _ b=>some (b.1,b.2.1,b.2.2.1,b.2.2.2.1,b.2.2.2.2.1,b.2.2.2.2.2,true,0)) (own_ev x hx) (Ev.now _));simp only [pointer_Find.l0];rw [if_neg (by omega)]
 | d + 1,i,x,hd,hx=>by
  have hi : i < l.length:=by omega
  have hr : rdOf ByteArray.empty l (i : Int) = l[i]:=by unfold rdOf;simp [hi]
  rw [List.drop_eq_getElem_cons hi,walkV];refine Ev.step (fun k=>?_) (Ev.bind (f:=fun k b=>if b.2.2.2.2.2.2 = true then pointer_Find.l0 k l (l.length : Int) ((i + 1 : Nat) : Int) b.1 b.2.1 b.2.2.1 b.2.2.2.1 b.2.2.2.2.1 b.2.2.2.2.2.1 else some (t8 z25 false 0)) (step_p x l[i] hx) ?_)
  ·simp only [pointer_Find.l0];rw [if_pos (by omega),if_pos (by omega),if_pos (by omega),hr,w64s i (by omega)];rfl
  by_cases c : (stepV x l[i]).2 = true
  ·rw [if_pos c];exact Ev.congr (fun k=>if_pos c) (find_loop_p l hl d (i + 1) (stepV x l[i]).1 (by omega) (sz_step x l[i] hx))
  rw [if_neg c];exact Ev.congr (f:=fun _=>some (t8 z25 false 0)) (fun k=>if_neg c) (Ev.now _)
def findV (b : Bool) (x : S25) (s : ByteArray) : Int × Bool × ByteArray × ByteArray × List ByteArray × List S25 × Bool × Int :=
 if b = true then (if (parseV s).2 = 0 then outV (walkV x (parseV s).1) else t8 z25 false (parseV s).2) else t8 z25 false 1
theorem find_p (b : Bool) (x : S25) (s : ByteArray) (hx : SZ25 x) (hs : s.size ≤ 14073748) (hb : Ev (fun k=>tree_Formed.f k x.f0 x.f1 x.f2 x.f3 x.f4 x.f5) b) : Ev (fun k=>pointer_Find.f k x.f0 x.f1 x.f2 x.f3 x.f4 x.f5 s) (findV b x s):=by
 have hl:=QPtr0PointerLikes.parse_len s
 have ps : pointer_Parse.f s = some (parseV s):=by unfold pointer_Parse.f;rw [if_pos (by omega)]
 unfold pointer_Find.f findV
 refine Ev.bind hb ?_
 cases b with
 | false=>exact Ev.congr (f:=fun _=>some (t8 z25 false 1)) (fun k=>if_neg (by decide)) (Ev.now _)
 | true =>
  rw [if_pos rfl]
  by_cases h1 : (parseV s).2 = 0
  ·rw [if_pos h1];refine Ev.congr (fun k=>?_) (find_loop_p (parseV s).1 (by omega) (parseV s).1.length 0 x (by omega) hx);rw [if_pos rfl,ps,Option.bind_some,if_pos h1];rfl
  rw [if_neg h1];refine Ev.congr (f:=fun _=>some (t8 z25 false (parseV s).2)) (fun k=>?_) (Ev.now _);rw [if_pos rfl,ps,Option.bind_some,if_neg h1];rfl
end Go.Proofs.YtfaegleohhemkaaDoor.QFindPPointerLikes
namespace Go.Proofs.YtfaegleohhemkaaDoor.QOrdPointerLikes
set_option linter.unusedVariables false
set_option linter.unusedSimpArgs false
section
variable {α : Type} (lt : α → α → Bool) (f : Nat → α)
structure Strict : Prop where
 irr : ∀ a,lt a a = false
 tr : ∀ a b c,lt a b = true → lt b c = true → lt a c = true
 tri : ∀ a b,lt a b = false → lt b a = false → a = b
def Ahead (i k : Nat) : Prop:=lt (f i) (f k) = true ∨ (f i = f k ∧ i < k)
def mergeL : List Nat → List Nat → List Nat
 | [],R=>R
 | x :: L,[]=>x :: L
 | x :: L,y :: R=>if lt (f y) (f x) = false then x :: mergeL L (y :: R) else y :: mergeL (x :: L) R
termination_by L R=>L.length + R.length
def pass (w : Nat) : Nat → List Nat → List Nat
 | 0,_=>[]
 | n + 1,l=>if l = [] then [] else mergeL lt f (l.take w) ((l.drop w).take w) ++ pass w n (l.drop (2 * w))
variable {lt f}
theorem Ahead.trans (S : Strict lt) {a b c : Nat} (h : Ahead lt f a b) (g : Ahead lt f b c) : Ahead lt f a c:=by
 rcases h with h|⟨h1,h2⟩
 ·rcases g with g|⟨g1,g2⟩
  ·exact .inl (S.tr _ _ _ h g)
  exact .inl (g1 ▸ h)
 rcases g with g|⟨g1,g2⟩
 ·exact .inl (h1 ▸ g)
 exact .inr ⟨h1.trans g1,Nat.lt_trans h2 g2⟩
structure Order (lt : α → α → Bool) (f : Nat → α) (n : Nat) (o : List Nat) : Prop where
 perm : o.Perm (List.range n)
 sorted : o.Pairwise (Ahead lt f)
theorem Order.len {n : Nat} {o : List Nat} (h : Order lt f n o) : o.length = n:=by rw [h.perm.length_eq,List.length_range]
theorem Order.lt_at {n : Nat} {o : List Nat} (h : Order lt f n o) {p q : Nat} (hq : q < o.length) (hp : p < q) : Ahead lt f o[p] o[q]:=List.pairwise_iff_getElem.1 h.sorted p q _ _ hp
theorem Order.below (S : Strict lt) {n : Nat} {o : List Nat} (h : Order lt f n o) {t : α} {p q : Nat} (hq : q < o.length) (hp : p ≤ q) (g : lt (f o[q]) t = true) : lt (f o[p]) t = true:=by
 rcases Nat.lt_or_eq_of_le hp with e|e
 ·rcases h.lt_at hq e with u|⟨u,_⟩
  ·exact S.tr _ _ _ u g
  rw [u];exact g
 subst e;exact g
end
end Go.Proofs.YtfaegleohhemkaaDoor.QOrdPointerLikes
namespace Go.Proofs.YtfaegleohhemkaaDoor.QPlcPointerLikes
open Go.RowKit Go.Proofs.YtfaegleohhemkaaDoor.PPointerLikes Go.Proofs.YtfaegleohhemkaaDoorW.PrintWords Go.Proofs.YtfaegleohhemkaaDoorW.PrintLast Go.Proofs.YtfaegleohhemkaaDoor.QOrdPointerLikes
set_option linter.unusedVariables false
set_option linter.unusedSimpArgs false
abbrev nm (names : List ByteArray) (i : Nat) : List UInt8:=(rdOf ByteArray.empty names (i : Int)).toList
abbrev ints (o : List Nat) : List Int:=List.map (fun n : Nat=>(n : Int)) o
theorem w64 (n : Int) (h : -9223372036854775808 ≤ n) (h2 : n ≤ 9223372036854775807) : wrap64 n = n:=by unfold wrap64;omega
theorem rd_ints {o : List Nat} {i : Nat} (h : i < o.length) : rd (ints o) (i : Int) = (o[i] : Int):=by
 unfold rd
 simp [h]
def PlaceIs (names : List ByteArray) (t : ByteArray) (r : Int) : Prop :=
 (∃ j : Nat,r = (j : Int) ∧ j < names.length ∧ nm names j = t.toList ∧ ∀ i,i < names.length → nm names i = t.toList → j ≤ i) ∨ (r = -1 ∧ ∀ i,i < names.length → nm names i ≠ t.toList)
end Go.Proofs.YtfaegleohhemkaaDoor.QPlcPointerLikes
namespace Go.Proofs.YtfaegleohhemkaaDoor.QCovPointerLikes
open Go.RowKit Go.Proofs.YtfaegleohhemkaaDoor.PPointerLikes Go.Proofs.YtfaegleohhemkaaDoorW.PrintWords Go.Proofs.YtfaegleohhemkaaDoorW.PrintLast Go.Proofs.YtfaegleohhemkaaDoor.QOrdPointerLikes Go.Proofs.YtfaegleohhemkaaDoor.QPlcPointerLikes
set_option linter.unusedVariables false
set_option linter.unusedSimpArgs false
theorem nm_get {names : List ByteArray} {i : Nat} (h : i < names.length) : nm names i = names[i].toList:=by
 show (rdOf ByteArray.empty names (i : Int)).toList = _
 unfold rdOf
 simp [h]
abbrev bys (names : List ByteArray) : List (List UInt8):=List.map ByteArray.toList names
theorem mem_nm {names : List ByteArray} {x : List UInt8} : x ∈ bys names ↔ ∃ i,i < names.length ∧ nm names i = x:=by
 rw [List.mem_map]
 constructor
 ·rintro ⟨s,hs,rfl⟩;obtain ⟨i,hi,rfl⟩:=List.mem_iff_getElem.1 hs;exact ⟨i,hi,nm_get hi⟩
 rintro ⟨i,hi,rfl⟩;exact ⟨names[i],List.getElem_mem hi,(nm_get hi).symm⟩
theorem PlaceIs.neg {names : List ByteArray} {t : ByteArray} {r : Int} (h : PlaceIs names t r) : r < 0 ↔ t.toList ∉ bys names:=by
 rw [mem_nm]
 rcases h with ⟨j,rfl,j1,j2,j3⟩|⟨rfl,h⟩
 ·exact ⟨fun g=>by omega,fun g=>absurd ⟨j,j1,j2⟩ g⟩
 exact ⟨fun _ ⟨i,i1,i2⟩=>h i i1 i2,fun _=>by decide⟩
end Go.Proofs.YtfaegleohhemkaaDoor.QCovPointerLikes
namespace Go.Proofs.YtfaegleohhemkaaDoor.QNamesPointerLikes
set_option linter.unusedVariables false
set_option linter.unusedSimpArgs false
section
variable {α : Type} [DecidableEq α]
def cnt : List α → Nat
 | []=>0
 | s :: r=>if s ∈ r then cnt r else cnt r + 1
def dd : List α → List α
 | []=>[]
 | s :: r=>if s ∈ r then dd r else s :: dd r
theorem dd_mem : ∀ {l : List α} {x : α},x ∈ dd l ↔ x ∈ l
 | [],x=>Iff.rfl
 | s :: r,x=>by
  rw [dd]
  split
  ·rename_i h
   rw [dd_mem,List.mem_cons];exact ⟨.inr,fun g=>g.elim (fun e=>e ▸ h) id⟩
  rw [List.mem_cons,List.mem_cons,dd_mem]
theorem dd_len : ∀ l : List α,(dd l).length = cnt l
 | []=>rfl
 | s :: r=>by rw [dd,cnt];split <;> simp [dd_len r]
theorem dd_nodup : ∀ l : List α,(dd l).Nodup
 | []=>List.nodup_nil
 | s :: r=>by
  rw [dd]
  split
  ·exact dd_nodup r
  rename_i h
  exact List.nodup_cons.2 ⟨fun g=>h (dd_mem.1 g),dd_nodup r⟩
theorem len_le : ∀ {X Y : List α},X.Nodup → (∀ x ∈ X,x ∈ Y) → X.length ≤ Y.length
 | [],Y,_,_=>Nat.zero_le _
 | x :: X,Y,h,g=>by
  obtain ⟨h1,h2⟩:=List.nodup_cons.1 h;have hx:=g x (by simp);have:=len_le (X:=X) (Y:=Y.erase x) h2 (fun z hz=>(List.mem_erase_of_ne (show z ≠ x from fun e=>h1 (by rw [← e];exact hz))).2 (g z (by simp [hz])))
  rw [List.length_erase_of_mem hx] at this
  have:=List.length_pos_of_mem hx;rw [List.length_cons]
  omega
theorem cnt_eq {A B : List α} (h : ∀ x ∈ A,x ∈ B) : cnt A = cnt B ↔ ∀ x ∈ B,x ∈ A:=by
 rw [← dd_len,← dd_len]
 constructor
 ·intro e x hx
  refine Classical.byContradiction fun hn=>?_
  have:=len_le (X:=x :: dd A) (Y:=dd B) (List.nodup_cons.2 ⟨fun g=>hn (dd_mem.1 g),dd_nodup A⟩) (fun z hz=>by
   rcases List.mem_cons.1 hz with rfl|hz
   ·exact dd_mem.2 hx
   exact dd_mem.2 (h z (dd_mem.1 hz)))
  rw [List.length_cons] at this
  omega
 intro g;have a:=len_le (X:=dd A) (Y:=dd B) (dd_nodup A) (fun z hz=>dd_mem.2 (h z (dd_mem.1 hz)));have b:=len_le (X:=dd B) (Y:=dd A) (dd_nodup B) (fun z hz=>dd_mem.2 (g z (dd_mem.1 hz)))
 omega
end
end Go.Proofs.YtfaegleohhemkaaDoor.QNamesPointerLikes
namespace Go.Proofs.YtfaegleohhemkaaDoor.QLikPointerLikes
open Go.RowKit Go.Proofs.YtfaegleohhemkaaDoor.PPointerLikes Go.Proofs.YtfaegleohhemkaaDoorW.PrintWords Go.Proofs.YtfaegleohhemkaaDoorW.PrintLast Go.Proofs.YtfaegleohhemkaaDoor.QOrdPointerLikes Go.Proofs.YtfaegleohhemkaaDoor.QPlcPointerLikes Go.Proofs.YtfaegleohhemkaaDoor.QCovPointerLikes Go.Proofs.YtfaegleohhemkaaDoor.QNamesPointerLikes
set_option linter.unusedVariables false
set_option linter.unusedSimpArgs false
theorem lookP_some (t : ByteArray) : ∀ (A : List ByteArray) (P : List S25),P.length = A.length → ∀ x,lookP t (A.zip P) = some x ↔ ∃ i,∃ (hi : i < A.length),A[i].data.toList = t.data.toList ∧ (∀ j (hj : j < A.length),j < i → A[j].data.toList ≠ t.data.toList) ∧ x = rd_T25 P (i : Int)
 | [],P,h,x=>by
  simp [lookP]
 | s :: A,[],h,x=>by simp at h
 | s :: A,p :: P,h,x=>by
  have hl : P.length = A.length:=by simpa using h
  have r0 : rd_T25 (p :: P) ((0 : Nat) : Int) = p:=rfl
  have rs : ∀ i : Nat,rd_T25 (p :: P) ((i + 1 : Nat) : Int) = rd_T25 P (i : Int):=fun i=>rfl
  rw [List.zip_cons_cons,lookP]
  by_cases c : s.data.toList = t.data.toList
  ·rw [if_pos c]
   constructor
   ·intro e;cases e;exact ⟨0,by simp,c,by intro j hj h0;omega,r0.symm⟩
   rintro ⟨i,hi,e1,e2,rfl⟩
   cases i with
   | zero=>rw [r0]
   | succ i=>exact absurd c (e2 0 (by simp) (by omega))
  rw [if_neg c,lookP_some t A P hl x]
  constructor
  ·rintro ⟨i,hi,e1,e2,rfl⟩;refine ⟨i + 1,by simp;omega,by simpa using e1,?_,(rs i).symm⟩;intro j hj hji
   cases j with
   | zero=>exact c
   | succ j=>simpa using e2 j (by simpa using hj) (by omega)
  rintro ⟨i,hi,e1,e2,rfl⟩
  cases i with
  | zero=>exact absurd (by simpa using e1) c
  | succ i =>
   refine ⟨i,by simpa using hi,by simpa using e1,?_,rs i⟩;intro j hj hji;have:=e2 (j + 1) (by simp;omega) (by omega)
   rwa [List.getElem_cons_succ] at this
theorem lookP_isSome (t : ByteArray) : ∀ (A : List ByteArray) (P : List S25),P.length = A.length → ((lookP t (A.zip P)).isSome = true ↔ t.data.toList ∈ A.map (fun s=>s.data.toList))
 | [],P,h=>by simp [lookP]
 | s :: A,[],h=>by simp at h
 | s :: A,p :: P,h=>by
  have hl : P.length = A.length:=by simpa using h
  rw [List.zip_cons_cons,lookP,List.map_cons,List.mem_cons]
  by_cases c : s.data.toList = t.data.toList
  ·rw [if_pos c];simp [c]
  rw [if_neg c,lookP_isSome t A P hl];exact ⟨.inr,fun h=>h.resolve_left (fun e=>c e.symm)⟩
theorem sizeP_cnt : ∀ (A : List ByteArray) (P : List S25),P.length = A.length → sizeP (A.zip P) = cnt (A.map (fun s=>s.data.toList))
 | [],P,h=>by simp [sizeP,cnt]
 | s :: A,[],h=>by simp at h
 | s :: A,p :: P,h=>by
  have hl : P.length = A.length:=by simpa using h
  rw [List.zip_cons_cons,sizeP,List.map_cons,cnt,sizeP_cnt A P hl]
  by_cases c : s.data.toList ∈ A.map (fun s=>s.data.toList)
  ·rw [if_pos c,if_pos ((lookP_isSome s A P hl).2 c)]
  rw [if_neg c,if_neg (fun g=>c ((lookP_isSome s A P hl).1 g))]
end Go.Proofs.YtfaegleohhemkaaDoor.QLikPointerLikes
namespace Go.Proofs.YtfaegleohhemkaaDoor.QCmpPointerLikes
open Go.RowKit Go.Proofs.YtfaegleohhemkaaDoor.PPointerLikes Go.Proofs.YtfaegleohhemkaaDoorW.PrintWords Go.Proofs.YtfaegleohhemkaaDoorW.PrintLast
set_option linter.unusedVariables false
set_option linter.unusedSimpArgs false
theorem w64 (n : Int) (h : -9223372036854775808 ≤ n) (h2 : n ≤ 9223372036854775807) : wrap64 n = n:=by unfold wrap64;omega
def lastOk (d : ByteArray) (e : Int) : Bool:=if bt d 0 = 48 then false else if bt d ((d.size : Int) - 1) = 48 then false else if (-1073741824) ≤ e then decide (e ≤ 1073741824) else false
theorem size_nil {d : ByteArray} : d.toList = ([] : List UInt8) ↔ d.size = 0:=by
 rw [Go.Lib.toList_data]
 constructor
 ·intro h;have:=congrArg List.length h
  simpa using this
 intro h
 have : d.data.toList.length = 0:=by simpa using h
 exact List.length_eq_zero_iff.1 this
def sg (neg : Bool) (d : ByteArray) : Int:=if d.size = 0 then 0 else if neg = true then -1 else 1
theorem sign_a (neg : Bool) (d : ByteArray) (e : Int) : decimal_sign.f neg d e = some (sg neg d):=by
 unfold decimal_sign.f sg
 by_cases h : d.size = 0
 ·rw [if_pos (size_nil.2 h),if_pos h]
 rw [if_neg (fun g=>h (size_nil.1 g)),if_neg h];split <;> rfl
theorem cmp_int (a b : Int) : cmp_Compare_int.f a b = some (if a < b then -1 else if a > b then 1 else 0):=by
 unfold cmp_Compare_int.f cmp_isNaN_int.f
 simp only [Option.bind_some,bne_self_eq_false,Bool.false_eq_true,if_false]
 split
 ·rfl
 split <;> rfl
theorem or_two (a b : Int) (K : Nat) : cmp_Or_int.f (K + 3) [a,b] = some (if a = 0 then b else a):=by
 unfold cmp_Or_int.f
 have l2 : (([a,b] : List Int).length : Int) = 2:=rfl
 have t0 : (0 : Int) < 2:=by decide
 have t1 : (1 : Int) < 2:=by decide
 have t2 : ¬ (2 : Int) < 2:=by decide
 have p0 : (0 : Int) ≤ 0:=by decide
 have p1 : (0 : Int) ≤ 1:=by decide
 rw [l2];rw [show K + 3 = (K + 2) + 1 by omega,cmp_Or_int.l0,if_pos t0,if_pos p0,l2,if_pos t0,show rd [a,b] 0 = a from rfl]
 by_cases h : a = 0
 ·rw [if_pos h,show wrap64 (0 + 1) = 1 from w64 _ (by decide) (by decide),show K + 2 = (K + 1) + 1 by omega,cmp_Or_int.l0,if_pos t1,if_pos p1,l2,if_pos t1,show rd [a,b] 1 = b from rfl,if_pos h]
  by_cases g : b = 0
  ·rw [if_pos g,show wrap64 (1 + 1) = 2 from w64 _ (by decide) (by decide),cmp_Or_int.l0,if_neg t2,g]
  rw [if_neg g]
 rw [if_neg h,if_neg h]
end Go.Proofs.YtfaegleohhemkaaDoor.QCmpPointerLikes
namespace Go.Proofs.YtfaegleohhemkaaDoor.QNumPointerLikes
open Go.RowKit Go.Proofs.YtfaegleohhemkaaDoor.PPointerLikes Go.Proofs.YtfaegleohhemkaaDoorW.PrintWords Go.Proofs.YtfaegleohhemkaaDoorW.PrintLast
set_option linter.unusedVariables false
set_option linter.unusedSimpArgs false
theorem pow_all (l all : List UInt8) (down : Nat) (t : Bool) : (rdPow l all down t).2.1 = all:=by
 unfold rdPow
 repeat' split
 all_goals rfl
theorem exp_all (l all : List UInt8) (down : Nat) : (rdExp l all down).2.1 = all:=by
 unfold rdExp
 repeat' split
 all_goals first|rfl|exact pow_all _ _ _ _
theorem below_len : ∀ (l all : List UInt8) (down : Nat) (x : UInt8),(rdBelow l all down x).2.1.length ≤ all.length + l.length + 1
 | [],all,down,x=>by rw [rdBelow,exp_all];simp
 | c :: r,all,down,x=>by
  rw [rdBelow]
  split
  ·have:=below_len r (all ++ [x]) (down + 1) c
   rw [List.length_append] at this
   simp only [List.length_cons,List.length_nil] at this ⊢
   omega
  rw [exp_all,List.length_append];simp only [List.length_cons,List.length_nil];omega
theorem point_len (l all : List UInt8) : (rdPoint l all).2.1.length ≤ all.length + l.length:=by
 unfold rdPoint
 split
 ·rw [exp_all];exact Nat.le_add_right _ _
 split
 ·split
  ·exact Nat.le_add_right _ _
  split
  ·rename_i q _
   have:=below_len q all 0 ‹_›
   simp only [List.length_cons] at this ⊢
   omega
  exact Nat.le_add_right _ _
 rw [exp_all];exact Nat.le_add_right _ _
theorem whole_len : ∀ (l all : List UInt8),(rdWhole l all).2.1.length ≤ all.length + l.length
 | [],all=>point_len [] all
 | c :: r,all=>by
  rw [rdWhole]
  split
  ·have:=whole_len r (all ++ [c])
   rw [List.length_append] at this
   simp only [List.length_cons,List.length_nil] at this ⊢
   omega
  exact point_len _ _
theorem first_len (l : List UInt8) : (rdFirst l).2.1.length ≤ l.length:=by
 unfold rdFirst
 split
 ·exact Nat.zero_le _
 rename_i d r
 split
 ·split
  ·have:=point_len r [d]
   simp only [List.length_cons,List.length_nil] at this ⊢
   omega
  have:=whole_len r [d]
  simp only [List.length_cons,List.length_nil] at this ⊢
  omega
 exact Nat.zero_le _
theorem all_len (l : List UInt8) : (rdAll l).2.2.1.length ≤ l.length:=by
 unfold rdAll
 split
 ·exact first_len _
 split
 ·have:=first_len ‹List UInt8›
  simp only [List.length_cons] at this ⊢
  omega
 exact first_len _
theorem drop_len (p : UInt8 → Bool) : ∀ l : List UInt8,(l.dropWhile p).length ≤ l.length
 | []=>Nat.le_refl _
 | c :: r=>by
  rw [List.dropWhile_cons]
  split
  ·have:=drop_len p r;rw [List.length_cons];omega
  exact Nat.le_refl _
theorem body_len (l : List UInt8) : (rdBody l).length ≤ l.length:=by
 unfold rdBody rdLead
 rw [List.length_reverse];exact Nat.le_trans (drop_len _ _) (by rw [List.length_reverse];exact drop_len _ _)
theorem decV_size (s : ByteArray) : (decV s 0).2.1.size ≤ s.size:=by
 have a:=all_len s.data.toList;have b:=body_len (rdAll s.data.toList).2.2.1;have c : s.data.toList.length = s.size:=rfl
 unfold decV
 rw [if_neg (by omega)]
 show (decOut s (rdAll s.data.toList).1 (rdAll s.data.toList).2).2.1.size ≤ s.size
 unfold decOut
 simp only
 split
 ·exact Nat.zero_le _
 split
 ·exact Nat.zero_le _
 split
 ·exact Nat.zero_le _
 show (rdBody (rdAll s.data.toList).2.2.1).toArray.size ≤ _
 rw [List.size_toArray];omega
theorem of_size (s : ByteArray) (hs : s.size ≤ 1099511627776) {r : Bool × ByteArray × Int × Int} (h : decimal_Of.f s = some r) : r.2.1.size ≤ s.size:=by
 have hv:=decV_size s
 unfold decimal_Of.f decimal_Read.f at h
 rw [if_pos hs,Option.bind_some] at h
 generalize decV s 0 = d at h hv
 split at h
 ·cases h;exact Nat.zero_le _
 split at h
 ·cases h;exact Nat.zero_le _
 cases h;exact hv
theorem Ev.at {α : Type} {g : Nat → Option α} {c : Nat} {r : α} (h : ∀ K,g (K + c) = some r) : Ev g r:=by
 refine ⟨c,fun k hk=>?_⟩;obtain ⟨d,rfl⟩:=Nat.exists_eq_add_of_le hk;rw [Nat.add_comm];exact h d
end Go.Proofs.YtfaegleohhemkaaDoor.QNumPointerLikes
namespace Go.Proofs.YtfaegleohhemkaaDoor.QSamePointerLikes
open Go.RowKit Go.Proofs.YtfaegleohhemkaaDoor.PPointerLikes Go.Proofs.YtfaegleohhemkaaDoorW.PrintWords Go.Proofs.YtfaegleohhemkaaDoorW.PrintLast Go.Proofs.YtfaegleohhemkaaDoor.QValPointerLikes Go.Proofs.YtfaegleohhemkaaDoor.QTreePointerLikes
set_option linter.unusedVariables false
set_option linter.unusedSimpArgs false
theorem rd_get (l : List S25) (i : Nat) (h : i < l.length) : rd_T25 l (i : Int) = l[i]:=by unfold rd_T25;simp [h]
theorem Both.no {f g : Nat → Option Bool} (h1 : ∀ k,f (k + 1) = some false) (h2 : ∀ k,g (k + 1) = some false) : Both f g :=
 ⟨false,Ev.step (f:=fun _=>some false) h1 (Ev.now _),Ev.step (f:=fun _=>some false) h2 (Ev.now _)⟩
theorem Both.step {α : Type} {f f' g g' : Nat → Option α} (h1 : ∀ k,f (k + 1) = f' k) (h2 : ∀ k,g (k + 1) = g' k) (h : Both f' g') : Both f g:=by
 obtain ⟨b,a,c⟩:=h;exact ⟨b,Ev.step h1 a,Ev.step h2 c⟩
theorem Both.congr {α : Type} {f f' g g' : Nat → Option α} (h1 : ∀ k,f k = f' k) (h2 : ∀ k,g k = g' k) (h : Both f' g') : Both f g:=by
 obtain ⟨b,a,c⟩:=h;exact ⟨b,Ev.congr h1 a,Ev.congr h2 c⟩
end Go.Proofs.YtfaegleohhemkaaDoor.QSamePointerLikes
namespace Go.Proofs.YtfaegleohhemkaaDoor.QAlkPointerLikes
open Go.RowKit Go.Proofs.YtfaegleohhemkaaDoor.PPointerLikes Go.Proofs.YtfaegleohhemkaaDoorW.PrintWords Go.Proofs.YtfaegleohhemkaaDoorW.PrintLast Go.Proofs.YtfaegleohhemkaaDoor.QValPointerLikes Go.Proofs.YtfaegleohhemkaaDoor.QTreePointerLikes Go.Proofs.YtfaegleohhemkaaDoor.QSamePointerLikes Go.Proofs.YtfaegleohhemkaaDoor.QLikPointerLikes Go.Proofs.YtfaegleohhemkaaDoor.QCovPointerLikes
set_option linter.unusedVariables false
set_option linter.unusedSimpArgs false
structure Own (x : S25) : Prop where
 k1 : x.f0 = 1 → x.f1 = false ∧ x.f3.toList = ([] : List UInt8)
 k2 : x.f0 = 2 → x.f3.toList = ([] : List UInt8)
 k4 : x.f0 = 4 → x.f1 = false
 k6 : x.f0 = 6 → x.f4.length = x.f5.length
 any : x.f0 = 1 ∨ x.f0 = 2 ∨ x.f0 = 3 ∨ x.f0 = 4 ∨ x.f0 = 5 ∨ x.f0 = 6
inductive Wf : S25 → Prop
 | mk (x : S25) (h : Own x) (k : ∀ y ∈ x.f5,Wf y) : Wf x
theorem Wf.own {x : S25} (h : Wf x) : Own x:=by cases h;assumption
theorem Wf.kid {x y : S25} (h : Wf x) (hy : y ∈ x.f5) : Wf y:=by cases h with|mk _ h k=>exact k y hy
theorem plain_own (x : S25) (hs : Sm x) (h : tree_plain.f x.f0 x.f1 x.f2 x.f3 x.f4 x.f5 = some true) : Own x:=by
 rw [tree_plain_f x hs] at h
 by_cases c1 : x.f0 = 1
 ·rw [if_pos c1] at h
  have h:=Option.some.inj h
  unfold p1 at h
  simp only [Bool.and_eq_true,Bool.not_eq_true',decide_eq_true_eq] at h
  exact ⟨fun _=>⟨h.1.1.2,h.2⟩,fun e=>by omega,fun e=>by omega,fun e=>by omega,.inl c1⟩
 rw [if_neg c1] at h
 by_cases c2 : x.f0 = 2
 ·rw [if_pos c2] at h
  have h:=Option.some.inj h
  unfold p2 at h
  simp only [Bool.and_eq_true,Bool.not_eq_true',decide_eq_true_eq] at h
  exact ⟨fun e=>by omega,fun e=>h.2,fun e=>by omega,fun e=>by omega,.inr (.inl c2)⟩
 rw [if_neg c2] at h
 by_cases c3 : x.f0 = 3
 ·exact ⟨fun e=>by omega,fun e=>by omega,fun e=>by omega,fun e=>by omega,.inr (.inr (.inl c3))⟩
 rw [if_neg c3] at h
 by_cases c4 : x.f0 = 4
 ·rw [if_pos c4] at h
  by_cases hp : p4 x = true
  ·unfold p4 at hp
   simp only [Bool.and_eq_true,Bool.not_eq_true',decide_eq_true_eq] at hp
   exact ⟨fun e=>by omega,fun e=>by omega,fun e=>hp.1.2,fun e=>by omega,.inr (.inr (.inr (.inl c4)))⟩
  rw [if_neg hp] at h;cases h
 rw [if_neg c4] at h
 by_cases c5 : x.f0 = 5
 ·exact ⟨fun e=>by omega,fun e=>by omega,fun e=>by omega,fun e=>by omega,.inr (.inr (.inr (.inr (.inl c5))))⟩
 rw [if_neg c5] at h
 by_cases c6 : x.f0 = 6
 ·rw [if_pos c6] at h
  by_cases hp : p6 x = true
  ·rw [if_pos hp] at h
   by_cases hl : x.f4.length = x.f5.length
   ·exact ⟨fun e=>by omega,fun e=>by omega,fun e=>by omega,fun e=>hl,.inr (.inr (.inr (.inr (.inr c6))))⟩
   rw [if_neg hl] at h;cases h
  rw [if_neg hp] at h;cases h
 rw [if_neg c6] at h;cases h
theorem mem_look {A : List ByteArray} {P : List S25} (h : P.length = A.length) {s : ByteArray} {x : S25} (e : lookP s (A.zip P) = some x) : x ∈ P:=by
 obtain ⟨i,hi,_,_,rfl⟩:=(lookP_some s A P h x).1 e;exact rd_mem P i (by omega)
theorem okK_yes (x : S25) (hx : Sm x) (hl : x.f4.length = x.f5.length) : okK x.f4 x.f5 = true:=by
 unfold okK
 rw [decide_eq_true hl,Bool.true_and,List.all_eq_true];intro s hs;have:=small_name x s hs
 unfold Sm at hx
 exact decide_eq_true (by omega)
end Go.Proofs.YtfaegleohhemkaaDoor.QAlkPointerLikes
namespace Go.Proofs.YtfaegleohhemkaaDoor.QTotPointerLikes
open Go.RowKit Go.Proofs.YtfaegleohhemkaaDoor.PPointerLikes Go.Proofs.YtfaegleohhemkaaDoorW.PrintWords Go.Proofs.YtfaegleohhemkaaDoorW.PrintLast Go.Proofs.YtfaegleohhemkaaDoor.QValPointerLikes Go.Proofs.YtfaegleohhemkaaDoor.QTreePointerLikes Go.Proofs.YtfaegleohhemkaaDoor.QSamePointerLikes Go.Proofs.YtfaegleohhemkaaDoor.QLikPointerLikes Go.Proofs.YtfaegleohhemkaaDoor.QAlkPointerLikes Go.Proofs.YtfaegleohhemkaaDoor.QCmpPointerLikes Go.Proofs.YtfaegleohhemkaaDoor.QNumPointerLikes
set_option linter.unusedVariables false
set_option linter.unusedSimpArgs false
theorem dform_run (neg : Bool) (d : ByteArray) (e : Int) (h0 : 0 < d.size) (hs : d.size ≤ 1099511627776) : ∀ n i : Nat,i + n = d.size → ∃ b,Ev (fun k=>decimal_Formed.l0 k (d.size : Int) (i : Int) neg d e) b
 | 0,i,h=>by
  have w : wrap64 ((d.size : Int) - 1) = (d.size : Int) - 1:=QCmpPointerLikes.w64 _ (by omega) (by omega);refine ⟨lastOk d e,Ev.step (f:=fun _=>some (lastOk d e)) (fun k=>?_) (Ev.now _)⟩
  unfold lastOk
  rw [decimal_Formed.l0,if_neg (by omega),if_pos (by omega),w,if_pos (show (0 : Int) ≤ (d.size : Int) - 1 by omega),if_pos (show (d.size : Int) - 1 < (d.size : Int) by omega)]
  split
  ·rfl
  split
  ·rfl
  split <;> rfl
 | n + 1,i,h=>by
  obtain ⟨b,b1⟩:=dform_run neg d e h0 hs n (i + 1) (by omega)
  have w : wrap64 ((i : Int) + 1) = ((i + 1 : Nat) : Int):=by rw [QCmpPointerLikes.w64 _ (by omega) (by omega)];omega
  by_cases c : ((bt d (i : Int) - 48) % 256) > 9
  ·exact ⟨false,Ev.step (f:=fun _=>some false) (fun k=>by rw [decimal_Formed.l0,if_pos (by omega),if_pos (by omega),if_pos (by omega),if_pos c]) (Ev.now _)⟩
  exact ⟨b,Ev.step (fun k=>by rw [decimal_Formed.l0,if_pos (by omega),if_pos (by omega),if_pos (by omega),if_neg c,w]) b1⟩
theorem dform_tot (neg : Bool) (d : ByteArray) (e : Int) (hs : d.size ≤ 1099511627776) : ∃ b,Ev (fun k=>decimal_Formed.f k neg d e) b:=by
 by_cases h : d.toList = ([] : List UInt8)
 ·exact ⟨e == 0,Ev.congr (f:=fun _=>some (e == 0)) (fun k=>by rw [decimal_Formed.f,if_pos h]) (Ev.now _)⟩
 obtain ⟨b,b1⟩:=dform_run neg d e (Nat.pos_of_ne_zero (fun g=>h (QCmpPointerLikes.size_nil.2 g))) hs d.size 0 (by omega);exact ⟨b,Ev.congr (fun k=>by rw [decimal_Formed.f,if_neg h];rfl) b1⟩
theorem cmp_tot (n1 : Bool) (d1 : ByteArray) (e1 : Int) (n2 : Bool) (d2 : ByteArray) (e2 : Int) (h1 : d1.size ≤ 1099511627776) (h2 : d2.size ≤ 1099511627776) : ∃ r,Ev (fun k=>decimal_Cmp.f k n1 d1 e1 n2 d2 e2) r:=by
 have j1 : ∀ s c,∃ r,Ev (fun k=>decimal_Cmp.j1 k s c n1 d1 e1 n2 d2 e2) r:=by
  intro s c
  cases c with
  | true =>
   refine ⟨((if s < sg n2 d2 then -1 else if s > sg n2 d2 then 1 else 0),0),Ev.step (f:=fun _=>some ((if s < sg n2 d2 then -1 else if s > sg n2 d2 then 1 else 0),0)) (fun k=>?_) (Ev.now _)⟩;rw [decimal_Cmp.j1,if_pos rfl,sign_a,Option.bind_some,cmp_int,Option.bind_some]
  | false =>
   refine ⟨_,Ev.step (f:=fun k=>(cmp_Or_int.f k [if wrap64 ((d1.size : Int) + e1) < wrap64 ((d2.size : Int) + e2) then -1 else if wrap64 ((d1.size : Int) + e1) > wrap64 ((d2.size : Int) + e2) then 1 else 0,Lib.compareBytes d1.data.toList d2.data.toList]).bind fun t=>some (wrap64 (s * t),0)) (fun k=>?_) (Ev.bind (Ev.at (or_two _ _)) (Ev.now _))⟩;rw [decimal_Cmp.j1,if_neg (by decide),cmp_int,Option.bind_some];rfl
 have j0 : ∀ c,∃ r,Ev (fun k=>decimal_Cmp.j0 k c n1 d1 e1 n2 d2 e2) r:=by
  intro c
  cases c with
  | true=>exact ⟨(0,1),Ev.step (f:=fun _=>some (0,1)) (fun k=>by rw [decimal_Cmp.j0,if_pos rfl]) (Ev.now _)⟩
  | false =>
   by_cases g : sg n1 d1 = sg n2 d2
   ·obtain ⟨r,hr⟩:=j1 (sg n1 d1) (sg n1 d1 == 0);exact ⟨r,Ev.step (fun k=>by rw [decimal_Cmp.j0,if_neg (by decide),sign_a,Option.bind_some,sign_a,Option.bind_some,if_pos g]) hr⟩
   obtain ⟨r,hr⟩:=j1 (sg n1 d1) true;exact ⟨r,Ev.step (fun k=>by rw [decimal_Cmp.j0,if_neg (by decide),sign_a,Option.bind_some,sign_a,Option.bind_some,if_neg g]) hr⟩
 obtain ⟨b1,p1⟩:=dform_tot n1 d1 e1 h1;obtain ⟨b2,p2⟩:=dform_tot n2 d2 e2 h2
 cases b1 with
 | false =>
  obtain ⟨r,hr⟩:=j0 true;exact ⟨r,Ev.bind p1 (Ev.congr (fun k=>if_neg (by decide)) hr)⟩
 | true =>
  obtain ⟨r,hr⟩:=j0 (!b2);exact ⟨r,Ev.bind p1 (Ev.congr (fun k=>if_pos rfl) (Ev.bind p2 hr))⟩
theorem of_tot (s : ByteArray) (hs : s.size ≤ 1099511627776) : ∃ r,decimal_Of.f s = some r:=by
 unfold decimal_Of.f decimal_Read.f
 rw [if_pos hs,Option.bind_some]
 split
 ·exact ⟨_,rfl⟩
 split <;> exact ⟨_,rfl⟩
theorem numbers_tot (a b : ByteArray) (ha : a.size ≤ 1099511627776) (hb : b.size ≤ 1099511627776) : ∃ t,Ev (fun k=>tree_numbers.f k a b) t:=by
 obtain ⟨x,x1⟩:=of_tot a ha;obtain ⟨y,y1⟩:=of_tot b hb;have sx:=of_size a ha x1;have sy:=of_size b hb y1
 by_cases cx : x.2.2.2 = 0
 ·by_cases cy : y.2.2.2 = 0
  ·obtain ⟨r,hr⟩:=cmp_tot x.1 x.2.1 x.2.2.1 y.1 y.2.1 y.2.2.1 (by omega) (by omega);refine ⟨r.1 == 0,Ev.congr (f:=fun k=>(decimal_Cmp.f k x.1 x.2.1 x.2.2.1 y.1 y.2.1 y.2.2.1).bind fun z=>some (z.1 == 0)) (fun k=>?_) (Ev.bind hr (Ev.now _))⟩;rw [tree_numbers.f,x1,y1];simp only [Option.bind_some];rw [if_pos cx,if_pos cy]
  refine ⟨a.toList == b.toList,Ev.congr (f:=fun _=>some (a.toList == b.toList)) (fun k=>?_) (Ev.now _)⟩;rw [tree_numbers.f,x1,y1];simp only [Option.bind_some];rw [if_pos cx,if_neg cy]
 refine ⟨a.toList == b.toList,Ev.congr (f:=fun _=>some (a.toList == b.toList)) (fun k=>?_) (Ev.now _)⟩;rw [tree_numbers.f,x1,y1];simp only [Option.bind_some];rw [if_neg cx]
inductive Frm : Nat → S25 → Prop
 | mk (n : Nat) (x : S25) (h : tree_plain.f x.f0 x.f1 x.f2 x.f3 x.f4 x.f5 = some true) (d : x.f5 ≠ [] → 0 < n) (c : (x.f0 = 5 ∨ x.f0 = 6) → 0 < n) (k : ∀ y ∈ x.f5,Frm (n - 1) y) : Frm n x
theorem Frm.mono : ∀ {n : Nat} {x : S25},Frm n x → ∀ m,n ≤ m → Frm m x:=by
 intro n x h
 induction h with
 | mk n x h d c k ih =>
  intro m hm;exact .mk m x h (fun e=>by have:=d e;omega) (fun e=>by have:=c e;omega) (fun y hy=>ih y hy (m - 1) (by omega))
theorem Frm.kid {n : Nat} {x y : S25} (h : Frm n x) (hy : y ∈ x.f5) : Frm n y:=by
 cases h with
 | mk _ _ h d c k=>exact (k y hy).mono n (by omega)
theorem Frm.wf : ∀ {n : Nat} {x : S25},Frm n x → Sm x → Wf x:=by
 intro n x h
 induction h with
 | mk n x h d c k ih =>
  intro hs;exact .mk x (plain_own x hs h) (fun y hy=>ih y hy (by have:=small_kid x y hy;unfold Sm at hs ⊢;omega))
theorem plain_tot (x : S25) (hs : Sm x) : ∃ b,tree_plain.f x.f0 x.f1 x.f2 x.f3 x.f4 x.f5 = some b:=by
 rw [tree_plain_f x hs];obtain ⟨r,hr⟩:=of_tot x.f2 (by have:=small_raw x;unfold Sm at hs;omega);rw [hr]
 split
 ·exact ⟨_,rfl⟩
 split
 ·exact ⟨_,rfl⟩
 split
 ·exact ⟨_,rfl⟩
 split
 ·split <;> exact ⟨_,rfl⟩
 split
 ·exact ⟨_,rfl⟩
 split
 ·split
  ·split <;> exact ⟨_,rfl⟩
  exact ⟨_,rfl⟩
 exact ⟨_,rfl⟩
theorem plain_kids (x : S25) (hs : Sm x) (h : tree_plain.f x.f0 x.f1 x.f2 x.f3 x.f4 x.f5 = some true) (h5 : ¬ (x.f0 = 5 ∨ x.f0 = 6)) : x.f5 = []:=by
 rw [tree_plain_f x hs] at h
 have nb : noneB x = true → x.f5 = []:=by
  intro g
  unfold noneB at g
  simp only [Bool.and_eq_true,decide_eq_true_eq] at g
  exact List.length_eq_zero_iff.1 g.2
 apply nb
 by_cases c1 : x.f0 = 1
 ·rw [if_pos c1] at h
  have h:=Option.some.inj h
  unfold p1 at h
  simp only [Bool.and_eq_true] at h
  exact h.1.1.1
 rw [if_neg c1] at h
 by_cases c2 : x.f0 = 2
 ·rw [if_pos c2] at h
  have h:=Option.some.inj h
  unfold p2 at h
  simp only [Bool.and_eq_true] at h
  exact h.1.1
 rw [if_neg c2] at h
 by_cases c3 : x.f0 = 3
 ·rw [if_pos c3] at h
  obtain ⟨d,hd,h⟩:=Option.bind_eq_some_iff.mp h;have h:=Option.some.inj h
  unfold p3 at h
  simp only [Bool.and_eq_true] at h
  exact h.1.1.1.1
 rw [if_neg c3] at h
 by_cases c4 : x.f0 = 4
 ·rw [if_pos c4] at h
  by_cases hp : p4 x = true
  ·unfold p4 at hp
   simp only [Bool.and_eq_true] at hp
   exact hp.1.1
  rw [if_neg hp] at h;cases h
 rw [if_neg c4,if_neg (fun e=>h5 (.inl e)),if_neg (fun e=>h5 (.inr e))] at h
 cases h
theorem w64m (n : Nat) (h : 0 < n) (h2 : n ≤ 1024) : wrap64 ((n : Int) - 1) = ((n - 1 : Nat) : Int):=by unfold wrap64;omega
theorem floop_tot (left : Int) (P : List S25) (hs : P.length ≤ 1048576) {p : S25 → Bool} (hk : ∀ y ∈ P,Ev (fun k=>tree_formed.f k y.f0 y.f1 y.f2 y.f3 y.f4 y.f5 (wrap64 (left - 1))) (p y)) : ∀ d i : Nat,i + d = P.length → Ev (fun k=>tree_formed.l0 k left P (P.length : Int) (i : Int)) ((P.drop i).all p)
 | 0,i,h=>by
  rw [List.drop_of_length_le (by omega)];exact Ev.step (f:=fun _=>some true) (fun k=>by rw [tree_formed.l0,if_neg (by omega)]) (Ev.now _)
 | d + 1,i,h=>by
  have hi : i < P.length:=by omega
  have ih:=floop_tot left P hs hk d (i + 1) (by omega);have b1:=hk _ (List.getElem_mem hi)
  have st : ∀ k,tree_formed.l0 (k + 1) left P (P.length : Int) (i : Int) = (tree_formed.f k P[i].f0 P[i].f1 P[i].f2 P[i].f3 P[i].f4 P[i].f5 (wrap64 (left - 1))).bind fun t=>if t = true then tree_formed.l0 k left P (P.length : Int) ((i + 1 : Nat) : Int) else some false:=fun k=>by
   rw [tree_formed.l0,if_pos (by omega),if_pos (by omega),if_pos (by omega),rd_get P i hi,w64s i (by omega)]
  rw [List.drop_eq_getElem_cons hi,List.all_cons];refine Ev.step st (Ev.bind b1 ?_)
  cases p P[i] with
  | true=>exact Ev.congr (fun k=>if_pos rfl) (by rw [Bool.true_and];exact ih)
  | false=>exact Ev.congr (f:=fun _=>some false) (fun k=>if_neg (by decide)) (Ev.now _)
theorem formed_tot (m : Nat) : ∀ x : S25,SizeOf.sizeOf x ≤ m → Sm x → ∀ n : Nat,n ≤ 1024 → ∃ b,Ev (fun k=>tree_formed.f k x.f0 x.f1 x.f2 x.f3 x.f4 x.f5 (n : Int)) b ∧ (b = true ↔ Frm n x):=by
 induction m with
 | zero=>intro x hn;cases x;simp at hn
 | succ m ih =>
  intro x hm hs n hn;obtain ⟨b,hb⟩:=plain_tot x hs;have hh:=holds_f x;have hl:=(small_len x).1
  have j0 : ∀ c r,Ev (fun k=>tree_formed.l0 k (n : Int) x.f5 (x.f5.length : Int) 0) r → Ev (fun k=>tree_formed.j0 k (n : Int) c x.f0 x.f1 x.f2 x.f3 x.f4 x.f5) (if c = true then false else r):=by
   intro c r hr
   cases c with
   | true=>exact Ev.step (f:=fun _=>some false) (fun k=>by rw [tree_formed.j0,if_pos rfl]) (Ev.now _)
   | false=>exact Ev.step (fun k=>by rw [tree_formed.j0,if_neg (by decide)]) hr
  have jt : Ev (fun k=>tree_formed.j0 k (n : Int) true x.f0 x.f1 x.f2 x.f3 x.f4 x.f5) false:=Ev.step (f:=fun _=>some false) (fun k=>by rw [tree_formed.j0,if_pos rfl]) (Ev.now _)
  cases b with
  | false =>
   refine ⟨false,Ev.step (fun k=>?_) jt,⟨fun e=>(by cases e),fun e=>?_⟩⟩
   ·rw [tree_formed.f,hb,Option.bind_some,if_neg (by decide)]
   cases e with
   | mk _ _ h _ _ _=>rw [hb] at h;cases h
  | true =>
   by_cases c5 : x.f0 = 5 ∨ x.f0 = 6
   ·rw [decide_eq_true c5] at hh
    by_cases c0 : n = 0
    ·subst c0;refine ⟨false,Ev.step (fun k=>?_) jt,⟨fun e=>(by cases e),fun e=>?_⟩⟩
     ·rw [tree_formed.f,hb,Option.bind_some,if_pos rfl,hh,Option.bind_some,if_pos rfl];rfl
     cases e with
     | mk _ _ _ _ c _=>exact absurd (c c5) (by omega)
    have hp : ∀ y : S25,∃ b,y ∈ x.f5 → Ev (fun k=>tree_formed.f k y.f0 y.f1 y.f2 y.f3 y.f4 y.f5 (wrap64 ((n : Int) - 1))) b ∧ (b = true ↔ Frm (n - 1) y):=by
     intro y
     by_cases hy : y ∈ x.f5
     ·obtain ⟨b,b1,b2⟩:=ih y (by have:=kid_lt hy;omega) (by have:=small_kid x y hy;unfold Sm at hs ⊢;omega) (n - 1) (by omega);exact ⟨b,fun _=>⟨by rw [w64m n (by omega) hn];exact b1,b2⟩⟩
     exact ⟨false,fun g=>absurd g hy⟩
    obtain ⟨p,hp⟩:=Classical.skolem.1 hp;have lo:=floop_tot (n : Int) x.f5 (by unfold Sm at hs;omega) (fun y hy=>(hp y hy).1) x.f5.length 0 (by omega);have:=j0 ((n : Int) == 0) _ lo
    rw [show ((n : Int) == 0) = false from beq_eq_false_iff_ne.mpr (by omega),if_neg (by decide),List.drop_zero] at this
    refine ⟨_,Ev.step (fun k=>?_) this,?_⟩
    ·rw [tree_formed.f,hb,Option.bind_some,if_pos rfl,hh,Option.bind_some,if_pos rfl,show ((n : Int) == 0) = false from beq_eq_false_iff_ne.mpr (by omega)]
    rw [List.all_eq_true]
    constructor
    ·intro g;exact .mk n x hb (fun _=>by omega) (fun _=>by omega) (fun y hy=>(hp y hy).2.1 (g y hy))
    intro g y hy
    cases g with
    | mk _ _ _ _ _ k=>exact (hp y hy).2.2 (k y hy)
   rw [decide_eq_false c5] at hh
   have he:=plain_kids x hs hb c5;refine ⟨true,Ev.step (fun k=>?_) (Ev.step (f:=fun k=>tree_formed.l0 k (n : Int) x.f5 (x.f5.length : Int) 0) (g:=fun k=>tree_formed.j0 k (n : Int) false x.f0 x.f1 x.f2 x.f3 x.f4 x.f5) (fun k=>?_) (Ev.step (f:=fun _=>some true) (fun k=>?_) (Ev.now _))),⟨fun _=>?_,fun _=>rfl⟩⟩
   ·rw [tree_formed.f,hb,Option.bind_some,if_pos rfl,hh,Option.bind_some,if_neg (by decide)]
   ·rw [tree_formed.j0,if_neg (by decide)]
   ·rw [tree_formed.l0,he,if_neg (by decide)]
   exact .mk n x hb (fun e=>absurd he e) (fun e=>absurd e c5) (fun y hy=>by rw [he] at hy;cases hy)
theorem Formed_tot (x : S25) (hs : Sm x) : ∃ b,Ev (fun k=>tree_Formed.f k x.f0 x.f1 x.f2 x.f3 x.f4 x.f5) b ∧ (b = true ↔ Frm 1024 x):=by
 obtain ⟨b,b1,b2⟩:=formed_tot (SizeOf.sizeOf x) x (Nat.le_refl _) hs 1024 (Nat.le_refl _);exact ⟨b,Ev.bind (f:=fun _ t=>some t) b1 (Ev.now _),b2⟩
theorem all2_tot {F : Nat → S25 → S25 → Option Bool} : ∀ P Q : List S25,(∀ u ∈ P,∀ v ∈ Q,∃ b,Ev (fun k=>F k u v) b) → ∃ b,Ev (fun k=>all2 (F k) P Q) b
 | [],[],h=>⟨true,Ev.now _⟩
 | [],_ :: _,h=>⟨false,Ev.now _⟩
 | _ :: _,[],h=>⟨false,Ev.now _⟩
 | x :: P,y :: Q,h=>by
  obtain ⟨b,b1⟩:=h x (by simp) y (by simp);obtain ⟨r,r1⟩:=all2_tot P Q (fun u hu v hv=>h u (by simp [hu]) v (by simp [hv]))
  cases b with
  | true=>exact ⟨r,Ev.congr (fun k=>by rw [all2]) (Ev.bind b1 (Ev.congr (fun k=>if_pos rfl) r1))⟩
  | false=>exact ⟨false,Ev.congr (fun k=>by rw [all2]) (Ev.bind b1 (Ev.congr (f:=fun _=>some false) (fun k=>if_neg Bool.false_ne_true) (Ev.now _)))⟩
theorem ansP_tot {F : Nat → S25 → S25 → Option Bool} {ps qs : List (ByteArray × S25)} (h : ∀ s t x y,lookP s ps = some x → lookP t qs = some y → ∃ b,Ev (fun k=>F k x y) b) : ∀ l : List ByteArray,∃ b,Ev (fun k=>ansP (F k) ps qs l) b
 | []=>⟨true,Ev.now _⟩
 | s :: r=>by
  obtain ⟨u,u1⟩:=ansP_tot h r
  cases hp : lookP s ps with
  | none=>exact ⟨u,Ev.congr (fun k=>by rw [ansP,hp]) u1⟩
  | some x =>
   cases hq : lookP s qs with
   | none=>exact ⟨false,Ev.congr (fun k=>by simp only [ansP,hp,hq]) (Ev.bind (f:=fun _ _=>some false) u1 (Ev.now _))⟩
   | some y =>
    obtain ⟨b,b1⟩:=h s s x y hp hq;exact ⟨b && u,Ev.congr (fun k=>by simp only [ansP,hp,hq]) (Ev.bind (f:=fun k t=>(ansP (F k) ps qs r).bind fun u=>some (t && u)) b1 (Ev.bind u1 (Ev.now _)))⟩
theorem alike_tot (n : Nat) : ∀ x y : S25,SizeOf.sizeOf x ≤ n → Sm x → Sm y → Wf x → Wf y → ∃ b,Ev (fun k=>tree_alike.f k x.f0 x.f1 x.f2 x.f3 x.f4 x.f5 y.f0 y.f1 y.f2 y.f3 y.f4 y.f5) b:=by
 induction n with
 | zero=>intro x y hn;cases x;simp at hn
 | succ n ih =>
  intro x y hn hx hy wx wy;have rx:=small_raw x;have ry:=small_raw y
  have ihk : ∀ u ∈ x.f5,∀ v ∈ y.f5,∃ b,Ev (fun k=>tree_alike.f k u.f0 u.f1 u.f2 u.f3 u.f4 u.f5 v.f0 v.f1 v.f2 v.f3 v.f4 v.f5) b:=fun u hu v hv=>ih u v (by have:=kid_lt hu;omega) (by have:=small_kid x u hu;unfold Sm at hx ⊢;omega) (by have:=small_kid y v hv;unfold Sm at hy ⊢;omega) (wx.kid hu) (wy.kid hv)
  by_cases c0 : x.f0 = y.f0
  ·by_cases c3 : x.f0 = 3
   ·obtain ⟨t,t1⟩:=numbers_tot x.f2 y.f2 (by unfold Sm at hx;omega) (by unfold Sm at hy;omega);exact ⟨t,Ev.step (fun k=>by rw [tree_alike.f,if_pos c0,if_pos c3]) t1⟩
   by_cases c5 : x.f0 = 5
   ·by_cases cl : x.f5.length = y.f5.length
    ·obtain ⟨r,r1⟩:=all2_tot (F:=fun k u v=>tree_alike.f k u.f0 u.f1 u.f2 u.f3 u.f4 u.f5 v.f0 v.f1 v.f2 v.f3 v.f4 v.f5) x.f5 y.f5 ihk;exact ⟨r,Ev.step (fun k=>by rw [tree_alike.f,if_pos c0,if_neg c3,if_pos c5,if_pos cl]) r1⟩
    exact ⟨false,Ev.step (f:=fun _=>some false) (fun k=>by rw [tree_alike.f,if_pos c0,if_neg c3,if_pos c5,if_neg cl]) (Ev.now _)⟩
   by_cases c6 : x.f0 = 6
   ·have hlx:=wx.own.k6 c6;have hly:=wy.own.k6 (c0 ▸ c6);obtain ⟨u,u1⟩:=ansP_tot (F:=fun k u v=>tree_alike.f k u.f0 u.f1 u.f2 u.f3 u.f4 u.f5 v.f0 v.f1 v.f2 v.f3 v.f4 v.f5) (ps:=x.f4.zip x.f5) (qs:=y.f4.zip y.f5) (fun s t u v h1 h2=>ihk u (mem_look hlx.symm h1) v (mem_look hly.symm h2)) x.f4;exact ⟨_,Ev.step (fun k=>by rw [tree_alike.f,if_pos c0,if_neg c3,if_neg c5,if_pos c6,if_pos (okK_yes x hx hlx),if_pos (okK_yes y hy hly)]) (Ev.bind (f:=fun _ u=>some (u && decide (sizeP (x.f4.zip x.f5) = sizeP (y.f4.zip y.f5)))) u1 (Ev.now _))⟩
   exact ⟨_,Ev.step (f:=fun _=>some ((x.f1 == y.f1) && (x.f3.toList == y.f3.toList))) (fun k=>by rw [tree_alike.f,if_pos c0,if_neg c3,if_neg c5,if_neg c6]) (Ev.now _)⟩
  exact ⟨false,Ev.step (f:=fun _=>some false) (fun k=>by rw [tree_alike.f,if_neg c0]) (Ev.now _)⟩
def AL (x y : S25) : Prop:=∃ k,tree_alike.f k x.f0 x.f1 x.f2 x.f3 x.f4 x.f5 y.f0 y.f1 y.f2 y.f3 y.f4 y.f5 = some true
theorem AL.ev {x y : S25} (h : AL x y) : Ev (fun k=>tree_alike.f k x.f0 x.f1 x.f2 x.f3 x.f4 x.f5 y.f0 y.f1 y.f2 y.f3 y.f4 y.f5) true:=by
 obtain ⟨k,h⟩:=h;exact Ev.of (fun k=>tree_alike.mono _ _ _ _ _ _ _ _ _ _ _ _ k) h
theorem AL.kind {x y : S25} (h : AL x y) : x.f0 = y.f0:=by
 obtain ⟨k,h⟩:=h
 cases k with
 | zero=>rw [tree_alike.f] at h;cases h
 | succ k =>
  by_cases c0 : x.f0 = y.f0
  ·exact c0
  rw [tree_alike.f,if_neg c0] at h;cases h
theorem all2_at {rec : S25 → S25 → Option Bool} : ∀ P Q : List S25,all2 rec P Q = some true → ∀ i (h1 : i < P.length) (h2 : i < Q.length),rec P[i] Q[i] = some true
 | [],_,h,i,h1,h2=>absurd h1 (Nat.not_lt_zero _)
 | _ :: _,[],h,i,h1,h2=>absurd h2 (Nat.not_lt_zero _)
 | x :: P,y :: Q,h,i,h1,h2=>by
  rw [all2] at h
  obtain ⟨t,ht,h⟩:=Option.bind_eq_some_iff.mp h
  cases t with
  | false=>rw [if_neg (by decide)] at h;cases h
  | true =>
   rw [if_pos rfl] at h
   cases i with
   | zero=>exact ht
   | succ i=>exact all2_at P Q h i (by simpa using h1) (by simpa using h2)
theorem AL.arr {x y : S25} (h : AL x y) (c5 : x.f0 = 5) : x.f5.length = y.f5.length ∧ ∀ i,i < x.f5.length → AL (rd_T25 x.f5 (i : Int)) (rd_T25 y.f5 (i : Int)):=by
 have c0:=h.kind;obtain ⟨k,h⟩:=h
 cases k with
 | zero=>rw [tree_alike.f] at h;cases h
 | succ k =>
  rw [tree_alike.f,if_pos c0,if_neg (by omega),if_pos c5] at h
  by_cases cl : x.f5.length = y.f5.length
  ·rw [if_pos cl] at h
   refine ⟨cl,fun i hi=>⟨k,?_⟩⟩;have:=all2_at _ _ h i hi (by omega);rw [rd_get x.f5 i hi,rd_get y.f5 i (by omega)];exact this
  rw [if_neg cl] at h;cases h
theorem ansP_at {rec : S25 → S25 → Option Bool} {ps qs : List (ByteArray × S25)} : ∀ l : List ByteArray,ansP rec ps qs l = some true → ∀ s ∈ l,∀ x,lookP s ps = some x → ∃ y,lookP s qs = some y ∧ rec x y = some true
 | [],h,s,hs,x,hx=>by cases hs
 | t :: r,h,s,hs,x,hx=>by
  cases hp : lookP t ps with
  | none =>
   simp only [ansP,hp] at h
   rcases List.mem_cons.1 hs with e|hs
   ·subst e;rw [hp] at hx;cases hx
   exact ansP_at r h s hs x hx
  | some z =>
   cases hq : lookP t qs with
   | none =>
    simp only [ansP,hp,hq] at h
    obtain ⟨u,hu,h⟩:=Option.bind_eq_some_iff.mp h;cases h
   | some y =>
    simp only [ansP,hp,hq] at h
    obtain ⟨u,hu,h⟩:=Option.bind_eq_some_iff.mp h;obtain ⟨v,hv,h⟩:=Option.bind_eq_some_iff.mp h;have h:=Option.some.inj h
    rw [Bool.and_eq_true] at h
    obtain ⟨rfl,rfl⟩:=h
    rcases List.mem_cons.1 hs with e|hs
    ·subst e;rw [hp] at hx;cases hx;exact ⟨y,hq,hu⟩
    exact ansP_at r hv s hs x hx
theorem AL.obj {x y : S25} (h : AL x y) (c6 : x.f0 = 6) (lx : x.f4.length = x.f5.length) (ly : y.f4.length = y.f5.length) (s : ByteArray) :
  (lookP s (x.f4.zip x.f5) = none ∧ lookP s (y.f4.zip y.f5) = none) ∨ ∃ u v,lookP s (x.f4.zip x.f5) = some u ∧ lookP s (y.f4.zip y.f5) = some v ∧ AL u v:=by
 have c0:=h.kind;obtain ⟨k,h⟩:=h
 cases k with
 | zero=>rw [tree_alike.f] at h;cases h
 | succ k =>
  rw [tree_alike.f,if_pos c0,if_neg (by omega),if_neg (by omega),if_pos c6] at h
  split at h
  ·split at h
   ·obtain ⟨b,hb,h⟩:=Option.bind_eq_some_iff.mp h;have h:=Option.some.inj h
    rw [Bool.and_eq_true,decide_eq_true_eq] at h
    obtain ⟨rfl,hz⟩:=h;have at_:=ansP_at _ hb
    rw [sizeP_cnt x.f4 x.f5 lx.symm,sizeP_cnt y.f4 y.f5 ly.symm] at hz
    have sub : ∀ z ∈ x.f4.map (fun s=>s.data.toList),z ∈ y.f4.map (fun s=>s.data.toList):=by
     intro z hz;obtain ⟨t,ht,rfl⟩:=List.mem_map.1 hz;obtain ⟨u,hu⟩:=Option.isSome_iff_exists.1 ((lookP_isSome t x.f4 x.f5 lx.symm).2 hz);obtain ⟨v,hv,_⟩:=at_ t ht u hu;exact (lookP_isSome t y.f4 y.f5 ly.symm).1 (by rw [hv];rfl)
    have sup:=(QNamesPointerLikes.cnt_eq sub).1 hz
    cases hu : lookP s (x.f4.zip x.f5) with
    | none =>
     left
     refine ⟨rfl,?_⟩
     cases hv : lookP s (y.f4.zip y.f5) with
     | none=>rfl
     | some v =>
      have:=sup _ ((lookP_isSome s y.f4 y.f5 ly.symm).1 (by rw [hv];rfl));have:=(lookP_isSome s x.f4 x.f5 lx.symm).2 this
      rw [hu] at this;cases this
    | some u =>
     right
     have hm:=(lookP_isSome s x.f4 x.f5 lx.symm).1 (by rw [hu];rfl);obtain ⟨t,ht,e⟩:=List.mem_map.1 hm
     have te : t = s:=by
      apply ByteArray.ext
      apply Array.ext'
      exact e
     subst te;obtain ⟨v,hv,ha⟩:=at_ t ht u hu;exact ⟨u,v,rfl,hv,k,ha⟩
   cases h
  cases h
theorem Alike_tot (x y : S25) (hx : Sm x) (hy : Sm y) : ∃ b,Ev (fun k=>tree_Alike.f k x.f0 x.f1 x.f2 x.f3 x.f4 x.f5 y.f0 y.f1 y.f2 y.f3 y.f4 y.f5) b ∧ (b = true ↔ Frm 1024 x ∧ Frm 1024 y ∧ AL x y):=by
 obtain ⟨p,p1,p2⟩:=Formed_tot x hx;obtain ⟨q,q1,q2⟩:=Formed_tot y hy
 cases p with
 | false=>exact ⟨false,Ev.bind p1 (Ev.congr (f:=fun _=>some false) (fun k=>if_neg (by decide)) (Ev.now _)),⟨fun e=>(by cases e),fun e=>absurd (p2.2 e.1) (by decide)⟩⟩
 | true =>
  cases q with
  | false=>exact ⟨false,Ev.bind p1 (Ev.congr (fun k=>if_pos rfl) (Ev.bind q1 (Ev.congr (f:=fun _=>some false) (fun k=>if_neg (by decide)) (Ev.now _)))),⟨fun e=>(by cases e),fun e=>absurd (q2.2 e.2.1) (by decide)⟩⟩
  | true =>
   have fx:=p2.1 rfl;have fy:=q2.1 rfl;obtain ⟨b,b1⟩:=alike_tot (SizeOf.sizeOf x) x y (Nat.le_refl _) hx hy (fx.wf hx) (fy.wf hy);refine ⟨b,Ev.bind p1 (Ev.congr (fun k=>if_pos rfl) (Ev.bind q1 (Ev.congr (fun k=>if_pos rfl) (Ev.bind b1 (Ev.now _))))),⟨fun e=>⟨fx,fy,?_⟩,fun e=>?_⟩⟩
   ·subst e;exact Ev.rounds b1
   obtain ⟨K1,h1⟩:=b1;obtain ⟨K2,h2⟩:=e.2.2.ev;have a:=h1 (max K1 K2) (by omega);have c:=h2 (max K1 K2) (by omega)
   simp only at a c
   rw [a] at c
   exact Option.some.inj c
end Go.Proofs.YtfaegleohhemkaaDoor.QTotPointerLikes
namespace Go.Proofs.YtfaegleohhemkaaDoor.QLikesPointerLikes
open Go.RowKit Go.Proofs.YtfaegleohhemkaaDoor.PPointerLikes Go.Proofs.YtfaegleohhemkaaDoorW.PrintWords Go.Proofs.YtfaegleohhemkaaDoorW.PrintLast Go.Proofs.YtfaegleohhemkaaDoor.QValPointerLikes Go.Proofs.YtfaegleohhemkaaDoor.QTreePointerLikes Go.Proofs.YtfaegleohhemkaaDoor.QSamePointerLikes Go.Proofs.YtfaegleohhemkaaDoor.QLikPointerLikes Go.Proofs.YtfaegleohhemkaaDoor.QAlkPointerLikes Go.Proofs.YtfaegleohhemkaaDoor.QMemPointerLikes Go.Proofs.YtfaegleohhemkaaDoor.QFindPPointerLikes Go.Proofs.YtfaegleohhemkaaDoor.QTotPointerLikes
set_option linter.unusedVariables false
set_option linter.unusedSimpArgs false
theorem rd_name (l : List ByteArray) (i : Nat) (h : i < l.length) : (rdOf ByteArray.empty l (i : Int)).toList = l[i].data.toList:=by
 have e : rdOf ByteArray.empty l (i : Int) = l[i]:=by unfold rdOf;simp [h]
 rw [e,ByteArray.toList_eq]
theorem idx_spec (l : List ByteArray) (a : ByteArray) : ∀ d i,i + d = l.length → (∃ j,∃ (hj : j < l.length),i ≤ j ∧ idxFrom l a d i = (j : Int) ∧ l[j].data.toList = a.data.toList ∧ ∀ m (hm : m < l.length),i ≤ m → m < j → l[m].data.toList ≠ a.data.toList) ∨ (idxFrom l a d i = -1 ∧ ∀ m (hm : m < l.length),i ≤ m → l[m].data.toList ≠ a.data.toList)
 | 0,i,h=>.inr ⟨rfl,fun m hm him=>by omega⟩
 | d + 1,i,h=>by
  have hi : i < l.length:=by omega
  have ea : a.toList = a.data.toList:=ByteArray.toList_eq a
  unfold idxFrom
  by_cases e : (rdOf ByteArray.empty l (i : Int)).toList = a.toList
  ·rw [if_pos e]
   rw [rd_name l i hi,ea] at e
   exact .inl ⟨i,hi,Nat.le_refl _,rfl,e,fun m hm h1 h2=>by omega⟩
  rw [if_neg e]
  rw [rd_name l i hi,ea] at e
  rcases idx_spec l a d (i + 1) (by omega) with ⟨j,hj,h1,h2,h3,h4⟩|⟨h1,h2⟩
  ·refine .inl ⟨j,hj,by omega,h2,h3,fun m hm hm1 hm2=>?_⟩
   rcases Nat.lt_or_eq_of_le hm1 with g|g
   ·exact h4 m hm g hm2
   subst g;exact e
  refine .inr ⟨h1,fun m hm hm1=>?_⟩
  rcases Nat.lt_or_eq_of_le hm1 with g|g
  ·exact h2 m hm g
  subst g;exact e
theorem member_look (x : S25) (a : ByteArray) (c6 : x.f0 = 6) (hl : x.f4.length = x.f5.length) : (∃ u,lookP a (x.f4.zip x.f5) = some u ∧ memberV x a = (u,true)) ∨ (lookP a (x.f4.zip x.f5) = none ∧ memberV x a = (z25,false)):=by
 unfold memberV idxOf
 rw [if_pos c6,if_pos (by omega)]
 rcases idx_spec x.f4 a x.f4.length 0 (by omega) with ⟨j,hj,h1,h2,h3,h4⟩|⟨h1,h2⟩
 ·left
  refine ⟨rd_T25 x.f5 (j : Int),(lookP_some a x.f4 x.f5 hl.symm _).2 ⟨j,hj,h3,fun m hm g=>h4 m hm (Nat.zero_le _) g,rfl⟩,?_⟩;rw [h2,if_neg (by omega)]
 right
 refine ⟨?_,by rw [h1,if_pos (by decide)]⟩
 cases e : lookP a (x.f4.zip x.f5) with
 | none=>rfl
 | some u =>
  obtain ⟨j,hj,g,_,_⟩:=(lookP_some a x.f4 x.f5 hl.symm u).1 e;exact absurd g (h2 j hj (Nat.zero_le _))
theorem step_like (x y : S25) (a : ByteArray) (h : AL x y) (wx : Wf x) (wy : Wf y) :
  ((stepV x a).2 = false ∧ (stepV y a).2 = false) ∨ ((stepV x a).2 = true ∧ (stepV y a).2 = true ∧ AL (stepV x a).1 (stepV y a).1 ∧ (stepV x a).1 ∈ x.f5 ∧ (stepV y a).1 ∈ y.f5):=by
 have c0:=h.kind
 unfold stepV
 by_cases c5 : x.f0 = 5
 ·obtain ⟨hl,hk⟩:=h.arr c5;have c5y : y.f0 = 5:=c0.symm.trans c5;rw [if_pos c5,if_pos c5y]
  by_cases p2 : (placeV a).2 = true
  ·rw [if_pos p2,if_pos p2]
   by_cases p1 : (placeV a).1 ≥ (x.f5.length : Int)
   ·rw [if_pos p1,if_pos (by omega)];exact .inl ⟨rfl,rfl⟩
   rw [if_neg p1,if_neg (by omega)];have h0:=(place_all a).2;have e : ((placeV a).1.toNat : Int) = (placeV a).1:=Int.toNat_of_nonneg h0;have g1:=hk (placeV a).1.toNat (by omega);have g2:=rd_mem x.f5 (placeV a).1.toNat (by omega);have g3:=rd_mem y.f5 (placeV a).1.toNat (by omega)
   rw [e] at g1 g2 g3
   exact .inr ⟨rfl,rfl,g1,g2,g3⟩
  rw [if_neg p2,if_neg p2];exact .inl ⟨rfl,rfl⟩
 have c5' : ¬ y.f0 = 5:=fun e=>c5 (c0.trans e)
 rw [if_neg c5,if_neg c5']
 by_cases c6 : x.f0 = 6
 ·have lx:=wx.own.k6 c6;have ly:=wy.own.k6 (c0.symm.trans c6)
  rcases member_look x a c6 lx with ⟨u,u1,u2⟩|⟨u1,u2⟩
  ·rcases member_look y a (c0.symm.trans c6) ly with ⟨v,v1,v2⟩|⟨v1,v2⟩
   ·rw [u2,v2]
    rcases h.obj c6 lx ly a with ⟨g,_⟩|⟨p,q,g1,g2,g3⟩
    ·rw [u1] at g;cases g
    rw [u1] at g1;rw [v1] at g2;cases g1;cases g2
    exact .inr ⟨rfl,rfl,g3,mem_look lx.symm u1,mem_look ly.symm v1⟩
   rcases h.obj c6 lx ly a with ⟨g,_⟩|⟨p,q,g1,g2,g3⟩
   ·rw [u1] at g;cases g
   rw [v1] at g2;cases g2
  rcases member_look y a (c0.symm.trans c6) ly with ⟨v,v1,v2⟩|⟨v1,v2⟩
  ·rcases h.obj c6 lx ly a with ⟨_,g⟩|⟨p,q,g1,g2,g3⟩
   ·rw [v1] at g;cases g
   rw [u1] at g1;cases g1
  rw [u2,v2];exact .inl ⟨rfl,rfl⟩
 unfold memberV
 rw [if_neg c6,if_neg (fun e=>c6 (c0.trans e))];exact .inl ⟨rfl,rfl⟩
theorem walk_like : ∀ (l : List ByteArray) (x y : S25),AL x y → Frm 1024 x → Frm 1024 y → Sm x → Sm y →
  (walkV x l = none ∧ walkV y l = none) ∨ ∃ u v,walkV x l = some u ∧ walkV y l = some v ∧ AL u v ∧ Frm 1024 u ∧ Frm 1024 v ∧ Sm u ∧ Sm v
 | [],x,y,h,fx,fy,sx,sy=>.inr ⟨x,y,rfl,rfl,h,fx,fy,sx,sy⟩
 | a :: l,x,y,h,fx,fy,sx,sy=>by
  rw [walkV,walkV]
  rcases step_like x y a h (fx.wf sx) (fy.wf sy) with ⟨h1,h2⟩|⟨h1,h2,h3,h4,h5⟩
  ·rw [h1,h2];exact .inl ⟨rfl,rfl⟩
  rw [if_pos h1,if_pos h2];exact walk_like l _ _ h3 (fx.kid h4) (fy.kid h5) (by have:=small_kid x _ h4;unfold Sm at sx ⊢;omega) (by have:=small_kid y _ h5;unfold Sm at sy ⊢;omega)
end Go.Proofs.YtfaegleohhemkaaDoor.QLikesPointerLikes
namespace Go.Proofs.YtfaegleohhemkaaDoor.Pure
open Go.RowKit Go.Proofs.YtfaegleohhemkaaDoor.PPointerLikes Go.Proofs.YtfaegleohhemkaaDoorW.PrintWords Go.Proofs.YtfaegleohhemkaaDoorW.PrintLast Go.Proofs.YtfaegleohhemkaaDoor.QValPointerLikes Go.Proofs.YtfaegleohhemkaaDoor.QTreePointerLikes Go.Proofs.YtfaegleohhemkaaDoor.QFindPPointerLikes Go.Proofs.YtfaegleohhemkaaDoor.QTotPointerLikes Go.Proofs.YtfaegleohhemkaaDoor.QLikesPointerLikes
set_option linter.unusedVariables false
set_option linter.unusedSimpArgs false
theorem awake_ev : Ev (fun k=>quarrylaw20_awake.f k) true:=Ev.of (fun k=>quarrylaw20_awake.mono k) (k:=40) (by decide +kernel)
theorem PointerLikes : quarrylaw20_PointerLikes.Pure:=by
 intro x y s hx hy hss hb
 have sx : Sm x:=by unfold Sm;omega
 have sy : Sm y:=by unfold Sm;omega
 have hsz : s.size ≤ 14073748:=by omega
 obtain ⟨p,hp⟩:=beyond_ev x hx;obtain ⟨q,hq⟩:=beyond_ev y hy;obtain ⟨t,t1,t2⟩:=Alike_tot x y sx sy;have jt : Ev (fun k=>quarrylaw20_PointerLikes.j0 k s true x.f0 x.f1 x.f2 x.f3 x.f4 x.f5 y.f0 y.f1 y.f2 y.f3 y.f4 y.f5) true:=Ev.step (f:=fun _=>some true) (fun k=>by rw [quarrylaw20_PointerLikes.j0,if_pos rfl]) (Ev.now _)
 have jf : t = true → Ev (fun k=>quarrylaw20_PointerLikes.j0 k s false x.f0 x.f1 x.f2 x.f3 x.f4 x.f5 y.f0 y.f1 y.f2 y.f3 y.f4 y.f5) true:=by
  intro ht;obtain ⟨fx,fy,al⟩:=t2.1 ht;obtain ⟨bx,x1,x2⟩:=Formed_tot x sx;obtain ⟨by_,y1,y2⟩:=Formed_tot y sy;have ex:=x2.2 fx;have ey:=y2.2 fy;subst ex ey;have g1:=find_p true x s hx hsz x1;have g2:=find_p true y s hy hsz y1;refine Ev.step (fun k=>by rw [quarrylaw20_PointerLikes.j0,if_neg (by decide)]) (Ev.bind g1 (Ev.bind g2 ?_))
  unfold findV
  rw [if_pos rfl,if_pos rfl]
  by_cases h1 : (parseV s).2 = 0
  ·rw [if_pos h1,if_pos h1]
   rcases walk_like (parseV s).1 x y al fx fy sx sy with ⟨w1,w2⟩|⟨u,v,w1,w2,w3,w4,w5,w6,w7⟩
   ·rw [w1,w2];exact Ev.congr (f:=fun _=>some true) (fun k=>rfl) (Ev.now _)
   rw [w1,w2];obtain ⟨b,b1,b2⟩:=Alike_tot u v w6 w7;have e:=b2.2 ⟨w4,w5,w3⟩;subst e;exact Ev.congr (fun k=>rfl) (Ev.bind (f:=fun _ t=>some t) b1 (Ev.now _))
  rw [if_neg h1,if_neg h1];exact Ev.congr (f:=fun _=>some true) (fun k=>by rw [if_pos rfl];rfl) (Ev.now _)
 have hl : Ev (fun k=>quarrylaw20_PointerLikes.f k x.f0 x.f1 x.f2 x.f3 x.f4 x.f5 y.f0 y.f1 y.f2 y.f3 y.f4 y.f5 s) true:=by
  refine Ev.bind awake_ev (Ev.congr (fun k=>if_pos rfl) (Ev.bind hp ?_))
  cases p with
  | true=>exact Ev.congr (fun k=>if_pos rfl) jt
  | false =>
   refine Ev.congr (fun k=>if_neg (by decide)) (Ev.bind hq ?_)
   cases q with
   | true=>exact Ev.congr (fun k=>if_pos rfl) jt
   | false =>
    refine Ev.congr (fun k=>if_neg (by decide)) (Ev.bind t1 ?_)
    cases ht : t with
    | true=>exact jf ht
    | false=>exact jt
 exact Ev.rounds hl
end Go.Proofs.YtfaegleohhemkaaDoor.Pure
