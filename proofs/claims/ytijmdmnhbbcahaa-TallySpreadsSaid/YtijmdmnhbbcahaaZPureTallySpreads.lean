/- The spread of a tally: the program's root is the document's, bit for bit. -/
import Derived.Test.YtijmdmnhbbcahaaZDefTallySpreads
namespace Go.Proofs.Ytijmdmnhbbcahaa.QFloTallySpreads
open Go.RowKit Go.Proofs.Ytijmdmnhbbcahaa.PTallySpreads Go.Proofs.YtijmdmnhbbcahaaW.PrintWords Go.Proofs.YtijmdmnhbbcahaaW.PrintLast
set_option linter.unusedVariables false
set_option linter.unusedSimpArgs false
open Ieee
theorem sw_eq : Format.signWeight double = 9223372036854775808:=by decide
theorem inf_eq : Format.infRung double = 9218868437227405312:=by decide
theorem bin_eq : Format.binade double = 4503599627370496:=by decide
theorem lp_eq : Format.leastPlace double = -1074:=by decide
def rung (x : Nat) : Nat:=x % 9223372036854775808
@[reducible] def fin (x : Nat) : Prop:=rung x < 9218868437227405312
@[reducible] def nn (x : Nat) : Prop:=rung x ≤ 9218868437227405312
def neg (x : Nat) : Bool:=x / 9223372036854775808 % 2 == 1
def mag (x : Nat) : Nat:=if rung x < 4503599627370496 then rung x else (4503599627370496 + rung x % 4503599627370496) * 2 ^ (rung x / 4503599627370496 - 1)
def val (x : Nat) : Int:=if neg x then -(mag x : Int) else (mag x : Int)
theorem read_fin {x : Nat} (h : fin x) : ∃ (m : Nat) (k : Nat),double.read x = .number (neg x) m ((k : Int) - 1074) ∧ mag x = m * 2 ^ k:=by
 unfold fin rung at h
 unfold Format.read mag rung neg
 simp only [sw_eq,inf_eq,bin_eq,lp_eq]
 by_cases h1 : x % 9223372036854775808 < 4503599627370496
 ·rw [if_pos h1,if_pos h1]
  exact ⟨x % 9223372036854775808,0,rfl,by simp⟩
 ·rw [if_neg h1,if_pos h,if_neg h1]
  exact ⟨_,_,by congr 1,rfl⟩
theorem read_inf {x : Nat} (h : rung x = 9218868437227405312) : double.read x = .infinity (neg x):=by
 unfold rung at h
 unfold Format.read neg
 simp only [sw_eq,inf_eq,bin_eq,lp_eq]
 rw [if_neg (by omega),if_neg (by omega),if_pos h]
theorem read_nan {x : Nat} (h : ¬ nn x) : ∃ s t,double.read x = .nan s t:=by
 unfold nn rung at h
 unfold Format.read
 simp only [sw_eq,inf_eq,bin_eq,lp_eq]
 rw [if_neg (by omega),if_neg (by omega),if_neg (by omega)]
 exact ⟨_,_,rfl⟩
theorem signed_mul (s : Bool) (m a : Nat) (k : Nat) : signed s m (a + k) = signed s m a * (2 ^ k : Nat):=by
 unfold signed
 have e : m <<< (a + k) = (m <<< a) * 2 ^ k:=by rw [Nat.shiftLeft_eq,Nat.shiftLeft_eq,Nat.pow_add,Nat.mul_assoc]
 rw [e]
 cases s <;> simp [Int.natCast_mul,Int.neg_mul]
theorem val_signed {x : Nat} {m k : Nat} (h : mag x = m * 2 ^ k) : val x = signed (neg x) m k:=by
 unfold val signed
 rw [h,Nat.shiftLeft_eq]
theorem cmp_mul (a b : Int) (c : Nat) (hc : 0 < c) : compare (a * c) (b * c) = compare a b:=by
 have hc' : (0 : Int) < c:=by omega
 rcases Int.lt_trichotomy a b with h|h|h
 ·rw [Int.compare_eq_lt.mpr h,Int.compare_eq_lt];exact Int.mul_lt_mul_of_pos_right h hc'
 ·subst h;rw [Int.compare_eq_eq.mpr rfl];exact (Int.compare_eq_eq.mpr rfl).symm
 ·rw [Int.compare_eq_gt.mpr h,Int.compare_eq_gt];exact Int.mul_lt_mul_of_pos_right h hc'
theorem order_fin {x y : Nat} (hx : fin x) (hy : fin y) : double.order x y = some (compare (val x) (val y)):=by
 obtain ⟨m,i,h1,h2⟩:=read_fin hx
 obtain ⟨n,j,h3,h4⟩:=read_fin hy
 unfold Format.order
 rw [h1,h3]
 unfold Datum.order
 simp only
 rw [val_signed h2,val_signed h4]
 congr 1
 have e1 : ((i : Int) - 1074 - min ((i : Int) - 1074) ((j : Int) - 1074)).toNat = i - min i j:=by omega
 have e2 : ((j : Int) - 1074 - min ((i : Int) - 1074) ((j : Int) - 1074)).toNat = j - min i j:=by omega
 rw [e1,e2]
 have a1:=signed_mul (neg x) m (i - min i j) (min i j)
 have a2:=signed_mul (neg y) n (j - min i j) (min i j)
 rw [Nat.sub_add_cancel (Nat.min_le_left i j)] at a1
 rw [Nat.sub_add_cancel (Nat.min_le_right i j)] at a2
 rw [a1,a2,cmp_mul _ _ _ (Nat.two_pow_pos _)]
theorem rung_word (s : Bool) {r : Nat} (h : r < 9223372036854775808) : rung (double.word s r) = r ∧ neg (double.word s r) = s:=by
 unfold Format.word rung neg
 rw [sw_eq]
 cases s
 ·rw [if_neg (by decide)]
  exact ⟨by omega,by rw [show r / 9223372036854775808 = 0 by omega];rfl⟩
 ·rw [if_pos rfl]
  exact ⟨by omega,by rw [show (9223372036854775808 + r) / 9223372036854775808 = 1 by omega];rfl⟩
theorem nearest_nn (s : Bool) (m : Nat) (p : Int) : nn (double.nearest s m p) ∧ neg (double.nearest s m p) = s:=by
 unfold Format.nearest nn
 dsimp only
 split
 ·have h:=rung_word s (r:=0) (by decide)
  exact ⟨by rw [h.1];decide,h.2⟩
 ·rw [inf_eq]
  generalize hr : min _ 9218868437227405312 = r
  have hle : r ≤ 9218868437227405312:=by rw [← hr];exact Nat.min_le_right _ _
  have h:=rung_word s (r:=r) (by omega)
  exact ⟨by rw [h.1];exact hle,h.2⟩
theorem write_inf (s : Bool) : rung (double.write (.infinity s)) = 9218868437227405312 ∧ neg (double.write (.infinity s)) = s:=by
 unfold Format.write
 simp only [inf_eq]
 exact rung_word s (by decide)
theorem nn_cases {x : Nat} (h : nn x) : fin x ∨ rung x = 9218868437227405312:=by
 unfold nn at h;unfold fin;omega
theorem fop_eq {op : BinOp} {x y r : Nat} (h : floatBits op .f64 x y = some r) : fok op x y = true ∧ fop op x y = r:=by
 unfold fok fop;rw [h];exact ⟨rfl,rfl⟩
def inf (x : Nat) : Prop:=rung x = 9218868437227405312
theorem sub_fin {x y : Nat} (hx : fin x) (hy : fin y) : fok .sub x y = true:=by
 obtain ⟨m,i,h1,_⟩:=read_fin hx
 obtain ⟨n,j,h2,_⟩:=read_fin hy
 exact (fop_eq (op:=.sub) (show double.sub x y = some _ by unfold Format.sub;rw [h1,h2];rfl)).1
theorem cut_zero (s : Bool) (n : Nat) : Toward.even.cut s n 0 = n:=by
 unfold Toward.cut
 simp [Nat.mod_one]
def lastp (m : Nat) (p : Int) : Int:=max (p + m.log2 - 52) (-1074)
def kept (s : Bool) (m : Nat) (p : Int) : Nat:=Toward.even.cut s (m <<< (p - lastp m p).toNat) (lastp m p - p).toNat
theorem nearest_eq (s : Bool) {m : Nat} (p : Int) (hm : m ≠ 0) : double.nearest s m p = double.word s (min ((lastp m p + 1074).toNat * 4503599627370496 + kept s m p) 9218868437227405312):=by
 unfold Format.nearest kept lastp
 rw [if_neg hm]
 have e1 : (double.fractionBits : Int) = 52:=rfl
 simp only [inf_eq,bin_eq,lp_eq,e1,Int.sub_neg]
theorem mag_word (s : Bool) (L K : Nat) (hK : K ≤ 9007199254740992) (hK2 : 4503599627370496 ≤ K ∨ L = 0) (hr : L * 4503599627370496 + K < 9218868437227405312) : mag (double.word s (L * 4503599627370496 + K)) = K * 2 ^ L:=by
 unfold mag
 rw [(rung_word s (r:=L * 4503599627370496 + K) (by omega)).1]
 by_cases h1 : L * 4503599627370496 + K < 4503599627370496
 ·rw [if_pos h1]
  have : L = 0:=by omega
  subst this
  simp
 ·rw [if_neg h1]
  by_cases h2 : K = 9007199254740992
  ·subst h2
   rw [show (L * 4503599627370496 + 9007199254740992) % 4503599627370496 = 0 by omega,show (L * 4503599627370496 + 9007199254740992) / 4503599627370496 - 1 = L + 1 by omega,Nat.pow_succ]
   omega
  ·rw [show (L * 4503599627370496 + K) % 4503599627370496 = K - 4503599627370496 by omega,show (L * 4503599627370496 + K) / 4503599627370496 - 1 = L by omega,show 4503599627370496 + (K - 4503599627370496) = K by omega]
theorem log2_lo {m : Nat} (h : m ≠ 0) : 2 ^ m.log2 ≤ m:=Nat.log2_self_le h
theorem log2_hi (m : Nat) : m < 2 ^ (m.log2 + 1):=Nat.lt_log2_self
theorem cut_bounds (s : Bool) (n d : Nat) (h : 0 < n) : n / 2 ^ d ≤ Toward.even.cut s n d ∧ Toward.even.cut s n d ≤ n / 2 ^ d + 1:=by
 unfold Toward.cut
 simp only [Nat.shiftLeft_eq,Nat.one_mul]
 by_cases hd : d ≤ n.log2 + 2
 ·rw [Nat.min_eq_left hd]
  refine ⟨Nat.le_add_right _ _,?_⟩
  have : ∀ b : Bool,b.toNat ≤ 1:=by decide
  exact Nat.add_le_add_left (this _) _
 ·rw [Nat.min_eq_right (by omega)]
  have h1:=log2_hi n
  have h2 : 2 ^ (n.log2 + 1) ≤ 2 ^ d:=Nat.pow_le_pow_right (by decide) (by omega)
  have h3 : 2 ^ (n.log2 + 2) = 2 * 2 ^ (n.log2 + 1):=by rw [Nat.pow_succ,Nat.mul_comm]
  rw [Nat.div_eq_of_lt (by omega),Nat.div_eq_of_lt (by omega),Nat.mod_eq_of_lt (by omega)]
  refine ⟨Nat.zero_le _,?_⟩
  have : ∀ b : Bool,0 + b.toNat ≤ 0 + 1:=by decide
  exact this _
end Go.Proofs.Ytijmdmnhbbcahaa.QFloTallySpreads
namespace Go.Proofs.Ytijmdmnhbbcahaa.QFloBTallySpreads
open Go.RowKit Go.Proofs.Ytijmdmnhbbcahaa.PTallySpreads Go.Proofs.YtijmdmnhbbcahaaW.PrintWords Go.Proofs.YtijmdmnhbbcahaaW.PrintLast Go.Proofs.Ytijmdmnhbbcahaa.QFloTallySpreads
set_option linter.unusedVariables false
set_option linter.unusedSimpArgs false
open Ieee
theorem ord {x y : Nat} (hx : fin x) (hy : fin y) : FloatKind.f64.format.order x y = some (compare (val x) (val y)):=order_fin hx hy
theorem fin_zero : fin 0:=by unfold fin rung;decide
theorem val_zero : val 0 = 0:=by unfold val;simp [mag,rung]
theorem mag_rung {x y : Nat} (h : rung x = rung y) : mag x = mag y:=by unfold mag;rw [h]
theorem mag_zero {x : Nat} : mag x = 0 ↔ rung x = 0:=by
 unfold mag
 by_cases h : rung x < 4503599627370496
 ·rw [if_pos h]
 ·rw [if_neg h]
  have h1:=Nat.two_pow_pos (rung x / 4503599627370496 - 1)
  have h2 : 0 < (4503599627370496 + rung x % 4503599627370496) * 2 ^ (rung x / 4503599627370496 - 1):=Nat.mul_pos (by omega) h1
  omega
theorem read_zero {z : Nat} (h : rung z = 0) : double.read z = .number (neg z) 0 (-1074):=by
 unfold rung at h
 unfold Format.read neg
 simp only [sw_eq,inf_eq,bin_eq,lp_eq]
 rw [if_pos (by omega),h]
theorem cut_exact (s : Bool) (K d : Nat) (hK : 0 < K) : Toward.even.cut s (K * 2 ^ d) d = K:=by
 unfold Toward.cut
 have hp:=Nat.two_pow_pos d
 have h0 : K * 2 ^ d ≠ 0:=by have:=Nat.mul_pos hK hp;omega
 have h1 : d ≤ (K * 2 ^ d).log2:=(Nat.le_log2 h0).2 (Nat.le_mul_of_pos_left _ hK)
 simp only [Nat.shiftLeft_eq,Nat.one_mul]
 rw [Nat.min_eq_left (by omega),Nat.mul_div_cancel _ hp,Nat.mul_mod_left]
 have h2 : (decide (2 ^ d < 2 * 0) || (2 ^ d == 2 * 0 && K % 2 == 1)) = false:=by
  have a : decide (2 ^ d < 2 * 0) = false:=decide_eq_false (by omega)
  have b : (2 ^ d == 2 * 0) = false:=beq_false_of_ne (by omega)
  rw [a,b];rfl
 rw [h2];rfl
theorem log2_of {m e : Nat} (h1 : 2 ^ e ≤ m) (h2 : m < 2 ^ (e + 1)) : m.log2 = e:=by
 have h0 : m ≠ 0:=by have:=Nat.two_pow_pos e;omega
 have a:=(Nat.le_log2 h0).2 h1
 have b:=(Nat.log2_lt h0).2 h2
 omega
theorem nearest_self (s : Bool) {x : Nat} (hx : fin x) : double.nearest s (mag x) (-1074) = double.word s (rung x):=by
 by_cases h0 : rung x = 0
 ·rw [mag_zero.2 h0,h0]
  unfold Format.nearest
  rw [if_pos rfl]
 ·have hm : mag x ≠ 0:=fun h=>h0 (mag_zero.1 h)
  rw [nearest_eq s (-1074) hm]
  unfold fin at hx
  by_cases h : rung x < 4503599627370496
  ·have e : mag x = rung x:=by unfold mag;rw [if_pos h]
   have hl : (rung x).log2 < 52:=(Nat.log2_lt h0).2 h
   have e2 : lastp (mag x) (-1074) = -1074:=by unfold lastp;rw [e];omega
   unfold kept
   rw [e2,e]
   simp only [Int.sub_self,Int.toNat_zero,Nat.shiftLeft_zero]
   rw [cut_zero]
   congr 1
   simp
   omega
  ·obtain ⟨E,hE⟩ : ∃ E,E = rung x / 4503599627370496 - 1:=⟨_,rfl⟩
   obtain ⟨K,hK⟩ : ∃ K,K = 4503599627370496 + rung x % 4503599627370496:=⟨_,rfl⟩
   have e : mag x = K * 2 ^ E:=by unfold mag;rw [if_neg h,hE,hK]
   have hl : (mag x).log2 = 52 + E:=by
    rw [e]
    have p0 : 4503599627370496 * 2 ^ E ≤ K * 2 ^ E:=Nat.mul_le_mul_right _ (by omega)
    have p1 : K * 2 ^ E < 9007199254740992 * 2 ^ E:=Nat.mul_lt_mul_of_pos_right (by omega) (Nat.two_pow_pos E)
    refine log2_of ?_ ?_
    ·rw [Nat.pow_add];exact p0
    ·rw [show 52 + E + 1 = 53 + E by omega,Nat.pow_add];exact p1
   have e2 : lastp (mag x) (-1074) = -1074 + E:=by unfold lastp;rw [hl];omega
   unfold kept
   rw [e2,e]
   rw [show (-1074 - (-1074 + (E : Int))).toNat = 0 by omega,show (-1074 + (E : Int) - -1074).toNat = E by omega,show (-1074 + (E : Int) + 1074).toNat = E by omega,Nat.shiftLeft_zero,cut_exact s K E (by omega)]
   congr 1
   omega
theorem quo_ok {d n : Nat} (hd : nn d) (hn : fin n) (h0 : rung n ≠ 0) : fok .quo d n = true ∧ (inf d → inf (fop .quo d n)) ∧ (rung d = 0 → rung (fop .quo d n) = 0):=by
 obtain ⟨m,k,h1,h2⟩:=read_fin hn
 have hm : m ≠ 0:=by rintro rfl;rw [Nat.zero_mul] at h2;exact h0 (mag_zero.1 h2)
 rcases nn_cases hd with hf|hi
 ·obtain ⟨p,i,h3,h4⟩:=read_fin hf
  have e:=fop_eq (op:=.quo) (x:=d) (y:=n) (r:=_) (show double.div d n = some _ by unfold Format.div;rw [h1,h3];unfold Datum.quotient;simp only;rw [if_neg hm];rfl)
  refine ⟨e.1,fun h=>?_,fun h=>?_⟩
  ·unfold fin at hf;unfold inf at h;omega
  ·rw [e.2]
   have hp : p = 0:=by
    have:=mag_zero.2 h
    rw [h4] at this
    rcases Nat.mul_eq_zero.1 this with h5|h5
    ·exact h5
    ·have:=Nat.two_pow_pos i;omega
   subst hp
   simp only [Nat.zero_shiftLeft,Nat.zero_div,Nat.zero_mod,Nat.mul_zero]
   show rung (double.nearest _ 0 _) = 0
   unfold Format.nearest
   rw [if_pos rfl]
   exact (rung_word _ (by decide)).1
 ·have e:=fop_eq (op:=.quo) (x:=d) (y:=n) (r:=double.write (.infinity (neg d ^^ neg n))) (show double.div d n = some _ by unfold Format.div;rw [h1,read_inf hi];rfl)
  refine ⟨e.1,fun _=>by rw [e.2];exact (write_inf _).1,fun h=>?_⟩
  unfold inf at *;omega
end Go.Proofs.Ytijmdmnhbbcahaa.QFloBTallySpreads
namespace Go.Proofs.Ytijmdmnhbbcahaa.QTalTallySpreads
open Go.RowKit Go.Proofs.Ytijmdmnhbbcahaa.PTallySpreads Go.Proofs.YtijmdmnhbbcahaaW.PrintWords Go.Proofs.YtijmdmnhbbcahaaW.PrintLast Go.Proofs.Ytijmdmnhbbcahaa.QFloTallySpreads Go.Proofs.Ytijmdmnhbbcahaa.QFloBTallySpreads
set_option linter.unusedVariables false
set_option linter.unusedSimpArgs false
open Ieee
theorem fin_nn {x : Nat} (h : fin x) : nn x:=by unfold fin at h;unfold nn;omega
theorem absB_eq {x : Nat} (h : x < 18446744073709551616) : absB x = rung x:=by
 unfold absB Go.bits
 have e1 : (BitVec.ofInt IntKind.u64.bits (x : Int)).toNat = x:=by
  rw [BitVec.toNat_ofInt]
  show ((x : Int) % ((18446744073709551616 : Nat) : Int)).toNat = x
  omega
 have e2 : (~~~(BitVec.ofInt IntKind.u64.bits 9223372036854775808)).toNat = 2 ^ 63 - 1:=by decide
 have e3 : ((BitVec.ofInt IntKind.u64.bits (x : Int)) &&& ~~~(BitVec.ofInt IntKind.u64.bits 9223372036854775808)).toNat = rung x:=by
  rw [BitVec.toNat_and,e1,e2,Nat.and_two_pow_sub_one_eq_mod];rfl
 show (IntKind.u64.wrap (((BitVec.ofInt IntKind.u64.bits (x : Int)) &&& ~~~(BitVec.ofInt IntKind.u64.bits 9223372036854775808)).toNat : Int)).toNat = _
 rw [e3]
 have h2 : rung x < 9223372036854775808:=Nat.mod_lt _ (by decide)
 have e4 : IntKind.u64.wrap (rung x : Int) = (rung x : Int):=by
  show (rung x : Int) % 18446744073709551616 = _
  omega
 rw [e4]
 omega
theorem rung_rung (x : Nat) : rung (rung x) = rung x:=by unfold rung;omega
theorem neg_rung (x : Nat) : neg (rung x) = false:=by
 unfold neg rung
 rw [show x % 9223372036854775808 / 9223372036854775808 = 0 by omega]
 rfl
theorem val_rung (x : Nat) : val (rung x) = mag x:=by
 unfold val
 rw [neg_rung,mag_rung (rung_rung x)]
 rfl
theorem fin_rung {x : Nat} (h : fin x) : fin (rung x):=by unfold fin at *;rw [rung_rung];exact h
theorem isnan_eq (x : Nat) : math_IsNaN.f x = some (!decide (nn x)):=by
 unfold math_IsNaN.f
 congr 1
 by_cases h : nn x
 ·rw [decide_eq_true h]
  rcases nn_cases h with g|g
  ·rw [ord g g,Int.compare_eq_eq.mpr rfl];rfl
  ·show (double.order x x != some .eq) = false
   unfold Format.order
   rw [read_inf g]
   unfold Datum.order
   cases neg x <;> rfl
 ·rw [decide_eq_false h]
  obtain ⟨s,t,e⟩:=read_nan h
  show (double.order x x != some .eq) = true
  unfold Format.order
  rw [e]
  rfl
set_option exponentiation.threshold 4000 in
theorem mag_top {x : Nat} (h : fin x) : mag x ≤ 9007199254740991 * 2 ^ 2045:=by
 unfold fin at h
 unfold mag
 split
 ·have:=Nat.two_pow_pos 2045
  omega
 ·exact Nat.mul_le_mul (by omega) (Nat.pow_le_pow_right (by decide) (by omega))
theorem val_top : val 9218868437227405311 = ((9007199254740991 * 2 ^ 2045 : Nat) : Int):=by decide +kernel
theorem fin_top : fin 9218868437227405311:=by unfold fin rung;decide
theorem isinf_eq {x : Nat} (h : x < 18446744073709551616) (hn : nn x) : math_IsInf.f x 0 = some (!decide (fin x)):=by
 unfold math_IsInf.f math_Abs.f
 rw [if_pos rfl,absB_eq h]
 show some _ = _
 congr 1
 by_cases g : fin x
 ·rw [decide_eq_true g,ord (fin_rung g) fin_top,val_rung,val_top]
  have:=mag_top g
  have e : compare (mag x : Int) ((9007199254740991 * 2 ^ 2045 : Nat) : Int) ≠ .gt:=by
   rw [ne_eq,Int.compare_eq_gt]
   omega
  cases e2 : compare (mag x : Int) ((9007199254740991 * 2 ^ 2045 : Nat) : Int) with
  | gt=>exact absurd e2 e
  | lt=>rfl
  | eq=>rfl
 ·rw [decide_eq_false g]
  have e : rung x = 9218868437227405312:=by unfold nn at hn;unfold fin at g;omega
  rw [e]
  decide +kernel
theorem sub_self {x : Nat} (h : fin x) : rung (fop .sub x x) = 0:=by
 obtain ⟨m,k,h1,h2⟩:=read_fin h
 have hs : (Datum.number (neg x) m ((k : Int) - 1074)).sum (.number (!neg x) m ((k : Int) - 1074)) = some (.number (neg x && !neg x) 0 ((k : Int) - 1074)):=by
  unfold Datum.sum
  simp only [Int.min_self,Int.sub_self,Int.toNat_zero]
  have e2 : signed (neg x) m 0 + signed (!neg x) m 0 = 0:=by unfold signed;cases neg x <;> simp <;> omega
  rw [e2]
  rfl
 have e:=fop_eq (op:=.sub) (x:=x) (y:=x) (r:=_) (show double.sub x x = some _ by unfold Format.sub;rw [h1];show Option.map _ ((Datum.number (neg x) m ((k : Int) - 1074)).sum (.number (!neg x) m ((k : Int) - 1074))) = _;rw [hs];rfl)
 rw [e.2]
 show rung (double.nearest _ 0 _) = 0
 unfold Format.nearest
 rw [if_pos rfl]
 exact (rung_word _ (by decide)).1
theorem val_of_zero {x : Nat} (h : rung x = 0) : val x = 0:=by
 unfold val
 rw [mag_zero.2 h]
 split <;> simp
theorem fin_of_zero {x : Nat} (h : rung x = 0) : fin x:=by unfold fin;omega
theorem sub_inf_self {x : Nat} (h : inf x) : fok .sub x x = false:=by
 have e : floatBits .sub .f64 x x = none:=by
  show double.sub x x = none
  unfold Format.sub
  rw [read_inf h]
  show Option.map _ ((Datum.infinity (neg x)).sum (.infinity (!neg x))) = none
  unfold Datum.sum
  cases neg x <;> rfl
 unfold fok
 rw [e];rfl
theorem sub_nan_self {x : Nat} (h : ¬ nn x) : fok .sub x x = false:=by
 obtain ⟨s,t,e0⟩:=read_nan h
 have e : floatBits .sub .f64 x x = none:=by
  show double.sub x x = none
  unfold Format.sub
  rw [e0]
  rfl
 unfold fok
 rw [e];rfl
theorem finite_eq (x : Nat) : quarryref13_Finite.f x = some (decide (fin x)):=by
 unfold quarryref13_Finite.f
 congr 1
 by_cases g : fin x
 ·have h0:=sub_self g
  rw [decide_eq_true g,sub_fin g g,ord (fin_of_zero h0) fin_zero,val_of_zero h0,val_zero]
  rfl
 ·rw [decide_eq_false g]
  by_cases h : nn x
  ·rw [sub_inf_self (by unfold nn at h;unfold fin at g;unfold inf;omega)];rfl
  ·rw [sub_nan_self h];rfl
theorem w64 (n : Int) (h : -9223372036854775808 ≤ n) (h2 : n ≤ 9223372036854775807) : wrap64 n = n:=by unfold wrap64;omega
theorem rd_at {l : List Nat} {i : Nat} (h : i < l.length) : rdOf (0 : Nat) l (i : Int) = l[i]:=by unfold rdOf;simp [h]
theorem all_cons (x : Nat) (l : List Nat) : decide (∀ y ∈ x :: l,fin y) = (decide (fin x) && decide (∀ y ∈ l,fin y)):=by
 by_cases h : fin x <;> simp [h]
theorem tf_loop (l : List Nat) (hm : l.length < 9223372036854775807) (hw : ∀ x ∈ l,x < 18446744073709551616) : ∀ (n k i : Nat),i + n = l.length → n < k →
  tally_finite.l0 k l (l.length : Int) (i : Int) = some (decide (∀ x ∈ l.drop i,fin x))
 | 0,k + 1,i,h,_=>by
  rw [tally_finite.l0,if_neg (by omega),List.drop_eq_nil_of_le (by omega)]
  simp
 | n + 1,k + 1,i,h,hk=>by
  have hi : i < l.length:=by omega
  rw [tally_finite.l0,if_pos (by omega),if_pos (by omega),if_pos (by omega),rd_at hi,isnan_eq,List.drop_eq_getElem_cons hi,all_cons]
  by_cases g : nn l[i]
  ·rw [decide_eq_true g]
   rw [Bool.not_true,Option.bind_some,if_neg (by decide),isinf_eq (hw _ (List.getElem_mem hi)) g]
   by_cases g2 : fin l[i]
   ·rw [decide_eq_true g2]
    show tally_finite.l0 k l (l.length : Int) (wrap64 ((i : Int) + 1)) = _
    rw [w64 _ (by omega) (by omega)]
    exact tf_loop l hm hw n k (i + 1) (by omega) (by omega)
   ·rw [decide_eq_false g2]
    rfl
  ·rw [decide_eq_false g]
   show some false = _
   have g2 : ¬ fin l[i]:=fun h=>g (fin_nn h)
   rw [decide_eq_false g2]
   rfl
theorem tf_eq (l : List Nat) (k : Nat) (hk : l.length < k) (hm : l.length < 9223372036854775807) (hw : ∀ x ∈ l,x < 18446744073709551616) : tally_finite.f k l = some (decide (∀ x ∈ l,fin x)) :=
 tf_loop l hm hw l.length k 0 (by omega) hk
theorem ra_loop (l : List Nat) (hm : l.length < 9223372036854775807) : ∀ (n k i : Nat),i + n = l.length → n < k →
  quarryref31_All.l0 k l (i : Int) = some (decide (∀ x ∈ l.drop i,fin x))
 | 0,k + 1,i,h,_=>by
  rw [quarryref31_All.l0,if_neg (by omega),List.drop_eq_nil_of_le (by omega)]
  simp
 | n + 1,k + 1,i,h,hk=>by
  have hi : i < l.length:=by omega
  rw [quarryref31_All.l0,if_pos (by omega),if_pos (by omega),rd_at hi,finite_eq,List.drop_eq_getElem_cons hi,all_cons]
  by_cases g2 : fin l[i]
  ·rw [decide_eq_true g2]
   show quarryref31_All.l0 k l (wrap64 ((i : Int) + 1)) = _
   rw [w64 _ (by omega) (by omega)]
   exact ra_loop l hm n k (i + 1) (by omega) (by omega)
  ·rw [decide_eq_false g2]
   rfl
theorem ra_eq (l : List Nat) (k : Nat) (hk : l.length < k) (hm : l.length < 9223372036854775807) : quarryref31_All.f k l = some (decide (∀ x ∈ l,fin x)) :=
 ra_loop l hm l.length k 0 (by omega) hk
end Go.Proofs.Ytijmdmnhbbcahaa.QTalTallySpreads
namespace Go.Proofs.Ytijmdmnhbbcahaa.QFloCTallySpreads
open Go.RowKit Go.Proofs.Ytijmdmnhbbcahaa.PTallySpreads Go.Proofs.YtijmdmnhbbcahaaW.PrintWords Go.Proofs.YtijmdmnhbbcahaaW.PrintLast Go.Proofs.Ytijmdmnhbbcahaa.QFloTallySpreads Go.Proofs.Ytijmdmnhbbcahaa.QFloBTallySpreads Go.Proofs.Ytijmdmnhbbcahaa.QTalTallySpreads
set_option linter.unusedVariables false
set_option linter.unusedSimpArgs false
open Ieee
theorem read_normal {x : Nat} (h : fin x) (h2 : 4503599627370496 ≤ rung x) : ∃ m k : Nat,double.read x = .number (neg x) m ((k : Int) - 1074) ∧ 4503599627370496 ≤ m ∧ m < 9007199254740992 ∧ k = rung x / 4503599627370496 - 1:=by
 unfold fin rung at h
 unfold rung at h2
 unfold Format.read neg
 simp only [sw_eq,inf_eq,bin_eq,lp_eq]
 rw [if_neg (by omega),if_pos h]
 refine ⟨4503599627370496 + x % 9223372036854775808 % 4503599627370496,x % 9223372036854775808 / 4503599627370496 - 1,?_,by omega,by omega,rfl⟩
 congr 1
theorem whole2 {N : Int} (h1 : 1 ≤ N) (h2 : N ≤ 4611686018427387905) : fin (floatOfInt .f64 N) ∧ 4593671619917905920 ≤ rung (floatOfInt .f64 N) ∧ rung (floatOfInt .f64 N) ≤ 4904418994206670848 ∧ neg (floatOfInt .f64 N) = false:=by
 have hng : neg (floatOfInt .f64 N) = false:=by
  have h:=(nearest_nn (N < 0) N.natAbs 0).2
  show neg (double.nearest (N < 0) N.natAbs 0) = false
  rw [h]
  exact decide_eq_false (by omega)
 show fin (double.nearest (N < 0) N.natAbs 0) ∧ 4593671619917905920 ≤ rung (double.nearest (N < 0) N.natAbs 0) ∧ rung (double.nearest (N < 0) N.natAbs 0) ≤ 4904418994206670848 ∧ _
 refine ⟨?_,?_,?_,hng⟩ <;> clear hng
 all_goals
  obtain ⟨m,hm⟩ : ∃ m,m = N.natAbs:=⟨_,rfl⟩
  rw [← hm]
  have hm0 : m ≠ 0:=by omega
  have hm1 : m ≤ 4611686018427387905:=by omega
  rw [nearest_eq _ 0 hm0]
  have hl : m.log2 < 63:=(Nat.log2_lt hm0).2 (by omega)
  have e1 : lastp m 0 = (m.log2 : Int) - 52:=by unfold lastp;omega
  have hk : kept (N < 0) m 0 ≤ 9007199254740992:=by
   unfold kept
   rw [e1]
   by_cases hd : m.log2 ≤ 52
   ·rw [show ((m.log2 : Int) - 52 - 0).toNat = 0 by omega,cut_zero,Nat.shiftLeft_eq]
    have h3:=log2_hi m
    have h4 : m * 2 ^ (0 - ((m.log2 : Int) - 52)).toNat < 2 ^ (m.log2 + 1) * 2 ^ (0 - ((m.log2 : Int) - 52)).toNat:=Nat.mul_lt_mul_of_pos_right h3 (Nat.two_pow_pos _)
    rw [← Nat.pow_add,show m.log2 + 1 + (0 - ((m.log2 : Int) - 52)).toNat = 53 by omega] at h4
    omega
   ·rw [show (0 - ((m.log2 : Int) - 52)).toNat = 0 by omega,Nat.shiftLeft_zero,show ((m.log2 : Int) - 52 - 0).toNat = m.log2 - 52 by omega]
    have h3:=(cut_bounds (N < 0) m (m.log2 - 52) (by omega)).2
    have h4 : m / 2 ^ (m.log2 - 52) < 2 ^ 53:=by
     rw [Nat.div_lt_iff_lt_mul (Nat.two_pow_pos _),← Nat.pow_add,show 53 + (m.log2 - 52) = m.log2 + 1 by omega]
     exact log2_hi m
    omega
  rw [e1]
  obtain ⟨L,hL⟩ : ∃ L,L = ((m.log2 : Int) - 52 + 1074).toNat:=⟨_,rfl⟩
  rw [← hL]
  have hL1 : L ≤ 1084:=by omega
  have hL2 : 1022 ≤ L:=by omega
  generalize kept (N < 0) m 0 = K at *
  rw [Nat.min_eq_left (by omega)]
  have h5:=(rung_word (N < 0) (r:=L * 4503599627370496 + K) (by omega)).1
  first
  | (unfold fin;rw [h5];omega)
  | (rw [h5];omega)
end Go.Proofs.Ytijmdmnhbbcahaa.QFloCTallySpreads
namespace Go.Proofs.Ytijmdmnhbbcahaa.QFormTallySpreads
open Go.RowKit Go.Proofs.Ytijmdmnhbbcahaa.PTallySpreads Go.Proofs.YtijmdmnhbbcahaaW.PrintWords Go.Proofs.YtijmdmnhbbcahaaW.PrintLast Go.Proofs.Ytijmdmnhbbcahaa.QFloTallySpreads Go.Proofs.Ytijmdmnhbbcahaa.QFloBTallySpreads Go.Proofs.Ytijmdmnhbbcahaa.QTalTallySpreads
set_option linter.unusedVariables false
set_option linter.unusedSimpArgs false
theorem sound_eq {k : Nat} {c : Int} {x1 x2 x3 x4 x5 x6 : Nat} (hk : 6 < k) (hc : c ≤ 4611686018427387904) (h1 : x1 < 18446744073709551616) (h2 : x2 < 18446744073709551616) (h3 : x3 < 18446744073709551616) (h4 : x4 < 18446744073709551616) (h5 : x5 < 18446744073709551616) (h6 : x6 < 18446744073709551616) :
  tally_sound.f k c x1 x2 x3 x4 x5 x6 = some (decide (∀ x ∈ [x1,x2,x3,x4,x5,x6],fin x)):=by
 unfold tally_sound.f
 rw [if_pos hc,tf_eq _ k (by simpa using hk) (by simp) (by intro x hx;simp only [List.mem_cons,List.not_mem_nil,or_false] at hx;rcases hx with rfl|rfl|rfl|rfl|rfl|rfl <;> assumption)]
 rfl
theorem formed_eq {k : Nat} {c : Int} {x1 x2 x3 x4 x5 x6 : Nat} (hk : 7 < k) (h1 : x1 < 18446744073709551616) (h2 : x2 < 18446744073709551616) (h3 : x3 < 18446744073709551616) (h4 : x4 < 18446744073709551616) (h5 : x5 < 18446744073709551616) (h6 : x6 < 18446744073709551616) :
  ∃ b,tally_formed.f k c x1 x2 x3 x4 x5 x6 = some b ∧ quarryref31_Formed.f k c x1 x2 x3 x4 x5 x6 = some b ∧ (b = true → c ≠ 0 → 1 ≤ c ∧ c ≤ 4611686018427387904 ∧ ∀ x ∈ [x1,x2,x3,x4,x5,x6],fin x):=by
 obtain ⟨k,rfl⟩ : ∃ j,k = j + 1:=⟨k - 1,by omega⟩
 obtain ⟨E,hE⟩ : ∃ E,E = (Op.floatEq .f64 x1 0 && (Op.floatEq .f64 x2 0 && (Op.floatEq .f64 x3 0 && (Op.floatEq .f64 x4 0 && (Op.floatEq .f64 x5 0 && (Op.floatEq .f64 x6 0)))))):=⟨_,rfl⟩
 have TT : true = true:=rfl
 have FF : ¬ (false = true):=by decide
 unfold tally_formed.f quarryref31_Formed.f
 rw [quarryref31_Formed.j0,quarryref31_Formed.j0,← hE]
 by_cases ha : c < 1
 ·rw [if_pos ha,if_pos TT]
  refine ⟨c == 0 && E,?_,rfl,?_⟩
  ·by_cases hb : (c == 0 && E) = true
   ·rw [if_pos hb,hb]
   ·rw [if_neg hb,if_neg (show ¬ c ≥ 1 by omega)]
    congr 1
    exact ((Bool.not_eq_true _).mp hb).symm
  ·intro hb h0
   rw [Bool.and_eq_true] at hb
   exact absurd (beq_iff_eq.mp hb.1) h0
 ·have hne : (c == 0) = false:=beq_false_of_ne (by omega)
  rw [if_neg ha,hne,Bool.false_and,if_neg FF,if_pos (show c ≥ 1 by omega)]
  by_cases hb : c > 4611686018427387904
  ·rw [decide_eq_true hb,if_pos TT]
   refine ⟨false,?_,rfl,fun h=>by cases h⟩
   unfold tally_sound.f
   rw [if_neg (show ¬ c ≤ 4611686018427387904 by omega)]
   rfl
  ·rw [decide_eq_false hb,if_neg FF,sound_eq (by omega) (by omega) h1 h2 h3 h4 h5 h6]
   unfold quarryref31_floats.f
   rw [Option.bind_some,Option.bind_some,ra_eq _ k (by simp;omega) (by simp),Option.bind_some]
   by_cases g : ∀ x ∈ [x1,x2,x3,x4,x5,x6],fin x
   ·rw [decide_eq_true g,if_pos TT]
    split
    ·exact ⟨_,rfl,rfl,fun _ _=>⟨by omega,by omega,g⟩⟩
    ·exact ⟨_,rfl,rfl,fun h=>by cases h⟩
   ·rw [decide_eq_false g,if_neg FF]
    exact ⟨_,rfl,rfl,fun h=>by cases h⟩
theorem below_some {x : Nat} (h : fin x) : ∃ b,quarryref13_Below.f x = some b:=by
 unfold quarryref13_Below.f
 rw [ord h fin_zero,val_zero]
 cases e : compare (val x) 0 with
 | lt=>exact ⟨_,if_pos (by rfl)⟩
 | gt=>exact ⟨_,(if_neg (by decide)).trans (if_neg (by decide))⟩
 | eq =>
  have hv : val x = 0:=Int.compare_eq_eq.mp e
  have hm : mag x = 0:=by unfold val at hv;split at hv <;> omega
  have hr:=mag_zero.1 hm
  rw [if_neg (by decide),if_pos (by decide)]
  have o : fok .quo 4607182418800017408 x = true:=by
   refine (fop_eq (op:=.quo) (r:=_) (show Ieee.double.div 4607182418800017408 x = some _ by
    unfold Ieee.Format.div
    rw [read_zero hr,show Ieee.double.read 4607182418800017408 = .number false 4503599627370496 (-52) by decide +kernel]
    unfold Ieee.Datum.quotient
    simp only
    rw [if_pos trivial,if_neg (by decide)]
    rfl)).1
  rw [if_pos o]
  exact ⟨_,rfl⟩
theorem same_self {x : Nat} (h : fin x) : quarryref13_Same.f x x = some true:=by
 unfold quarryref13_Same.f
 obtain ⟨b,e⟩:=below_some h
 rw [ord h h,Int.compare_eq_eq.mpr rfl,if_pos (by rfl),e,Option.bind_some,Option.bind_some,if_pos (by simp)]
theorem fin_of_eq {x : Nat} (h : Op.floatEq .f64 x 0 = true) : fin x:=by
 have h2 : (FloatKind.f64.format.order x 0 == some .eq) = true:=h
 by_cases hn : nn x
 ·rcases nn_cases hn with g|g
  ·exact g
  ·exfalso
   have e : FloatKind.f64.format.order x 0 = Ieee.double.order x 0:=rfl
   rw [e] at h2
   unfold Ieee.Format.order at h2
   rw [read_inf g,read_zero (z:=0) rfl] at h2
   unfold Ieee.Datum.order at h2
   cases hg : neg x <;> rw [hg] at h2 <;> cases h2
 ·exfalso
  obtain ⟨s,t,e⟩:=read_nan hn
  have e1 : FloatKind.f64.format.order x 0 = Ieee.double.order x 0:=rfl
  rw [e1] at h2
  unfold Ieee.Format.order at h2
  rw [e] at h2
  cases h2
theorem formed_fin {k : Nat} {c : Int} {x1 x2 x3 x4 x5 x6 : Nat} (hk : 7 < k) (h1 : x1 < 18446744073709551616) (h2 : x2 < 18446744073709551616) (h3 : x3 < 18446744073709551616) (h4 : x4 < 18446744073709551616) (h5 : x5 < 18446744073709551616) (h6 : x6 < 18446744073709551616)
  (h : tally_formed.f k c x1 x2 x3 x4 x5 x6 = some true) : (∀ x ∈ [x1,x2,x3,x4,x5,x6],fin x) ∧ (c ≠ 0 → 1 ≤ c ∧ c ≤ 4611686018427387904 ∧ 0 ≤ val x6):=by
 unfold tally_formed.f at h
 by_cases hb : (c == 0 && (Op.floatEq .f64 x1 0 && (Op.floatEq .f64 x2 0 && (Op.floatEq .f64 x3 0 && (Op.floatEq .f64 x4 0 && (Op.floatEq .f64 x5 0 && (Op.floatEq .f64 x6 0))))))) = true
 ·simp only [Bool.and_eq_true] at hb
  obtain ⟨h0,a1,a2,a3,a4,a5,a6⟩:=hb
  refine ⟨?_,fun g=>absurd (beq_iff_eq.mp h0) g⟩
  intro x hx
  simp only [List.mem_cons,List.not_mem_nil,or_false] at hx
  rcases hx with rfl|rfl|rfl|rfl|rfl|rfl <;> exact fin_of_eq (by assumption)
 ·rw [if_neg hb] at h
  by_cases hc : c ≥ 1
  ·rw [if_pos hc] at h
   by_cases hN : c ≤ 4611686018427387904
   ·rw [sound_eq (by omega) hN h1 h2 h3 h4 h5 h6,Option.bind_some] at h
    by_cases g : ∀ x ∈ [x1,x2,x3,x4,x5,x6],fin x
    ·refine ⟨g,fun _=>⟨hc,hN,?_⟩⟩
     rw [decide_eq_true g,if_pos rfl] at h
     split at h
     ·rw [ord (g x6 (by simp)) fin_zero,val_zero] at h
      have h:=Option.some.inj h
      cases e : compare (val x6) 0 with
      | lt=>rw [e] at h;cases h
      | eq=>have:=Int.compare_eq_eq.mp e;omega
      | gt=>have:=Int.compare_eq_gt.mp e;omega
     ·cases h
    ·rw [decide_eq_false g,if_neg (by decide)] at h;cases h
   ·unfold tally_sound.f at h
    rw [if_neg hN] at h
    cases h
  ·rw [if_neg hc] at h;cases h
end Go.Proofs.Ytijmdmnhbbcahaa.QFormTallySpreads
namespace Go.Proofs.Ytijmdmnhbbcahaa.QNearTallySpreads
open Go.RowKit Go.Proofs.Ytijmdmnhbbcahaa.PTallySpreads Go.Proofs.YtijmdmnhbbcahaaW.PrintWords Go.Proofs.YtijmdmnhbbcahaaW.PrintLast Go.Proofs.Ytijmdmnhbbcahaa.QFloTallySpreads Go.Proofs.Ytijmdmnhbbcahaa.QFloBTallySpreads Go.Proofs.Ytijmdmnhbbcahaa.QTalTallySpreads Go.Proofs.Ytijmdmnhbbcahaa.QFloCTallySpreads
set_option linter.unusedVariables false
set_option linter.unusedSimpArgs false
open Ieee
theorem log2_mul_pow {m : Nat} (k : Nat) (hm : m ≠ 0) : (m * 2 ^ k).log2 = m.log2 + k:=by
 refine log2_of ?_ ?_
 ·rw [Nat.pow_add];exact Nat.mul_le_mul_right _ (log2_lo hm)
 ·rw [show m.log2 + k + 1 = m.log2 + 1 + k by omega,Nat.pow_add];exact Nat.mul_lt_mul_of_pos_right (log2_hi m) (Nat.two_pow_pos _)
theorem cut_scale (s : Bool) {n : Nat} (d k : Nat) (hn : n ≠ 0) : Toward.even.cut s (n * 2 ^ k) (d + k) = Toward.even.cut s n d:=by
 unfold Toward.cut
 simp only [Nat.shiftLeft_eq,Nat.one_mul]
 rw [log2_mul_pow k hn,show min (d + k) (n.log2 + k + 2) = min d (n.log2 + 2) + k by omega]
 obtain ⟨e,he⟩ : ∃ e,e = min d (n.log2 + 2):=⟨_,rfl⟩
 rw [← he,Nat.pow_add]
 obtain ⟨G,hG⟩ : ∃ G,G = 2 ^ e:=⟨_,rfl⟩
 obtain ⟨T,hT⟩ : ∃ T,T = 2 ^ k:=⟨_,rfl⟩
 have hk : 0 < T:=by rw [hT];exact Nat.two_pow_pos k
 rw [← hG,← hT]
 have h1 : n * T / (G * T) = n / G:=Nat.mul_div_mul_right _ _ hk
 have h2 : n * T % (G * T) = n % G * T:=Nat.mul_mod_mul_right _ _ _
 rw [h1,h2]
 congr 2
 have a : decide (G * T < 2 * (n % G * T)) = decide (G < 2 * (n % G)):=by
  rw [← Nat.mul_assoc]
  exact decide_eq_decide.mpr (Nat.mul_lt_mul_right hk)
 have b : (G * T == 2 * (n % G * T)) = (G == 2 * (n % G)):=by
  rw [← Nat.mul_assoc,Bool.eq_iff_iff,beq_iff_eq,beq_iff_eq]
  exact Nat.mul_left_inj (by omega)
 rw [a,b]
theorem nearest_scale (s : Bool) {m : Nat} (k : Nat) (p : Int) (hm : m ≠ 0) : double.nearest s (m * 2 ^ k) p = double.nearest s m (p + k):=by
 have hk:=Nat.two_pow_pos k
 have hm2 : m * 2 ^ k ≠ 0:=by have:=Nat.mul_pos (Nat.pos_of_ne_zero hm) hk;omega
 rw [nearest_eq s p hm2,nearest_eq s (p + k) hm]
 have el : lastp (m * 2 ^ k) p = lastp m (p + k):=by unfold lastp;rw [log2_mul_pow k hm];omega
 have ek : kept s (m * 2 ^ k) p = kept s m (p + k):=by
  unfold kept
  rw [el]
  obtain ⟨l,hl⟩ : ∃ l,l = lastp m (p + k):=⟨_,rfl⟩
  rw [← hl,Nat.shiftLeft_eq,Nat.shiftLeft_eq]
  by_cases h1 : l ≤ p
  ·rw [show (l - p).toNat = 0 by omega,show (l - (p + k)).toNat = 0 by omega,cut_zero,cut_zero,Nat.mul_assoc,← Nat.pow_add,show k + (p - l).toNat = (p + k - l).toNat by omega]
  ·by_cases h2 : p + k ≤ l
   ·rw [show (p - l).toNat = 0 by omega,show (p + k - l).toNat = 0 by omega,Nat.pow_zero,Nat.mul_one,Nat.mul_one,show (l - p).toNat = (l - (p + k)).toNat + k by omega,cut_scale s _ k hm]
   ·rw [show (p - l).toNat = 0 by omega,Nat.pow_zero,Nat.mul_one,show (l - (p + k)).toNat = 0 by omega,cut_zero]
    obtain ⟨r,hr⟩ : ∃ r,r = (p + k - l).toNat:=⟨_,rfl⟩
    rw [← hr,show k = r + (l - p).toNat by omega,Nat.pow_add,← Nat.mul_assoc,cut_exact s (m * 2 ^ r) _ (Nat.mul_pos (Nat.pos_of_ne_zero hm) (Nat.two_pow_pos r))]
 rw [el,ek]
theorem nearest_congr (s : Bool) {m n : Nat} {p q : Int} (c : Int) (hm : m ≠ 0) (hn : n ≠ 0) (hp : c ≤ p) (hq : c ≤ q) (h : m * 2 ^ (p - c).toNat = n * 2 ^ (q - c).toNat) : double.nearest s m p = double.nearest s n q:=by
 have a:=nearest_scale s (p - c).toNat c hm
 have b:=nearest_scale s (q - c).toNat c hn
 rw [show c + ((p - c).toNat : Nat) = p by omega] at a
 rw [show c + ((q - c).toNat : Nat) = q by omega] at b
 rw [← a,← b,h]
theorem nearest_exact (s : Bool) {m : Nat} {p : Int} (hm : m ≠ 0) (h1 : m ≤ 9007199254740992) (h2 : -1074 ≤ p) (h3 : p ≤ 970) :
  fin (double.nearest s m p) ∧ mag (double.nearest s m p) = m * 2 ^ (p + 1074).toNat ∧ neg (double.nearest s m p) = s:=by
 have key : ∀ {m : Nat} {p : Int},m ≠ 0 → m < 9007199254740992 → -1074 ≤ p → p ≤ 971 → fin (double.nearest s m p) ∧ mag (double.nearest s m p) = m * 2 ^ (p + 1074).toNat:=by
  intro m p hm h1 h2 h3
  rw [nearest_eq s p hm]
  have hl : m.log2 < 53:=(Nat.log2_lt hm).2 h1
  have h4 : lastp m p ≤ p:=by unfold lastp;omega
  have h5 : -1074 ≤ lastp m p:=by unfold lastp;omega
  have ek : kept s m p = m * 2 ^ (p - lastp m p).toNat:=by
   unfold kept
   rw [show (lastp m p - p).toNat = 0 by omega,cut_zero,Nat.shiftLeft_eq]
  obtain ⟨L,hL⟩ : ∃ L,L = (lastp m p + 1074).toNat:=⟨_,rfl⟩
  have hk1 : kept s m p < 9007199254740992:=by
   rw [ek]
   have a1:=Nat.mul_lt_mul_of_pos_right (log2_hi m) (Nat.two_pow_pos (p - lastp m p).toNat)
   rw [← Nat.pow_add] at a1
   have a2 : 2 ^ (m.log2 + 1 + (p - lastp m p).toNat) ≤ 2 ^ 53:=Nat.pow_le_pow_right (by decide) (by unfold lastp;omega)
   omega
  have hk2 : 4503599627370496 ≤ kept s m p ∨ L = 0:=by
   by_cases h6 : p + m.log2 - 52 ≤ -1074
   ·right;rw [hL];unfold lastp;omega
   ·left
    rw [ek]
    have a1:=Nat.mul_le_mul_right (2 ^ (p - lastp m p).toNat) (log2_lo hm)
    rw [← Nat.pow_add] at a1
    have a2 : 2 ^ 52 ≤ 2 ^ (m.log2 + (p - lastp m p).toNat):=Nat.pow_le_pow_right (by decide) (by unfold lastp;omega)
    omega
  have hL2 : L ≤ 2045:=by rw [hL];unfold lastp;omega
  rw [← hL,Nat.min_eq_left (by omega)]
  refine ⟨?_,?_⟩
  ·unfold fin
   rw [(rung_word s (r:=L * 4503599627370496 + kept s m p) (by omega)).1]
   omega
  ·rw [mag_word s L (kept s m p) (by omega) hk2 (by omega),ek,Nat.mul_assoc,← Nat.pow_add]
   congr 2
   omega
 refine ⟨?_,?_,(nearest_nn s m p).2⟩ <;> by_cases h0 : m = 9007199254740992
 ·subst h0
  have:=nearest_scale s (m:=4503599627370496) 1 p (by decide)
  rw [show 4503599627370496 * 2 ^ 1 = 9007199254740992 by decide] at this
  rw [this]
  exact (key (by decide) (by decide) (by omega) (by omega)).1
 ·exact (key hm (by omega) h2 (by omega)).1
 ·subst h0
  have:=nearest_scale s (m:=4503599627370496) 1 p (by decide)
  rw [show 4503599627370496 * 2 ^ 1 = 9007199254740992 by decide] at this
  rw [this,(key (by decide) (by decide) (by omega) (by omega)).2,show (p + ((1 : Nat) : Int) + 1074).toNat = (p + 1074).toNat + 1 by omega,Nat.pow_succ]
  omega
 ·exact (key hm (by omega) h2 (by omega)).2
theorem two_read : double.read 4611686018427387904 = .number false 4503599627370496 (-51):=by decide +kernel
theorem mul_two {x : Nat} (hx : fin x) (h0 : rung x ≠ 0) : fok .mul x 4611686018427387904 = true ∧ fop .mul x 4611686018427387904 = double.nearest (neg x) (mag x) (-1073):=by
 obtain ⟨m,k,h1,h2⟩:=read_fin hx
 have hm : m ≠ 0:=by rintro rfl;rw [Nat.zero_mul] at h2;exact h0 (mag_zero.1 h2)
 have e:=fop_eq (op:=.mul) (x:=x) (y:=4611686018427387904) (r:=double.nearest (neg x ^^ false) (m * 4503599627370496) ((k : Int) - 1074 + -51)) (show double.mul x 4611686018427387904 = some _ by unfold Format.mul;rw [h1,two_read];rfl)
 refine ⟨e.1,?_⟩
 rw [e.2,Bool.xor_false,h2]
 refine nearest_congr _ (-1125) (by omega) (by have:=Nat.mul_pos (Nat.pos_of_ne_zero hm) (Nat.two_pow_pos k);omega) (by omega) (by omega) ?_
 rw [show ((k : Int) - 1074 + -51 - -1125).toNat = k by omega,show (-1073 - -1125 : Int).toNat = 52 by decide,Nat.mul_assoc,Nat.mul_assoc,Nat.mul_comm (2 ^ k)]
theorem quo_two {x : Nat} (hx : fin x) (h0 : rung x ≠ 0) : fok .quo x 4611686018427387904 = true ∧ fop .quo x 4611686018427387904 = double.nearest (neg x) (mag x) (-1075):=by
 obtain ⟨m,k,h1,h2⟩:=read_fin hx
 have hm : m ≠ 0:=by rintro rfl;rw [Nat.zero_mul] at h2;exact h0 (mag_zero.1 h2)
 have hmf : m.log2 ≤ 53:=by
  have h3 : m ≤ 9007199254740992:=by
   have:=h1
   unfold Format.read at this
   simp only [sw_eq,inf_eq,bin_eq,lp_eq] at this
   split at this
   ·injection this with _ g _;omega
   ·split at this
    ·injection this with _ g _;omega
    ·split at this <;> cases this
  have:=(Nat.log2_lt hm (k:=54)).2 (by omega)
  omega
 obtain ⟨j,hj⟩ : ∃ j,j + 52 = 54 + (4503599627370496 : Nat).log2 - m.log2:=⟨54 + (4503599627370496 : Nat).log2 - m.log2 - 52,by have : (4503599627370496 : Nat).log2 = 52:=log2_of (by decide) (by decide);omega⟩
 have hd : (m <<< (j + 52)) / 4503599627370496 = m * 2 ^ j:=by
  rw [Nat.shiftLeft_eq,Nat.pow_add,← Nat.mul_assoc,show (2 : Nat) ^ 52 = 4503599627370496 by decide,Nat.mul_div_cancel _ (by decide)]
 have hr : (m <<< (j + 52)) % 4503599627370496 = 0:=by
  rw [Nat.shiftLeft_eq,Nat.pow_add,← Nat.mul_assoc,show (2 : Nat) ^ 52 = 4503599627370496 by decide,Nat.mul_mod_left]
 have e:=fop_eq (op:=.quo) (x:=x) (y:=4611686018427387904) (r:=double.nearest (neg x ^^ false) (2 * (m * 2 ^ j)) ((k : Int) - 1074 - -51 - ((j + 52 : Nat) : Int) - 1)) (show double.div x 4611686018427387904 = some _ by
  unfold Format.div
  rw [h1,two_read]
  unfold Datum.quotient
  simp only
  rw [if_neg (by decide)]
  have ed : double.fractionBits + 2 = 54:=rfl
  rw [ed,← hj,hd,hr]
  rfl)
 refine ⟨e.1,?_⟩
 rw [e.2,Bool.xor_false,h2]
 have hp:=Nat.mul_pos (Nat.pos_of_ne_zero hm) (Nat.two_pow_pos j)
 refine nearest_congr _ (-1076 - (j : Int)) (by omega) (by have:=Nat.mul_pos (Nat.pos_of_ne_zero hm) (Nat.two_pow_pos k);omega) (by omega) (by omega) ?_
 rw [show ((k : Int) - 1074 - -51 - ((j + 52 : Nat) : Int) - 1 - (-1076 - (j : Int))).toNat = k by omega,show (-1075 - (-1076 - (j : Int))).toNat = j + 1 by omega,Nat.pow_succ]
 rw [Nat.mul_assoc m,Nat.mul_comm (2 ^ k) (2 ^ j * 2),Nat.mul_comm 2 (m * 2 ^ j),Nat.mul_assoc m,Nat.mul_assoc m]
theorem nearest_half (s : Bool) {m : Nat} {p : Int} (hm : m ≠ 0) (h1 : m ≤ 9007199254740992) (h2 : -1074 ≤ p) (h3 : p ≤ 970) :
  fok .quo (double.nearest s m p) 4611686018427387904 = true ∧ fop .quo (double.nearest s m p) 4611686018427387904 = double.nearest s m (p - 1):=by
 obtain ⟨a,b,c⟩:=nearest_exact s hm h1 h2 h3
 have hp:=Nat.mul_pos (Nat.pos_of_ne_zero hm) (Nat.two_pow_pos (p + 1074).toNat)
 obtain ⟨d,e⟩:=quo_two a (fun h=>by have:=mag_zero.2 h;omega)
 refine ⟨d,?_⟩
 rw [e,b,c]
 refine nearest_congr _ (-1075) (by omega) hm (by omega) (by omega) ?_
 rw [show (-1075 - -1075 : Int).toNat = 0 by decide,Nat.pow_zero,Nat.mul_one]
 congr 2;omega
theorem nearest_twice (s : Bool) {m : Nat} {p : Int} (hm : m ≠ 0) (h1 : m ≤ 9007199254740992) (h2 : -1074 ≤ p) (h3 : p ≤ 970) :
  fok .mul (double.nearest s m p) 4611686018427387904 = true ∧ fop .mul (double.nearest s m p) 4611686018427387904 = double.nearest s m (p + 1):=by
 obtain ⟨a,b,c⟩:=nearest_exact s hm h1 h2 h3
 have hp:=Nat.mul_pos (Nat.pos_of_ne_zero hm) (Nat.two_pow_pos (p + 1074).toNat)
 obtain ⟨d,e⟩:=mul_two a (fun h=>by have:=mag_zero.2 h;omega)
 refine ⟨d,?_⟩
 rw [e,b,c]
 refine nearest_congr _ (-1073) (by omega) hm (by omega) (by omega) ?_
 rw [show (-1073 - -1073 : Int).toNat = 0 by decide,Nat.pow_zero,Nat.mul_one]
 congr 2;omega
theorem mag_lt {x y : Nat} (hy : fin y) (h : rung x < rung y) : mag x < mag y:=by
 unfold fin at hy
 unfold mag
 by_cases h1 : rung x < 4503599627370496
 ·rw [if_pos h1]
  by_cases h2 : rung y < 4503599627370496
  ·rw [if_pos h2];exact h
  ·rw [if_neg h2]
   have : 1 ≤ 2 ^ (rung y / 4503599627370496 - 1):=Nat.two_pow_pos _
   have:=Nat.mul_le_mul (Nat.le_refl (4503599627370496 + rung y % 4503599627370496)) this
   omega
 ·rw [if_neg h1,if_neg (by omega)]
  by_cases h3 : rung x / 4503599627370496 = rung y / 4503599627370496
  ·rw [h3]
   exact Nat.mul_lt_mul_of_pos_right (by omega) (Nat.two_pow_pos _)
  ·have h4 : 2 ^ (rung x / 4503599627370496 - 1 + 1) ≤ 2 ^ (rung y / 4503599627370496 - 1):=Nat.pow_le_pow_right (by decide) (by omega)
   rw [Nat.pow_succ] at h4
   have h5:=Nat.mul_lt_mul_of_pos_right (show 4503599627370496 + rung x % 4503599627370496 < 9007199254740992 by omega) (Nat.two_pow_pos (rung x / 4503599627370496 - 1))
   have h6:=Nat.mul_le_mul (show 4503599627370496 ≤ 4503599627370496 + rung y % 4503599627370496 by omega) h4
   omega
theorem mag_le_iff {x y : Nat} (hx : fin x) (hy : fin y) : mag x ≤ mag y ↔ rung x ≤ rung y:=by
 constructor
 ·intro h
  refine Classical.byContradiction fun g=>?_
  have:=mag_lt hx (show rung y < rung x by omega)
  omega
 ·intro h
  rcases Nat.lt_or_eq_of_le h with g|g
  ·exact Nat.le_of_lt (mag_lt hy g)
  ·rw [mag_rung g];exact Nat.le_refl _
end Go.Proofs.Ytijmdmnhbbcahaa.QNearTallySpreads
namespace Go.Proofs.Ytijmdmnhbbcahaa.QRootTallySpreads
open Go.RowKit Go.Proofs.Ytijmdmnhbbcahaa.PTallySpreads Go.Proofs.YtijmdmnhbbcahaaW.PrintWords Go.Proofs.YtijmdmnhbbcahaaW.PrintLast Go.Proofs.Ytijmdmnhbbcahaa.QFloTallySpreads Go.Proofs.Ytijmdmnhbbcahaa.QFloBTallySpreads Go.Proofs.Ytijmdmnhbbcahaa.QTalTallySpreads Go.Proofs.Ytijmdmnhbbcahaa.QFloCTallySpreads Go.Proofs.Ytijmdmnhbbcahaa.QNearTallySpreads
set_option linter.unusedVariables false
set_option linter.unusedSimpArgs false
open Ieee
theorem u64_in (n : Int) (h0 : 0 ≤ n) (h1 : n < 18446744073709551616) : IntKind.u64.wrap n = n:=by show n % 18446744073709551616 = n;omega
theorem sq_odd (R : Nat) : (2 * R + 1) * (2 * R + 1) = 4 * (R * R) + 4 * R + 1:=by
 have h : (2 * R) * (2 * R) = 4 * (R * R):=Nat.mul_mul_mul_comm 2 R 2 R
 rw [Nat.add_mul,Nat.mul_add,h];omega
theorem sq_even (R : Nat) : (2 * R) * (2 * R) = 4 * (R * R):=Nat.mul_mul_mul_comm 2 R 2 R
theorem sq_lt {a b : Nat} (h : a * a < b * b) : a < b:=by
 refine Classical.byContradiction fun g=>?_
 have:=Nat.mul_le_mul (show b ≤ a by omega) (show b ≤ a by omega)
 omega
theorem rootFrom_spec (n : Nat) : ∀ (todo root : Nat),root * root ≤ n → n < (root + 2 ^ todo) * (root + 2 ^ todo) → Datum.rootFrom n todo root * Datum.rootFrom n todo root ≤ n ∧ n < (Datum.rootFrom n todo root + 1) * (Datum.rootFrom n todo root + 1)
 | 0,root,h1,h2=>⟨h1,h2⟩
 | t + 1,root,h1,h2=>by
  unfold Datum.rootFrom
  dsimp only
  rw [Nat.shiftLeft_eq,Nat.one_mul]
  by_cases h : (root + 2 ^ t) * (root + 2 ^ t) ≤ n
  ·rw [if_pos h]
   exact rootFrom_spec n t _ h (by rw [Nat.add_assoc,show 2 ^ t + 2 ^ t = 2 ^ (t + 1) by rw [Nat.pow_succ];omega];exact h2)
  ·rw [if_neg h]
   exact rootFrom_spec n t _ h1 (by omega)
theorem tmod2 (a : Int) : Int.tmod a 2 = 0 ↔ a % 2 = 0:=by
 constructor
 ·intro h;exact Int.emod_eq_zero_of_dvd (Int.dvd_of_tmod_eq_zero h)
 ·intro h;exact Int.tmod_eq_zero_of_dvd (Int.dvd_of_emod_eq_zero h)
theorem part_step (m t : Nat) : m * 4 ^ (t + 1) / 4 ^ 32 = 4 * (m * 4 ^ t / 4 ^ 32) + m * 4 ^ (t + 1) / 4 ^ 32 % 4:=by
 have h : m * 4 ^ (t + 1) / 4 ^ 32 / 4 = m * 4 ^ t / 4 ^ 32:=by
  rw [Nat.div_div_eq_div_mul,Nat.pow_succ,← Nat.mul_assoc]
  exact Nat.mul_div_mul_right _ _ (by decide)
 omega
theorem part_lo {m t : Nat} (h : t ≤ 31) : m * 4 ^ (t + 1) / 4 ^ 32 = m / 2 ^ (62 - 2 * t):=by
 have e : (4 : Nat) ^ 32 = 2 ^ (62 - 2 * t) * 4 ^ (t + 1):=by
  rw [show (4 : Nat) = 2 ^ 2 by decide,← Nat.pow_mul,← Nat.pow_mul,← Nat.pow_add]
  congr 1;omega
 rw [e]
 exact Nat.mul_div_mul_right _ _ (Nat.pow_pos (by decide))
theorem part_hi {m t : Nat} (h : 31 ≤ t) : m * 4 ^ (t + 1) / 4 ^ 32 = m * 4 ^ (t - 31):=by
 rw [show t + 1 = (t - 31) + 32 by omega,Nat.pow_add,← Nat.mul_assoc]
 exact Nat.mul_div_cancel _ (by decide)
theorem root_l1 {m : Nat} {e : Int} (h1 : 18014398509481984 ≤ m) (h2 : m < 72057594037927936) : ∀ (j t k R r : Nat),t + j = 58 → R * R + r = m * 4 ^ t / 4 ^ 32 → r ≤ 2 * R →
  ∃ Q : Nat,Q * Q ≤ m * 4 ^ 26 ∧ m * 4 ^ 26 < (Q + 1) * (Q + 1) ∧
   quarryref31_Root.l1 (k + 2 * j + 1) (m : Int) e (R : Int) (r : Int) ((t - 32 : Nat) : Int) (62 - 2 * (t : Int)) =
    (quarryref13_Made.f k ((Q / 2 + Q % 2 : Nat) : Int) (wrap64 (wrap64 (wrap64 (Int.tdiv e 2) - 26) + 1))).bind fun t160=>some t160
 | 0,t,k,R,r,ht,hA,hr=>by
  obtain rfl : t = 58:=by omega
  have e1 : m * 4 ^ 58 / 4 ^ 32 = m * 4 ^ 26:=by
   rw [show (4 : Nat) ^ 58 = 4 ^ 26 * 4 ^ 32 by rw [← Nat.pow_add],← Nat.mul_assoc]
   exact Nat.mul_div_cancel _ (by decide)
  rw [e1] at hA
  have hs : (R + 1) * (R + 1) = R * R + 2 * R + 1:=by rw [Nat.add_mul,Nat.mul_add];omega
  refine ⟨R,by omega,by omega,?_⟩
  have b1 : 9007199254740992 ≤ R:=by
   have : 9007199254740992 < R + 1:=sq_lt (show 9007199254740992 * 9007199254740992 < (R + 1) * (R + 1) by
    have : 18014398509481984 * 4 ^ 26 ≤ m * 4 ^ 26:=Nat.mul_le_mul_right _ h1
    rw [show (4 : Nat) ^ 26 = 4503599627370496 by decide] at *
    omega)
   omega
  have b2 : R < 18014398509481984:=sq_lt (by
   have : m * 4 ^ 26 < 72057594037927936 * 4 ^ 26:=Nat.mul_lt_mul_of_pos_right h2 (by decide)
   rw [show (4 : Nat) ^ 26 = 4503599627370496 by decide] at *
   omega)
  rw [show k + 2 * 0 + 1 = k + 1 by omega,quarryref31_Root.l1,if_neg (by omega)]
  have c1 : Int.tdiv (R : Int) 2 = ((R / 2 : Nat) : Int):=by rw [Int.tdiv_eq_ediv_of_nonneg (by omega)];omega
  have c2 : Int.tmod (R : Int) 2 = ((R % 2 : Nat) : Int):=by rw [Int.tmod_eq_emod_of_nonneg (by omega)];omega
  rw [c1,c2,u64_in ((R / 2 : Nat) : Int) (by omega) (by omega),u64_in _ (by omega) (by omega),← Int.natCast_add]
  rfl
 | j + 1,t,k,R,r,ht,hA,hr=>by
  have ht57 : t ≤ 57:=by omega
  have b2 : R < 9007199254740992:=sq_lt (by
   have a1 : m * 4 ^ t / 4 ^ 32 < 9007199254740992 * 9007199254740992:=by
    rw [Nat.div_lt_iff_lt_mul (by decide)]
    have a2 : m * 4 ^ t < 72057594037927936 * 4 ^ t:=Nat.mul_lt_mul_of_pos_right h2 (Nat.pow_pos (by decide))
    have a3 : 4 ^ t ≤ 4 ^ 57:=Nat.pow_le_pow_right (by decide) ht57
    have a4 : 72057594037927936 * 4 ^ t ≤ 72057594037927936 * 4 ^ 57:=Nat.mul_le_mul_left _ a3
    have a5 : (72057594037927936 : Nat) * 4 ^ 57 = 9007199254740992 * 9007199254740992 * 4 ^ 32:=by decide
    omega
   omega)
  obtain ⟨x,hx⟩ : ∃ x,x = m * 4 ^ (t + 1) / 4 ^ 32 % 4:=⟨_,rfl⟩
  have hstep:=part_step m t
  rw [← hx] at hstep
  have hx4 : x < 4:=by rw [hx];exact Nat.mod_lt _ (by decide)
  rw [show k + 2 * (j + 1) + 1 = (k + 2 * j + 1 + 1) + 1 by omega,quarryref31_Root.l1,if_pos (by omega)]
  have hj2 : (if (62 - 2 * (t : Int)) ≥ 0 then (if 0 ≤ (IntKind.u64.wrap (62 - 2 * (t : Int))) then (quarryref31_Root.j2 (k + 2 * j + 1 + 1) (m : Int) e (R : Int) (r : Int) ((t - 32 : Nat) : Int) (62 - 2 * (t : Int)) (Int.tmod (shr .u64 (m : Int) (IntKind.u64.wrap (62 - 2 * (t : Int)))) 4)) else (none)) else (quarryref31_Root.j2 (k + 2 * j + 1 + 1) (m : Int) e (R : Int) (r : Int) ((t - 32 : Nat) : Int) (62 - 2 * (t : Int)) 0)) =
    quarryref31_Root.j2 (k + 2 * j + 1 + 1) (m : Int) e (R : Int) (r : Int) ((t - 32 : Nat) : Int) (62 - 2 * (t : Int)) (x : Int):=by
   by_cases h31 : t ≤ 31
   ·rw [if_pos (by omega),u64_in _ (by omega) (by omega),if_pos (by omega)]
    congr 1
    unfold shr
    have hb : IntKind.u64.bits = 64:=rfl
    rw [hb,show min (62 - 2 * (t : Int)).toNat 64 = 62 - 2 * t by omega]
    have e3 : (m : Int) / 2 ^ (62 - 2 * t) = ((m / 2 ^ (62 - 2 * t) : Nat) : Int):=by rw [Int.natCast_ediv,Int.natCast_pow];rfl
    rw [e3,Int.tmod_eq_emod_of_nonneg (Int.natCast_nonneg _),hx,part_lo h31]
    rfl
   ·rw [if_neg (by omega)]
    congr 1
    rw [hx,part_hi (by omega),show t - 31 = (t - 32) + 1 by omega,Nat.pow_succ,← Nat.mul_assoc,Nat.mul_mod_left]
    rfl
  rw [hj2,quarryref31_Root.j2]
  have w1 : IntKind.u64.wrap (IntKind.u64.wrap (4 * (r : Int)) + (x : Int)) = ((4 * r + x : Nat) : Int):=by
   rw [u64_in (4 * (r : Int)) (by omega) (by omega),u64_in _ (by omega) (by omega)];omega
  have w2 : IntKind.u64.wrap (IntKind.u64.wrap (4 * (R : Int)) + 1) = ((4 * R + 1 : Nat) : Int):=by
   rw [u64_in (4 * (R : Int)) (by omega) (by omega),u64_in _ (by omega) (by omega)];omega
  have w3 : IntKind.u64.wrap (IntKind.u64.wrap (2 * (R : Int)) + 1) = ((2 * R + 1 : Nat) : Int):=by
   rw [u64_in (2 * (R : Int)) (by omega) (by omega),u64_in _ (by omega) (by omega)];omega
  have w4 : IntKind.u64.wrap (2 * (R : Int)) = ((2 * R : Nat) : Int):=by
   rw [u64_in (2 * (R : Int)) (by omega) (by omega)];omega
  have w5 : wrap64 (62 - 2 * (t : Int) - 2) = 62 - 2 * ((t + 1 : Nat) : Int):=by rw [w64 _ (by omega) (by omega)];omega
  have w6 : (62 - 2 * (t : Int) < 0) → wrap64 (((t - 32 : Nat) : Int) + 1) = ((t + 1 - 32 : Nat) : Int):=by intro h;rw [w64 _ (by omega) (by omega)];omega
  have w7 : ¬ (62 - 2 * (t : Int) < 0) → ((t - 32 : Nat) : Int) = ((t + 1 - 32 : Nat) : Int):=by intro h;omega
  rw [w1,w2,w3,w4,w5]
  by_cases hc : 4 * R + 1 ≤ 4 * r + x
  ·have w8 : IntKind.u64.wrap (((4 * r + x : Nat) : Int) - ((4 * R + 1 : Nat) : Int)) = ((4 * r + x - (4 * R + 1) : Nat) : Int):=by
    rw [u64_in _ (by omega) (by omega)];omega
   obtain ⟨Q,q1,q2,q3⟩:=root_l1 h1 h2 j (t + 1) k (2 * R + 1) (4 * r + x - (4 * R + 1)) (by omega) (by rw [sq_odd];omega) (by omega) (e:=e)
   refine ⟨Q,q1,q2,?_⟩
   rw [if_pos (by omega),w8,← q3]
   by_cases hk : 62 - 2 * (t : Int) < 0
   ·rw [if_pos hk,w6 hk]
   ·rw [if_neg hk,w7 hk]
  ·obtain ⟨Q,q1,q2,q3⟩:=root_l1 h1 h2 j (t + 1) k (2 * R) (4 * r + x) (by omega) (by rw [sq_even];omega) (by omega) (e:=e)
   refine ⟨Q,q1,q2,?_⟩
   rw [if_neg (by omega),← q3]
   by_cases hk : 62 - 2 * (t : Int) < 0
   ·rw [if_pos hk,w6 hk]
   ·rw [if_neg hk,w7 hk]
theorem root_l0 : ∀ (j k m : Nat) (e : Int),(∀ i,i < j → ¬ ((e - (i : Int)) % 2 = 0 ∧ 18014398509481984 ≤ m * 2 ^ i)) → (e - (j : Int)) % 2 = 0 → 18014398509481984 ≤ m * 2 ^ j → m * 2 ^ j < 72057594037927936 → -2000 ≤ e - (j : Int) → e ≤ 2000 → j ≤ 100 →
  quarryref31_Root.l0 (k + j + 1) (m : Int) e = quarryref31_Root.l1 k ((m * 2 ^ j : Nat) : Int) (e - (j : Int)) 0 0 0 62
 | 0,k,m,e,hn,h1,h2,h3,h4,h5,h6=>by
  rw [Nat.pow_zero,Nat.mul_one] at *
  rw [show k + 0 + 1 = k + 1 by omega,quarryref31_Root.l0,if_pos ((tmod2 e).2 (by omega)),if_neg (by omega),show e - ((0 : Nat) : Int) = e by omega]
 | j + 1,k,m,e,hn,h1,h2,h3,h4,h5,h6=>by
  have h0:=hn 0 (by omega)
  rw [Nat.pow_zero,Nat.mul_one] at h0
  have hp : 1 ≤ 2 ^ j:=Nat.two_pow_pos j
  have hm : m * 2 ^ (j + 1) = 2 * m * 2 ^ j:=by rw [Nat.pow_succ,Nat.mul_comm (2 ^ j) 2,← Nat.mul_assoc,Nat.mul_comm m 2]
  have hle : 2 * m * 1 ≤ 2 * m * 2 ^ j:=Nat.mul_le_mul_left _ hp
  have ih:=root_l0 j k (2 * m) (e - 1) (fun i hi=>by
   have:=hn (i + 1) (by omega)
   rw [Nat.pow_succ,Nat.mul_comm (2 ^ i) 2,← Nat.mul_assoc,Nat.mul_comm m 2] at this
   rw [show e - 1 - (i : Int) = e - ((i + 1 : Nat) : Int) by omega]
   exact this) (by omega) (by omega) (by omega) (by omega) (by omega) (by omega)
  rw [hm,show e - ((j + 1 : Nat) : Int) = e - 1 - (j : Int) by omega,← ih]
  have w1 : IntKind.u64.wrap (2 * (m : Int)) = ((2 * m : Nat) : Int):=by rw [u64_in _ (by omega) (by omega)];omega
  rw [show k + (j + 1) + 1 = (k + j + 1) + 1 by omega,quarryref31_Root.l0,w1,w64 (e - 1) (by omega) (by omega)]
  by_cases hc : Int.tmod e 2 = 0
  ·rw [if_pos hc,if_pos (by have:=(tmod2 e).1 hc;omega)]
  ·rw [if_neg hc]
end Go.Proofs.Ytijmdmnhbbcahaa.QRootTallySpreads
namespace Go.Proofs.Ytijmdmnhbbcahaa.QSprTallySpreads
open Go.RowKit Go.Proofs.Ytijmdmnhbbcahaa.PTallySpreads Go.Proofs.YtijmdmnhbbcahaaW.PrintWords Go.Proofs.YtijmdmnhbbcahaaW.PrintLast Go.Proofs.Ytijmdmnhbbcahaa.QFloTallySpreads Go.Proofs.Ytijmdmnhbbcahaa.QFloBTallySpreads Go.Proofs.Ytijmdmnhbbcahaa.QTalTallySpreads Go.Proofs.Ytijmdmnhbbcahaa.QFloCTallySpreads Go.Proofs.Ytijmdmnhbbcahaa.QNearTallySpreads Go.Proofs.Ytijmdmnhbbcahaa.QRootTallySpreads
set_option linter.unusedVariables false
set_option linter.unusedSimpArgs false
open Ieee
theorem at_eq {x : Nat} (hx : fin x) : ∃ (m : Nat) (e : Int),double.read x = .number (neg x) m e ∧ quarryref13_At.f 52 (-1074) 9218868437227405312 (rung x : Int) = some ((m : Int),e) ∧ m < 9007199254740992 ∧ -1074 ≤ e ∧ e ≤ 971 ∧ mag x = m * 2 ^ (e + 1074).toNat:=by
 unfold fin at hx
 have s1 : shl .u64 1 (IntKind.u64.wrap 52) = 4503599627370496:=by decide +kernel
 have s2 : IntKind.u64.wrap 52 = 52:=by decide
 unfold quarryref13_At.f
 rw [s1,s2,if_pos (by decide)]
 by_cases h : rung x < 4503599627370496
 ·refine ⟨rung x,-1074,?_,?_,by omega,by omega,by omega,?_⟩
  ·unfold rung at h ⊢
   unfold Format.read neg
   simp only [sw_eq,inf_eq,bin_eq,lp_eq]
   rw [if_pos h]
  ·rw [if_pos (by omega)]
  ·unfold mag;rw [if_pos h];simp
 ·refine ⟨4503599627370496 + rung x % 4503599627370496,-1074 + ((rung x / 4503599627370496 - 1 : Nat) : Int),?_,?_,by omega,by omega,by omega,?_⟩
  ·unfold rung at h hx ⊢
   unfold Format.read neg
   simp only [sw_eq,inf_eq,bin_eq,lp_eq]
   rw [if_neg h,if_pos hx]
  ·rw [if_neg (by omega),if_neg (by decide)]
   have c1 : Int.tmod (rung x : Int) 4503599627370496 = ((rung x % 4503599627370496 : Nat) : Int):=by rw [Int.tmod_eq_emod_of_nonneg (by omega)];omega
   have c2 : Int.tdiv (rung x : Int) 4503599627370496 = ((rung x / 4503599627370496 : Nat) : Int):=by rw [Int.tdiv_eq_ediv_of_nonneg (by omega)];omega
   rw [c1,c2,u64_in (4503599627370496 + ((rung x % 4503599627370496 : Nat) : Int)) (by omega) (by omega),u64_in (((rung x / 4503599627370496 : Nat) : Int)) (by omega) (by omega),w64 ((rung x / 4503599627370496 : Nat) : Int) (by omega) (by omega),w64 (-1074 + ((rung x / 4503599627370496 : Nat) : Int)) (by omega) (by omega),w64 _ (by omega) (by omega)]
   congr 2
   omega
  ·unfold mag;rw [if_neg h];congr 2;omega
theorem float_of_nat (m : Nat) : floatOfInt .f64 (m : Int) = double.nearest false m 0:=by
 show double.nearest (decide ((m : Int) < 0)) (m : Int).natAbs 0 = _
 rw [decide_eq_false (by omega),Int.natAbs_natCast]
theorem float_l1 {m : Nat} {e : Int} (hm : m ≠ 0) (h1 : m ≤ 9007199254740992) (h2 : -1074 ≤ e) (h3 : e ≤ 971) : ∀ (d k : Nat) (p : Int),(d : Int) = p - e → p ≤ 0 → quarryref13_float.l1 (k + d + 1) false (double.nearest false m p) (e - p) = some (double.nearest false m e)
 | 0,k,p,hd,hp=>by
  rw [show k + 0 + 1 = k + 1 by omega,quarryref13_float.l1,if_neg (by omega),if_neg (by decide),show p = e by omega]
 | d + 1,k,p,hd,hp=>by
  obtain ⟨a,b⟩:=nearest_half false hm h1 (show -1074 ≤ p by omega) (by omega)
  rw [show k + (d + 1) + 1 = (k + d + 1) + 1 by omega,quarryref13_float.l1,if_pos (by omega),if_pos a,b,w64 _ (by omega) (by omega),show e - p + 1 = e - (p - 1) by omega]
  exact float_l1 hm h1 h2 h3 d k (p - 1) (by omega) (by omega)
theorem float_l0 {m : Nat} {e : Int} (hm : m ≠ 0) (h1 : m ≤ 9007199254740992) (h3 : e ≤ 971) (he : 0 ≤ e) : ∀ (d k : Nat) (p : Int),(d : Int) = e - p → 0 ≤ p → quarryref13_float.l0 (k + d + 2) false e (double.nearest false m p) p = some (double.nearest false m e)
 | 0,k,p,hd,hp=>by
  rw [show k + 0 + 2 = (k + 1) + 1 by omega,quarryref13_float.l0,if_neg (by omega),quarryref13_float.l1,if_neg (by omega),if_neg (by decide),show p = e by omega]
 | d + 1,k,p,hd,hp=>by
  obtain ⟨a,b⟩:=nearest_twice false hm h1 (show -1074 ≤ p by omega) (by omega)
  rw [show k + (d + 1) + 2 = (k + d + 2) + 1 by omega,quarryref13_float.l0,if_pos (by omega),if_pos a,b,w64 _ (by omega) (by omega)]
  exact float_l0 hm h1 h3 he d k (p + 1) (by omega) (by omega)
theorem float_eq {m : Nat} {e : Int} (hm : m ≠ 0) (h1 : m ≤ 9007199254740992) (h2 : -1074 ≤ e) (h3 : e ≤ 971) {k : Nat} (hk : 1100 ≤ k) : quarryref13_float.f k false (m : Int) e = some (double.nearest false m e):=by
 unfold quarryref13_float.f
 rw [float_of_nat]
 by_cases he : 0 ≤ e
 ·have:=float_l0 hm h1 h3 he e.toNat (k - e.toNat - 2) 0 (by omega) (by omega)
  rw [show k - e.toNat - 2 + e.toNat + 2 = k by omega] at this
  exact this
 ·obtain ⟨j,rfl⟩ : ∃ j,k = j + 1:=⟨k - 1,by omega⟩
  rw [quarryref13_float.l0,if_neg (by omega)]
  have:=float_l1 hm h1 h2 h3 (-e).toNat (j - (-e).toNat - 1) 0 (by omega) (by omega)
  rw [show j - (-e).toNat - 1 + (-e).toNat + 1 = j by omega,show e - 0 = e by omega] at this
  exact this
theorem Float_unfold {k : Nat} {x m e : Int} {y : Nat} (h : quarryref13_At.f 52 (-1074) 9218868437227405312 x = some (m,e)) (h2 : quarryref13_float.f k false m e = some y) : quarryref13_Float.f k false x = some y:=by
 unfold quarryref13_Float.f quarryref13_Long.f
 rw [Option.bind_some]
 dsimp only
 rw [h,Option.bind_some]
 dsimp only
 rw [h2,Option.bind_some]
theorem Float_eq {x k : Nat} (h0 : 0 < x) (h1 : x < 9218868437227405312) (hk : 1100 ≤ k) : quarryref13_Float.f k false (x : Int) = some x:=by
 have hr : rung x = x:=by unfold rung;omega
 have hn : neg x = false:=by unfold neg;rw [show x / 9223372036854775808 = 0 by omega];rfl
 have hf : fin x:=by unfold fin;omega
 obtain ⟨m,e,a1,a2,a3,a4,a5,a6⟩:=at_eq hf
 rw [hr] at a2
 have hm : m ≠ 0:=by rintro rfl;rw [Nat.zero_mul] at a6;have:=mag_zero.1 a6;omega
 rw [Float_unfold a2 (float_eq hm (by omega) a4 a5 hk)]
 have h5:=nearest_scale false (e + 1074).toNat (-1074) hm
 rw [← a6,nearest_self false hf,show -1074 + ((e + 1074).toNat : Int) = e by omega,hr] at h5
 have h6 : double.word false x = x:=by unfold Format.word;rw [if_neg (by decide)]
 rw [← h5,h6]
theorem number_l0 {f : Nat} (hf : fin f) (hn : neg f = false) : ∀ (d k low high : Nat) (L H : Int),L = (low : Int) → H = (high : Int) → 1100 ≤ k → high - low ≤ 2 ^ d → low ≤ rung f → rung f < high → high ≤ 9218868437227405312 → quarryref13_Number.l0 (k + d + 1) f L H = some ((rung f : Nat) : Int)
 | 0,k,low,high,_,_,rfl,rfl,hk,hd,h1,h2,h3=>by
  rw [Nat.pow_zero] at hd
  rw [show k + 0 + 1 = k + 1 by omega,quarryref13_Number.l0,u64_in _ (by omega) (by omega),if_neg (by omega),show low = rung f by omega]
 | d + 1,k,low,high,_,_,rfl,rfl,hk,hd,h1,h2,h3=>by
  rw [Nat.pow_succ] at hd
  rw [show k + (d + 1) + 1 = (k + d + 1) + 1 by omega,quarryref13_Number.l0,u64_in ((high : Int) - (low : Int)) (by omega) (by omega)]
  by_cases hg : high - low ≤ 1
  ·rw [if_neg (by omega),show low = rung f by omega]
  ·obtain ⟨mid,hmid⟩ : ∃ mid,mid = low + (high - low) / 2:=⟨_,rfl⟩
   have c1 : IntKind.u64.wrap ((low : Int) + IntKind.u64.wrap (Int.tdiv ((high : Int) - (low : Int)) 2)) = (mid : Int):=by
    rw [Int.tdiv_eq_ediv_of_nonneg (by omega),u64_in (((high : Int) - (low : Int)) / 2) (by omega) (by omega),u64_in _ (by omega) (by omega)]
    omega
   rw [if_pos (by omega),c1,Float_eq (by omega) (by omega) (by omega),Option.bind_some]
   have hr : rung mid = mid:=by unfold rung;omega
   have hnm : neg mid = false:=by unfold neg;rw [show mid / 9223372036854775808 = 0 by omega];rfl
   have hfm : fin mid:=by unfold fin;omega
   rw [ord hfm hf]
   have v1 : val mid = (mag mid : Int):=by unfold val;rw [hnm];rfl
   have v2 : val f = (mag f : Int):=by unfold val;rw [hn];rfl
   rw [v1,v2]
   have hm:=mag_le_iff hfm hf
   rw [hr] at hm
   by_cases hc : mid ≤ rung f
   ·have hc2:=hm.2 hc
    have : (some (compare (mag mid : Int) (mag f : Int)) == some Ordering.lt || some (compare (mag mid : Int) (mag f : Int)) == some Ordering.eq) = true:=by
     cases e : compare (mag mid : Int) (mag f : Int) with
     | lt=>rfl
     | eq=>rfl
     | gt=>have:=Int.compare_eq_gt.mp e;omega
    rw [if_pos this]
    exact number_l0 hf hn d k mid high _ _ rfl rfl hk (by omega) hc h2 h3
   ·have hc2 : ¬ mag mid ≤ mag f:=fun h=>hc (hm.1 h)
    have : ¬ (some (compare (mag mid : Int) (mag f : Int)) == some Ordering.lt || some (compare (mag mid : Int) (mag f : Int)) == some Ordering.eq) = true:=by
     cases e : compare (mag mid : Int) (mag f : Int) with
     | lt=>have:=Int.compare_eq_lt.mp e;omega
     | eq=>have:=Int.compare_eq_eq.mp e;omega
     | gt=>decide
    rw [if_neg this]
    exact number_l0 hf hn d k low mid _ _ rfl rfl hk (by omega) h1 (by omega) (by omega)
theorem number_eq {f k : Nat} (hf : fin f) (hn : neg f = false) (hk : 1200 ≤ k) : quarryref13_Number.f k f = some ((rung f : Nat) : Int):=by
 unfold quarryref13_Number.f
 have v2 : val f = (mag f : Int):=by unfold val;rw [hn];rfl
 have h0 : ¬ (FloatKind.f64.format.order f 0 == some .lt) = true:=by
  rw [ord hf fin_zero,val_zero,v2]
  cases e : compare (mag f : Int) 0 with
  | lt=>have:=Int.compare_eq_lt.mp e;omega
  | eq=>decide
  | gt=>decide
 obtain ⟨d,hd⟩ : ∃ d,d = 63:=⟨_,rfl⟩
 obtain ⟨j,rfl⟩ : ∃ j,k = (j + d + 1) + 1:=⟨k - 65,by omega⟩
 rw [if_neg h0,quarryref13_Number.j0]
 unfold quarryref13_Long.f
 simp only [Option.bind_some]
 have hf2:=hf
 unfold fin at hf2
 exact number_l0 hf hn d j 0 9218868437227405312 0 9218868437227405312 (by omega) (by omega) (by omega) (by rw [hd];omega) (by omega) (by omega) (by omega)
theorem Q_bounds {M Q : Nat} (l1 : 18014398509481984 ≤ M) (l2 : M < 72057594037927936) (q1 : Q * Q ≤ M * 4 ^ 26) (q2 : M * 4 ^ 26 < (Q + 1) * (Q + 1)) : 9007199254740992 ≤ Q ∧ Q < 18014398509481984:=by
 have c : (4 : Nat) ^ 26 = 4503599627370496:=by decide
 rw [c] at q1 q2
 have a : 9007199254740992 < Q + 1:=sq_lt (Nat.lt_of_le_of_lt (Nat.le_trans (Nat.le_of_eq (by decide : (9007199254740992 : Nat) * 9007199254740992 = 18014398509481984 * 4503599627370496)) (Nat.mul_le_mul_right 4503599627370496 l1)) q2)
 have b : Q < 18014398509481984:=sq_lt (by omega)
 omega
theorem w_bounds {M w : Nat} (l1 : 18014398509481984 ≤ M) (l2 : M < 72057594037927936) (q1 : w * w ≤ 4 * (M * 4 ^ 26)) (q2 : 4 * (M * 4 ^ 26) < (w + 1) * (w + 1)) : 18014398509481984 ≤ w ∧ w < 36028797018963968:=by
 have c : (4 : Nat) ^ 26 = 4503599627370496:=by decide
 rw [c] at q1 q2
 have a : 18014398509481984 < w + 1:=sq_lt (by omega)
 have b : w < 36028797018963968:=sq_lt (by omega)
 omega
theorem Root_eq {f k : Nat} (hf : fin f) (hn : neg f = false) (h0 : rung f ≠ 0) (hk : 2000 ≤ k) : ∃ (m : Nat) (e : Int) (j Q : Nat),double.read f = .number false m e ∧ m ≠ 0 ∧ m < 9007199254740992 ∧ -1074 ≤ e ∧ e ≤ 971 ∧ j ≤ 60 ∧ (e - (j : Int)) % 2 = 0 ∧ 18014398509481984 ≤ m * 2 ^ j ∧ m * 2 ^ j < 72057594037927936 ∧
  Q * Q ≤ m * 2 ^ j * 4 ^ 26 ∧ m * 2 ^ j * 4 ^ 26 < (Q + 1) * (Q + 1) ∧ quarryref31_Root.f k f = some (double.nearest false (Q / 2 + Q % 2) ((e - (j : Int)) / 2 - 25)):=by
 obtain ⟨m,e,a1,a2,a3,a4,a5,a6⟩:=at_eq hf
 have hm : m ≠ 0:=by rintro rfl;rw [Nat.zero_mul] at a6;exact h0 (mag_zero.1 a6)
 have hl : m.log2 < 53:=(Nat.log2_lt hm).2 a3
 obtain ⟨j,hj⟩ : ∃ j : Nat,j = 54 - m.log2 + ((e - ((54 - m.log2 : Nat) : Int)) % 2).toNat:=⟨_,rfl⟩
 have hpar : ((e - ((54 - m.log2 : Nat) : Int)) % 2).toNat ≤ 1:=by omega
 have lo : ∀ i,18014398509481984 ≤ m * 2 ^ i ↔ 54 - m.log2 ≤ i:=by
  intro i
  have l1:=log2_mul_pow i hm
  have hne : m * 2 ^ i ≠ 0:=by have:=Nat.mul_pos (Nat.pos_of_ne_zero hm) (Nat.two_pow_pos i);omega
  have l2:=Nat.le_log2 hne (k:=54)
  rw [show (2 : Nat) ^ 54 = 18014398509481984 by decide] at l2
  omega
 have hne : m * 2 ^ j ≠ 0:=by have:=Nat.mul_pos (Nat.pos_of_ne_zero hm) (Nat.two_pow_pos j);omega
 have hi : m * 2 ^ j < 72057594037927936:=by
  have l1:=log2_mul_pow j hm
  have l2:=Nat.log2_lt hne (k:=56)
  rw [show (2 : Nat) ^ 56 = 72057594037927936 by decide] at l2
  omega
 have hev : (e - (j : Int)) % 2 = 0:=by omega
 obtain ⟨i,hi2⟩ : ∃ i,k = (i + 2 * 58 + 1) + j + 1:=⟨k - 118 - j,by omega⟩
 have e1:=root_l0 j (i + 2 * 58 + 1) m e (fun t ht hh=>by
  have:=(lo t).1 hh.2
  have h3:=hh.1
  omega) hev ((lo j).2 (by omega)) hi (by omega) (by omega) (by omega)
 obtain ⟨Q,q1,q2,q3⟩:=root_l1 (m:=m * 2 ^ j) (e:=e - (j : Int)) ((lo j).2 (by omega)) hi 58 0 i 0 0 (by omega) (by
  rw [Nat.pow_zero,Nat.mul_one,Nat.div_eq_of_lt (Nat.lt_of_lt_of_le hi (by decide))]) (by omega)
 refine ⟨m,e,j,Q,by rw [← hn];exact a1,hm,a3,a4,a5,by omega,hev,(lo j).2 (by omega),hi,q1,q2,?_⟩
 have v2 : val f = (mag f : Int):=by unfold val;rw [hn];rfl
 have hmg : mag f ≠ 0:=fun h=>h0 (mag_zero.1 h)
 have hne0 : ¬ (FloatKind.f64.format.order f 0 == some .eq) = true:=by
  rw [ord hf fin_zero,val_zero,v2]
  cases e : compare (mag f : Int) 0 with
  | lt=>decide
  | eq=>have:=Int.compare_eq_eq.mp e;omega
  | gt=>decide
 unfold quarryref31_Root.f
 rw [if_neg hne0]
 unfold quarryref13_Long.f
 simp only [Option.bind_some]
 rw [number_eq hf hn (by omega),Option.bind_some,a2,Option.bind_some]
 simp only
 rw [hi2,e1]
 have q4 : quarryref31_Root.l1 (i + 2 * 58 + 1) ((m * 2 ^ j : Nat) : Int) (e - (j : Int)) 0 0 0 62 = _:=q3
 rw [q4]
 have t1 : Int.tdiv (e - (j : Int)) 2 = (e - (j : Int)) / 2:=Int.tdiv_eq_ediv_of_dvd (Int.dvd_of_emod_eq_zero hev)
 rw [t1,w64 ((e - (j : Int)) / 2) (by omega) (by omega),w64 ((e - (j : Int)) / 2 - 26) (by omega) (by omega),w64 _ (by omega) (by omega)]
 unfold quarryref13_Made.f
 obtain ⟨hQ1,hQ2⟩:=Q_bounds ((lo j).2 (by omega)) hi q1 q2
 clear q1 q2 q3 q4 hn
 rw [float_eq (by omega) (by omega) (by omega) (by omega) (by omega)]
 simp only [Option.bind_some]
 rw [show (e - (j : Int)) / 2 - 26 + 1 = (e - (j : Int)) / 2 - 25 by omega]
theorem round_eq {w : Nat} {b : Bool} (h : w % 4 = 2 → b = true) : Toward.even.cut false (2 * w + b.toNat) 3 = w / 2 / 2 + w / 2 % 2:=by
 have key : ∀ (n : Nat),Toward.even.cut false n 3 = n / 8 + (decide (8 < 2 * (n % 8)) || (8 == 2 * (n % 8) && n / 8 % 2 == 1)).toNat:=by
  intro n
  unfold Toward.cut
  have e : min 3 (n.log2 + 2) = 3 ∨ n.log2 = 0:=by omega
  rcases e with e|e
  ·simp only [Nat.shiftLeft_eq,Nat.one_mul]
   rw [e]
  ·simp only [Nat.shiftLeft_eq,Nat.one_mul]
   rw [e]
   have hn : n < 2:=by
    refine Classical.byContradiction fun g=>?_
    have:=(Nat.le_log2 (n:=n) (by omega) (k:=1)).2 (by omega)
    omega
   have h2 : n = 0 ∨ n = 1:=by omega
   rcases h2 with rfl|rfl <;> decide
 rw [key]
 have hb : b.toNat ≤ 1:=by cases b <;> decide
 have hw : w % 4 < 4:=Nat.mod_lt _ (by decide)
 by_cases h2 : w % 4 < 2
 ·have a : decide (8 < 2 * ((2 * w + b.toNat) % 8)) = false:=decide_eq_false (by omega)
  have c : (8 == 2 * ((2 * w + b.toNat) % 8)) = false:=beq_false_of_ne (by omega)
  rw [a,c]
  show (2 * w + b.toNat) / 8 + 0 = _
  omega
 ·have a : decide (8 < 2 * ((2 * w + b.toNat) % 8)) = true:=decide_eq_true (by
   by_cases h3 : w % 4 = 2
   ·rw [h h3];show 8 < 2 * ((2 * w + 1) % 8);omega
   ·omega)
  rw [a]
  show (2 * w + b.toNat) / 8 + 1 = _
  omega
theorem sqrt_eq {f m j Q : Nat} {e : Int} (hr : double.read f = .number false m e) (hm : m ≠ 0) (h1 : m < 9007199254740992) (h2 : -1074 ≤ e) (h3 : e ≤ 971) (hj : j ≤ 60) (hev : (e - (j : Int)) % 2 = 0) (l1 : 18014398509481984 ≤ m * 2 ^ j) (l2 : m * 2 ^ j < 72057594037927936)
  (q1 : Q * Q ≤ m * 2 ^ j * 4 ^ 26) (q2 : m * 2 ^ j * 4 ^ 26 < (Q + 1) * (Q + 1)) : FloatKind.f64.format.sqrt f = some (double.nearest false (Q / 2 + Q % 2) ((e - (j : Int)) / 2 - 25)):=by
 have hl : m.log2 < 53:=(Nat.log2_lt hm).2 h1
 have hne : m * 2 ^ j ≠ 0:=by omega
 have lj:=log2_mul_pow j hm
 have j1:=(Nat.le_log2 hne (k:=54)).2 (by omega)
 have j2:=(Nat.log2_lt hne (k:=56)).2 (by omega)
 obtain ⟨more,hmore⟩ : ∃ more : Nat,more = 2 * (double.fractionBits + 2) - m.log2 + ((e - ((2 * (double.fractionBits + 2) - m.log2 : Nat) : Int)) % 2).toNat:=⟨_,rfl⟩
 have hfb : double.fractionBits = 52:=rfl
 have hmj : more = j + 54:=by rw [hmore,hfb];omega
 obtain ⟨w,hw⟩ : ∃ w,w = Datum.rootFrom (m <<< more) ((m <<< more).log2 / 2 + 1) 0:=⟨_,rfl⟩
 have hn : m <<< more = m * 2 ^ j * 4 ^ 27:=by rw [Nat.shiftLeft_eq,hmj,Nat.pow_add,← Nat.mul_assoc]
 have hspec:=rootFrom_spec (m <<< more) ((m <<< more).log2 / 2 + 1) 0 (Nat.zero_le _) (by
  have a:=log2_hi (m <<< more)
  rw [Nat.zero_add,← Nat.pow_add]
  exact Nat.lt_of_lt_of_le a (Nat.pow_le_pow_right (by decide) (by omega)))
 rw [← hw,hn] at hspec
 obtain ⟨w1,w2⟩:=hspec
 have e4 : m * 2 ^ j * 4 ^ 27 = 4 * (m * 2 ^ j * 4 ^ 26):=by rw [show (4 : Nat) ^ 27 = 4 ^ 26 * 4 by rw [← Nat.pow_succ],← Nat.mul_assoc];omega
 have hQ : w / 2 = Q:=by
  have s1 : (2 * Q) * (2 * Q) < (w + 1) * (w + 1):=by rw [sq_even];omega
  have s2 : w * w < (2 * (Q + 1)) * (2 * (Q + 1)):=by rw [sq_even];omega
  have:=sq_lt s1
  have:=sq_lt s2
  omega
 rw [e4] at w1 w2
 obtain ⟨hw1,hw2⟩:=w_bounds l1 l2 w1 w2
 have hm16 : (m <<< more) % 16 = 0:=by
  rw [Nat.shiftLeft_eq,hmj,show j + 54 = (j + 50) + 4 by omega,Nat.pow_add,← Nat.mul_assoc]
  exact Nat.mul_mod_left _ _
 clear w1 w2 q1 q2 e4
 have htie : w % 4 = 2 → (w * w != m <<< more) = true:=by
  intro h
  rw [bne_iff_ne]
  intro hh
  obtain ⟨c,rfl⟩ : ∃ c,w = 2 * (2 * c + 1):=⟨w / 4,by omega⟩
  rw [sq_even,sq_odd] at hh
  omega
 have hread : FloatKind.f64.format.sqrt f = some (double.nearest false (2 * w + (w * w != m <<< more).toNat) ((e - (more : Int)) / 2 - 1)):=by
  show double.sqrt f = _
  unfold Format.sqrt
  rw [hr]
  unfold Datum.root
  simp only
  rw [if_neg hm,if_neg (by decide),← hmore,← hw]
  rfl
 rw [hread]
 obtain ⟨b,hb⟩ : ∃ b,b = (w * w != m <<< more):=⟨_,rfl⟩
 rw [← hb] at htie ⊢
 have hb1 : b.toNat ≤ 1:=by cases b <;> decide
 have hs0 : 2 * w + b.toNat ≠ 0:=by omega
 have hsl : (2 * w + b.toNat).log2 = 55:=log2_of (by omega) (by omega)
 rw [nearest_eq false _ hs0]
 obtain ⟨E,hE⟩ : ∃ E,E = (e - (j : Int)) / 2 - 25:=⟨_,rfl⟩
 have hP : (e - (more : Int)) / 2 - 1 = E - 3:=by rw [hE,hmj];omega
 have lp1 : lastp (2 * w + b.toNat) (E - 3) = E:=by unfold lastp;rw [hsl];omega
 have kp1 : kept false (2 * w + b.toNat) (E - 3) = Q / 2 + Q % 2:=by
  unfold kept
  rw [lp1,show (E - 3 - E).toNat = 0 by omega,Nat.shiftLeft_zero,show (E - (E - 3)).toNat = 3 by omega,round_eq htie,hQ]
 rw [hP,lp1,kp1,← hE]
 have hR1 : 4503599627370496 ≤ Q / 2 + Q % 2:=by omega
 have hR2 : Q / 2 + Q % 2 ≤ 9007199254740992:=by omega
 have hR0 : Q / 2 + Q % 2 ≠ 0:=by omega
 generalize Q / 2 + Q % 2 = R at hR0 hR1 hR2 ⊢
 rw [nearest_eq false E hR0]
 by_cases hb2 : R = 9007199254740992
 ·subst hb2
  have l3 : (9007199254740992 : Nat).log2 = 53:=log2_of (by decide) (by decide)
  have lp2 : lastp 9007199254740992 E = E + 1:=by unfold lastp;rw [l3];omega
  have kp2 : kept false 9007199254740992 E = 4503599627370496:=by
   unfold kept
   rw [lp2,show (E - (E + 1)).toNat = 0 by omega,Nat.shiftLeft_zero,show (E + 1 - E).toNat = 1 by omega]
   have:=cut_exact false 4503599627370496 1 (by decide)
   rw [show 4503599627370496 * 2 ^ 1 = 9007199254740992 by decide] at this
   exact this
  rw [lp2,kp2]
  clear hread htie hn hw hm16 lp1 kp1 hsl
  have e5 : (E + 1 + 1074).toNat = (E + 1074).toNat + 1:=by omega
  rw [e5,show ((E + 1074).toNat + 1) * 4503599627370496 + 4503599627370496 = (E + 1074).toNat * 4503599627370496 + 9007199254740992 by omega]
 ·have l3 : R.log2 = 52:=log2_of (by omega) (by omega)
  have lp2 : lastp R E = E:=by unfold lastp;rw [l3];omega
  have kp2 : kept false R E = R:=by
   unfold kept
   rw [lp2,show (E - E).toNat = 0 by omega,Nat.shiftLeft_zero,cut_zero]
  rw [lp2,kp2]
end Go.Proofs.Ytijmdmnhbbcahaa.QSprTallySpreads
namespace Go.Proofs.Ytijmdmnhbbcahaa.QSprBTallySpreads
open Go.RowKit Go.Proofs.Ytijmdmnhbbcahaa.PTallySpreads Go.Proofs.YtijmdmnhbbcahaaW.PrintWords Go.Proofs.YtijmdmnhbbcahaaW.PrintLast Go.Proofs.Ytijmdmnhbbcahaa.QFloTallySpreads Go.Proofs.Ytijmdmnhbbcahaa.QFloBTallySpreads Go.Proofs.Ytijmdmnhbbcahaa.QTalTallySpreads Go.Proofs.Ytijmdmnhbbcahaa.QFormTallySpreads Go.Proofs.Ytijmdmnhbbcahaa.QFloCTallySpreads Go.Proofs.Ytijmdmnhbbcahaa.QNearTallySpreads Go.Proofs.Ytijmdmnhbbcahaa.QRootTallySpreads Go.Proofs.Ytijmdmnhbbcahaa.QSprTallySpreads
set_option linter.unusedVariables false
set_option linter.unusedSimpArgs false
open Ieee
theorem kept_le (s : Bool) {m : Nat} (p : Int) (hm : m ≠ 0) : kept s m p ≤ 9007199254740992:=by
 have key : m * 2 ^ (p - lastp m p).toNat / 2 ^ (lastp m p - p).toNat < 9007199254740992:=by
  rw [Nat.div_lt_iff_lt_mul (Nat.two_pow_pos _)]
  have a:=Nat.mul_lt_mul_of_pos_right (log2_hi m) (Nat.two_pow_pos (p - lastp m p).toNat)
  rw [← Nat.pow_add] at a
  refine Nat.lt_of_lt_of_le a ?_
  rw [show (9007199254740992 : Nat) = 2 ^ 53 by decide,← Nat.pow_add]
  exact Nat.pow_le_pow_right (by decide) (by unfold lastp;omega)
 unfold kept
 rw [Nat.shiftLeft_eq]
 by_cases h : lastp m p ≤ p
 ·rw [show (lastp m p - p).toNat = 0 by omega] at key ⊢
  rw [cut_zero]
  rw [Nat.pow_zero,Nat.div_one] at key
  omega
 ·have hp : 0 < m * 2 ^ (p - lastp m p).toNat:=Nat.mul_pos (Nat.pos_of_ne_zero hm) (Nat.two_pow_pos _)
  have:=(cut_bounds s _ (lastp m p - p).toNat hp).2
  omega
theorem nearest_fin (s : Bool) {m : Nat} {p : Int} (h : p + m.log2 ≤ 1022) : fin (double.nearest s m p):=by
 by_cases hm : m = 0
 ·subst hm
  unfold Format.nearest
  rw [if_pos rfl]
  unfold fin
  rw [(rung_word s (r:=0) (by decide)).1]
  decide
 ·rw [nearest_eq s p hm]
  have:=kept_le s p hm
  have hL : (lastp m p + 1074).toNat ≤ 2044:=by unfold lastp;omega
  rw [Nat.min_eq_left (by omega)]
  unfold fin
  rw [(rung_word s (r:=(lastp m p + 1074).toNat * 4503599627370496 + kept s m p) (by omega)).1]
  omega
theorem one_read : floatOfInt .f64 1 = 4607182418800017408 ∧ double.read 4607182418800017408 = .number false 4503599627370496 (-52):=by decide +kernel
theorem read_lt {x : Nat} {m : Nat} {e : Int} {s : Bool} (h : double.read x = .number s m e) : m < 9007199254740992 ∧ -1074 ≤ e ∧ e ≤ 971:=by
 unfold Format.read at h
 simp only [sw_eq,inf_eq,bin_eq,lp_eq] at h
 split at h
 ·injection h with _ g1 g2;omega
 ·split at h
  ·injection h with _ g1 g2;omega
  ·split at h <;> cases h
theorem quo_one {x : Nat} (hx : fin x) (h0 : rung x ≠ 0) : fok .quo x 4607182418800017408 = true ∧ fin (fop .quo x 4607182418800017408):=by
 obtain ⟨m,k,h1,h2⟩:=read_fin hx
 have hm : m ≠ 0:=by rintro rfl;rw [Nat.zero_mul] at h2;exact h0 (mag_zero.1 h2)
 have hmf : m.log2 < 53:=(Nat.log2_lt hm).2 (read_lt h1).1
 obtain ⟨j,hj⟩ : ∃ j,j + 52 = 54 + (4503599627370496 : Nat).log2 - m.log2:=⟨54 + (4503599627370496 : Nat).log2 - m.log2 - 52,by have : (4503599627370496 : Nat).log2 = 52:=log2_of (by decide) (by decide);omega⟩
 have hd : (m <<< (j + 52)) / 4503599627370496 = m * 2 ^ j:=by
  rw [Nat.shiftLeft_eq,Nat.pow_add,← Nat.mul_assoc,show (2 : Nat) ^ 52 = 4503599627370496 by decide,Nat.mul_div_cancel _ (by decide)]
 have hr : (m <<< (j + 52)) % 4503599627370496 = 0:=by
  rw [Nat.shiftLeft_eq,Nat.pow_add,← Nat.mul_assoc,show (2 : Nat) ^ 52 = 4503599627370496 by decide,Nat.mul_mod_left]
 have e:=fop_eq (op:=.quo) (x:=x) (y:=4607182418800017408) (r:=double.nearest (neg x ^^ false) (2 * (m * 2 ^ j)) ((k : Int) - 1074 - -52 - ((j + 52 : Nat) : Int) - 1)) (show double.div x 4607182418800017408 = some _ by
  unfold Format.div
  rw [h1,one_read.2]
  unfold Datum.quotient
  simp only
  rw [if_neg (by decide)]
  have ed : double.fractionBits + 2 = 54:=rfl
  rw [ed,← hj,hd,hr]
  rfl)
 refine ⟨e.1,?_⟩
 rw [e.2]
 have hp:=Nat.mul_pos (Nat.pos_of_ne_zero hm) (Nat.two_pow_pos j)
 have hc:=nearest_congr (neg x ^^ false) (m:=2 * (m * 2 ^ j)) (n:=mag x) (p:=(k : Int) - 1074 - -52 - ((j + 52 : Nat) : Int) - 1) (q:=-1074) (-1075 - (j : Int)) (by omega) (fun h=>h0 (mag_zero.1 h)) (by omega) (by omega) (by
  rw [show ((k : Int) - 1074 - -52 - ((j + 52 : Nat) : Int) - 1 - (-1075 - (j : Int))).toNat = k by omega,show (-1074 - (-1075 - (j : Int))).toNat = j + 1 by omega,h2,Nat.pow_succ]
  rw [Nat.mul_assoc m,Nat.mul_comm (2 ^ k) (2 ^ j * 2),Nat.mul_comm 2 (m * 2 ^ j),Nat.mul_assoc m,Nat.mul_assoc m])
 rw [hc,nearest_self _ hx]
 have h3 : rung x < 9223372036854775808:=Nat.mod_lt _ (by decide)
 unfold fin
 rw [(rung_word _ h3).1]
 exact hx
theorem whole3 {N : Int} (h1 : 2 ≤ N) (h2 : N ≤ 4611686018427387905) : 4611686018427387904 ≤ rung (floatOfInt .f64 N):=by
 show 4611686018427387904 ≤ rung (double.nearest (N < 0) N.natAbs 0)
 obtain ⟨m,hm⟩ : ∃ m,m = N.natAbs:=⟨_,rfl⟩
 rw [← hm]
 have hm0 : m ≠ 0:=by omega
 rw [nearest_eq _ 0 hm0]
 have hl : m.log2 < 63:=(Nat.log2_lt hm0).2 (by omega)
 have hl1 : 1 ≤ m.log2:=(Nat.le_log2 hm0).2 (by omega)
 have e1 : lastp m 0 = (m.log2 : Int) - 52:=by unfold lastp;omega
 have hk:=kept_le (N < 0) 0 hm0
 have hk2 : 4503599627370496 ≤ kept (N < 0) m 0:=by
  unfold kept
  rw [e1]
  by_cases hd : m.log2 ≤ 52
  ·rw [show ((m.log2 : Int) - 52 - 0).toNat = 0 by omega,cut_zero,Nat.shiftLeft_eq]
   have h4:=Nat.mul_le_mul_right (2 ^ (0 - ((m.log2 : Int) - 52)).toNat) (log2_lo hm0)
   rw [← Nat.pow_add,show m.log2 + (0 - ((m.log2 : Int) - 52)).toNat = 52 by omega] at h4
   omega
  ·rw [show (0 - ((m.log2 : Int) - 52)).toNat = 0 by omega,Nat.shiftLeft_zero,show ((m.log2 : Int) - 52 - 0).toNat = m.log2 - 52 by omega]
   have h3:=(cut_bounds (N < 0) m (m.log2 - 52) (by omega)).1
   have h4 : 2 ^ 52 ≤ m / 2 ^ (m.log2 - 52):=by
    rw [Nat.le_div_iff_mul_le (Nat.two_pow_pos _),← Nat.pow_add,show 52 + (m.log2 - 52) = m.log2 by omega]
    exact log2_lo hm0
   omega
 rw [e1]
 obtain ⟨L,hL⟩ : ∃ L,L = ((m.log2 : Int) - 52 + 1074).toNat:=⟨_,rfl⟩
 rw [← hL]
 have hL1 : L ≤ 1084:=by omega
 have hL2 : 1023 ≤ L:=by omega
 generalize kept (N < 0) m 0 = K at *
 rw [Nat.min_eq_left (by omega)]
 rw [(rung_word (N < 0) (r:=L * 4503599627370496 + K) (by omega)).1]
 omega
theorem quo_fin {x y : Nat} (hx : fin x) (h0 : rung x ≠ 0) (hy : fin y) (y1 : 4611686018427387904 ≤ rung y) : fok .quo x y = true ∧ fin (fop .quo x y):=by
 obtain ⟨m,i,r1,r2⟩:=read_fin hx
 have hm : m ≠ 0:=by rintro rfl;rw [Nat.zero_mul] at r2;exact h0 (mag_zero.1 r2)
 have hl:=read_lt r1
 have hlm : m.log2 < 53:=(Nat.log2_lt hm).2 hl.1
 obtain ⟨n,j,r3,b1,b2,b3⟩:=read_normal hy (by omega)
 have ln : n.log2 = 52:=log2_of (by omega) (by omega)
 obtain ⟨more,hmore⟩ : ∃ more,more = 54 + 52 - m.log2:=⟨_,rfl⟩
 obtain ⟨q,hq⟩ : ∃ q,q = 2 * ((m <<< more) / n) + ((m <<< more) % n != 0).toNat:=⟨_,rfl⟩
 have e:=fop_eq (op:=.quo) (x:=x) (y:=y) (r:=double.nearest (neg x ^^ neg y) q ((i : Int) - 1074 - ((j : Int) - 1074) - (more : Nat) - 1)) (show double.div x y = some _ by
  unfold Format.div
  rw [r1,r3]
  unfold Datum.quotient
  simp only
  rw [if_neg (by omega),ln]
  show some (double.nearest _ _ _) = _
  rw [hq,hmore]
  rfl)
 refine ⟨e.1,?_⟩
 rw [e.2]
 have hb : (m <<< more) / n < 36028797018963968:=by
  rw [Nat.div_lt_iff_lt_mul (by omega),Nat.shiftLeft_eq]
  have a:=Nat.mul_lt_mul_of_pos_right (log2_hi m) (Nat.two_pow_pos more)
  rw [← Nat.pow_add,show m.log2 + 1 + more = 107 by omega] at a
  have c:=Nat.mul_le_mul (Nat.le_refl 36028797018963968) b1
  have d : (2 : Nat) ^ 107 = 36028797018963968 * 4503599627370496:=by decide
  omega
 have hbit : ((m <<< more) % n != 0).toNat ≤ 1:=by cases ((m <<< more) % n != 0) <;> decide
 refine nearest_fin _ ?_
 by_cases hq0 : q = 0
 ·rw [hq0]
  have : (0 : Nat).log2 = 0:=by decide
  omega
 ·have g2:=(Nat.log2_lt hq0 (k:=56)).2 (by omega)
  omega
theorem quo_neg {x y : Nat} (hx : fin x) (hy : fin y) (h0 : rung y ≠ 0) (nx : neg x = false) (ny : neg y = false) : neg (fop .quo x y) = false:=by
 obtain ⟨m,i,r1,r2⟩:=read_fin hx
 obtain ⟨n,j,r3,r4⟩:=read_fin hy
 have hn : n ≠ 0:=by rintro rfl;rw [Nat.zero_mul] at r4;exact h0 (mag_zero.1 r4)
 have e:=fop_eq (op:=.quo) (x:=x) (y:=y) (r:=_) (show double.div x y = some _ by unfold Format.div;rw [r1,r3];unfold Datum.quotient;simp only;rw [if_neg hn];rfl)
 rw [e.2]
 show neg (double.nearest _ _ _) = false
 rw [(nearest_nn _ _ _).2,nx,ny]
 rfl
theorem spread_eq {c : Int} {x1 x2 x3 x4 x5 x6 : Nat} (h1 : x1 < 18446744073709551616) (h2 : x2 < 18446744073709551616) (h3 : x3 < 18446744073709551616) (h4 : x4 < 18446744073709551616) (h5 : x5 < 18446744073709551616) (h6 : x6 < 18446744073709551616) :
  ∃ r : Nat × Int,tally_Spread.f 3000 c x1 x2 x3 x4 x5 x6 = some r ∧ quarryref31_Spread.f 3000 c x1 x2 x3 x4 x5 x6 = some r ∧ fin r.1:=by
 unfold tally_Spread.f quarryref31_Spread.f
 obtain ⟨b,e1,e2,_⟩:=formed_eq (k:=3000) (c:=c) (by decide) h1 h2 h3 h4 h5 h6
 rw [e1,e2]
 simp only [Option.bind_some]
 have FF : ¬ (false = true):=by decide
 have TT : true = true:=rfl
 cases b with
 | false =>
  rw [if_neg FF,if_neg FF]
  exact ⟨_,rfl,rfl,fin_zero⟩
 | true =>
  rw [if_pos TT,if_pos TT]
  by_cases c0 : c = 0
  ·rw [if_pos c0,if_pos c0]
   exact ⟨_,rfl,rfl,fin_zero⟩
  ·rw [if_neg c0,if_neg c0]
   obtain ⟨fx,cx⟩:=formed_fin (by decide) h1 h2 h3 h4 h5 h6 e1
   obtain ⟨c1,c2,p6⟩:=cx c0
   have f6 : fin x6:=fx x6 (by simp)
   have wc:=whole2 (N:=c) c1 (by omega)
   rw [ord f6 fin_zero,val_zero]
   by_cases z6 : rung x6 = 0
   ·have v6 : val x6 = 0:=val_of_zero z6
    have hq:=quo_ok (fin_nn f6) wc.1 (by omega)
    have hz:=hq.2.2 z6
    have hzf : fin (fop .quo x6 (floatOfInt .f64 c)):=fin_of_zero hz
    rw [v6,if_pos (by decide),if_pos hq.1]
    unfold quarryref31_Root.f
    rw [ord hzf fin_zero,val_zero,val_of_zero hz,if_pos (by decide)]
    exact ⟨_,rfl,rfl,fin_zero⟩
   ·have hm6 : mag x6 ≠ 0:=fun h=>z6 (mag_zero.1 h)
    have n6 : neg x6 = false:=by
     cases g : neg x6 with
     | false=>rfl
     | true=>unfold val at p6;rw [g,if_pos rfl] at p6;omega
    have v6 : val x6 = (mag x6 : Int):=by unfold val;rw [n6];rfl
    have hne : ¬ (some (compare (val x6) 0) == some Ordering.eq) = true:=by
     rw [v6]
     cases e : compare (mag x6 : Int) 0 with
     | lt=>decide
     | eq=>have:=Int.compare_eq_eq.mp e;omega
     | gt=>decide
    rw [if_neg hne]
    have hq : fok .quo x6 (floatOfInt .f64 c) = true ∧ fin (fop .quo x6 (floatOfInt .f64 c)):=by
     by_cases hc1 : c = 1
     ·rw [hc1,one_read.1];exact quo_one f6 z6
     ·exact quo_fin f6 z6 wc.1 (whole3 (by omega) (by omega))
    rw [if_pos hq.1,if_pos hq.1]
    have nq : neg (fop .quo x6 (floatOfInt .f64 c)) = false:=quo_neg f6 wc.1 (by omega) n6 wc.2.2.2
    generalize fop .quo x6 (floatOfInt .f64 c) = f at *
    by_cases zf : rung f = 0
    ·unfold quarryref31_Root.f math_Sqrt.f
     rw [ord hq.2 fin_zero,val_zero,val_of_zero zf,if_pos (by decide)]
     have hs : FloatKind.f64.format.sqrt f = some 0:=by
      show Ieee.double.sqrt f = _
      unfold Format.sqrt
      rw [read_zero zf,nq]
      unfold Datum.root
      simp only
      rw [if_pos trivial]
      rfl
     rw [hs]
     exact ⟨_,rfl,rfl,fin_zero⟩
    ·obtain ⟨m,e,j,Q,a1,a2,a3,a4,a5,a6,a7,a8,a9,q1,q2,q3⟩:=Root_eq (k:=3000) hq.2 nq zf (by decide)
     unfold math_Sqrt.f
     rw [sqrt_eq a1 a2 a3 a4 a5 a6 a7 a8 a9 q1 q2,q3]
     refine ⟨_,rfl,rfl,?_⟩
     show fin (Ieee.double.nearest _ _ _)
     refine nearest_fin _ ?_
     have hQ2:=(Q_bounds a8 a9 q1 q2).2
     clear q1 q2 q3
     by_cases hz : Q / 2 + Q % 2 = 0
     ·rw [hz]
      have : (0 : Nat).log2 = 0:=by decide
      omega
     ·have:=(Nat.log2_lt hz (k:=54)).2 (by omega)
      omega
end Go.Proofs.Ytijmdmnhbbcahaa.QSprBTallySpreads
namespace Go.Proofs.Ytijmdmnhbbcahaa.Pure
open Go.RowKit Go.Proofs.Ytijmdmnhbbcahaa.PTallySpreads Go.Proofs.YtijmdmnhbbcahaaW.PrintWords Go.Proofs.YtijmdmnhbbcahaaW.PrintLast Go.Proofs.Ytijmdmnhbbcahaa.QFloTallySpreads Go.Proofs.Ytijmdmnhbbcahaa.QFloBTallySpreads Go.Proofs.Ytijmdmnhbbcahaa.QTalTallySpreads Go.Proofs.Ytijmdmnhbbcahaa.QFormTallySpreads Go.Proofs.Ytijmdmnhbbcahaa.QSprBTallySpreads
theorem wf_lt {x : Nat} (h : (Lit.float .f64 x).wf = true) : x < 18446744073709551616:=by
 have h2 : decide (x < 2 ^ 64) = true:=h
 exact of_decide_eq_true h2
theorem TallySpreads : quarrylaw31_TallySpreads.Pure:=by
 intro x0 hs
 obtain ⟨h0,h1,h2,h3,h4,h5,h6⟩:=hs
 obtain ⟨r,e1,e2,hr⟩:=spread_eq (c:=x0.f0) (wf_lt h1) (wf_lt h2) (wf_lt h3) (wf_lt h4) (wf_lt h5) (wf_lt h6)
 refine ⟨3000,?_⟩
 unfold quarrylaw31_TallySpreads.f
 rw [e1,e2,Option.bind_some,Option.bind_some,if_pos rfl,same_self hr]
 rfl
end Go.Proofs.Ytijmdmnhbbcahaa.Pure
