/- The four turns of any numbers: the program's sums are the document's, bit for bit; what was lent is as it was. -/
import Derived.Test.YtijmdmnhbbcahaaZDefTallyTones
namespace Go.Proofs.Ytijmdmnhbbcahaa.QFloTallyTones
open Go.RowKit Go.Proofs.Ytijmdmnhbbcahaa.PTallyTones Go.Proofs.YtijmdmnhbbcahaaW.PrintWords Go.Proofs.YtijmdmnhbbcahaaW.PrintLast
set_option linter.unusedVariables false
set_option linter.unusedSimpArgs false
open Ieee
theorem sw_eq : Format.signWeight double = 9223372036854775808:=by decide
theorem inf_eq : Format.infRung double = 9218868437227405312:=by decide
theorem bin_eq : Format.binade double = 4503599627370496:=by decide
theorem lp_eq : Format.leastPlace double = -1074:=by decide
def rung (x : Nat) : Nat:=x % 9223372036854775808
@[reducible] def fin (x : Nat) : Prop:=rung x < 9218868437227405312
@[reducible] def nn (x : Nat) : Prop:=rung x ≤ 9218868437227405312
def neg (x : Nat) : Bool:=x / 9223372036854775808 % 2 == 1
def mag (x : Nat) : Nat:=if rung x < 4503599627370496 then rung x else (4503599627370496 + rung x % 4503599627370496) * 2 ^ (rung x / 4503599627370496 - 1)
def val (x : Nat) : Int:=if neg x then -(mag x : Int) else (mag x : Int)
theorem read_fin {x : Nat} (h : fin x) : ∃ (m : Nat) (k : Nat),double.read x = .number (neg x) m ((k : Int) - 1074) ∧ mag x = m * 2 ^ k:=by
 unfold fin rung at h
 unfold Format.read mag rung neg
 simp only [sw_eq,inf_eq,bin_eq,lp_eq]
 by_cases h1 : x % 9223372036854775808 < 4503599627370496
 ·rw [if_pos h1,if_pos h1]
  exact ⟨x % 9223372036854775808,0,rfl,by simp⟩
 ·rw [if_neg h1,if_pos h,if_neg h1]
  exact ⟨_,_,by congr 1,rfl⟩
theorem read_inf {x : Nat} (h : rung x = 9218868437227405312) : double.read x = .infinity (neg x):=by
 unfold rung at h
 unfold Format.read neg
 simp only [sw_eq,inf_eq,bin_eq,lp_eq]
 rw [if_neg (by omega),if_neg (by omega),if_pos h]
theorem read_nan {x : Nat} (h : ¬ nn x) : ∃ s t,double.read x = .nan s t:=by
 unfold nn rung at h
 unfold Format.read
 simp only [sw_eq,inf_eq,bin_eq,lp_eq]
 rw [if_neg (by omega),if_neg (by omega),if_neg (by omega)]
 exact ⟨_,_,rfl⟩
theorem signed_mul (s : Bool) (m a : Nat) (k : Nat) : signed s m (a + k) = signed s m a * (2 ^ k : Nat):=by
 unfold signed
 have e : m <<< (a + k) = (m <<< a) * 2 ^ k:=by rw [Nat.shiftLeft_eq,Nat.shiftLeft_eq,Nat.pow_add,Nat.mul_assoc]
 rw [e]
 cases s <;> simp [Int.natCast_mul,Int.neg_mul]
theorem val_signed {x : Nat} {m k : Nat} (h : mag x = m * 2 ^ k) : val x = signed (neg x) m k:=by
 unfold val signed
 rw [h,Nat.shiftLeft_eq]
theorem cmp_mul (a b : Int) (c : Nat) (hc : 0 < c) : compare (a * c) (b * c) = compare a b:=by
 have hc' : (0 : Int) < c:=by omega
 rcases Int.lt_trichotomy a b with h|h|h
 ·rw [Int.compare_eq_lt.mpr h,Int.compare_eq_lt];exact Int.mul_lt_mul_of_pos_right h hc'
 ·subst h;rw [Int.compare_eq_eq.mpr rfl];exact (Int.compare_eq_eq.mpr rfl).symm
 ·rw [Int.compare_eq_gt.mpr h,Int.compare_eq_gt];exact Int.mul_lt_mul_of_pos_right h hc'
theorem order_fin {x y : Nat} (hx : fin x) (hy : fin y) : double.order x y = some (compare (val x) (val y)):=by
 obtain ⟨m,i,h1,h2⟩:=read_fin hx
 obtain ⟨n,j,h3,h4⟩:=read_fin hy
 unfold Format.order
 rw [h1,h3]
 unfold Datum.order
 simp only
 rw [val_signed h2,val_signed h4]
 congr 1
 have e1 : ((i : Int) - 1074 - min ((i : Int) - 1074) ((j : Int) - 1074)).toNat = i - min i j:=by omega
 have e2 : ((j : Int) - 1074 - min ((i : Int) - 1074) ((j : Int) - 1074)).toNat = j - min i j:=by omega
 rw [e1,e2]
 have a1:=signed_mul (neg x) m (i - min i j) (min i j)
 have a2:=signed_mul (neg y) n (j - min i j) (min i j)
 rw [Nat.sub_add_cancel (Nat.min_le_left i j)] at a1
 rw [Nat.sub_add_cancel (Nat.min_le_right i j)] at a2
 rw [a1,a2,cmp_mul _ _ _ (Nat.two_pow_pos _)]
theorem rung_word (s : Bool) {r : Nat} (h : r < 9223372036854775808) : rung (double.word s r) = r ∧ neg (double.word s r) = s:=by
 unfold Format.word rung neg
 rw [sw_eq]
 cases s
 ·rw [if_neg (by decide)]
  exact ⟨by omega,by rw [show r / 9223372036854775808 = 0 by omega];rfl⟩
 ·rw [if_pos rfl]
  exact ⟨by omega,by rw [show (9223372036854775808 + r) / 9223372036854775808 = 1 by omega];rfl⟩
theorem nearest_nn (s : Bool) (m : Nat) (p : Int) : nn (double.nearest s m p) ∧ neg (double.nearest s m p) = s:=by
 unfold Format.nearest nn
 dsimp only
 split
 ·have h:=rung_word s (r:=0) (by decide)
  exact ⟨by rw [h.1];decide,h.2⟩
 ·rw [inf_eq]
  generalize hr : min _ 9218868437227405312 = r
  have hle : r ≤ 9218868437227405312:=by rw [← hr];exact Nat.min_le_right _ _
  have h:=rung_word s (r:=r) (by omega)
  exact ⟨by rw [h.1];exact hle,h.2⟩
theorem write_inf (s : Bool) : rung (double.write (.infinity s)) = 9218868437227405312 ∧ neg (double.write (.infinity s)) = s:=by
 unfold Format.write
 simp only [inf_eq]
 exact rung_word s (by decide)
theorem write_nn {d : Datum} (h : d.isNaN = false) : nn (double.write d):=by
 cases d with
 | number s m p=>exact (nearest_nn s m p).1
 | infinity s=>unfold nn;rw [(write_inf s).1];exact Nat.le_refl _
 | nan s t=>cases h
theorem nn_cases {x : Nat} (h : nn x) : fin x ∨ rung x = 9218868437227405312:=by
 unfold nn at h;unfold fin;omega
theorem sum_nn {d e r : Datum} (h : d.sum e = some r) : r.isNaN = false:=by
 unfold Datum.sum at h
 split at h <;> first|(cases h;done)|skip
 ·split at h
  ·cases h;rfl
  ·cases h
 ·cases h;rfl
 ·cases h;rfl
 ·cases h;rfl
theorem product_nn {d e r : Datum} (h : d.product e = some r) : r.isNaN = false:=by
 unfold Datum.product at h
 split at h <;> first|(cases h;done)|skip
 ·cases h;rfl
 ·split at h
  ·cases h
  ·cases h;rfl
 ·split at h
  ·cases h
  ·cases h;rfl
 ·cases h;rfl
theorem quotient_nn {k : Nat} {d e r : Datum} (h : Datum.quotient k d e = some r) : r.isNaN = false:=by
 unfold Datum.quotient at h
 split at h <;> first|(cases h;done)|skip
 ·cases h;rfl
 ·cases h;rfl
 ·split at h
  ·split at h
   ·cases h
   ·cases h;rfl
  ·cases h;rfl
theorem fop_eq {op : BinOp} {x y r : Nat} (h : floatBits op .f64 x y = some r) : fok op x y = true ∧ fop op x y = r:=by
 unfold fok fop;rw [h];exact ⟨rfl,rfl⟩
theorem fop_nn {op : BinOp} {x y : Nat} (h : fok op x y = true) : nn (fop op x y):=by
 unfold fok at h
 unfold fop
 cases e : floatBits op .f64 x y with
 | none=>rw [e] at h;cases h
 | some r =>
  show nn r
  unfold floatBits at e
  split at e <;> first|(cases e;done)|skip
  ·obtain ⟨d,hd,rfl⟩:=Option.map_eq_some_iff.mp e;exact write_nn (sum_nn hd)
  ·obtain ⟨d,hd,rfl⟩:=Option.map_eq_some_iff.mp e;exact write_nn (sum_nn hd)
  ·obtain ⟨d,hd,rfl⟩:=Option.map_eq_some_iff.mp e;exact write_nn (product_nn hd)
  ·obtain ⟨d,hd,rfl⟩:=Option.map_eq_some_iff.mp e;exact write_nn (quotient_nn hd)
def inf (x : Nat) : Prop:=rung x = 9218868437227405312
theorem add_fin {x y : Nat} (hx : fin x) (hy : fin y) : fok .add x y = true:=by
 obtain ⟨m,i,h1,_⟩:=read_fin hx
 obtain ⟨n,j,h2,_⟩:=read_fin hy
 exact (fop_eq (op:=.add) (show double.add x y = some _ by unfold Format.add;rw [h1,h2];rfl)).1
theorem sub_fin {x y : Nat} (hx : fin x) (hy : fin y) : fok .sub x y = true:=by
 obtain ⟨m,i,h1,_⟩:=read_fin hx
 obtain ⟨n,j,h2,_⟩:=read_fin hy
 exact (fop_eq (op:=.sub) (show double.sub x y = some _ by unfold Format.sub;rw [h1,h2];rfl)).1
theorem add_inf {x y : Nat} (hx : inf x) (hy : fin y) : fok .add x y = true ∧ inf (fop .add x y) ∧ neg (fop .add x y) = neg x:=by
 obtain ⟨n,j,h2,_⟩:=read_fin hy
 have h:=fop_eq (op:=.add) (r:=double.write (.infinity (neg x))) (show double.add x y = some _ by unfold Format.add;rw [read_inf hx,h2];rfl)
 rw [h.2]
 exact ⟨h.1,write_inf _⟩
theorem cut_zero (s : Bool) (n : Nat) : Toward.even.cut s n 0 = n:=by
 unfold Toward.cut
 simp [Nat.mod_one]
def lastp (m : Nat) (p : Int) : Int:=max (p + m.log2 - 52) (-1074)
def kept (s : Bool) (m : Nat) (p : Int) : Nat:=Toward.even.cut s (m <<< (p - lastp m p).toNat) (lastp m p - p).toNat
theorem nearest_eq (s : Bool) {m : Nat} (p : Int) (hm : m ≠ 0) : double.nearest s m p = double.word s (min ((lastp m p + 1074).toNat * 4503599627370496 + kept s m p) 9218868437227405312):=by
 unfold Format.nearest kept lastp
 rw [if_neg hm]
 have e1 : (double.fractionBits : Int) = 52:=rfl
 simp only [inf_eq,bin_eq,lp_eq,e1,Int.sub_neg]
theorem log2_hi (m : Nat) : m < 2 ^ (m.log2 + 1):=Nat.lt_log2_self
theorem cut_bounds (s : Bool) (n d : Nat) (h : 0 < n) : n / 2 ^ d ≤ Toward.even.cut s n d ∧ Toward.even.cut s n d ≤ n / 2 ^ d + 1:=by
 unfold Toward.cut
 simp only [Nat.shiftLeft_eq,Nat.one_mul]
 by_cases hd : d ≤ n.log2 + 2
 ·rw [Nat.min_eq_left hd]
  refine ⟨Nat.le_add_right _ _,?_⟩
  have : ∀ b : Bool,b.toNat ≤ 1:=by decide
  exact Nat.add_le_add_left (this _) _
 ·rw [Nat.min_eq_right (by omega)]
  have h1:=log2_hi n
  have h2 : 2 ^ (n.log2 + 1) ≤ 2 ^ d:=Nat.pow_le_pow_right (by decide) (by omega)
  have h3 : 2 ^ (n.log2 + 2) = 2 * 2 ^ (n.log2 + 1):=by rw [Nat.pow_succ,Nat.mul_comm]
  rw [Nat.div_eq_of_lt (by omega),Nat.div_eq_of_lt (by omega),Nat.mod_eq_of_lt (by omega)]
  refine ⟨Nat.zero_le _,?_⟩
  have : ∀ b : Bool,0 + b.toNat ≤ 0 + 1:=by decide
  exact this _
end Go.Proofs.Ytijmdmnhbbcahaa.QFloTallyTones
namespace Go.Proofs.Ytijmdmnhbbcahaa.QFloBTallyTones
open Go.RowKit Go.Proofs.Ytijmdmnhbbcahaa.PTallyTones Go.Proofs.YtijmdmnhbbcahaaW.PrintWords Go.Proofs.YtijmdmnhbbcahaaW.PrintLast Go.Proofs.Ytijmdmnhbbcahaa.QFloTallyTones
set_option linter.unusedVariables false
set_option linter.unusedSimpArgs false
open Ieee
theorem ord {x y : Nat} (hx : fin x) (hy : fin y) : FloatKind.f64.format.order x y = some (compare (val x) (val y)):=order_fin hx hy
theorem fin_zero : fin 0:=by unfold fin rung;decide
theorem val_zero : val 0 = 0:=by unfold val;simp [mag,rung]
theorem mag_rung {x y : Nat} (h : rung x = rung y) : mag x = mag y:=by unfold mag;rw [h]
theorem mag_zero {x : Nat} : mag x = 0 ↔ rung x = 0:=by
 unfold mag
 by_cases h : rung x < 4503599627370496
 ·rw [if_pos h]
 ·rw [if_neg h]
  have h1:=Nat.two_pow_pos (rung x / 4503599627370496 - 1)
  have h2 : 0 < (4503599627370496 + rung x % 4503599627370496) * 2 ^ (rung x / 4503599627370496 - 1):=Nat.mul_pos (by omega) h1
  omega
theorem read_zero {z : Nat} (h : rung z = 0) : double.read z = .number (neg z) 0 (-1074):=by
 unfold rung at h
 unfold Format.read neg
 simp only [sw_eq,inf_eq,bin_eq,lp_eq]
 rw [if_pos (by omega),h]
theorem word_self {x : Nat} (h : x < 18446744073709551616) : double.word (neg x) (rung x) = x:=by
 unfold Format.word neg rung
 rw [sw_eq]
 by_cases h1 : x / 9223372036854775808 % 2 = 1
 ·rw [h1];simp;omega
 ·rw [show x / 9223372036854775808 % 2 = 0 by omega];simp;omega
theorem cut_exact (s : Bool) (K d : Nat) (hK : 0 < K) : Toward.even.cut s (K * 2 ^ d) d = K:=by
 unfold Toward.cut
 have hp:=Nat.two_pow_pos d
 have h0 : K * 2 ^ d ≠ 0:=by have:=Nat.mul_pos hK hp;omega
 have h1 : d ≤ (K * 2 ^ d).log2:=(Nat.le_log2 h0).2 (Nat.le_mul_of_pos_left _ hK)
 simp only [Nat.shiftLeft_eq,Nat.one_mul]
 rw [Nat.min_eq_left (by omega),Nat.mul_div_cancel _ hp,Nat.mul_mod_left]
 have h2 : (decide (2 ^ d < 2 * 0) || (2 ^ d == 2 * 0 && K % 2 == 1)) = false:=by
  have a : decide (2 ^ d < 2 * 0) = false:=decide_eq_false (by omega)
  have b : (2 ^ d == 2 * 0) = false:=beq_false_of_ne (by omega)
  rw [a,b];rfl
 rw [h2];rfl
theorem log2_of {m e : Nat} (h1 : 2 ^ e ≤ m) (h2 : m < 2 ^ (e + 1)) : m.log2 = e:=by
 have h0 : m ≠ 0:=by have:=Nat.two_pow_pos e;omega
 have a:=(Nat.le_log2 h0).2 h1
 have b:=(Nat.log2_lt h0).2 h2
 omega
theorem nearest_self (s : Bool) {x : Nat} (hx : fin x) : double.nearest s (mag x) (-1074) = double.word s (rung x):=by
 by_cases h0 : rung x = 0
 ·rw [mag_zero.2 h0,h0]
  unfold Format.nearest
  rw [if_pos rfl]
 ·have hm : mag x ≠ 0:=fun h=>h0 (mag_zero.1 h)
  rw [nearest_eq s (-1074) hm]
  unfold fin at hx
  by_cases h : rung x < 4503599627370496
  ·have e : mag x = rung x:=by unfold mag;rw [if_pos h]
   have hl : (rung x).log2 < 52:=(Nat.log2_lt h0).2 h
   have e2 : lastp (mag x) (-1074) = -1074:=by unfold lastp;rw [e];omega
   unfold kept
   rw [e2,e]
   simp only [Int.sub_self,Int.toNat_zero,Nat.shiftLeft_zero]
   rw [cut_zero]
   congr 1
   simp
   omega
  ·obtain ⟨E,hE⟩ : ∃ E,E = rung x / 4503599627370496 - 1:=⟨_,rfl⟩
   obtain ⟨K,hK⟩ : ∃ K,K = 4503599627370496 + rung x % 4503599627370496:=⟨_,rfl⟩
   have e : mag x = K * 2 ^ E:=by unfold mag;rw [if_neg h,hE,hK]
   have hl : (mag x).log2 = 52 + E:=by
    rw [e]
    have p0 : 4503599627370496 * 2 ^ E ≤ K * 2 ^ E:=Nat.mul_le_mul_right _ (by omega)
    have p1 : K * 2 ^ E < 9007199254740992 * 2 ^ E:=Nat.mul_lt_mul_of_pos_right (by omega) (Nat.two_pow_pos E)
    refine log2_of ?_ ?_
    ·rw [Nat.pow_add];exact p0
    ·rw [show 52 + E + 1 = 53 + E by omega,Nat.pow_add];exact p1
   have e2 : lastp (mag x) (-1074) = -1074 + E:=by unfold lastp;rw [hl];omega
   unfold kept
   rw [e2,e]
   rw [show (-1074 - (-1074 + (E : Int))).toNat = 0 by omega,show (-1074 + (E : Int) - -1074).toNat = E by omega,show (-1074 + (E : Int) + 1074).toNat = E by omega,Nat.shiftLeft_zero,cut_exact s K E (by omega)]
   congr 1
   omega
theorem fop_lt {op : BinOp} {x y : Nat} : fop op x y < 18446744073709551616:=by
 unfold fop
 cases e : floatBits op .f64 x y with
 | none=>decide
 | some r =>
  have h:=floatBits_wf e
  have h2 : decide (r < 2 ^ 64) = true:=h
  exact of_decide_eq_true h2
theorem add_zero {x z : Nat} (hx : fin x) (hx2 : x < 18446744073709551616) (hz : rung z = 0) : fok .add x z = true ∧ (rung x ≠ 0 → fop .add x z = x) ∧ (rung x = 0 → rung (fop .add x z) = 0):=by
 obtain ⟨m,k,h1,h2⟩:=read_fin hx
 have hs : (Datum.number (neg x) m ((k : Int) - 1074)).sum (.number (neg z) 0 (-1074)) = some (.number (if signed (neg x) m k = 0 then neg x && neg z else signed (neg x) m k < 0) (signed (neg x) m k).natAbs (-1074)):=by
  unfold Datum.sum
  have e1 : min ((k : Int) - 1074) (-1074) = -1074:=by omega
  simp only
  rw [e1,show ((k : Int) - 1074 - -1074).toNat = k by omega,show (-1074 - -1074 : Int).toNat = 0 by decide]
  have e2 : ∀ s,signed s 0 0 = 0:=by intro s;cases s <;> rfl
  rw [e2,Int.add_zero]
 have e:=fop_eq (op:=.add) (x:=x) (y:=z) (r:=_) (show double.add x z = some _ by unfold Format.add;rw [h1,read_zero hz,hs];rfl)
 have hv : (signed (neg x) m k).natAbs = mag x:=by
  unfold signed
  rw [Nat.shiftLeft_eq,← h2]
  split <;> simp
 refine ⟨e.1,fun h0=>?_,fun h0=>?_⟩
 ·rw [e.2]
  show double.nearest _ _ _ = _
  rw [hv,nearest_self _ hx]
  have hm : mag x ≠ 0:=fun h=>h0 (mag_zero.1 h)
  have hne : signed (neg x) m k ≠ 0:=by omega
  rw [if_neg hne]
  have : (decide (signed (neg x) m k < 0)) = neg x:=by
   unfold signed
   rw [Nat.shiftLeft_eq,← h2]
   cases hn : neg x
   ·simp
   ·simp;omega
  rw [this,word_self hx2]
 ·rw [e.2]
  show rung (double.nearest _ _ _) = _
  rw [hv,nearest_self _ hx,h0]
  exact (rung_word _ (by decide)).1
theorem nn_add_fin {x y : Nat} (hx : nn x) (hy : fin y) : fok .add x y = true:=by
 rcases nn_cases hx with h|h
 ·exact add_fin h hy
 ·exact (add_inf h hy).1
end Go.Proofs.Ytijmdmnhbbcahaa.QFloBTallyTones
namespace Go.Proofs.Ytijmdmnhbbcahaa.QTalTallyTones
open Go.RowKit Go.Proofs.Ytijmdmnhbbcahaa.PTallyTones Go.Proofs.YtijmdmnhbbcahaaW.PrintWords Go.Proofs.YtijmdmnhbbcahaaW.PrintLast Go.Proofs.Ytijmdmnhbbcahaa.QFloTallyTones Go.Proofs.Ytijmdmnhbbcahaa.QFloBTallyTones
set_option linter.unusedVariables false
set_option linter.unusedSimpArgs false
open Ieee
theorem fin_nn {x : Nat} (h : fin x) : nn x:=by unfold fin at h;unfold nn;omega
theorem absB_eq {x : Nat} (h : x < 18446744073709551616) : absB x = rung x:=by
 unfold absB Go.bits
 have e1 : (BitVec.ofInt IntKind.u64.bits (x : Int)).toNat = x:=by
  rw [BitVec.toNat_ofInt]
  show ((x : Int) % ((18446744073709551616 : Nat) : Int)).toNat = x
  omega
 have e2 : (~~~(BitVec.ofInt IntKind.u64.bits 9223372036854775808)).toNat = 2 ^ 63 - 1:=by decide
 have e3 : ((BitVec.ofInt IntKind.u64.bits (x : Int)) &&& ~~~(BitVec.ofInt IntKind.u64.bits 9223372036854775808)).toNat = rung x:=by
  rw [BitVec.toNat_and,e1,e2,Nat.and_two_pow_sub_one_eq_mod];rfl
 show (IntKind.u64.wrap (((BitVec.ofInt IntKind.u64.bits (x : Int)) &&& ~~~(BitVec.ofInt IntKind.u64.bits 9223372036854775808)).toNat : Int)).toNat = _
 rw [e3]
 have h2 : rung x < 9223372036854775808:=Nat.mod_lt _ (by decide)
 have e4 : IntKind.u64.wrap (rung x : Int) = (rung x : Int):=by
  show (rung x : Int) % 18446744073709551616 = _
  omega
 rw [e4]
 omega
theorem rung_rung (x : Nat) : rung (rung x) = rung x:=by unfold rung;omega
theorem neg_rung (x : Nat) : neg (rung x) = false:=by
 unfold neg rung
 rw [show x % 9223372036854775808 / 9223372036854775808 = 0 by omega]
 rfl
theorem val_rung (x : Nat) : val (rung x) = mag x:=by
 unfold val
 rw [neg_rung,mag_rung (rung_rung x)]
 rfl
theorem fin_rung {x : Nat} (h : fin x) : fin (rung x):=by unfold fin at *;rw [rung_rung];exact h
theorem neg_flip (x : Nat) : rung (Op.negFloat .f64 x) = rung x ∧ neg (Op.negFloat .f64 x) = !neg x:=by
 have e : Op.negFloat .f64 x = x ^^^ 2 ^ 63:=rfl
 rw [e]
 constructor
 ·show (x ^^^ 2 ^ 63) % 2 ^ 63 = x % 2 ^ 63
  rw [Nat.xor_mod_two_pow,Nat.mod_self,Nat.xor_zero]
 ·show ((x ^^^ 2 ^ 63) / 2 ^ 63 % 2 == 1) = !(x / 2 ^ 63 % 2 == 1)
  rw [Nat.xor_div_two_pow,Nat.div_self (by decide)]
  have h : (x / 2 ^ 63 ^^^ 1) % 2 ^ 1 = ((x / 2 ^ 63) % 2 ^ 1) ^^^ (1 % 2 ^ 1):=Nat.xor_mod_two_pow
  rw [show (2 : Nat) ^ 1 = 2 from rfl] at h
  rw [h]
  rcases Nat.mod_two_eq_zero_or_one (x / 2 ^ 63) with g|g <;> rw [g] <;> decide
theorem isnan_eq (x : Nat) : math_IsNaN.f x = some (!decide (nn x)):=by
 unfold math_IsNaN.f
 congr 1
 by_cases h : nn x
 ·rw [decide_eq_true h]
  rcases nn_cases h with g|g
  ·rw [ord g g,Int.compare_eq_eq.mpr rfl];rfl
  ·show (double.order x x != some .eq) = false
   unfold Format.order
   rw [read_inf g]
   unfold Datum.order
   cases neg x <;> rfl
 ·rw [decide_eq_false h]
  obtain ⟨s,t,e⟩:=read_nan h
  show (double.order x x != some .eq) = true
  unfold Format.order
  rw [e]
  rfl
set_option exponentiation.threshold 4000 in
theorem mag_top {x : Nat} (h : fin x) : mag x ≤ 9007199254740991 * 2 ^ 2045:=by
 unfold fin at h
 unfold mag
 split
 ·have:=Nat.two_pow_pos 2045
  omega
 ·exact Nat.mul_le_mul (by omega) (Nat.pow_le_pow_right (by decide) (by omega))
theorem val_top : val 9218868437227405311 = ((9007199254740991 * 2 ^ 2045 : Nat) : Int):=by decide +kernel
theorem fin_top : fin 9218868437227405311:=by unfold fin rung;decide
theorem isinf_eq {x : Nat} (h : x < 18446744073709551616) (hn : nn x) : math_IsInf.f x 0 = some (!decide (fin x)):=by
 unfold math_IsInf.f math_Abs.f
 rw [if_pos rfl,absB_eq h]
 show some _ = _
 congr 1
 by_cases g : fin x
 ·rw [decide_eq_true g,ord (fin_rung g) fin_top,val_rung,val_top]
  have:=mag_top g
  have e : compare (mag x : Int) ((9007199254740991 * 2 ^ 2045 : Nat) : Int) ≠ .gt:=by
   rw [ne_eq,Int.compare_eq_gt]
   omega
  cases e2 : compare (mag x : Int) ((9007199254740991 * 2 ^ 2045 : Nat) : Int) with
  | gt=>exact absurd e2 e
  | lt=>rfl
  | eq=>rfl
 ·rw [decide_eq_false g]
  have e : rung x = 9218868437227405312:=by unfold nn at hn;unfold fin at g;omega
  rw [e]
  decide +kernel
theorem sub_self {x : Nat} (h : fin x) : rung (fop .sub x x) = 0:=by
 obtain ⟨m,k,h1,h2⟩:=read_fin h
 have hs : (Datum.number (neg x) m ((k : Int) - 1074)).sum (.number (!neg x) m ((k : Int) - 1074)) = some (.number (neg x && !neg x) 0 ((k : Int) - 1074)):=by
  unfold Datum.sum
  simp only [Int.min_self,Int.sub_self,Int.toNat_zero]
  have e2 : signed (neg x) m 0 + signed (!neg x) m 0 = 0:=by unfold signed;cases neg x <;> simp <;> omega
  rw [e2]
  rfl
 have e:=fop_eq (op:=.sub) (x:=x) (y:=x) (r:=_) (show double.sub x x = some _ by unfold Format.sub;rw [h1];show Option.map _ ((Datum.number (neg x) m ((k : Int) - 1074)).sum (.number (!neg x) m ((k : Int) - 1074))) = _;rw [hs];rfl)
 rw [e.2]
 show rung (double.nearest _ 0 _) = 0
 unfold Format.nearest
 rw [if_pos rfl]
 exact (rung_word _ (by decide)).1
theorem val_of_zero {x : Nat} (h : rung x = 0) : val x = 0:=by
 unfold val
 rw [mag_zero.2 h]
 split <;> simp
theorem fin_of_zero {x : Nat} (h : rung x = 0) : fin x:=by unfold fin;omega
theorem sub_inf_self {x : Nat} (h : inf x) : fok .sub x x = false:=by
 have e : floatBits .sub .f64 x x = none:=by
  show double.sub x x = none
  unfold Format.sub
  rw [read_inf h]
  show Option.map _ ((Datum.infinity (neg x)).sum (.infinity (!neg x))) = none
  unfold Datum.sum
  cases neg x <;> rfl
 unfold fok
 rw [e];rfl
theorem sub_nan_self {x : Nat} (h : ¬ nn x) : fok .sub x x = false:=by
 obtain ⟨s,t,e0⟩:=read_nan h
 have e : floatBits .sub .f64 x x = none:=by
  show double.sub x x = none
  unfold Format.sub
  rw [e0]
  rfl
 unfold fok
 rw [e];rfl
theorem finite_eq (x : Nat) : quarryref13_Finite.f x = some (decide (fin x)):=by
 unfold quarryref13_Finite.f
 congr 1
 by_cases g : fin x
 ·have h0:=sub_self g
  rw [decide_eq_true g,sub_fin g g,ord (fin_of_zero h0) fin_zero,val_of_zero h0,val_zero]
  rfl
 ·rw [decide_eq_false g]
  by_cases h : nn x
  ·rw [sub_inf_self (by unfold nn at h;unfold fin at g;unfold inf;omega)];rfl
  ·rw [sub_nan_self h];rfl
theorem w64 (n : Int) (h : -9223372036854775808 ≤ n) (h2 : n ≤ 9223372036854775807) : wrap64 n = n:=by unfold wrap64;omega
theorem rd_at {l : List Nat} {i : Nat} (h : i < l.length) : rdOf (0 : Nat) l (i : Int) = l[i]:=by unfold rdOf;simp [h]
theorem all_cons (x : Nat) (l : List Nat) : decide (∀ y ∈ x :: l,fin y) = (decide (fin x) && decide (∀ y ∈ l,fin y)):=by
 by_cases h : fin x <;> simp [h]
theorem tf_loop (l : List Nat) (hm : l.length < 9223372036854775807) (hw : ∀ x ∈ l,x < 18446744073709551616) : ∀ (n k i : Nat),i + n = l.length → n < k →
  tally_finite.l0 k l (l.length : Int) (i : Int) = some (decide (∀ x ∈ l.drop i,fin x))
 | 0,k + 1,i,h,_=>by
  rw [tally_finite.l0,if_neg (by omega),List.drop_eq_nil_of_le (by omega)]
  simp
 | n + 1,k + 1,i,h,hk=>by
  have hi : i < l.length:=by omega
  rw [tally_finite.l0,if_pos (by omega),if_pos (by omega),if_pos (by omega),rd_at hi,isnan_eq,List.drop_eq_getElem_cons hi,all_cons]
  by_cases g : nn l[i]
  ·rw [decide_eq_true g]
   rw [Bool.not_true,Option.bind_some,if_neg (by decide),isinf_eq (hw _ (List.getElem_mem hi)) g]
   by_cases g2 : fin l[i]
   ·rw [decide_eq_true g2]
    show tally_finite.l0 k l (l.length : Int) (wrap64 ((i : Int) + 1)) = _
    rw [w64 _ (by omega) (by omega)]
    exact tf_loop l hm hw n k (i + 1) (by omega) (by omega)
   ·rw [decide_eq_false g2]
    rfl
  ·rw [decide_eq_false g]
   show some false = _
   have g2 : ¬ fin l[i]:=fun h=>g (fin_nn h)
   rw [decide_eq_false g2]
   rfl
theorem tf_eq (l : List Nat) (k : Nat) (hk : l.length < k) (hm : l.length < 9223372036854775807) (hw : ∀ x ∈ l,x < 18446744073709551616) : tally_finite.f k l = some (decide (∀ x ∈ l,fin x)) :=
 tf_loop l hm hw l.length k 0 (by omega) hk
end Go.Proofs.Ytijmdmnhbbcahaa.QTalTallyTones
namespace Go.Proofs.Ytijmdmnhbbcahaa.QFloCTallyTones
open Go.RowKit Go.Proofs.Ytijmdmnhbbcahaa.PTallyTones Go.Proofs.YtijmdmnhbbcahaaW.PrintWords Go.Proofs.YtijmdmnhbbcahaaW.PrintLast Go.Proofs.Ytijmdmnhbbcahaa.QFloTallyTones Go.Proofs.Ytijmdmnhbbcahaa.QFloBTallyTones Go.Proofs.Ytijmdmnhbbcahaa.QTalTallyTones
set_option linter.unusedVariables false
set_option linter.unusedSimpArgs false
open Ieee
theorem whole2 {N : Int} (h1 : 1 ≤ N) (h2 : N ≤ 4611686018427387905) : fin (floatOfInt .f64 N) ∧ 4593671619917905920 ≤ rung (floatOfInt .f64 N) ∧ rung (floatOfInt .f64 N) ≤ 4904418994206670848 ∧ neg (floatOfInt .f64 N) = false:=by
 have hng : neg (floatOfInt .f64 N) = false:=by
  have h:=(nearest_nn (N < 0) N.natAbs 0).2
  show neg (double.nearest (N < 0) N.natAbs 0) = false
  rw [h]
  exact decide_eq_false (by omega)
 show fin (double.nearest (N < 0) N.natAbs 0) ∧ 4593671619917905920 ≤ rung (double.nearest (N < 0) N.natAbs 0) ∧ rung (double.nearest (N < 0) N.natAbs 0) ≤ 4904418994206670848 ∧ _
 refine ⟨?_,?_,?_,hng⟩ <;> clear hng
 all_goals
  obtain ⟨m,hm⟩ : ∃ m,m = N.natAbs:=⟨_,rfl⟩
  rw [← hm]
  have hm0 : m ≠ 0:=by omega
  have hm1 : m ≤ 4611686018427387905:=by omega
  rw [nearest_eq _ 0 hm0]
  have hl : m.log2 < 63:=(Nat.log2_lt hm0).2 (by omega)
  have e1 : lastp m 0 = (m.log2 : Int) - 52:=by unfold lastp;omega
  have hk : kept (N < 0) m 0 ≤ 9007199254740992:=by
   unfold kept
   rw [e1]
   by_cases hd : m.log2 ≤ 52
   ·rw [show ((m.log2 : Int) - 52 - 0).toNat = 0 by omega,cut_zero,Nat.shiftLeft_eq]
    have h3:=log2_hi m
    have h4 : m * 2 ^ (0 - ((m.log2 : Int) - 52)).toNat < 2 ^ (m.log2 + 1) * 2 ^ (0 - ((m.log2 : Int) - 52)).toNat:=Nat.mul_lt_mul_of_pos_right h3 (Nat.two_pow_pos _)
    rw [← Nat.pow_add,show m.log2 + 1 + (0 - ((m.log2 : Int) - 52)).toNat = 53 by omega] at h4
    omega
   ·rw [show (0 - ((m.log2 : Int) - 52)).toNat = 0 by omega,Nat.shiftLeft_zero,show ((m.log2 : Int) - 52 - 0).toNat = m.log2 - 52 by omega]
    have h3:=(cut_bounds (N < 0) m (m.log2 - 52) (by omega)).2
    have h4 : m / 2 ^ (m.log2 - 52) < 2 ^ 53:=by
     rw [Nat.div_lt_iff_lt_mul (Nat.two_pow_pos _),← Nat.pow_add,show 53 + (m.log2 - 52) = m.log2 + 1 by omega]
     exact log2_hi m
    omega
  rw [e1]
  obtain ⟨L,hL⟩ : ∃ L,L = ((m.log2 : Int) - 52 + 1074).toNat:=⟨_,rfl⟩
  rw [← hL]
  have hL1 : L ≤ 1084:=by omega
  have hL2 : 1022 ≤ L:=by omega
  generalize kept (N < 0) m 0 = K at *
  rw [Nat.min_eq_left (by omega)]
  have h5:=(rung_word (N < 0) (r:=L * 4503599627370496 + K) (by omega)).1
  first
  | (unfold fin;rw [h5];omega)
  | (rw [h5];omega)
end Go.Proofs.Ytijmdmnhbbcahaa.QFloCTallyTones
namespace Go.Proofs.Ytijmdmnhbbcahaa.QFormTallyTones
open Go.RowKit Go.Proofs.Ytijmdmnhbbcahaa.PTallyTones Go.Proofs.YtijmdmnhbbcahaaW.PrintWords Go.Proofs.YtijmdmnhbbcahaaW.PrintLast Go.Proofs.Ytijmdmnhbbcahaa.QFloTallyTones Go.Proofs.Ytijmdmnhbbcahaa.QFloBTallyTones Go.Proofs.Ytijmdmnhbbcahaa.QTalTallyTones
set_option linter.unusedVariables false
set_option linter.unusedSimpArgs false
theorem below_some {x : Nat} (h : fin x) : ∃ b,quarryref13_Below.f x = some b:=by
 unfold quarryref13_Below.f
 rw [ord h fin_zero,val_zero]
 cases e : compare (val x) 0 with
 | lt=>exact ⟨_,if_pos (by rfl)⟩
 | gt=>exact ⟨_,(if_neg (by decide)).trans (if_neg (by decide))⟩
 | eq =>
  have hv : val x = 0:=Int.compare_eq_eq.mp e
  have hm : mag x = 0:=by unfold val at hv;split at hv <;> omega
  have hr:=mag_zero.1 hm
  rw [if_neg (by decide),if_pos (by decide)]
  have o : fok .quo 4607182418800017408 x = true:=by
   refine (fop_eq (op:=.quo) (r:=_) (show Ieee.double.div 4607182418800017408 x = some _ by
    unfold Ieee.Format.div
    rw [read_zero hr,show Ieee.double.read 4607182418800017408 = .number false 4503599627370496 (-52) by decide +kernel]
    unfold Ieee.Datum.quotient
    simp only
    rw [if_pos trivial,if_neg (by decide)]
    rfl)).1
  rw [if_pos o]
  exact ⟨_,rfl⟩
theorem same_self {x : Nat} (h : fin x) : quarryref13_Same.f x x = some true:=by
 unfold quarryref13_Same.f
 obtain ⟨b,e⟩:=below_some h
 rw [ord h h,Int.compare_eq_eq.mpr rfl,if_pos (by rfl),e,Option.bind_some,Option.bind_some,if_pos (by simp)]
end Go.Proofs.Ytijmdmnhbbcahaa.QFormTallyTones
namespace Go.Proofs.Ytijmdmnhbbcahaa.QAllTallyTones
open Go.RowKit Go.Proofs.Ytijmdmnhbbcahaa.PTallyTones Go.Proofs.YtijmdmnhbbcahaaW.PrintWords Go.Proofs.YtijmdmnhbbcahaaW.PrintLast Go.Proofs.Ytijmdmnhbbcahaa.QFloTallyTones Go.Proofs.Ytijmdmnhbbcahaa.QFloBTallyTones Go.Proofs.Ytijmdmnhbbcahaa.QTalTallyTones Go.Proofs.Ytijmdmnhbbcahaa.QFormTallyTones
set_option linter.unusedVariables false
set_option linter.unusedSimpArgs false
theorem ra_loop (l : List Nat) (hm : l.length < 9223372036854775807) : ∀ (n k i : Nat),i + n = l.length → n < k →
  quarryref31_All.l0 k l (i : Int) = some (decide (∀ x ∈ l.drop i,fin x))
 | 0,k + 1,i,h,_=>by
  rw [quarryref31_All.l0,if_neg (by omega),List.drop_eq_nil_of_le (by omega)]
  simp
 | n + 1,k + 1,i,h,hk=>by
  have hi : i < l.length:=by omega
  rw [quarryref31_All.l0,if_pos (by omega),if_pos (by omega),rd_at hi,finite_eq,List.drop_eq_getElem_cons hi,all_cons]
  by_cases g2 : fin l[i]
  ·rw [decide_eq_true g2]
   show quarryref31_All.l0 k l (wrap64 ((i : Int) + 1)) = _
   rw [w64 _ (by omega) (by omega)]
   exact ra_loop l hm n k (i + 1) (by omega) (by omega)
  ·rw [decide_eq_false g2]
   rfl
theorem ra_eq (l : List Nat) (k : Nat) (hk : l.length < k) (hm : l.length < 9223372036854775807) : quarryref31_All.f k l = some (decide (∀ x ∈ l,fin x)) :=
 ra_loop l hm l.length k 0 (by omega) hk
end Go.Proofs.Ytijmdmnhbbcahaa.QAllTallyTones
namespace Go.Proofs.Ytijmdmnhbbcahaa.QLentTallyTones
open Go.RowKit Go.Proofs.Ytijmdmnhbbcahaa.PTallyTones Go.Proofs.YtijmdmnhbbcahaaW.PrintWords Go.Proofs.YtijmdmnhbbcahaaW.PrintLast Go.Proofs.Ytijmdmnhbbcahaa.QFloTallyTones Go.Proofs.Ytijmdmnhbbcahaa.QFloBTallyTones Go.Proofs.Ytijmdmnhbbcahaa.QTalTallyTones Go.Proofs.Ytijmdmnhbbcahaa.QFormTallyTones Go.Proofs.Ytijmdmnhbbcahaa.QFloCTallyTones
set_option linter.unusedVariables false
set_option linter.unusedSimpArgs false
def marks (i n : Nat) : List Nat:=(List.range' i n).map fun j=>floatOfInt .f64 ((8000024 + j : Nat) : Int)
theorem marks_len (i n : Nat) : (marks i n).length = n:=by unfold marks;simp
theorem mark_eq {i : Int} (h0 : 0 ≤ i) (h : i ≤ 100) : quarrykit_mark.f 1 i = some (8000024 + i):=by
 unfold quarrykit_mark.f
 congr 1
 rw [w64 (1 + 7) (by omega) (by omega),w64 (1000003 * (1 + 7)) (by omega) (by omega),w64 _ (by omega) (by omega)]
 omega
theorem lent_l1 (l : List Nat) (hl : l.length ≤ 1048576) : ∀ (n k i : Nat) (x : List Nat),i + n = 24 → x.length ≤ 1048576 + i → l.length ≤ x.length → quarrykit_LentFloats.l1 (k + n + 1) l x (i : Int) = some (x ++ marks i n)
 | 0,k,i,x,hi,hx,hlx=>by
  rw [show k + 0 + 1 = k + 1 by omega,quarrykit_LentFloats.l1,if_neg (by omega),if_pos (by omega),if_pos (by omega)]
  unfold marks
  simp
 | n + 1,k,i,x,hi,hx,hlx=>by
  rw [show k + (n + 1) + 1 = (k + n + 1) + 1 by omega,quarrykit_LentFloats.l1,if_pos (by omega),mark_eq (by omega) (by omega),Option.bind_some,if_pos (by omega),w64 _ (by omega) (by omega)]
  have ih:=lent_l1 l hl n k (i + 1) (x ++ [floatOfInt .f64 (8000024 + (i : Int))]) (by omega) (by simp;omega) (by simp;omega)
  rw [show (i : Int) + 1 = ((i + 1 : Nat) : Int) by omega,ih]
  congr 1
  unfold marks
  rw [List.range'_succ,List.map_cons,List.append_assoc]
  rfl
theorem lent_l0 (l : List Nat) (hl : l.length ≤ 1048576) : ∀ (n k i : Nat),i + n = l.length → quarrykit_LentFloats.l0 (k + n + 26) l (l.take i) (i : Int) = some (l ++ marks 0 24)
 | 0,k,i,hi=>by
  rw [show k + 0 + 26 = (k + 24 + 1) + 1 by omega,quarrykit_LentFloats.l0,if_neg (by omega),List.take_of_length_le (by omega)]
  exact lent_l1 l hl 24 k 0 l (by omega) (by omega) (by omega)
 | n + 1,k,i,hi=>by
  have h : i < l.length:=by omega
  rw [show k + (n + 1) + 26 = (k + n + 26) + 1 by omega,quarrykit_LentFloats.l0,if_pos (by omega),if_pos (by omega),if_pos (by rw [List.length_take];omega),rd_at h,w64 _ (by omega) (by omega)]
  have ih:=lent_l0 l hl n k (i + 1) (by omega)
  rw [List.take_succ_eq_append_getElem h] at ih
  exact ih
theorem lent_eq (l : List Nat) (hl : l.length ≤ 1048576) {k : Nat} (hk : l.length + 26 ≤ k) : quarrykit_LentFloats.f k l = some (l ++ marks 0 24):=by
 have h:=lent_l0 l hl l.length (k - l.length - 26) 0 (by omega)
 rw [show k - l.length - 26 + l.length + 26 = k by omega,List.take_zero] at h
 exact h
theorem mark_at {j : Nat} (h : j < 24) : (marks 0 24)[j]? = some (floatOfInt .f64 ((8000024 + j : Nat) : Int)):=by
 unfold marks
 rw [List.getElem?_map,List.getElem?_range' (by omega)]
 simp
theorem kept_l0 (l : List Nat) (hl : l.length ≤ 1048576) : ∀ (n k i : Nat),i + n = l.length + 24 → quarrykit_KeptFloats.l0 (k + n + 1) l (l ++ marks 0 24) (i : Int) = some true
 | 0,k,i,hi=>by
  rw [show k + 0 + 1 = k + 1 by omega,quarrykit_KeptFloats.l0,if_neg (by rw [List.length_append,marks_len];omega)]
 | n + 1,k,i,hi=>by
  have ih:=kept_l0 l hl n k (i + 1) (by omega)
  have hlen : (l ++ marks 0 24).length = l.length + 24:=by rw [List.length_append,marks_len]
  rw [show k + (n + 1) + 1 = (k + n + 1) + 1 by omega,quarrykit_KeptFloats.l0,if_pos (by rw [hlen];omega),w64 ((i : Int) + 1) (by omega) (by omega)]
  by_cases h : i < l.length
  ·have e1 : rdOf (0 : Nat) (l ++ marks 0 24) (i : Int) = l[i]:=by
    rw [rd_at (show i < (l ++ marks 0 24).length by omega),List.getElem_append_left h]
   rw [if_pos (by omega),if_pos (by omega),e1,rd_at h,if_pos rfl,if_neg (by omega)]
   exact ih
  ·have hj : i - l.length < 24:=by omega
   have e1 : rdOf (0 : Nat) (l ++ marks 0 24) (i : Int) = floatOfInt .f64 ((8000024 + (i - l.length) : Nat) : Int):=by
    rw [rd_at (show i < (l ++ marks 0 24).length by omega)]
    have h2:=mark_at hj
    have h3 : (l ++ marks 0 24)[i]? = some (floatOfInt .f64 ((8000024 + (i - l.length) : Nat) : Int)):=by
     rw [List.getElem?_append_right (by omega),h2]
    have h4:=List.getElem?_eq_getElem (l:=l ++ marks 0 24) (show i < (l ++ marks 0 24).length by omega)
    exact Option.some.inj (h4.symm.trans h3)
   have hf:=(whole2 (N:=((8000024 + (i - l.length) : Nat) : Int)) (by omega) (by omega)).1
   rw [if_neg (by omega),if_pos (by omega),if_pos (by omega),w64 _ (by omega) (by omega),mark_eq (by omega) (by omega),Option.bind_some,e1,
    show (8000024 : Int) + ((i : Int) - (l.length : Int)) = ((8000024 + (i - l.length) : Nat) : Int) by omega,ord hf hf,Int.compare_eq_eq.mpr rfl,if_pos (by rfl)]
   exact ih
theorem kept_eq (l : List Nat) (hl : l.length ≤ 1048576) {k : Nat} (hk : l.length + 25 ≤ k) : quarrykit_KeptFloats.f k (l ++ marks 0 24) l = some true:=by
 unfold quarrykit_KeptFloats.f
 rw [if_pos (by rw [List.length_append,marks_len])]
 have h:=kept_l0 l hl (l.length + 24) (k - l.length - 25) 0 (by omega)
 rw [show k - l.length - 25 + (l.length + 24) + 1 = k by omega] at h
 exact h
end Go.Proofs.Ytijmdmnhbbcahaa.QLentTallyTones
namespace Go.Proofs.Ytijmdmnhbbcahaa.QTonTallyTones
open Go.RowKit Go.Proofs.Ytijmdmnhbbcahaa.PTallyTones Go.Proofs.YtijmdmnhbbcahaaW.PrintWords Go.Proofs.YtijmdmnhbbcahaaW.PrintLast Go.Proofs.Ytijmdmnhbbcahaa.QFloTallyTones Go.Proofs.Ytijmdmnhbbcahaa.QFloBTallyTones Go.Proofs.Ytijmdmnhbbcahaa.QTalTallyTones Go.Proofs.Ytijmdmnhbbcahaa.QFormTallyTones Go.Proofs.Ytijmdmnhbbcahaa.QAllTallyTones Go.Proofs.Ytijmdmnhbbcahaa.QLentTallyTones
set_option linter.unusedVariables false
set_option linter.unusedSimpArgs false
open Ieee
structure Acc (a : Nat) : Prop where
 nn : nn a
 lt : a < 18446744073709551616
 z : rung a = 0 → a = 0
theorem acc_zero : Acc 0:=⟨by unfold QFloTallyTones.nn rung;decide,by decide,fun _=>rfl⟩
theorem zero_zero : fok .add 0 0 = true ∧ fop .add 0 0 = 0:=by decide +kernel
theorem add0 {a : Nat} (h : Acc a) : fok .add a 0 = true ∧ fop .add a 0 = a:=by
 rcases nn_cases h.nn with g|g
 ·obtain ⟨e1,e2,_⟩:=add_zero g h.lt (z:=0) rfl
  refine ⟨e1,?_⟩
  by_cases r : rung a = 0
  ·rw [h.z r];exact zero_zero.2
  ·exact e2 r
 ·have e:=fop_eq (op:=.add) (x:=a) (y:=0) (r:=double.write (.infinity (neg a))) (show double.add a 0 = some _ by unfold Format.add;rw [read_inf g,read_zero (z:=0) rfl];rfl)
  refine ⟨e.1,?_⟩
  rw [e.2]
  unfold Format.write
  rw [inf_eq]
  have:=word_self h.lt
  rw [g] at this
  exact this
theorem nearest_ne {s : Bool} {m : Nat} {p : Int} (hm : m ≠ 0) (hp : -1074 ≤ p) : rung (double.nearest s m p) ≠ 0:=by
 rw [nearest_eq s p hm]
 have hr : ∀ r,r ≤ 9218868437227405312 → rung (double.word s r) = r:=fun r h=>(rung_word s (r:=r) (by omega)).1
 rw [hr _ (Nat.min_le_right _ _)]
 by_cases h : lastp m p = -1074
 ·have hk : kept s m p = m * 2 ^ (p - lastp m p).toNat:=by
   unfold kept
   rw [show (lastp m p - p).toNat = 0 by omega,cut_zero,Nat.shiftLeft_eq]
  have:=Nat.mul_pos (Nat.pos_of_ne_zero hm) (Nat.two_pow_pos (p - lastp m p).toNat)
  omega
 ·have : -1074 ≤ lastp m p:=by unfold lastp;omega
  have : 1 ≤ (lastp m p + 1074).toNat:=by omega
  omega
theorem addx {a x : Nat} (h : Acc a) (hx : fin x) : fok .add a x = true ∧ Acc (fop .add a x):=by
 have ok : fok .add a x = true:=nn_add_fin h.nn hx
 refine ⟨ok,fop_nn ok,fop_lt,fun r=>?_⟩
 rcases nn_cases h.nn with g|g
 ·obtain ⟨m,i,h1,h2⟩:=read_fin g
  obtain ⟨n,j,h3,h4⟩:=read_fin hx
  obtain ⟨T,hT⟩ : ∃ T,T = signed (neg a) m ((i : Int) - 1074 - min ((i : Int) - 1074) ((j : Int) - 1074)).toNat + signed (neg x) n ((j : Int) - 1074 - min ((i : Int) - 1074) ((j : Int) - 1074)).toNat:=⟨_,rfl⟩
  have e:=fop_eq (op:=.add) (x:=a) (y:=x) (r:=double.nearest (if T = 0 then neg a && neg x else decide (T < 0)) T.natAbs (min ((i : Int) - 1074) ((j : Int) - 1074))) (show double.add a x = some _ by
   unfold Format.add;rw [h1,h3];unfold Datum.sum;simp only;rw [← hT];rfl)
  rw [e.2] at r ⊢
  by_cases t0 : T = 0
  ·have hn : (neg a && neg x) = false:=by
    cases na : neg a with
    | false=>rfl
    | true =>
     cases nx : neg x with
     | false=>rfl
     | true =>
      exfalso
      rw [na,nx] at hT
      unfold signed at hT
      rw [if_pos rfl,if_pos rfl] at hT
      have hm0 : m <<< ((i : Int) - 1074 - min ((i : Int) - 1074) ((j : Int) - 1074)).toNat = 0:=by
       generalize m <<< ((i : Int) - 1074 - min ((i : Int) - 1074) ((j : Int) - 1074)).toNat = u at *
       generalize n <<< ((j : Int) - 1074 - min ((i : Int) - 1074) ((j : Int) - 1074)).toNat = v at *
       omega
      rw [Nat.shiftLeft_eq] at hm0
      have hm : m = 0:=by
       rcases Nat.mul_eq_zero.1 hm0 with q|q
       ·exact q
       ·have:=Nat.two_pow_pos ((i : Int) - 1074 - min ((i : Int) - 1074) ((j : Int) - 1074)).toNat;omega
      have : a = 0:=h.z (mag_zero.1 (by rw [h2,hm,Nat.zero_mul]))
      rw [this] at na
      revert na
      decide
   rw [t0,if_pos rfl,hn]
   show double.nearest false 0 _ = 0
   unfold Format.nearest
   rw [if_pos rfl]
   rfl
  ·exact absurd r (nearest_ne (by omega) (by omega))
 ·have:=(add_inf g hx).2.1
  unfold inf at this
  omega
theorem read_flip {x : Nat} (h : fin x) (hl : x < 18446744073709551616) : double.read (Op.negFloat .f64 x) = (double.read x).opposite:=by
 obtain ⟨f1,f2⟩:=neg_flip x
 unfold fin at h
 have f3 : Op.negFloat .f64 x % 9223372036854775808 = x % 9223372036854775808:=f1
 have f4 : (Op.negFloat .f64 x / 9223372036854775808 % 2 == 1) = !(x / 9223372036854775808 % 2 == 1):=f2
 unfold rung at h
 unfold Format.read
 simp only [sw_eq,inf_eq,bin_eq,lp_eq]
 rw [f3,f4]
 by_cases h1 : x % 9223372036854775808 < 4503599627370496
 ·rw [if_pos h1,if_pos h1];rfl
 ·rw [if_neg h1,if_neg h1,if_pos h,if_pos h];rfl
theorem sub_flip {a x : Nat} (h : fin x) (hl : x < 18446744073709551616) : fok .sub a x = fok .add a (Op.negFloat .f64 x) ∧ fop .sub a x = fop .add a (Op.negFloat .f64 x):=by
 have e : floatBits .sub .f64 a x = floatBits .add .f64 a (Op.negFloat .f64 x):=by
  show double.sub a x = double.add a (Op.negFloat .f64 x)
  unfold Format.sub Format.add
  rw [read_flip h hl]
 unfold fok fop
 rw [e]
 exact ⟨rfl,rfl⟩
theorem fin_flip {x : Nat} (h : fin x) : fin (Op.negFloat .f64 x):=by unfold fin;rw [(neg_flip x).1];exact h
theorem sums (n : Nat) : ∀ (l : List Nat) (j : Nat) (a : Nat × Nat),(∀ x ∈ l,fin x ∧ x < 18446744073709551616) → Acc a.1 → Acc a.2 → ∃ r,toneSum n l j a = some r ∧ rTone n l j a = some r ∧ Acc r.1 ∧ Acc r.2
 | [],j,a,_,h1,h2=>⟨a,rfl,rfl,h1,h2⟩
 | x :: l,j,a,hl,h1,h2=>by
  obtain ⟨fx,lx⟩:=hl x (by simp)
  have hl2 : ∀ y ∈ l,fin y ∧ y < 18446744073709551616:=fun y hy=>hl y (by simp [hy])
  obtain ⟨m,hm⟩ : ∃ m,m = ((n : Int) * ((j : Int) % 4)) % 4:=⟨_,rfl⟩
  rw [toneSum,rTone,← hm]
  obtain ⟨z1,z2⟩:=add0 h1
  obtain ⟨y1,y2⟩:=add0 h2
  obtain ⟨s1,s2⟩:=addx h1 fx
  obtain ⟨s3,s4⟩:=addx h2 fx
  obtain ⟨d1,d2⟩:=addx h1 (fin_flip fx)
  obtain ⟨d3,d4⟩:=addx h2 (fin_flip fx)
  obtain ⟨b1,b2⟩:=sub_flip (a:=a.1) fx lx
  obtain ⟨b3,b4⟩:=sub_flip (a:=a.2) fx lx
  unfold turnV
  by_cases m0 : m = 0
  ·rw [if_pos m0,if_pos m0,if_pos s1,if_pos y1,if_pos s1,y2]
   exact sums n l (j + 1) _ hl2 s2 h2
  ·rw [if_neg m0,if_neg m0]
   by_cases m1 : m = 1
   ·rw [if_pos m1,if_pos m1,if_pos z1,if_pos d3,if_pos (b3.trans d3),z2,b4]
    exact sums n l (j + 1) _ hl2 h1 d4
   ·rw [if_neg m1,if_neg m1]
    by_cases m2 : m = 2
    ·rw [if_pos m2,if_pos m2,if_pos d1,if_pos y1,if_pos (b1.trans d1),y2,b2]
     exact sums n l (j + 1) _ hl2 d2 h2
    ·rw [if_neg m2,if_neg m2,if_pos z1,if_pos s3,if_pos s3,z2]
     exact sums n l (j + 1) _ hl2 h1 s4
theorem same_list : ∀ ps : List (Nat × Nat),(∀ p ∈ ps,fin p.1 ∧ fin p.2) → tonesSame ps ps = some true
 | [],_=>rfl
 | p :: ps,h=>by
  obtain ⟨a,b⟩:=h p (by simp)
  rw [tonesSame,same_self a,Option.bind_some,if_pos rfl,same_self b,Option.bind_some,if_pos rfl]
  exact same_list ps (fun q hq=>h q (by simp [hq]))
theorem go_eq {k : Nat} (hk : 3 < k) (l : List Nat) (hl : ∀ x ∈ l,fin x ∧ x < 18446744073709551616) : ∀ (d : Nat) (P : List (Nat × Nat)),(∀ p ∈ P,fin p.1 ∧ fin p.2) → ∃ r : List (Nat × Nat) × Int,tonesGo k l d P = some r ∧ rTonesGo l d P = some r ∧ ∀ p ∈ r.1,fin p.1 ∧ fin p.2
 | 0,P,h=>⟨(P,0),rfl,rfl,h⟩
 | d + 1,P,h=>by
  obtain ⟨r,r1,r2,a1,a2⟩:=sums P.length l 0 (0,0) hl acc_zero acc_zero
  have zz : ∀ p ∈ [((0 : Nat),(0 : Nat)),(0,0),(0,0),(0,0)],fin p.1 ∧ fin p.2:=by
   intro p hp;simp only [List.mem_cons,List.not_mem_nil,or_false,or_self] at hp;subst hp;exact ⟨fin_zero,fin_zero⟩
  rw [tonesGo,rTonesGo,r1,r2,Option.bind_some,Option.bind_some,tf_eq [r.1,r.2] k (by simp;omega) (by simp) (by intro x hx;simp only [List.mem_cons,List.not_mem_nil,or_false] at hx;rcases hx with rfl|rfl <;> first|exact a1.lt|exact a2.lt),Option.bind_some,finite_eq,Option.bind_some]
  by_cases f1 : fin r.1
  ·rw [decide_eq_true f1,if_pos rfl,finite_eq,Option.bind_some]
   by_cases f2 : fin r.2
   ·rw [decide_eq_true f2,if_pos rfl,decide_eq_true (by intro x hx;simp only [List.mem_cons,List.not_mem_nil,or_false] at hx;rcases hx with rfl|rfl <;> first|exact f1|exact f2),if_pos rfl]
    refine go_eq hk l hl d (P ++ [r]) ?_
    intro p hp
    rw [List.mem_append,List.mem_singleton] at hp
    rcases hp with hp|rfl
    ·exact h p hp
    ·exact ⟨f1,f2⟩
   ·rw [decide_eq_false f2,decide_eq_false (p:=∀ x ∈ [r.1,r.2],fin x) (fun g=>f2 (g r.2 (by simp))),if_neg (show ¬ (false = true) by decide),if_neg (show ¬ (false = true) by decide)]
    exact ⟨_,rfl,rfl,zz⟩
  ·rw [decide_eq_false f1,decide_eq_false (p:=∀ x ∈ [r.1,r.2],fin x) (fun g=>f1 (g r.1 (by simp))),if_neg (show ¬ (false = true) by decide),if_neg (show ¬ (false = true) by decide)]
   exact ⟨_,rfl,rfl,zz⟩
end Go.Proofs.Ytijmdmnhbbcahaa.QTonTallyTones
namespace Go.Proofs.Ytijmdmnhbbcahaa.Pure
open Go.RowKit Go.Proofs.Ytijmdmnhbbcahaa.PTallyTones Go.Proofs.YtijmdmnhbbcahaaW.PrintWords Go.Proofs.YtijmdmnhbbcahaaW.PrintLast Go.Proofs.Ytijmdmnhbbcahaa.QFloTallyTones Go.Proofs.Ytijmdmnhbbcahaa.QFloBTallyTones Go.Proofs.Ytijmdmnhbbcahaa.QTalTallyTones Go.Proofs.Ytijmdmnhbbcahaa.QFormTallyTones Go.Proofs.Ytijmdmnhbbcahaa.QAllTallyTones Go.Proofs.Ytijmdmnhbbcahaa.QLentTallyTones Go.Proofs.Ytijmdmnhbbcahaa.QTonTallyTones
theorem wf_lt {x : Nat} (h : (Lit.float .f64 x).wf = true) : x < 18446744073709551616:=by
 have h2 : decide (x < 2 ^ 64) = true:=h
 exact of_decide_eq_true h2
theorem sum_one : ∀ l : List Nat,(l.map (fun x=>1)).sum = l.length
 | []=>rfl
 | x :: l=>by rw [List.map_cons,List.sum_cons,sum_one l,List.length_cons];omega
theorem TallyTones : quarrylaw31_TallyTones.Pure:=by
 intro l hw hs
 rw [sum_one] at hs
 have hl : l.length ≤ 1048576:=by omega
 have hwl : ∀ x ∈ l,x < 18446744073709551616:=fun x hx=>wf_lt (hw.2 x hx)
 refine ⟨l.length + 30,?_⟩
 have key : ∃ r : List (Nat × Nat) × Int,tally_Tones.f (l.length + 30) l = some r ∧ quarryref31_Tones.f (l.length + 30) l = some r ∧ ∀ p ∈ r.1,fin p.1 ∧ fin p.2:=by
  unfold tally_Tones.f quarryref31_Tones.f
  rw [tf_eq l _ (by omega) (by omega) hwl,ra_eq l _ (by omega) (by omega),Option.bind_some,Option.bind_some]
  by_cases g : ∀ x ∈ l,fin x
  ·rw [decide_eq_true g,if_pos rfl,if_pos rfl]
   exact go_eq (by omega) l (fun x hx=>⟨g x hx,hwl x hx⟩) 4 [] (by intro p hp;cases hp)
  ·rw [decide_eq_false g,if_neg (by decide),if_neg (by decide)]
   refine ⟨_,rfl,rfl,?_⟩
   intro p hp;simp only [List.mem_cons,List.not_mem_nil,or_false,or_self] at hp;subst hp;exact ⟨fin_zero,fin_zero⟩
 obtain ⟨r,e1,e2,hr⟩:=key
 unfold quarrylaw31_TallyTones.f
 rw [lent_eq l hl (by omega),Option.bind_some,List.take_left',e1,Option.bind_some,e2,Option.bind_some,if_pos rfl,kept_eq l hl (by omega),Option.bind_some,if_pos rfl,same_list _ hr]
 ·rfl
 ·rfl
end Go.Proofs.Ytijmdmnhbbcahaa.Pure
