/- Two tallies put together: the program's answer is the document's, bit for bit. -/
import Derived.Test.YtijmdmnhbbcahaaZDefTallyJoins
namespace Go.Proofs.Ytijmdmnhbbcahaa.QFloTallyJoins
open Go.RowKit Go.Proofs.Ytijmdmnhbbcahaa.PTallyJoins Go.Proofs.YtijmdmnhbbcahaaW.PrintWords Go.Proofs.YtijmdmnhbbcahaaW.PrintLast
set_option linter.unusedVariables false
set_option linter.unusedSimpArgs false
open Ieee
theorem sw_eq : Format.signWeight double = 9223372036854775808:=by decide
theorem inf_eq : Format.infRung double = 9218868437227405312:=by decide
theorem bin_eq : Format.binade double = 4503599627370496:=by decide
theorem lp_eq : Format.leastPlace double = -1074:=by decide
def rung (x : Nat) : Nat:=x % 9223372036854775808
@[reducible] def fin (x : Nat) : Prop:=rung x < 9218868437227405312
@[reducible] def nn (x : Nat) : Prop:=rung x ≤ 9218868437227405312
def neg (x : Nat) : Bool:=x / 9223372036854775808 % 2 == 1
def mag (x : Nat) : Nat:=if rung x < 4503599627370496 then rung x else (4503599627370496 + rung x % 4503599627370496) * 2 ^ (rung x / 4503599627370496 - 1)
def val (x : Nat) : Int:=if neg x then -(mag x : Int) else (mag x : Int)
theorem read_fin {x : Nat} (h : fin x) : ∃ (m : Nat) (k : Nat),double.read x = .number (neg x) m ((k : Int) - 1074) ∧ mag x = m * 2 ^ k:=by
 unfold fin rung at h
 unfold Format.read mag rung neg
 simp only [sw_eq,inf_eq,bin_eq,lp_eq]
 by_cases h1 : x % 9223372036854775808 < 4503599627370496
 ·rw [if_pos h1,if_pos h1]
  exact ⟨x % 9223372036854775808,0,rfl,by simp⟩
 ·rw [if_neg h1,if_pos h,if_neg h1]
  exact ⟨_,_,by congr 1,rfl⟩
theorem read_inf {x : Nat} (h : rung x = 9218868437227405312) : double.read x = .infinity (neg x):=by
 unfold rung at h
 unfold Format.read neg
 simp only [sw_eq,inf_eq,bin_eq,lp_eq]
 rw [if_neg (by omega),if_neg (by omega),if_pos h]
theorem read_nan {x : Nat} (h : ¬ nn x) : ∃ s t,double.read x = .nan s t:=by
 unfold nn rung at h
 unfold Format.read
 simp only [sw_eq,inf_eq,bin_eq,lp_eq]
 rw [if_neg (by omega),if_neg (by omega),if_neg (by omega)]
 exact ⟨_,_,rfl⟩
theorem signed_mul (s : Bool) (m a : Nat) (k : Nat) : signed s m (a + k) = signed s m a * (2 ^ k : Nat):=by
 unfold signed
 have e : m <<< (a + k) = (m <<< a) * 2 ^ k:=by rw [Nat.shiftLeft_eq,Nat.shiftLeft_eq,Nat.pow_add,Nat.mul_assoc]
 rw [e]
 cases s <;> simp [Int.natCast_mul,Int.neg_mul]
theorem val_signed {x : Nat} {m k : Nat} (h : mag x = m * 2 ^ k) : val x = signed (neg x) m k:=by
 unfold val signed
 rw [h,Nat.shiftLeft_eq]
theorem cmp_mul (a b : Int) (c : Nat) (hc : 0 < c) : compare (a * c) (b * c) = compare a b:=by
 have hc' : (0 : Int) < c:=by omega
 rcases Int.lt_trichotomy a b with h|h|h
 ·rw [Int.compare_eq_lt.mpr h,Int.compare_eq_lt];exact Int.mul_lt_mul_of_pos_right h hc'
 ·subst h;rw [Int.compare_eq_eq.mpr rfl];exact (Int.compare_eq_eq.mpr rfl).symm
 ·rw [Int.compare_eq_gt.mpr h,Int.compare_eq_gt];exact Int.mul_lt_mul_of_pos_right h hc'
theorem order_fin {x y : Nat} (hx : fin x) (hy : fin y) : double.order x y = some (compare (val x) (val y)):=by
 obtain ⟨m,i,h1,h2⟩:=read_fin hx
 obtain ⟨n,j,h3,h4⟩:=read_fin hy
 unfold Format.order
 rw [h1,h3]
 unfold Datum.order
 simp only
 rw [val_signed h2,val_signed h4]
 congr 1
 have e1 : ((i : Int) - 1074 - min ((i : Int) - 1074) ((j : Int) - 1074)).toNat = i - min i j:=by omega
 have e2 : ((j : Int) - 1074 - min ((i : Int) - 1074) ((j : Int) - 1074)).toNat = j - min i j:=by omega
 rw [e1,e2]
 have a1:=signed_mul (neg x) m (i - min i j) (min i j)
 have a2:=signed_mul (neg y) n (j - min i j) (min i j)
 rw [Nat.sub_add_cancel (Nat.min_le_left i j)] at a1
 rw [Nat.sub_add_cancel (Nat.min_le_right i j)] at a2
 rw [a1,a2,cmp_mul _ _ _ (Nat.two_pow_pos _)]
theorem rung_word (s : Bool) {r : Nat} (h : r < 9223372036854775808) : rung (double.word s r) = r ∧ neg (double.word s r) = s:=by
 unfold Format.word rung neg
 rw [sw_eq]
 cases s
 ·rw [if_neg (by decide)]
  exact ⟨by omega,by rw [show r / 9223372036854775808 = 0 by omega];rfl⟩
 ·rw [if_pos rfl]
  exact ⟨by omega,by rw [show (9223372036854775808 + r) / 9223372036854775808 = 1 by omega];rfl⟩
theorem nearest_nn (s : Bool) (m : Nat) (p : Int) : nn (double.nearest s m p) ∧ neg (double.nearest s m p) = s:=by
 unfold Format.nearest nn
 dsimp only
 split
 ·have h:=rung_word s (r:=0) (by decide)
  exact ⟨by rw [h.1];decide,h.2⟩
 ·rw [inf_eq]
  generalize hr : min _ 9218868437227405312 = r
  have hle : r ≤ 9218868437227405312:=by rw [← hr];exact Nat.min_le_right _ _
  have h:=rung_word s (r:=r) (by omega)
  exact ⟨by rw [h.1];exact hle,h.2⟩
theorem write_inf (s : Bool) : rung (double.write (.infinity s)) = 9218868437227405312 ∧ neg (double.write (.infinity s)) = s:=by
 unfold Format.write
 simp only [inf_eq]
 exact rung_word s (by decide)
theorem write_nn {d : Datum} (h : d.isNaN = false) : nn (double.write d):=by
 cases d with
 | number s m p=>exact (nearest_nn s m p).1
 | infinity s=>unfold nn;rw [(write_inf s).1];exact Nat.le_refl _
 | nan s t=>cases h
theorem nn_cases {x : Nat} (h : nn x) : fin x ∨ rung x = 9218868437227405312:=by
 unfold nn at h;unfold fin;omega
theorem sum_nn {d e r : Datum} (h : d.sum e = some r) : r.isNaN = false:=by
 unfold Datum.sum at h
 split at h <;> first|(cases h;done)|skip
 ·split at h
  ·cases h;rfl
  ·cases h
 ·cases h;rfl
 ·cases h;rfl
 ·cases h;rfl
theorem product_nn {d e r : Datum} (h : d.product e = some r) : r.isNaN = false:=by
 unfold Datum.product at h
 split at h <;> first|(cases h;done)|skip
 ·cases h;rfl
 ·split at h
  ·cases h
  ·cases h;rfl
 ·split at h
  ·cases h
  ·cases h;rfl
 ·cases h;rfl
theorem quotient_nn {k : Nat} {d e r : Datum} (h : Datum.quotient k d e = some r) : r.isNaN = false:=by
 unfold Datum.quotient at h
 split at h <;> first|(cases h;done)|skip
 ·cases h;rfl
 ·cases h;rfl
 ·split at h
  ·split at h
   ·cases h
   ·cases h;rfl
  ·cases h;rfl
theorem fop_eq {op : BinOp} {x y r : Nat} (h : floatBits op .f64 x y = some r) : fok op x y = true ∧ fop op x y = r:=by
 unfold fok fop;rw [h];exact ⟨rfl,rfl⟩
theorem fop_nn {op : BinOp} {x y : Nat} (h : fok op x y = true) : nn (fop op x y):=by
 unfold fok at h
 unfold fop
 cases e : floatBits op .f64 x y with
 | none=>rw [e] at h;cases h
 | some r =>
  show nn r
  unfold floatBits at e
  split at e <;> first|(cases e;done)|skip
  ·obtain ⟨d,hd,rfl⟩:=Option.map_eq_some_iff.mp e;exact write_nn (sum_nn hd)
  ·obtain ⟨d,hd,rfl⟩:=Option.map_eq_some_iff.mp e;exact write_nn (sum_nn hd)
  ·obtain ⟨d,hd,rfl⟩:=Option.map_eq_some_iff.mp e;exact write_nn (product_nn hd)
  ·obtain ⟨d,hd,rfl⟩:=Option.map_eq_some_iff.mp e;exact write_nn (quotient_nn hd)
def inf (x : Nat) : Prop:=rung x = 9218868437227405312
theorem add_fin {x y : Nat} (hx : fin x) (hy : fin y) : fok .add x y = true:=by
 obtain ⟨m,i,h1,_⟩:=read_fin hx
 obtain ⟨n,j,h2,_⟩:=read_fin hy
 exact (fop_eq (op:=.add) (show double.add x y = some _ by unfold Format.add;rw [h1,h2];rfl)).1
theorem sub_fin {x y : Nat} (hx : fin x) (hy : fin y) : fok .sub x y = true:=by
 obtain ⟨m,i,h1,_⟩:=read_fin hx
 obtain ⟨n,j,h2,_⟩:=read_fin hy
 exact (fop_eq (op:=.sub) (show double.sub x y = some _ by unfold Format.sub;rw [h1,h2];rfl)).1
theorem mul_fin {x y : Nat} (hx : fin x) (hy : fin y) : fok .mul x y = true:=by
 obtain ⟨m,i,h1,_⟩:=read_fin hx
 obtain ⟨n,j,h2,_⟩:=read_fin hy
 exact (fop_eq (op:=.mul) (show double.mul x y = some _ by unfold Format.mul;rw [h1,h2];rfl)).1
theorem add_inf {x y : Nat} (hx : inf x) (hy : fin y) : fok .add x y = true ∧ inf (fop .add x y) ∧ neg (fop .add x y) = neg x:=by
 obtain ⟨n,j,h2,_⟩:=read_fin hy
 have h:=fop_eq (op:=.add) (r:=double.write (.infinity (neg x))) (show double.add x y = some _ by unfold Format.add;rw [read_inf hx,h2];rfl)
 rw [h.2]
 exact ⟨h.1,write_inf _⟩
theorem fin_add_inf {x y : Nat} (hx : fin x) (hy : inf y) : fok .add x y = true ∧ inf (fop .add x y) ∧ neg (fop .add x y) = neg y:=by
 obtain ⟨n,j,h2,_⟩:=read_fin hx
 have h:=fop_eq (op:=.add) (r:=double.write (.infinity (neg y))) (show double.add x y = some _ by unfold Format.add;rw [read_inf hy,h2];rfl)
 rw [h.2]
 exact ⟨h.1,write_inf _⟩
theorem fin_sub_inf {x y : Nat} (hx : fin x) (hy : inf y) : fok .sub x y = true ∧ inf (fop .sub x y) ∧ neg (fop .sub x y) = !neg y:=by
 obtain ⟨n,j,h2,_⟩:=read_fin hx
 have h:=fop_eq (op:=.sub) (r:=double.write (.infinity (!neg y))) (show double.sub x y = some _ by unfold Format.sub;rw [read_inf hy,h2];rfl)
 rw [h.2]
 exact ⟨h.1,write_inf _⟩
theorem cut_zero (s : Bool) (n : Nat) : Toward.even.cut s n 0 = n:=by
 unfold Toward.cut
 simp [Nat.mod_one]
def lastp (m : Nat) (p : Int) : Int:=max (p + m.log2 - 52) (-1074)
def kept (s : Bool) (m : Nat) (p : Int) : Nat:=Toward.even.cut s (m <<< (p - lastp m p).toNat) (lastp m p - p).toNat
theorem nearest_eq (s : Bool) {m : Nat} (p : Int) (hm : m ≠ 0) : double.nearest s m p = double.word s (min ((lastp m p + 1074).toNat * 4503599627370496 + kept s m p) 9218868437227405312):=by
 unfold Format.nearest kept lastp
 rw [if_neg hm]
 have e1 : (double.fractionBits : Int) = 52:=rfl
 simp only [inf_eq,bin_eq,lp_eq,e1,Int.sub_neg]
theorem log2_hi (m : Nat) : m < 2 ^ (m.log2 + 1):=Nat.lt_log2_self
theorem cut_bounds (s : Bool) (n d : Nat) (h : 0 < n) : n / 2 ^ d ≤ Toward.even.cut s n d ∧ Toward.even.cut s n d ≤ n / 2 ^ d + 1:=by
 unfold Toward.cut
 simp only [Nat.shiftLeft_eq,Nat.one_mul]
 by_cases hd : d ≤ n.log2 + 2
 ·rw [Nat.min_eq_left hd]
  refine ⟨Nat.le_add_right _ _,?_⟩
  have : ∀ b : Bool,b.toNat ≤ 1:=by decide
  exact Nat.add_le_add_left (this _) _
 ·rw [Nat.min_eq_right (by omega)]
  have h1:=log2_hi n
  have h2 : 2 ^ (n.log2 + 1) ≤ 2 ^ d:=Nat.pow_le_pow_right (by decide) (by omega)
  have h3 : 2 ^ (n.log2 + 2) = 2 * 2 ^ (n.log2 + 1):=by rw [Nat.pow_succ,Nat.mul_comm]
  rw [Nat.div_eq_of_lt (by omega),Nat.div_eq_of_lt (by omega),Nat.mod_eq_of_lt (by omega)]
  refine ⟨Nat.zero_le _,?_⟩
  have : ∀ b : Bool,0 + b.toNat ≤ 0 + 1:=by decide
  exact this _
end Go.Proofs.Ytijmdmnhbbcahaa.QFloTallyJoins
namespace Go.Proofs.Ytijmdmnhbbcahaa.QFloBTallyJoins
open Go.RowKit Go.Proofs.Ytijmdmnhbbcahaa.PTallyJoins Go.Proofs.YtijmdmnhbbcahaaW.PrintWords Go.Proofs.YtijmdmnhbbcahaaW.PrintLast Go.Proofs.Ytijmdmnhbbcahaa.QFloTallyJoins
set_option linter.unusedVariables false
set_option linter.unusedSimpArgs false
open Ieee
theorem ord {x y : Nat} (hx : fin x) (hy : fin y) : FloatKind.f64.format.order x y = some (compare (val x) (val y)):=order_fin hx hy
theorem fin_zero : fin 0:=by unfold fin rung;decide
theorem val_zero : val 0 = 0:=by unfold val;simp [mag,rung]
theorem mag_rung {x y : Nat} (h : rung x = rung y) : mag x = mag y:=by unfold mag;rw [h]
theorem mag_zero {x : Nat} : mag x = 0 ↔ rung x = 0:=by
 unfold mag
 by_cases h : rung x < 4503599627370496
 ·rw [if_pos h]
 ·rw [if_neg h]
  have h1:=Nat.two_pow_pos (rung x / 4503599627370496 - 1)
  have h2 : 0 < (4503599627370496 + rung x % 4503599627370496) * 2 ^ (rung x / 4503599627370496 - 1):=Nat.mul_pos (by omega) h1
  omega
theorem read_zero {z : Nat} (h : rung z = 0) : double.read z = .number (neg z) 0 (-1074):=by
 unfold rung at h
 unfold Format.read neg
 simp only [sw_eq,inf_eq,bin_eq,lp_eq]
 rw [if_pos (by omega),h]
theorem log2_of {m e : Nat} (h1 : 2 ^ e ≤ m) (h2 : m < 2 ^ (e + 1)) : m.log2 = e:=by
 have h0 : m ≠ 0:=by have:=Nat.two_pow_pos e;omega
 have a:=(Nat.le_log2 h0).2 h1
 have b:=(Nat.log2_lt h0).2 h2
 omega
theorem fop_lt {op : BinOp} {x y : Nat} : fop op x y < 18446744073709551616:=by
 unfold fop
 cases e : floatBits op .f64 x y with
 | none=>decide
 | some r =>
  have h:=floatBits_wf e
  have h2 : decide (r < 2 ^ 64) = true:=h
  exact of_decide_eq_true h2
theorem mul_inf_inf {x y : Nat} (hx : inf x) (hy : inf y) : fok .mul x y = true :=
 (fop_eq (op:=.mul) (show double.mul x y = some _ by unfold Format.mul;rw [read_inf hx,read_inf hy];rfl)).1
theorem nn_add_fin {x y : Nat} (hx : nn x) (hy : fin y) : fok .add x y = true:=by
 rcases nn_cases hx with h|h
 ·exact add_fin h hy
 ·exact (add_inf h hy).1
theorem fin_add_nn {x y : Nat} (hx : fin x) (hy : nn y) : fok .add x y = true:=by
 rcases nn_cases hy with h|h
 ·exact add_fin hx h
 ·exact (fin_add_inf hx h).1
theorem fin_sub_nn {x y : Nat} (hx : fin x) (hy : nn y) : fok .sub x y = true:=by
 rcases nn_cases hy with h|h
 ·exact sub_fin hx h
 ·exact (fin_sub_inf hx h).1
end Go.Proofs.Ytijmdmnhbbcahaa.QFloBTallyJoins
namespace Go.Proofs.Ytijmdmnhbbcahaa.QTalTallyJoins
open Go.RowKit Go.Proofs.Ytijmdmnhbbcahaa.PTallyJoins Go.Proofs.YtijmdmnhbbcahaaW.PrintWords Go.Proofs.YtijmdmnhbbcahaaW.PrintLast Go.Proofs.Ytijmdmnhbbcahaa.QFloTallyJoins Go.Proofs.Ytijmdmnhbbcahaa.QFloBTallyJoins
set_option linter.unusedVariables false
set_option linter.unusedSimpArgs false
open Ieee
theorem fin_nn {x : Nat} (h : fin x) : nn x:=by unfold fin at h;unfold nn;omega
theorem absB_eq {x : Nat} (h : x < 18446744073709551616) : absB x = rung x:=by
 unfold absB Go.bits
 have e1 : (BitVec.ofInt IntKind.u64.bits (x : Int)).toNat = x:=by
  rw [BitVec.toNat_ofInt]
  show ((x : Int) % ((18446744073709551616 : Nat) : Int)).toNat = x
  omega
 have e2 : (~~~(BitVec.ofInt IntKind.u64.bits 9223372036854775808)).toNat = 2 ^ 63 - 1:=by decide
 have e3 : ((BitVec.ofInt IntKind.u64.bits (x : Int)) &&& ~~~(BitVec.ofInt IntKind.u64.bits 9223372036854775808)).toNat = rung x:=by
  rw [BitVec.toNat_and,e1,e2,Nat.and_two_pow_sub_one_eq_mod];rfl
 show (IntKind.u64.wrap (((BitVec.ofInt IntKind.u64.bits (x : Int)) &&& ~~~(BitVec.ofInt IntKind.u64.bits 9223372036854775808)).toNat : Int)).toNat = _
 rw [e3]
 have h2 : rung x < 9223372036854775808:=Nat.mod_lt _ (by decide)
 have e4 : IntKind.u64.wrap (rung x : Int) = (rung x : Int):=by
  show (rung x : Int) % 18446744073709551616 = _
  omega
 rw [e4]
 omega
theorem rung_rung (x : Nat) : rung (rung x) = rung x:=by unfold rung;omega
theorem neg_rung (x : Nat) : neg (rung x) = false:=by
 unfold neg rung
 rw [show x % 9223372036854775808 / 9223372036854775808 = 0 by omega]
 rfl
theorem val_rung (x : Nat) : val (rung x) = mag x:=by
 unfold val
 rw [neg_rung,mag_rung (rung_rung x)]
 rfl
theorem fin_rung {x : Nat} (h : fin x) : fin (rung x):=by unfold fin at *;rw [rung_rung];exact h
theorem neg_flip (x : Nat) : rung (Op.negFloat .f64 x) = rung x ∧ neg (Op.negFloat .f64 x) = !neg x:=by
 have e : Op.negFloat .f64 x = x ^^^ 2 ^ 63:=rfl
 rw [e]
 constructor
 ·show (x ^^^ 2 ^ 63) % 2 ^ 63 = x % 2 ^ 63
  rw [Nat.xor_mod_two_pow,Nat.mod_self,Nat.xor_zero]
 ·show ((x ^^^ 2 ^ 63) / 2 ^ 63 % 2 == 1) = !(x / 2 ^ 63 % 2 == 1)
  rw [Nat.xor_div_two_pow,Nat.div_self (by decide)]
  have h : (x / 2 ^ 63 ^^^ 1) % 2 ^ 1 = ((x / 2 ^ 63) % 2 ^ 1) ^^^ (1 % 2 ^ 1):=Nat.xor_mod_two_pow
  rw [show (2 : Nat) ^ 1 = 2 from rfl] at h
  rw [h]
  rcases Nat.mod_two_eq_zero_or_one (x / 2 ^ 63) with g|g <;> rw [g] <;> decide
theorem val_flip (x : Nat) : val (Op.negFloat .f64 x) = - val x:=by
 unfold val
 rw [(neg_flip x).2,mag_rung (neg_flip x).1]
 cases neg x <;> simp
theorem isnan_eq (x : Nat) : math_IsNaN.f x = some (!decide (nn x)):=by
 unfold math_IsNaN.f
 congr 1
 by_cases h : nn x
 ·rw [decide_eq_true h]
  rcases nn_cases h with g|g
  ·rw [ord g g,Int.compare_eq_eq.mpr rfl];rfl
  ·show (double.order x x != some .eq) = false
   unfold Format.order
   rw [read_inf g]
   unfold Datum.order
   cases neg x <;> rfl
 ·rw [decide_eq_false h]
  obtain ⟨s,t,e⟩:=read_nan h
  show (double.order x x != some .eq) = true
  unfold Format.order
  rw [e]
  rfl
set_option exponentiation.threshold 4000 in
theorem mag_top {x : Nat} (h : fin x) : mag x ≤ 9007199254740991 * 2 ^ 2045:=by
 unfold fin at h
 unfold mag
 split
 ·have:=Nat.two_pow_pos 2045
  omega
 ·exact Nat.mul_le_mul (by omega) (Nat.pow_le_pow_right (by decide) (by omega))
theorem val_top : val 9218868437227405311 = ((9007199254740991 * 2 ^ 2045 : Nat) : Int):=by decide +kernel
theorem fin_top : fin 9218868437227405311:=by unfold fin rung;decide
theorem isinf_eq {x : Nat} (h : x < 18446744073709551616) (hn : nn x) : math_IsInf.f x 0 = some (!decide (fin x)):=by
 unfold math_IsInf.f math_Abs.f
 rw [if_pos rfl,absB_eq h]
 show some _ = _
 congr 1
 by_cases g : fin x
 ·rw [decide_eq_true g,ord (fin_rung g) fin_top,val_rung,val_top]
  have:=mag_top g
  have e : compare (mag x : Int) ((9007199254740991 * 2 ^ 2045 : Nat) : Int) ≠ .gt:=by
   rw [ne_eq,Int.compare_eq_gt]
   omega
  cases e2 : compare (mag x : Int) ((9007199254740991 * 2 ^ 2045 : Nat) : Int) with
  | gt=>exact absurd e2 e
  | lt=>rfl
  | eq=>rfl
 ·rw [decide_eq_false g]
  have e : rung x = 9218868437227405312:=by unfold nn at hn;unfold fin at g;omega
  rw [e]
  decide +kernel
theorem sub_self {x : Nat} (h : fin x) : rung (fop .sub x x) = 0:=by
 obtain ⟨m,k,h1,h2⟩:=read_fin h
 have hs : (Datum.number (neg x) m ((k : Int) - 1074)).sum (.number (!neg x) m ((k : Int) - 1074)) = some (.number (neg x && !neg x) 0 ((k : Int) - 1074)):=by
  unfold Datum.sum
  simp only [Int.min_self,Int.sub_self,Int.toNat_zero]
  have e2 : signed (neg x) m 0 + signed (!neg x) m 0 = 0:=by unfold signed;cases neg x <;> simp <;> omega
  rw [e2]
  rfl
 have e:=fop_eq (op:=.sub) (x:=x) (y:=x) (r:=_) (show double.sub x x = some _ by unfold Format.sub;rw [h1];show Option.map _ ((Datum.number (neg x) m ((k : Int) - 1074)).sum (.number (!neg x) m ((k : Int) - 1074))) = _;rw [hs];rfl)
 rw [e.2]
 show rung (double.nearest _ 0 _) = 0
 unfold Format.nearest
 rw [if_pos rfl]
 exact (rung_word _ (by decide)).1
theorem val_of_zero {x : Nat} (h : rung x = 0) : val x = 0:=by
 unfold val
 rw [mag_zero.2 h]
 split <;> simp
theorem fin_of_zero {x : Nat} (h : rung x = 0) : fin x:=by unfold fin;omega
theorem sub_inf_self {x : Nat} (h : inf x) : fok .sub x x = false:=by
 have e : floatBits .sub .f64 x x = none:=by
  show double.sub x x = none
  unfold Format.sub
  rw [read_inf h]
  show Option.map _ ((Datum.infinity (neg x)).sum (.infinity (!neg x))) = none
  unfold Datum.sum
  cases neg x <;> rfl
 unfold fok
 rw [e];rfl
theorem sub_nan_self {x : Nat} (h : ¬ nn x) : fok .sub x x = false:=by
 obtain ⟨s,t,e0⟩:=read_nan h
 have e : floatBits .sub .f64 x x = none:=by
  show double.sub x x = none
  unfold Format.sub
  rw [e0]
  rfl
 unfold fok
 rw [e];rfl
theorem finite_eq (x : Nat) : quarryref13_Finite.f x = some (decide (fin x)):=by
 unfold quarryref13_Finite.f
 congr 1
 by_cases g : fin x
 ·have h0:=sub_self g
  rw [decide_eq_true g,sub_fin g g,ord (fin_of_zero h0) fin_zero,val_of_zero h0,val_zero]
  rfl
 ·rw [decide_eq_false g]
  by_cases h : nn x
  ·rw [sub_inf_self (by unfold nn at h;unfold fin at g;unfold inf;omega)];rfl
  ·rw [sub_nan_self h];rfl
theorem w64 (n : Int) (h : -9223372036854775808 ≤ n) (h2 : n ≤ 9223372036854775807) : wrap64 n = n:=by unfold wrap64;omega
theorem rd_at {l : List Nat} {i : Nat} (h : i < l.length) : rdOf (0 : Nat) l (i : Int) = l[i]:=by unfold rdOf;simp [h]
theorem all_cons (x : Nat) (l : List Nat) : decide (∀ y ∈ x :: l,fin y) = (decide (fin x) && decide (∀ y ∈ l,fin y)):=by
 by_cases h : fin x <;> simp [h]
theorem tf_loop (l : List Nat) (hm : l.length < 9223372036854775807) (hw : ∀ x ∈ l,x < 18446744073709551616) : ∀ (n k i : Nat),i + n = l.length → n < k →
  tally_finite.l0 k l (l.length : Int) (i : Int) = some (decide (∀ x ∈ l.drop i,fin x))
 | 0,k + 1,i,h,_=>by
  rw [tally_finite.l0,if_neg (by omega),List.drop_eq_nil_of_le (by omega)]
  simp
 | n + 1,k + 1,i,h,hk=>by
  have hi : i < l.length:=by omega
  rw [tally_finite.l0,if_pos (by omega),if_pos (by omega),if_pos (by omega),rd_at hi,isnan_eq,List.drop_eq_getElem_cons hi,all_cons]
  by_cases g : nn l[i]
  ·rw [decide_eq_true g]
   rw [Bool.not_true,Option.bind_some,if_neg (by decide),isinf_eq (hw _ (List.getElem_mem hi)) g]
   by_cases g2 : fin l[i]
   ·rw [decide_eq_true g2]
    show tally_finite.l0 k l (l.length : Int) (wrap64 ((i : Int) + 1)) = _
    rw [w64 _ (by omega) (by omega)]
    exact tf_loop l hm hw n k (i + 1) (by omega) (by omega)
   ·rw [decide_eq_false g2]
    rfl
  ·rw [decide_eq_false g]
   show some false = _
   have g2 : ¬ fin l[i]:=fun h=>g (fin_nn h)
   rw [decide_eq_false g2]
   rfl
theorem tf_eq (l : List Nat) (k : Nat) (hk : l.length < k) (hm : l.length < 9223372036854775807) (hw : ∀ x ∈ l,x < 18446744073709551616) : tally_finite.f k l = some (decide (∀ x ∈ l,fin x)) :=
 tf_loop l hm hw l.length k 0 (by omega) hk
theorem ra_loop (l : List Nat) (hm : l.length < 9223372036854775807) : ∀ (n k i : Nat),i + n = l.length → n < k →
  quarryref31_All.l0 k l (i : Int) = some (decide (∀ x ∈ l.drop i,fin x))
 | 0,k + 1,i,h,_=>by
  rw [quarryref31_All.l0,if_neg (by omega),List.drop_eq_nil_of_le (by omega)]
  simp
 | n + 1,k + 1,i,h,hk=>by
  have hi : i < l.length:=by omega
  rw [quarryref31_All.l0,if_pos (by omega),if_pos (by omega),rd_at hi,finite_eq,List.drop_eq_getElem_cons hi,all_cons]
  by_cases g2 : fin l[i]
  ·rw [decide_eq_true g2]
   show quarryref31_All.l0 k l (wrap64 ((i : Int) + 1)) = _
   rw [w64 _ (by omega) (by omega)]
   exact ra_loop l hm n k (i + 1) (by omega) (by omega)
  ·rw [decide_eq_false g2]
   rfl
theorem ra_eq (l : List Nat) (k : Nat) (hk : l.length < k) (hm : l.length < 9223372036854775807) : quarryref31_All.f k l = some (decide (∀ x ∈ l,fin x)) :=
 ra_loop l hm l.length k 0 (by omega) hk
theorem lost_eq {x a s : Nat} (hx : fin x) (ha : fin a) (hx2 : x < 18446744073709551616) (ha2 : a < 18446744073709551616) (hs : nn s) : ∃ lo,nn lo ∧ tally_lost.f x a s = some lo ∧ quarryref31_lost.f x a s = some lo:=by
 have sz : ∀ y,fin y → ∃ z,quarryref31_size.f y = some z ∧ fin z ∧ val z = mag y:=by
  intro y hy
  unfold quarryref31_size.f
  rw [ord hy fin_zero,val_zero]
  by_cases h : val y < 0
  ·rw [Int.compare_eq_lt.mpr h]
   refine ⟨_,if_pos rfl,by unfold fin;rw [(neg_flip y).1];exact hy,?_⟩
   rw [val_flip]
   unfold val at *
   cases hn : neg y
   ·rw [hn] at h;simp at h;omega
   ·simp
  ·have e : (some (compare (val y) 0) == some Ordering.lt) = false:=by
    cases e2 : compare (val y) 0 with
    | lt=>exact absurd (Int.compare_eq_lt.mp e2) h
    | eq=>rfl
    | gt=>rfl
   refine ⟨y,if_neg (by rw [e];decide),hy,?_⟩
   unfold val at *
   cases hn : neg y
   ·simp
   ·rw [hn] at h;simp at h ⊢;omega
 obtain ⟨zx,e1,f1,v1⟩:=sz x hx
 obtain ⟨za,e2,f2,v2⟩:=sz a ha
 unfold tally_lost.f quarryref31_lost.f math_Abs.f
 rw [e1,e2,absB_eq hx2,absB_eq ha2]
 simp only [Option.bind_some]
 rw [ord (fin_rung hx) (fin_rung ha),ord f1 f2,val_rung,val_rung,v1,v2]
 by_cases h : (mag x : Int) < (mag a : Int)
 ·rw [Int.compare_eq_lt.mpr h]
  have o1:=fin_sub_nn ha hs
  have o2:=nn_add_fin (fop_nn o1) hx
  refine ⟨_,fop_nn o2,?_,?_⟩
  ·rw [if_neg (by decide),if_pos o1,if_pos o2]
  ·rw [if_pos (by decide),if_pos o1,if_pos o2]
 ·have o1:=fin_sub_nn hx hs
  have o2:=nn_add_fin (fop_nn o1) ha
  have hc : compare (mag x : Int) (mag a : Int) = .gt ∨ compare (mag x : Int) (mag a : Int) = .eq:=by
   cases e : compare (mag x : Int) (mag a : Int) with
   | lt=>exact absurd (Int.compare_eq_lt.mp e) h
   | eq=>exact .inr rfl
   | gt=>exact .inl rfl
  refine ⟨_,fop_nn o2,?_,?_⟩
  ·rw [if_pos (by rcases hc with e|e <;> rw [e] <;> decide),if_pos o1,if_pos o2]
  ·rw [if_neg (by rcases hc with e|e <;> rw [e] <;> decide),if_pos o1,if_pos o2]
end Go.Proofs.Ytijmdmnhbbcahaa.QTalTallyJoins
namespace Go.Proofs.Ytijmdmnhbbcahaa.QFloCTallyJoins
open Go.RowKit Go.Proofs.Ytijmdmnhbbcahaa.PTallyJoins Go.Proofs.YtijmdmnhbbcahaaW.PrintWords Go.Proofs.YtijmdmnhbbcahaaW.PrintLast Go.Proofs.Ytijmdmnhbbcahaa.QFloTallyJoins Go.Proofs.Ytijmdmnhbbcahaa.QFloBTallyJoins Go.Proofs.Ytijmdmnhbbcahaa.QTalTallyJoins
set_option linter.unusedVariables false
set_option linter.unusedSimpArgs false
open Ieee
theorem read_normal {x : Nat} (h : fin x) (h2 : 4503599627370496 ≤ rung x) : ∃ m k : Nat,double.read x = .number (neg x) m ((k : Int) - 1074) ∧ 4503599627370496 ≤ m ∧ m < 9007199254740992 ∧ k = rung x / 4503599627370496 - 1:=by
 unfold fin rung at h
 unfold rung at h2
 unfold Format.read neg
 simp only [sw_eq,inf_eq,bin_eq,lp_eq]
 rw [if_neg (by omega),if_pos h]
 refine ⟨4503599627370496 + x % 9223372036854775808 % 4503599627370496,x % 9223372036854775808 / 4503599627370496 - 1,?_,by omega,by omega,rfl⟩
 congr 1
theorem nearest_mid (s : Bool) {m : Nat} {p : Int} (h0 : 4503599627370496 ≤ m) (h1 : -600 ≤ p + m.log2) (h2 : p + m.log2 ≤ 600) :
  fin (double.nearest s m p) ∧ (1020 + (p + m.log2) : Int) * 4503599627370496 ≤ (rung (double.nearest s m p) : Int) ∧ (rung (double.nearest s m p) : Int) ≤ (1026 + (p + m.log2) : Int) * 4503599627370496:=by
 have hm : m ≠ 0:=by omega
 have hl : 52 ≤ m.log2:=(Nat.le_log2 hm).2 (by omega)
 rw [nearest_eq s p hm]
 have e1 : lastp m p = p + m.log2 - 52:=by unfold lastp;omega
 have hk : kept s m p ≤ 9007199254740992:=by
  unfold kept
  rw [e1,show (p - (p + (m.log2 : Int) - 52)).toNat = 0 by omega,Nat.shiftLeft_zero,show (p + (m.log2 : Int) - 52 - p).toNat = m.log2 - 52 by omega]
  have h3:=(cut_bounds s m (m.log2 - 52) (by omega)).2
  have h4 : m / 2 ^ (m.log2 - 52) < 2 ^ 53:=by
   rw [Nat.div_lt_iff_lt_mul (Nat.two_pow_pos _),← Nat.pow_add,show 53 + (m.log2 - 52) = m.log2 + 1 by omega]
   exact log2_hi m
  omega
 rw [e1]
 obtain ⟨L,hL⟩ : ∃ L,L = (p + (m.log2 : Int) - 52 + 1074).toNat:=⟨_,rfl⟩
 rw [← hL]
 have hL2 : (L : Int) = p + m.log2 + 1022:=by omega
 generalize kept s m p = K at *
 rw [Nat.min_eq_left (by omega)]
 have h5:=(rung_word s (r:=L * 4503599627370496 + K) (by omega)).1
 unfold fin
 rw [h5]
 omega
theorem whole2 {N : Int} (h1 : 1 ≤ N) (h2 : N ≤ 4611686018427387905) : fin (floatOfInt .f64 N) ∧ 4593671619917905920 ≤ rung (floatOfInt .f64 N) ∧ rung (floatOfInt .f64 N) ≤ 4904418994206670848 ∧ neg (floatOfInt .f64 N) = false:=by
 have hng : neg (floatOfInt .f64 N) = false:=by
  have h:=(nearest_nn (N < 0) N.natAbs 0).2
  show neg (double.nearest (N < 0) N.natAbs 0) = false
  rw [h]
  exact decide_eq_false (by omega)
 show fin (double.nearest (N < 0) N.natAbs 0) ∧ 4593671619917905920 ≤ rung (double.nearest (N < 0) N.natAbs 0) ∧ rung (double.nearest (N < 0) N.natAbs 0) ≤ 4904418994206670848 ∧ _
 refine ⟨?_,?_,?_,hng⟩ <;> clear hng
 all_goals
  obtain ⟨m,hm⟩ : ∃ m,m = N.natAbs:=⟨_,rfl⟩
  rw [← hm]
  have hm0 : m ≠ 0:=by omega
  have hm1 : m ≤ 4611686018427387905:=by omega
  rw [nearest_eq _ 0 hm0]
  have hl : m.log2 < 63:=(Nat.log2_lt hm0).2 (by omega)
  have e1 : lastp m 0 = (m.log2 : Int) - 52:=by unfold lastp;omega
  have hk : kept (N < 0) m 0 ≤ 9007199254740992:=by
   unfold kept
   rw [e1]
   by_cases hd : m.log2 ≤ 52
   ·rw [show ((m.log2 : Int) - 52 - 0).toNat = 0 by omega,cut_zero,Nat.shiftLeft_eq]
    have h3:=log2_hi m
    have h4 : m * 2 ^ (0 - ((m.log2 : Int) - 52)).toNat < 2 ^ (m.log2 + 1) * 2 ^ (0 - ((m.log2 : Int) - 52)).toNat:=Nat.mul_lt_mul_of_pos_right h3 (Nat.two_pow_pos _)
    rw [← Nat.pow_add,show m.log2 + 1 + (0 - ((m.log2 : Int) - 52)).toNat = 53 by omega] at h4
    omega
   ·rw [show (0 - ((m.log2 : Int) - 52)).toNat = 0 by omega,Nat.shiftLeft_zero,show ((m.log2 : Int) - 52 - 0).toNat = m.log2 - 52 by omega]
    have h3:=(cut_bounds (N < 0) m (m.log2 - 52) (by omega)).2
    have h4 : m / 2 ^ (m.log2 - 52) < 2 ^ 53:=by
     rw [Nat.div_lt_iff_lt_mul (Nat.two_pow_pos _),← Nat.pow_add,show 53 + (m.log2 - 52) = m.log2 + 1 by omega]
     exact log2_hi m
    omega
  rw [e1]
  obtain ⟨L,hL⟩ : ∃ L,L = ((m.log2 : Int) - 52 + 1074).toNat:=⟨_,rfl⟩
  rw [← hL]
  have hL1 : L ≤ 1084:=by omega
  have hL2 : 1022 ≤ L:=by omega
  generalize kept (N < 0) m 0 = K at *
  rw [Nat.min_eq_left (by omega)]
  have h5:=(rung_word (N < 0) (r:=L * 4503599627370496 + K) (by omega)).1
  first
  | (unfold fin;rw [h5];omega)
  | (rw [h5];omega)
theorem log2_mul52 {a b : Nat} (ha : 4503599627370496 ≤ a) (ha2 : a < 9007199254740992) (hb : 4503599627370496 ≤ b) (hb2 : b < 9007199254740992) : 104 ≤ (a * b).log2 ∧ (a * b).log2 ≤ 105 ∧ 4503599627370496 ≤ a * b:=by
 have h1 : 4503599627370496 * 4503599627370496 ≤ a * b:=Nat.mul_le_mul ha hb
 have h2 : a * b < 9007199254740992 * 9007199254740992:=Nat.mul_lt_mul'' ha2 hb2
 have h0 : a * b ≠ 0:=by omega
 have e1:=(Nat.le_log2 h0 (k:=104)).2 (by omega)
 have e2:=(Nat.log2_lt h0 (k:=106)).2 (by omega)
 omega
theorem mul_mid {x y : Nat} (hx : fin x) (hy : fin y) (x1 : 4053239664633446400 ≤ rung x) (x2 : rung x ≤ 5404319552844595200) (y1 : 4053239664633446400 ≤ rung y) (y2 : rung y ≤ 5404319552844595200) :
  fok .mul x y = true ∧ fin (fop .mul x y) ∧ rung (fop .mul x y) ≠ 0:=by
 obtain ⟨m,i,r1,a1,a2,a3⟩:=read_normal hx (by omega)
 obtain ⟨n,j,r2,b1,b2,b3⟩:=read_normal hy (by omega)
 obtain ⟨l1,l2,l3⟩:=log2_mul52 a1 a2 b1 b2
 have e:=fop_eq (op:=.mul) (x:=x) (y:=y) (r:=double.nearest (neg x ^^ neg y) (m * n) ((i : Int) - 1074 + ((j : Int) - 1074))) (show double.mul x y = some _ by unfold Format.mul;rw [r1,r2];rfl)
 have hn:=nearest_mid (neg x ^^ neg y) (m:=m * n) (p:=(i : Int) - 1074 + ((j : Int) - 1074)) l3 (by omega) (by omega)
 rw [e.2]
 exact ⟨e.1,hn.1,by omega⟩
theorem quo_mid {x y : Nat} (hx : fin x) (hy : fin y) (x1 : 4593671619917905920 ≤ rung x) (x2 : rung x ≤ 4904418994206670848) (y1 : 4593671619917905920 ≤ rung y) (y2 : rung y ≤ 4904418994206670848) :
  fok .quo x y = true ∧ fin (fop .quo x y) ∧ 4053239664633446400 ≤ rung (fop .quo x y) ∧ rung (fop .quo x y) ≤ 5404319552844595200 ∧ neg (fop .quo x y) = (neg x ^^ neg y):=by
 obtain ⟨m,i,r1,a1,a2,a3⟩:=read_normal hx (by omega)
 obtain ⟨n,j,r2,b1,b2,b3⟩:=read_normal hy (by omega)
 have lm : m.log2 = 52:=log2_of (by omega) (by omega)
 have ln : n.log2 = 52:=log2_of (by omega) (by omega)
 obtain ⟨q,hq⟩ : ∃ q,q = 2 * ((m <<< 54) / n) + ((m <<< 54) % n != 0).toNat:=⟨_,rfl⟩
 have e:=fop_eq (op:=.quo) (x:=x) (y:=y) (r:=double.nearest (neg x ^^ neg y) q ((i : Int) - 1074 - ((j : Int) - 1074) - (54 : Nat) - 1)) (show double.div x y = some _ by
  unfold Format.div
  rw [r1,r2]
  unfold Datum.quotient
  simp only
  rw [if_neg (by omega),lm,ln]
  show some (double.nearest _ _ _) = _
  rw [hq]
  rfl)
 have hb : (m <<< 54) / n ≤ 36028797018963968 ∧ 9007199254740992 ≤ (m <<< 54) / n:=by
  rw [Nat.shiftLeft_eq,show (2 : Nat) ^ 54 = 18014398509481984 by decide]
  constructor
  ·refine Nat.div_le_of_le_mul ?_
   clear hq e
   omega
  ·rw [Nat.le_div_iff_mul_le (by omega)]
   clear hq e
   omega
 have hbit : ((m <<< 54) % n != 0).toNat ≤ 1:=by cases ((m <<< 54) % n != 0) <;> decide
 have hq1 : 18014398509481984 ≤ q:=by omega
 have hq2 : q ≤ 72057594037927937:=by omega
 have hq0 : q ≠ 0:=by omega
 have g1:=(Nat.le_log2 hq0 (k:=54)).2 (by omega)
 have g2:=(Nat.log2_lt hq0 (k:=57)).2 (by omega)
 have hn:=nearest_mid (neg x ^^ neg y) (m:=q) (p:=(i : Int) - 1074 - ((j : Int) - 1074) - (54 : Nat) - 1) (by omega) (by omega) (by omega)
 have hs:=(nearest_nn (neg x ^^ neg y) q ((i : Int) - 1074 - ((j : Int) - 1074) - (54 : Nat) - 1)).2
 rw [e.2]
 exact ⟨e.1,hn.1,by omega,by omega,hs⟩
theorem mul_nn {x y : Nat} (hx : nn x) (hy : fin y) (h0 : rung y ≠ 0) : fok .mul x y = true:=by
 obtain ⟨m,k,h1,h2⟩:=read_fin hy
 have hm : m ≠ 0:=by rintro rfl;rw [Nat.zero_mul] at h2;exact h0 (mag_zero.1 h2)
 rcases nn_cases hx with hf|hi
 ·exact mul_fin hf hy
 ·exact (fop_eq (op:=.mul) (r:=double.write (.infinity (neg x ^^ neg y))) (show double.mul x y = some _ by unfold Format.mul;rw [h1,read_inf hi];unfold Datum.product;simp only;rw [if_neg hm];rfl)).1
theorem mul_self {x : Nat} (hx : nn x) : fok .mul x x = true:=by
 rcases nn_cases hx with h|h
 ·exact mul_fin h h
 ·exact mul_inf_inf h h
theorem write_neg {d : Datum} (h : d.isNaN = false) : neg (double.write d) = (match d with|.number s _ _=>s|.infinity s=>s|.nan s _=>s):=by
 cases d with
 | number s m p=>exact (nearest_nn s m p).2
 | infinity s=>exact (write_inf s).2
 | nan s t=>cases h
theorem mul_neg {x y : Nat} (hx : nn x) (hy : nn y) (h : fok .mul x y = true) : neg (fop .mul x y) = (neg x ^^ neg y):=by
 have key : ∀ r,double.mul x y = some r → neg r = (neg x ^^ neg y):=by
  intro r hr
  unfold Format.mul at hr
  obtain ⟨d,hd,rfl⟩:=Option.map_eq_some_iff.mp hr
  rw [write_neg (product_nn hd)]
  rcases nn_cases hx with a|a <;> rcases nn_cases hy with b|b
  ·obtain ⟨m,i,h1,_⟩:=read_fin a
   obtain ⟨n,j,h2,_⟩:=read_fin b
   rw [h1,h2] at hd
   cases hd;rfl
  ·obtain ⟨m,i,h1,_⟩:=read_fin a
   rw [h1,read_inf b] at hd
   unfold Datum.product at hd
   simp only at hd
   split at hd
   ·cases hd
   ·cases hd;show (neg y ^^ neg x) = _;cases neg x <;> cases neg y <;> rfl
  ·obtain ⟨m,i,h1,_⟩:=read_fin b
   rw [h1,read_inf a] at hd
   unfold Datum.product at hd
   simp only at hd
   split at hd
   ·cases hd
   ·cases hd;rfl
  ·rw [read_inf a,read_inf b] at hd
   cases hd;rfl
 have e : floatBits .mul .f64 x y = double.mul x y:=rfl
 cases e2 : double.mul x y with
 | none=>unfold fok at h;rw [e,e2] at h;cases h
 | some r=>unfold fop;rw [e,e2];exact key r e2
theorem add_pos {x y : Nat} (hx : fin x) (hy : fin y) (px : 0 ≤ val x) (py : 0 ≤ val y) (hi : inf (fop .add x y)) : neg (fop .add x y) = false:=by
 obtain ⟨m,i,h1,h2⟩:=read_fin hx
 obtain ⟨n,j,h3,h4⟩:=read_fin hy
 obtain ⟨T,hT⟩ : ∃ T,T = signed (neg x) m ((i : Int) - 1074 - min ((i : Int) - 1074) ((j : Int) - 1074)).toNat + signed (neg y) n ((j : Int) - 1074 - min ((i : Int) - 1074) ((j : Int) - 1074)).toNat:=⟨_,rfl⟩
 have e:=fop_eq (op:=.add) (x:=x) (y:=y) (r:=double.nearest (if T = 0 then neg x && neg y else decide (T < 0)) T.natAbs (min ((i : Int) - 1074) ((j : Int) - 1074))) (show double.add x y = some _ by
  unfold Format.add;rw [h1,h3];unfold Datum.sum;simp only;rw [← hT];rfl)
 have sg : ∀ (s : Bool) (m a b : Nat) (v : Int),v = signed s m b → 0 ≤ v → 0 ≤ signed s m a:=by
  intro s m a b v hv h
  subst hv
  unfold signed at h ⊢
  cases s
  ·rw [if_neg (by decide)];exact Int.natCast_nonneg _
  ·rw [if_pos rfl] at h ⊢
   have : m <<< b = 0:=by
    generalize m <<< b = z at h
    omega
   rw [Nat.shiftLeft_eq] at this
   rcases Nat.mul_eq_zero.1 this with g|g
   ·subst g;rw [Nat.shiftLeft_eq,Nat.zero_mul];decide
   ·have:=Nat.two_pow_pos b;omega
 have t1:=sg (neg x) m ((i : Int) - 1074 - min ((i : Int) - 1074) ((j : Int) - 1074)).toNat i (val x) (val_signed h2) px
 have t2:=sg (neg y) n ((j : Int) - 1074 - min ((i : Int) - 1074) ((j : Int) - 1074)).toNat j (val y) (val_signed h4) py
 have hT0 : 0 ≤ T:=by omega
 rw [e.2,(nearest_nn _ _ _).2]
 by_cases g : T = 0
 ·rw [e.2,g] at hi
  exfalso
  have e0 : double.nearest (if (0 : Int) = 0 then neg x && neg y else decide ((0 : Int) < 0)) (Int.natAbs 0) (min ((i : Int) - 1074) ((j : Int) - 1074)) = double.word (neg x && neg y) 0:=rfl
  rw [e0] at hi
  unfold inf at hi
  rw [(rung_word _ (by decide)).1] at hi
  omega
 ·rw [if_neg g]
  exact decide_eq_false (by omega)
theorem add_same {x y : Nat} (hx : nn x) (hy : nn y) (px : inf x → neg x = false) (py : inf y → neg y = false) : fok .add x y = true:=by
 rcases nn_cases hx with a|a <;> rcases nn_cases hy with b|b
 ·exact add_fin a b
 ·exact (fin_add_inf a b).1
 ·exact (add_inf a b).1
 ·exact (fop_eq (op:=.add) (show double.add x y = some _ by unfold Format.add;rw [read_inf a,read_inf b,px a,py b];rfl)).1
end Go.Proofs.Ytijmdmnhbbcahaa.QFloCTallyJoins
namespace Go.Proofs.Ytijmdmnhbbcahaa.QFormTallyJoins
open Go.RowKit Go.Proofs.Ytijmdmnhbbcahaa.PTallyJoins Go.Proofs.YtijmdmnhbbcahaaW.PrintWords Go.Proofs.YtijmdmnhbbcahaaW.PrintLast Go.Proofs.Ytijmdmnhbbcahaa.QFloTallyJoins Go.Proofs.Ytijmdmnhbbcahaa.QFloBTallyJoins Go.Proofs.Ytijmdmnhbbcahaa.QTalTallyJoins
set_option linter.unusedVariables false
set_option linter.unusedSimpArgs false
theorem sound_eq {k : Nat} {c : Int} {x1 x2 x3 x4 x5 x6 : Nat} (hk : 6 < k) (hc : c ≤ 4611686018427387904) (h1 : x1 < 18446744073709551616) (h2 : x2 < 18446744073709551616) (h3 : x3 < 18446744073709551616) (h4 : x4 < 18446744073709551616) (h5 : x5 < 18446744073709551616) (h6 : x6 < 18446744073709551616) :
  tally_sound.f k c x1 x2 x3 x4 x5 x6 = some (decide (∀ x ∈ [x1,x2,x3,x4,x5,x6],fin x)):=by
 unfold tally_sound.f
 rw [if_pos hc,tf_eq _ k (by simpa using hk) (by simp) (by intro x hx;simp only [List.mem_cons,List.not_mem_nil,or_false] at hx;rcases hx with rfl|rfl|rfl|rfl|rfl|rfl <;> assumption)]
 rfl
theorem formed_eq {k : Nat} {c : Int} {x1 x2 x3 x4 x5 x6 : Nat} (hk : 7 < k) (h1 : x1 < 18446744073709551616) (h2 : x2 < 18446744073709551616) (h3 : x3 < 18446744073709551616) (h4 : x4 < 18446744073709551616) (h5 : x5 < 18446744073709551616) (h6 : x6 < 18446744073709551616) :
  ∃ b,tally_formed.f k c x1 x2 x3 x4 x5 x6 = some b ∧ quarryref31_Formed.f k c x1 x2 x3 x4 x5 x6 = some b ∧ (b = true → c ≠ 0 → 1 ≤ c ∧ c ≤ 4611686018427387904 ∧ ∀ x ∈ [x1,x2,x3,x4,x5,x6],fin x):=by
 obtain ⟨k,rfl⟩ : ∃ j,k = j + 1:=⟨k - 1,by omega⟩
 obtain ⟨E,hE⟩ : ∃ E,E = (Op.floatEq .f64 x1 0 && (Op.floatEq .f64 x2 0 && (Op.floatEq .f64 x3 0 && (Op.floatEq .f64 x4 0 && (Op.floatEq .f64 x5 0 && (Op.floatEq .f64 x6 0)))))):=⟨_,rfl⟩
 have TT : true = true:=rfl
 have FF : ¬ (false = true):=by decide
 unfold tally_formed.f quarryref31_Formed.f
 rw [quarryref31_Formed.j0,quarryref31_Formed.j0,← hE]
 by_cases ha : c < 1
 ·rw [if_pos ha,if_pos TT]
  refine ⟨c == 0 && E,?_,rfl,?_⟩
  ·by_cases hb : (c == 0 && E) = true
   ·rw [if_pos hb,hb]
   ·rw [if_neg hb,if_neg (show ¬ c ≥ 1 by omega)]
    congr 1
    exact ((Bool.not_eq_true _).mp hb).symm
  ·intro hb h0
   rw [Bool.and_eq_true] at hb
   exact absurd (beq_iff_eq.mp hb.1) h0
 ·have hne : (c == 0) = false:=beq_false_of_ne (by omega)
  rw [if_neg ha,hne,Bool.false_and,if_neg FF,if_pos (show c ≥ 1 by omega)]
  by_cases hb : c > 4611686018427387904
  ·rw [decide_eq_true hb,if_pos TT]
   refine ⟨false,?_,rfl,fun h=>by cases h⟩
   unfold tally_sound.f
   rw [if_neg (show ¬ c ≤ 4611686018427387904 by omega)]
   rfl
  ·rw [decide_eq_false hb,if_neg FF,sound_eq (by omega) (by omega) h1 h2 h3 h4 h5 h6]
   unfold quarryref31_floats.f
   rw [Option.bind_some,Option.bind_some,ra_eq _ k (by simp;omega) (by simp),Option.bind_some]
   by_cases g : ∀ x ∈ [x1,x2,x3,x4,x5,x6],fin x
   ·rw [decide_eq_true g,if_pos TT]
    split
    ·exact ⟨_,rfl,rfl,fun _ _=>⟨by omega,by omega,g⟩⟩
    ·exact ⟨_,rfl,rfl,fun h=>by cases h⟩
   ·rw [decide_eq_false g,if_neg FF]
    exact ⟨_,rfl,rfl,fun h=>by cases h⟩
theorem below_some {x : Nat} (h : fin x) : ∃ b,quarryref13_Below.f x = some b:=by
 unfold quarryref13_Below.f
 rw [ord h fin_zero,val_zero]
 cases e : compare (val x) 0 with
 | lt=>exact ⟨_,if_pos (by rfl)⟩
 | gt=>exact ⟨_,(if_neg (by decide)).trans (if_neg (by decide))⟩
 | eq =>
  have hv : val x = 0:=Int.compare_eq_eq.mp e
  have hm : mag x = 0:=by unfold val at hv;split at hv <;> omega
  have hr:=mag_zero.1 hm
  rw [if_neg (by decide),if_pos (by decide)]
  have o : fok .quo 4607182418800017408 x = true:=by
   refine (fop_eq (op:=.quo) (r:=_) (show Ieee.double.div 4607182418800017408 x = some _ by
    unfold Ieee.Format.div
    rw [read_zero hr,show Ieee.double.read 4607182418800017408 = .number false 4503599627370496 (-52) by decide +kernel]
    unfold Ieee.Datum.quotient
    simp only
    rw [if_pos trivial,if_neg (by decide)]
    rfl)).1
  rw [if_pos o]
  exact ⟨_,rfl⟩
theorem same_self {x : Nat} (h : fin x) : quarryref13_Same.f x x = some true:=by
 unfold quarryref13_Same.f
 obtain ⟨b,e⟩:=below_some h
 rw [ord h h,Int.compare_eq_eq.mpr rfl,if_pos (by rfl),e,Option.bind_some,Option.bind_some,if_pos (by simp)]
end Go.Proofs.Ytijmdmnhbbcahaa.QFormTallyJoins
namespace Go.Proofs.Ytijmdmnhbbcahaa.QJoinTallyJoins
open Go.RowKit Go.Proofs.Ytijmdmnhbbcahaa.PTallyJoins Go.Proofs.YtijmdmnhbbcahaaW.PrintWords Go.Proofs.YtijmdmnhbbcahaaW.PrintLast Go.Proofs.Ytijmdmnhbbcahaa.QFloTallyJoins Go.Proofs.Ytijmdmnhbbcahaa.QFloBTallyJoins Go.Proofs.Ytijmdmnhbbcahaa.QTalTallyJoins Go.Proofs.Ytijmdmnhbbcahaa.QFormTallyJoins Go.Proofs.Ytijmdmnhbbcahaa.QFloCTallyJoins
set_option linter.unusedVariables false
set_option linter.unusedSimpArgs false
theorem fin_of_eq {x : Nat} (h : Op.floatEq .f64 x 0 = true) : fin x:=by
 have h2 : (FloatKind.f64.format.order x 0 == some .eq) = true:=h
 by_cases hn : nn x
 ·rcases nn_cases hn with g|g
  ·exact g
  ·exfalso
   have e : FloatKind.f64.format.order x 0 = Ieee.double.order x 0:=rfl
   rw [e] at h2
   unfold Ieee.Format.order at h2
   rw [read_inf g,read_zero (z:=0) rfl] at h2
   unfold Ieee.Datum.order at h2
   cases hg : neg x <;> rw [hg] at h2 <;> cases h2
 ·exfalso
  obtain ⟨s,t,e⟩:=read_nan hn
  have e1 : FloatKind.f64.format.order x 0 = Ieee.double.order x 0:=rfl
  rw [e1] at h2
  unfold Ieee.Format.order at h2
  rw [e] at h2
  cases h2
theorem formed_fin {k : Nat} {c : Int} {x1 x2 x3 x4 x5 x6 : Nat} (hk : 7 < k) (h1 : x1 < 18446744073709551616) (h2 : x2 < 18446744073709551616) (h3 : x3 < 18446744073709551616) (h4 : x4 < 18446744073709551616) (h5 : x5 < 18446744073709551616) (h6 : x6 < 18446744073709551616)
  (h : tally_formed.f k c x1 x2 x3 x4 x5 x6 = some true) : (∀ x ∈ [x1,x2,x3,x4,x5,x6],fin x) ∧ (c ≠ 0 → 1 ≤ c ∧ c ≤ 4611686018427387904 ∧ 0 ≤ val x6):=by
 unfold tally_formed.f at h
 by_cases hb : (c == 0 && (Op.floatEq .f64 x1 0 && (Op.floatEq .f64 x2 0 && (Op.floatEq .f64 x3 0 && (Op.floatEq .f64 x4 0 && (Op.floatEq .f64 x5 0 && (Op.floatEq .f64 x6 0))))))) = true
 ·simp only [Bool.and_eq_true] at hb
  obtain ⟨h0,a1,a2,a3,a4,a5,a6⟩:=hb
  refine ⟨?_,fun g=>absurd (beq_iff_eq.mp h0) g⟩
  intro x hx
  simp only [List.mem_cons,List.not_mem_nil,or_false] at hx
  rcases hx with rfl|rfl|rfl|rfl|rfl|rfl <;> exact fin_of_eq (by assumption)
 ·rw [if_neg hb] at h
  by_cases hc : c ≥ 1
  ·rw [if_pos hc] at h
   by_cases hN : c ≤ 4611686018427387904
   ·rw [sound_eq (by omega) hN h1 h2 h3 h4 h5 h6,Option.bind_some] at h
    by_cases g : ∀ x ∈ [x1,x2,x3,x4,x5,x6],fin x
    ·refine ⟨g,fun _=>⟨hc,hN,?_⟩⟩
     rw [decide_eq_true g,if_pos rfl] at h
     split at h
     ·rw [ord (g x6 (by simp)) fin_zero,val_zero] at h
      have h:=Option.some.inj h
      cases e : compare (val x6) 0 with
      | lt=>rw [e] at h;cases h
      | eq=>have:=Int.compare_eq_eq.mp e;omega
      | gt=>have:=Int.compare_eq_gt.mp e;omega
     ·cases h
    ·rw [decide_eq_false g,if_neg (by decide)] at h;cases h
   ·unfold tally_sound.f at h
    rw [if_neg hN] at h
    cases h
  ·rw [if_neg hc] at h;cases h
theorem bad_list {x1 x2 x3 x5 x6 : Nat} : ¬ ∀ x ∈ [x1,x2,x3,nanC,x5,x6],fin x:=by
 intro h
 have:=h nanC (by simp)
 unfold fin rung at this
 revert this
 decide
theorem nanC_lt : nanC < 18446744073709551616:=by decide
theorem told_eq {k : Nat} {c : Int} {x1 x2 x3 x4 x5 x6 : Nat} (hk : 6 < k) (hc : c ≤ 4611686018427387904) :
  quarryref31_told.f k c x1 x2 x3 x4 x5 x6 = some (if (decide (∀ x ∈ [x1,x2,x3,x4,x5,x6],fin x)) = true then (c,x1,x2,x3,x4,x5,x6,0) else (0,0,0,0,0,0,0,121)):=by
 unfold quarryref31_told.f quarryref31_floats.f
 rw [if_neg (by omega),Option.bind_some,ra_eq _ k (by simpa using hk) (by simp),Option.bind_some]
 split <;> rfl
theorem zeros_fin : ∀ x ∈ [0,0,0,0,0,0],fin x:=by intro x hx;simp only [List.mem_cons,List.not_mem_nil,or_false,or_self] at hx;subst hx;exact fin_zero
theorem body_eq {k : Nat} {c d : Int} {x1 x2 x3 x4 x5 x6 y1 y2 y3 y4 y5 y6 n1 n2 : Nat} (hk : 7 < k) (hc : 1 ≤ c) (hc2 : c ≤ 4611686018427387904) (hd : 1 ≤ d) (hd2 : d ≤ 4611686018427387904) (hcd : c + d ≤ 4611686018427387904)
  (l1 : n1 < 18446744073709551616) (l2 : n2 < 18446744073709551616) (lx3 : x3 < 18446744073709551616) (ly3 : y3 < 18446744073709551616)
  (hx : ∀ x ∈ [x1,x2,x3,x4,x5,x6],fin x) (hy : ∀ x ∈ [y1,y2,y3,y4,y5,y6],fin x) (px : 0 ≤ val x6) (py : 0 ≤ val y6) :
  ∃ r : Int × Nat × Nat × Nat × Nat × Nat × Nat × Int,(∀ a1 a2 a3,tally_Join.j2 (k + 1) c x1 x2 x3 x4 x5 x6 d y1 y2 y3 y4 y5 y6 (c + d) n1 n2 (fop .add x3 y3) a1 a2 a3 = some r) ∧
   (∀ z2 z3 z4 z5 z6,n2 = (if (FloatKind.f64.format.order y2 x2 == some .gt) = true then y2 else z2) → quarryref31_Join.j1 (k + 1) c x1 x2 x3 x4 x5 x6 d y1 y2 y3 y4 y5 y6 (c + d) n1 z2 z3 z4 z5 z6 = some r) ∧
   ∀ x ∈ [r.2.1,r.2.2.1,r.2.2.2.1,r.2.2.2.2.1,r.2.2.2.2.2.1,r.2.2.2.2.2.2.1],fin x:=by
 have fx3 : fin x3:=hx x3 (by simp)
 have fx4 : fin x4:=hx x4 (by simp)
 have fx5 : fin x5:=hx x5 (by simp)
 have fx6 : fin x6:=hx x6 (by simp)
 have fy3 : fin y3:=hy y3 (by simp)
 have fy4 : fin y4:=hy y4 (by simp)
 have fy5 : fin y5:=hy y5 (by simp)
 have fy6 : fin y6:=hy y6 (by simp)
 clear hx hy
 have o1:=add_fin fx3 fy3
 have o2:=add_fin fx4 fy4
 obtain ⟨lo,hlo,e4,e5⟩:=lost_eq fx3 fy3 lx3 ly3 (fop_nn o1)
 have o3:=sub_fin fy5 fx5
 have wd:=whole2 (N:=d) hd (by omega)
 have wc:=whole2 (N:=c) hc (by omega)
 have wn:=whole2 (N:=c + d) (by omega) (by omega)
 obtain ⟨o4,q1,q2,q3,q4⟩:=quo_mid wd.1 wn.1 wd.2.1 wd.2.2.1 wn.2.1 wn.2.2.1
 have o5:=mul_nn (fop_nn o3) q1 (by omega)
 have o6:=fin_add_nn fx5 (fop_nn o5)
 have o7:=add_fin fx6 fy6
 have o8:=mul_self (fop_nn o3)
 obtain ⟨o9,m1,m2⟩:=mul_mid wc.1 q1 (by omega) (by omega) q2 q3
 have o10:=mul_nn (fop_nn o8) m1 m2
 have ng : neg (fop .mul (fop .mul (fop .sub y5 x5) (fop .sub y5 x5)) (fop .mul (floatOfInt .f64 c) (fop .quo (floatOfInt .f64 d) (floatOfInt .f64 (c + d))))) = false:=by
  rw [mul_neg (fop_nn o8) (fin_nn m1) o10,mul_neg (fop_nn o3) (fop_nn o3) o8,mul_neg (fin_nn wc.1) (fin_nn q1) o9,q4,wc.2.2.2,wd.2.2.2,wn.2.2.2,Bool.xor_self]
  rfl
 have o11:=add_same (fop_nn o7) (fop_nn o10) (fun hi=>add_pos fx6 fy6 px py hi) (fun _=>ng)
 clear ng
 obtain ⟨ME,hME⟩ : ∃ ME,ME = fop .add x5 (fop .mul (fop .sub y5 x5) (fop .quo (floatOfInt .f64 d) (floatOfInt .f64 (c + d)))):=⟨_,rfl⟩
 obtain ⟨SQ,hSQ⟩ : ∃ SQ,SQ = fop .add (fop .add x6 y6) (fop .mul (fop .mul (fop .sub y5 x5) (fop .sub y5 x5)) (fop .mul (floatOfInt .f64 c) (fop .quo (floatOfInt .f64 d) (floatOfInt .f64 (c + d))))):=⟨_,rfl⟩
 have lME : ME < 18446744073709551616:=by rw [hME];exact fop_lt
 have lSQ : SQ < 18446744073709551616:=by rw [hSQ];exact fop_lt
 have FF : ¬ (false = true):=by decide
 by_cases og : fok .add (fop .add x4 y4) lo = true
 ·refine ⟨if (decide (∀ x ∈ [n1,n2,fop .add x3 y3,fop .add (fop .add x4 y4) lo,ME,SQ],fin x)) = true then (c + d,n1,n2,fop .add x3 y3,fop .add (fop .add x4 y4) lo,ME,SQ,0) else (0,0,0,0,0,0,0,121),fun a1 a2 a3=>?_,fun z2 z3 z4 z5 z6 hz=>?_,?_⟩
  ·rw [tally_Join.j2,if_pos o2,e4,Option.bind_some,if_pos og,if_pos o3,if_pos o4,if_pos o5,if_pos o6,if_pos o7,if_pos o8,if_pos o9,if_pos o10,if_pos o11,← hME,← hSQ,
    sound_eq (by omega) hcd l1 l2 fop_lt fop_lt lME lSQ,Option.bind_some]
   split <;> rfl
  ·rw [quarryref31_Join.j1]
   split at hz
   ·rename_i g
    subst hz
    rw [if_pos g,if_pos o1,if_pos o2,e5,Option.bind_some,if_pos og,if_pos o3,if_pos o4,if_pos o5,if_pos o6,if_pos o7,if_pos o8,if_pos o9,if_pos o10,if_pos o11,← hME,← hSQ,told_eq (by omega) hcd,Option.bind_some]
   ·rename_i g
    subst hz
    rw [if_neg g,if_pos o1,if_pos o2,e5,Option.bind_some,if_pos og,if_pos o3,if_pos o4,if_pos o5,if_pos o6,if_pos o7,if_pos o8,if_pos o9,if_pos o10,if_pos o11,← hME,← hSQ,told_eq (by omega) hcd,Option.bind_some]
  ·split
   ·rename_i g
    exact of_decide_eq_true g
   ·exact zeros_fin
 ·refine ⟨(0,0,0,0,0,0,0,121),fun a1 a2 a3=>?_,fun z2 z3 z4 z5 z6 hz=>?_,zeros_fin⟩
  ·rw [tally_Join.j2,if_pos o2,e4,Option.bind_some,if_neg og,if_pos o3,if_pos o4,if_pos o5,if_pos o6,if_pos o7,if_pos o8,if_pos o9,if_pos o10,if_pos o11,← hME,← hSQ,
    sound_eq (by omega) hcd l1 l2 fop_lt nanC_lt lME lSQ,Option.bind_some,decide_eq_false bad_list,if_neg FF]
  ·rw [quarryref31_Join.j1]
   split at hz
   ·rename_i g
    subst hz
    rw [if_pos g,if_pos o1,if_pos o2,e5,Option.bind_some,if_neg og,if_pos o3,if_pos o4,if_pos o5,if_pos o6,if_pos o7,if_pos o8,if_pos o9,if_pos o10,if_pos o11,← hME,← hSQ,told_eq (by omega) hcd,Option.bind_some,decide_eq_false bad_list,if_neg FF]
    rfl
   ·rename_i g
    subst hz
    rw [if_neg g,if_pos o1,if_pos o2,e5,Option.bind_some,if_neg og,if_pos o3,if_pos o4,if_pos o5,if_pos o6,if_pos o7,if_pos o8,if_pos o9,if_pos o10,if_pos o11,← hME,← hSQ,told_eq (by omega) hcd,Option.bind_some,decide_eq_false bad_list,if_neg FF]
    rfl
theorem join_eq {k : Nat} {c d : Int} {x1 x2 x3 x4 x5 x6 y1 y2 y3 y4 y5 y6 : Nat} (hk : 7 < k)
  (h1 : x1 < 18446744073709551616) (h2 : x2 < 18446744073709551616) (h3 : x3 < 18446744073709551616) (h4 : x4 < 18446744073709551616) (h5 : x5 < 18446744073709551616) (h6 : x6 < 18446744073709551616)
  (g1 : y1 < 18446744073709551616) (g2 : y2 < 18446744073709551616) (g3 : y3 < 18446744073709551616) (g4 : y4 < 18446744073709551616) (g5 : y5 < 18446744073709551616) (g6 : y6 < 18446744073709551616) :
  ∃ r : Int × Nat × Nat × Nat × Nat × Nat × Nat × Int,tally_Join.f (k + 3) c x1 x2 x3 x4 x5 x6 d y1 y2 y3 y4 y5 y6 = some r ∧ quarryref31_Join.f (k + 2) c x1 x2 x3 x4 x5 x6 d y1 y2 y3 y4 y5 y6 = some r ∧ ∀ x ∈ [r.2.1,r.2.2.1,r.2.2.2.1,r.2.2.2.2.1,r.2.2.2.2.2.1,r.2.2.2.2.2.2.1],fin x:=by
 have TT : true = true:=rfl
 have FF : ¬ (false = true):=by decide
 unfold tally_Join.f quarryref31_Join.f
 obtain ⟨b,e1,_,_⟩:=formed_eq (k:=k + 3) (c:=c) (by omega) h1 h2 h3 h4 h5 h6
 obtain ⟨b',e1',e2,_⟩:=formed_eq (k:=k + 2) (c:=c) (by omega) h1 h2 h3 h4 h5 h6
 obtain ⟨u,f1,_,_⟩:=formed_eq (k:=k + 3) (c:=d) (by omega) g1 g2 g3 g4 g5 g6
 obtain ⟨u',f1',f2,_⟩:=formed_eq (k:=k + 2) (c:=d) (by omega) g1 g2 g3 g4 g5 g6
 obtain rfl : b = b':=Option.some.inj (e1.symm.trans (tally_formed.mono _ _ _ _ _ _ _ _ _ e1'))
 obtain rfl : u = u':=Option.some.inj (f1.symm.trans (tally_formed.mono _ _ _ _ _ _ _ _ _ f1'))
 rw [e1,e2,f1,f2]
 simp only [Option.bind_some]
 cases b with
 | false =>
  rw [if_neg FF,if_neg FF,tally_Join.j0,quarryref31_Join.j0,if_pos TT,if_pos TT]
  exact ⟨_,rfl,rfl,zeros_fin⟩
 | true =>
  rw [if_pos TT,if_pos TT]
  cases u with
  | false =>
   have NF : (!false) = true:=rfl
   rw [tally_Join.j0,quarryref31_Join.j0,if_pos NF,if_pos NF]
   exact ⟨_,rfl,rfl,zeros_fin⟩
  | true =>
   obtain ⟨fx,cx⟩:=formed_fin (by omega) h1 h2 h3 h4 h5 h6 e1
   obtain ⟨fy,cy⟩:=formed_fin (by omega) g1 g2 g3 g4 g5 g6 f1
   have NT : ¬ ((!true) = true):=by decide
   rw [tally_Join.j0,quarryref31_Join.j0,if_neg NT,if_neg NT]
   by_cases d0 : d = 0
   ·rw [if_pos d0,if_pos d0]
    exact ⟨_,rfl,rfl,fx⟩
   ·rw [if_neg d0,if_neg d0]
    by_cases c0 : c = 0
    ·rw [if_pos c0,if_pos c0]
     exact ⟨_,rfl,rfl,fy⟩
    ·obtain ⟨a1,a2,a3⟩:=cx c0
     obtain ⟨b1,b2,b3⟩:=cy d0
     rw [if_neg c0,if_neg c0,if_pos (add_fin (fx x3 (by simp)) (fy y3 (by simp))),w64 (4611686018427387904 - d) (by omega) (by omega)]
     by_cases hm : c > 4611686018427387904 - d
     ·rw [if_pos hm,if_pos hm]
      exact ⟨_,rfl,rfl,zeros_fin⟩
     ·rw [if_neg hm,if_neg hm,w64 (c + d) (by omega) (by omega)]
      obtain ⟨n2,hn2⟩ : ∃ n2,n2 = (if (FloatKind.f64.format.order y2 x2 == some .gt) = true then y2 else x2):=⟨_,rfl⟩
      have l2 : n2 < 18446744073709551616:=by rw [hn2];split <;> assumption
      have key : ∀ n1,n1 < 18446744073709551616 → ∃ r : Int × Nat × Nat × Nat × Nat × Nat × Nat × Int,
        tally_Join.j1 (k + 2) c x1 x2 x3 x4 x5 x6 d y1 y2 y3 y4 y5 y6 (c + d) n1 x2 (fop .add x3 y3) 0 0 0 = some r ∧ quarryref31_Join.j1 (k + 1) c x1 x2 x3 x4 x5 x6 d y1 y2 y3 y4 y5 y6 (c + d) n1 x2 x3 x4 x5 x6 = some r ∧ ∀ x ∈ [r.2.1,r.2.2.1,r.2.2.2.1,r.2.2.2.2.1,r.2.2.2.2.2.1,r.2.2.2.2.2.2.1],fin x:=by
       intro n1 l1
       obtain ⟨r,r1,r2,r3⟩:=body_eq (k:=k) (n1:=n1) (n2:=n2) hk a1 a2 b1 b2 (by omega) l1 l2 h3 g3 fx fy a3 b3
       refine ⟨r,?_,r2 _ _ _ _ _ hn2,r3⟩
       rw [tally_Join.j1]
       split at hn2
       ·rename_i g
        rw [if_pos g]
        have r4:=r1 0 0 0
        rw [hn2] at r4
        exact r4
       ·rename_i g
        rw [if_neg g]
        have r4:=r1 0 0 0
        rw [hn2] at r4
        exact r4
      by_cases hl : (FloatKind.f64.format.order y1 x1 == some .lt) = true
      ·rw [if_pos hl,if_pos hl]
       exact key y1 g1
      ·rw [if_neg hl,if_neg hl]
       exact key x1 h1
end Go.Proofs.Ytijmdmnhbbcahaa.QJoinTallyJoins
namespace Go.Proofs.Ytijmdmnhbbcahaa.Pure
open Go.RowKit Go.Proofs.Ytijmdmnhbbcahaa.PTallyJoins Go.Proofs.YtijmdmnhbbcahaaW.PrintWords Go.Proofs.YtijmdmnhbbcahaaW.PrintLast Go.Proofs.Ytijmdmnhbbcahaa.QFloTallyJoins Go.Proofs.Ytijmdmnhbbcahaa.QFloBTallyJoins Go.Proofs.Ytijmdmnhbbcahaa.QTalTallyJoins Go.Proofs.Ytijmdmnhbbcahaa.QFormTallyJoins Go.Proofs.Ytijmdmnhbbcahaa.QJoinTallyJoins
theorem wf_lt {x : Nat} (h : (Lit.float .f64 x).wf = true) : x < 18446744073709551616:=by
 have h2 : decide (x < 2 ^ 64) = true:=h
 exact of_decide_eq_true h2
theorem TallyJoins : quarrylaw31_TallyJoins.Pure:=by
 intro x0 x1 hs hw
 obtain ⟨h0,h1,h2,h3,h4,h5,h6⟩:=hs
 obtain ⟨g0,g1,g2,g3,g4,g5,g6⟩:=hw
 obtain ⟨r,e1,e2,hr⟩:=join_eq (k:=8) (c:=x0.f0) (d:=x1.f0) (by decide) (wf_lt h1) (wf_lt h2) (wf_lt h3) (wf_lt h4) (wf_lt h5) (wf_lt h6) (wf_lt g1) (wf_lt g2) (wf_lt g3) (wf_lt g4) (wf_lt g5) (wf_lt g6)
 refine ⟨8 + 3,?_⟩
 unfold quarrylaw31_TallyJoins.f
 rw [e1,quarryref31_Join.mono _ _ _ _ _ _ _ _ _ _ _ _ _ _ _ _ e2,Option.bind_some,Option.bind_some,if_pos rfl]
 unfold quarrylaw31_same.f
 rw [if_pos rfl,same_self (hr _ (by simp)),same_self (hr _ (by simp)),same_self (hr _ (by simp)),same_self (hr _ (by simp)),same_self (hr _ (by simp)),same_self (hr _ (by simp))]
 rfl
end Go.Proofs.Ytijmdmnhbbcahaa.Pure
