/- One number more is put to what the others come to; the least and the greatest stand in the list; all that is told is well shaped; of numbers that are all the same the squares are nought. -/
import Derived.Test.YtijmdmnhbbcahaaZDefTallySteps
namespace Go.Proofs.Ytijmdmnhbbcahaa.QFloTallySteps
open Go.RowKit Go.Proofs.Ytijmdmnhbbcahaa.PTallySteps Go.Proofs.YtijmdmnhbbcahaaW.PrintWords Go.Proofs.YtijmdmnhbbcahaaW.PrintLast
set_option linter.unusedVariables false
set_option linter.unusedSimpArgs false
open Ieee
theorem sw_eq : Format.signWeight double = 9223372036854775808:=by decide
theorem inf_eq : Format.infRung double = 9218868437227405312:=by decide
theorem bin_eq : Format.binade double = 4503599627370496:=by decide
theorem lp_eq : Format.leastPlace double = -1074:=by decide
def rung (x : Nat) : Nat:=x % 9223372036854775808
@[reducible] def fin (x : Nat) : Prop:=rung x < 9218868437227405312
@[reducible] def nn (x : Nat) : Prop:=rung x ≤ 9218868437227405312
def neg (x : Nat) : Bool:=x / 9223372036854775808 % 2 == 1
def mag (x : Nat) : Nat:=if rung x < 4503599627370496 then rung x else (4503599627370496 + rung x % 4503599627370496) * 2 ^ (rung x / 4503599627370496 - 1)
def val (x : Nat) : Int:=if neg x then -(mag x : Int) else (mag x : Int)
theorem read_fin {x : Nat} (h : fin x) : ∃ (m : Nat) (k : Nat),double.read x = .number (neg x) m ((k : Int) - 1074) ∧ mag x = m * 2 ^ k:=by
 unfold fin rung at h
 unfold Format.read mag rung neg
 simp only [sw_eq,inf_eq,bin_eq,lp_eq]
 by_cases h1 : x % 9223372036854775808 < 4503599627370496
 ·rw [if_pos h1,if_pos h1];exact ⟨x % 9223372036854775808,0,rfl,by simp⟩
 rw [if_neg h1,if_pos h,if_neg h1];exact ⟨_,_,by congr 1,rfl⟩
theorem read_inf {x : Nat} (h : rung x = 9218868437227405312) : double.read x = .infinity (neg x):=by
 unfold rung at h
 unfold Format.read neg
 simp only [sw_eq,inf_eq,bin_eq,lp_eq];rw [if_neg (by omega),if_neg (by omega),if_pos h]
theorem read_nan {x : Nat} (h : ¬ nn x) : ∃ s t,double.read x = .nan s t:=by
 unfold nn rung at h
 unfold Format.read
 simp only [sw_eq,inf_eq,bin_eq,lp_eq];rw [if_neg (by omega),if_neg (by omega),if_neg (by omega)];exact ⟨_,_,rfl⟩
theorem signed_mul (s : Bool) (m a : Nat) (k : Nat) : signed s m (a + k) = signed s m a * (2 ^ k : Nat):=by
 unfold signed
 have e : m <<< (a + k) = (m <<< a) * 2 ^ k:=by rw [Nat.shiftLeft_eq,Nat.shiftLeft_eq,Nat.pow_add,Nat.mul_assoc]
 rw [e]
 cases s <;> simp [Int.natCast_mul,Int.neg_mul]
theorem val_signed {x : Nat} {m k : Nat} (h : mag x = m * 2 ^ k) : val x = signed (neg x) m k:=by
 unfold val signed
 rw [h,Nat.shiftLeft_eq]
theorem cmp_mul (a b : Int) (c : Nat) (hc : 0 < c) : compare (a * c) (b * c) = compare a b:=by
 have hc' : (0 : Int) < c:=by omega
 rcases Int.lt_trichotomy a b with h|h|h
 ·rw [Int.compare_eq_lt.mpr h,Int.compare_eq_lt];exact Int.mul_lt_mul_of_pos_right h hc'
 ·subst h;rw [Int.compare_eq_eq.mpr rfl];exact (Int.compare_eq_eq.mpr rfl).symm
 rw [Int.compare_eq_gt.mpr h,Int.compare_eq_gt];exact Int.mul_lt_mul_of_pos_right h hc'
theorem order_fin {x y : Nat} (hx : fin x) (hy : fin y) : double.order x y = some (compare (val x) (val y)):=by
 obtain ⟨m,i,h1,h2⟩:=read_fin hx;obtain ⟨n,j,h3,h4⟩:=read_fin hy
 unfold Format.order
 rw [h1,h3]
 unfold Datum.order
 simp only;rw [val_signed h2,val_signed h4]
 congr 1
 have e1 : ((i : Int) - 1074 - min ((i : Int) - 1074) ((j : Int) - 1074)).toNat = i - min i j:=by omega
 have e2 : ((j : Int) - 1074 - min ((i : Int) - 1074) ((j : Int) - 1074)).toNat = j - min i j:=by omega
 rw [e1,e2];have a1:=signed_mul (neg x) m (i - min i j) (min i j);have a2:=signed_mul (neg y) n (j - min i j) (min i j)
 rw [Nat.sub_add_cancel (Nat.min_le_left i j)] at a1
 rw [Nat.sub_add_cancel (Nat.min_le_right i j)] at a2
 rw [a1,a2,cmp_mul _ _ _ (Nat.two_pow_pos _)]
theorem rung_word (s : Bool) {r : Nat} (h : r < 9223372036854775808) : rung (double.word s r) = r ∧ neg (double.word s r) = s:=by
 unfold Format.word rung neg
 rw [sw_eq];cases s
 ·rw [if_neg (by decide)];exact ⟨by omega,by rw [show r / 9223372036854775808 = 0 by omega];rfl⟩
 rw [if_pos rfl];exact ⟨by omega,by rw [show (9223372036854775808 + r) / 9223372036854775808 = 1 by omega];rfl⟩
theorem nearest_nn (s : Bool) (m : Nat) (p : Int) : nn (double.nearest s m p) ∧ neg (double.nearest s m p) = s:=by
 unfold Format.nearest nn
 dsimp only
 split
 ·have h:=rung_word s (r:=0) (by decide);exact ⟨by rw [h.1];decide,h.2⟩
 rw [inf_eq]
 generalize hr : min _ 9218868437227405312 = r
 have hle : r ≤ 9218868437227405312:=by rw [← hr];exact Nat.min_le_right _ _
 have h:=rung_word s (r:=r) (by omega);exact ⟨by rw [h.1];exact hle,h.2⟩
theorem write_inf (s : Bool) : rung (double.write (.infinity s)) = 9218868437227405312 ∧ neg (double.write (.infinity s)) = s:=by
 unfold Format.write
 simp only [inf_eq];exact rung_word s (by decide)
theorem write_nn {d : Datum} (h : d.isNaN = false) : nn (double.write d):=by
 cases d with
 | number s m p=>exact (nearest_nn s m p).1
 | infinity s=>unfold nn;rw [(write_inf s).1];exact Nat.le_refl _
 | nan s t=>cases h
theorem nn_cases {x : Nat} (h : nn x) : fin x ∨ rung x = 9218868437227405312:=by
 unfold nn at h;unfold fin;omega
theorem sum_nn {d e r : Datum} (h : d.sum e = some r) : r.isNaN = false:=by
 unfold Datum.sum at h
 split at h <;> first|(cases h;done)|skip
 ·split at h
  ·cases h;rfl
  cases h
 ·cases h;rfl
 ·cases h;rfl
 cases h;rfl
theorem product_nn {d e r : Datum} (h : d.product e = some r) : r.isNaN = false:=by
 unfold Datum.product at h
 split at h <;> first|(cases h;done)|skip
 ·cases h;rfl
 ·split at h
  ·cases h
  cases h;rfl
 ·split at h
  ·cases h
  cases h;rfl
 cases h;rfl
theorem quotient_nn {k : Nat} {d e r : Datum} (h : Datum.quotient k d e = some r) : r.isNaN = false:=by
 unfold Datum.quotient at h
 split at h <;> first|(cases h;done)|skip
 ·cases h;rfl
 ·cases h;rfl
 split at h
 ·split at h
  ·cases h
  cases h;rfl
 cases h;rfl
theorem fop_eq {op : BinOp} {x y r : Nat} (h : floatBits op .f64 x y = some r) : fok op x y = true ∧ fop op x y = r:=by
 unfold fok fop;rw [h];exact ⟨rfl,rfl⟩
theorem fop_nn {op : BinOp} {x y : Nat} (h : fok op x y = true) : nn (fop op x y):=by
 unfold fok at h
 unfold fop
 cases e : floatBits op .f64 x y with
 | none=>rw [e] at h;cases h
 | some r =>
  show nn r
  unfold floatBits at e
  split at e <;> first|(cases e;done)|skip
  ·obtain ⟨d,hd,rfl⟩:=Option.map_eq_some_iff.mp e;exact write_nn (sum_nn hd)
  ·obtain ⟨d,hd,rfl⟩:=Option.map_eq_some_iff.mp e;exact write_nn (sum_nn hd)
  ·obtain ⟨d,hd,rfl⟩:=Option.map_eq_some_iff.mp e;exact write_nn (product_nn hd)
  obtain ⟨d,hd,rfl⟩:=Option.map_eq_some_iff.mp e;exact write_nn (quotient_nn hd)
def inf (x : Nat) : Prop:=rung x = 9218868437227405312
theorem add_fin {x y : Nat} (hx : fin x) (hy : fin y) : fok .add x y = true:=by
 obtain ⟨m,i,h1,_⟩:=read_fin hx;obtain ⟨n,j,h2,_⟩:=read_fin hy;exact (fop_eq (op:=.add) (show double.add x y = some _ by unfold Format.add;rw [h1,h2];rfl)).1
theorem sub_fin {x y : Nat} (hx : fin x) (hy : fin y) : fok .sub x y = true:=by
 obtain ⟨m,i,h1,_⟩:=read_fin hx;obtain ⟨n,j,h2,_⟩:=read_fin hy;exact (fop_eq (op:=.sub) (show double.sub x y = some _ by unfold Format.sub;rw [h1,h2];rfl)).1
theorem mul_fin {x y : Nat} (hx : fin x) (hy : fin y) : fok .mul x y = true:=by
 obtain ⟨m,i,h1,_⟩:=read_fin hx;obtain ⟨n,j,h2,_⟩:=read_fin hy;exact (fop_eq (op:=.mul) (show double.mul x y = some _ by unfold Format.mul;rw [h1,h2];rfl)).1
theorem add_inf {x y : Nat} (hx : inf x) (hy : fin y) : fok .add x y = true ∧ inf (fop .add x y) ∧ neg (fop .add x y) = neg x:=by
 obtain ⟨n,j,h2,_⟩:=read_fin hy;have h:=fop_eq (op:=.add) (r:=double.write (.infinity (neg x))) (show double.add x y = some _ by unfold Format.add;rw [read_inf hx,h2];rfl);rw [h.2];exact ⟨h.1,write_inf _⟩
theorem fin_add_inf {x y : Nat} (hx : fin x) (hy : inf y) : fok .add x y = true ∧ inf (fop .add x y) ∧ neg (fop .add x y) = neg y:=by
 obtain ⟨n,j,h2,_⟩:=read_fin hx;have h:=fop_eq (op:=.add) (r:=double.write (.infinity (neg y))) (show double.add x y = some _ by unfold Format.add;rw [read_inf hy,h2];rfl);rw [h.2];exact ⟨h.1,write_inf _⟩
theorem fin_sub_inf {x y : Nat} (hx : fin x) (hy : inf y) : fok .sub x y = true ∧ inf (fop .sub x y) ∧ neg (fop .sub x y) = !neg y:=by
 obtain ⟨n,j,h2,_⟩:=read_fin hx;have h:=fop_eq (op:=.sub) (r:=double.write (.infinity (!neg y))) (show double.sub x y = some _ by unfold Format.sub;rw [read_inf hy,h2];rfl);rw [h.2];exact ⟨h.1,write_inf _⟩
theorem cut_zero (s : Bool) (n : Nat) : Toward.even.cut s n 0 = n:=by
 unfold Toward.cut
 simp [Nat.mod_one]
def lastp (m : Nat) (p : Int) : Int:=max (p + m.log2 - 52) (-1074)
def kept (s : Bool) (m : Nat) (p : Int) : Nat:=Toward.even.cut s (m <<< (p - lastp m p).toNat) (lastp m p - p).toNat
theorem nearest_eq (s : Bool) {m : Nat} (p : Int) (hm : m ≠ 0) : double.nearest s m p = double.word s (min ((lastp m p + 1074).toNat * 4503599627370496 + kept s m p) 9218868437227405312):=by
 unfold Format.nearest kept lastp
 rw [if_neg hm];have e1 : (double.fractionBits : Int) = 52:=rfl;simp only [inf_eq,bin_eq,lp_eq,e1,Int.sub_neg]
theorem log2_hi (m : Nat) : m < 2 ^ (m.log2 + 1):=Nat.lt_log2_self
theorem cut_bounds (s : Bool) (n d : Nat) (h : 0 < n) : n / 2 ^ d ≤ Toward.even.cut s n d ∧ Toward.even.cut s n d ≤ n / 2 ^ d + 1:=by
 unfold Toward.cut
 simp only [Nat.shiftLeft_eq,Nat.one_mul]
 by_cases hd : d ≤ n.log2 + 2
 ·rw [Nat.min_eq_left hd];refine ⟨Nat.le_add_right _ _,?_⟩
  have : ∀ b : Bool,b.toNat ≤ 1:=by decide
  exact Nat.add_le_add_left (this _) _
 rw [Nat.min_eq_right (by omega)];have h1:=log2_hi n;have h2 : 2 ^ (n.log2 + 1) ≤ 2 ^ d:=Nat.pow_le_pow_right (by decide) (by omega)
 have h3 : 2 ^ (n.log2 + 2) = 2 * 2 ^ (n.log2 + 1):=by rw [Nat.pow_succ,Nat.mul_comm]
 rw [Nat.div_eq_of_lt (by omega),Nat.div_eq_of_lt (by omega),Nat.mod_eq_of_lt (by omega)];refine ⟨Nat.zero_le _,?_⟩
 have : ∀ b : Bool,0 + b.toNat ≤ 0 + 1:=by decide
 exact this _
end Go.Proofs.Ytijmdmnhbbcahaa.QFloTallySteps
namespace Go.Proofs.Ytijmdmnhbbcahaa.QFloBTallySteps
open Go.RowKit Go.Proofs.Ytijmdmnhbbcahaa.PTallySteps Go.Proofs.YtijmdmnhbbcahaaW.PrintWords Go.Proofs.YtijmdmnhbbcahaaW.PrintLast Go.Proofs.Ytijmdmnhbbcahaa.QFloTallySteps
set_option linter.unusedVariables false
set_option linter.unusedSimpArgs false
open Ieee
theorem ord {x y : Nat} (hx : fin x) (hy : fin y) : FloatKind.f64.format.order x y = some (compare (val x) (val y)):=order_fin hx hy
theorem fin_zero : fin 0:=by unfold fin rung;decide
theorem val_zero : val 0 = 0:=by unfold val;simp [mag,rung]
theorem mag_rung {x y : Nat} (h : rung x = rung y) : mag x = mag y:=by unfold mag;rw [h]
theorem mag_zero {x : Nat} : mag x = 0 ↔ rung x = 0:=by
 unfold mag
 by_cases h : rung x < 4503599627370496
 ·rw [if_pos h]
 rw [if_neg h];have h1:=Nat.two_pow_pos (rung x / 4503599627370496 - 1);have h2 : 0 < (4503599627370496 + rung x % 4503599627370496) * 2 ^ (rung x / 4503599627370496 - 1):=Nat.mul_pos (by omega) h1
 omega
theorem read_zero {z : Nat} (h : rung z = 0) : double.read z = .number (neg z) 0 (-1074):=by
 unfold rung at h
 unfold Format.read neg
 simp only [sw_eq,inf_eq,bin_eq,lp_eq];rw [if_pos (by omega),h]
theorem word_self {x : Nat} (h : x < 18446744073709551616) : double.word (neg x) (rung x) = x:=by
 unfold Format.word neg rung
 rw [sw_eq]
 by_cases h1 : x / 9223372036854775808 % 2 = 1
 ·rw [h1];simp;omega
 rw [show x / 9223372036854775808 % 2 = 0 by omega];simp;omega
theorem cut_exact (s : Bool) (K d : Nat) (hK : 0 < K) : Toward.even.cut s (K * 2 ^ d) d = K:=by
 unfold Toward.cut
 have hp:=Nat.two_pow_pos d
 have h0 : K * 2 ^ d ≠ 0:=by have:=Nat.mul_pos hK hp;omega
 have h1 : d ≤ (K * 2 ^ d).log2:=(Nat.le_log2 h0).2 (Nat.le_mul_of_pos_left _ hK);simp only [Nat.shiftLeft_eq,Nat.one_mul];rw [Nat.min_eq_left (by omega),Nat.mul_div_cancel _ hp,Nat.mul_mod_left]
 have h2 : (decide (2 ^ d < 2 * 0) || (2 ^ d == 2 * 0 && K % 2 == 1)) = false:=by
  have a : decide (2 ^ d < 2 * 0) = false:=decide_eq_false (by omega);have b : (2 ^ d == 2 * 0) = false:=beq_false_of_ne (by omega);rw [a,b];rfl
 rw [h2];rfl
theorem log2_of {m e : Nat} (h1 : 2 ^ e ≤ m) (h2 : m < 2 ^ (e + 1)) : m.log2 = e:=by
 have h0 : m ≠ 0:=by have:=Nat.two_pow_pos e;omega
 have a:=(Nat.le_log2 h0).2 h1;have b:=(Nat.log2_lt h0).2 h2
 omega
theorem nearest_self (s : Bool) {x : Nat} (hx : fin x) : double.nearest s (mag x) (-1074) = double.word s (rung x):=by
 by_cases h0 : rung x = 0
 ·rw [mag_zero.2 h0,h0]
  unfold Format.nearest
  rw [if_pos rfl]
 have hm : mag x ≠ 0:=fun h=>h0 (mag_zero.1 h)
 rw [nearest_eq s (-1074) hm]
 unfold fin at hx
 by_cases h : rung x < 4503599627370496
 ·have e : mag x = rung x:=by unfold mag;rw [if_pos h]
  have hl : (rung x).log2 < 52:=(Nat.log2_lt h0).2 h
  have e2 : lastp (mag x) (-1074) = -1074:=by unfold lastp;rw [e];omega
  unfold kept
  rw [e2,e];simp only [Int.sub_self,Int.toNat_zero,Nat.shiftLeft_zero];rw [cut_zero]
  congr 1
  simp
  omega
 obtain ⟨E,hE⟩ : ∃ E,E = rung x / 4503599627370496 - 1:=⟨_,rfl⟩
 obtain ⟨K,hK⟩ : ∃ K,K = 4503599627370496 + rung x % 4503599627370496:=⟨_,rfl⟩
 have e : mag x = K * 2 ^ E:=by unfold mag;rw [if_neg h,hE,hK]
 have hl : (mag x).log2 = 52 + E:=by
  rw [e];have p0 : 4503599627370496 * 2 ^ E ≤ K * 2 ^ E:=Nat.mul_le_mul_right _ (by omega);have p1 : K * 2 ^ E < 9007199254740992 * 2 ^ E:=Nat.mul_lt_mul_of_pos_right (by omega) (Nat.two_pow_pos E);refine log2_of ?_ ?_
  ·rw [Nat.pow_add];exact p0
  rw [show 52 + E + 1 = 53 + E by omega,Nat.pow_add];exact p1
 have e2 : lastp (mag x) (-1074) = -1074 + E:=by unfold lastp;rw [hl];omega
 unfold kept
 rw [e2,e];rw [show (-1074 - (-1074 + (E : Int))).toNat = 0 by omega,show (-1074 + (E : Int) - -1074).toNat = E by omega,show (-1074 + (E : Int) + 1074).toNat = E by omega,Nat.shiftLeft_zero,cut_exact s K E (by omega)]
 congr 1
 omega
theorem fop_lt {op : BinOp} {x y : Nat} : fop op x y < 18446744073709551616:=by
 unfold fop
 cases e : floatBits op .f64 x y with
 | none=>decide
 | some r =>
  have h:=floatBits_wf e;have h2 : decide (r < 2 ^ 64) = true:=h;exact of_decide_eq_true h2
theorem add_zero {x z : Nat} (hx : fin x) (hx2 : x < 18446744073709551616) (hz : rung z = 0) : fok .add x z = true ∧ (rung x ≠ 0 → fop .add x z = x) ∧ (rung x = 0 → rung (fop .add x z) = 0):=by
 obtain ⟨m,k,h1,h2⟩:=read_fin hx
 have hs : (Datum.number (neg x) m ((k : Int) - 1074)).sum (.number (neg z) 0 (-1074)) = some (.number (if signed (neg x) m k = 0 then neg x && neg z else signed (neg x) m k < 0) (signed (neg x) m k).natAbs (-1074)):=by
  unfold Datum.sum
  have e1 : min ((k : Int) - 1074) (-1074) = -1074:=by omega
  simp only;rw [e1,show ((k : Int) - 1074 - -1074).toNat = k by omega,show (-1074 - -1074 : Int).toNat = 0 by decide]
  have e2 : ∀ s,signed s 0 0 = 0:=by intro s;cases s <;> rfl
  rw [e2,Int.add_zero]
 have e:=fop_eq (op:=.add) (x:=x) (y:=z) (r:=_) (show double.add x z = some _ by unfold Format.add;rw [h1,read_zero hz,hs];rfl)
 have hv : (signed (neg x) m k).natAbs = mag x:=by
  unfold signed
  rw [Nat.shiftLeft_eq,← h2]
  split <;> simp
 refine ⟨e.1,fun h0=>?_,fun h0=>?_⟩
 ·rw [e.2]
  show double.nearest _ _ _ = _
  rw [hv,nearest_self _ hx]
  have hm : mag x ≠ 0:=fun h=>h0 (mag_zero.1 h)
  have hne : signed (neg x) m k ≠ 0:=by omega
  rw [if_neg hne]
  have : (decide (signed (neg x) m k < 0)) = neg x:=by
   unfold signed
   rw [Nat.shiftLeft_eq,← h2];cases hn : neg x
   ·simp
   simp;omega
  rw [this,word_self hx2]
 rw [e.2]
 show rung (double.nearest _ _ _) = _
 rw [hv,nearest_self _ hx,h0];exact (rung_word _ (by decide)).1
theorem sub_zero {x z : Nat} (hx : fin x) (hz : rung z = 0) : fin (fop .sub x z):=by
 obtain ⟨m,k,h1,h2⟩:=read_fin hx
 have hs : (Datum.number (neg x) m ((k : Int) - 1074)).sum (.number (!neg z) 0 (-1074)) = some (.number (if signed (neg x) m k = 0 then neg x && !neg z else signed (neg x) m k < 0) (signed (neg x) m k).natAbs (-1074)):=by
  unfold Datum.sum
  have e1 : min ((k : Int) - 1074) (-1074) = -1074:=by omega
  simp only;rw [e1,show ((k : Int) - 1074 - -1074).toNat = k by omega,show (-1074 - -1074 : Int).toNat = 0 by decide]
  have e2 : ∀ s,signed s 0 0 = 0:=by intro s;cases s <;> rfl
  rw [e2,Int.add_zero]
 have e:=fop_eq (op:=.sub) (x:=x) (y:=z) (r:=_) (show double.sub x z = some _ by unfold Format.sub;rw [h1,read_zero hz];show Option.map _ ((Datum.number (neg x) m ((k : Int) - 1074)).sum (.number (!neg z) 0 (-1074))) = _;rw [hs];rfl)
 have hv : (signed (neg x) m k).natAbs = mag x:=by
  unfold signed
  rw [Nat.shiftLeft_eq,← h2]
  split <;> simp
 rw [e.2]
 unfold fin
 show rung (double.nearest _ _ _) < _
 rw [hv,nearest_self _ hx];have h3 : rung x < 9223372036854775808:=Nat.mod_lt _ (by decide);rw [(rung_word _ h3).1];exact hx
theorem quo_ok {d n : Nat} (hd : nn d) (hn : fin n) (h0 : rung n ≠ 0) : fok .quo d n = true ∧ (inf d → inf (fop .quo d n)) ∧ (rung d = 0 → rung (fop .quo d n) = 0):=by
 obtain ⟨m,k,h1,h2⟩:=read_fin hn
 have hm : m ≠ 0:=by rintro rfl;rw [Nat.zero_mul] at h2;exact h0 (mag_zero.1 h2)
 rcases nn_cases hd with hf|hi
 ·obtain ⟨p,i,h3,h4⟩:=read_fin hf;have e:=fop_eq (op:=.quo) (x:=d) (y:=n) (r:=_) (show double.div d n = some _ by unfold Format.div;rw [h1,h3];unfold Datum.quotient;simp only;rw [if_neg hm];rfl);refine ⟨e.1,fun h=>?_,fun h=>?_⟩
  ·unfold fin at hf;unfold inf at h;omega
  rw [e.2]
  have hp : p = 0:=by
   have:=mag_zero.2 h
   rw [h4] at this
   rcases Nat.mul_eq_zero.1 this with h5|h5
   ·exact h5
   have:=Nat.two_pow_pos i;omega
  subst hp;simp only [Nat.zero_shiftLeft,Nat.zero_div,Nat.zero_mod,Nat.mul_zero]
  show rung (double.nearest _ 0 _) = 0
  unfold Format.nearest
  rw [if_pos rfl];exact (rung_word _ (by decide)).1
 have e:=fop_eq (op:=.quo) (x:=d) (y:=n) (r:=double.write (.infinity (neg d ^^ neg n))) (show double.div d n = some _ by unfold Format.div;rw [h1,read_inf hi];rfl);refine ⟨e.1,fun _=>by rw [e.2];exact (write_inf _).1,fun h=>?_⟩
 unfold inf at *;omega
theorem mul_inf_inf {x y : Nat} (hx : inf x) (hy : inf y) : fok .mul x y = true :=
 (fop_eq (op:=.mul) (show double.mul x y = some _ by unfold Format.mul;rw [read_inf hx,read_inf hy];rfl)).1
theorem mul_some {x y : Nat} (hx : fin x) (h0 : rung x ≠ 0) (hy : nn y) : fok .mul x y = true:=by
 obtain ⟨m,k,h1,h2⟩:=read_fin hx
 have hm : m ≠ 0:=by rintro rfl;rw [Nat.zero_mul] at h2;exact h0 (mag_zero.1 h2)
 rcases nn_cases hy with hf|hi
 ·exact mul_fin hx hf
 exact (fop_eq (op:=.mul) (r:=double.write (.infinity (neg y ^^ neg x))) (show double.mul x y = some _ by unfold Format.mul;rw [h1,read_inf hi];unfold Datum.product;simp only;rw [if_neg hm];rfl)).1
theorem nn_add_fin {x y : Nat} (hx : nn x) (hy : fin y) : fok .add x y = true:=by
 rcases nn_cases hx with h|h
 ·exact add_fin h hy
 exact (add_inf h hy).1
theorem fin_add_nn {x y : Nat} (hx : fin x) (hy : nn y) : fok .add x y = true:=by
 rcases nn_cases hy with h|h
 ·exact add_fin hx h
 exact (fin_add_inf hx h).1
theorem fin_sub_nn {x y : Nat} (hx : fin x) (hy : nn y) : fok .sub x y = true:=by
 rcases nn_cases hy with h|h
 ·exact sub_fin hx h
 exact (fin_sub_inf hx h).1
theorem whole {N : Int} (h1 : 1 ≤ N) (h2 : N ≤ 4611686018427387905) : fin (floatOfInt .f64 N) ∧ rung (floatOfInt .f64 N) ≠ 0:=by
 show fin (double.nearest (N < 0) N.natAbs 0) ∧ rung (double.nearest (N < 0) N.natAbs 0) ≠ 0
 obtain ⟨m,hm⟩ : ∃ m,m = N.natAbs:=⟨_,rfl⟩
 rw [← hm]
 have hm0 : m ≠ 0:=by omega
 have hm1 : m ≤ 4611686018427387905:=by omega
 rw [nearest_eq _ 0 hm0];have hl : m.log2 < 63:=(Nat.log2_lt hm0).2 (by omega)
 have e1 : lastp m 0 = (m.log2 : Int) - 52:=by unfold lastp;omega
 have hk : kept (N < 0) m 0 ≤ 2305843009213693954:=by
  unfold kept
  rw [e1]
  by_cases hd : m.log2 ≤ 52
  ·rw [show ((m.log2 : Int) - 52 - 0).toNat = 0 by omega,cut_zero,Nat.shiftLeft_eq];have h3:=log2_hi m;have h4 : m * 2 ^ (0 - ((m.log2 : Int) - 52)).toNat < 2 ^ (m.log2 + 1) * 2 ^ (0 - ((m.log2 : Int) - 52)).toNat:=Nat.mul_lt_mul_of_pos_right h3 (Nat.two_pow_pos _)
   rw [← Nat.pow_add,show m.log2 + 1 + (0 - ((m.log2 : Int) - 52)).toNat = 53 by omega] at h4
   omega
  rw [show (0 - ((m.log2 : Int) - 52)).toNat = 0 by omega,Nat.shiftLeft_zero]
  obtain ⟨d,hd2⟩ : ∃ d,((m.log2 : Int) - 52 - 0).toNat = d + 1:=⟨((m.log2 : Int) - 52 - 0).toNat - 1,by omega⟩
  rw [hd2];have h3:=(cut_bounds (N < 0) m (d + 1) (by omega)).2;have h4 : m / 2 ^ (d + 1) ≤ m / 2:=Nat.div_le_div_left (by rw [Nat.pow_succ];have:=Nat.two_pow_pos d;omega) (by decide)
  omega
 rw [e1]
 obtain ⟨L,hL⟩ : ∃ L,L = ((m.log2 : Int) - 52 + 1074).toNat:=⟨_,rfl⟩
 rw [← hL]
 have hL1 : L ≤ 1084:=by omega
 have hL2 : 1022 ≤ L:=by omega
 generalize kept (N < 0) m 0 = K at *
 rw [Nat.min_eq_left (by omega)];have h5:=(rung_word (N < 0) (r:=L * 4503599627370496 + K) (by omega)).1
 unfold fin
 rw [h5]
 omega
end Go.Proofs.Ytijmdmnhbbcahaa.QFloBTallySteps
namespace Go.Proofs.Ytijmdmnhbbcahaa.QTalTallySteps
open Go.RowKit Go.Proofs.Ytijmdmnhbbcahaa.PTallySteps Go.Proofs.YtijmdmnhbbcahaaW.PrintWords Go.Proofs.YtijmdmnhbbcahaaW.PrintLast Go.Proofs.Ytijmdmnhbbcahaa.QFloTallySteps Go.Proofs.Ytijmdmnhbbcahaa.QFloBTallySteps
set_option linter.unusedVariables false
set_option linter.unusedSimpArgs false
open Ieee
theorem fin_nn {x : Nat} (h : fin x) : nn x:=by unfold fin at h;unfold nn;omega
theorem absB_eq {x : Nat} (h : x < 18446744073709551616) : absB x = rung x:=by
 unfold absB Go.bits
 have e1 : (BitVec.ofInt IntKind.u64.bits (x : Int)).toNat = x:=by
  rw [BitVec.toNat_ofInt]
  show ((x : Int) % ((18446744073709551616 : Nat) : Int)).toNat = x
  omega
 have e2 : (~~~(BitVec.ofInt IntKind.u64.bits 9223372036854775808)).toNat = 2 ^ 63 - 1:=by decide
 have e3 : ((BitVec.ofInt IntKind.u64.bits (x : Int)) &&& ~~~(BitVec.ofInt IntKind.u64.bits 9223372036854775808)).toNat = rung x:=by
  rw [BitVec.toNat_and,e1,e2,Nat.and_two_pow_sub_one_eq_mod];rfl
 show (IntKind.u64.wrap (((BitVec.ofInt IntKind.u64.bits (x : Int)) &&& ~~~(BitVec.ofInt IntKind.u64.bits 9223372036854775808)).toNat : Int)).toNat = _
 rw [e3];have h2 : rung x < 9223372036854775808:=Nat.mod_lt _ (by decide)
 have e4 : IntKind.u64.wrap (rung x : Int) = (rung x : Int):=by
  show (rung x : Int) % 18446744073709551616 = _
  omega
 rw [e4]
 omega
theorem rung_rung (x : Nat) : rung (rung x) = rung x:=by unfold rung;omega
theorem neg_rung (x : Nat) : neg (rung x) = false:=by
 unfold neg rung
 rw [show x % 9223372036854775808 / 9223372036854775808 = 0 by omega];rfl
theorem val_rung (x : Nat) : val (rung x) = mag x:=by
 unfold val
 rw [neg_rung,mag_rung (rung_rung x)];rfl
theorem fin_rung {x : Nat} (h : fin x) : fin (rung x):=by unfold fin at *;rw [rung_rung];exact h
theorem isnan_eq (x : Nat) : math_IsNaN.f x = some (!decide (nn x)):=by
 unfold math_IsNaN.f
 congr 1
 by_cases h : nn x
 ·rw [decide_eq_true h]
  rcases nn_cases h with g|g
  ·rw [ord g g,Int.compare_eq_eq.mpr rfl];rfl
  show (double.order x x != some .eq) = false
  unfold Format.order
  rw [read_inf g]
  unfold Datum.order
  cases neg x <;> rfl
 rw [decide_eq_false h];obtain ⟨s,t,e⟩:=read_nan h
 show (double.order x x != some .eq) = true
 unfold Format.order
 rw [e];rfl
set_option exponentiation.threshold 4000 in
theorem mag_top {x : Nat} (h : fin x) : mag x ≤ 9007199254740991 * 2 ^ 2045:=by
 unfold fin at h
 unfold mag
 split
 ·have:=Nat.two_pow_pos 2045
  omega
 exact Nat.mul_le_mul (by omega) (Nat.pow_le_pow_right (by decide) (by omega))
theorem val_top : val 9218868437227405311 = ((9007199254740991 * 2 ^ 2045 : Nat) : Int):=by decide +kernel
theorem fin_top : fin 9218868437227405311:=by unfold fin rung;decide
theorem isinf_eq {x : Nat} (h : x < 18446744073709551616) (hn : nn x) : math_IsInf.f x 0 = some (!decide (fin x)):=by
 unfold math_IsInf.f math_Abs.f
 rw [if_pos rfl,absB_eq h]
 show some _ = _
 congr 1
 by_cases g : fin x
 ·rw [decide_eq_true g,ord (fin_rung g) fin_top,val_rung,val_top];have:=mag_top g
  have e : compare (mag x : Int) ((9007199254740991 * 2 ^ 2045 : Nat) : Int) ≠ .gt:=by
   rw [ne_eq,Int.compare_eq_gt]
   omega
  cases e2 : compare (mag x : Int) ((9007199254740991 * 2 ^ 2045 : Nat) : Int) with
  | gt=>exact absurd e2 e
  | lt=>rfl
  | eq=>rfl
 rw [decide_eq_false g]
 have e : rung x = 9218868437227405312:=by unfold nn at hn;unfold fin at g;omega
 rw [e]
 decide +kernel
theorem sub_self {x : Nat} (h : fin x) : rung (fop .sub x x) = 0:=by
 obtain ⟨m,k,h1,h2⟩:=read_fin h
 have hs : (Datum.number (neg x) m ((k : Int) - 1074)).sum (.number (!neg x) m ((k : Int) - 1074)) = some (.number (neg x && !neg x) 0 ((k : Int) - 1074)):=by
  unfold Datum.sum
  simp only [Int.min_self,Int.sub_self,Int.toNat_zero]
  have e2 : signed (neg x) m 0 + signed (!neg x) m 0 = 0:=by unfold signed;cases neg x <;> simp <;> omega
  rw [e2];rfl
 have e:=fop_eq (op:=.sub) (x:=x) (y:=x) (r:=_) (show double.sub x x = some _ by unfold Format.sub;rw [h1];show Option.map _ ((Datum.number (neg x) m ((k : Int) - 1074)).sum (.number (!neg x) m ((k : Int) - 1074))) = _;rw [hs];rfl);rw [e.2]
 show rung (double.nearest _ 0 _) = 0
 unfold Format.nearest
 rw [if_pos rfl];exact (rung_word _ (by decide)).1
theorem val_of_zero {x : Nat} (h : rung x = 0) : val x = 0:=by
 unfold val
 rw [mag_zero.2 h]
 split <;> simp
theorem fin_of_zero {x : Nat} (h : rung x = 0) : fin x:=by unfold fin;omega
theorem sub_inf_self {x : Nat} (h : inf x) : fok .sub x x = false:=by
 have e : floatBits .sub .f64 x x = none:=by
  show double.sub x x = none
  unfold Format.sub
  rw [read_inf h]
  show Option.map _ ((Datum.infinity (neg x)).sum (.infinity (!neg x))) = none
  unfold Datum.sum
  cases neg x <;> rfl
 unfold fok
 rw [e];rfl
theorem sub_nan_self {x : Nat} (h : ¬ nn x) : fok .sub x x = false:=by
 obtain ⟨s,t,e0⟩:=read_nan h
 have e : floatBits .sub .f64 x x = none:=by
  show double.sub x x = none
  unfold Format.sub
  rw [e0];rfl
 unfold fok
 rw [e];rfl
theorem finite_eq (x : Nat) : quarryref13_Finite.f x = some (decide (fin x)):=by
 unfold quarryref13_Finite.f
 congr 1
 by_cases g : fin x
 ·have h0:=sub_self g;rw [decide_eq_true g,sub_fin g g,ord (fin_of_zero h0) fin_zero,val_of_zero h0,val_zero];rfl
 rw [decide_eq_false g]
 by_cases h : nn x
 ·rw [sub_inf_self (by unfold nn at h;unfold fin at g;unfold inf;omega)];rfl
 rw [sub_nan_self h];rfl
theorem w64 (n : Int) (h : -9223372036854775808 ≤ n) (h2 : n ≤ 9223372036854775807) : wrap64 n = n:=by unfold wrap64;omega
theorem rd_at {l : List Nat} {i : Nat} (h : i < l.length) : rdOf (0 : Nat) l (i : Int) = l[i]:=by unfold rdOf;simp [h]
theorem all_cons (x : Nat) (l : List Nat) : decide (∀ y ∈ x :: l,fin y) = (decide (fin x) && decide (∀ y ∈ l,fin y)):=by
 by_cases h : fin x <;> simp [h]
theorem tf_loop (l : List Nat) (hm : l.length < 9223372036854775807) (hw : ∀ x ∈ l,x < 18446744073709551616) : ∀ (n k i : Nat),i + n = l.length → n < k →
  tally_finite.l0 k l (l.length : Int) (i : Int) = some (decide (∀ x ∈ l.drop i,fin x))
 | 0,k + 1,i,h,_=>by
  rw [tally_finite.l0,if_neg (by omega),List.drop_eq_nil_of_le (by omega)]
  simp
 | n + 1,k + 1,i,h,hk=>by
  have hi : i < l.length:=by omega
  rw [tally_finite.l0,if_pos (by omega),if_pos (by omega),if_pos (by omega),rd_at hi,isnan_eq,List.drop_eq_getElem_cons hi,all_cons]
  by_cases g : nn l[i]
  ·rw [decide_eq_true g];rw [Bool.not_true,Option.bind_some,if_neg (by decide),isinf_eq (hw _ (List.getElem_mem hi)) g]
   by_cases g2 : fin l[i]
   ·rw [decide_eq_true g2]
    show tally_finite.l0 k l (l.length : Int) (wrap64 ((i : Int) + 1)) = _
    rw [w64 _ (by omega) (by omega)];exact tf_loop l hm hw n k (i + 1) (by omega) (by omega)
   rw [decide_eq_false g2];rfl
  rw [decide_eq_false g]
  show some false = _
  have g2 : ¬ fin l[i]:=fun h=>g (fin_nn h)
  rw [decide_eq_false g2];rfl
theorem tf_eq (l : List Nat) (k : Nat) (hk : l.length < k) (hm : l.length < 9223372036854775807) (hw : ∀ x ∈ l,x < 18446744073709551616) : tally_finite.f k l = some (decide (∀ x ∈ l,fin x)) :=
 tf_loop l hm hw l.length k 0 (by omega) hk
end Go.Proofs.Ytijmdmnhbbcahaa.QTalTallySteps
namespace Go.Proofs.Ytijmdmnhbbcahaa.QFloCTallySteps
open Go.RowKit Go.Proofs.Ytijmdmnhbbcahaa.PTallySteps Go.Proofs.YtijmdmnhbbcahaaW.PrintWords Go.Proofs.YtijmdmnhbbcahaaW.PrintLast Go.Proofs.Ytijmdmnhbbcahaa.QFloTallySteps Go.Proofs.Ytijmdmnhbbcahaa.QFloBTallySteps Go.Proofs.Ytijmdmnhbbcahaa.QTalTallySteps
set_option linter.unusedVariables false
set_option linter.unusedSimpArgs false
open Ieee
theorem whole2 {N : Int} (h1 : 1 ≤ N) (h2 : N ≤ 4611686018427387905) : fin (floatOfInt .f64 N) ∧ 4593671619917905920 ≤ rung (floatOfInt .f64 N) ∧ rung (floatOfInt .f64 N) ≤ 4904418994206670848 ∧ neg (floatOfInt .f64 N) = false:=by
 have hng : neg (floatOfInt .f64 N) = false:=by
  have h:=(nearest_nn (N < 0) N.natAbs 0).2
  show neg (double.nearest (N < 0) N.natAbs 0) = false
  rw [h];exact decide_eq_false (by omega)
 show fin (double.nearest (N < 0) N.natAbs 0) ∧ 4593671619917905920 ≤ rung (double.nearest (N < 0) N.natAbs 0) ∧ rung (double.nearest (N < 0) N.natAbs 0) ≤ 4904418994206670848 ∧ _
 refine ⟨?_,?_,?_,hng⟩ <;> clear hng
 all_goals
  obtain ⟨m,hm⟩ : ∃ m,m = N.natAbs:=⟨_,rfl⟩
  rw [← hm]
  have hm0 : m ≠ 0:=by omega
  have hm1 : m ≤ 4611686018427387905:=by omega
  rw [nearest_eq _ 0 hm0];have hl : m.log2 < 63:=(Nat.log2_lt hm0).2 (by omega)
  have e1 : lastp m 0 = (m.log2 : Int) - 52:=by unfold lastp;omega
  have hk : kept (N < 0) m 0 ≤ 9007199254740992:=by
   unfold kept
   rw [e1]
   by_cases hd : m.log2 ≤ 52
   ·rw [show ((m.log2 : Int) - 52 - 0).toNat = 0 by omega,cut_zero,Nat.shiftLeft_eq];have h3:=log2_hi m;have h4 : m * 2 ^ (0 - ((m.log2 : Int) - 52)).toNat < 2 ^ (m.log2 + 1) * 2 ^ (0 - ((m.log2 : Int) - 52)).toNat:=Nat.mul_lt_mul_of_pos_right h3 (Nat.two_pow_pos _)
    rw [← Nat.pow_add,show m.log2 + 1 + (0 - ((m.log2 : Int) - 52)).toNat = 53 by omega] at h4
    omega
   rw [show (0 - ((m.log2 : Int) - 52)).toNat = 0 by omega,Nat.shiftLeft_zero,show ((m.log2 : Int) - 52 - 0).toNat = m.log2 - 52 by omega];have h3:=(cut_bounds (N < 0) m (m.log2 - 52) (by omega)).2
   have h4 : m / 2 ^ (m.log2 - 52) < 2 ^ 53:=by
    rw [Nat.div_lt_iff_lt_mul (Nat.two_pow_pos _),← Nat.pow_add,show 53 + (m.log2 - 52) = m.log2 + 1 by omega];exact log2_hi m
   omega
  rw [e1]
  obtain ⟨L,hL⟩ : ∃ L,L = ((m.log2 : Int) - 52 + 1074).toNat:=⟨_,rfl⟩
  rw [← hL]
  have hL1 : L ≤ 1084:=by omega
  have hL2 : 1022 ≤ L:=by omega
  generalize kept (N < 0) m 0 = K at *
  rw [Nat.min_eq_left (by omega)];have h5:=(rung_word (N < 0) (r:=L * 4503599627370496 + K) (by omega)).1
  first
  | (unfold fin;rw [h5];omega)
  | (rw [h5];omega)
end Go.Proofs.Ytijmdmnhbbcahaa.QFloCTallySteps
namespace Go.Proofs.Ytijmdmnhbbcahaa.QFormTallySteps
open Go.RowKit Go.Proofs.Ytijmdmnhbbcahaa.PTallySteps Go.Proofs.YtijmdmnhbbcahaaW.PrintWords Go.Proofs.YtijmdmnhbbcahaaW.PrintLast Go.Proofs.Ytijmdmnhbbcahaa.QFloTallySteps Go.Proofs.Ytijmdmnhbbcahaa.QFloBTallySteps Go.Proofs.Ytijmdmnhbbcahaa.QTalTallySteps
set_option linter.unusedVariables false
set_option linter.unusedSimpArgs false
theorem sound_eq {k : Nat} {c : Int} {x1 x2 x3 x4 x5 x6 : Nat} (hk : 6 < k) (hc : c ≤ 4611686018427387904) (h1 : x1 < 18446744073709551616) (h2 : x2 < 18446744073709551616) (h3 : x3 < 18446744073709551616) (h4 : x4 < 18446744073709551616) (h5 : x5 < 18446744073709551616) (h6 : x6 < 18446744073709551616) :
  tally_sound.f k c x1 x2 x3 x4 x5 x6 = some (decide (∀ x ∈ [x1,x2,x3,x4,x5,x6],fin x)):=by
 unfold tally_sound.f
 rw [if_pos hc,tf_eq _ k (by simpa using hk) (by simp) (by intro x hx;simp only [List.mem_cons,List.not_mem_nil,or_false] at hx;rcases hx with rfl|rfl|rfl|rfl|rfl|rfl <;> assumption)];rfl
theorem below_some {x : Nat} (h : fin x) : ∃ b,quarryref13_Below.f x = some b:=by
 unfold quarryref13_Below.f
 rw [ord h fin_zero,val_zero]
 cases e : compare (val x) 0 with
 | lt=>exact ⟨_,if_pos (by rfl)⟩
 | gt=>exact ⟨_,(if_neg (by decide)).trans (if_neg (by decide))⟩
 | eq =>
  have hv : val x = 0:=Int.compare_eq_eq.mp e
  have hm : mag x = 0:=by unfold val at hv;split at hv <;> omega
  have hr:=mag_zero.1 hm;rw [if_neg (by decide),if_pos (by decide)]
  have o : fok .quo 4607182418800017408 x = true:=by
   refine (fop_eq (op:=.quo) (r:=_) (show Ieee.double.div 4607182418800017408 x = some _ by
    unfold Ieee.Format.div
    rw [read_zero hr,show Ieee.double.read 4607182418800017408 = .number false 4503599627370496 (-52) by decide +kernel]
    unfold Ieee.Datum.quotient
    simp only;rw [if_pos trivial,if_neg (by decide)]
    rfl)).1
  rw [if_pos o];exact ⟨_,rfl⟩
theorem same_self {x : Nat} (h : fin x) : quarryref13_Same.f x x = some true:=by
 unfold quarryref13_Same.f
 obtain ⟨b,e⟩:=below_some h;rw [ord h h,Int.compare_eq_eq.mpr rfl,if_pos (by rfl),e,Option.bind_some,Option.bind_some,if_pos (by simp)]
end Go.Proofs.Ytijmdmnhbbcahaa.QFormTallySteps
namespace Go.Proofs.Ytijmdmnhbbcahaa.QStepsTallySteps
open Go.RowKit Go.Proofs.Ytijmdmnhbbcahaa.PTallySteps Go.Proofs.YtijmdmnhbbcahaaW.PrintWords Go.Proofs.YtijmdmnhbbcahaaW.PrintLast Go.Proofs.Ytijmdmnhbbcahaa.QFloTallySteps Go.Proofs.Ytijmdmnhbbcahaa.QFloBTallySteps Go.Proofs.Ytijmdmnhbbcahaa.QTalTallySteps Go.Proofs.Ytijmdmnhbbcahaa.QFormTallySteps Go.Proofs.Ytijmdmnhbbcahaa.QFloCTallySteps
set_option linter.unusedVariables false
set_option linter.unusedSimpArgs false
open Ieee
theorem lt_iff {x y : Nat} (hx : fin x) (hy : fin y) : (FloatKind.f64.format.order x y == some .lt) = decide (val x < val y):=by
 rw [ord hx hy]
 cases e : compare (val x) (val y) with
 | lt=>have:=Int.compare_eq_lt.mp e;rw [decide_eq_true this];rfl
 | eq=>have:=Int.compare_eq_eq.mp e;rw [decide_eq_false (by omega)];rfl
 | gt=>have:=Int.compare_eq_gt.mp e;rw [decide_eq_false (by omega)];rfl
theorem gt_iff {x y : Nat} (hx : fin x) (hy : fin y) : (FloatKind.f64.format.order x y == some .gt) = decide (val y < val x):=by
 rw [ord hx hy]
 cases e : compare (val x) (val y) with
 | lt=>have:=Int.compare_eq_lt.mp e;rw [decide_eq_false (by omega)];rfl
 | eq=>have:=Int.compare_eq_eq.mp e;rw [decide_eq_false (by omega)];rfl
 | gt=>have:=Int.compare_eq_gt.mp e;rw [decide_eq_true this];rfl
theorem eq_iff {x y : Nat} (hx : fin x) (hy : fin y) : (FloatKind.f64.format.order x y == some .eq) = decide (val x = val y):=by
 rw [ord hx hy]
 cases e : compare (val x) (val y) with
 | lt=>have:=Int.compare_eq_lt.mp e;rw [decide_eq_false (by omega)];rfl
 | eq=>have:=Int.compare_eq_eq.mp e;rw [decide_eq_true this];rfl
 | gt=>have:=Int.compare_eq_gt.mp e;rw [decide_eq_false (by omega)];rfl
theorem signed_neg (s : Bool) (m k : Nat) : signed (!s) m k = - signed s m k:=by
 unfold signed
 cases s <;> simp
theorem sub_same {x y : Nat} (hx : fin x) (hy : fin y) (h : val x = val y) : fok .sub x y = true ∧ rung (fop .sub x y) = 0:=by
 obtain ⟨m,i,h1,h2⟩:=read_fin hx;obtain ⟨n,j,h3,h4⟩:=read_fin hy
 have e1 : ((i : Int) - 1074 - min ((i : Int) - 1074) ((j : Int) - 1074)).toNat = i - min i j:=by omega
 have e2 : ((j : Int) - 1074 - min ((i : Int) - 1074) ((j : Int) - 1074)).toNat = j - min i j:=by omega
 have a1:=signed_mul (neg x) m (i - min i j) (min i j);have a2:=signed_mul (neg y) n (j - min i j) (min i j)
 rw [Nat.sub_add_cancel (Nat.min_le_left i j)] at a1
 rw [Nat.sub_add_cancel (Nat.min_le_right i j)] at a2
 have hp : ((2 ^ min i j : Nat) : Int) ≠ 0:=by have:=Nat.two_pow_pos (min i j);omega
 have hs : signed (neg x) m (i - min i j) = signed (neg y) n (j - min i j):=by
  rw [val_signed h2,val_signed h4,a1,a2] at h
  exact Int.eq_of_mul_eq_mul_right hp h
 have hsum : (Datum.number (neg x) m ((i : Int) - 1074)).sum (.number (!neg y) n ((j : Int) - 1074)) = some (.number (neg x && !neg y) 0 (min ((i : Int) - 1074) ((j : Int) - 1074))):=by
  unfold Datum.sum
  simp only;rw [e1,e2,signed_neg,hs,Int.add_right_neg];rfl
 have e:=fop_eq (op:=.sub) (x:=x) (y:=y) (r:=_) (show double.sub x y = some _ by unfold Format.sub;rw [h1,h3];show Option.map _ ((Datum.number (neg x) m ((i : Int) - 1074)).sum (.number (!neg y) n ((j : Int) - 1074))) = _;rw [hsum];rfl);refine ⟨e.1,?_⟩;rw [e.2]
 show rung (double.nearest _ 0 _) = 0
 unfold Format.nearest
 rw [if_pos rfl];exact (rung_word _ (by decide)).1
theorem mul_zero {x y : Nat} (hx : rung x = 0) (hy : fin y) : rung (fop .mul x y) = 0:=by
 obtain ⟨n,j,h3,h4⟩:=read_fin hy;have e:=fop_eq (op:=.mul) (x:=x) (y:=y) (r:=double.nearest (neg x ^^ neg y) 0 (-1074 + ((j : Int) - 1074))) (show double.mul x y = some _ by unfold Format.mul;rw [read_zero hx,h3];unfold Datum.product;simp only [Nat.zero_mul];rfl);rw [e.2]
 unfold Format.nearest
 rw [if_pos rfl];exact (rung_word _ (by decide)).1
theorem val_add_zero {x z : Nat} (hx : fin x) (hx2 : x < 18446744073709551616) (hz : rung z = 0) : val (fop .add x z) = val x:=by
 obtain ⟨_,s1,s2⟩:=add_zero hx hx2 hz
 by_cases g : rung x = 0
 ·rw [val_of_zero (s2 g),val_of_zero g]
 rw [s1 g]
theorem lost_ok {x a s : Nat} (hx : fin x) (ha : fin a) (hs : nn s) : ∃ lo,nn lo ∧ tally_lost.f x a s = some lo:=by
 unfold tally_lost.f math_Abs.f
 simp only [Option.bind_some]
 split
 ·have o1:=fin_sub_nn hx hs;have o2:=nn_add_fin (fop_nn o1) ha;exact ⟨_,fop_nn o2,by rw [if_pos o1,if_pos o2]⟩
 have o1:=fin_sub_nn ha hs;have o2:=nn_add_fin (fop_nn o1) hx;exact ⟨_,fop_nn o2,by rw [if_pos o1,if_pos o2]⟩
structure Inv (P : List Nat) (c : Int) (x1 x2 x3 x4 x5 x6 : Nat) : Prop where
 cnt : c = (P.length : Int)
 ne : P ≠ []
 fl : ∀ x ∈ [x1,x2,x3,x4,x5,x6],fin x ∧ x < 18446744073709551616
 lo : ∀ x ∈ P,val x1 ≤ val x
 lo2 : ∃ x ∈ P,val x = val x1
 hi : ∀ x ∈ P,val x ≤ val x2
 hi2 : ∃ x ∈ P,val x = val x2
 sq : 0 ≤ val x6
 al : ∀ v,(∀ x ∈ P,val x = v) → val x6 = 0 ∧ val x5 = v
theorem Inv.pos {P : List Nat} {c : Int} {x1 x2 x3 x4 x5 x6 : Nat} (h : Inv P c x1 x2 x3 x4 x5 x6) : 1 ≤ c:=by
 have:=h.cnt;have h2:=h.ne
 cases P with
 | nil=>exact absurd rfl h2
 | cons a l=>simp at this;omega
theorem Inv.formed {P : List Nat} {c : Int} {x1 x2 x3 x4 x5 x6 : Nat} (h : Inv P c x1 x2 x3 x4 x5 x6) (hl : P.length ≤ 4611686018427387904) {k : Nat} (hk : 7 < k) : tally_formed.f k c x1 x2 x3 x4 x5 x6 = some true:=by
 have f:=h.fl;have hc:=h.pos;have hn:=h.cnt
 unfold tally_formed.f
 have e0 : (c == 0) = false:=beq_false_of_ne (by omega);rw [e0,Bool.false_and,if_neg (by decide),if_pos (by omega),sound_eq (by omega) (by omega) (f x1 (by simp)).2 (f x2 (by simp)).2 (f x3 (by simp)).2 (f x4 (by simp)).2 (f x5 (by simp)).2 (f x6 (by simp)).2,Option.bind_some,decide_eq_true (fun x hx=>(f x hx).1),if_pos rfl];obtain ⟨x,hx,e1⟩:=h.lo2;have h2:=h.hi x hx;have f1:=(f x1 (by simp)).1;have f2:=(f x2 (by simp)).1;have f6:=(f x6 (by simp)).1;have q:=h.sq;rw [lt_iff f1 f2,eq_iff f1 f2,gt_iff f6 fin_zero,eq_iff f6 fin_zero,val_zero]
 have a : (decide (val x1 < val x2) || decide (val x1 = val x2)) = true:=by
  rw [Bool.or_eq_true,decide_eq_true_eq,decide_eq_true_eq];omega
 have b : (decide (0 < val x6) || decide (val x6 = 0)) = true:=by
  rw [Bool.or_eq_true,decide_eq_true_eq,decide_eq_true_eq];omega
 rw [if_pos a,b]
def zz : Int × Nat × Nat × Nat × Nat × Nat × Nat × Int:=(0,0,0,0,0,0,0,121)
def Ok (P : List Nat) (c : Int) (x1 x2 x3 x4 x5 x6 : Nat) : Prop:=(P = [] ∧ c = 0 ∧ x1 = 0 ∧ x2 = 0 ∧ x3 = 0 ∧ x4 = 0 ∧ x5 = 0 ∧ x6 = 0) ∨ Inv P c x1 x2 x3 x4 x5 x6
theorem first_one {a : Nat} (fa : fin a) (ha : a < 18446744073709551616) : Inv [a] 1 a a a 0 a 0:=by
 refine ⟨rfl,by simp,?_,?_,⟨a,by simp,rfl⟩,?_,⟨a,by simp,rfl⟩,by rw [val_zero];exact Int.le_refl _,?_⟩
 ·intro x hx
  simp only [List.mem_cons,List.not_mem_nil,or_false] at hx
  rcases hx with rfl|rfl|rfl|rfl|rfl|rfl <;> first|exact ⟨fa,ha⟩|exact ⟨fin_zero,by decide⟩
 ·intro x hx;simp at hx;subst hx;exact Int.le_refl _
 ·intro x hx;simp at hx;subst hx;exact Int.le_refl _
 intro v hv;exact ⟨val_zero,hv a (by simp)⟩
theorem put_step {P : List Nat} {c : Int} {x1 x2 x3 x4 x5 x6 a : Nat} (h : Ok P c x1 x2 x3 x4 x5 x6) (hl : P.length < 4611686018427387904) (fa : fin a) (ha : a < 18446744073709551616) :
  ∃ r : Int × Nat × Nat × Nat × Nat × Nat × Nat × Int,(∀ k,7 < k → tally_Put.f k c x1 x2 x3 x4 x5 x6 a = some r) ∧ (r = zz ∨ (r.2.2.2.2.2.2.2 = 0 ∧ Inv (P ++ [a]) r.1 r.2.1 r.2.2.1 r.2.2.2.1 r.2.2.2.2.1 r.2.2.2.2.2.1 r.2.2.2.2.2.2.1)):=by
 have ta : ∀ k,7 < k → tally_finite.f k [a] = some true:=by
  intro k hk;rw [tf_eq [a] k (by simp;omega) (by simp) (by intro x hx;simp only [List.mem_cons,List.not_mem_nil,or_false] at hx;subst hx;exact ha)];rw [decide_eq_true (by intro x hx;simp only [List.mem_cons,List.not_mem_nil,or_false] at hx;subst hx;exact fa)]
 rcases h with ⟨hP,rfl,rfl,rfl,rfl,rfl,rfl,rfl⟩|h
 ·subst hP;refine ⟨(1,a,a,a,0,a,0,0),fun k hk=>?_,.inr ⟨rfl,first_one fa ha⟩⟩
  have z0 : Op.floatEq .f64 0 0 = true:=by
   show (FloatKind.f64.format.order 0 0 == some .eq) = true
   rw [eq_iff fin_zero fin_zero,decide_eq_true rfl]
  have e : tally_formed.f k 0 0 0 0 0 0 0 = some true:=by
   unfold tally_formed.f
   rw [if_pos (by rw [z0];rfl)]
  unfold tally_Put.f
  rw [e,Option.bind_some,if_pos rfl,ta k hk,Option.bind_some,if_pos rfl,if_pos rfl]
 have f:=h.fl;have hc:=h.pos;have hn:=h.cnt;have f1:=(f x1 (by simp)).1;have f2:=(f x2 (by simp)).1;have f3:=(f x3 (by simp)).1;have f4:=(f x4 (by simp)).1;have f5:=(f x5 (by simp)).1;have f6:=(f x6 (by simp)).1;have l1:=(f x1 (by simp)).2;have l2:=(f x2 (by simp)).2;have l5:=(f x5 (by simp)).2;have l6:=(f x6 (by simp)).2;have o0:=add_fin f3 fa;obtain ⟨lo,hlo,e4⟩:=lost_ok f3 fa (fop_nn o0);have o1:=fin_add_nn f4 hlo;have o2:=sub_fin fa f5;obtain ⟨fn,n0⟩:=whole (N:=c + 1) (by omega) (by omega)
 obtain ⟨n,hN⟩ : ∃ n,n = floatOfInt .f64 (c + 1):=⟨_,rfl⟩
 rw [← hN] at fn n0
 obtain ⟨o3,i3,z3⟩:=quo_ok (fop_nn o2) fn n0;have o4:=fin_add_nn f5 (fop_nn o3);have o5:=fin_sub_nn fa (fop_nn o4)
 have o6 : fok .mul (fop .sub a x5) (fop .sub a (fop .add x5 (fop .quo (fop .sub a x5) n))) = true:=by
  rcases nn_cases (fop_nn o2) with g|g
  ·by_cases g0 : rung (fop .sub a x5) = 0
   ·have q0:=z3 g0;refine mul_fin g ?_;obtain ⟨_,s1,s2⟩:=add_zero f5 l5 q0
    by_cases g5 : rung x5 = 0
    ·exact sub_zero fa (s2 g5)
    rw [s1 g5];exact g
   exact mul_some g g0 (fop_nn o5)
  exact mul_inf_inf g (fin_sub_inf fa (fin_add_inf f5 (i3 g)).2.1).2.1
 have o7:=fin_add_nn f6 (fop_nn o6)
 have hmn : minF a x1 < 18446744073709551616:=by unfold minF;split <;> assumption
 have hmx : maxF a x2 < 18446744073709551616:=by unfold maxF;split <;> assumption
 obtain ⟨ME,hME⟩ : ∃ ME,ME = fop .add x5 (fop .quo (fop .sub a x5) n):=⟨_,rfl⟩
 obtain ⟨SQ,hSQ⟩ : ∃ SQ,SQ = fop .add x6 (fop .mul (fop .sub a x5) (fop .sub a ME)):=⟨_,rfl⟩
 have lSQ : zeroF SQ < 18446744073709551616:=by
  unfold zeroF;split
  ·decide
  rw [hSQ];exact fop_lt
 have hcomp : ∀ k,7 < k → tally_Put.f k c x1 x2 x3 x4 x5 x6 a = (tally_sound.f k (c + 1) (minF a x1) (maxF a x2) (fop .add x3 a) (fop .add x4 lo) ME (zeroF SQ)).bind fun v=>if v = true then some (c + 1,minF a x1,maxF a x2,fop .add x3 a,fop .add x4 lo,ME,zeroF SQ,0) else some (0,0,0,0,0,0,0,121):=by
  intro k hk
  unfold tally_Put.f
  rw [h.formed (by omega) hk,Option.bind_some,if_pos rfl,ta k hk,Option.bind_some,if_pos rfl,if_neg (by omega),if_pos o0,e4,Option.bind_some]
  unfold tally_Put.g
  rw [w64 (c + 1) (by omega) (by omega),← hN,if_pos o1,if_pos o2,if_pos o3,if_pos o4,if_pos o5,if_pos o6,if_pos o7,← hME,← hSQ]
 by_cases hcn : c + 1 ≤ 4611686018427387904
 ·by_cases g : ∀ x ∈ [minF a x1,maxF a x2,fop .add x3 a,fop .add x4 lo,ME,zeroF SQ],fin x
  ·refine ⟨(c + 1,minF a x1,maxF a x2,fop .add x3 a,fop .add x4 lo,ME,zeroF SQ,0),fun k hk=>?_,.inr ⟨rfl,?_⟩⟩
   ·rw [hcomp k hk,sound_eq (by omega) hcn hmn hmx fop_lt fop_lt (by rw [hME];exact fop_lt) lSQ,Option.bind_some,decide_eq_true g,if_pos rfl]
   have vmn : val (minF a x1) ≤ val a ∧ val (minF a x1) ≤ val x1 ∧ (val (minF a x1) = val a ∨ val (minF a x1) = val x1):=by
    unfold minF
    rw [lt_iff fa f1]
    by_cases q : val a < val x1
    ·rw [decide_eq_true q,if_pos rfl];omega
    rw [decide_eq_false q,if_neg (by decide)];omega
   have vmx : val a ≤ val (maxF a x2) ∧ val x2 ≤ val (maxF a x2) ∧ (val (maxF a x2) = val a ∨ val (maxF a x2) = val x2):=by
    unfold maxF
    rw [gt_iff fa f2]
    by_cases q : val x2 < val a
    ·rw [decide_eq_true q,if_pos rfl];omega
    rw [decide_eq_false q,if_neg (by decide)];omega
   have fz : fin (zeroF SQ):=g _ (by simp)
   have hz : ∀ z,fin (zeroF z) → 0 ≤ val (zeroF z):=by
    intro z hz
    by_cases q : (FloatKind.f64.format.order z 0 == some .lt) = true
    ·unfold zeroF;rw [if_pos q,val_zero];exact Int.le_refl _
    have e : zeroF z = z:=by unfold zeroF;exact if_neg q
    rw [e] at hz ⊢
    rw [lt_iff hz fin_zero,val_zero,decide_eq_true_eq] at q
    omega
   show Inv (P ++ [a]) (c + 1) (minF a x1) (maxF a x2) (fop .add x3 a) (fop .add x4 lo) ME (zeroF SQ)
   refine ⟨by rw [List.length_append,hn];simp,by simp,fun x hx=>⟨g x hx,?_⟩,?_,?_,?_,?_,hz SQ fz,?_⟩
   ·simp only [List.mem_cons,List.not_mem_nil,or_false] at hx
    rcases hx with rfl|rfl|rfl|rfl|rfl|rfl
    ·exact hmn
    ·exact hmx
    ·exact fop_lt
    ·exact fop_lt
    ·rw [hME];exact fop_lt
    exact lSQ
   ·intro x hx
    rw [List.mem_append,List.mem_singleton] at hx
    rcases hx with hx|rfl
    ·have:=h.lo x hx;omega
    exact vmn.1
   ·rcases vmn.2.2 with e|e
    ·exact ⟨a,by simp,e.symm⟩
    obtain ⟨x,hx,e2⟩:=h.lo2;exact ⟨x,by simp [hx],by omega⟩
   ·intro x hx
    rw [List.mem_append,List.mem_singleton] at hx
    rcases hx with hx|rfl
    ·have:=h.hi x hx;omega
    exact vmx.1
   ·rcases vmx.2.2 with e|e
    ·exact ⟨a,by simp,e.symm⟩
    obtain ⟨x,hx,e2⟩:=h.hi2;exact ⟨x,by simp [hx],by omega⟩
   intro v hv;obtain ⟨v6,v5⟩:=h.al v (fun x hx=>hv x (by simp [hx]));have va : val a = v:=hv a (by simp);have z2:=(sub_same fa f5 (by omega)).2;have zq:=z3 z2
   have vm : val ME = v:=by rw [hME,val_add_zero f5 l5 zq,v5]
   have fM : fin ME:=g _ (by simp);have zd:=(sub_same fa fM (by omega)).2;have zp:=mul_zero z2 (fin_of_zero zd)
   have vs : val SQ = 0:=by rw [hSQ,val_add_zero f6 l6 zp,v6]
   refine ⟨?_,vm⟩
   unfold zeroF
   split
   ·exact val_zero
   exact vs
  refine ⟨zz,fun k hk=>?_,.inl rfl⟩;rw [hcomp k hk,sound_eq (by omega) hcn hmn hmx fop_lt fop_lt (by rw [hME];exact fop_lt) lSQ,Option.bind_some,decide_eq_false g,if_neg (by decide)];rfl
 refine ⟨zz,fun k hk=>?_,.inl rfl⟩;rw [hcomp k hk]
 unfold tally_sound.f
 rw [if_neg hcn];rfl
theorem of_two {l : List Nat} {a : Nat} (hl : l.length < 4611686018427387904) (hf : ∀ x ∈ l ++ [a],fin x) (hw : ∀ x ∈ l ++ [a],x < 18446744073709551616) :
  ∀ (n i : Nat) (c : Int) (x1 x2 x3 x4 x5 x6 : Nat),i + n = l.length → Ok (l.take i) c x1 x2 x3 x4 x5 x6 →
  ∃ r : Int × Nat × Nat × Nat × Nat × Nat × Nat × Int,(∀ K,tally_Of.l0 (K + n + 9) l (l.length : Int) (i : Int) c x1 x2 x3 x4 x5 x6 = some r) ∧
   ((r = zz ∧ ∀ K,tally_Of.l0 (K + n + 10) (l ++ [a]) ((l ++ [a]).length : Int) (i : Int) c x1 x2 x3 x4 x5 x6 = some zz) ∨
    (r.2.2.2.2.2.2.2 = 0 ∧ Ok l r.1 r.2.1 r.2.2.1 r.2.2.2.1 r.2.2.2.2.1 r.2.2.2.2.2.1 r.2.2.2.2.2.2.1 ∧
    ∃ q : Int × Nat × Nat × Nat × Nat × Nat × Nat × Int,(∀ k,7 < k → tally_Put.f k r.1 r.2.1 r.2.2.1 r.2.2.2.1 r.2.2.2.2.1 r.2.2.2.2.2.1 r.2.2.2.2.2.2.1 a = some q) ∧
     (q = zz ∨ (q.2.2.2.2.2.2.2 = 0 ∧ Inv (l ++ [a]) q.1 q.2.1 q.2.2.1 q.2.2.2.1 q.2.2.2.2.1 q.2.2.2.2.2.1 q.2.2.2.2.2.2.1)) ∧
     ∀ K,tally_Of.l0 (K + n + 10) (l ++ [a]) ((l ++ [a]).length : Int) (i : Int) c x1 x2 x3 x4 x5 x6 = some q))
 | 0,i,c,x1,x2,x3,x4,x5,x6,hi,ho=>by
  have hla : (l ++ [a]).length = l.length + 1:=by simp
  obtain ⟨q,q1,q2⟩:=put_step ho (by rw [List.length_take];omega) (hf a (by simp)) (hw a (by simp))
  rw [List.take_of_length_le (by omega)] at ho q2
  refine ⟨(c,x1,x2,x3,x4,x5,x6,0),fun K=>?_,.inr ⟨rfl,ho,q,q1,q2,fun K=>?_⟩⟩
  ·rw [show K + 0 + 9 = (K + 8) + 1 by omega,tally_Of.l0,if_neg (by omega)]
  have e1 : rdOf (0 : Nat) (l ++ [a]) (i : Int) = a:=by
   rw [rd_at (show i < (l ++ [a]).length by omega)]
   have h4:=List.getElem?_eq_getElem (l:=l ++ [a]) (show i < (l ++ [a]).length by omega)
   rw [List.getElem?_append_right (by omega),show i - l.length = 0 by omega] at h4
   exact (Option.some.inj h4).symm
  rw [show K + 0 + 10 = (K + 9) + 1 by omega,tally_Of.l0,if_pos (by omega),if_pos (by omega),if_pos (by omega),e1,q1 _ (by omega),Option.bind_some]
  rcases q2 with rfl|⟨g,q2⟩
  ·rw [if_neg (by decide)];rfl
  rw [if_pos g,w64 _ (by omega) (by omega),show K + 9 = (K + 8) + 1 by omega,tally_Of.l0,if_neg (by omega)];obtain ⟨q0,y1,y2,y3,y4,y5,y6,y7⟩:=q
  simp only at g
  subst g;rfl
 | n + 1,i,c,x1,x2,x3,x4,x5,x6,hi,ho=>by
  have hla : (l ++ [a]).length = l.length + 1:=by simp
  have h : i < l.length:=by omega
  have hmem : l[i] ∈ l ++ [a]:=by rw [List.mem_append];exact .inl (List.getElem_mem h)
  obtain ⟨q,q1,q2⟩:=put_step ho (by rw [List.length_take];omega) (hf _ hmem) (hw _ hmem)
  have e1 : rdOf (0 : Nat) (l ++ [a]) (i : Int) = l[i]:=by
   rw [rd_at (show i < (l ++ [a]).length by omega),List.getElem_append_left h]
  have step : ∀ K,tally_Of.l0 (K + (n + 1) + 9) l (l.length : Int) (i : Int) c x1 x2 x3 x4 x5 x6 = if q.2.2.2.2.2.2.2 = 0 then tally_Of.l0 (K + n + 9) l (l.length : Int) ((i + 1 : Nat) : Int) q.1 q.2.1 q.2.2.1 q.2.2.2.1 q.2.2.2.2.1 q.2.2.2.2.2.1 q.2.2.2.2.2.2.1 else some (0,0,0,0,0,0,0,121):=by
   intro K;rw [show K + (n + 1) + 9 = (K + n + 9) + 1 by omega,tally_Of.l0,if_pos (by omega),if_pos (by omega),if_pos (by omega),rd_at h,q1 _ (by omega),Option.bind_some,w64 _ (by omega) (by omega)];rfl
  have step2 : ∀ K,tally_Of.l0 (K + (n + 1) + 10) (l ++ [a]) ((l ++ [a]).length : Int) (i : Int) c x1 x2 x3 x4 x5 x6 = if q.2.2.2.2.2.2.2 = 0 then tally_Of.l0 (K + n + 10) (l ++ [a]) ((l ++ [a]).length : Int) ((i + 1 : Nat) : Int) q.1 q.2.1 q.2.2.1 q.2.2.2.1 q.2.2.2.2.1 q.2.2.2.2.2.1 q.2.2.2.2.2.2.1 else some (0,0,0,0,0,0,0,121):=by
   intro K;rw [show K + (n + 1) + 10 = (K + n + 10) + 1 by omega,tally_Of.l0,if_pos (by omega),if_pos (by omega),if_pos (by omega),e1,q1 _ (by omega),Option.bind_some,w64 _ (by omega) (by omega)];rfl
  rcases q2 with rfl|⟨g,q2⟩
  ·refine ⟨zz,fun K=>?_,.inl ⟨rfl,fun K=>?_⟩⟩
   ·rw [step,if_neg (by decide)];rfl
   rw [step2,if_neg (by decide)];rfl
  rw [← List.take_succ_eq_append_getElem h] at q2
  obtain ⟨r,r1,r2⟩:=of_two hl hf hw n (i + 1) _ _ _ _ _ _ _ (by omega) (.inr q2);refine ⟨r,fun K=>?_,?_⟩
  ·rw [step,if_pos g];exact r1 K
  rcases r2 with ⟨ra,rb⟩|⟨ra,rb,s,s1,s2,s3⟩
  ·exact .inl ⟨ra,fun K=>by rw [step2,if_pos g];exact rb K⟩
  exact .inr ⟨ra,rb,s,s1,s2,fun K=>by rw [step2,if_pos g];exact s3 K⟩
theorem of_any {l : List Nat} (hl : l.length < 4611686018427387904) (hf : ∀ x ∈ l,fin x) (hw : ∀ x ∈ l,x < 18446744073709551616) :
  ∀ (n i : Nat) (c : Int) (x1 x2 x3 x4 x5 x6 : Nat),i + n = l.length → Ok (l.take i) c x1 x2 x3 x4 x5 x6 →
  ∃ r : Int × Nat × Nat × Nat × Nat × Nat × Nat × Int,∀ K,tally_Of.l0 (K + n + 9) l (l.length : Int) (i : Int) c x1 x2 x3 x4 x5 x6 = some r
 | 0,i,c,x1,x2,x3,x4,x5,x6,hi,ho=>by
  refine ⟨(c,x1,x2,x3,x4,x5,x6,0),fun K=>?_⟩;rw [show K + 0 + 9 = (K + 8) + 1 by omega,tally_Of.l0,if_neg (by omega)]
 | n + 1,i,c,x1,x2,x3,x4,x5,x6,hi,ho=>by
  have h : i < l.length:=by omega
  have hmem : l[i] ∈ l:=List.getElem_mem h;obtain ⟨q,q1,q2⟩:=put_step ho (by rw [List.length_take];omega) (hf _ hmem) (hw _ hmem)
  have step : ∀ K,tally_Of.l0 (K + (n + 1) + 9) l (l.length : Int) (i : Int) c x1 x2 x3 x4 x5 x6 = if q.2.2.2.2.2.2.2 = 0 then tally_Of.l0 (K + n + 9) l (l.length : Int) ((i + 1 : Nat) : Int) q.1 q.2.1 q.2.2.1 q.2.2.2.1 q.2.2.2.2.1 q.2.2.2.2.2.1 q.2.2.2.2.2.2.1 else some (0,0,0,0,0,0,0,121):=by
   intro K;rw [show K + (n + 1) + 9 = (K + n + 9) + 1 by omega,tally_Of.l0,if_pos (by omega),if_pos (by omega),if_pos (by omega),rd_at h,q1 _ (by omega),Option.bind_some,w64 _ (by omega) (by omega)];rfl
  rcases q2 with rfl|⟨g,q2⟩
  ·exact ⟨zz,fun K=>by rw [step,if_neg (by decide)];rfl⟩
  rw [← List.take_succ_eq_append_getElem h] at q2
  obtain ⟨r,r1⟩:=of_any hl hf hw n (i + 1) _ _ _ _ _ _ _ (by omega) (.inr q2);exact ⟨r,fun K=>by rw [step,if_pos g];exact r1 K⟩
theorem quo_neg {x y : Nat} (hx : fin x) (hy : fin y) (h0 : rung y ≠ 0) (nx : neg x = false) (ny : neg y = false) : neg (fop .quo x y) = false:=by
 obtain ⟨m,i,r1,r2⟩:=read_fin hx;obtain ⟨n,j,r3,r4⟩:=read_fin hy
 have hn : n ≠ 0:=by rintro rfl;rw [Nat.zero_mul] at r4;exact h0 (mag_zero.1 r4)
 have e:=fop_eq (op:=.quo) (x:=x) (y:=y) (r:=_) (show double.div x y = some _ by unfold Format.div;rw [r1,r3];unfold Datum.quotient;simp only;rw [if_neg hn];rfl);rw [e.2]
 show neg (double.nearest _ _ _) = false
 rw [(nearest_nn _ _ _).2,nx,ny];rfl
theorem sqrt_some {x : Nat} (hx : nn x) (h : neg x = false) : ∃ r,FloatKind.f64.format.sqrt x = some r:=by
 show ∃ r,double.sqrt x = some r
 unfold Format.sqrt
 rcases nn_cases hx with g|g
 ·obtain ⟨m,i,r1,r2⟩:=read_fin g;rw [r1,h]
  unfold Datum.root
  simp only
  by_cases hm : m = 0
  ·rw [if_pos hm];exact ⟨_,rfl⟩
  rw [if_neg hm,if_neg (by decide)];exact ⟨_,rfl⟩
 rw [read_inf g,h];exact ⟨_,rfl⟩
theorem Inv.spread {P : List Nat} {c : Int} {x1 x2 x3 x4 x5 x6 : Nat} (h : Inv P c x1 x2 x3 x4 x5 x6) (hl : P.length ≤ 4611686018427387904) {k : Nat} (hk : 7 < k) : ∃ s,tally_Spread.f k c x1 x2 x3 x4 x5 x6 = some (s,0):=by
 have hc:=h.pos;have hn:=h.cnt;have f6:=(h.fl x6 (by simp)).1
 unfold tally_Spread.f
 rw [h.formed hl hk,Option.bind_some,if_pos rfl,if_neg (by omega),eq_iff f6 fin_zero,val_zero]
 by_cases g : val x6 = 0
 ·rw [decide_eq_true g,if_pos rfl];exact ⟨_,rfl⟩
 rw [decide_eq_false g,if_neg (by decide)];have w:=whole2 (N:=c) hc (by omega);have q:=quo_ok (fin_nn f6) w.1 (by omega)
 have n6 : neg x6 = false:=by
  cases e : neg x6 with
  | false=>rfl
  | true=>have:=h.sq;unfold val at this g;rw [e,if_pos rfl] at this g;omega
 obtain ⟨s,hs⟩:=sqrt_some (fop_nn q.1) (quo_neg f6 w.1 (by omega) n6 w.2.2.2)
 unfold math_Sqrt.f
 rw [if_pos q.1,hs];exact ⟨_,rfl⟩
end Go.Proofs.Ytijmdmnhbbcahaa.QStepsTallySteps
namespace Go.Proofs.Ytijmdmnhbbcahaa.QStpTallySteps
open Go.RowKit Go.Proofs.Ytijmdmnhbbcahaa.PTallySteps Go.Proofs.YtijmdmnhbbcahaaW.PrintWords Go.Proofs.YtijmdmnhbbcahaaW.PrintLast Go.Proofs.Ytijmdmnhbbcahaa.QFloTallySteps Go.Proofs.Ytijmdmnhbbcahaa.QFloBTallySteps Go.Proofs.Ytijmdmnhbbcahaa.QTalTallySteps Go.Proofs.Ytijmdmnhbbcahaa.QFormTallySteps Go.Proofs.Ytijmdmnhbbcahaa.QFloCTallySteps Go.Proofs.Ytijmdmnhbbcahaa.QStepsTallySteps
set_option linter.unusedVariables false
set_option linter.unusedSimpArgs false
theorem l0_step {L : List Nat} {a : Nat} {e g t0 u0 : Int} {t1 t2 t3 t4 t5 t6 u1 u2 u3 u4 u5 u6 : Nat} (hL : L.length < 4611686018427387904) {i : Nat} (h : i < L.length) (k : Nat) (bad alike : Bool) :
  quarrylaw31_TallySteps.l0 (k + 1) a e L g bad alike (i : Int) t0 t1 t2 t3 t4 t5 t6 u0 u1 u2 u3 u4 u5 u6 = quarrylaw31_TallySteps.l0 k a e L g (bad || !decide (fin L[i])) (alike && (FloatKind.f64.format.order L[i] (rdOf (0 : Nat) L 0) == some .eq)) ((i + 1 : Nat) : Int) t0 t1 t2 t3 t4 t5 t6 u0 u1 u2 u3 u4 u5 u6:=by
 rw [quarrylaw31_TallySteps.l0,if_pos (by omega),rd_at h,w64 _ (by omega) (by omega)]
 cases bad with
 | true =>
  rw [if_pos rfl,Bool.true_or]
  cases alike with
  | true=>rw [if_pos rfl,if_pos (by omega),if_pos (by omega),Bool.true_and];rfl
  | false=>rw [if_neg (by decide),Bool.false_and];rfl
 | false =>
  rw [if_neg (by decide),if_pos (by omega),finite_eq,Option.bind_some,Bool.false_or]
  cases alike with
  | true=>rw [if_pos rfl,if_pos (by omega),Bool.true_and];rfl
  | false=>rw [if_neg (by decide),Bool.false_and];rfl
theorem l0_run {L : List Nat} {a : Nat} {e g t0 u0 : Int} {t1 t2 t3 t4 t5 t6 u1 u2 u3 u4 u5 u6 : Nat} (hL : L.length < 4611686018427387904) : ∀ (n i : Nat) (bad alike : Bool),i + n = L.length →
  ∃ bad' alike' : Bool,(∀ k,quarrylaw31_TallySteps.l0 (k + n) a e L g bad alike (i : Int) t0 t1 t2 t3 t4 t5 t6 u0 u1 u2 u3 u4 u5 u6 = quarrylaw31_TallySteps.l0 k a e L g bad' alike' (L.length : Int) t0 t1 t2 t3 t4 t5 t6 u0 u1 u2 u3 u4 u5 u6) ∧
   (bad' = true ↔ bad = true ∨ ∃ x ∈ L.drop i,¬ fin x) ∧ ((∀ x ∈ L,fin x) → (alike' = true ↔ alike = true ∧ ∀ x ∈ L.drop i,val x = val (rdOf (0 : Nat) L 0)))
 | 0,i,bad,alike,hi=>by
  obtain rfl : i = L.length:=by omega
  refine ⟨bad,alike,fun k=>rfl,?_,fun _=>?_⟩
  ·rw [List.drop_length];simp
  rw [List.drop_length];simp
 | n + 1,i,bad,alike,hi=>by
  have h : i < L.length:=by omega
  obtain ⟨b',a',h1,h2,h3⟩:=l0_run (a:=a) (e:=e) (g:=g) (t0:=t0) (t1:=t1) (t2:=t2) (t3:=t3) (t4:=t4) (t5:=t5) (t6:=t6) (u0:=u0) (u1:=u1) (u2:=u2) (u3:=u3) (u4:=u4) (u5:=u5) (u6:=u6) hL n (i + 1) (bad || !decide (fin L[i])) (alike && (FloatKind.f64.format.order L[i] (rdOf (0 : Nat) L 0) == some .eq)) (by omega);refine ⟨b',a',fun k=>?_,?_,fun hf=>?_⟩
  ·rw [show k + (n + 1) = (k + n) + 1 by omega,l0_step hL h,h1]
  ·rw [h2,List.drop_eq_getElem_cons h,Bool.or_eq_true,Bool.not_eq_true',decide_eq_false_iff_not]
   constructor
   ·rintro ((q|q)|⟨x,hx,q⟩)
    ·exact .inl q
    ·exact .inr ⟨_,List.mem_cons_self,q⟩
    exact .inr ⟨x,List.mem_cons_of_mem _ hx,q⟩
   rintro (q|⟨x,hx,q⟩)
   ·exact .inl (.inl q)
   rcases List.mem_cons.mp hx with rfl|hx
   ·exact .inl (.inr q)
   exact .inr ⟨x,hx,q⟩
  rw [h3 hf,List.drop_eq_getElem_cons h]
  have f0 : fin (rdOf (0 : Nat) L 0):=by
   have:=rd_at (l:=L) (i:=0) (by omega)
   rw [show ((0 : Nat) : Int) = 0 from rfl] at this
   rw [this];exact hf _ (List.getElem_mem _)
  rw [eq_iff (hf _ (List.getElem_mem h)) f0,Bool.and_eq_true,decide_eq_true_eq];simp only [List.mem_cons,forall_eq_or_imp];exact and_assoc
theorem l1_run {L : List Nat} {al : Bool} {u0 : Int} {u1 u2 u3 u4 u5 u6 : Nat} (hL : L.length < 4611686018427387904) (hf : ∀ x ∈ L,fin x) (f1 : fin u1) (f2 : fin u2) (h1 : ∀ x ∈ L,val u1 ≤ val x) (h2 : ∀ x ∈ L,val x ≤ val u2) :
  ∀ (n i : Nat) (p q : Bool),i + n = L.length → ∃ p' q' : Bool,(∀ k,quarrylaw31_TallySteps.l1 (k + n) L al p q (i : Int) u0 u1 u2 u3 u4 u5 u6 = quarrylaw31_TallySteps.l1 k L al p' q' (L.length : Int) u0 u1 u2 u3 u4 u5 u6) ∧
   ((p = true ∨ ∃ x ∈ L.drop i,val x = val u1) → p' = true) ∧ ((q = true ∨ ∃ x ∈ L.drop i,val x = val u2) → q' = true)
 | 0,i,p,q,hi=>by
  obtain rfl : i = L.length:=by omega
  refine ⟨p,q,fun k=>rfl,fun h=>?_,fun h=>?_⟩
  ·rw [List.drop_length] at h;simpa using h
  rw [List.drop_length] at h;simpa using h
 | n + 1,i,p,q,hi=>by
  have h : i < L.length:=by omega
  have fi:=hf _ (List.getElem_mem h);have a1:=h1 _ (List.getElem_mem h);have a2:=h2 _ (List.getElem_mem h);obtain ⟨p',q',r1,r2,r3⟩:=l1_run (al:=al) (u0:=u0) (u3:=u3) (u4:=u4) (u5:=u5) (u6:=u6) hL hf f1 f2 h1 h2 n (i + 1) (p || decide (val L[i] = val u1)) (q || decide (val L[i] = val u2)) (by omega);refine ⟨p',q',fun k=>?_,fun hh=>r2 ?_,fun hh=>r3 ?_⟩
  ·rw [← r1,show k + (n + 1) = (k + n) + 1 by omega,quarrylaw31_TallySteps.l1,if_pos (by omega),if_pos (by omega),rd_at h,w64 _ (by omega) (by omega),lt_iff fi f1,gt_iff fi f2,decide_eq_false (by omega),if_neg (by decide),decide_eq_false (by omega),if_neg (by decide),eq_iff fi f1,eq_iff fi f2]
   cases p <;> cases q <;> rfl
  ·rw [List.drop_eq_getElem_cons h] at hh
   rcases hh with hh|⟨x,hx,hv⟩
   ·rw [hh];exact .inl rfl
   rcases List.mem_cons.mp hx with rfl|hx
   ·rw [decide_eq_true hv,Bool.or_true];exact .inl rfl
   exact .inr ⟨x,hx,hv⟩
  rw [List.drop_eq_getElem_cons h] at hh
  rcases hh with hh|⟨x,hx,hv⟩
  ·rw [hh];exact .inl rfl
  rcases List.mem_cons.mp hx with rfl|hx
  ·rw [decide_eq_true hv,Bool.or_true];exact .inl rfl
  exact .inr ⟨x,hx,hv⟩
theorem zero_formed (k : Nat) : tally_formed.f k 0 0 0 0 0 0 0 = some true:=by
 have z0 : Op.floatEq .f64 0 0 = true:=by
  show (FloatKind.f64.format.order 0 0 == some .eq) = true
  rw [eq_iff fin_zero fin_zero,decide_eq_true rfl]
 unfold tally_formed.f
 rw [if_pos (by rw [z0];rfl)]
theorem same_all {c : Int} {x1 x2 x3 x4 x5 x6 : Nat} (h : ∀ x ∈ [x1,x2,x3,x4,x5,x6],fin x) : quarrylaw31_same.f c x1 x2 x3 x4 x5 x6 c x1 x2 x3 x4 x5 x6 = some true:=by
 unfold quarrylaw31_same.f
 rw [if_pos rfl,same_self (h _ (by simp)),same_self (h _ (by simp)),same_self (h _ (by simp)),same_self (h _ (by simp)),same_self (h _ (by simp)),same_self (h _ (by simp))];rfl
theorem zeros_same : quarrylaw31_same.f 0 0 0 0 0 0 0 0 0 0 0 0 0 0 = some true:=same_all (by intro x hx;simp only [List.mem_cons,List.not_mem_nil,or_false,or_self] at hx;subst hx;exact fin_zero)
theorem final {L : List Nat} {al : Bool} {u0 : Int} {u1 u2 u3 u4 u5 u6 : Nat} (hL : L.length < 4611686018427387904) (hf : ∀ x ∈ L,fin x) (I : Inv L u0 u1 u2 u3 u4 u5 u6) (hal : al = true → ∀ x ∈ L,val x = val (rdOf (0 : Nat) L 0)) {k : Nat} (hk : 10 ≤ k) :
  quarrylaw31_TallySteps.l1 (k + L.length + 1) L al false false 0 u0 u1 u2 u3 u4 u5 u6 = some true:=by
 have F:=I.fl;have f1:=(F u1 (by simp)).1;have f2:=(F u2 (by simp)).1;have f5:=(F u5 (by simp)).1;have f6:=(F u6 (by simp)).1;have hc:=I.pos;have hcl:=I.cnt;obtain ⟨p',q',r1,r2,r3⟩:=l1_run (al:=al) (u0:=u0) (u3:=u3) (u4:=u4) (u5:=u5) (u6:=u6) hL hf f1 f2 I.lo I.hi L.length 0 false false (by omega);have hp : p' = true:=r2 (.inr (by rw [List.drop_zero];exact I.lo2));have hq : q' = true:=r3 (.inr (by rw [List.drop_zero];exact I.hi2));have h0:=r1 (k + 1)
 rw [show k + 1 + L.length = k + L.length + 1 by omega,show ((0 : Nat) : Int) = 0 from rfl] at h0
 rw [h0,hp,hq,quarrylaw31_TallySteps.l1,if_neg (by omega)];obtain ⟨s,hs⟩:=I.spread (by omega) (k:=k) (by omega)
 have j1 : tally_Join.f k u0 u1 u2 u3 u4 u5 u6 0 0 0 0 0 0 0 = some (u0,u1,u2,u3,u4,u5,u6,0):=by
  obtain ⟨k,rfl⟩ : ∃ j,k = j + 1:=⟨k - 1,by omega⟩
  unfold tally_Join.f
  rw [I.formed (by omega) (by omega),zero_formed,Option.bind_some,if_pos rfl,Option.bind_some,tally_Join.j0,if_neg (by decide),if_pos rfl]
 have j2 : tally_Join.f k 0 0 0 0 0 0 0 u0 u1 u2 u3 u4 u5 u6 = some (u0,u1,u2,u3,u4,u5,u6,0):=by
  obtain ⟨k,rfl⟩ : ∃ j,k = j + 1:=⟨k - 1,by omega⟩
  unfold tally_Join.f
  rw [I.formed (by omega) (by omega),zero_formed,Option.bind_some,if_pos rfl,Option.bind_some,tally_Join.j0,if_neg (by decide),if_neg (by omega),if_pos rfl]
 have sm:=same_all (c:=u0) (fun x hx=>(F x hx).1);rw [hs,Option.bind_some,j1,Option.bind_some,j2,Option.bind_some,if_pos rfl,if_pos rfl,if_pos (by omega),if_pos rfl,if_pos rfl,if_pos rfl,sm,Option.bind_some,if_pos rfl,Option.bind_some,if_pos rfl]
 cases al with
 | false=>rw [if_neg (by decide)]
 | true =>
  obtain ⟨v6,v5⟩:=I.al _ (hal rfl)
  have f0 : fin (rdOf (0 : Nat) L 0):=by
   have:=rd_at (l:=L) (i:=0) (by omega)
   rw [show ((0 : Nat) : Int) = 0 from rfl] at this
   rw [this];exact hf _ (List.getElem_mem _)
  rw [if_pos rfl,eq_iff f6 fin_zero,val_zero,decide_eq_true v6,if_pos rfl,if_pos (by omega),eq_iff f5 f0,decide_eq_true v5]
theorem steps_eq (l : List Nat) (a : Nat) (hl : l.length < 17592186044415) (hw : ∀ x ∈ l ++ [a],x < 18446744073709551616) : quarrylaw31_TallySteps.f (l.length + l.length + 60) l a = some true:=by
 have hla : (l ++ [a]).length = l.length + 1:=by simp
 obtain ⟨k,hk⟩ : ∃ k,k = l.length + l.length + 60:=⟨_,rfl⟩
 have hwl : ∀ x ∈ l,x < 18446744073709551616:=fun x hx=>hw x (List.mem_append_left _ hx)
 rw [← hk]
 unfold quarrylaw31_TallySteps.f quarrylaw31_awake.f
 rw [Option.bind_some,if_pos rfl]
 have o1 : ∃ t : Int × Nat × Nat × Nat × Nat × Nat × Nat × Int,tally_Of.f k l = some t ∧ ∃ u : Int × Nat × Nat × Nat × Nat × Nat × Nat × Int,tally_Of.f k (l ++ [a]) = some u ∧
   ((¬ (∀ x ∈ l ++ [a],fin x) ∧ u = (0,0,0,0,0,0,0,130)) ∨ ((∀ x ∈ l ++ [a],fin x) ∧ ((t = zz ∧ u = zz) ∨ (t.2.2.2.2.2.2.2 = 0 ∧ (∀ k,7 < k → tally_Put.f k t.1 t.2.1 t.2.2.1 t.2.2.2.1 t.2.2.2.2.1 t.2.2.2.2.2.1 t.2.2.2.2.2.2.1 a = some u) ∧ (u = zz ∨ (u.2.2.2.2.2.2.2 = 0 ∧ Inv (l ++ [a]) u.1 u.2.1 u.2.2.1 u.2.2.2.1 u.2.2.2.2.1 u.2.2.2.2.2.1 u.2.2.2.2.2.2.1)))))):=by
  have tf2:=tf_eq (l ++ [a]) k (by omega) (by omega) hw;have tf1:=tf_eq l k (by omega) (by omega) hwl
  by_cases hf : ∀ x ∈ l ++ [a],fin x
  ·have hfl : ∀ x ∈ l,fin x:=fun x hx=>hf x (List.mem_append_left _ hx)
   obtain ⟨r,r1,r2⟩:=of_two (l:=l) (a:=a) (by omega) hf hw l.length 0 0 0 0 0 0 0 0 (by omega) (.inl ⟨List.take_zero,rfl,rfl,rfl,rfl,rfl,rfl,rfl⟩);have q1:=r1 (k - l.length - 9)
   rw [show k - l.length - 9 + l.length + 9 = k by omega] at q1
   refine ⟨r,?_,?_⟩
   ·unfold tally_Of.f
    rw [tf1,decide_eq_true hfl,Option.bind_some,if_pos rfl];exact q1
   have e2 : ∀ v,(∀ K,tally_Of.l0 (K + l.length + 10) (l ++ [a]) ((l ++ [a]).length : Int) ((0 : Nat) : Int) 0 0 0 0 0 0 0 = some v) → tally_Of.f k (l ++ [a]) = some v:=by
    intro v hv;have q2:=hv (k - l.length - 10)
    rw [show k - l.length - 10 + l.length + 10 = k by omega] at q2
    unfold tally_Of.f
    rw [tf2,decide_eq_true hf,Option.bind_some,if_pos rfl];exact q2
   rcases r2 with ⟨ra,rb⟩|⟨ra,rb,s,s1,s2,s3⟩
   ·exact ⟨zz,e2 _ rb,.inr ⟨hf,.inl ⟨ra,rfl⟩⟩⟩
   exact ⟨s,e2 _ s3,.inr ⟨hf,.inr ⟨ra,s1,s2⟩⟩⟩
  have e2 : tally_Of.f k (l ++ [a]) = some (0,0,0,0,0,0,0,130):=by
   unfold tally_Of.f
   rw [tf2,decide_eq_false hf,Option.bind_some,if_neg (by decide)]
  have e1 : ∃ t,tally_Of.f k l = some t:=by
   unfold tally_Of.f
   rw [tf1,Option.bind_some]
   by_cases hfl : ∀ x ∈ l,fin x
   ·obtain ⟨r,r1⟩:=of_any (by omega) hfl hwl l.length 0 0 0 0 0 0 0 0 (by omega) (.inl ⟨List.take_zero,rfl,rfl,rfl,rfl,rfl,rfl,rfl⟩);have q1:=r1 (k - l.length - 9)
    rw [show k - l.length - 9 + l.length + 9 = k by omega] at q1
    rw [decide_eq_true hfl,if_pos rfl];exact ⟨r,q1⟩
   rw [decide_eq_false hfl,if_neg (by decide)];exact ⟨_,rfl⟩
  obtain ⟨t,ht⟩:=e1;exact ⟨t,ht,_,e2,.inl ⟨hf,rfl⟩⟩
 obtain ⟨t,ht,u,hu,hc⟩:=o1;obtain ⟨t0,t1,t2,t3,t4,t5,t6,t7⟩:=t;obtain ⟨u0,u1,u2,u3,u4,u5,u6,u7⟩:=u;rw [ht,Option.bind_some,if_pos (by rw [List.length_nil];omega),Option.bind_some,List.nil_append,if_pos (by omega),Option.bind_some,hu,Option.bind_some]
 simp only at hc ⊢
 obtain ⟨bad,al,h1,h2,h3⟩:=l0_run (L:=l ++ [a]) (a:=a) (e:=t7) (g:=u7) (t0:=t0) (t1:=t1) (t2:=t2) (t3:=t3) (t4:=t4) (t5:=t5) (t6:=t6) (u0:=u0) (u1:=u1) (u2:=u2) (u3:=u3) (u4:=u4) (u5:=u5) (u6:=u6) (by omega) (l ++ [a]).length 0 false true (by omega);have q:=h1 (k - l.length - 1)
 rw [show k - l.length - 1 + (l ++ [a]).length = k by omega,show ((0 : Nat) : Int) = 0 from rfl] at q
 rw [q,show k - l.length - 1 = (k - l.length - 2) + 1 by omega,quarrylaw31_TallySteps.l0,if_neg (by omega)]
 rw [List.drop_zero] at h2 h3
 rcases hc with ⟨hf,hu2⟩|⟨hf,hc⟩
 ·have hb : bad = true:=h2.2 (.inr (by
   refine Classical.byContradiction fun g=>hf fun x hx=>Classical.byContradiction fun g2=>g ⟨x,hx,g2⟩))
  simp only [Prod.mk.injEq] at hu2
  obtain ⟨rfl,rfl,rfl,rfl,rfl,rfl,rfl,rfl⟩:=hu2;rw [hb,if_pos rfl,if_pos rfl,zeros_same];rfl
 have hb : bad = false:=by
  cases e : bad with
  | false=>rfl
  | true =>
   rcases h2.1 e with g|⟨x,hx,g⟩
   ·cases g
   exact absurd (hf x hx) g
 rw [hb,if_neg (by decide)]
 rcases hc with ⟨ht2,hu2⟩|⟨ht7,hput,hc⟩
 ·unfold zz at ht2 hu2
  simp only [Prod.mk.injEq] at ht2 hu2
  obtain ⟨rfl,rfl,rfl,rfl,rfl,rfl,rfl,rfl⟩:=ht2;obtain ⟨rfl,rfl,rfl,rfl,rfl,rfl,rfl,rfl⟩:=hu2;rw [if_neg (by decide),if_pos rfl,if_pos rfl,zeros_same,Option.bind_some,if_pos rfl];rfl
 rw [if_pos ht7,hput _ (by omega),Option.bind_some];simp only;rw [if_pos trivial]
 rcases hc with hu2|⟨hu7,I⟩
 ·unfold zz at hu2
  simp only [Prod.mk.injEq] at hu2
  obtain ⟨rfl,rfl,rfl,rfl,rfl,rfl,rfl,rfl⟩:=hu2;rw [zeros_same,Option.bind_some,show k - l.length - 2 = (k - l.length - 3) + 1 by omega,quarrylaw31_TallySteps.j1,if_neg (by decide),if_neg (by decide)];rfl
 rw [same_all (fun x hx=>(I.fl x hx).1),Option.bind_some,show k - l.length - 2 = (k - l.length - 3) + 1 by omega,quarrylaw31_TallySteps.j1,if_neg (by decide),if_pos hu7];have fin_:=final (L:=l ++ [a]) (al:=al) (by omega) hf I (fun e=>((h3 hf).1 e).2) (k:=54) (by decide);rw [show k - l.length - 3 = 54 + (l ++ [a]).length + 1 + 1 by omega];have hm:=final (L:=l ++ [a]) (al:=al) (by omega) hf I (fun e=>((h3 hf).1 e).2) (k:=55) (by decide)
 rw [show 55 + (l ++ [a]).length + 1 = 54 + (l ++ [a]).length + 1 + 1 by omega] at hm
 exact hm
end Go.Proofs.Ytijmdmnhbbcahaa.QStpTallySteps
namespace Go.Proofs.Ytijmdmnhbbcahaa.Pure
open Go.RowKit Go.Proofs.Ytijmdmnhbbcahaa.PTallySteps Go.Proofs.YtijmdmnhbbcahaaW.PrintWords Go.Proofs.YtijmdmnhbbcahaaW.PrintLast Go.Proofs.Ytijmdmnhbbcahaa.QStpTallySteps
theorem wf_lt {x : Nat} (h : (Lit.float .f64 x).wf = true) : x < 18446744073709551616:=by
 have h2 : decide (x < 2 ^ 64) = true:=h;exact of_decide_eq_true h2
theorem TallySteps : quarrylaw31_TallySteps.Pure:=by
 intro l a hl ha;refine ⟨_,steps_eq l a (by have:=hl.1;omega) ?_⟩;intro x hx
 rw [List.mem_append,List.mem_singleton] at hx
 rcases hx with hx|rfl
 ·exact wf_lt (hl.2 x hx)
 exact wf_lt ha
end Go.Proofs.Ytijmdmnhbbcahaa.Pure
