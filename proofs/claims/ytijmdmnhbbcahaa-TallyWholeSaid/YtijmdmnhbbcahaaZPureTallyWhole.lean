/- Of whole numbers that are not too great tally loses nothing: sums, least, greatest and the first turn are exact, and the mean lies between the least and the greatest one, in whatever order and parts they come. No conditions but the statement's own. -/
import Derived.Test.YtijmdmnhbbcahaaZDefTallyWhole
namespace Go.Proofs.Ytijmdmnhbbcahaa.QFloTallyWhole
open Go.RowKit Go.Proofs.Ytijmdmnhbbcahaa.PTallyWhole Go.Proofs.YtijmdmnhbbcahaaW.PrintWords Go.Proofs.YtijmdmnhbbcahaaW.PrintLast
set_option linter.unusedVariables false
set_option linter.unusedSimpArgs false
open Ieee
theorem sw_eq : Format.signWeight double = 9223372036854775808:=by decide
theorem inf_eq : Format.infRung double = 9218868437227405312:=by decide
theorem bin_eq : Format.binade double = 4503599627370496:=by decide
theorem lp_eq : Format.leastPlace double = -1074:=by decide
def rung (x : Nat) : Nat:=x % 9223372036854775808
@[reducible] def fin (x : Nat) : Prop:=rung x < 9218868437227405312
@[reducible] def nn (x : Nat) : Prop:=rung x ≤ 9218868437227405312
def neg (x : Nat) : Bool:=x / 9223372036854775808 % 2 == 1
def mag (x : Nat) : Nat:=if rung x < 4503599627370496 then rung x else (4503599627370496 + rung x % 4503599627370496) * 2 ^ (rung x / 4503599627370496 - 1)
def val (x : Nat) : Int:=if neg x then -(mag x : Int) else (mag x : Int)
theorem read_fin {x : Nat} (h : fin x) : ∃ (m : Nat) (k : Nat),double.read x = .number (neg x) m ((k : Int) - 1074) ∧ mag x = m * 2 ^ k:=by
 unfold fin rung at h
 unfold Format.read mag rung neg
 simp only [sw_eq,inf_eq,bin_eq,lp_eq]
 by_cases h1 : x % 9223372036854775808 < 4503599627370496
 ·rw [if_pos h1,if_pos h1];exact ⟨x % 9223372036854775808,0,rfl,by simp⟩
 rw [if_neg h1,if_pos h,if_neg h1];exact ⟨_,_,by congr 1,rfl⟩
theorem read_inf {x : Nat} (h : rung x = 9218868437227405312) : double.read x = .infinity (neg x):=by
 unfold rung at h
 unfold Format.read neg
 simp only [sw_eq,inf_eq,bin_eq,lp_eq];rw [if_neg (by omega),if_neg (by omega),if_pos h]
theorem read_nan {x : Nat} (h : ¬ nn x) : ∃ s t,double.read x = .nan s t:=by
 unfold nn rung at h
 unfold Format.read
 simp only [sw_eq,inf_eq,bin_eq,lp_eq];rw [if_neg (by omega),if_neg (by omega),if_neg (by omega)];exact ⟨_,_,rfl⟩
theorem signed_mul (s : Bool) (m a : Nat) (k : Nat) : signed s m (a + k) = signed s m a * (2 ^ k : Nat):=by
 unfold signed
 have e : m <<< (a + k) = (m <<< a) * 2 ^ k:=by rw [Nat.shiftLeft_eq,Nat.shiftLeft_eq,Nat.pow_add,Nat.mul_assoc]
 rw [e]
 cases s <;> simp [Int.natCast_mul,Int.neg_mul]
theorem val_signed {x : Nat} {m k : Nat} (h : mag x = m * 2 ^ k) : val x = signed (neg x) m k:=by
 unfold val signed
 rw [h,Nat.shiftLeft_eq]
theorem cmp_mul (a b : Int) (c : Nat) (hc : 0 < c) : compare (a * c) (b * c) = compare a b:=by
 have hc' : (0 : Int) < c:=by omega
 rcases Int.lt_trichotomy a b with h|h|h
 ·rw [Int.compare_eq_lt.mpr h,Int.compare_eq_lt];exact Int.mul_lt_mul_of_pos_right h hc'
 ·subst h;rw [Int.compare_eq_eq.mpr rfl];exact (Int.compare_eq_eq.mpr rfl).symm
 rw [Int.compare_eq_gt.mpr h,Int.compare_eq_gt];exact Int.mul_lt_mul_of_pos_right h hc'
theorem order_fin {x y : Nat} (hx : fin x) (hy : fin y) : double.order x y = some (compare (val x) (val y)):=by
 obtain ⟨m,i,h1,h2⟩:=read_fin hx;obtain ⟨n,j,h3,h4⟩:=read_fin hy
 unfold Format.order
 rw [h1,h3]
 unfold Datum.order
 simp only;rw [val_signed h2,val_signed h4]
 congr 1
 have e1 : ((i : Int) - 1074 - min ((i : Int) - 1074) ((j : Int) - 1074)).toNat = i - min i j:=by omega
 have e2 : ((j : Int) - 1074 - min ((i : Int) - 1074) ((j : Int) - 1074)).toNat = j - min i j:=by omega
 rw [e1,e2];have a1:=signed_mul (neg x) m (i - min i j) (min i j);have a2:=signed_mul (neg y) n (j - min i j) (min i j)
 rw [Nat.sub_add_cancel (Nat.min_le_left i j)] at a1
 rw [Nat.sub_add_cancel (Nat.min_le_right i j)] at a2
 rw [a1,a2,cmp_mul _ _ _ (Nat.two_pow_pos _)]
theorem rung_word (s : Bool) {r : Nat} (h : r < 9223372036854775808) : rung (double.word s r) = r ∧ neg (double.word s r) = s:=by
 unfold Format.word rung neg
 rw [sw_eq];cases s
 ·rw [if_neg (by decide)];exact ⟨by omega,by rw [show r / 9223372036854775808 = 0 by omega];rfl⟩
 rw [if_pos rfl];exact ⟨by omega,by rw [show (9223372036854775808 + r) / 9223372036854775808 = 1 by omega];rfl⟩
theorem nearest_nn (s : Bool) (m : Nat) (p : Int) : nn (double.nearest s m p) ∧ neg (double.nearest s m p) = s:=by
 unfold Format.nearest nn
 dsimp only
 split
 ·have h:=rung_word s (r:=0) (by decide);exact ⟨by rw [h.1];decide,h.2⟩
 rw [inf_eq]
 generalize hr : min _ 9218868437227405312 = r
 have hle : r ≤ 9218868437227405312:=by rw [← hr];exact Nat.min_le_right _ _
 have h:=rung_word s (r:=r) (by omega);exact ⟨by rw [h.1];exact hle,h.2⟩
theorem write_inf (s : Bool) : rung (double.write (.infinity s)) = 9218868437227405312 ∧ neg (double.write (.infinity s)) = s:=by
 unfold Format.write
 simp only [inf_eq];exact rung_word s (by decide)
theorem write_nn {d : Datum} (h : d.isNaN = false) : nn (double.write d):=by
 cases d with
 | number s m p=>exact (nearest_nn s m p).1
 | infinity s=>unfold nn;rw [(write_inf s).1];exact Nat.le_refl _
 | nan s t=>cases h
theorem nn_cases {x : Nat} (h : nn x) : fin x ∨ rung x = 9218868437227405312:=by
 unfold nn at h;unfold fin;omega
theorem sum_nn {d e r : Datum} (h : d.sum e = some r) : r.isNaN = false:=by
 unfold Datum.sum at h
 split at h <;> first|(cases h;done)|skip
 ·split at h
  ·cases h;rfl
  cases h
 ·cases h;rfl
 ·cases h;rfl
 cases h;rfl
theorem product_nn {d e r : Datum} (h : d.product e = some r) : r.isNaN = false:=by
 unfold Datum.product at h
 split at h <;> first|(cases h;done)|skip
 ·cases h;rfl
 ·split at h
  ·cases h
  cases h;rfl
 ·split at h
  ·cases h
  cases h;rfl
 cases h;rfl
theorem quotient_nn {k : Nat} {d e r : Datum} (h : Datum.quotient k d e = some r) : r.isNaN = false:=by
 unfold Datum.quotient at h
 split at h <;> first|(cases h;done)|skip
 ·cases h;rfl
 ·cases h;rfl
 split at h
 ·split at h
  ·cases h
  cases h;rfl
 cases h;rfl
theorem fop_eq {op : BinOp} {x y r : Nat} (h : floatBits op .f64 x y = some r) : fok op x y = true ∧ fop op x y = r:=by
 unfold fok fop;rw [h];exact ⟨rfl,rfl⟩
theorem fop_nn {op : BinOp} {x y : Nat} (h : fok op x y = true) : nn (fop op x y):=by
 unfold fok at h
 unfold fop
 cases e : floatBits op .f64 x y with
 | none=>rw [e] at h;cases h
 | some r =>
  show nn r
  unfold floatBits at e
  split at e <;> first|(cases e;done)|skip
  ·obtain ⟨d,hd,rfl⟩:=Option.map_eq_some_iff.mp e;exact write_nn (sum_nn hd)
  ·obtain ⟨d,hd,rfl⟩:=Option.map_eq_some_iff.mp e;exact write_nn (sum_nn hd)
  ·obtain ⟨d,hd,rfl⟩:=Option.map_eq_some_iff.mp e;exact write_nn (product_nn hd)
  obtain ⟨d,hd,rfl⟩:=Option.map_eq_some_iff.mp e;exact write_nn (quotient_nn hd)
def inf (x : Nat) : Prop:=rung x = 9218868437227405312
theorem add_fin {x y : Nat} (hx : fin x) (hy : fin y) : fok .add x y = true:=by
 obtain ⟨m,i,h1,_⟩:=read_fin hx;obtain ⟨n,j,h2,_⟩:=read_fin hy;exact (fop_eq (op:=.add) (show double.add x y = some _ by unfold Format.add;rw [h1,h2];rfl)).1
theorem sub_fin {x y : Nat} (hx : fin x) (hy : fin y) : fok .sub x y = true:=by
 obtain ⟨m,i,h1,_⟩:=read_fin hx;obtain ⟨n,j,h2,_⟩:=read_fin hy;exact (fop_eq (op:=.sub) (show double.sub x y = some _ by unfold Format.sub;rw [h1,h2];rfl)).1
theorem mul_fin {x y : Nat} (hx : fin x) (hy : fin y) : fok .mul x y = true:=by
 obtain ⟨m,i,h1,_⟩:=read_fin hx;obtain ⟨n,j,h2,_⟩:=read_fin hy;exact (fop_eq (op:=.mul) (show double.mul x y = some _ by unfold Format.mul;rw [h1,h2];rfl)).1
theorem add_inf {x y : Nat} (hx : inf x) (hy : fin y) : fok .add x y = true ∧ inf (fop .add x y) ∧ neg (fop .add x y) = neg x:=by
 obtain ⟨n,j,h2,_⟩:=read_fin hy;have h:=fop_eq (op:=.add) (r:=double.write (.infinity (neg x))) (show double.add x y = some _ by unfold Format.add;rw [read_inf hx,h2];rfl);rw [h.2];exact ⟨h.1,write_inf _⟩
theorem fin_add_inf {x y : Nat} (hx : fin x) (hy : inf y) : fok .add x y = true ∧ inf (fop .add x y) ∧ neg (fop .add x y) = neg y:=by
 obtain ⟨n,j,h2,_⟩:=read_fin hx;have h:=fop_eq (op:=.add) (r:=double.write (.infinity (neg y))) (show double.add x y = some _ by unfold Format.add;rw [read_inf hy,h2];rfl);rw [h.2];exact ⟨h.1,write_inf _⟩
theorem fin_sub_inf {x y : Nat} (hx : fin x) (hy : inf y) : fok .sub x y = true ∧ inf (fop .sub x y) ∧ neg (fop .sub x y) = !neg y:=by
 obtain ⟨n,j,h2,_⟩:=read_fin hx;have h:=fop_eq (op:=.sub) (r:=double.write (.infinity (!neg y))) (show double.sub x y = some _ by unfold Format.sub;rw [read_inf hy,h2];rfl);rw [h.2];exact ⟨h.1,write_inf _⟩
theorem cut_zero (s : Bool) (n : Nat) : Toward.even.cut s n 0 = n:=by
 unfold Toward.cut
 simp [Nat.mod_one]
def lastp (m : Nat) (p : Int) : Int:=max (p + m.log2 - 52) (-1074)
def kept (s : Bool) (m : Nat) (p : Int) : Nat:=Toward.even.cut s (m <<< (p - lastp m p).toNat) (lastp m p - p).toNat
theorem nearest_eq (s : Bool) {m : Nat} (p : Int) (hm : m ≠ 0) : double.nearest s m p = double.word s (min ((lastp m p + 1074).toNat * 4503599627370496 + kept s m p) 9218868437227405312):=by
 unfold Format.nearest kept lastp
 rw [if_neg hm];have e1 : (double.fractionBits : Int) = 52:=rfl;simp only [inf_eq,bin_eq,lp_eq,e1,Int.sub_neg]
theorem mag_word (s : Bool) (L K : Nat) (hK : K ≤ 9007199254740992) (hK2 : 4503599627370496 ≤ K ∨ L = 0) (hr : L * 4503599627370496 + K < 9218868437227405312) : mag (double.word s (L * 4503599627370496 + K)) = K * 2 ^ L:=by
 unfold mag
 rw [(rung_word s (r:=L * 4503599627370496 + K) (by omega)).1]
 by_cases h1 : L * 4503599627370496 + K < 4503599627370496
 ·rw [if_pos h1]
  have : L = 0:=by omega
  subst this
  simp
 rw [if_neg h1]
 by_cases h2 : K = 9007199254740992
 ·subst h2;rw [show (L * 4503599627370496 + 9007199254740992) % 4503599627370496 = 0 by omega,show (L * 4503599627370496 + 9007199254740992) / 4503599627370496 - 1 = L + 1 by omega,Nat.pow_succ]
  omega
 rw [show (L * 4503599627370496 + K) % 4503599627370496 = K - 4503599627370496 by omega,show (L * 4503599627370496 + K) / 4503599627370496 - 1 = L by omega,show 4503599627370496 + (K - 4503599627370496) = K by omega]
theorem log2_lo {m : Nat} (h : m ≠ 0) : 2 ^ m.log2 ≤ m:=Nat.log2_self_le h
theorem log2_hi (m : Nat) : m < 2 ^ (m.log2 + 1):=Nat.lt_log2_self
theorem cut_bounds (s : Bool) (n d : Nat) (h : 0 < n) : n / 2 ^ d ≤ Toward.even.cut s n d ∧ Toward.even.cut s n d ≤ n / 2 ^ d + 1:=by
 unfold Toward.cut
 simp only [Nat.shiftLeft_eq,Nat.one_mul]
 by_cases hd : d ≤ n.log2 + 2
 ·rw [Nat.min_eq_left hd];refine ⟨Nat.le_add_right _ _,?_⟩
  have : ∀ b : Bool,b.toNat ≤ 1:=by decide
  exact Nat.add_le_add_left (this _) _
 rw [Nat.min_eq_right (by omega)];have h1:=log2_hi n;have h2 : 2 ^ (n.log2 + 1) ≤ 2 ^ d:=Nat.pow_le_pow_right (by decide) (by omega)
 have h3 : 2 ^ (n.log2 + 2) = 2 * 2 ^ (n.log2 + 1):=by rw [Nat.pow_succ,Nat.mul_comm]
 rw [Nat.div_eq_of_lt (by omega),Nat.div_eq_of_lt (by omega),Nat.mod_eq_of_lt (by omega)];refine ⟨Nat.zero_le _,?_⟩
 have : ∀ b : Bool,0 + b.toNat ≤ 0 + 1:=by decide
 exact this _
end Go.Proofs.Ytijmdmnhbbcahaa.QFloTallyWhole
namespace Go.Proofs.Ytijmdmnhbbcahaa.QFloBTallyWhole
open Go.RowKit Go.Proofs.Ytijmdmnhbbcahaa.PTallyWhole Go.Proofs.YtijmdmnhbbcahaaW.PrintWords Go.Proofs.YtijmdmnhbbcahaaW.PrintLast Go.Proofs.Ytijmdmnhbbcahaa.QFloTallyWhole
set_option linter.unusedVariables false
set_option linter.unusedSimpArgs false
open Ieee
theorem ord {x y : Nat} (hx : fin x) (hy : fin y) : FloatKind.f64.format.order x y = some (compare (val x) (val y)):=order_fin hx hy
theorem fin_zero : fin 0:=by unfold fin rung;decide
theorem val_zero : val 0 = 0:=by unfold val;simp [mag,rung]
theorem mag_rung {x y : Nat} (h : rung x = rung y) : mag x = mag y:=by unfold mag;rw [h]
theorem mag_zero {x : Nat} : mag x = 0 ↔ rung x = 0:=by
 unfold mag
 by_cases h : rung x < 4503599627370496
 ·rw [if_pos h]
 rw [if_neg h];have h1:=Nat.two_pow_pos (rung x / 4503599627370496 - 1);have h2 : 0 < (4503599627370496 + rung x % 4503599627370496) * 2 ^ (rung x / 4503599627370496 - 1):=Nat.mul_pos (by omega) h1
 omega
theorem read_zero {z : Nat} (h : rung z = 0) : double.read z = .number (neg z) 0 (-1074):=by
 unfold rung at h
 unfold Format.read neg
 simp only [sw_eq,inf_eq,bin_eq,lp_eq];rw [if_pos (by omega),h]
theorem word_self {x : Nat} (h : x < 18446744073709551616) : double.word (neg x) (rung x) = x:=by
 unfold Format.word neg rung
 rw [sw_eq]
 by_cases h1 : x / 9223372036854775808 % 2 = 1
 ·rw [h1];simp;omega
 rw [show x / 9223372036854775808 % 2 = 0 by omega];simp;omega
theorem cut_exact (s : Bool) (K d : Nat) (hK : 0 < K) : Toward.even.cut s (K * 2 ^ d) d = K:=by
 unfold Toward.cut
 have hp:=Nat.two_pow_pos d
 have h0 : K * 2 ^ d ≠ 0:=by have:=Nat.mul_pos hK hp;omega
 have h1 : d ≤ (K * 2 ^ d).log2:=(Nat.le_log2 h0).2 (Nat.le_mul_of_pos_left _ hK);simp only [Nat.shiftLeft_eq,Nat.one_mul];rw [Nat.min_eq_left (by omega),Nat.mul_div_cancel _ hp,Nat.mul_mod_left]
 have h2 : (decide (2 ^ d < 2 * 0) || (2 ^ d == 2 * 0 && K % 2 == 1)) = false:=by
  have a : decide (2 ^ d < 2 * 0) = false:=decide_eq_false (by omega);have b : (2 ^ d == 2 * 0) = false:=beq_false_of_ne (by omega);rw [a,b];rfl
 rw [h2];rfl
theorem log2_of {m e : Nat} (h1 : 2 ^ e ≤ m) (h2 : m < 2 ^ (e + 1)) : m.log2 = e:=by
 have h0 : m ≠ 0:=by have:=Nat.two_pow_pos e;omega
 have a:=(Nat.le_log2 h0).2 h1;have b:=(Nat.log2_lt h0).2 h2
 omega
theorem nearest_self (s : Bool) {x : Nat} (hx : fin x) : double.nearest s (mag x) (-1074) = double.word s (rung x):=by
 by_cases h0 : rung x = 0
 ·rw [mag_zero.2 h0,h0]
  unfold Format.nearest
  rw [if_pos rfl]
 have hm : mag x ≠ 0:=fun h=>h0 (mag_zero.1 h)
 rw [nearest_eq s (-1074) hm]
 unfold fin at hx
 by_cases h : rung x < 4503599627370496
 ·have e : mag x = rung x:=by unfold mag;rw [if_pos h]
  have hl : (rung x).log2 < 52:=(Nat.log2_lt h0).2 h
  have e2 : lastp (mag x) (-1074) = -1074:=by unfold lastp;rw [e];omega
  unfold kept
  rw [e2,e];simp only [Int.sub_self,Int.toNat_zero,Nat.shiftLeft_zero];rw [cut_zero]
  congr 1
  simp
  omega
 obtain ⟨E,hE⟩ : ∃ E,E = rung x / 4503599627370496 - 1:=⟨_,rfl⟩
 obtain ⟨K,hK⟩ : ∃ K,K = 4503599627370496 + rung x % 4503599627370496:=⟨_,rfl⟩
 have e : mag x = K * 2 ^ E:=by unfold mag;rw [if_neg h,hE,hK]
 have hl : (mag x).log2 = 52 + E:=by
  rw [e];have p0 : 4503599627370496 * 2 ^ E ≤ K * 2 ^ E:=Nat.mul_le_mul_right _ (by omega);have p1 : K * 2 ^ E < 9007199254740992 * 2 ^ E:=Nat.mul_lt_mul_of_pos_right (by omega) (Nat.two_pow_pos E);refine log2_of ?_ ?_
  ·rw [Nat.pow_add];exact p0
  rw [show 52 + E + 1 = 53 + E by omega,Nat.pow_add];exact p1
 have e2 : lastp (mag x) (-1074) = -1074 + E:=by unfold lastp;rw [hl];omega
 unfold kept
 rw [e2,e];rw [show (-1074 - (-1074 + (E : Int))).toNat = 0 by omega,show (-1074 + (E : Int) - -1074).toNat = E by omega,show (-1074 + (E : Int) + 1074).toNat = E by omega,Nat.shiftLeft_zero,cut_exact s K E (by omega)]
 congr 1
 omega
theorem fop_lt {op : BinOp} {x y : Nat} : fop op x y < 18446744073709551616:=by
 unfold fop
 cases e : floatBits op .f64 x y with
 | none=>decide
 | some r =>
  have h:=floatBits_wf e;have h2 : decide (r < 2 ^ 64) = true:=h;exact of_decide_eq_true h2
theorem add_zero {x z : Nat} (hx : fin x) (hx2 : x < 18446744073709551616) (hz : rung z = 0) : fok .add x z = true ∧ (rung x ≠ 0 → fop .add x z = x) ∧ (rung x = 0 → rung (fop .add x z) = 0):=by
 obtain ⟨m,k,h1,h2⟩:=read_fin hx
 have hs : (Datum.number (neg x) m ((k : Int) - 1074)).sum (.number (neg z) 0 (-1074)) = some (.number (if signed (neg x) m k = 0 then neg x && neg z else signed (neg x) m k < 0) (signed (neg x) m k).natAbs (-1074)):=by
  unfold Datum.sum
  have e1 : min ((k : Int) - 1074) (-1074) = -1074:=by omega
  simp only;rw [e1,show ((k : Int) - 1074 - -1074).toNat = k by omega,show (-1074 - -1074 : Int).toNat = 0 by decide]
  have e2 : ∀ s,signed s 0 0 = 0:=by intro s;cases s <;> rfl
  rw [e2,Int.add_zero]
 have e:=fop_eq (op:=.add) (x:=x) (y:=z) (r:=_) (show double.add x z = some _ by unfold Format.add;rw [h1,read_zero hz,hs];rfl)
 have hv : (signed (neg x) m k).natAbs = mag x:=by
  unfold signed
  rw [Nat.shiftLeft_eq,← h2]
  split <;> simp
 refine ⟨e.1,fun h0=>?_,fun h0=>?_⟩
 ·rw [e.2]
  show double.nearest _ _ _ = _
  rw [hv,nearest_self _ hx]
  have hm : mag x ≠ 0:=fun h=>h0 (mag_zero.1 h)
  have hne : signed (neg x) m k ≠ 0:=by omega
  rw [if_neg hne]
  have : (decide (signed (neg x) m k < 0)) = neg x:=by
   unfold signed
   rw [Nat.shiftLeft_eq,← h2];cases hn : neg x
   ·simp
   simp;omega
  rw [this,word_self hx2]
 rw [e.2]
 show rung (double.nearest _ _ _) = _
 rw [hv,nearest_self _ hx,h0];exact (rung_word _ (by decide)).1
theorem sub_zero {x z : Nat} (hx : fin x) (hz : rung z = 0) : fin (fop .sub x z):=by
 obtain ⟨m,k,h1,h2⟩:=read_fin hx
 have hs : (Datum.number (neg x) m ((k : Int) - 1074)).sum (.number (!neg z) 0 (-1074)) = some (.number (if signed (neg x) m k = 0 then neg x && !neg z else signed (neg x) m k < 0) (signed (neg x) m k).natAbs (-1074)):=by
  unfold Datum.sum
  have e1 : min ((k : Int) - 1074) (-1074) = -1074:=by omega
  simp only;rw [e1,show ((k : Int) - 1074 - -1074).toNat = k by omega,show (-1074 - -1074 : Int).toNat = 0 by decide]
  have e2 : ∀ s,signed s 0 0 = 0:=by intro s;cases s <;> rfl
  rw [e2,Int.add_zero]
 have e:=fop_eq (op:=.sub) (x:=x) (y:=z) (r:=_) (show double.sub x z = some _ by unfold Format.sub;rw [h1,read_zero hz];show Option.map _ ((Datum.number (neg x) m ((k : Int) - 1074)).sum (.number (!neg z) 0 (-1074))) = _;rw [hs];rfl)
 have hv : (signed (neg x) m k).natAbs = mag x:=by
  unfold signed
  rw [Nat.shiftLeft_eq,← h2]
  split <;> simp
 rw [e.2]
 unfold fin
 show rung (double.nearest _ _ _) < _
 rw [hv,nearest_self _ hx];have h3 : rung x < 9223372036854775808:=Nat.mod_lt _ (by decide);rw [(rung_word _ h3).1];exact hx
theorem quo_ok {d n : Nat} (hd : nn d) (hn : fin n) (h0 : rung n ≠ 0) : fok .quo d n = true ∧ (inf d → inf (fop .quo d n)) ∧ (rung d = 0 → rung (fop .quo d n) = 0):=by
 obtain ⟨m,k,h1,h2⟩:=read_fin hn
 have hm : m ≠ 0:=by rintro rfl;rw [Nat.zero_mul] at h2;exact h0 (mag_zero.1 h2)
 rcases nn_cases hd with hf|hi
 ·obtain ⟨p,i,h3,h4⟩:=read_fin hf;have e:=fop_eq (op:=.quo) (x:=d) (y:=n) (r:=_) (show double.div d n = some _ by unfold Format.div;rw [h1,h3];unfold Datum.quotient;simp only;rw [if_neg hm];rfl);refine ⟨e.1,fun h=>?_,fun h=>?_⟩
  ·unfold fin at hf;unfold inf at h;omega
  rw [e.2]
  have hp : p = 0:=by
   have:=mag_zero.2 h
   rw [h4] at this
   rcases Nat.mul_eq_zero.1 this with h5|h5
   ·exact h5
   have:=Nat.two_pow_pos i;omega
  subst hp;simp only [Nat.zero_shiftLeft,Nat.zero_div,Nat.zero_mod,Nat.mul_zero]
  show rung (double.nearest _ 0 _) = 0
  unfold Format.nearest
  rw [if_pos rfl];exact (rung_word _ (by decide)).1
 have e:=fop_eq (op:=.quo) (x:=d) (y:=n) (r:=double.write (.infinity (neg d ^^ neg n))) (show double.div d n = some _ by unfold Format.div;rw [h1,read_inf hi];rfl);refine ⟨e.1,fun _=>by rw [e.2];exact (write_inf _).1,fun h=>?_⟩
 unfold inf at *;omega
theorem mul_inf_inf {x y : Nat} (hx : inf x) (hy : inf y) : fok .mul x y = true :=
 (fop_eq (op:=.mul) (show double.mul x y = some _ by unfold Format.mul;rw [read_inf hx,read_inf hy];rfl)).1
theorem mul_some {x y : Nat} (hx : fin x) (h0 : rung x ≠ 0) (hy : nn y) : fok .mul x y = true:=by
 obtain ⟨m,k,h1,h2⟩:=read_fin hx
 have hm : m ≠ 0:=by rintro rfl;rw [Nat.zero_mul] at h2;exact h0 (mag_zero.1 h2)
 rcases nn_cases hy with hf|hi
 ·exact mul_fin hx hf
 exact (fop_eq (op:=.mul) (r:=double.write (.infinity (neg y ^^ neg x))) (show double.mul x y = some _ by unfold Format.mul;rw [h1,read_inf hi];unfold Datum.product;simp only;rw [if_neg hm];rfl)).1
theorem nn_add_fin {x y : Nat} (hx : nn x) (hy : fin y) : fok .add x y = true:=by
 rcases nn_cases hx with h|h
 ·exact add_fin h hy
 exact (add_inf h hy).1
theorem fin_add_nn {x y : Nat} (hx : fin x) (hy : nn y) : fok .add x y = true:=by
 rcases nn_cases hy with h|h
 ·exact add_fin hx h
 exact (fin_add_inf hx h).1
theorem fin_sub_nn {x y : Nat} (hx : fin x) (hy : nn y) : fok .sub x y = true:=by
 rcases nn_cases hy with h|h
 ·exact sub_fin hx h
 exact (fin_sub_inf hx h).1
theorem whole {N : Int} (h1 : 1 ≤ N) (h2 : N ≤ 4611686018427387905) : fin (floatOfInt .f64 N) ∧ rung (floatOfInt .f64 N) ≠ 0:=by
 show fin (double.nearest (N < 0) N.natAbs 0) ∧ rung (double.nearest (N < 0) N.natAbs 0) ≠ 0
 obtain ⟨m,hm⟩ : ∃ m,m = N.natAbs:=⟨_,rfl⟩
 rw [← hm]
 have hm0 : m ≠ 0:=by omega
 have hm1 : m ≤ 4611686018427387905:=by omega
 rw [nearest_eq _ 0 hm0];have hl : m.log2 < 63:=(Nat.log2_lt hm0).2 (by omega)
 have e1 : lastp m 0 = (m.log2 : Int) - 52:=by unfold lastp;omega
 have hk : kept (N < 0) m 0 ≤ 2305843009213693954:=by
  unfold kept
  rw [e1]
  by_cases hd : m.log2 ≤ 52
  ·rw [show ((m.log2 : Int) - 52 - 0).toNat = 0 by omega,cut_zero,Nat.shiftLeft_eq];have h3:=log2_hi m;have h4 : m * 2 ^ (0 - ((m.log2 : Int) - 52)).toNat < 2 ^ (m.log2 + 1) * 2 ^ (0 - ((m.log2 : Int) - 52)).toNat:=Nat.mul_lt_mul_of_pos_right h3 (Nat.two_pow_pos _)
   rw [← Nat.pow_add,show m.log2 + 1 + (0 - ((m.log2 : Int) - 52)).toNat = 53 by omega] at h4
   omega
  rw [show (0 - ((m.log2 : Int) - 52)).toNat = 0 by omega,Nat.shiftLeft_zero]
  obtain ⟨d,hd2⟩ : ∃ d,((m.log2 : Int) - 52 - 0).toNat = d + 1:=⟨((m.log2 : Int) - 52 - 0).toNat - 1,by omega⟩
  rw [hd2];have h3:=(cut_bounds (N < 0) m (d + 1) (by omega)).2;have h4 : m / 2 ^ (d + 1) ≤ m / 2:=Nat.div_le_div_left (by rw [Nat.pow_succ];have:=Nat.two_pow_pos d;omega) (by decide)
  omega
 rw [e1]
 obtain ⟨L,hL⟩ : ∃ L,L = ((m.log2 : Int) - 52 + 1074).toNat:=⟨_,rfl⟩
 rw [← hL]
 have hL1 : L ≤ 1084:=by omega
 have hL2 : 1022 ≤ L:=by omega
 generalize kept (N < 0) m 0 = K at *
 rw [Nat.min_eq_left (by omega)];have h5:=(rung_word (N < 0) (r:=L * 4503599627370496 + K) (by omega)).1
 unfold fin
 rw [h5]
 omega
end Go.Proofs.Ytijmdmnhbbcahaa.QFloBTallyWhole
namespace Go.Proofs.Ytijmdmnhbbcahaa.QTalTallyWhole
open Go.RowKit Go.Proofs.Ytijmdmnhbbcahaa.PTallyWhole Go.Proofs.YtijmdmnhbbcahaaW.PrintWords Go.Proofs.YtijmdmnhbbcahaaW.PrintLast Go.Proofs.Ytijmdmnhbbcahaa.QFloTallyWhole Go.Proofs.Ytijmdmnhbbcahaa.QFloBTallyWhole
set_option linter.unusedVariables false
set_option linter.unusedSimpArgs false
open Ieee
theorem fin_nn {x : Nat} (h : fin x) : nn x:=by unfold fin at h;unfold nn;omega
theorem absB_eq {x : Nat} (h : x < 18446744073709551616) : absB x = rung x:=by
 unfold absB Go.bits
 have e1 : (BitVec.ofInt IntKind.u64.bits (x : Int)).toNat = x:=by
  rw [BitVec.toNat_ofInt]
  show ((x : Int) % ((18446744073709551616 : Nat) : Int)).toNat = x
  omega
 have e2 : (~~~(BitVec.ofInt IntKind.u64.bits 9223372036854775808)).toNat = 2 ^ 63 - 1:=by decide
 have e3 : ((BitVec.ofInt IntKind.u64.bits (x : Int)) &&& ~~~(BitVec.ofInt IntKind.u64.bits 9223372036854775808)).toNat = rung x:=by
  rw [BitVec.toNat_and,e1,e2,Nat.and_two_pow_sub_one_eq_mod];rfl
 show (IntKind.u64.wrap (((BitVec.ofInt IntKind.u64.bits (x : Int)) &&& ~~~(BitVec.ofInt IntKind.u64.bits 9223372036854775808)).toNat : Int)).toNat = _
 rw [e3];have h2 : rung x < 9223372036854775808:=Nat.mod_lt _ (by decide)
 have e4 : IntKind.u64.wrap (rung x : Int) = (rung x : Int):=by
  show (rung x : Int) % 18446744073709551616 = _
  omega
 rw [e4]
 omega
theorem rung_rung (x : Nat) : rung (rung x) = rung x:=by unfold rung;omega
theorem neg_rung (x : Nat) : neg (rung x) = false:=by
 unfold neg rung
 rw [show x % 9223372036854775808 / 9223372036854775808 = 0 by omega];rfl
theorem val_rung (x : Nat) : val (rung x) = mag x:=by
 unfold val
 rw [neg_rung,mag_rung (rung_rung x)];rfl
theorem fin_rung {x : Nat} (h : fin x) : fin (rung x):=by unfold fin at *;rw [rung_rung];exact h
theorem neg_flip (x : Nat) : rung (Op.negFloat .f64 x) = rung x ∧ neg (Op.negFloat .f64 x) = !neg x:=by
 have e : Op.negFloat .f64 x = x ^^^ 2 ^ 63:=rfl;rw [e]
 constructor
 ·show (x ^^^ 2 ^ 63) % 2 ^ 63 = x % 2 ^ 63
  rw [Nat.xor_mod_two_pow,Nat.mod_self,Nat.xor_zero]
 show ((x ^^^ 2 ^ 63) / 2 ^ 63 % 2 == 1) = !(x / 2 ^ 63 % 2 == 1)
 rw [Nat.xor_div_two_pow,Nat.div_self (by decide)];have h : (x / 2 ^ 63 ^^^ 1) % 2 ^ 1 = ((x / 2 ^ 63) % 2 ^ 1) ^^^ (1 % 2 ^ 1):=Nat.xor_mod_two_pow
 rw [show (2 : Nat) ^ 1 = 2 from rfl] at h
 rw [h]
 rcases Nat.mod_two_eq_zero_or_one (x / 2 ^ 63) with g|g <;> rw [g] <;> decide
theorem val_flip (x : Nat) : val (Op.negFloat .f64 x) = - val x:=by
 unfold val
 rw [(neg_flip x).2,mag_rung (neg_flip x).1]
 cases neg x <;> simp
theorem isnan_eq (x : Nat) : math_IsNaN.f x = some (!decide (nn x)):=by
 unfold math_IsNaN.f
 congr 1
 by_cases h : nn x
 ·rw [decide_eq_true h]
  rcases nn_cases h with g|g
  ·rw [ord g g,Int.compare_eq_eq.mpr rfl];rfl
  show (double.order x x != some .eq) = false
  unfold Format.order
  rw [read_inf g]
  unfold Datum.order
  cases neg x <;> rfl
 rw [decide_eq_false h];obtain ⟨s,t,e⟩:=read_nan h
 show (double.order x x != some .eq) = true
 unfold Format.order
 rw [e];rfl
set_option exponentiation.threshold 4000 in
theorem mag_top {x : Nat} (h : fin x) : mag x ≤ 9007199254740991 * 2 ^ 2045:=by
 unfold fin at h
 unfold mag
 split
 ·have:=Nat.two_pow_pos 2045
  omega
 exact Nat.mul_le_mul (by omega) (Nat.pow_le_pow_right (by decide) (by omega))
theorem val_top : val 9218868437227405311 = ((9007199254740991 * 2 ^ 2045 : Nat) : Int):=by decide +kernel
theorem fin_top : fin 9218868437227405311:=by unfold fin rung;decide
theorem isinf_eq {x : Nat} (h : x < 18446744073709551616) (hn : nn x) : math_IsInf.f x 0 = some (!decide (fin x)):=by
 unfold math_IsInf.f math_Abs.f
 rw [if_pos rfl,absB_eq h]
 show some _ = _
 congr 1
 by_cases g : fin x
 ·rw [decide_eq_true g,ord (fin_rung g) fin_top,val_rung,val_top];have:=mag_top g
  have e : compare (mag x : Int) ((9007199254740991 * 2 ^ 2045 : Nat) : Int) ≠ .gt:=by
   rw [ne_eq,Int.compare_eq_gt]
   omega
  cases e2 : compare (mag x : Int) ((9007199254740991 * 2 ^ 2045 : Nat) : Int) with
  | gt=>exact absurd e2 e
  | lt=>rfl
  | eq=>rfl
 rw [decide_eq_false g]
 have e : rung x = 9218868437227405312:=by unfold nn at hn;unfold fin at g;omega
 rw [e]
 decide +kernel
theorem sub_self {x : Nat} (h : fin x) : rung (fop .sub x x) = 0:=by
 obtain ⟨m,k,h1,h2⟩:=read_fin h
 have hs : (Datum.number (neg x) m ((k : Int) - 1074)).sum (.number (!neg x) m ((k : Int) - 1074)) = some (.number (neg x && !neg x) 0 ((k : Int) - 1074)):=by
  unfold Datum.sum
  simp only [Int.min_self,Int.sub_self,Int.toNat_zero]
  have e2 : signed (neg x) m 0 + signed (!neg x) m 0 = 0:=by unfold signed;cases neg x <;> simp <;> omega
  rw [e2];rfl
 have e:=fop_eq (op:=.sub) (x:=x) (y:=x) (r:=_) (show double.sub x x = some _ by unfold Format.sub;rw [h1];show Option.map _ ((Datum.number (neg x) m ((k : Int) - 1074)).sum (.number (!neg x) m ((k : Int) - 1074))) = _;rw [hs];rfl);rw [e.2]
 show rung (double.nearest _ 0 _) = 0
 unfold Format.nearest
 rw [if_pos rfl];exact (rung_word _ (by decide)).1
theorem val_of_zero {x : Nat} (h : rung x = 0) : val x = 0:=by
 unfold val
 rw [mag_zero.2 h]
 split <;> simp
theorem fin_of_zero {x : Nat} (h : rung x = 0) : fin x:=by unfold fin;omega
theorem w64 (n : Int) (h : -9223372036854775808 ≤ n) (h2 : n ≤ 9223372036854775807) : wrap64 n = n:=by unfold wrap64;omega
theorem rd_at {l : List Nat} {i : Nat} (h : i < l.length) : rdOf (0 : Nat) l (i : Int) = l[i]:=by unfold rdOf;simp [h]
theorem all_cons (x : Nat) (l : List Nat) : decide (∀ y ∈ x :: l,fin y) = (decide (fin x) && decide (∀ y ∈ l,fin y)):=by
 by_cases h : fin x <;> simp [h]
theorem tf_loop (l : List Nat) (hm : l.length < 9223372036854775807) (hw : ∀ x ∈ l,x < 18446744073709551616) : ∀ (n k i : Nat),i + n = l.length → n < k →
  tally_finite.l0 k l (l.length : Int) (i : Int) = some (decide (∀ x ∈ l.drop i,fin x))
 | 0,k + 1,i,h,_=>by
  rw [tally_finite.l0,if_neg (by omega),List.drop_eq_nil_of_le (by omega)]
  simp
 | n + 1,k + 1,i,h,hk=>by
  have hi : i < l.length:=by omega
  rw [tally_finite.l0,if_pos (by omega),if_pos (by omega),if_pos (by omega),rd_at hi,isnan_eq,List.drop_eq_getElem_cons hi,all_cons]
  by_cases g : nn l[i]
  ·rw [decide_eq_true g];rw [Bool.not_true,Option.bind_some,if_neg (by decide),isinf_eq (hw _ (List.getElem_mem hi)) g]
   by_cases g2 : fin l[i]
   ·rw [decide_eq_true g2]
    show tally_finite.l0 k l (l.length : Int) (wrap64 ((i : Int) + 1)) = _
    rw [w64 _ (by omega) (by omega)];exact tf_loop l hm hw n k (i + 1) (by omega) (by omega)
   rw [decide_eq_false g2];rfl
  rw [decide_eq_false g]
  show some false = _
  have g2 : ¬ fin l[i]:=fun h=>g (fin_nn h)
  rw [decide_eq_false g2];rfl
theorem tf_eq (l : List Nat) (k : Nat) (hk : l.length < k) (hm : l.length < 9223372036854775807) (hw : ∀ x ∈ l,x < 18446744073709551616) : tally_finite.f k l = some (decide (∀ x ∈ l,fin x)) :=
 tf_loop l hm hw l.length k 0 (by omega) hk
end Go.Proofs.Ytijmdmnhbbcahaa.QTalTallyWhole
namespace Go.Proofs.Ytijmdmnhbbcahaa.QFloCTallyWhole
open Go.RowKit Go.Proofs.Ytijmdmnhbbcahaa.PTallyWhole Go.Proofs.YtijmdmnhbbcahaaW.PrintWords Go.Proofs.YtijmdmnhbbcahaaW.PrintLast Go.Proofs.Ytijmdmnhbbcahaa.QFloTallyWhole Go.Proofs.Ytijmdmnhbbcahaa.QFloBTallyWhole Go.Proofs.Ytijmdmnhbbcahaa.QTalTallyWhole
set_option linter.unusedVariables false
set_option linter.unusedSimpArgs false
open Ieee
theorem write_neg {d : Datum} (h : d.isNaN = false) : neg (double.write d) = (match d with|.number s _ _=>s|.infinity s=>s|.nan s _=>s):=by
 cases d with
 | number s m p=>exact (nearest_nn s m p).2
 | infinity s=>exact (write_inf s).2
 | nan s t=>cases h
theorem mul_neg {x y : Nat} (hx : nn x) (hy : nn y) (h : fok .mul x y = true) : neg (fop .mul x y) = (neg x ^^ neg y):=by
 have key : ∀ r,double.mul x y = some r → neg r = (neg x ^^ neg y):=by
  intro r hr
  unfold Format.mul at hr
  obtain ⟨d,hd,rfl⟩:=Option.map_eq_some_iff.mp hr;rw [write_neg (product_nn hd)]
  rcases nn_cases hx with a|a <;> rcases nn_cases hy with b|b
  ·obtain ⟨m,i,h1,_⟩:=read_fin a;obtain ⟨n,j,h2,_⟩:=read_fin b
   rw [h1,h2] at hd
   cases hd;rfl
  ·obtain ⟨m,i,h1,_⟩:=read_fin a
   rw [h1,read_inf b] at hd
   unfold Datum.product at hd
   simp only at hd
   split at hd
   ·cases hd
   cases hd;show (neg y ^^ neg x) = _;cases neg x <;> cases neg y <;> rfl
  ·obtain ⟨m,i,h1,_⟩:=read_fin b
   rw [h1,read_inf a] at hd
   unfold Datum.product at hd
   simp only at hd
   split at hd
   ·cases hd
   cases hd;rfl
  rw [read_inf a,read_inf b] at hd
  cases hd;rfl
 have e : floatBits .mul .f64 x y = double.mul x y:=rfl
 cases e2 : double.mul x y with
 | none=>unfold fok at h;rw [e,e2] at h;cases h
 | some r=>unfold fop;rw [e,e2];exact key r e2
end Go.Proofs.Ytijmdmnhbbcahaa.QFloCTallyWhole
namespace Go.Proofs.Ytijmdmnhbbcahaa.QFormTallyWhole
open Go.RowKit Go.Proofs.Ytijmdmnhbbcahaa.PTallyWhole Go.Proofs.YtijmdmnhbbcahaaW.PrintWords Go.Proofs.YtijmdmnhbbcahaaW.PrintLast Go.Proofs.Ytijmdmnhbbcahaa.QFloTallyWhole Go.Proofs.Ytijmdmnhbbcahaa.QFloBTallyWhole Go.Proofs.Ytijmdmnhbbcahaa.QTalTallyWhole
set_option linter.unusedVariables false
set_option linter.unusedSimpArgs false
theorem sound_eq {k : Nat} {c : Int} {x1 x2 x3 x4 x5 x6 : Nat} (hk : 6 < k) (hc : c ≤ 4611686018427387904) (h1 : x1 < 18446744073709551616) (h2 : x2 < 18446744073709551616) (h3 : x3 < 18446744073709551616) (h4 : x4 < 18446744073709551616) (h5 : x5 < 18446744073709551616) (h6 : x6 < 18446744073709551616) :
  tally_sound.f k c x1 x2 x3 x4 x5 x6 = some (decide (∀ x ∈ [x1,x2,x3,x4,x5,x6],fin x)):=by
 unfold tally_sound.f
 rw [if_pos hc,tf_eq _ k (by simpa using hk) (by simp) (by intro x hx;simp only [List.mem_cons,List.not_mem_nil,or_false] at hx;rcases hx with rfl|rfl|rfl|rfl|rfl|rfl <;> assumption)];rfl
end Go.Proofs.Ytijmdmnhbbcahaa.QFormTallyWhole
namespace Go.Proofs.Ytijmdmnhbbcahaa.QStepsTallyWhole
open Go.RowKit Go.Proofs.Ytijmdmnhbbcahaa.PTallyWhole Go.Proofs.YtijmdmnhbbcahaaW.PrintWords Go.Proofs.YtijmdmnhbbcahaaW.PrintLast Go.Proofs.Ytijmdmnhbbcahaa.QFloTallyWhole Go.Proofs.Ytijmdmnhbbcahaa.QFloBTallyWhole Go.Proofs.Ytijmdmnhbbcahaa.QTalTallyWhole Go.Proofs.Ytijmdmnhbbcahaa.QFormTallyWhole Go.Proofs.Ytijmdmnhbbcahaa.QFloCTallyWhole
set_option linter.unusedVariables false
set_option linter.unusedSimpArgs false
open Ieee
theorem lt_iff {x y : Nat} (hx : fin x) (hy : fin y) : (FloatKind.f64.format.order x y == some .lt) = decide (val x < val y):=by
 rw [ord hx hy]
 cases e : compare (val x) (val y) with
 | lt=>have:=Int.compare_eq_lt.mp e;rw [decide_eq_true this];rfl
 | eq=>have:=Int.compare_eq_eq.mp e;rw [decide_eq_false (by omega)];rfl
 | gt=>have:=Int.compare_eq_gt.mp e;rw [decide_eq_false (by omega)];rfl
theorem gt_iff {x y : Nat} (hx : fin x) (hy : fin y) : (FloatKind.f64.format.order x y == some .gt) = decide (val y < val x):=by
 rw [ord hx hy]
 cases e : compare (val x) (val y) with
 | lt=>have:=Int.compare_eq_lt.mp e;rw [decide_eq_false (by omega)];rfl
 | eq=>have:=Int.compare_eq_eq.mp e;rw [decide_eq_false (by omega)];rfl
 | gt=>have:=Int.compare_eq_gt.mp e;rw [decide_eq_true this];rfl
theorem eq_iff {x y : Nat} (hx : fin x) (hy : fin y) : (FloatKind.f64.format.order x y == some .eq) = decide (val x = val y):=by
 rw [ord hx hy]
 cases e : compare (val x) (val y) with
 | lt=>have:=Int.compare_eq_lt.mp e;rw [decide_eq_false (by omega)];rfl
 | eq=>have:=Int.compare_eq_eq.mp e;rw [decide_eq_true this];rfl
 | gt=>have:=Int.compare_eq_gt.mp e;rw [decide_eq_false (by omega)];rfl
theorem signed_neg (s : Bool) (m k : Nat) : signed (!s) m k = - signed s m k:=by
 unfold signed
 cases s <;> simp
theorem sub_same {x y : Nat} (hx : fin x) (hy : fin y) (h : val x = val y) : fok .sub x y = true ∧ rung (fop .sub x y) = 0:=by
 obtain ⟨m,i,h1,h2⟩:=read_fin hx;obtain ⟨n,j,h3,h4⟩:=read_fin hy
 have e1 : ((i : Int) - 1074 - min ((i : Int) - 1074) ((j : Int) - 1074)).toNat = i - min i j:=by omega
 have e2 : ((j : Int) - 1074 - min ((i : Int) - 1074) ((j : Int) - 1074)).toNat = j - min i j:=by omega
 have a1:=signed_mul (neg x) m (i - min i j) (min i j);have a2:=signed_mul (neg y) n (j - min i j) (min i j)
 rw [Nat.sub_add_cancel (Nat.min_le_left i j)] at a1
 rw [Nat.sub_add_cancel (Nat.min_le_right i j)] at a2
 have hp : ((2 ^ min i j : Nat) : Int) ≠ 0:=by have:=Nat.two_pow_pos (min i j);omega
 have hs : signed (neg x) m (i - min i j) = signed (neg y) n (j - min i j):=by
  rw [val_signed h2,val_signed h4,a1,a2] at h
  exact Int.eq_of_mul_eq_mul_right hp h
 have hsum : (Datum.number (neg x) m ((i : Int) - 1074)).sum (.number (!neg y) n ((j : Int) - 1074)) = some (.number (neg x && !neg y) 0 (min ((i : Int) - 1074) ((j : Int) - 1074))):=by
  unfold Datum.sum
  simp only;rw [e1,e2,signed_neg,hs,Int.add_right_neg];rfl
 have e:=fop_eq (op:=.sub) (x:=x) (y:=y) (r:=_) (show double.sub x y = some _ by unfold Format.sub;rw [h1,h3];show Option.map _ ((Datum.number (neg x) m ((i : Int) - 1074)).sum (.number (!neg y) n ((j : Int) - 1074))) = _;rw [hsum];rfl);refine ⟨e.1,?_⟩;rw [e.2]
 show rung (double.nearest _ 0 _) = 0
 unfold Format.nearest
 rw [if_pos rfl];exact (rung_word _ (by decide)).1
theorem mul_zero {x y : Nat} (hx : rung x = 0) (hy : fin y) : rung (fop .mul x y) = 0:=by
 obtain ⟨n,j,h3,h4⟩:=read_fin hy;have e:=fop_eq (op:=.mul) (x:=x) (y:=y) (r:=double.nearest (neg x ^^ neg y) 0 (-1074 + ((j : Int) - 1074))) (show double.mul x y = some _ by unfold Format.mul;rw [read_zero hx,h3];unfold Datum.product;simp only [Nat.zero_mul];rfl);rw [e.2]
 unfold Format.nearest
 rw [if_pos rfl];exact (rung_word _ (by decide)).1
theorem val_add_zero {x z : Nat} (hx : fin x) (hx2 : x < 18446744073709551616) (hz : rung z = 0) : val (fop .add x z) = val x:=by
 obtain ⟨_,s1,s2⟩:=add_zero hx hx2 hz
 by_cases g : rung x = 0
 ·rw [val_of_zero (s2 g),val_of_zero g]
 rw [s1 g]
theorem lost_ok {x a s : Nat} (hx : fin x) (ha : fin a) (hs : nn s) : ∃ lo,nn lo ∧ tally_lost.f x a s = some lo:=by
 unfold tally_lost.f math_Abs.f
 simp only [Option.bind_some]
 split
 ·have o1:=fin_sub_nn hx hs;have o2:=nn_add_fin (fop_nn o1) ha;exact ⟨_,fop_nn o2,by rw [if_pos o1,if_pos o2]⟩
 have o1:=fin_sub_nn ha hs;have o2:=nn_add_fin (fop_nn o1) hx;exact ⟨_,fop_nn o2,by rw [if_pos o1,if_pos o2]⟩
structure Inv (P : List Nat) (c : Int) (x1 x2 x3 x4 x5 x6 : Nat) : Prop where
 cnt : c = (P.length : Int)
 ne : P ≠ []
 fl : ∀ x ∈ [x1,x2,x3,x4,x5,x6],fin x ∧ x < 18446744073709551616
 lo : ∀ x ∈ P,val x1 ≤ val x
 lo2 : ∃ x ∈ P,val x = val x1
 hi : ∀ x ∈ P,val x ≤ val x2
 hi2 : ∃ x ∈ P,val x = val x2
 sq : 0 ≤ val x6
 al : ∀ v,(∀ x ∈ P,val x = v) → val x6 = 0 ∧ val x5 = v
theorem Inv.pos {P : List Nat} {c : Int} {x1 x2 x3 x4 x5 x6 : Nat} (h : Inv P c x1 x2 x3 x4 x5 x6) : 1 ≤ c:=by
 have:=h.cnt;have h2:=h.ne
 cases P with
 | nil=>exact absurd rfl h2
 | cons a l=>simp at this;omega
theorem Inv.formed {P : List Nat} {c : Int} {x1 x2 x3 x4 x5 x6 : Nat} (h : Inv P c x1 x2 x3 x4 x5 x6) (hl : P.length ≤ 4611686018427387904) {k : Nat} (hk : 7 < k) : tally_formed.f k c x1 x2 x3 x4 x5 x6 = some true:=by
 have f:=h.fl;have hc:=h.pos;have hn:=h.cnt
 unfold tally_formed.f
 have e0 : (c == 0) = false:=beq_false_of_ne (by omega);rw [e0,Bool.false_and,if_neg (by decide),if_pos (by omega),sound_eq (by omega) (by omega) (f x1 (by simp)).2 (f x2 (by simp)).2 (f x3 (by simp)).2 (f x4 (by simp)).2 (f x5 (by simp)).2 (f x6 (by simp)).2,Option.bind_some,decide_eq_true (fun x hx=>(f x hx).1),if_pos rfl];obtain ⟨x,hx,e1⟩:=h.lo2;have h2:=h.hi x hx;have f1:=(f x1 (by simp)).1;have f2:=(f x2 (by simp)).1;have f6:=(f x6 (by simp)).1;have q:=h.sq;rw [lt_iff f1 f2,eq_iff f1 f2,gt_iff f6 fin_zero,eq_iff f6 fin_zero,val_zero]
 have a : (decide (val x1 < val x2) || decide (val x1 = val x2)) = true:=by
  rw [Bool.or_eq_true,decide_eq_true_eq,decide_eq_true_eq];omega
 have b : (decide (0 < val x6) || decide (val x6 = 0)) = true:=by
  rw [Bool.or_eq_true,decide_eq_true_eq,decide_eq_true_eq];omega
 rw [if_pos a,b]
def zz : Int × Nat × Nat × Nat × Nat × Nat × Nat × Int:=(0,0,0,0,0,0,0,121)
def Ok (P : List Nat) (c : Int) (x1 x2 x3 x4 x5 x6 : Nat) : Prop:=(P = [] ∧ c = 0 ∧ x1 = 0 ∧ x2 = 0 ∧ x3 = 0 ∧ x4 = 0 ∧ x5 = 0 ∧ x6 = 0) ∨ Inv P c x1 x2 x3 x4 x5 x6
theorem first_one {a : Nat} (fa : fin a) (ha : a < 18446744073709551616) : Inv [a] 1 a a a 0 a 0:=by
 refine ⟨rfl,by simp,?_,?_,⟨a,by simp,rfl⟩,?_,⟨a,by simp,rfl⟩,by rw [val_zero];exact Int.le_refl _,?_⟩
 ·intro x hx
  simp only [List.mem_cons,List.not_mem_nil,or_false] at hx
  rcases hx with rfl|rfl|rfl|rfl|rfl|rfl <;> first|exact ⟨fa,ha⟩|exact ⟨fin_zero,by decide⟩
 ·intro x hx;simp at hx;subst hx;exact Int.le_refl _
 ·intro x hx;simp at hx;subst hx;exact Int.le_refl _
 intro v hv;exact ⟨val_zero,hv a (by simp)⟩
theorem put_step {P : List Nat} {c : Int} {x1 x2 x3 x4 x5 x6 a : Nat} (h : Ok P c x1 x2 x3 x4 x5 x6) (hl : P.length < 4611686018427387904) (fa : fin a) (ha : a < 18446744073709551616) :
  ∃ r : Int × Nat × Nat × Nat × Nat × Nat × Nat × Int,(∀ k,7 < k → tally_Put.f k c x1 x2 x3 x4 x5 x6 a = some r) ∧ (r = zz ∨ (r.2.2.2.2.2.2.2 = 0 ∧ Inv (P ++ [a]) r.1 r.2.1 r.2.2.1 r.2.2.2.1 r.2.2.2.2.1 r.2.2.2.2.2.1 r.2.2.2.2.2.2.1)):=by
 have ta : ∀ k,7 < k → tally_finite.f k [a] = some true:=by
  intro k hk;rw [tf_eq [a] k (by simp;omega) (by simp) (by intro x hx;simp only [List.mem_cons,List.not_mem_nil,or_false] at hx;subst hx;exact ha)];rw [decide_eq_true (by intro x hx;simp only [List.mem_cons,List.not_mem_nil,or_false] at hx;subst hx;exact fa)]
 rcases h with ⟨hP,rfl,rfl,rfl,rfl,rfl,rfl,rfl⟩|h
 ·subst hP;refine ⟨(1,a,a,a,0,a,0,0),fun k hk=>?_,.inr ⟨rfl,first_one fa ha⟩⟩
  have z0 : Op.floatEq .f64 0 0 = true:=by
   show (FloatKind.f64.format.order 0 0 == some .eq) = true
   rw [eq_iff fin_zero fin_zero,decide_eq_true rfl]
  have e : tally_formed.f k 0 0 0 0 0 0 0 = some true:=by
   unfold tally_formed.f
   rw [if_pos (by rw [z0];rfl)]
  unfold tally_Put.f
  rw [e,Option.bind_some,if_pos rfl,ta k hk,Option.bind_some,if_pos rfl,if_pos rfl]
 have f:=h.fl;have hc:=h.pos;have hn:=h.cnt;have f1:=(f x1 (by simp)).1;have f2:=(f x2 (by simp)).1;have f3:=(f x3 (by simp)).1;have f4:=(f x4 (by simp)).1;have f5:=(f x5 (by simp)).1;have f6:=(f x6 (by simp)).1;have l1:=(f x1 (by simp)).2;have l2:=(f x2 (by simp)).2;have l5:=(f x5 (by simp)).2;have l6:=(f x6 (by simp)).2;have o0:=add_fin f3 fa;obtain ⟨lo,hlo,e4⟩:=lost_ok f3 fa (fop_nn o0);have o1:=fin_add_nn f4 hlo;have o2:=sub_fin fa f5;obtain ⟨fn,n0⟩:=whole (N:=c + 1) (by omega) (by omega)
 obtain ⟨n,hN⟩ : ∃ n,n = floatOfInt .f64 (c + 1):=⟨_,rfl⟩
 rw [← hN] at fn n0
 obtain ⟨o3,i3,z3⟩:=quo_ok (fop_nn o2) fn n0;have o4:=fin_add_nn f5 (fop_nn o3);have o5:=fin_sub_nn fa (fop_nn o4)
 have o6 : fok .mul (fop .sub a x5) (fop .sub a (fop .add x5 (fop .quo (fop .sub a x5) n))) = true:=by
  rcases nn_cases (fop_nn o2) with g|g
  ·by_cases g0 : rung (fop .sub a x5) = 0
   ·have q0:=z3 g0;refine mul_fin g ?_;obtain ⟨_,s1,s2⟩:=add_zero f5 l5 q0
    by_cases g5 : rung x5 = 0
    ·exact sub_zero fa (s2 g5)
    rw [s1 g5];exact g
   exact mul_some g g0 (fop_nn o5)
  exact mul_inf_inf g (fin_sub_inf fa (fin_add_inf f5 (i3 g)).2.1).2.1
 have o7:=fin_add_nn f6 (fop_nn o6)
 have hmn : minF a x1 < 18446744073709551616:=by unfold minF;split <;> assumption
 have hmx : maxF a x2 < 18446744073709551616:=by unfold maxF;split <;> assumption
 obtain ⟨ME,hME⟩ : ∃ ME,ME = fop .add x5 (fop .quo (fop .sub a x5) n):=⟨_,rfl⟩
 obtain ⟨SQ,hSQ⟩ : ∃ SQ,SQ = fop .add x6 (fop .mul (fop .sub a x5) (fop .sub a ME)):=⟨_,rfl⟩
 have lSQ : zeroF SQ < 18446744073709551616:=by
  unfold zeroF;split
  ·decide
  rw [hSQ];exact fop_lt
 have hcomp : ∀ k,7 < k → tally_Put.f k c x1 x2 x3 x4 x5 x6 a = (tally_sound.f k (c + 1) (minF a x1) (maxF a x2) (fop .add x3 a) (fop .add x4 lo) ME (zeroF SQ)).bind fun v=>if v = true then some (c + 1,minF a x1,maxF a x2,fop .add x3 a,fop .add x4 lo,ME,zeroF SQ,0) else some (0,0,0,0,0,0,0,121):=by
  intro k hk
  unfold tally_Put.f
  rw [h.formed (by omega) hk,Option.bind_some,if_pos rfl,ta k hk,Option.bind_some,if_pos rfl,if_neg (by omega),if_pos o0,e4,Option.bind_some]
  unfold tally_Put.g
  rw [w64 (c + 1) (by omega) (by omega),← hN,if_pos o1,if_pos o2,if_pos o3,if_pos o4,if_pos o5,if_pos o6,if_pos o7,← hME,← hSQ]
 by_cases hcn : c + 1 ≤ 4611686018427387904
 ·by_cases g : ∀ x ∈ [minF a x1,maxF a x2,fop .add x3 a,fop .add x4 lo,ME,zeroF SQ],fin x
  ·refine ⟨(c + 1,minF a x1,maxF a x2,fop .add x3 a,fop .add x4 lo,ME,zeroF SQ,0),fun k hk=>?_,.inr ⟨rfl,?_⟩⟩
   ·rw [hcomp k hk,sound_eq (by omega) hcn hmn hmx fop_lt fop_lt (by rw [hME];exact fop_lt) lSQ,Option.bind_some,decide_eq_true g,if_pos rfl]
   have vmn : val (minF a x1) ≤ val a ∧ val (minF a x1) ≤ val x1 ∧ (val (minF a x1) = val a ∨ val (minF a x1) = val x1):=by
    unfold minF
    rw [lt_iff fa f1]
    by_cases q : val a < val x1
    ·rw [decide_eq_true q,if_pos rfl];omega
    rw [decide_eq_false q,if_neg (by decide)];omega
   have vmx : val a ≤ val (maxF a x2) ∧ val x2 ≤ val (maxF a x2) ∧ (val (maxF a x2) = val a ∨ val (maxF a x2) = val x2):=by
    unfold maxF
    rw [gt_iff fa f2]
    by_cases q : val x2 < val a
    ·rw [decide_eq_true q,if_pos rfl];omega
    rw [decide_eq_false q,if_neg (by decide)];omega
   have fz : fin (zeroF SQ):=g _ (by simp)
   have hz : ∀ z,fin (zeroF z) → 0 ≤ val (zeroF z):=by
    intro z hz
    by_cases q : (FloatKind.f64.format.order z 0 == some .lt) = true
    ·unfold zeroF;rw [if_pos q,val_zero];exact Int.le_refl _
    have e : zeroF z = z:=by unfold zeroF;exact if_neg q
    rw [e] at hz ⊢
    rw [lt_iff hz fin_zero,val_zero,decide_eq_true_eq] at q
    omega
   show Inv (P ++ [a]) (c + 1) (minF a x1) (maxF a x2) (fop .add x3 a) (fop .add x4 lo) ME (zeroF SQ)
   refine ⟨by rw [List.length_append,hn];simp,by simp,fun x hx=>⟨g x hx,?_⟩,?_,?_,?_,?_,hz SQ fz,?_⟩
   ·simp only [List.mem_cons,List.not_mem_nil,or_false] at hx
    rcases hx with rfl|rfl|rfl|rfl|rfl|rfl
    ·exact hmn
    ·exact hmx
    ·exact fop_lt
    ·exact fop_lt
    ·rw [hME];exact fop_lt
    exact lSQ
   ·intro x hx
    rw [List.mem_append,List.mem_singleton] at hx
    rcases hx with hx|rfl
    ·have:=h.lo x hx;omega
    exact vmn.1
   ·rcases vmn.2.2 with e|e
    ·exact ⟨a,by simp,e.symm⟩
    obtain ⟨x,hx,e2⟩:=h.lo2;exact ⟨x,by simp [hx],by omega⟩
   ·intro x hx
    rw [List.mem_append,List.mem_singleton] at hx
    rcases hx with hx|rfl
    ·have:=h.hi x hx;omega
    exact vmx.1
   ·rcases vmx.2.2 with e|e
    ·exact ⟨a,by simp,e.symm⟩
    obtain ⟨x,hx,e2⟩:=h.hi2;exact ⟨x,by simp [hx],by omega⟩
   intro v hv;obtain ⟨v6,v5⟩:=h.al v (fun x hx=>hv x (by simp [hx]));have va : val a = v:=hv a (by simp);have z2:=(sub_same fa f5 (by omega)).2;have zq:=z3 z2
   have vm : val ME = v:=by rw [hME,val_add_zero f5 l5 zq,v5]
   have fM : fin ME:=g _ (by simp);have zd:=(sub_same fa fM (by omega)).2;have zp:=mul_zero z2 (fin_of_zero zd)
   have vs : val SQ = 0:=by rw [hSQ,val_add_zero f6 l6 zp,v6]
   refine ⟨?_,vm⟩
   unfold zeroF
   split
   ·exact val_zero
   exact vs
  refine ⟨zz,fun k hk=>?_,.inl rfl⟩;rw [hcomp k hk,sound_eq (by omega) hcn hmn hmx fop_lt fop_lt (by rw [hME];exact fop_lt) lSQ,Option.bind_some,decide_eq_false g,if_neg (by decide)];rfl
 refine ⟨zz,fun k hk=>?_,.inl rfl⟩;rw [hcomp k hk]
 unfold tally_sound.f
 rw [if_neg hcn];rfl
end Go.Proofs.Ytijmdmnhbbcahaa.QStepsTallyWhole
namespace Go.Proofs.Ytijmdmnhbbcahaa.QGridTallyWhole
open Go.RowKit Go.Proofs.Ytijmdmnhbbcahaa.PTallyWhole Go.Proofs.YtijmdmnhbbcahaaW.PrintWords Go.Proofs.YtijmdmnhbbcahaaW.PrintLast Go.Proofs.Ytijmdmnhbbcahaa.QFloTallyWhole Go.Proofs.Ytijmdmnhbbcahaa.QFloBTallyWhole Go.Proofs.Ytijmdmnhbbcahaa.QTalTallyWhole Go.Proofs.Ytijmdmnhbbcahaa.QFormTallyWhole Go.Proofs.Ytijmdmnhbbcahaa.QFloCTallyWhole Go.Proofs.Ytijmdmnhbbcahaa.QStepsTallyWhole
set_option linter.unusedVariables false
set_option linter.unusedSimpArgs false
open Ieee
@[irreducible] def tw (j : Nat) : Nat:=2 ^ j
theorem tw_eq (j : Nat) : tw j = 2 ^ j:=by unfold tw;rfl
theorem tw_add (i j : Nat) : tw (i + j) = tw i * tw j:=by rw [tw_eq,tw_eq,tw_eq,Nat.pow_add]
theorem tw_pos (j : Nat) : 0 < tw j:=by rw [tw_eq];exact Nat.two_pow_pos j
theorem tw_le {i j : Nat} (h : i ≤ j) : tw i ≤ tw j:=by rw [tw_eq,tw_eq];exact Nat.pow_le_pow_right (by decide) h
theorem cut_le (s : Bool) {n N d : Nat} (h : n ≤ N * 2 ^ d) : Toward.even.cut s n d ≤ N:=by
 by_cases h0 : n = 0
 ·subst h0
  unfold Toward.cut
  simp
 by_cases h1 : n = N * 2 ^ d
 ·subst h1;rw [cut_exact s N d (Nat.pos_of_ne_zero (fun e=>h0 (by rw [e,Nat.zero_mul])))];exact Nat.le_refl _
 have h2:=(cut_bounds s n d (by omega)).2;have h3 : n / 2 ^ d < N:=(Nat.div_lt_iff_lt_mul (Nat.two_pow_pos d)).2 (by omega)
 omega
theorem le_cut (s : Bool) {n N d : Nat} (h : N * 2 ^ d ≤ n) : N ≤ Toward.even.cut s n d:=by
 by_cases h0 : n = 0
 ·subst h0;have:=Nat.two_pow_pos d
  rcases Nat.eq_zero_or_pos N with e|e
  ·omega
  have:=Nat.mul_pos e this;omega
 have h2:=(cut_bounds s n d (by omega)).1;have h3 : N ≤ n / 2 ^ d:=(Nat.le_div_iff_mul_le (Nat.two_pow_pos d)).2 h
 omega
theorem p53 : (2 : Nat) ^ 53 = 9007199254740992:=by decide
theorem p52 : (2 : Nat) ^ 52 = 4503599627370496:=by decide
theorem kept_hi (s : Bool) {m : Nat} (p : Int) (hm : m ≠ 0) : kept s m p ≤ 9007199254740992:=by
 have h2:=log2_hi m
 have hl : p + m.log2 - 52 ≤ lastp m p:=by unfold lastp;omega
 unfold kept
 by_cases h : lastp m p ≤ p
 ·rw [show (lastp m p - p).toNat = 0 by omega,cut_zero,Nat.shiftLeft_eq];have a : m * 2 ^ (p - lastp m p).toNat ≤ 2 ^ (m.log2 + 1) * 2 ^ (52 - m.log2):=Nat.mul_le_mul (by omega) (Nat.pow_le_pow_right (by decide) (by omega))
  rw [← Nat.pow_add,show m.log2 + 1 + (52 - m.log2) = 53 by omega,p53] at a
  exact a
 rw [show (p - lastp m p).toNat = 0 by omega,Nat.shiftLeft_zero]
 apply cut_le
 rw [← p53,← Nat.pow_add];exact Nat.le_trans (Nat.le_of_lt h2) (Nat.pow_le_pow_right (by decide) (by omega))
theorem kept_lo (s : Bool) {m : Nat} (p : Int) (hm : m ≠ 0) (hL : -1074 < lastp m p) : 4503599627370496 ≤ kept s m p:=by
 have h2:=log2_lo hm
 have hl : lastp m p = p + m.log2 - 52:=by unfold lastp at *;omega
 unfold kept
 by_cases h : lastp m p ≤ p
 ·rw [show (lastp m p - p).toNat = 0 by omega,cut_zero,Nat.shiftLeft_eq];have a : 2 ^ m.log2 * 2 ^ (52 - m.log2) ≤ m * 2 ^ (p - lastp m p).toNat:=Nat.mul_le_mul h2 (Nat.pow_le_pow_right (by decide) (by omega))
  rw [← Nat.pow_add,show m.log2 + (52 - m.log2) = 52 by omega,p52] at a
  exact a
 rw [show (p - lastp m p).toNat = 0 by omega,Nat.shiftLeft_zero]
 apply le_cut
 rw [← p52,← Nat.pow_add];exact Nat.le_trans (Nat.pow_le_pow_right (by decide) (by omega)) h2
theorem lastp_lo (m : Nat) (p : Int) : -1074 ≤ lastp m p:=by unfold lastp;omega
theorem near_fin (s : Bool) {m : Nat} {p : Int} (hm : m ≠ 0) (h : p + m.log2 ≤ 900) : fin (double.nearest s m p) ∧ neg (double.nearest s m p) = s ∧ mag (double.nearest s m p) = kept s m p * 2 ^ (lastp m p + 1074).toNat:=by
 have k1:=kept_hi s p hm;have l1:=lastp_lo m p
 have l2 : lastp m p ≤ 900:=by unfold lastp;omega
 have r : (lastp m p + 1074).toNat * 4503599627370496 + kept s m p < 9218868437227405312:=by omega
 rw [nearest_eq s p hm,Nat.min_eq_left (by omega)];have w:=rung_word s (r:=(lastp m p + 1074).toNat * 4503599627370496 + kept s m p) (by omega);refine ⟨?_,w.2,mag_word s _ _ k1 ?_ r⟩
 ·unfold fin;rw [w.1];exact r
 by_cases g : -1074 < lastp m p
 ·exact .inl (kept_lo s p hm g)
 exact .inr (by omega)
theorem kept_le (s : Bool) {m : Nat} {p : Int} {P g j : Nat} (hm : m ≠ 0) (hP : 0 ≤ p + 1074 + P) (hg : g ≤ 9007199254740992) (h : m * 2 ^ (p + 1074 + P).toNat ≤ g * 2 ^ (j + P)) : kept s m p * 2 ^ (lastp m p + 1074).toNat ≤ g * 2 ^ j:=by
 have l1:=lastp_lo m p;have h2:=log2_lo hm
 obtain ⟨L,hL⟩ : ∃ L,L = (lastp m p + 1074).toNat:=⟨_,rfl⟩
 rw [← hL]
 by_cases c : lastp m p ≤ p
 ·unfold kept
  rw [show (lastp m p - p).toNat = 0 by omega,cut_zero,Nat.shiftLeft_eq];refine Nat.le_of_mul_le_mul_right ?_ (Nat.two_pow_pos P);rw [Nat.mul_assoc,Nat.mul_assoc,Nat.mul_assoc,← Nat.pow_add,← Nat.pow_add,← Nat.pow_add,show (p - lastp m p).toNat + (L + P) = (p + 1074 + P).toNat by omega];exact h
 obtain ⟨d,hd⟩ : ∃ d,d = (lastp m p - p).toNat:=⟨_,rfl⟩
 have e : (p + 1074 + P).toNat = L + P - d:=by omega
 rw [e] at h
 by_cases cj : L ≤ j
 ·have a : kept s m p ≤ g * 2 ^ (j - L):=by
   unfold kept
   rw [show (p - lastp m p).toNat = 0 by omega,Nat.shiftLeft_zero,← hd]
   apply cut_le
   refine Nat.le_of_mul_le_mul_right ?_ (Nat.two_pow_pos (L + P - d));rw [Nat.mul_assoc,Nat.mul_assoc,← Nat.pow_add,← Nat.pow_add,show j - L + (d + (L + P - d)) = j + P by omega];exact h
  have b:=Nat.mul_le_mul_right (2 ^ L) a
  rw [Nat.mul_assoc,← Nat.pow_add,show j - L + L = j by omega] at b
  exact b
 have hl : lastp m p = p + m.log2 - 52:=by unfold lastp at *;omega
 have m1 : 2 ^ (52 + d) ≤ m:=Nat.le_trans (Nat.pow_le_pow_right (by decide) (by omega)) h2
 have m2 : m ≤ 4503599627370496 * 2 ^ d:=by
  refine Nat.le_of_mul_le_mul_right ?_ (Nat.two_pow_pos (L + P - d));rw [← p52,← Nat.pow_add,← Nat.pow_add,show 52 + d + (L + P - d) = 52 + (L + P) by omega];refine Nat.le_trans h (Nat.le_trans (Nat.mul_le_mul_right _ hg) ?_);rw [← p53,← Nat.pow_add];exact Nat.pow_le_pow_right (by decide) (by omega)
 have a : kept s m p ≤ 4503599627370496:=by
  unfold kept
  rw [show (p - lastp m p).toNat = 0 by omega,Nat.shiftLeft_zero,← hd];exact cut_le s m2
 refine Nat.le_trans (Nat.mul_le_mul_right _ a) ?_;refine Nat.le_of_mul_le_mul_right ?_ (Nat.two_pow_pos P)
 have b : 4503599627370496 * 2 ^ L * 2 ^ P ≤ m * 2 ^ (L + P - d):=by
  refine Nat.le_trans ?_ (Nat.mul_le_mul_right _ m1);rw [← p52,← Nat.pow_add,← Nat.pow_add,← Nat.pow_add];exact Nat.pow_le_pow_right (by decide) (by omega)
 rw [Nat.mul_assoc g,← Nat.pow_add];exact Nat.le_trans b h
theorem le_kept (s : Bool) {m : Nat} {p : Int} {P g j : Nat} (hm : m ≠ 0) (hP : 0 ≤ p + 1074 + P) (hg : g ≤ 9007199254740992) (h : g * 2 ^ (j + P) ≤ m * 2 ^ (p + 1074 + P).toNat) : g * 2 ^ j ≤ kept s m p * 2 ^ (lastp m p + 1074).toNat:=by
 have l1:=lastp_lo m p;have h2:=log2_lo hm
 obtain ⟨L,hL⟩ : ∃ L,L = (lastp m p + 1074).toNat:=⟨_,rfl⟩
 rw [← hL]
 by_cases c : lastp m p ≤ p
 ·unfold kept
  rw [show (lastp m p - p).toNat = 0 by omega,cut_zero,Nat.shiftLeft_eq];refine Nat.le_of_mul_le_mul_right ?_ (Nat.two_pow_pos P);rw [Nat.mul_assoc,Nat.mul_assoc,Nat.mul_assoc,← Nat.pow_add,← Nat.pow_add,← Nat.pow_add,show (p - lastp m p).toNat + (L + P) = (p + 1074 + P).toNat by omega];exact h
 obtain ⟨d,hd⟩ : ∃ d,d = (lastp m p - p).toNat:=⟨_,rfl⟩
 have e : (p + 1074 + P).toNat = L + P - d:=by omega
 rw [e] at h
 by_cases cj : L ≤ j
 ·have a : g * 2 ^ (j - L) ≤ kept s m p:=by
   unfold kept
   rw [show (p - lastp m p).toNat = 0 by omega,Nat.shiftLeft_zero,← hd]
   apply le_cut
   refine Nat.le_of_mul_le_mul_right ?_ (Nat.two_pow_pos (L + P - d));rw [Nat.mul_assoc,Nat.mul_assoc,← Nat.pow_add,← Nat.pow_add,show j - L + (d + (L + P - d)) = j + P by omega];exact h
  have b:=Nat.mul_le_mul_right (2 ^ L) a
  rw [Nat.mul_assoc,← Nat.pow_add,show j - L + L = j by omega] at b
  exact b
 have a:=kept_lo s p hm (by omega);refine Nat.le_trans ?_ (Nat.mul_le_mul_right _ a);refine Nat.le_trans (Nat.mul_le_mul_right _ hg) ?_;rw [← p52,← p53,← Nat.pow_add,← Nat.pow_add];exact Nat.pow_le_pow_right (by decide) (by omega)
theorem room {m : Nat} {p : Int} {P g j : Nat} (hm : m ≠ 0) (hP : 0 ≤ p + 1074 + P) (hg : g ≤ 9007199254740992) (hj : j ≤ 1900) (h : m * tw (p + 1074 + P).toNat ≤ g * tw (j + P)) : p + m.log2 ≤ 900:=by
 rw [tw_eq,tw_eq] at h
 have a : 2 ^ (m.log2 + (p + 1074 + P).toNat) ≤ 2 ^ (53 + (j + P)):=by
  rw [Nat.pow_add,Nat.pow_add,p53];exact Nat.le_trans (Nat.mul_le_mul_right _ (log2_lo hm)) (Nat.le_trans h (Nat.mul_le_mul_right _ hg))
 have b:=(Nat.pow_le_pow_iff_right (by decide : 1 < 2)).1 a
 omega
def Near (num : Int) (den : Nat) (v : Int) : Prop:=∀ (a : Int) (j : Nat),a.natAbs ≤ 9007199254740992 → j ≤ 1900 → (num ≤ a * ((2 ^ j * den : Nat) : Int) → v ≤ a * ((2 ^ j : Nat) : Int)) ∧ (a * ((2 ^ j * den : Nat) : Int) ≤ num → a * ((2 ^ j : Nat) : Int) ≤ v)
theorem near_of (s : Bool) {E den M : Nat} (hden : 0 < den) (hu : ∀ g j,g ≤ 9007199254740992 → j ≤ 1900 → E ≤ g * (2 ^ j * den) → M ≤ g * 2 ^ j) (hl : ∀ g j,g ≤ 9007199254740992 → j ≤ 1900 → g * (2 ^ j * den) ≤ E → g * 2 ^ j ≤ M) :
  Near (if s then -(E : Int) else (E : Int)) den (if s then -(M : Int) else (M : Int)):=by
 intro a j ha hj
 obtain ⟨g,hg⟩ : ∃ g,g = a.natAbs:=⟨_,rfl⟩
 have u:=hu g j (by omega) hj;have l:=hl g j (by omega) hj
 have z : g * (2 ^ j * den) = 0 → g * 2 ^ j = 0:=by
  intro h;have h2:=Nat.mul_pos (Nat.two_pow_pos j) hden
  rcases Nat.mul_eq_zero.1 h with h|h
  ·rw [h,Nat.zero_mul]
  omega
 rcases Int.natAbs_eq a with e|e <;> rw [← hg] at e <;> subst e
 ·rw [← Int.natCast_mul,← Int.natCast_mul]
  generalize g * (2 ^ j * den) = X at *
  generalize g * 2 ^ j = Y at *
  cases s
  ·simp only [Bool.false_eq_true,if_false];omega
  simp only [if_true];refine ⟨by omega,fun h=>?_⟩;have:=z (by omega);have:=u (by omega)
  omega
 rw [Int.neg_mul,Int.neg_mul,← Int.natCast_mul,← Int.natCast_mul]
 generalize g * (2 ^ j * den) = X at *
 generalize g * 2 ^ j = Y at *
 cases s
 ·simp only [Bool.false_eq_true,if_false];refine ⟨fun h=>?_,by omega⟩;have:=z (by omega);have:=u (by omega)
  omega
 simp only [if_true];omega
end Go.Proofs.Ytijmdmnhbbcahaa.QGridTallyWhole
namespace Go.Proofs.Ytijmdmnhbbcahaa.QGridTallyWhole
open Go.RowKit Go.Proofs.Ytijmdmnhbbcahaa.PTallyWhole Go.Proofs.YtijmdmnhbbcahaaW.PrintWords Go.Proofs.YtijmdmnhbbcahaaW.PrintLast Go.Proofs.Ytijmdmnhbbcahaa.QFloTallyWhole Go.Proofs.Ytijmdmnhbbcahaa.QFloBTallyWhole Go.Proofs.Ytijmdmnhbbcahaa.QTalTallyWhole Go.Proofs.Ytijmdmnhbbcahaa.QFormTallyWhole Go.Proofs.Ytijmdmnhbbcahaa.QFloCTallyWhole Go.Proofs.Ytijmdmnhbbcahaa.QStepsTallyWhole
set_option linter.unusedVariables false
set_option linter.unusedSimpArgs false
open Ieee
theorem near_pow (s : Bool) {m : Nat} {p : Int} {P : Nat} (hm : m ≠ 0) (hP : 0 ≤ p + 1074 + P) (h : p + m.log2 ≤ 900) : Near (if s then -((m * tw (p + 1074 + P).toNat : Nat) : Int) else ((m * tw (p + 1074 + P).toNat : Nat) : Int)) (tw P) (val (double.nearest s m p)):=by
 rw [tw_eq,tw_eq];obtain ⟨f1,f2,f3⟩:=near_fin s hm h
 unfold val
 rw [f2,f3];refine near_of s (Nat.two_pow_pos P) ?_ ?_
 ·intro g j hg hj hE
  rw [← Nat.pow_add] at hE
  exact kept_le s hm hP hg hE
 intro g j hg hj hE
 rw [← Nat.pow_add] at hE
 exact le_kept s hm hP hg hE
theorem near_zero {den : Nat} (h : 0 < den) : Near 0 den 0:=by
 have:=near_of false (E:=0) (M:=0) h (fun g j _ _ _=>Nat.zero_le _) (fun g j _ _ hE=>by
  have h2:=Nat.mul_pos (Nat.two_pow_pos j) h
  rcases Nat.mul_eq_zero.1 (Nat.le_zero.1 hE) with h3|h3
  ·rw [h3,Nat.zero_mul];exact Nat.le_refl _
  omega)
 simpa using this
theorem nearest_zero (s : Bool) (p : Int) : val (double.nearest s 0 p) = 0 ∧ fin (double.nearest s 0 p):=by
 have e : rung (double.nearest s 0 p) = 0:=by
  unfold Format.nearest
  rw [if_pos rfl];exact (rung_word _ (by decide)).1
 exact ⟨val_of_zero e,fin_of_zero e⟩
theorem sum_near {sx sy : Bool} {m n i k : Nat} (hb : (signed sx m i + signed sy n k).natAbs ≤ 9007199254740992 * tw 1500) :
  ∃ s M q,(Datum.number sx m ((i : Int) - 1074)).sum (.number sy n ((k : Int) - 1074)) = some (.number s M q) ∧ fin (double.nearest s M q) ∧ Near (signed sx m i + signed sy n k) 1 (val (double.nearest s M q)):=by
 have e1 : ((i : Int) - 1074 - min ((i : Int) - 1074) ((k : Int) - 1074)).toNat = i - min i k:=by omega
 have e2 : ((k : Int) - 1074 - min ((i : Int) - 1074) ((k : Int) - 1074)).toNat = k - min i k:=by omega
 have e3 : min ((i : Int) - 1074) ((k : Int) - 1074) = ((min i k : Nat) : Int) - 1074:=by omega
 have a1:=signed_mul sx m (i - min i k) (min i k);have a2:=signed_mul sy n (k - min i k) (min i k)
 rw [Nat.sub_add_cancel (Nat.min_le_left i k)] at a1
 rw [Nat.sub_add_cancel (Nat.min_le_right i k)] at a2
 obtain ⟨T,hT⟩ : ∃ T,T = signed sx m (i - min i k) + signed sy n (k - min i k):=⟨_,rfl⟩
 obtain ⟨b,hb0⟩ : ∃ b,b = min i k:=⟨_,rfl⟩
 have hV : signed sx m i + signed sy n k = T * ((2 ^ b : Nat) : Int):=by rw [a1,a2,← Int.add_mul,← hT,hb0]
 refine ⟨_,_,_,(by unfold Datum.sum;simp only;rw [e1,e2,e3,← hT,← hb0] : _ = some (Datum.number (if T = 0 then sx && sy else decide (T < 0)) T.natAbs ((b : Int) - 1074))),?_⟩;rw [hV]
 rw [hV] at hb
 by_cases h0 : T = 0
 ·subst h0;have z:=nearest_zero (if (0 : Int) = 0 then sx && sy else decide ((0 : Int) < 0)) ((b : Int) - 1074);refine ⟨z.2,?_⟩
  show Near (0 * _) 1 (val (double.nearest _ 0 _))
  rw [z.1,Int.zero_mul];exact near_zero (by decide)
 rw [if_neg h0]
 have hn : T.natAbs ≠ 0:=by omega
 have hb2 : T.natAbs * tw ((b : Int) - 1074 + 1074 + (0 : Nat)).toNat ≤ 9007199254740992 * tw (1500 + 0):=by
  rw [Int.natAbs_mul,Int.natAbs_natCast,← tw_eq b] at hb
  rw [show ((b : Int) - 1074 + 1074 + (0 : Nat)).toNat = b by omega,Nat.add_zero];exact hb
 have r:=room (P:=0) (j:=1500) hn (by omega) (Nat.le_refl _) (by decide) hb2;refine ⟨(near_fin _ hn r).1,?_⟩;have q:=near_pow (decide (T < 0)) (P:=0) hn (by omega) r
 rw [show ((b : Int) - 1074 + 1074 + (0 : Nat)).toNat = b by omega,tw_eq b,show tw 0 = 1 by rw [tw_eq]] at q
 have e : (if decide (T < 0) = true then -((T.natAbs * 2 ^ b : Nat) : Int) else ((T.natAbs * 2 ^ b : Nat) : Int)) = T * ((2 ^ b : Nat) : Int):=by
  rw [Int.natCast_mul,← Int.neg_mul]
  by_cases c : T < 0
  ·rw [decide_eq_true c,if_pos rfl];congr 1;omega
  rw [decide_eq_false c,if_neg (by decide)];congr 1;omega
 rw [e] at q
 exact q
theorem add_near {x y : Nat} (hx : fin x) (hy : fin y) (hb : (val x + val y).natAbs ≤ 9007199254740992 * tw 1500) : fok .add x y = true ∧ fin (fop .add x y) ∧ Near (val x + val y) 1 (val (fop .add x y)):=by
 obtain ⟨m,i,r1,r2⟩:=read_fin hx;obtain ⟨n,k,r3,r4⟩:=read_fin hy
 rw [val_signed r2,val_signed r4] at hb ⊢
 obtain ⟨s,M,q,h1,h2,h3⟩:=sum_near hb;have e:=fop_eq (op:=.add) (x:=x) (y:=y) (r:=double.nearest s M q) (show double.add x y = some _ by unfold Format.add;rw [r1,r3,h1];rfl);rw [e.2];exact ⟨e.1,h2,h3⟩
theorem sub_near {x y : Nat} (hx : fin x) (hy : fin y) (hb : (val x - val y).natAbs ≤ 9007199254740992 * tw 1500) : fok .sub x y = true ∧ fin (fop .sub x y) ∧ Near (val x - val y) 1 (val (fop .sub x y)):=by
 obtain ⟨m,i,r1,r2⟩:=read_fin hx;obtain ⟨n,k,r3,r4⟩:=read_fin hy
 rw [val_signed r2,val_signed r4,Int.sub_eq_add_neg,← signed_neg] at hb ⊢
 obtain ⟨s,M,q,h1,h2,h3⟩:=sum_near hb;have e:=fop_eq (op:=.sub) (x:=x) (y:=y) (r:=double.nearest s M q) (show double.sub x y = some _ by unfold Format.sub;rw [r1,r3];show Option.map _ ((Datum.number (neg x) m ((i : Int) - 1074)).sum (.number (!neg y) n ((k : Int) - 1074))) = _;rw [h1];rfl);rw [e.2];exact ⟨e.1,h2,h3⟩
theorem val_sign (x : Nat) : val x = (if neg x then (-1 : Int) else 1) * (mag x : Int):=by
 unfold val
 split <;> omega
theorem xor_sign (s t : Bool) (a b : Int) : ((if s then (-1 : Int) else 1) * a) * ((if t then (-1 : Int) else 1) * b) = if (s ^^ t) then -(a * b) else a * b:=by
 cases s <;> cases t <;> simp [Int.neg_mul,Int.mul_neg]
theorem mul_near {x y : Nat} (hx : fin x) (hy : fin y) (hb : (val x * val y).natAbs ≤ 9007199254740992 * tw (1500 + 1074)) : fok .mul x y = true ∧ fin (fop .mul x y) ∧ Near (val x * val y) (tw 1074) (val (fop .mul x y)):=by
 obtain ⟨m,i,r1,r2⟩:=read_fin hx;obtain ⟨n,k,r3,r4⟩:=read_fin hy;have e:=fop_eq (op:=.mul) (x:=x) (y:=y) (r:=double.nearest (neg x ^^ neg y) (m * n) ((i : Int) - 1074 + ((k : Int) - 1074))) (show double.mul x y = some _ by unfold Format.mul;rw [r1,r3];rfl);rw [e.2]
 have hv : val x * val y = if (neg x ^^ neg y) then -((m * n * 2 ^ (i + k) : Nat) : Int) else ((m * n * 2 ^ (i + k) : Nat) : Int):=by
  rw [val_sign x,val_sign y,xor_sign,← Int.natCast_mul,r2,r4,show m * 2 ^ i * (n * 2 ^ k) = m * n * 2 ^ (i + k) by rw [Nat.pow_add];simp only [Nat.mul_assoc,Nat.mul_left_comm,Nat.mul_comm]]
 rw [hv] at hb ⊢
 by_cases h0 : m * n = 0
 ·rw [h0] at hb ⊢
  have z:=nearest_zero (neg x ^^ neg y) ((i : Int) - 1074 + ((k : Int) - 1074));refine ⟨e.1,z.2,?_⟩;rw [z.1,Nat.zero_mul]
  have : (if (neg x ^^ neg y) = true then -((0 : Nat) : Int) else ((0 : Nat) : Int)) = 0:=by split <;> rfl
  rw [this];exact near_zero (tw_pos _)
 have ep : ((i : Int) - 1074 + ((k : Int) - 1074) + 1074 + (1074 : Nat)).toNat = i + k:=by omega
 have hb2 : m * n * tw ((i : Int) - 1074 + ((k : Int) - 1074) + 1074 + (1074 : Nat)).toNat ≤ 9007199254740992 * tw (1500 + 1074):=by
  rw [ep,tw_eq (i + k)]
  generalize (neg x ^^ neg y) = s at hb
  cases s
  ·rw [if_neg (by decide),Int.natAbs_natCast] at hb;exact hb
  rw [if_pos rfl,Int.natAbs_neg,Int.natAbs_natCast] at hb;exact hb
 have r:=room (P:=1074) (j:=1500) h0 (by omega) (Nat.le_refl _) (by decide) hb2;refine ⟨e.1,(near_fin _ h0 r).1,?_⟩;have q:=near_pow (neg x ^^ neg y) (P:=1074) h0 (by omega) r
 rw [ep,tw_eq (i + k)] at q
 exact q
theorem mag_pos {x : Nat} (h : 0 < val x) : neg x = false ∧ val x = (mag x : Int):=by
 unfold val at *
 split at h
 ·omega
 rename_i g
 exact ⟨by simpa using g,by rw [if_neg g]⟩
theorem quo_sides {m n i k more c g j : Nat} : m * 2 ^ more * 2 ^ (i + c) = m * 2 ^ i * 2 ^ c * 2 ^ more ∧ g * n * 2 ^ (j + k + more) = g * (2 ^ j * (n * 2 ^ k)) * 2 ^ more:=by
 constructor
 ·rw [Nat.pow_add];simp only [Nat.mul_assoc,Nat.mul_left_comm,Nat.mul_comm]
 rw [Nat.pow_add,Nat.pow_add];simp only [Nat.mul_assoc,Nat.mul_left_comm,Nat.mul_comm]
theorem pow_split {a b f : Nat} (h : b ≤ f) : 2 ^ f = 2 ^ (f - b) * 2 ^ b:=by rw [← Nat.pow_add,Nat.sub_add_cancel h]
theorem quo_up {m n i k more c g j M : Nat} (hn : n ≠ 0) (hg : g ≤ 9007199254740992) (hD : 9007199254740992 * n < m * 2 ^ more) (hM1 : m * 2 ^ more % n = 0 → M = 2 * (m * 2 ^ more / n)) (hM2 : m * 2 ^ more % n ≠ 0 → M = 2 * (m * 2 ^ more / n) + 1)
  (h : m * 2 ^ i * tw c ≤ g * (2 ^ j * (n * 2 ^ k))) : M * 2 ^ (i + c) ≤ g * 2 ^ (j + (k + more + 1)):=by
 rw [tw_eq] at h
 have h2 : m * 2 ^ more * 2 ^ (i + c) ≤ g * n * 2 ^ (j + k + more):=by
  obtain ⟨e1,e2⟩:=quo_sides (m:=m) (n:=n) (i:=i) (k:=k) (more:=more) (c:=c) (g:=g) (j:=j);rw [e1,e2];exact Nat.mul_le_mul_right _ h
 generalize m * 2 ^ more = D at *
 have hdm:=Nat.div_add_mod D n
 by_cases hf : i + c ≤ j + k + more
 ·obtain ⟨W,hW⟩ : ∃ W,W = g * 2 ^ (j + k + more - (i + c)):=⟨_,rfl⟩
  have h3 : D ≤ W * n:=by
   refine Nat.le_of_mul_le_mul_right ?_ (Nat.two_pow_pos (i + c));refine Nat.le_trans h2 (Nat.le_of_eq ?_);rw [pow_split (a:=0) hf,hW];simp only [Nat.mul_assoc,Nat.mul_left_comm,Nat.mul_comm]
  have h4 : M ≤ 2 * W:=by
   by_cases hr : D % n = 0
   ·have : D / n ≤ W:=Nat.div_le_of_le_mul (by rw [Nat.mul_comm];exact h3);rw [hM1 hr];omega
   have : D / n < W:=by
    refine Nat.lt_of_mul_lt_mul_left (a:=n) ?_;rw [Nat.mul_comm n W]
    omega
   rw [hM2 hr];omega
  refine Nat.le_trans (Nat.mul_le_mul_right _ h4) (Nat.le_of_eq ?_);rw [hW,show 2 ^ (j + (k + more + 1)) = 2 ^ (j + k + more) * 2 by rw [← Nat.pow_succ];congr 1;omega,pow_split (a:=0) hf];simp only [Nat.mul_assoc,Nat.mul_left_comm,Nat.mul_comm]
 exfalso
 have h3 : D * 2 ^ (j + k + more) < D * 2 ^ (i + c):=Nat.mul_lt_mul_of_pos_left (Nat.pow_lt_pow_right (by decide) (by omega)) (by omega);have h4 : g * n * 2 ^ (j + k + more) ≤ D * 2 ^ (j + k + more):=Nat.mul_le_mul_right _ (Nat.le_trans (Nat.mul_le_mul_right _ hg) (Nat.le_of_lt hD))
 omega
theorem quo_lo {m n i k more c g j M : Nat} (hn : n ≠ 0) (hg : g ≤ 9007199254740992) (hD : 9007199254740992 * n < m * 2 ^ more) (hM1 : m * 2 ^ more % n = 0 → M = 2 * (m * 2 ^ more / n)) (hM2 : m * 2 ^ more % n ≠ 0 → M = 2 * (m * 2 ^ more / n) + 1)
  (h : g * (2 ^ j * (n * 2 ^ k)) ≤ m * 2 ^ i * tw c) : g * 2 ^ (j + (k + more + 1)) ≤ M * 2 ^ (i + c):=by
 rw [tw_eq] at h
 have h2 : g * n * 2 ^ (j + k + more) ≤ m * 2 ^ more * 2 ^ (i + c):=by
  obtain ⟨e1,e2⟩:=quo_sides (m:=m) (n:=n) (i:=i) (k:=k) (more:=more) (c:=c) (g:=g) (j:=j);rw [e1,e2];exact Nat.mul_le_mul_right _ h
 generalize m * 2 ^ more = D at *
 have hM : 2 * (D / n) ≤ M:=by
  by_cases hr : D % n = 0
  ·rw [hM1 hr];exact Nat.le_refl _
  rw [hM2 hr];omega
 have hq : 9007199254740992 ≤ D / n:=(Nat.le_div_iff_mul_le (Nat.pos_of_ne_zero hn)).2 (by omega)
 by_cases hf : i + c ≤ j + k + more
 ·obtain ⟨W,hW⟩ : ∃ W,W = g * 2 ^ (j + k + more - (i + c)):=⟨_,rfl⟩
  have h3 : W * n ≤ D:=by
   refine Nat.le_of_mul_le_mul_right ?_ (Nat.two_pow_pos (i + c));refine Nat.le_trans (Nat.le_of_eq ?_) h2;rw [pow_split (a:=0) hf,hW];simp only [Nat.mul_assoc,Nat.mul_left_comm,Nat.mul_comm]
  have h5:=(Nat.le_div_iff_mul_le (Nat.pos_of_ne_zero hn)).2 h3
  have h4 : 2 * W ≤ M:=by omega
  refine Nat.le_trans (Nat.le_of_eq ?_) (Nat.mul_le_mul_right _ h4);rw [hW,show 2 ^ (j + (k + more + 1)) = 2 ^ (j + k + more) * 2 by rw [← Nat.pow_succ];congr 1;omega,pow_split (a:=0) hf];simp only [Nat.mul_assoc,Nat.mul_left_comm,Nat.mul_comm]
 refine Nat.mul_le_mul (show g ≤ M by omega) (Nat.pow_le_pow_right (by decide) (by omega))
theorem quo_near {x y : Nat} (hx : fin x) (hy : fin y) (h0 : 0 < val y) (hb : mag x * tw 1074 ≤ 9007199254740992 * (tw 1500 * mag y)) : fok .quo x y = true ∧ fin (fop .quo x y) ∧ Near (val x * ((tw 1074 : Nat) : Int)) (mag y) (val (fop .quo x y)):=by
 obtain ⟨m,i,r1,r2⟩:=read_fin hx;obtain ⟨n,k,r3,r4⟩:=read_fin hy;obtain ⟨ny,vy⟩:=mag_pos h0
 have hn : n ≠ 0:=by rintro rfl;rw [Nat.zero_mul] at r4;omega
 have hmy : 0 < mag y:=by omega
 obtain ⟨more,hmore⟩ : ∃ q,q = 54 + n.log2 - m.log2:=⟨_,rfl⟩
 obtain ⟨D,hD⟩ : ∃ q,q = m * 2 ^ more:=⟨_,rfl⟩
 obtain ⟨st,hst⟩ : ∃ q,q = (D % n != 0).toNat:=⟨_,rfl⟩
 have e:=fop_eq (op:=.quo) (x:=x) (y:=y) (r:=double.nearest (neg x) (2 * (D / n) + st) ((i : Int) - 1074 - ((k : Int) - 1074) - more - 1)) (show double.div x y = some _ by
  unfold Format.div
  rw [r1,r3]
  show Option.map _ (Datum.quotient 54 _ _) = _
  unfold Datum.quotient
  simp only;rw [if_neg hn,ny,Bool.xor_false,← hmore,Nat.shiftLeft_eq,← hD,← hst]
  rfl)
 rw [e.2]
 rw [r2] at hb
 have hs1 : D % n = 0 → st = 0:=by intro h;rw [hst,h];rfl
 have hs2 : D % n ≠ 0 → st = 1:=by intro h;rw [hst,bne_iff_ne.mpr h];rfl
 have hdm:=Nat.div_add_mod D n
 by_cases hm : m = 0
 ·subst hm
  rw [Nat.zero_mul] at hD
  subst hD
  rw [Nat.zero_mod] at hs1
  rw [hs1 rfl,Nat.zero_div];have z:=nearest_zero (neg x) ((i : Int) - 1074 - ((k : Int) - 1074) - more - 1);refine ⟨e.1,z.2,?_⟩
  show Near _ _ (val (double.nearest _ 0 _))
  have vx : val x = 0:=by unfold val;rw [r2,Nat.zero_mul];split <;> rfl
  rw [z.1,vx,Int.zero_mul];exact near_zero hmy
 have hD54 : 9007199254740992 * n < D:=by
  have a : 2 ^ (54 + n.log2) ≤ D:=by
   rw [hD];refine Nat.le_trans (Nat.pow_le_pow_right (by decide) (show 54 + n.log2 ≤ m.log2 + more by omega)) ?_;rw [Nat.pow_add];exact Nat.mul_le_mul_right _ (log2_lo hm)
  have b:=log2_hi n;have c : 9007199254740992 * n < 9007199254740992 * 2 ^ (n.log2 + 1):=Nat.mul_lt_mul_of_pos_left b (by decide)
  rw [← p53,← Nat.pow_add,show 53 + (n.log2 + 1) = 54 + n.log2 by omega,p53] at c
  omega
 have hq : 9007199254740992 ≤ D / n:=(Nat.le_div_iff_mul_le (Nat.pos_of_ne_zero hn)).2 (by omega)
 obtain ⟨M,hM⟩ : ∃ q,q = 2 * (D / n) + st:=⟨_,rfl⟩
 rw [← hM]
 have hM0 : M ≠ 0:=by omega
 obtain ⟨P,hPd⟩ : ∃ q : Nat,q = k + more + 1:=⟨_,rfl⟩
 obtain ⟨p,hp⟩ : ∃ q : Int,q = (i : Int) - 1074 - ((k : Int) - 1074) - more - 1:=⟨_,rfl⟩
 rw [← hp]
 have ep : (p + 1074 + P).toNat = i + 1074:=by omega
 have hP0 : 0 ≤ p + 1074 + P:=by omega
 have hM1 : m * 2 ^ more % n = 0 → M = 2 * (m * 2 ^ more / n):=by rw [← hD];intro h;rw [hM,hs1 h];rfl
 have hM2 : m * 2 ^ more % n ≠ 0 → M = 2 * (m * 2 ^ more / n) + 1:=by rw [← hD];intro h;rw [hM,hs2 h]
 rw [hD] at hD54
 have up : ∀ g j : Nat,g ≤ 9007199254740992 → m * 2 ^ i * tw 1074 ≤ g * (2 ^ j * (n * 2 ^ k)) → M * 2 ^ (p + 1074 + P).toNat ≤ g * 2 ^ (j + P):=by
  intro g j hg h;rw [ep,hPd];exact quo_up hn hg hD54 hM1 hM2 h
 have lo : ∀ g j : Nat,g ≤ 9007199254740992 → g * (2 ^ j * (n * 2 ^ k)) ≤ m * 2 ^ i * tw 1074 → g * 2 ^ (j + P) ≤ M * 2 ^ (p + 1074 + P).toNat:=by
  intro g j hg h;rw [ep,hPd];exact quo_lo hn hg hD54 hM1 hM2 h
 have hr:=room (P:=P) (j:=1500) hM0 hP0 (Nat.le_refl _) (by decide) (by
  rw [tw_eq ((p + 1074 + P).toNat),tw_eq (1500 + P)]
  exact up 9007199254740992 1500 (Nat.le_refl _) (by rw [← r4,← tw_eq 1500];exact hb))
 obtain ⟨f1,f2,f3⟩:=near_fin (neg x) hM0 hr;refine ⟨e.1,f1,?_⟩
 have hv : val x * ((tw 1074 : Nat) : Int) = if neg x then -((m * 2 ^ i * tw 1074 : Nat) : Int) else ((m * 2 ^ i * tw 1074 : Nat) : Int):=by
  rw [Int.natCast_mul (m * 2 ^ i)]
  unfold val
  rw [r2]
  split
  ·rw [Int.neg_mul]
  rfl
 rw [hv]
 show Near _ _ (if neg (double.nearest (neg x) M p) then _ else _)
 rw [f2,f3];refine near_of (neg x) hmy ?_ ?_
 ·intro g j hg hj h
  rw [r4] at h
  exact kept_le (neg x) hM0 hP0 hg (up g j hg h)
 intro g j hg hj h
 rw [r4] at h
 exact le_kept (neg x) hM0 hP0 hg (lo g j hg h)
end Go.Proofs.Ytijmdmnhbbcahaa.QGridTallyWhole
namespace Go.Proofs.Ytijmdmnhbbcahaa.QWholeTallyWhole
open Go.RowKit Go.Proofs.Ytijmdmnhbbcahaa.PTallyWhole Go.Proofs.YtijmdmnhbbcahaaW.PrintWords Go.Proofs.YtijmdmnhbbcahaaW.PrintLast Go.Proofs.Ytijmdmnhbbcahaa.QFloTallyWhole Go.Proofs.Ytijmdmnhbbcahaa.QFloBTallyWhole Go.Proofs.Ytijmdmnhbbcahaa.QTalTallyWhole Go.Proofs.Ytijmdmnhbbcahaa.QFormTallyWhole Go.Proofs.Ytijmdmnhbbcahaa.QFloCTallyWhole Go.Proofs.Ytijmdmnhbbcahaa.QStepsTallyWhole Go.Proofs.Ytijmdmnhbbcahaa.QGridTallyWhole
set_option linter.unusedVariables false
set_option linter.unusedSimpArgs false
open Ieee
theorem tw31 : tw 31 = 2147483648:=by rw [tw_eq]
theorem tw3 : tw 3 = 8:=by rw [tw_eq]
def G : Int:=(tw 1043 : Int)
theorem G_pos : 0 < G:=by have:=tw_pos 1043;unfold G;omega
def U : Int:=(tw 1074 : Int)
theorem U_pos : 0 < U:=by have:=tw_pos 1074;unfold U;omega
theorem U_eq : U = 2147483648 * G:=by
 unfold U G
 rw [show (1074 : Nat) = 31 + 1043 from rfl,tw_add,tw31]
 omega
theorem near_tw {num v : Int} {den : Nat} (h : Near num den v) {a : Int} {j : Nat} (ha : a.natAbs ≤ 9007199254740992) (hj : j ≤ 1900) :
  (num ≤ a * ((tw j : Int) * den) → v ≤ a * (tw j : Int)) ∧ (a * ((tw j : Int) * den) ≤ num → a * (tw j : Int) ≤ v):=by
 have q:=h a j ha hj
 rw [Int.natCast_mul,← tw_eq] at q
 exact q
theorem near_one {num v : Int} (h : Near num 1 v) {a : Int} {j : Nat} (ha : a.natAbs ≤ 9007199254740992) (hj : j ≤ 1900) :
  (num ≤ a * (tw j : Int) → v ≤ a * (tw j : Int)) ∧ (a * (tw j : Int) ≤ num → a * (tw j : Int) ≤ v):=by
 have q:=near_tw h ha hj
 rw [Int.natCast_one,Int.mul_one] at q
 exact q
theorem near_G {num v : Int} (h : Near num 1 v) {a : Int} (ha : a.natAbs ≤ 9007199254740992) : (num ≤ a * G → v ≤ a * G) ∧ (a * G ≤ num → a * G ≤ v):=near_one h ha (by decide)
theorem near_U {num v a : Int} (h : Near num 1 v) (ha : a.natAbs ≤ 9007199254740992) (e : num = a * U) : v = a * U:=by
 have q:=near_one h (a:=a) (j:=1074) ha (by decide);have q1:=q.1 (Int.le_of_eq e);have q2:=q.2 (Int.le_of_eq e.symm);exact Int.le_antisymm q1 q2
theorem near_abs {num v : Int} {den : Nat} (h : Near num den v) {j : Nat} (hj : j ≤ 1900) (hb : num.natAbs ≤ tw j * den) : v.natAbs ≤ tw j:=by
 have q1:=(near_tw h (a:=1) (j:=j) (by decide) hj).1;have q2:=(near_tw h (a:=-1) (j:=j) (by decide) hj).2
 rw [Int.one_mul,Int.one_mul,← Int.natCast_mul] at q1
 rw [Int.neg_mul,Int.neg_mul,Int.one_mul,Int.one_mul,← Int.natCast_mul] at q2
 have:=q1 (by omega);have:=q2 (by omega)
 omega
def Sh (d q : Int) : Prop:=∀ (a : Int) (j : Nat),0 ≤ a → a ≤ 9007199254740992 → j ≤ 1900 → (d ≤ a * (tw j : Int) → q ≤ a * (tw j : Int)) ∧ (-(a * (tw j : Int)) ≤ d → -(a * (tw j : Int)) ≤ q)
theorem Sh.neg {d q : Int} (h : Sh d q) (hd : d ≤ 0) : q ≤ 0:=by
 have:=(h 0 0 (by decide) (by decide) (by decide)).1
 rw [Int.zero_mul] at this
 exact this hd
theorem Sh.pos {d q : Int} (h : Sh d q) (hd : 0 ≤ d) : 0 ≤ q:=by
 have:=(h 0 0 (by decide) (by decide) (by decide)).2
 rw [Int.zero_mul] at this
 exact this hd
theorem Sh.G {d q c : Int} (h : Sh d q) (h0 : 0 ≤ c) (h1 : c ≤ 9007199254740992) : (d ≤ c * G → q ≤ c * G) ∧ (-(c * G) ≤ d → -(c * G) ≤ q):=h c 1043 h0 h1 (by decide)
theorem near_sh_mul {d s q : Int} (h : Near (d * s) (tw 1074) q) (h0 : 0 ≤ s) (h1 : s ≤ U) : Sh d q:=by
 intro a j ha hb hj;have hX : 0 ≤ a * (tw j : Int):=Int.mul_nonneg ha (by omega);have q1:=(near_tw h (a:=a) (j:=j) (by omega) hj).1;have q2:=(near_tw h (a:=-a) (j:=j) (by omega) hj).2
 rw [← Int.mul_assoc] at q1
 rw [Int.neg_mul,← Int.mul_assoc,Int.neg_mul] at q2
 have hU : ((tw 1074 : Nat) : Int) = U:=rfl;have hUp:=U_pos
 rw [hU] at q1 q2
 generalize a * (tw j : Int) = X at *
 constructor
 ·intro g
  apply q1
  by_cases hd : d ≤ 0
  ·exact Int.le_trans (Int.mul_nonpos_of_nonpos_of_nonneg hd h0) (Int.mul_nonneg hX (by omega))
  exact Int.le_trans (Int.mul_le_mul_of_nonneg_left h1 (by omega)) (Int.mul_le_mul_of_nonneg_right g (by omega))
 intro g
 apply q2
 by_cases hd : 0 ≤ d
 ·exact Int.le_trans (Int.neg_nonpos_of_nonneg (Int.mul_nonneg hX (by omega))) (Int.mul_nonneg hd h0)
 have a1 : -(X * U) ≤ d * U:=by rw [← Int.neg_mul];exact Int.mul_le_mul_of_nonneg_right g (by omega)
 have a2 : d * U ≤ d * s:=Int.mul_le_mul_of_nonpos_left (by omega) h1;exact Int.le_trans a1 a2
theorem near_sh_quo {d q K : Int} {den : Nat} (h : Near (d * ((tw 1074 : Nat) : Int)) den q) (hK : 1 ≤ K) (hden : (den : Int) = K * U) : Sh d q:=by
 intro a j ha hb hj;have hX : 0 ≤ a * (tw j : Int):=Int.mul_nonneg ha (by omega);have q1:=(near_tw h (a:=a) (j:=j) (by omega) hj).1;have q2:=(near_tw h (a:=-a) (j:=j) (by omega) hj).2
 rw [← Int.mul_assoc,hden] at q1
 rw [Int.neg_mul,← Int.mul_assoc,Int.neg_mul,hden] at q2
 have hU : ((tw 1074 : Nat) : Int) = U:=rfl;have hUp:=U_pos
 rw [hU] at q1 q2
 generalize a * (tw j : Int) = X at *
 have b1 : X * U ≤ X * (K * U):=by
  have:=Int.mul_le_mul_of_nonneg_right hK (show (0 : Int) ≤ U by omega)
  rw [Int.one_mul] at this
  exact Int.mul_le_mul_of_nonneg_left this hX
 constructor
 ·intro g;exact q1 (Int.le_trans (Int.mul_le_mul_of_nonneg_right g (by omega)) b1)
 intro g;refine q2 ?_
 have a1 : -(X * U) ≤ d * U:=by rw [← Int.neg_mul];exact Int.mul_le_mul_of_nonneg_right g (by omega)
 omega
theorem over_grid {z : Int} (h0 : 0 < z) (h1 : z ≤ 4503599627370496 * G) : ∃ c : Int,0 ≤ c ∧ c ≤ 4503599627370496 ∧ z ≤ c * G ∧ c * G < z + G:=by
 have hG:=G_pos;refine ⟨(z + G - 1) / G,Int.ediv_nonneg (by omega) (by omega),?_,?_,?_⟩
 ·have a:=Int.ediv_mul_le (z + G - 1) (show G ≠ 0 by omega)
  have b : (z + G - 1) / G * G < (4503599627370496 + 1) * G:=by rw [Int.add_mul,Int.one_mul];omega
  have:=Int.lt_of_mul_lt_mul_right b (by omega)
  omega
 ·have a:=Int.lt_ediv_add_one_mul_self (z + G - 1) hG
  rw [Int.add_mul,Int.one_mul] at a
  omega
 have a:=Int.ediv_mul_le (z + G - 1) (show G ≠ 0 by omega)
 omega
theorem mean_step {m f d q v lo hi : Int} (hd : Near (f - m) 1 d) (hq : Sh d q) (hv : Near (m + q) 1 v) (l1 : lo * G ≤ m) (h1 : m ≤ hi * G) (l2 : lo * G + G ≤ f) (h2 : f ≤ hi * G - G)
  (bl : -2251799813685248 ≤ lo) (bh : hi ≤ 2251799813685248) : lo * G ≤ v ∧ v ≤ hi * G:=by
 have hG:=G_pos;have c1 : -2251799813685248 * G ≤ lo * G:=Int.mul_le_mul_of_nonneg_right bl (by omega);have c2 : hi * G ≤ 2251799813685248 * G:=Int.mul_le_mul_of_nonneg_right bh (by omega);have hlh : lo ≤ hi:=Int.le_of_mul_le_mul_right (show lo * G ≤ hi * G by omega) hG;have d0:=near_G hd (a:=0) (by decide)
 rw [Int.zero_mul] at d0
 constructor
 ·apply (near_G hv (a:=lo) (by omega)).2
  by_cases g : 0 ≤ d
  ·have:=hq.pos g;omega
  have g2 : f - m < 0:=Int.not_le.1 fun g3=>g (d0.2 g3)
  obtain ⟨c,k0,k1,k2,k3⟩:=over_grid (z:=m - f) (by omega) (by omega);have e1:=(near_G hd (a:=-c) (by omega)).2
  rw [Int.neg_mul] at e1
  have e2:=(hq.G k0 (by omega)).2 (e1 (by omega))
  omega
 apply (near_G hv (a:=hi) (by omega)).1
 by_cases g : d ≤ 0
 ·have:=hq.neg g;omega
 have g2 : 0 < f - m:=Int.not_le.1 fun g3=>g (d0.1 g3)
 obtain ⟨c,k0,k1,k2,k3⟩:=over_grid (z:=f - m) (by omega) (by omega);have e1:=(near_G hd (a:=c) (by omega)).1 (by omega);have e2:=(hq.G k0 (by omega)).1 e1
 omega
theorem whole_val {n : Int} (h : n.natAbs ≤ 9007199254740992) : fin (floatOfInt .f64 n) ∧ val (floatOfInt .f64 n) = n * U ∧ floatOfInt .f64 n < 18446744073709551616:=by
 show fin (double.nearest (n < 0) n.natAbs 0) ∧ val (double.nearest (n < 0) n.natAbs 0) = n * U ∧ double.nearest (n < 0) n.natAbs 0 < 18446744073709551616
 have hlt : ∀ s m p,double.nearest s m p < 18446744073709551616:=by
  intro s m p
  unfold Format.nearest
  have w : ∀ s r,r ≤ 9218868437227405312 → double.word s r < 18446744073709551616:=by
   intro s r hr
   unfold Format.word
   rw [sw_eq]
   cases s <;> simp <;> omega
  split
  ·exact w _ _ (by decide)
  simp only [inf_eq];exact w _ _ (Nat.min_le_right _ _)
 refine ⟨?_,?_,hlt _ _ _⟩
 ·by_cases h0 : n.natAbs = 0
  ·rw [h0];exact (nearest_zero _ _).2
  have hl : n.natAbs.log2 < 54:=(Nat.log2_lt h0).2 (by omega);exact (near_fin _ h0 (by omega)).1
 by_cases h0 : n.natAbs = 0
 ·rw [h0,(nearest_zero _ _).1,show n = 0 by omega,Int.zero_mul]
 have hl : n.natAbs.log2 < 54:=(Nat.log2_lt h0).2 (by omega);have q:=near_pow (decide (n < 0)) (p:=0) (P:=0) h0 (by omega) (by omega)
 rw [show ((0 : Int) + 1074 + (0 : Nat)).toNat = 1074 from rfl] at q
 have e : (if decide (n < 0) = true then -((n.natAbs * tw 1074 : Nat) : Int) else ((n.natAbs * tw 1074 : Nat) : Int)) = n * U:=by
  rw [Int.natCast_mul,← Int.neg_mul]
  unfold U
  by_cases c : n < 0
  ·rw [decide_eq_true c,if_pos rfl];congr 1;omega
  rw [decide_eq_false c,if_neg (by decide)];congr 1;omega
 rw [e,show tw 0 = 1 by rw [tw_eq]] at q
 exact near_U q h rfl
theorem room_tw {z : Int} {j : Nat} (hj : j ≤ 1500) (h : z.natAbs ≤ 9007199254740992 * tw j) : z.natAbs ≤ 9007199254740992 * tw 1500:=by
 exact Nat.le_trans h (Nat.mul_le_mul_left _ (tw_le hj))
end Go.Proofs.Ytijmdmnhbbcahaa.QWholeTallyWhole
namespace Go.Proofs.Ytijmdmnhbbcahaa.QWholeTallyWhole
open Go.RowKit Go.Proofs.Ytijmdmnhbbcahaa.PTallyWhole Go.Proofs.YtijmdmnhbbcahaaW.PrintWords Go.Proofs.YtijmdmnhbbcahaaW.PrintLast Go.Proofs.Ytijmdmnhbbcahaa.QFloTallyWhole Go.Proofs.Ytijmdmnhbbcahaa.QFloBTallyWhole Go.Proofs.Ytijmdmnhbbcahaa.QTalTallyWhole Go.Proofs.Ytijmdmnhbbcahaa.QFormTallyWhole Go.Proofs.Ytijmdmnhbbcahaa.QFloCTallyWhole Go.Proofs.Ytijmdmnhbbcahaa.QStepsTallyWhole Go.Proofs.Ytijmdmnhbbcahaa.QGridTallyWhole
set_option linter.unusedVariables false
set_option linter.unusedSimpArgs false
open Ieee
theorem abs_U {n : Int} {b : Nat} (h : n.natAbs ≤ b) : (n * U).natAbs ≤ b * tw 1074:=by
 rw [Int.natAbs_mul,show U.natAbs = tw 1074 by unfold U;rfl];exact Nat.mul_le_mul_right _ h
theorem room_U {n : Int} (h : n.natAbs ≤ 9007199254740992) : (n * U).natAbs ≤ 9007199254740992 * tw 1500:=room_tw (j:=1074) (by decide) (abs_U h)
theorem wadd {x y : Nat} {X Y : Int} (hx : fin x) (hy : fin y) (ex : val x = X * U) (ey : val y = Y * U) (hb : (X + Y).natAbs ≤ 9007199254740992) : fok .add x y = true ∧ fin (fop .add x y) ∧ val (fop .add x y) = (X + Y) * U:=by
 have e : val x + val y = (X + Y) * U:=by rw [ex,ey,Int.add_mul]
 have q:=add_near hx hy (by rw [e];exact room_U hb);exact ⟨q.1,q.2.1,near_U q.2.2 hb e⟩
theorem wsub {x y : Nat} {X Y : Int} (hx : fin x) (hy : fin y) (ex : val x = X * U) (ey : val y = Y * U) (hb : (X - Y).natAbs ≤ 9007199254740992) : fok .sub x y = true ∧ fin (fop .sub x y) ∧ val (fop .sub x y) = (X - Y) * U:=by
 have e : val x - val y = (X - Y) * U:=by rw [ex,ey,Int.sub_mul]
 have q:=sub_near hx hy (by rw [e];exact room_U hb);exact ⟨q.1,q.2.1,near_U q.2.2 hb e⟩
theorem lost_zero {x a s : Nat} {X A : Int} (hx : fin x) (ha : fin a) (hs : fin s) (ex : val x = X * U) (ea : val a = A * U) (es : val s = (X + A) * U) (bx : X.natAbs ≤ 1099511627776) (ba : A.natAbs ≤ 1099511627776) :
  ∃ lo,fin lo ∧ val lo = 0 * U ∧ tally_lost.f x a s = some lo:=by
 unfold tally_lost.f math_Abs.f
 simp only [Option.bind_some]
 split
 ·have o1:=wsub hx hs ex es (by omega);have o2:=wadd o1.2.1 ha o1.2.2 ea (by omega);exact ⟨_,o2.2.1,by rw [o2.2.2];congr 1;omega,by rw [if_pos o1.1,if_pos o2.1]⟩
 have o1:=wsub ha hs ea es (by omega);have o2:=wadd o1.2.1 hx o1.2.2 ex (by omega);exact ⟨_,o2.2.1,by rw [o2.2.2];congr 1;omega,by rw [if_pos o1.1,if_pos o2.1]⟩
abbrev fl (n : Int) : Nat:=floatOfInt .f64 n
structure J (P : List Int) (c : Int) (x1 x2 x3 x4 x5 x6 : Nat) : Prop where
 inv : Inv (P.map fl) c x1 x2 x3 x4 x5 x6
 sum : val x3 = P.sum * U
 err : val x4 = 0 * U
 mlo : ∀ lo : Int,(∀ n ∈ P,lo ≤ n) → (lo * 2147483648 - 1) * G ≤ val x5
 mhi : ∀ hi : Int,(∀ n ∈ P,n ≤ hi) → val x5 ≤ (hi * 2147483648 + 1) * G
 sq : val x6 ≤ (P.length : Int) * (tw 1119 : Int)
def Low (P : List Int) : Prop:=∀ n ∈ P,n.natAbs ≤ 1048575
theorem sum_abs : ∀ {P : List Int},Low P → P.sum.natAbs ≤ P.length * 1048575
 | [],_=>by simp
 | n :: P,h=>by
  have a:=sum_abs (P:=P) (fun m hm=>h m (by simp [hm]));have b:=h n (by simp);rw [List.sum_cons,List.length_cons,Nat.add_mul]
  omega
theorem J.mean {P : List Int} {c : Int} {x1 x2 x3 x4 x5 x6 : Nat} (h : J P c x1 x2 x3 x4 x5 x6) (hb : Low P) : -2251797666201601 * G ≤ val x5 ∧ val x5 ≤ 2251797666201601 * G:=by
 have a:=h.mlo (-1048575) (fun n hn=>by have:=hb n hn;omega);have b:=h.mhi 1048575 (fun n hn=>by have:=hb n hn;omega)
 rw [show ((-1048575 : Int) * 2147483648 - 1) = -2251797666201601 by decide] at a
 rw [show ((1048575 : Int) * 2147483648 + 1) = 2251797666201601 by decide] at b
 exact ⟨a,b⟩
theorem le_G {a b : Int} (h : a ≤ b) : a * G ≤ b * G:=Int.mul_le_mul_of_nonneg_right h (by have:=G_pos;omega)
theorem abs_G {z : Int} {j : Nat} (h1 : -(tw j : Int) * G ≤ z) (h2 : z ≤ (tw j : Int) * G) : z.natAbs ≤ tw (j + 1043):=by
 rw [tw_add]
 unfold G at *
 rw [Int.neg_mul,← Int.natCast_mul] at h1
 rw [← Int.natCast_mul] at h2
 omega
theorem min_fin {a x : Nat} (fa : fin a) (fx : fin x) (la : a < 18446744073709551616) (lx : x < 18446744073709551616) : fin (minF a x) ∧ minF a x < 18446744073709551616:=by
 unfold minF;split
 ·exact ⟨fa,la⟩
 exact ⟨fx,lx⟩
theorem max_fin {a x : Nat} (fa : fin a) (fx : fin x) (la : a < 18446744073709551616) (lx : x < 18446744073709551616) : fin (maxF a x) ∧ maxF a x < 18446744073709551616:=by
 unfold maxF;split
 ·exact ⟨fa,la⟩
 exact ⟨fx,lx⟩
theorem zero_sq {x : Nat} {b : Int} (hx : fin x) (lx : x < 18446744073709551616) (hb : 0 ≤ b) (h : val x ≤ b) : fin (zeroF x) ∧ val (zeroF x) ≤ b ∧ zeroF x < 18446744073709551616:=by
 unfold zeroF;split
 ·exact ⟨fin_zero,by rw [val_zero];exact hb,by decide⟩
 exact ⟨hx,h,lx⟩
theorem tw52 : (tw 52 : Int) = 4503599627370496:=by rw [tw_eq];rfl
theorem small_lo {lo : Int} (g : ¬ -1048576 < lo) : lo * 2147483648 - 1 ≤ -1048575 * 2147483648 - 1:=by omega
theorem small_hi {hi : Int} (g : ¬ hi < 1048576) : 1048575 * 2147483648 + 1 ≤ hi * 2147483648 + 1:=by omega
set_option maxHeartbeats 2000000 in
theorem put_whole {P : List Int} {c : Int} {x1 x2 x3 x4 x5 x6 : Nat} (h : J P c x1 x2 x3 x4 x5 x6) (hl : P.length < 65536) (hb : Low P) {a : Int} (ha : a.natAbs ≤ 1048575) :
  ∃ r : Int × Nat × Nat × Nat × Nat × Nat × Nat × Int,(∀ k,7 < k → tally_Put.f k c x1 x2 x3 x4 x5 x6 (fl a) = some r) ∧ r.2.2.2.2.2.2.2 = 0 ∧ J (P ++ [a]) r.1 r.2.1 r.2.2.1 r.2.2.2.1 r.2.2.2.2.1 r.2.2.2.2.2.1 r.2.2.2.2.2.2.1:=by
 obtain ⟨A,hA,fa,va,la⟩ : ∃ A,A = fl a ∧ fin A ∧ val A = a * U ∧ A < 18446744073709551616:=⟨_,rfl,whole_val (n:=a) (by omega)⟩
 rw [← hA]
 have pl : ∀ n ∈ P,-1048575 ≤ n:=fun n hn=>by have:=hb n hn;omega
 have ph : ∀ n ∈ P,n ≤ 1048575:=fun n hn=>by have:=hb n hn;omega
 have al : -1048575 ≤ a:=by omega
 have ah : a ≤ 1048575:=by omega
 have I:=h.inv;have f:=I.fl;have hc:=I.pos;have hn:=I.cnt
 rw [List.length_map] at hn
 have f1:=(f x1 (by simp)).1;have f2:=(f x2 (by simp)).1;have f3:=(f x3 (by simp)).1;have f4:=(f x4 (by simp)).1;have f5:=(f x5 (by simp)).1;have f6:=(f x6 (by simp)).1;have l1:=(f x1 (by simp)).2;have l2:=(f x2 (by simp)).2;have hG:=G_pos;have hUG:=U_eq;have hs:=sum_abs hb
 have hs2 : P.sum.natAbs ≤ 68719411200:=by omega
 obtain ⟨o0,g3,v3⟩:=wadd f3 fa h.sum va (by omega);obtain ⟨lo,flo,vlo,e4⟩:=lost_zero f3 fa g3 h.sum va v3 (by omega) (by omega);obtain ⟨o1,g4,v4⟩:=wadd f4 flo h.err vlo (by decide);obtain ⟨m1,m2⟩:=h.mean hb
 have va2 : val A = a * 2147483648 * G:=by rw [va,hUG,Int.mul_assoc]
 have b1 : -2251797666201600 * G ≤ val A:=by rw [va2];exact le_G (by omega)
 have b2 : val A ≤ 2251797666201600 * G:=by rw [va2];exact le_G (by omega)
 have B2:=f5;have d1 : (val A - val x5).natAbs ≤ tw (52 + 1043):=abs_G (by rw [tw52];omega) (by rw [tw52];omega);obtain ⟨o2,gd,nd⟩:=sub_near fa f5 (room_tw (j:=52 + 1043) (by decide) (by have:=tw_pos (52 + 1043);omega))
 obtain ⟨d,hd⟩ : ∃ d,d = fop .sub A x5:=⟨_,rfl⟩
 rw [← hd] at gd nd
 have ad:=near_abs nd (j:=52 + 1043) (by decide) (by rw [Nat.mul_one];exact d1);obtain ⟨fn,vn,ln⟩:=whole_val (n:=c + 1) (by omega)
 obtain ⟨n,hN⟩ : ∃ n,n = floatOfInt .f64 (c + 1):=⟨_,rfl⟩
 rw [← hN] at fn vn ln
 have hU:=U_pos
 have hcU : U ≤ (c + 1) * U:=by have:=Int.mul_le_mul_of_nonneg_right (show (1 : Int) ≤ c + 1 by omega) (show (0 : Int) ≤ U by omega);rw [Int.one_mul] at this;exact this
 have pn : 0 < val n:=by omega
 obtain ⟨nn1,nn2⟩:=mag_pos pn
 have md : mag d = (val d).natAbs:=by unfold val;split <;> omega
 have hq0 : mag d * tw 1074 ≤ 9007199254740992 * (tw 1500 * mag n):=by
  have e1 : tw 1074 ≤ mag n:=by
   have e0 : U ≤ (mag n : Int):=by rw [← nn2,vn];exact hcU
   unfold U at e0
   exact Int.ofNat_le.1 e0
  rw [md];have e2 : (val d).natAbs * tw 1074 ≤ tw 1500 * mag n:=Nat.mul_le_mul (Nat.le_trans ad (tw_le (by decide))) e1
  omega
 obtain ⟨o3,gq,nq⟩:=quo_near gd fn pn hq0
 obtain ⟨q,hq⟩ : ∃ q,q = fop .quo d n:=⟨_,rfl⟩
 rw [← hq] at gq nq
 have sq:=near_sh_quo nq (K:=c + 1) (by omega) (by rw [← nn2,vn]);have aq1:=(sq 4503599627370496 1043 (by decide) (by decide) (by decide)).1;have aq2:=(sq 4503599627370496 1043 (by decide) (by decide) (by decide)).2
 have ead : (tw (52 + 1043) : Int) = 4503599627370496 * (tw 1043 : Int):=by rw [tw_add,Int.natCast_mul,tw52]
 have aq3 : val q ≤ 4503599627370496 * G:=aq1 (by omega);have aq4 : -(4503599627370496 * G) ≤ val q:=aq2 (by omega)
 have e53 : (tw (53 + 1043) : Int) = 9007199254740992 * G:=by rw [tw_add,Int.natCast_mul,show (tw 53 : Int) = 9007199254740992 by rw [tw_eq];rfl];rfl
 obtain ⟨o4,gM,nM⟩:=add_near f5 gq (room_tw (j:=53 + 1043) (by decide) (by omega))
 obtain ⟨ME,hME⟩ : ∃ ME,ME = fop .add x5 q:=⟨_,rfl⟩
 rw [← hME] at gM nM
 have step : ∀ lo hi : Int,-1048576 < lo → hi < 1048576 → (∀ n ∈ P,lo ≤ n) → (∀ n ∈ P,n ≤ hi) → lo ≤ a → a ≤ hi → (lo * 2147483648 - 1) * G ≤ val ME ∧ val ME ≤ (hi * 2147483648 + 1) * G:=by
  intro lo hi r1 r2 r3 r4 r5 r6;refine mean_step nd sq nM (h.mlo lo r3) (h.mhi hi r4) ?_ ?_ (by omega) (by omega)
  ·rw [va2,show (lo * 2147483648 - 1) * G + G = lo * 2147483648 * G by rw [Int.sub_mul];omega];exact le_G (by omega)
  rw [va2,show (hi * 2147483648 + 1) * G - G = hi * 2147483648 * G by rw [Int.add_mul];omega];exact le_G (by omega)
 obtain ⟨M1,M2⟩:=step (-1048575) 1048575 (by decide) (by decide) pl ph al ah;have d2 : (val A - val ME).natAbs ≤ tw (52 + 1043):=abs_G (by rw [tw52];omega) (by rw [tw52];omega);obtain ⟨o5,ge,ne⟩:=sub_near fa gM (room_tw (j:=52 + 1043) (by decide) (by have:=tw_pos (52 + 1043);omega))
 obtain ⟨e,he⟩ : ∃ e,e = fop .sub A ME:=⟨_,rfl⟩
 rw [← he] at ge ne
 have ae:=near_abs ne (j:=52 + 1043) (by decide) (by rw [Nat.mul_one];exact d2)
 have hp0 : (val d * val e).natAbs ≤ tw (1116 + 1074):=by
  rw [Int.natAbs_mul,show 1116 + 1074 = (52 + 1043) + (52 + 1043) from rfl,tw_add (52 + 1043)];exact Nat.mul_le_mul ad ae
 obtain ⟨o6,gp,np⟩:=mul_near gd ge (by exact Nat.le_trans hp0 (Nat.le_trans (tw_le (by decide)) (Nat.le_mul_of_pos_left _ (by decide))))
 obtain ⟨p,hp⟩ : ∃ p,p = fop .mul d e:=⟨_,rfl⟩
 rw [← hp] at gp np
 rw [tw_add] at hp0
 have ap:=near_abs np (j:=1116) (by decide) hp0;have x60:=I.sq;have x61:=h.sq
 have e19 : (tw 1119 : Int) = 8 * (tw 1116 : Int):=by rw [show (1119 : Nat) = 3 + 1116 from rfl,tw_add,tw3];omega
 have hT:=tw_pos 1116;have x62 : (P.length : Int) * (tw 1119 : Int) ≤ 65536 * (tw 1119 : Int):=Int.mul_le_mul_of_nonneg_right (by omega) (by omega);obtain ⟨o7,gS,nS⟩:=add_near f6 gp (room_tw (j:=1119) (by decide) (by omega))
 obtain ⟨SQ,hSQ⟩ : ∃ SQ,SQ = fop .add x6 p:=⟨_,rfl⟩
 rw [← hSQ] at gS nS
 have x63 : ((P.length : Int) + 1) * (tw 1119 : Int) = (P.length : Int) * (tw 1119 : Int) + (tw 1119 : Int):=by rw [Int.add_mul,Int.one_mul]
 have vS : val SQ ≤ ((P.length : Int) + 1) * (tw 1119 : Int):=(near_one nS (a:=(P.length : Int) + 1) (j:=1119) (by omega) (by decide)).1 (by omega);have zS:=zero_sq gS (by rw [hSQ];exact fop_lt) (Int.mul_nonneg (by omega) (by omega)) vS;have hmn : minF A x1 < 18446744073709551616:=(min_fin fa f1 la l1).2;have hmx : maxF A x2 < 18446744073709551616:=(max_fin fa f2 la l2).2;have fmn : fin (minF A x1):=(min_fin fa f1 la l1).1;have fmx : fin (maxF A x2):=(max_fin fa f2 la l2).1
 have ta : ∀ k,7 < k → tally_finite.f k [A] = some true:=by
  intro k hk;rw [tf_eq [A] k (by simp;omega) (by simp) (by intro x hx;simp only [List.mem_cons,List.not_mem_nil,or_false] at hx;subst hx;exact la)];rw [decide_eq_true (by intro x hx;simp only [List.mem_cons,List.not_mem_nil,or_false] at hx;subst hx;exact fa)]
 have hr : ∀ k,7 < k → tally_Put.f k c x1 x2 x3 x4 x5 x6 A = some (c + 1,minF A x1,maxF A x2,fop .add x3 A,fop .add x4 lo,ME,zeroF SQ,0):=by
  intro k hk
  unfold tally_Put.f
  rw [I.formed (by rw [List.length_map];omega) hk,Option.bind_some,if_pos rfl,ta k hk,Option.bind_some,if_pos rfl,if_neg (by omega),if_pos o0,e4,Option.bind_some]
  unfold tally_Put.g
  rw [w64 (c + 1) (by omega) (by omega),← hN,if_pos o1,← hd,if_pos o2,← hq,if_pos o3,← hME,if_pos o4,← he,if_pos o5,← hp,if_pos o6,← hSQ,if_pos o7,sound_eq (by omega) (by omega) hmn hmx fop_lt fop_lt (by rw [hME];exact fop_lt) zS.2.2,Option.bind_some,decide_eq_true ?_,if_pos rfl];intro x hx
  simp only [List.mem_cons,List.not_mem_nil,or_false] at hx
  rcases hx with rfl|rfl|rfl|rfl|rfl|rfl
  ·exact fmn
  ·exact fmx
  ·exact g3
  ·exact g4
  ·exact gM
  exact zS.1
 refine ⟨_,hr,rfl,?_⟩;obtain ⟨r',k',c'⟩:=put_step (.inr I) (by rw [List.length_map];omega) fa la;have er:=Option.some.inj ((k' 8 (by decide)).symm.trans (hr 8 (by decide)));subst er
 rcases c' with c'|⟨_,c'⟩
 ·exact absurd (show (0 : Int) = 121 from congrArg (fun z : Int × Nat × Nat × Nat × Nat × Nat × Nat × Int=>z.2.2.2.2.2.2.2) c') (by decide)
 have hls : (P ++ [a]).length = P.length + 1:=by simp
 refine ⟨by rw [List.map_append,List.map_singleton,← hA];exact c',?_,?_,?_,?_,?_⟩
 ·show val (fop .add x3 A) = _
  rw [v3,List.sum_append];simp
 ·show val (fop .add x4 lo) = _
  rw [v4];rfl
 ·intro lo hlo
  by_cases g : -1048576 < lo
  ·refine (step lo 1048575 g (by decide) (fun n hn=>hlo n (List.mem_append.2 (.inl hn))) ph (hlo a (List.mem_append.2 (.inr (List.mem_singleton.2 rfl)))) ah).1
  refine Int.le_trans (le_G (small_lo g)) M1
 ·intro hi hhi
  by_cases g : hi < 1048576
  ·refine (step (-1048575) hi (by decide) g pl (fun n hn=>hhi n (List.mem_append.2 (.inl hn))) al (hhi a (List.mem_append.2 (.inr (List.mem_singleton.2 rfl))))).2
  refine Int.le_trans M2 (le_G (small_hi g))
 show val (zeroF SQ) ≤ _
 rw [hls];exact zS.2.1
end Go.Proofs.Ytijmdmnhbbcahaa.QWholeTallyWhole
namespace Go.Proofs.Ytijmdmnhbbcahaa.QWholeTallyWhole
open Go.RowKit Go.Proofs.Ytijmdmnhbbcahaa.PTallyWhole Go.Proofs.YtijmdmnhbbcahaaW.PrintWords Go.Proofs.YtijmdmnhbbcahaaW.PrintLast Go.Proofs.Ytijmdmnhbbcahaa.QFloTallyWhole Go.Proofs.Ytijmdmnhbbcahaa.QFloBTallyWhole Go.Proofs.Ytijmdmnhbbcahaa.QTalTallyWhole Go.Proofs.Ytijmdmnhbbcahaa.QFormTallyWhole Go.Proofs.Ytijmdmnhbbcahaa.QFloCTallyWhole Go.Proofs.Ytijmdmnhbbcahaa.QStepsTallyWhole Go.Proofs.Ytijmdmnhbbcahaa.QGridTallyWhole
set_option linter.unusedVariables false
set_option linter.unusedSimpArgs false
open Ieee
theorem zero_ok (k : Nat) : tally_formed.f k 0 0 0 0 0 0 0 = some true:=by
 have z0 : Op.floatEq .f64 0 0 = true:=by
  show (FloatKind.f64.format.order 0 0 == some .eq) = true
  rw [eq_iff fin_zero fin_zero,decide_eq_true rfl]
 unfold tally_formed.f
 rw [if_pos (by rw [z0];rfl)]
theorem put_first {a : Int} (ha : a.natAbs ≤ 1048575) : (∀ k,7 < k → tally_Put.f k 0 0 0 0 0 0 0 (fl a) = some (1,fl a,fl a,fl a,0,fl a,0,0)) ∧ J [a] 1 (fl a) (fl a) (fl a) 0 (fl a) 0:=by
 obtain ⟨fa,va,la⟩:=whole_val (n:=a) (by omega);have hG:=G_pos;refine ⟨fun k hk=>?_,first_one fa la,by rw [List.sum_cons,List.sum_nil,Int.add_zero];exact va,by rw [val_zero,Int.zero_mul],fun lo h=>?_,fun hi h=>?_,?_⟩
 ·unfold tally_Put.f
  rw [zero_ok,Option.bind_some,if_pos rfl,tf_eq [fl a] k (by simp;omega) (by simp) (by intro x hx;simp only [List.mem_cons,List.not_mem_nil,or_false] at hx;subst hx;exact la),Option.bind_some,if_pos (decide_eq_true (by intro x hx;simp only [List.mem_cons,List.not_mem_nil,or_false] at hx;subst hx;exact fa)),if_pos rfl]
 ·rw [show val (fl a) = a * 2147483648 * G by rw [va,U_eq,Int.mul_assoc]];exact le_G (by have:=h a (by simp);omega)
 ·rw [show val (fl a) = a * 2147483648 * G by rw [va,U_eq,Int.mul_assoc]];exact le_G (by have:=h a (by simp);omega)
 rw [val_zero];exact Int.mul_nonneg (by simp) (by omega)
theorem of_run {L : List Int} (hL : Low L) (hl : L.length ≤ 65536) : ∀ (n i : Nat) (c : Int) (x1 x2 x3 x4 x5 x6 : Nat),i + n = L.length →
  ((i = 0 ∧ c = 0 ∧ x1 = 0 ∧ x2 = 0 ∧ x3 = 0 ∧ x4 = 0 ∧ x5 = 0 ∧ x6 = 0) ∨ J (L.take i) c x1 x2 x3 x4 x5 x6) →
  ∃ r : Int × Nat × Nat × Nat × Nat × Nat × Nat × Int,(∀ K,tally_Of.l0 (K + n + 9) (L.map fl) ((L.map fl).length : Int) (i : Int) c x1 x2 x3 x4 x5 x6 = some r) ∧ r.2.2.2.2.2.2.2 = 0 ∧
   ((L = [] ∧ r = (0,0,0,0,0,0,0,0)) ∨ J L r.1 r.2.1 r.2.2.1 r.2.2.2.1 r.2.2.2.2.1 r.2.2.2.2.2.1 r.2.2.2.2.2.2.1)
 | 0,i,c,x1,x2,x3,x4,x5,x6,hi,ho=>by
  refine ⟨(c,x1,x2,x3,x4,x5,x6,0),fun K=>?_,rfl,?_⟩
  ·rw [show K + 0 + 9 = (K + 8) + 1 by omega,tally_Of.l0,List.length_map,if_neg (by omega)]
  rcases ho with ⟨e0,rfl,rfl,rfl,rfl,rfl,rfl,rfl⟩|h
  ·exact .inl ⟨List.length_eq_zero_iff.1 (by omega),rfl⟩
  rw [List.take_of_length_le (by omega)] at h
  exact .inr h
 | n + 1,i,c,x1,x2,x3,x4,x5,x6,hi,ho=>by
  have h : i < L.length:=by omega
  have ha : L[i].natAbs ≤ 1048575:=hL _ (List.getElem_mem h)
  have hm : i < (L.map fl).length:=by rw [List.length_map];exact h
  have e1 : rdOf (0 : Nat) (L.map fl) (i : Int) = fl L[i]:=by rw [rd_at hm,List.getElem_map]
  obtain ⟨r,r1,r2,r3⟩ : ∃ r : Int × Nat × Nat × Nat × Nat × Nat × Nat × Int,(∀ k,7 < k → tally_Put.f k c x1 x2 x3 x4 x5 x6 (fl L[i]) = some r) ∧ r.2.2.2.2.2.2.2 = 0 ∧ J (L.take (i + 1)) r.1 r.2.1 r.2.2.1 r.2.2.2.1 r.2.2.2.2.1 r.2.2.2.2.2.1 r.2.2.2.2.2.2.1:=by
   rw [List.take_succ_eq_append_getElem h]
   rcases ho with ⟨rfl,rfl,rfl,rfl,rfl,rfl,rfl,rfl⟩|ho
   ·obtain ⟨p1,p2⟩:=put_first ha;exact ⟨_,p1,rfl,by rw [List.take_zero];exact p2⟩
   exact put_whole ho (by rw [List.length_take];omega) (fun m hm=>hL m (List.mem_of_mem_take hm)) ha
  obtain ⟨s,s1,s2⟩:=of_run hL hl n (i + 1) _ _ _ _ _ _ _ (by omega) (.inr r3);refine ⟨s,fun K=>?_,s2⟩;rw [show K + (n + 1) + 9 = (K + n + 9) + 1 by omega,tally_Of.l0,if_pos (by rw [List.length_map];omega),if_pos (by omega),if_pos (by rw [List.length_map];omega),e1,r1 _ (by omega),Option.bind_some,if_pos r2,w64 _ (by omega) (by omega)];exact s1 K
theorem fl_fin {L : List Int} (hL : Low L) : ∀ x ∈ L.map fl,fin x ∧ x < 18446744073709551616:=by
 intro x hx;obtain ⟨n,hn,rfl⟩:=List.mem_map.1 hx;have:=hL n hn;obtain ⟨a,b,c⟩:=whole_val (n:=n) (by omega);exact ⟨a,c⟩
theorem of_whole {L : List Int} (hL : Low L) (hl : L.length ≤ 65536) {k : Nat} (hk : L.length + 9 ≤ k) : ∃ r : Int × Nat × Nat × Nat × Nat × Nat × Nat × Int,tally_Of.f k (L.map fl) = some r ∧ r.2.2.2.2.2.2.2 = 0 ∧
   ((L = [] ∧ r = (0,0,0,0,0,0,0,0)) ∨ J L r.1 r.2.1 r.2.2.1 r.2.2.2.1 r.2.2.2.2.1 r.2.2.2.2.2.1 r.2.2.2.2.2.2.1):=by
 obtain ⟨r,r1,r2⟩:=of_run hL hl L.length 0 0 0 0 0 0 0 0 (by omega) (.inl ⟨rfl,rfl,rfl,rfl,rfl,rfl,rfl,rfl⟩);refine ⟨r,?_,r2⟩
 unfold tally_Of.f
 rw [tf_eq _ k (by rw [List.length_map];omega) (by rw [List.length_map];omega) (fun x hx=>(fl_fin hL x hx).2),Option.bind_some,if_pos (decide_eq_true (fun x hx=>(fl_fin hL x hx).1))];have e:=r1 (k - L.length - 9)
 rw [show k - L.length - 9 + L.length + 9 = k by omega] at e
 exact e
structure Wh (n S lo hi : Int) (c : Int) (x1 x2 x3 x4 x5 x6 : Nat) : Prop where
 cnt : c = n
 fl1 : fin x1
 fl2 : fin x2
 fl3 : fin x3
 fl4 : fin x4
 fl5 : fin x5
 fl6 : fin x6
 lo1 : val x1 = lo * U
 hi2 : val x2 = hi * U
 sum : val x3 = S * U
 err : val x4 = 0 * U
 mlo : (lo * 2147483648 - 2) * G ≤ val x5
 mhi : val x5 ≤ (hi * 2147483648 + 2) * G
 sq : 0 ≤ val x6
 al : lo = hi → val x6 = 0 ∧ val x5 = lo * U
structure LoHi (L : List Int) (lo hi : Int) : Prop where
 lo1 : lo ∈ L
 lo2 : ∀ n ∈ L,lo ≤ n
 hi1 : hi ∈ L
 hi2 : ∀ n ∈ L,n ≤ hi
theorem U_le {a b : Int} : a * U ≤ b * U ↔ a ≤ b:=⟨fun h=>Int.le_of_mul_le_mul_right h U_pos,fun h=>Int.mul_le_mul_of_nonneg_right h (by have:=U_pos;omega)⟩
theorem J.ends {L : List Int} {c : Int} {x1 x2 x3 x4 x5 x6 : Nat} (h : J L c x1 x2 x3 x4 x5 x6) (hL : Low L) {lo hi : Int} (e : LoHi L lo hi) : val x1 = lo * U ∧ val x2 = hi * U:=by
 have v : ∀ n ∈ L,val (fl n) = n * U:=fun n hn=>(whole_val (n:=n) (by have:=hL n hn;omega)).2.1
 constructor
 ·obtain ⟨x,hx,ex⟩:=h.inv.lo2;obtain ⟨n,hn,rfl⟩:=List.mem_map.1 hx;have a:=h.inv.lo (fl lo) (List.mem_map.2 ⟨lo,e.lo1,rfl⟩)
  rw [v lo e.lo1] at a
  rw [v n hn] at ex
  have b : lo * U ≤ n * U:=U_le.2 (e.lo2 n hn)
  omega
 obtain ⟨x,hx,ex⟩:=h.inv.hi2;obtain ⟨n,hn,rfl⟩:=List.mem_map.1 hx;have a:=h.inv.hi (fl hi) (List.mem_map.2 ⟨hi,e.hi1,rfl⟩)
 rw [v hi e.hi1] at a
 rw [v n hn] at ex
 have b : n * U ≤ hi * U:=U_le.2 (e.hi2 n hn)
 omega
theorem J.al {L : List Int} {c : Int} {x1 x2 x3 x4 x5 x6 : Nat} (h : J L c x1 x2 x3 x4 x5 x6) (hL : Low L) {v : Int} (e : ∀ n ∈ L,n = v) : val x6 = 0 ∧ val x5 = v * U:=by
 refine h.inv.al (v * U) ?_;intro x hx;obtain ⟨n,hn,rfl⟩:=List.mem_map.1 hx;rw [← e n hn];exact (whole_val (n:=n) (by have:=hL n hn;omega)).2.1
theorem J.wh {L : List Int} {c : Int} {x1 x2 x3 x4 x5 x6 : Nat} (h : J L c x1 x2 x3 x4 x5 x6) (hL : Low L) {lo hi : Int} (e : LoHi L lo hi) : Wh L.length L.sum lo hi c x1 x2 x3 x4 x5 x6:=by
 have f:=h.inv.fl;obtain ⟨e1,e2⟩:=h.ends hL e;have hG:=G_pos;refine ⟨by rw [h.inv.cnt,List.length_map],(f x1 (by simp)).1,(f x2 (by simp)).1,(f x3 (by simp)).1,(f x4 (by simp)).1,(f x5 (by simp)).1,(f x6 (by simp)).1,e1,e2,h.sum,h.err,?_,?_,h.inv.sq,?_⟩
 ·exact Int.le_trans (le_G (by omega)) (h.mlo lo e.lo2)
 ·exact Int.le_trans (h.mhi hi e.hi2) (le_G (by omega))
 intro g;refine h.al hL ?_;intro n hn;have:=e.lo2 n hn;have:=e.hi2 n hn
 omega
theorem wh_zero : Wh 0 0 0 0 0 0 0 0 0 0 0:=by
 have hG:=G_pos;refine ⟨rfl,fin_zero,fin_zero,fin_zero,fin_zero,fin_zero,fin_zero,?_,?_,?_,?_,?_,?_,?_,?_⟩
 ·rw [val_zero,Int.zero_mul]
 ·rw [val_zero,Int.zero_mul]
 ·rw [val_zero,Int.zero_mul]
 ·rw [val_zero,Int.zero_mul]
 ·rw [val_zero];omega
 ·rw [val_zero];omega
 ·rw [val_zero];exact Int.le_refl _
 intro _;rw [val_zero,Int.zero_mul];exact ⟨rfl,rfl⟩
theorem ne_no {x y : Nat} (hx : fin x) (hy : fin y) (h : val x = val y) : (FloatKind.f64.format.order x y != some .eq) = false:=by
 unfold bne
 rw [eq_iff hx hy,decide_eq_true h];rfl
theorem one_bits : fin 4607182418800017408 ∧ val 4607182418800017408 = 1 * U:=by
 have e : fl 1 = 4607182418800017408:=by decide +kernel
 have:=whole_val (n:=1) (by decide)
 rw [show floatOfInt .f64 1 = 4607182418800017408 from e] at this
 exact ⟨this.1,this.2.1⟩
theorem Wh.asked {n S lo hi : Int} {c : Int} {x1 x2 x3 x4 x5 x6 : Nat} (h : Wh n S lo hi c x1 x2 x3 x4 x5 x6) (bS : S.natAbs ≤ 1099511627776) (bl : lo.natAbs ≤ 1048575) (bh : hi.natAbs ≤ 1048575) :
  quarrylaw31_whole.f c x1 x2 x3 x4 x5 x6 n S lo hi = some true:=by
 obtain ⟨fS,vS,_⟩:=whole_val (n:=S) (by omega);obtain ⟨fl_,vl,_⟩:=whole_val (n:=lo) (by omega);obtain ⟨fh,vh,_⟩:=whole_val (n:=hi) (by omega);obtain ⟨f1,v1⟩:=one_bits;obtain ⟨o1,g1,w1⟩:=wsub fl_ f1 vl v1 (by omega);obtain ⟨o2,g2,w2⟩:=wadd fh f1 vh v1 (by omega);have hG:=G_pos;have hU:=U_eq;have m1:=h.mlo;have m2:=h.mhi
 have a1 : val (fop .sub (floatOfInt .f64 lo) 4607182418800017408) < val x5:=by
  rw [w1,hU,← Int.mul_assoc];refine Int.lt_of_lt_of_le ?_ m1;exact Int.mul_lt_mul_of_pos_right (by omega) hG
 have a2 : val x5 < val (fop .add (floatOfInt .f64 hi) 4607182418800017408):=by
  rw [w2,hU,← Int.mul_assoc];refine Int.lt_of_le_of_lt m2 ?_;exact Int.mul_lt_mul_of_pos_right (by omega) hG
 unfold quarrylaw31_whole.f
 rw [if_pos h.cnt,ne_no h.fl3 fS (by rw [h.sum,vS]),if_neg (by decide),ne_no h.fl4 fin_zero (by rw [h.err,val_zero,Int.zero_mul]),if_neg (by decide),ne_no h.fl1 fl_ (by rw [h.lo1,vl]),if_neg (by decide),ne_no h.fl2 fh (by rw [h.hi2,vh]),if_neg (by decide),
  lt_iff h.fl6 fin_zero,val_zero,decide_eq_false (by have:=h.sq;omega),if_neg (by decide),if_pos o1,gt_iff h.fl5 g1,decide_eq_true a1,if_pos rfl,if_pos o2,lt_iff h.fl5 g2,decide_eq_true a2,if_pos rfl]
 by_cases g : lo = hi
 ·obtain ⟨z,m⟩:=h.al g;rw [if_pos g,eq_iff h.fl6 fin_zero,val_zero,decide_eq_true z,if_pos rfl,eq_iff h.fl5 fl_,decide_eq_true (by rw [m,vl])]
 rw [if_neg g]
end Go.Proofs.Ytijmdmnhbbcahaa.QWholeTallyWhole
namespace Go.Proofs.Ytijmdmnhbbcahaa.QWholeTallyWhole
open Go.RowKit Go.Proofs.Ytijmdmnhbbcahaa.PTallyWhole Go.Proofs.YtijmdmnhbbcahaaW.PrintWords Go.Proofs.YtijmdmnhbbcahaaW.PrintLast Go.Proofs.Ytijmdmnhbbcahaa.QFloTallyWhole Go.Proofs.Ytijmdmnhbbcahaa.QFloBTallyWhole Go.Proofs.Ytijmdmnhbbcahaa.QTalTallyWhole Go.Proofs.Ytijmdmnhbbcahaa.QFormTallyWhole Go.Proofs.Ytijmdmnhbbcahaa.QFloCTallyWhole Go.Proofs.Ytijmdmnhbbcahaa.QStepsTallyWhole Go.Proofs.Ytijmdmnhbbcahaa.QGridTallyWhole
set_option linter.unusedVariables false
set_option linter.unusedSimpArgs false
open Ieee
theorem near_nil {num v : Int} {den : Nat} (h : Near num den v) (e : num = 0) : v = 0:=by
 have q:=near_tw h (a:=0) (j:=0) (by decide) (by decide)
 rw [Int.zero_mul,Int.zero_mul,e] at q
 exact Int.le_antisymm (q.1 (Int.le_refl _)) (q.2 (Int.le_refl _))
theorem near_pos {num v : Int} {den : Nat} (h : Near num den v) (e : 0 ≤ num) : 0 ≤ v:=by
 have q:=near_tw h (a:=0) (j:=0) (by decide) (by decide)
 rw [Int.zero_mul,Int.zero_mul] at q
 exact q.2 e
theorem natAbs_of {z : Int} {b : Nat} (h0 : 0 ≤ z) (h1 : z ≤ (b : Int)) : z.natAbs ≤ b:=by omega
theorem tw2 (i j : Nat) : (tw (i + j) : Int) = (tw i : Int) * (tw j : Int):=by rw [tw_add,Int.natCast_mul]
theorem share_near {n N : Int} (h1 : 1 ≤ n) (h2 : n ≤ N) (h3 : N ≤ 65536) : fok .quo (floatOfInt .f64 n) (floatOfInt .f64 N) = true ∧ fin (fop .quo (floatOfInt .f64 n) (floatOfInt .f64 N)) ∧ 0 ≤ val (fop .quo (floatOfInt .f64 n) (floatOfInt .f64 N)) ∧ val (fop .quo (floatOfInt .f64 n) (floatOfInt .f64 N)) ≤ U:=by
 obtain ⟨fn,vn,ln⟩:=whole_val (n:=n) (by omega);obtain ⟨fN,vN,lN⟩:=whole_val (n:=N) (by omega);have hU:=U_pos
 have hN1 : U ≤ N * U:=by have:=Int.mul_le_mul_of_nonneg_right (show (1 : Int) ≤ N by omega) (show (0 : Int) ≤ U by omega);rw [Int.one_mul] at this;exact this
 have hn0 : 0 ≤ n * U:=Int.mul_nonneg (by omega) (by omega);have hnN : n * U ≤ N * U:=Int.mul_le_mul_of_nonneg_right h2 (by omega)
 have pN : 0 < val (floatOfInt .f64 N):=by omega
 have pn : 0 < val (floatOfInt .f64 n):=by
  have:=Int.mul_le_mul_of_nonneg_right h1 (show (0 : Int) ≤ U by omega);rw [Int.one_mul] at this;omega
 obtain ⟨_,m1⟩:=mag_pos pN;obtain ⟨_,m2⟩:=mag_pos pn
 have hmag : mag (floatOfInt .f64 n) ≤ mag (floatOfInt .f64 N):=by omega
 obtain ⟨o,g,q⟩:=quo_near fn fN pN (by
  have:=Nat.mul_le_mul hmag (tw_le (show 1074 ≤ 1500 by decide));rw [Nat.mul_comm (tw 1500)]
  omega)
 refine ⟨o,g,near_pos q (Int.mul_nonneg (by omega) (by omega)),?_⟩;have a:=(near_tw q (a:=1) (j:=1074) (by decide) (by decide)).1
 rw [Int.one_mul,Int.one_mul,← m1] at a
 refine a ?_;rw [Int.mul_comm];exact Int.mul_le_mul_of_nonneg_left (by omega) (by omega)
theorem join_main {P Q : List Int} {c d : Int} {x1 x2 x3 x4 x5 x6 y1 y2 y3 y4 y5 y6 : Nat} (h : J P c x1 x2 x3 x4 x5 x6) (g : J Q d y1 y2 y3 y4 y5 y6) (hP : Low P) (hQ : Low Q) (hl : P.length + Q.length ≤ 65536)
  {lo hi : Int} (E : LoHi (P ++ Q) lo hi) {k : Nat} (hk : 11 ≤ k) :
  ∃ r : Int × Nat × Nat × Nat × Nat × Nat × Nat × Int,tally_Join.f k c x1 x2 x3 x4 x5 x6 d y1 y2 y3 y4 y5 y6 = some r ∧ r.2.2.2.2.2.2.2 = 0 ∧
   Wh ((P.length : Int) + Q.length) (P.sum + Q.sum) lo hi r.1 r.2.1 r.2.2.1 r.2.2.2.1 r.2.2.2.2.1 r.2.2.2.2.2.1 r.2.2.2.2.2.2.1:=by
 have I:=h.inv;have f:=I.fl;have hc:=I.pos;have hcn:=I.cnt
 rw [List.length_map] at hcn
 have I2:=g.inv;have f':=I2.fl;have hd:=I2.pos;have hdn:=I2.cnt
 rw [List.length_map] at hdn
 have fx1:=(f x1 (by simp)).1;have fx2:=(f x2 (by simp)).1;have fx3:=(f x3 (by simp)).1;have fx4:=(f x4 (by simp)).1;have fx5:=(f x5 (by simp)).1;have fx6:=(f x6 (by simp)).1;have fy1:=(f' y1 (by simp)).1;have fy2:=(f' y2 (by simp)).1;have fy3:=(f' y3 (by simp)).1;have fy4:=(f' y4 (by simp)).1;have fy5:=(f' y5 (by simp)).1;have fy6:=(f' y6 (by simp)).1;have lx1:=(f x1 (by simp)).2;have lx2:=(f x2 (by simp)).2;have ly1:=(f' y1 (by simp)).2;have ly2:=(f' y2 (by simp)).2;clear f f';have hG:=G_pos;have hU:=U_pos;have hUG:=U_eq;have sP:=sum_abs hP;have sQ:=sum_abs hQ
 have bl : lo.natAbs ≤ 1048575:=by
  rcases List.mem_append.1 E.lo1 with q|q
  ·exact hP _ q
  exact hQ _ q
 have bh : hi.natAbs ≤ 1048575:=by
  rcases List.mem_append.1 E.hi1 with q|q
  ·exact hP _ q
  exact hQ _ q
 obtain ⟨mn,hmn,fmn,lmn,vmn⟩ : ∃ mn,mn = (if (FloatKind.f64.format.order y1 x1 == some .lt) = true then y1 else x1) ∧ fin mn ∧ mn < 18446744073709551616 ∧ val mn = lo * U:=by
  refine ⟨_,rfl,?_⟩
  have vP : ∀ n ∈ P,val (fl n) = n * U:=fun n hn=>(whole_val (n:=n) (by have:=hP n hn;omega)).2.1
  have vQ : ∀ n ∈ Q,val (fl n) = n * U:=fun n hn=>(whole_val (n:=n) (by have:=hQ n hn;omega)).2.1
  have a1 : lo * U ≤ val x1:=by
   obtain ⟨x,hx,ex⟩:=I.lo2;obtain ⟨n,hn,rfl⟩:=List.mem_map.1 hx;rw [← ex,vP n hn];exact U_le.2 (E.lo2 n (by simp [hn]))
  have a2 : lo * U ≤ val y1:=by
   obtain ⟨x,hx,ex⟩:=I2.lo2;obtain ⟨n,hn,rfl⟩:=List.mem_map.1 hx;rw [← ex,vQ n hn];exact U_le.2 (E.lo2 n (by simp [hn]))
  have a3 : val x1 ≤ lo * U ∨ val y1 ≤ lo * U:=by
   rcases List.mem_append.1 E.lo1 with q|q
   ·exact .inl (by rw [← vP lo q];exact I.lo _ (List.mem_map.2 ⟨lo,q,rfl⟩))
   exact .inr (by rw [← vQ lo q];exact I2.lo _ (List.mem_map.2 ⟨lo,q,rfl⟩))
  rw [lt_iff fy1 fx1]
  by_cases q : val y1 < val x1
  ·rw [decide_eq_true q,if_pos rfl];exact ⟨fy1,ly1,by omega⟩
  rw [decide_eq_false q,if_neg (by decide)];exact ⟨fx1,lx1,by omega⟩
 obtain ⟨mx,hmx,fmx,lmx,vmx⟩ : ∃ mx,mx = (if (FloatKind.f64.format.order y2 x2 == some .gt) = true then y2 else x2) ∧ fin mx ∧ mx < 18446744073709551616 ∧ val mx = hi * U:=by
  refine ⟨_,rfl,?_⟩
  have vP : ∀ n ∈ P,val (fl n) = n * U:=fun n hn=>(whole_val (n:=n) (by have:=hP n hn;omega)).2.1
  have vQ : ∀ n ∈ Q,val (fl n) = n * U:=fun n hn=>(whole_val (n:=n) (by have:=hQ n hn;omega)).2.1
  have a1 : val x2 ≤ hi * U:=by
   obtain ⟨x,hx,ex⟩:=I.hi2;obtain ⟨n,hn,rfl⟩:=List.mem_map.1 hx;rw [← ex,vP n hn];exact U_le.2 (E.hi2 n (by simp [hn]))
  have a2 : val y2 ≤ hi * U:=by
   obtain ⟨x,hx,ex⟩:=I2.hi2;obtain ⟨n,hn,rfl⟩:=List.mem_map.1 hx;rw [← ex,vQ n hn];exact U_le.2 (E.hi2 n (by simp [hn]))
  have a3 : hi * U ≤ val x2 ∨ hi * U ≤ val y2:=by
   rcases List.mem_append.1 E.hi1 with q|q
   ·exact .inl (by rw [← vP hi q];exact I.hi _ (List.mem_map.2 ⟨hi,q,rfl⟩))
   exact .inr (by rw [← vQ hi q];exact I2.hi _ (List.mem_map.2 ⟨hi,q,rfl⟩))
  rw [gt_iff fy2 fx2]
  by_cases q : val x2 < val y2
  ·rw [decide_eq_true q,if_pos rfl];exact ⟨fy2,ly2,by omega⟩
  rw [decide_eq_false q,if_neg (by decide)];exact ⟨fx2,lx2,by omega⟩
 obtain ⟨o0,g3,v3⟩:=wadd fx3 fy3 h.sum g.sum (by omega);obtain ⟨o1,g4a,v4a⟩:=wadd fx4 fy4 h.err g.err (by decide);obtain ⟨lt_,flt,vlt,e4⟩:=lost_zero fx3 fy3 g3 h.sum g.sum v3 (by omega) (by omega);obtain ⟨o2,g4,v4⟩:=wadd g4a flt v4a vlt (by decide);obtain ⟨m1,m2⟩:=h.mean hP;obtain ⟨m3,m4⟩:=g.mean hQ;have xlo:=h.mlo lo (fun n hn=>E.lo2 n (by simp [hn]));have xhi:=h.mhi hi (fun n hn=>E.hi2 n (by simp [hn]));have ylo:=g.mlo lo (fun n hn=>E.lo2 n (by simp [hn]));have yhi:=g.mhi hi (fun n hn=>E.hi2 n (by simp [hn]));have d1 : (val y5 - val x5).natAbs ≤ tw (52 + 1043):=abs_G (by rw [tw52];omega) (by rw [tw52];omega);obtain ⟨o3,gd,nd⟩:=sub_near fy5 fx5 (room_tw (j:=52 + 1043) (by decide) (by have:=tw_pos (52 + 1043);omega))
 obtain ⟨D,hD⟩ : ∃ D,D = fop .sub y5 x5:=⟨_,rfl⟩
 rw [← hD] at gd nd
 have ad:=near_abs nd (j:=52 + 1043) (by decide) (by rw [Nat.mul_one];exact d1);obtain ⟨o4,gs,s0,s1⟩:=share_near (n:=d) (N:=c + d) hd (by omega) (by omega)
 obtain ⟨s,hs⟩ : ∃ s,s = fop .quo (floatOfInt .f64 d) (floatOfInt .f64 (c + d)):=⟨_,rfl⟩
 rw [← hs] at gs s0 s1
 have aU : U = (tw 1074 : Int):=rfl
 have hds : (val D * val s).natAbs ≤ tw (52 + 1043) * tw 1074:=by
  rw [Int.natAbs_mul];exact Nat.mul_le_mul ad (natAbs_of s0 (by omega))
 obtain ⟨o5,gt,nt⟩:=mul_near gd gs (by
  rw [← tw_add] at hds
  exact Nat.le_trans hds (Nat.le_trans (tw_le (by decide)) (Nat.le_mul_of_pos_left _ (by decide))))
 obtain ⟨t,ht⟩ : ∃ t,t = fop .mul D s:=⟨_,rfl⟩
 rw [← ht] at gt nt
 have st:=near_sh_mul nt s0 s1;have at1:=(st 4503599627370496 1043 (by decide) (by decide) (by decide)).1;have at2:=(st 4503599627370496 1043 (by decide) (by decide) (by decide)).2
 have ead : (tw (52 + 1043) : Int) = 4503599627370496 * (tw 1043 : Int):=by rw [tw2,tw52]
 have at3 : val t ≤ 4503599627370496 * G:=at1 (by omega);have at4 : -(4503599627370496 * G) ≤ val t:=at2 (by omega)
 have e53 : (tw (53 + 1043) : Int) = 9007199254740992 * G:=by rw [tw2,show (tw 53 : Int) = 9007199254740992 by rw [tw_eq];rfl];rfl
 obtain ⟨o6,gM,nM⟩:=add_near fx5 gt (room_tw (j:=53 + 1043) (by decide) (by omega))
 obtain ⟨M,hM⟩ : ∃ M,M = fop .add x5 t:=⟨_,rfl⟩
 rw [← hM] at gM nM
 have bM : (lo * 2147483648 - 2) * G ≤ val M ∧ val M ≤ (hi * 2147483648 + 2) * G:=by
  refine mean_step nd st nM (Int.le_trans (le_G (by omega)) xlo) (Int.le_trans xhi (le_G (by omega))) ?_ ?_ (by omega) (by omega)
  ·rw [show (lo * 2147483648 - 2) * G + G = (lo * 2147483648 - 1) * G by rw [Int.sub_mul,Int.sub_mul];omega];exact ylo
  rw [show (hi * 2147483648 + 2) * G - G = (hi * 2147483648 + 1) * G by rw [Int.add_mul,Int.add_mul];omega];exact yhi
 have q1:=I.sq;have q2:=I2.sq;have q3:=h.sq;have q4:=g.sq;have hT:=tw_pos 1119
 have q5 : (P.length : Int) * (tw 1119 : Int) + (Q.length : Int) * (tw 1119 : Int) ≤ 65536 * (tw 1119 : Int):=by rw [← Int.add_mul];exact Int.mul_le_mul_of_nonneg_right (by omega) (by omega)
 obtain ⟨o7,gA,nA⟩:=add_near fx6 fy6 (room_tw (j:=1119) (by decide) (by omega))
 obtain ⟨A,hA⟩ : ∃ A,A = fop .add x6 y6:=⟨_,rfl⟩
 rw [← hA] at gA nA
 have pA:=near_pos nA (by omega);have uA : val A ≤ 65536 * (tw 1119 : Int):=(near_one nA (a:=65536) (j:=1119) (by decide) (by decide)).1 (by omega)
 have hdd : (val D * val D).natAbs ≤ tw (1116 + 1074):=by
  rw [Int.natAbs_mul,show 1116 + 1074 = (52 + 1043) + (52 + 1043) from rfl,tw_add (52 + 1043)];exact Nat.mul_le_mul ad ad
 obtain ⟨o8,gB,nB⟩:=mul_near gd gd (Nat.le_trans hdd (Nat.le_trans (tw_le (by decide)) (Nat.le_mul_of_pos_left _ (by decide))))
 obtain ⟨B,hB⟩ : ∃ B,B = fop .mul D D:=⟨_,rfl⟩
 rw [← hB] at gB nB
 rw [tw_add] at hdd
 have aB:=near_abs nB (j:=1116) (by decide) (by exact hdd)
 have pB:=near_pos nB (by
  by_cases z : 0 ≤ val D
  ·exact Int.mul_nonneg z z
  exact Int.mul_nonneg_of_nonpos_of_nonpos (by omega) (by omega))
 obtain ⟨fc,vc,lc⟩:=whole_val (n:=c) (by omega);have hc0 : 0 ≤ c * U:=Int.mul_nonneg (by omega) (by omega);have hcu : c * U ≤ 65536 * U:=Int.mul_le_mul_of_nonneg_right (by omega) (by omega)
 have e16 : (tw (16 + 1074) : Int) = 65536 * U:=by rw [tw2,show (tw 16 : Int) = 65536 by rw [tw_eq];rfl];rfl
 have hcs : (val (floatOfInt .f64 c) * val s).natAbs ≤ tw (16 + 1074) * tw 1074:=by
  rw [Int.natAbs_mul,vc];exact Nat.mul_le_mul (natAbs_of hc0 (by omega)) (natAbs_of s0 (by omega))
 obtain ⟨o9,gC,nC⟩:=mul_near fc gs (by
  rw [← tw_add] at hcs
  exact Nat.le_trans hcs (Nat.le_trans (tw_le (by decide)) (Nat.le_mul_of_pos_left _ (by decide))))
 obtain ⟨C,hC⟩ : ∃ C,C = fop .mul (floatOfInt .f64 c) s:=⟨_,rfl⟩
 rw [← hC] at gC nC
 have pC:=near_pos nC (by rw [vc];exact Int.mul_nonneg hc0 s0);have aC:=near_abs nC (j:=16 + 1074) (by decide) (by exact hcs)
 have hbc : (val B * val C).natAbs ≤ tw 1132 * tw 1074:=by
  rw [Int.natAbs_mul,← tw_add,show 1132 + 1074 = 1116 + (16 + 1074) from rfl,tw_add 1116];exact Nat.mul_le_mul aB aC
 obtain ⟨oa,gF,nF⟩:=mul_near gB gC (by
  rw [← tw_add] at hbc
  exact Nat.le_trans hbc (Nat.le_trans (tw_le (by decide)) (Nat.le_mul_of_pos_left _ (by decide))))
 obtain ⟨F,hF⟩ : ∃ F,F = fop .mul B C:=⟨_,rfl⟩
 rw [← hF] at gF nF
 have pF:=near_pos nF (Int.mul_nonneg pB pC);have aF:=near_abs nF (j:=1132) (by decide) (by exact hbc)
 have e32 : (tw (13 + 1119) : Int) = 8192 * (tw 1119 : Int):=by rw [tw2,show (tw 13 : Int) = 8192 by rw [tw_eq];rfl]
 have aF2 : val F ≤ 8192 * (tw 1119 : Int):=by
  have : val F ≤ ((tw (13 + 1119) : Nat) : Int):=by
   have e : 13 + 1119 = 1132:=rfl;rw [e];omega
  omega
 obtain ⟨ob,gS,nS⟩:=add_near gA gF (room_tw (j:=1119) (by decide) (natAbs_of (by omega) (by rw [Int.natCast_mul];omega)))
 obtain ⟨SQ,hSQ⟩ : ∃ SQ,SQ = fop .add A F:=⟨_,rfl⟩
 rw [← hSQ] at gS nS
 have pS:=near_pos nS (by omega);refine ⟨(c + d,mn,mx,fop .add x3 y3,fop .add (fop .add x4 y4) lt_,M,SQ,0),?_,rfl,?_⟩
 ·obtain ⟨k,rfl⟩ : ∃ k',k = k' + 3:=⟨k - 3,by omega⟩
  have w1 : wrap64 (4611686018427387904 - d) = 4611686018427387904 - d:=w64 _ (by omega) (by omega);have w2 : wrap64 (c + d) = c + d:=w64 _ (by omega) (by omega)
  unfold tally_Join.f
  rw [I.formed (by rw [List.length_map];omega) (by omega),Option.bind_some,if_pos rfl,I2.formed (by rw [List.length_map];omega) (by omega),Option.bind_some]
  have step2 : ∀ u1 u2,u1 = mn → u2 = mx → tally_Join.j2 (k + 1) c x1 x2 x3 x4 x5 x6 d y1 y2 y3 y4 y5 y6 (c + d) u1 u2 (fop .add x3 y3) 0 0 0 = some (c + d,mn,mx,fop .add x3 y3,fop .add (fop .add x4 y4) lt_,M,SQ,0):=by
   intro u1 u2 z1 z2;subst z1 z2
   rw [tally_Join.j2,if_pos o1,e4,Option.bind_some,if_pos o2,if_pos o3,← hD,if_pos o4,← hs,if_pos o5,← ht,if_pos o6,← hM,if_pos o7,← hA,if_pos o8,← hB,if_pos o9,← hC,if_pos oa,← hF,if_pos ob,← hSQ,
    sound_eq (by omega) (by omega) lmn lmx fop_lt fop_lt (by rw [hM];exact fop_lt) (by rw [hSQ];exact fop_lt),Option.bind_some,decide_eq_true ?_]
   ·rfl
   intro x hx
   simp only [List.mem_cons,List.not_mem_nil,or_false] at hx
   rcases hx with rfl|rfl|rfl|rfl|rfl|rfl
   ·exact fmn
   ·exact fmx
   ·exact g3
   ·exact g4
   ·exact gM
   exact gS
  have step1 : ∀ u1,u1 = mn → tally_Join.j1 (k + 2) c x1 x2 x3 x4 x5 x6 d y1 y2 y3 y4 y5 y6 (c + d) u1 x2 (fop .add x3 y3) 0 0 0 = some (c + d,mn,mx,fop .add x3 y3,fop .add (fop .add x4 y4) lt_,M,SQ,0):=by
   intro u1 z1;rw [tally_Join.j1]
   by_cases q : (FloatKind.f64.format.order y2 x2 == some .gt) = true
   ·rw [if_pos q] at hmx;rw [if_pos q];exact step2 _ _ z1 hmx.symm
   rw [if_neg q] at hmx;rw [if_neg q];exact step2 _ _ z1 hmx.symm
  rw [tally_Join.j0,if_neg (by decide),if_neg (by omega),if_neg (by omega),if_pos o0,w1,if_neg (by omega),w2]
  by_cases q : (FloatKind.f64.format.order y1 x1 == some .lt) = true
  ·rw [if_pos q] at hmn;rw [if_pos q];exact step1 _ hmn.symm
  rw [if_neg q] at hmn;rw [if_neg q];exact step1 _ hmn.symm
 refine ⟨by show c + d = _;omega,fmn,fmx,g3,g4,gM,gS,vmn,vmx,v3,by show val (fop .add (fop .add x4 y4) lt_) = _;rw [v4];rfl,bM.1,bM.2,pS,?_⟩;intro e
 have alP : ∀ n ∈ P,n = lo:=fun n hn=>by have:=E.lo2 n (by simp [hn]);have:=E.hi2 n (by simp [hn]);omega
 have alQ : ∀ n ∈ Q,n = lo:=fun n hn=>by have:=E.lo2 n (by simp [hn]);have:=E.hi2 n (by simp [hn]);omega
 obtain ⟨z1,z2⟩:=h.al hP alP;obtain ⟨z3,z4⟩:=g.al hQ alQ;have zD : val D = 0:=near_nil nd (by omega);have zt : val t = 0:=near_nil nt (by rw [zD,Int.zero_mul]);have zA : val A = 0:=near_nil nA (by omega);have zB : val B = 0:=near_nil nB (by rw [zD,Int.zero_mul]);have zF : val F = 0:=near_nil nF (by rw [zB,Int.zero_mul]);exact ⟨near_nil nS (by omega),near_U nM (by omega) (by rw [z2,zt,Int.add_zero])⟩
end Go.Proofs.Ytijmdmnhbbcahaa.QWholeTallyWhole
namespace Go.Proofs.Ytijmdmnhbbcahaa.QWholeTallyWhole
open Go.RowKit Go.Proofs.Ytijmdmnhbbcahaa.PTallyWhole Go.Proofs.YtijmdmnhbbcahaaW.PrintWords Go.Proofs.YtijmdmnhbbcahaaW.PrintLast Go.Proofs.Ytijmdmnhbbcahaa.QFloTallyWhole Go.Proofs.Ytijmdmnhbbcahaa.QFloBTallyWhole Go.Proofs.Ytijmdmnhbbcahaa.QTalTallyWhole Go.Proofs.Ytijmdmnhbbcahaa.QFormTallyWhole Go.Proofs.Ytijmdmnhbbcahaa.QFloCTallyWhole Go.Proofs.Ytijmdmnhbbcahaa.QStepsTallyWhole Go.Proofs.Ytijmdmnhbbcahaa.QGridTallyWhole
set_option linter.unusedVariables false
set_option linter.unusedSimpArgs false
open Ieee
theorem fin_flip {x : Nat} (h : fin x) : fin (Op.negFloat .f64 x):=by unfold fin at *;rw [(neg_flip x).1];exact h
theorem turn_whole {a : Int} (ha : a.natAbs ≤ 1048575) (m : Int) : ∃ t1 t2 : Int,fin (turnV (fl a) m).1 ∧ fin (turnV (fl a) m).2 ∧ val (turnV (fl a) m).1 = t1 * U ∧ val (turnV (fl a) m).2 = t2 * U ∧ t1.natAbs ≤ 1048575 ∧ t2.natAbs ≤ 1048575 ∧ (m = 0 → t1 = a ∧ t2 = 0) ∧ (m = 2 → t2 = 0):=by
 obtain ⟨fa,va,la⟩:=whole_val (n:=a) (by omega)
 have v0 : val 0 = 0 * U:=by rw [val_zero,Int.zero_mul]
 have vf : val (Op.negFloat .f64 (fl a)) = -a * U:=by rw [val_flip,va,Int.neg_mul]
 unfold turnV
 by_cases h0 : m = 0
 ·rw [if_pos h0];exact ⟨a,0,fa,fin_zero,va,v0,ha,by decide,fun _=>⟨rfl,rfl⟩,fun _=>rfl⟩
 rw [if_neg h0]
 by_cases h1 : m = 1
 ·rw [if_pos h1];exact ⟨0,-a,fin_zero,fin_flip fa,v0,vf,by decide,by omega,fun e=>absurd e h0,fun e=>by omega⟩
 rw [if_neg h1]
 by_cases h2 : m = 2
 ·rw [if_pos h2];exact ⟨-a,0,fin_flip fa,fin_zero,vf,v0,by omega,by decide,fun e=>absurd e h0,fun _=>rfl⟩
 rw [if_neg h2];exact ⟨0,a,fin_zero,fa,v0,va,by decide,ha,fun e=>absurd e h0,fun e=>absurd e h2⟩
theorem tone_run {n : Nat} : ∀ (L : List Int) (j : Nat) (acc : Nat × Nat) (X Y : Int) (b : Nat),Low L → fin acc.1 → fin acc.2 → acc.1 < 18446744073709551616 → acc.2 < 18446744073709551616 → val acc.1 = X * U → val acc.2 = Y * U → X.natAbs ≤ b → Y.natAbs ≤ b → b + L.length * 1048575 ≤ 4503599627370496 →
  ∃ p,toneSum n (L.map fl) j acc = some p ∧ fin p.1 ∧ fin p.2 ∧ p.1 < 18446744073709551616 ∧ p.2 < 18446744073709551616 ∧ (n = 0 → val p.1 = (X + L.sum) * U ∧ val p.2 = Y * U) ∧ (n = 2 → val p.2 = Y * U)
 | [],j,acc,X,Y,b,hL,f1,f2,l1,l2,v1,v2,b1,b2,hb=>⟨acc,rfl,f1,f2,l1,l2,fun _=>⟨by rw [List.sum_nil,Int.add_zero];exact v1,v2⟩,fun _=>v2⟩
 | a :: L,j,acc,X,Y,b,hL,f1,f2,l1,l2,v1,v2,b1,b2,hb=>by
  have ha : a.natAbs ≤ 1048575:=hL a (by simp)
  rw [List.length_cons,Nat.add_mul] at hb
  obtain ⟨m,hm⟩ : ∃ m : Int,m = ((n : Int) * ((j : Int) % 4)) % 4:=⟨_,rfl⟩
  obtain ⟨t1,t2,g1,g2,w1,w2,c1,c2,e1,e2⟩:=turn_whole ha m;obtain ⟨o1,h1,u1⟩:=wadd f1 g1 v1 w1 (by omega);obtain ⟨o2,h2,u2⟩:=wadd f2 g2 v2 w2 (by omega);obtain ⟨p,q1,q2,q3,q4,q5,q6,q7⟩:=tone_run L (j + 1) (fop .add acc.1 (turnV (fl a) m).1,fop .add acc.2 (turnV (fl a) m).2) (X + t1) (Y + t2) (b + 1048575) (fun x hx=>hL x (by simp [hx])) h1 h2 fop_lt fop_lt u1 u2 (by omega) (by omega) (by omega);refine ⟨p,?_,q2,q3,q4,q5,?_,?_⟩
  ·show toneSum n (fl a :: L.map fl) j acc = some p
   rw [toneSum,← hm,if_pos o1,if_pos o2];exact q1
  ·intro hn;subst hn;obtain ⟨z1,z2⟩:=e1 (by rw [hm];simp);obtain ⟨r1,r2⟩:=q6 rfl
   rw [z1] at r1
   rw [z2] at r2
   rw [List.sum_cons,← Int.add_assoc];exact ⟨r1,by rw [r2,Int.add_zero]⟩
  intro hn;have r:=q7 hn
  have z2 : t2 = 0:=by
   have hc : m = 0 ∨ m = 2:=by subst hn;omega
   rcases hc with hc|hc
   ·exact (e1 hc).2
   exact e2 hc
  rw [r,z2,Int.add_zero]
theorem pair_fin {k : Nat} {p : Nat × Nat} (hk : 2 < k) (f1 : fin p.1) (f2 : fin p.2) (l1 : p.1 < 18446744073709551616) (l2 : p.2 < 18446744073709551616) : tally_finite.f k [p.1,p.2] = some true:=by
 rw [tf_eq [p.1,p.2] k (by simp;omega) (by simp) (by intro x hx;simp only [List.mem_cons,List.not_mem_nil,or_false] at hx;rcases hx with rfl|rfl <;> assumption)];rw [decide_eq_true (by intro x hx;simp only [List.mem_cons,List.not_mem_nil,or_false] at hx;rcases hx with rfl|rfl <;> assumption)]
theorem tones_whole {L : List Int} (hL : Low L) (hl : L.length ≤ 65536) {k : Nat} (hk : L.length + 3 ≤ k) :
  ∃ p0 p1 p2 p3 : Nat × Nat,tally_Tones.f k (L.map fl) = some (p0,p1,p2,p3,0) ∧ fin p0.1 ∧ fin p0.2 ∧ fin p2.2 ∧ val p0.1 = L.sum * U ∧ val p0.2 = 0 ∧ val p2.2 = 0:=by
 have z : val 0 = 0 * U:=by rw [val_zero,Int.zero_mul]
 have run:=fun n=>tone_run (n:=n) L 0 (0,0) 0 0 0 hL fin_zero fin_zero (by decide) (by decide) z z (by decide) (by decide) (by omega)
 obtain ⟨p0,a1,a2,a3,a4,a5,a6,a7⟩:=run 0;obtain ⟨p1,b1,b2,b3,b4,b5,b6,b7⟩:=run 1;obtain ⟨p2,c1,c2,c3,c4,c5,c6,c7⟩:=run 2;obtain ⟨p3,d1,d2,d3,d4,d5,d6,d7⟩:=run 3;refine ⟨p0,p1,p2,p3,?_,a2,a3,c3,by rw [(a6 rfl).1,Int.zero_add],by rw [(a6 rfl).2,Int.zero_mul],by rw [c7 rfl,Int.zero_mul]⟩
 have e : tally_Tones.ps k (L.map fl) = some ([p0,p1,p2,p3],0):=by
  unfold tally_Tones.ps
  rw [tf_eq _ k (by rw [List.length_map];omega) (by rw [List.length_map];omega) (fun x hx=>(fl_fin hL x hx).2),Option.bind_some,if_pos (decide_eq_true (fun x hx=>(fl_fin hL x hx).1))];rw [tonesGo]
  show ((toneSum 0 (L.map fl) 0 (0,0)).bind fun p=>_) = _
  rw [a1,Option.bind_some,pair_fin (by omega) a2 a3 a4 a5,Option.bind_some,if_pos rfl,tonesGo]
  show ((toneSum 1 (L.map fl) 0 (0,0)).bind fun p=>_) = _
  rw [b1,Option.bind_some,pair_fin (by omega) b2 b3 b4 b5,Option.bind_some,if_pos rfl,tonesGo]
  show ((toneSum 2 (L.map fl) 0 (0,0)).bind fun p=>_) = _
  rw [c1,Option.bind_some,pair_fin (by omega) c2 c3 c4 c5,Option.bind_some,if_pos rfl,tonesGo]
  show ((toneSum 3 (L.map fl) 0 (0,0)).bind fun p=>_) = _
  rw [d1,Option.bind_some,pair_fin (by omega) d2 d3 d4 d5,Option.bind_some,if_pos rfl,tonesGo];rfl
 unfold tally_Tones.f
 rw [e,Option.bind_some];rfl
end Go.Proofs.Ytijmdmnhbbcahaa.QWholeTallyWhole
namespace Go.Proofs.Ytijmdmnhbbcahaa.Pure
open Go.RowKit Go.Proofs.Ytijmdmnhbbcahaa.PTallyWhole Go.Proofs.YtijmdmnhbbcahaaW.PrintWords Go.Proofs.YtijmdmnhbbcahaaW.PrintLast Go.Proofs.Ytijmdmnhbbcahaa.QFloTallyWhole Go.Proofs.Ytijmdmnhbbcahaa.QFloBTallyWhole Go.Proofs.Ytijmdmnhbbcahaa.QTalTallyWhole Go.Proofs.Ytijmdmnhbbcahaa.QFormTallyWhole Go.Proofs.Ytijmdmnhbbcahaa.QFloCTallyWhole Go.Proofs.Ytijmdmnhbbcahaa.QStepsTallyWhole Go.Proofs.Ytijmdmnhbbcahaa.QGridTallyWhole Go.Proofs.Ytijmdmnhbbcahaa.QWholeTallyWhole
set_option linter.unusedVariables false
set_option linter.unusedSimpArgs false
open Ieee
theorem tmod_lt {a b : Int} (h : 0 < b) : -b < Int.tmod a b ∧ Int.tmod a b < b:=⟨Int.lt_tmod_of_pos a h,Int.tmod_lt_of_pos a h⟩
theorem pick_eq (a : Int) {n : Nat} (h : n ≤ 65536) : ∃ x : Int,quarrykit_Pick.f a (wrap64 ((n : Int) + 1)) = some x ∧ 0 ≤ x ∧ x ≤ n:=by
 rw [w64 _ (by omega) (by omega)]
 unfold quarrykit_Pick.f
 obtain ⟨h1,h2⟩:=tmod_lt (a:=a) (show (0 : Int) < (n : Int) + 1 by omega)
 generalize Int.tmod a ((n : Int) + 1) = t at *
 rw [if_neg (by omega)]
 by_cases g : t < 0
 ·rw [if_pos g,w64 _ (by omega) (by omega)];exact ⟨_,rfl,by omega,by omega⟩
 rw [if_neg g];exact ⟨_,rfl,by omega,by omega⟩
abbrev cut20 (z : Int) : Int:=Int.tmod z 1048576
theorem low_cut (l : List Int) : Low (l.map cut20):=by
 intro n hn;obtain ⟨z,_,rfl⟩:=List.mem_map.1 hn;have:=tmod_lt (a:=z) (b:=1048576) (by decide)
 show (Int.tmod z 1048576).natAbs ≤ 1048575
 omega
def LoHi0 (L : List Int) (lo hi : Int) : Prop:=(L = [] ∧ lo = 0 ∧ hi = 0) ∨ LoHi L lo hi
theorem ends_step {L : List Int} {lo hi v : Int} (h : LoHi L lo hi) : LoHi (L ++ [v]) (if v < lo then v else lo) (if v > hi then v else hi):=by
 refine ⟨?_,?_,?_,?_⟩
 ·split <;> simp [h.lo1]
 ·intro n hn
  rw [List.mem_append,List.mem_singleton] at hn
  rcases hn with hn|rfl
  ·have:=h.lo2 n hn;split <;> omega
  split <;> omega
 ·split <;> simp [h.hi1]
 intro n hn
 rw [List.mem_append,List.mem_singleton] at hn
 rcases hn with hn|rfl
 ·have:=h.hi2 n hn;split <;> omega
 split <;> omega
theorem ends_one (v : Int) : LoHi [v] v v:=⟨by simp,by intro n hn;simp at hn;omega,by simp,by intro n hn;simp at hn;omega⟩
theorem rd_int {l : List Int} {i : Nat} (h : i < l.length) : rd l (i : Int) = l[i]:=by unfold rd;simp [h]
theorem take_nil {M : List Int} {i : Nat} (h : i < M.length) (e : M.take i = []) : i = 0:=by
 have:=congrArg List.length e
 rw [List.length_take,List.length_nil] at this
 omega
theorem l0_step {l : List Int} {x1 : Int} (hl : l.length ≤ 65536) {i : Nat} {lo hi : Int} (h : i < l.length) (he : LoHi0 ((l.map cut20).take i) lo hi) :
  ∃ lo2 hi2,LoHi0 ((l.map cut20).take (i + 1)) lo2 hi2 ∧ ∀ K,quarrylaw31_TallyWhole.l0 (K + 1 + 1) l x1 ((l.map cut20).take i).sum lo hi (((l.map cut20).take i).map fl) (i : Int) = quarrylaw31_TallyWhole.l0 K l x1 ((l.map cut20).take (i + 1)).sum lo2 hi2 (((l.map cut20).take (i + 1)).map fl) ((i + 1 : Nat) : Int):=by
 have hM : i < (l.map cut20).length:=by rw [List.length_map];exact h
 obtain ⟨v,hv⟩ : ∃ v,v = (l.map cut20)[i]:=⟨_,rfl⟩
 have hv2 : v = Int.tmod l[i] 1048576:=by rw [hv,List.getElem_map]
 obtain ⟨S,hS⟩ : ∃ S,S = ((l.map cut20).take i).sum:=⟨_,rfl⟩
 have hsum : ((l.map cut20).take (i + 1)).sum = S + v:=by rw [List.take_succ_eq_append_getElem hM,List.sum_append,← hS,← hv];simp
 have hmap : ((l.map cut20).take (i + 1)).map fl = ((l.map cut20).take i).map fl ++ [floatOfInt .f64 v]:=by rw [List.take_succ_eq_append_getElem hM,List.map_append,← hv];rfl
 have sb:=sum_abs (P:=(l.map cut20).take i) (fun n hn=>low_cut l n (List.mem_of_mem_take hn))
 rw [List.length_take,List.length_map,← hS] at sb
 have vb : v.natAbs ≤ 1048575:=by rw [hv];exact low_cut l _ (List.getElem_mem hM)
 have hlen : (((l.map cut20).take i).map fl).length = i:=by rw [List.length_map,List.length_take,List.length_map];omega
 have a1 : (i : Int) < (l.length : Int):=by omega
 have a2 : (0 : Int) ≤ (i : Int):=by omega
 have a3 : i ≠ 0 → ¬ (i : Int) = 0:=by omega
 have a4 : (((l.map cut20).take i).map fl).length < 17592186044416:=by rw [hlen];omega
 have w1 : wrap64 (S + v) = S + v:=w64 _ (by omega) (by omega)
 have w2 : wrap64 ((i : Int) + 1) = ((i + 1 : Nat) : Int):=by rw [w64 _ (by omega) (by omega)];omega
 rw [← hS,hsum,hmap,List.take_succ_eq_append_getElem hM,← hv]
 by_cases hi1 : i = 0
 ·subst hi1;refine ⟨v,v,.inr (by rw [List.take_zero];exact ends_one v),fun K=>?_⟩;rw [quarrylaw31_TallyWhole.l0,if_pos a1,if_pos a2,if_pos (show ((0 : Nat) : Int) = 0 from rfl),rd_int h,← hv2,quarrylaw31_TallyWhole.j1,if_pos rfl,if_pos (show ((0 : Nat) : Int) = 0 from rfl),if_pos a4,w1,w2]
 have he2 : LoHi ((l.map cut20).take i) lo hi:=Or.resolve_left he (fun e=>hi1 (take_nil hM e.1));refine ⟨_,_,.inr (ends_step (v:=v) he2),fun K=>?_⟩;rw [quarrylaw31_TallyWhole.l0,if_pos a1,if_pos a2,if_neg (a3 hi1),rd_int h,← hv2,quarrylaw31_TallyWhole.j1]
 by_cases c1 : v < lo
 ·rw [decide_eq_true c1,if_pos rfl,if_neg (a3 hi1),if_pos c1]
  by_cases c2 : v > hi
  ·rw [if_pos c2,if_pos a4,w1,w2,if_pos c2]
  rw [if_neg c2,if_pos a4,w1,w2,if_neg c2]
 rw [decide_eq_false c1,if_neg (by decide),if_neg (a3 hi1),if_neg c1]
 by_cases c2 : v > hi
 ·rw [if_pos c2,if_pos a4,w1,w2,if_pos c2]
 rw [if_neg c2,if_pos a4,w1,w2,if_neg c2]
theorem l0_run {l : List Int} {x1 : Int} (hl : l.length ≤ 65536) : ∀ (n i : Nat) (lo hi : Int),i + n = l.length → LoHi0 ((l.map cut20).take i) lo hi →
  ∃ lo' hi',LoHi0 (l.map cut20) lo' hi' ∧ ∀ K,quarrylaw31_TallyWhole.l0 (K + 2 * n + 1) l x1 ((l.map cut20).take i).sum lo hi (((l.map cut20).take i).map fl) (i : Int) = quarrylaw31_TallyWhole.l1 K l x1 (l.map cut20).sum lo' hi' ((l.map cut20).map fl) [] ((l.length : Int) - 1)
 | 0,i,lo,hi,hi0,he=>by
  rw [List.take_of_length_le (by rw [List.length_map];omega)] at he ⊢
  refine ⟨lo,hi,he,fun K=>?_⟩;rw [show K + 2 * 0 + 1 = K + 1 by omega,quarrylaw31_TallyWhole.l0,if_neg (by omega),List.length_map,List.length_map,w64 _ (by omega) (by omega)]
 | n + 1,i,lo,hi,hi0,he=>by
  obtain ⟨lo2,hi2,k1,k2⟩:=l0_step (x1:=x1) hl (show i < l.length by omega) he;obtain ⟨lo',hi',r1,r2⟩:=l0_run hl n (i + 1) lo2 hi2 (by omega) k1;refine ⟨lo',hi',r1,fun K=>?_⟩;rw [show K + 2 * (n + 1) + 1 = (K + 2 * n + 1) + 1 + 1 by omega,k2];exact r2 K
theorem l1_run {l : List Int} {x1 S lo hi : Int} {F : List Nat} (hF : F.length ≤ 65536) : ∀ n,n ≤ F.length → ∀ K,quarrylaw31_TallyWhole.l1 (K + n) l x1 S lo hi F (F.drop n).reverse ((n : Int) - 1) = quarrylaw31_TallyWhole.l1 K l x1 S lo hi F F.reverse (-1)
 | 0,hn,K=>by rw [List.drop_zero];rfl
 | n + 1,hn,K=>by
  rw [← l1_run hF n (by omega) K,show K + (n + 1) = (K + n) + 1 by omega,quarrylaw31_TallyWhole.l1]
  have e : ((n + 1 : Nat) : Int) - 1 = (n : Int):=by omega
  rw [e,if_pos (by omega),if_pos (by omega),if_pos (by omega),if_pos (by rw [List.length_reverse,List.length_drop];omega),rd_at (show n < F.length by omega),w64 _ (by omega) (by omega),List.drop_eq_getElem_cons (show n < F.length by omega),List.reverse_cons]
theorem sum_rev : ∀ L : List Int,L.reverse.sum = L.sum
 | []=>rfl
 | a :: L=>by rw [List.reverse_cons,List.sum_append,sum_rev L,List.sum_cons];simp [Int.add_comm]
theorem ends_rev {L : List Int} {lo hi : Int} (h : LoHi0 L lo hi) : LoHi0 L.reverse lo hi:=by
 rcases h with ⟨rfl,h⟩|h
 ·exact .inl ⟨rfl,h⟩
 exact .inr ⟨by simp [h.lo1],fun n hn=>h.lo2 n (by simpa using hn),by simp [h.hi1],fun n hn=>h.hi2 n (by simpa using hn)⟩
theorem told_wh {L : List Int} {lo hi : Int} (hL : Low L) (he : LoHi0 L lo hi) {r : Int × Nat × Nat × Nat × Nat × Nat × Nat × Int}
  (h : (L = [] ∧ r = (0,0,0,0,0,0,0,0)) ∨ J L r.1 r.2.1 r.2.2.1 r.2.2.2.1 r.2.2.2.2.1 r.2.2.2.2.2.1 r.2.2.2.2.2.2.1) : Wh L.length L.sum lo hi r.1 r.2.1 r.2.2.1 r.2.2.2.1 r.2.2.2.2.1 r.2.2.2.2.2.1 r.2.2.2.2.2.2.1:=by
 rcases h with ⟨rfl,rfl⟩|h
 ·rcases he with ⟨_,rfl,rfl⟩|he
  ·exact wh_zero
  exact absurd he.lo1 (by simp)
 rcases he with ⟨rfl,_⟩|he
 ·exact absurd rfl h.inv.ne
 exact h.wh hL he
theorem formed_of {L : List Int} (hl : L.length ≤ 65536) {r : Int × Nat × Nat × Nat × Nat × Nat × Nat × Int} (h : (L = [] ∧ r = (0,0,0,0,0,0,0,0)) ∨ J L r.1 r.2.1 r.2.2.1 r.2.2.2.1 r.2.2.2.2.1 r.2.2.2.2.2.1 r.2.2.2.2.2.2.1) {k : Nat} (hk : 7 < k) :
  tally_formed.f k r.1 r.2.1 r.2.2.1 r.2.2.2.1 r.2.2.2.2.1 r.2.2.2.2.2.1 r.2.2.2.2.2.2.1 = some true:=by
 rcases h with ⟨_,rfl⟩|h
 ·exact zero_ok k
 exact h.inv.formed (by rw [List.length_map];omega) hk
theorem join_any {P Q : List Int} {lo hi : Int} {a b : Int × Nat × Nat × Nat × Nat × Nat × Nat × Int} (hP : Low P) (hQ : Low Q) (hl : P.length + Q.length ≤ 65536) (E : LoHi0 (P ++ Q) lo hi)
  (ha : (P = [] ∧ a = (0,0,0,0,0,0,0,0)) ∨ J P a.1 a.2.1 a.2.2.1 a.2.2.2.1 a.2.2.2.2.1 a.2.2.2.2.2.1 a.2.2.2.2.2.2.1)
  (hb : (Q = [] ∧ b = (0,0,0,0,0,0,0,0)) ∨ J Q b.1 b.2.1 b.2.2.1 b.2.2.2.1 b.2.2.2.2.1 b.2.2.2.2.2.1 b.2.2.2.2.2.2.1) {k : Nat} (hk : 11 ≤ k) :
  ∃ r : Int × Nat × Nat × Nat × Nat × Nat × Nat × Int,tally_Join.f k a.1 a.2.1 a.2.2.1 a.2.2.2.1 a.2.2.2.2.1 a.2.2.2.2.2.1 a.2.2.2.2.2.2.1 b.1 b.2.1 b.2.2.1 b.2.2.2.1 b.2.2.2.2.1 b.2.2.2.2.2.1 b.2.2.2.2.2.2.1 = some r ∧ r.2.2.2.2.2.2.2 = 0 ∧
   Wh ((P ++ Q).length : Int) (P ++ Q).sum lo hi r.1 r.2.1 r.2.2.1 r.2.2.2.1 r.2.2.2.2.1 r.2.2.2.2.2.1 r.2.2.2.2.2.2.1:=by
 have fa:=formed_of (by omega) ha (show 7 < k by omega);have fb:=formed_of (by omega) hb (show 7 < k by omega)
 obtain ⟨k,rfl⟩ : ∃ k',k = k' + 1:=⟨k - 1,by omega⟩
 rcases hb with ⟨hq,rfl⟩|gb
 ·subst hq
  rw [List.append_nil] at E ⊢
  refine ⟨(a.1,a.2.1,a.2.2.1,a.2.2.2.1,a.2.2.2.2.1,a.2.2.2.2.2.1,a.2.2.2.2.2.2.1,0),?_,rfl,told_wh hP E (by
   rcases ha with ⟨e,rfl⟩|ha
   ·exact .inl ⟨e,rfl⟩
   exact .inr ha)⟩
  unfold tally_Join.f
  rw [fa,Option.bind_some,if_pos rfl,fb,Option.bind_some,tally_Join.j0,if_neg (by decide),if_pos rfl]
 rcases ha with ⟨hp,rfl⟩|ga
 ·subst hp
  rw [List.nil_append] at E ⊢
  refine ⟨(b.1,b.2.1,b.2.2.1,b.2.2.2.1,b.2.2.2.2.1,b.2.2.2.2.2.1,b.2.2.2.2.2.2.1,0),?_,rfl,told_wh hQ E (.inr gb)⟩
  unfold tally_Join.f
  have:=gb.inv.pos;rw [fa,Option.bind_some,if_pos rfl,fb,Option.bind_some,tally_Join.j0,if_neg (by decide),if_neg (by omega),if_pos rfl]
 rcases E with ⟨e,_⟩|E
 ·have:=List.append_eq_nil_iff.1 e;exact absurd (by rw [this.1];rfl) ga.inv.ne
 obtain ⟨r,r1,r2,r3⟩:=join_main ga gb hP hQ hl E hk;refine ⟨r,r1,r2,?_⟩;rw [List.length_append,List.sum_append,Int.natCast_add];exact r3
theorem whole_eq (l : List Int) (a : Int) : ∃ k,quarrylaw31_TallyWhole.f k l a = some true:=by
 unfold quarrylaw31_TallyWhole.f quarrylaw31_awake.f
 by_cases hl : (l.length : Int) > 65536
 ·exact ⟨0,by rw [Option.bind_some,if_pos rfl,if_pos hl]⟩
 obtain ⟨x,px,x0,x1⟩:=pick_eq a (n:=l.length) (by omega)
 obtain ⟨M,hM⟩ : ∃ M,M = l.map cut20:=⟨_,rfl⟩
 have hlow : Low M:=by rw [hM];exact low_cut l
 have hlen : M.length = l.length:=by rw [hM,List.length_map]
 obtain ⟨lo,hi,he,h0⟩:=l0_run (l:=l) (x1:=x) (by omega) l.length 0 0 0 (by omega) (.inl ⟨by rw [List.take_zero],rfl,rfl⟩)
 rw [← hM] at he h0
 refine ⟨(l.length + 20 + l.length) + 2 * l.length + 1,?_⟩;rw [Option.bind_some,if_pos rfl,if_neg hl,px,Option.bind_some];have e0:=h0 (l.length + 20 + l.length)
 rw [List.take_zero] at e0
 refine Eq.trans e0 ?_
 have hFl : (M.map fl).length = l.length:=by rw [List.length_map,hlen]
 have e1:=l1_run (l:=l) (x1:=x) (S:=M.sum) (lo:=lo) (hi:=hi) (F:=M.map fl) (by omega) l.length (by omega) (l.length + 20)
 rw [List.drop_of_length_le (by omega),List.reverse_nil] at e1
 rw [e1]
 have hrev : Low M.reverse:=fun n hn=>hlow n (by simpa using hn)
 have htake : Low (M.take x.toNat):=fun n hn=>hlow n (List.mem_of_mem_take hn)
 have hdrop : Low (M.drop x.toNat):=fun n hn=>hlow n (List.mem_of_mem_drop hn)
 have ltk : (M.take x.toNat).length ≤ l.length:=by rw [List.length_take];omega
 have ldr : (M.drop x.toNat).length ≤ l.length:=by rw [List.length_drop];omega
 have lsum : (M.take x.toNat).length + (M.drop x.toNat).length = l.length:=by rw [List.length_take,List.length_drop];omega
 obtain ⟨t,t1,t2,t3⟩:=of_whole hlow (by omega) (k:=l.length + 19) (by omega);obtain ⟨u,u1,u2,u3⟩:=of_whole hrev (by rw [List.length_reverse];omega) (k:=l.length + 19) (by rw [List.length_reverse];omega);obtain ⟨p,p1,p2,p3⟩:=of_whole htake (by omega) (k:=l.length + 19) (by omega);obtain ⟨q,q1,q2,q3⟩:=of_whole hdrop (by omega) (k:=l.length + 19) (by omega);obtain ⟨j,j1,j2,j3⟩:=join_any htake hdrop (by omega) (by rw [List.take_append_drop];exact he) p3 q3 (k:=l.length + 19) (by omega)
 rw [List.take_append_drop] at j3
 obtain ⟨z0,z1,z2,z3,zt,f1,f2,f3,v1,v2,v3⟩:=tones_whole hlow (by omega) (k:=l.length + 19) (by omega);have sb:=sum_abs hlow;have w1:=told_wh hlow he t3;have w2:=told_wh hrev (ends_rev he) u3
 rw [List.length_reverse,sum_rev] at w2
 rw [hlen] at w1 w2 j3
 have bl : lo.natAbs ≤ 1048575 ∧ hi.natAbs ≤ 1048575:=by
  rcases he with ⟨_,rfl,rfl⟩|he
  ·decide
  exact ⟨hlow _ he.lo1,hlow _ he.hi1⟩
 obtain ⟨fs,vs,_⟩:=whole_val (n:=M.sum) (by omega);rw [quarrylaw31_TallyWhole.l1,if_neg (by decide),t1,Option.bind_some,← List.map_reverse,u1,Option.bind_some,if_pos x0,if_pos (by rw [hFl];exact x1),← List.map_take,p1,Option.bind_some,← List.map_drop,q1,Option.bind_some,j1,Option.bind_some,zt,Option.bind_some];simp only
 rw [if_pos t2,if_pos u2,if_pos p2,if_pos q2,if_pos j2,if_pos True.intro,ne_no f1 fs (by rw [v1,vs]),if_neg (by decide),ne_no f2 fin_zero (by rw [v2,val_zero]),if_neg (by decide),ne_no f3 fin_zero (by rw [v3,val_zero]),
  quarrylaw31_TallyWhole.j3,if_neg (by decide),w1.asked (by omega) bl.1 bl.2,Option.bind_some,if_pos rfl,w2.asked (by omega) bl.1 bl.2,Option.bind_some,if_pos rfl,j3.asked (by omega) bl.1 bl.2,Option.bind_some]
theorem TallyWhole : quarrylaw31_TallyWhole.Pure:=fun l a _ _ _ _=>whole_eq l a
end Go.Proofs.Ytijmdmnhbbcahaa.Pure
