/- quarry: tally.Top of fewer whole numbers is the beginning of Top of more; Top of all has each number as often as the list has it, none ahead of a greater one. For every list of ints and every number. -/
import Derived.Test.YtlgamjgdkljfiaaZDefTallyBegins
import Derived.IntWalk
namespace Go.Proofs.Ytlgamjgdkljfiaa.QSortTallyBegins
set_option linter.unusedVariables false
section
variable {α : Type} (z : α × Nat)
def g (D : List (α × Nat)) (k : Nat) : α × Nat:=D.getD k z
theorem g_set (D : List (α × Nat)) (i k : Nat) (v : α × Nat) (h : i < D.length) : g z (D.set i v) k = if k = i then v else g z D k:=by
 unfold g
 rw [List.getD_eq_getElem?_getD,List.getD_eq_getElem?_getD,List.getElem?_set]
 by_cases e : k = i
 ·subst e;rw [if_pos rfl,if_pos h,if_pos rfl];rfl
 rw [if_neg (fun q=>e q.symm),if_neg e]
def C : Nat → (Nat → Bool) → Nat
 | 0,_=>0
 | n + 1,f=>C n f + if f n = true then 1 else 0
theorem C_congr {f h : Nat → Bool} : ∀ n,(∀ k,k < n → f k = h k) → C n f = C n h
 | 0,_=>rfl
 | n + 1,e=>by rw [C,C,C_congr n (fun k hk=>e k (by omega)),e n (by omega)]
theorem C_set (D : List (α × Nat)) (i : Nat) (y : α × Nat) (P : α × Nat → Bool) (hD : i < D.length) : ∀ n,(i < n → C n (fun k=>P (g z (D.set i y) k)) + (if P (g z D i) = true then 1 else 0) = C n (fun k=>P (g z D k)) + (if P y = true then 1 else 0)) ∧ (n ≤ i → C n (fun k=>P (g z (D.set i y) k)) = C n (fun k=>P (g z D k)))
 | 0=>⟨fun h=>absurd h (Nat.not_lt_zero _),fun _=>rfl⟩
 | n + 1=>by
  obtain ⟨h1,h2⟩:=C_set D i y P hD n
  constructor
  ·intro h;rw [C,C,g_set z D i n y hD]
   by_cases e : n = i
   ·subst e;rw [if_pos rfl,h2 (Nat.le_refl _)];omega
   rw [if_neg e];have:=h1 (by omega)
   omega
  intro h;rw [C,C,g_set z D i n y hD,if_neg (show ¬ n = i by omega),h2 (by omega)]
structure Opn (a b : Nat) (D D' : List (α × Nat)) : Prop where
 len : D'.length = D.length
 out : ∀ k,k < a ∨ b ≤ k → g z D' k = g z D k
 mem : ∀ k,a ≤ k → k < b → ∃ k',a ≤ k' ∧ k' < b ∧ g z D' k = g z D k'
 cnt : ∀ P : α × Nat → Bool,C D.length (fun k=>P (g z D' k)) = C D.length (fun k=>P (g z D k))
variable {z}
theorem Opn.refl (a b : Nat) (D : List (α × Nat)) : Opn z a b D D:=⟨rfl,fun _ _=>rfl,fun k h1 h2=>⟨k,h1,h2,rfl⟩,fun _=>rfl⟩
theorem Opn.trans {a b : Nat} {D E F : List (α × Nat)} (h1 : Opn z a b D E) (h2 : Opn z a b E F) : Opn z a b D F:=by
 refine ⟨h2.len.trans h1.len,fun k hk=>(h2.out k hk).trans (h1.out k hk),fun k ha hb=>?_,fun P=>?_⟩
 ·obtain ⟨k1,a1,b1,e1⟩:=h2.mem k ha hb;obtain ⟨k2,a2,b2,e2⟩:=h1.mem k1 a1 b1;exact ⟨k2,a2,b2,e1.trans e2⟩
 have:=h2.cnt P
 rw [h1.len] at this
 exact this.trans (h1.cnt P)
theorem Opn.widen {a b a' b' : Nat} {D E : List (α × Nat)} (h : Opn z a b D E) (ha : a' ≤ a) (hb : b ≤ b') : Opn z a' b' D E:=by
 refine ⟨h.len,fun k hk=>h.out k (by omega),fun k h1 h2=>?_,h.cnt⟩
 by_cases c : a ≤ k ∧ k < b
 ·obtain ⟨k',x,y,e⟩:=h.mem k c.1 c.2;exact ⟨k',by omega,by omega,e⟩
 exact ⟨k,h1,h2,h.out k (by omega)⟩
def sw (z : α × Nat) (D : List (α × Nat)) (i j : Nat) : List (α × Nat):=(D.set i (g z D j)).set j (g z D i)
theorem sw_len (D : List (α × Nat)) (i j : Nat) : (sw z D i j).length = D.length:=by unfold sw;rw [List.length_set,List.length_set]
theorem sw_get (D : List (α × Nat)) (i j k : Nat) (hi : i < D.length) (hj : j < D.length) : g z (sw z D i j) k = if k = j then g z D i else if k = i then g z D j else g z D k:=by
 unfold sw
 rw [g_set z _ j k _ (by rw [List.length_set];exact hj),g_set z D i k _ hi]
theorem sw_op {a b : Nat} (D : List (α × Nat)) (i j : Nat) (hi : a ≤ i) (hi' : i < b) (hj : a ≤ j) (hj' : j < b) (hb : b ≤ D.length) : Opn z a b D (sw z D i j):=by
 refine ⟨sw_len D i j,fun k hk=>?_,fun k h1 h2=>?_,fun P=>?_⟩
 ·rw [sw_get D i j k (by omega) (by omega),if_neg (by omega),if_neg (by omega)]
 ·rw [sw_get D i j k (by omega) (by omega)]
  split
  ·exact ⟨i,hi,hi',rfl⟩
  split
  ·exact ⟨j,hj,hj',rfl⟩
  exact ⟨k,h1,h2,rfl⟩
 have e1:=(C_set z D i (g z D j) P (by omega) D.length).1 (by omega);have e2:=(C_set z (D.set i (g z D j)) j (g z D i) P (by rw [List.length_set];omega) D.length).1 (by omega)
 rw [g_set z D i j _ (by omega)] at e2
 unfold sw
 by_cases e : j = i
 ·rw [if_pos e] at e2;omega
 rw [if_neg e] at e2;omega
structure SwR (z : α × Nat) (a b n : Nat) (D E : List (α × Nat)) : Prop where
 op : Opn z a (b + n) D E
 lo : ∀ t,t < n → g z E (a + t) = g z D (b + t)
 hi : ∀ t,t < n → g z E (b + t) = g z D (a + t)
 el : ∀ k,(∀ t,t < n → k ≠ a + t ∧ k ≠ b + t) → g z E k = g z D k
theorem SwR.zero (a b : Nat) (D : List (α × Nat)) : SwR z a b 0 D D:=⟨Opn.refl _ _ _,fun t h=>absurd h (Nat.not_lt_zero _),fun t h=>absurd h (Nat.not_lt_zero _),fun k _=>rfl⟩
theorem SwR.succ {a b n : Nat} {D E : List (α × Nat)} (h : SwR z a b n D E) (hab : a + n < b) (hl : b + n < D.length) : SwR z a b (n + 1) D (sw z E (a + n) (b + n)):=by
 have len:=h.op.len
 have gs : ∀ k,g z (sw z E (a + n) (b + n)) k = if k = b + n then g z E (a + n) else if k = a + n then g z E (b + n) else g z E k:=fun k=>sw_get E _ _ k (by omega) (by omega)
 have ea : g z E (a + n) = g z D (a + n):=h.el _ (fun t ht=>⟨by omega,by omega⟩);have eb : g z E (b + n) = g z D (b + n):=h.el _ (fun t ht=>⟨by omega,by omega⟩);refine ⟨(h.op.widen (Nat.le_refl _) (by omega)).trans (sw_op E _ _ (by omega) (by omega) (by omega) (by omega) (by omega)),fun t ht=>?_,fun t ht=>?_,fun k hk=>?_⟩
 ·rw [gs,if_neg (by omega)]
  by_cases c : t = n
  ·subst c;rw [if_pos rfl,eb]
  rw [if_neg (by omega)];exact h.lo t (by omega)
 ·rw [gs]
  by_cases c : t = n
  ·subst c;rw [if_pos rfl,ea]
  rw [if_neg (by omega),if_neg (by omega)];exact h.hi t (by omega)
 have:=hk n (by omega);rw [gs,if_neg this.2,if_neg this.1];exact h.el k (fun t ht=>hk t (by omega))
structure Rot (z : α × Nat) (a m b : Nat) (D E : List (α × Nat)) : Prop where
 op : Opn z a b D E
 lo : ∀ t,t < b - m → g z E (a + t) = g z D (m + t)
 hi : ∀ t,t < m - a → g z E (a + (b - m) + t) = g z D (a + t)
theorem Rot.swap {a m n : Nat} {D E : List (α × Nat)} (h : SwR z a m n D E) (e : a + n = m) : Rot z a m (m + n) D E:=by
 refine ⟨h.op,fun t ht=>h.lo t (by omega),fun t ht=>?_⟩;rw [show a + (m + n - m) + t = m + t by omega];exact h.hi t (by omega)
theorem Rot.more {m i j : Nat} {D E F : List (α × Nat)} (hi : i ≤ m) (hij : j < i) (h : SwR z (m - i) m j D E) (r : Rot z (m - (i - j)) m (m + j) E F) : Rot z (m - i) m (m + j) D F:=by
 refine ⟨(h.op).trans (r.op.widen (by omega) (Nat.le_refl _)),fun t ht=>?_,fun t ht=>?_⟩
 ·rw [r.op.out _ (by omega)];exact h.lo t (by omega)
 by_cases c : t < i - (i - j)
 ·have e1:=r.lo (m - i + (m + j - m) + t - (m - (i - j))) (by omega)
  rw [show m - (i - j) + (m - i + (m + j - m) + t - (m - (i - j))) = m - i + (m + j - m) + t by omega] at e1
  rw [e1,show m + (m - i + (m + j - m) + t - (m - (i - j))) = m + t by omega];exact h.hi t (by omega)
 have e1:=r.hi (t - j) (by omega)
 rw [show m - (i - j) + (m + j - m) + (t - j) = m - i + (m + j - m) + t by omega] at e1
 rw [e1];rw [show m - (i - j) + (t - j) = m - i + t by omega];exact h.el _ (fun u hu=>⟨by omega,by omega⟩)
theorem Rot.less {m i j : Nat} {D E F : List (α × Nat)} (hi : i ≤ m) (hij : i < j) (h : SwR z (m - i) (m + j - i) i D E) (r : Rot z (m - i) m (m + (j - i)) E F) : Rot z (m - i) m (m + j) D F:=by
 refine ⟨((h.op).widen (Nat.le_refl _) (by omega)).trans (r.op.widen (Nat.le_refl _) (by omega)),fun t ht=>?_,fun t ht=>?_⟩
 ·by_cases c : t < j - i
  ·rw [r.lo t (by omega)];exact h.el _ (fun u hu=>⟨by omega,by omega⟩)
  have e1:=r.hi (t - (j - i)) (by omega)
  rw [show m - i + (m + (j - i) - m) + (t - (j - i)) = m - i + t by omega] at e1
  rw [e1,h.lo (t - (j - i)) (by omega)]
  congr 1;omega
 rw [r.op.out _ (by omega)];have:=h.hi t (by omega)
 rw [show m + j - i + t = m - i + (m + j - m) + t by omega] at this
 exact this
theorem Rot.none (a m b : Nat) (D : List (α × Nat)) (h : m ≤ a ∨ b ≤ m) (h1 : a ≤ m) (h2 : m ≤ b) : Rot z a m b D D:=by
 refine ⟨Opn.refl _ _ _,fun t ht=>?_,fun t ht=>?_⟩
 ·rw [show a + t = m + t by omega]
 rw [show a + (b - m) + t = a + t by omega]
end
structure Weak {α : Type} (gt : α → α → Bool) : Prop where
 asym : ∀ x y,gt x y = true → gt y x = false
 trans : ∀ x y z,gt y x = false → gt z y = false → gt z x = false
section
variable {α : Type} {z : α × Nat} {gt : α → α → Bool}
def Le (gt : α → α → Bool) (x y : α × Nat) : Prop:=gt y.1 x.1 = false
def Bef (gt : α → α → Bool) (x y : α × Nat) : Prop:=gt y.1 x.1 = false ∧ (gt x.1 y.1 = false → x.2 < y.2)
theorem Bef.le {x y : α × Nat} (h : Bef gt x y) : Le gt x y:=h.1
theorem Weak.refl (W : Weak gt) (x : α) : gt x x = false:=by
 cases h : gt x x with
 | false=>rfl
 | true=>exact (W.asym x x h).symm.trans h |>.symm ▸ rfl
theorem Le.refl (W : Weak gt) (x : α × Nat) : Le gt x x:=W.refl x.1
theorem Le.trans (W : Weak gt) {x y w : α × Nat} (h1 : Le gt x y) (h2 : Le gt y w) : Le gt x w:=W.trans x.1 y.1 w.1 h1 h2
theorem Weak.gt_le (W : Weak gt) {x y u v : α × Nat} (h1 : Le gt x y) (h2 : gt y.1 u.1 = true) (h3 : Le gt u v) : gt x.1 v.1 = true:=by
 cases h : gt x.1 v.1 with
 | true=>rfl
 | false =>
  have a:=W.trans v.1 x.1 y.1 h h1;have b:=W.trans u.1 v.1 y.1 h3 a
  rw [h2] at b;cases b
def Fal (z : α × Nat) (gt : α → α → Bool) (D : List (α × Nat)) (a b : Nat) : Prop:=∀ p q,a ≤ p → p < q → q < b → Bef gt (g z D p) (g z D q)
theorem Fal.le (W : Weak gt) {D : List (α × Nat)} {a b : Nat} (h : Fal z gt D a b) (p q : Nat) (h1 : a ≤ p) (h2 : p ≤ q) (h3 : q < b) : Le gt (g z D p) (g z D q):=by
 rcases Nat.lt_or_eq_of_le h2 with c|c
 ·exact (h p q h1 c h3).1
 subst c;exact Le.refl W _
theorem Fal.congr {D E : List (α × Nat)} {a b : Nat} (h : Fal z gt D a b) (e : ∀ k,a ≤ k → k < b → g z E k = g z D k) : Fal z gt E a b:=by
 intro p q h1 h2 h3;rw [e p h1 (by omega),e q (by omega) h3];exact h p q h1 h2 h3
theorem Fal.sub {D : List (α × Nat)} {a b a' b' : Nat} (h : Fal z gt D a b) (ha : a ≤ a') (hb : b' ≤ b) : Fal z gt D a' b':=fun p q h1 h2 h3=>h p q (by omega) h2 (by omega)
theorem Fal.one (D : List (α × Nat)) (a b : Nat) (h : b ≤ a + 1) : Fal z gt D a b:=fun p q h1 h2 h3=>absurd h3 (by omega)
theorem Fal.join {D : List (α × Nat)} {a m b : Nat} (h1 : Fal z gt D a m) (h2 : Fal z gt D m b) (h : ∀ p q,a ≤ p → p < m → m ≤ q → q < b → Bef gt (g z D p) (g z D q)) : Fal z gt D a b:=by
 intro p q hp hpq hq
 by_cases c : q < m
 ·exact h1 p q hp hpq c
 by_cases d : p < m
 ·exact h p q hp d (by omega) hq
 exact h2 p q (by omega) hpq hq
def Tie (z : α × Nat) (D : List (α × Nat)) (a m b : Nat) : Prop:=∀ p q,a ≤ p → p < m → m ≤ q → q < b → (g z D p).2 < (g z D q).2
structure Halves (z : α × Nat) (gt : α → α → Bool) (a s mid e b : Nat) (D : List (α × Nat)) : Prop where
 a1 : Fal z gt D a s
 a2 : Fal z gt D s mid
 b1 : Fal z gt D mid e
 b2 : Fal z gt D e b
 ab : ∀ p q,a ≤ p → p < mid → mid ≤ q → q < b → Bef gt (g z D p) (g z D q)
 ta : Tie z D a s mid
 tb : Tie z D mid e b
theorem halves (W : Weak gt) {a s m mid e b : Nat} {D E : List (α × Nat)} (hs : a ≤ s) (hsm : s ≤ m) (hme : m ≤ e) (heb : e ≤ b) (hse : s + e = mid + m) (h1 : Fal z gt D a m) (h2 : Fal z gt D m b) (ht : Tie z D a m b) (r : Rot z s m e D E)
  (left : a < s → e < b → gt (g z D e).1 (g z D (s - 1)).1 = false) (right : s < m → m < e → gt (g z D (e - 1)).1 (g z D s).1 = true) : Halves z gt a s mid e b E:=by
 have lo : ∀ k,s ≤ k → k < mid → g z E k = g z D (m + (k - s)):=fun k hk hk2=>by
  have:=r.lo (k - s) (by omega)
  rwa [show s + (k - s) = k by omega] at this
 have hi : ∀ k,mid ≤ k → k < e → g z E k = g z D (s + (k - mid)):=fun k hk hk2=>by
  have:=r.hi (k - mid) (by omega)
  rwa [show s + (e - m) + (k - mid) = k by omega] at this
 have out : ∀ k,k < s ∨ e ≤ k → g z E k = g z D k:=r.op.out
 refine ⟨?_,?_,?_,?_,?_,?_,?_⟩
 ·intro p q x y w;rw [out p (by omega),out q (by omega)];exact h1 p q x y (by omega)
 ·intro p q x y w;rw [lo p (by omega) (by omega),lo q (by omega) (by omega)];exact h2 _ _ (by omega) (by omega) (by omega)
 ·intro p q x y w;rw [hi p (by omega) (by omega),hi q (by omega) (by omega)];exact h1 _ _ (by omega) (by omega) (by omega)
 ·intro p q x y w;rw [out p (by omega),out q (by omega)];exact h2 p q (by omega) y w
 ·intro p q x y v w
  by_cases c : p < s
  ·rw [out p (by omega)]
   by_cases d : q < e
   ·rw [hi q v d];exact h1 _ _ x (by omega) (by omega)
   rw [out q (by omega)];refine ⟨?_,fun _=>ht p q x (by omega) (by omega) w⟩;exact Le.trans W (h1.le W p (s - 1) x (by omega) (by omega)) (Le.trans W (y:=g z D e) (left (by omega) (by omega)) (h2.le W e q (by omega) (by omega) w))
  rw [lo p (by omega) y]
  by_cases d : q < e
  ·rw [hi q v d];have hgt : gt (g z D (m + (p - s))).1 (g z D (s + (q - mid))).1 = true:=W.gt_le (h2.le W _ (e - 1) (by omega) (by omega) (by omega)) (right (by omega) (by omega)) (h1.le W s _ hs (by omega) (by omega));exact ⟨W.asym _ _ hgt,fun n=>by rw [hgt] at n;cases n⟩
  rw [out q (by omega)];exact h2 _ _ (by omega) (by omega) w
 ·intro p q x y v w;rw [out p (by omega),lo q v w];exact ht _ _ x (by omega) (by omega) (by omega)
 intro p q x y v w;rw [hi p x y,out q (by omega)];exact ht _ _ (by omega) (by omega) (by omega) w
theorem merged {a mid b : Nat} {D E F : List (α × Nat)} (ham : a ≤ mid) (hmb : mid ≤ b) (ab : ∀ p q,a ≤ p → p < mid → mid ≤ q → q < b → Bef gt (g z D p) (g z D q)) (o1 : Opn z a mid D E) (f1 : Fal z gt E a mid) (o2 : Opn z mid b E F) (f2 : Fal z gt F mid b) : Fal z gt F a b:=by
 have f1' : Fal z gt F a mid:=f1.congr (fun k h1 h2=>o2.out k (by omega));refine f1'.join f2 (fun p q h1 h2 h3 h4=>?_);obtain ⟨q',q1,q2,q3⟩:=o2.mem q h3 h4;rw [q3,o2.out p (by omega),o1.out q' (by omega)];obtain ⟨p',p1,p2,p3⟩:=o1.mem p h1 h2;rw [p3];exact ab p' q' p1 p2 q1 q2
theorem Tie.after {a b a' m' b' : Nat} {D E : List (α × Nat)} (h : Tie z D a' m' b') (o : Opn z a b D E) (hb : b ≤ a') : Tie z E a' m' b':=by
 intro p q x y v w;rw [o.out p (by omega),o.out q (by omega)];exact h p q x y v w
theorem shifted_up (W : Weak gt) {a i b : Nat} {D E : List (α × Nat)} (hai : a < i) (hib : i ≤ b) (h : Fal z gt D (a + 1) b) (r : ∀ k,a ≤ k → k < i - 1 → g z E k = g z D (k + 1)) (r1 : g z E (i - 1) = g z D a) (r2 : ∀ k,i ≤ k → g z E k = g z D k)
  (lt : ∀ k,a < k → k < i → gt (g z D k).1 (g z D a).1 = true) (ge : ∀ k,i ≤ k → k < b → gt (g z D k).1 (g z D a).1 = false) (ht : Tie z D a (a + 1) b) : Fal z gt E a b:=by
 intro p q h1 h2 h3
 by_cases c1 : q < i - 1
 ·rw [r p h1 (by omega),r q (by omega) c1];exact h _ _ (by omega) (by omega) (by omega)
 by_cases c2 : q = i - 1
 ·subst c2;rw [r1,r p h1 (by omega)];have:=lt (p + 1) (by omega) (by omega);exact ⟨W.asym _ _ this,fun n=>by rw [this] at n;cases n⟩
 rw [r2 q (by omega)]
 by_cases c3 : p < i - 1
 ·rw [r p h1 c3];exact h _ _ (by omega) (by omega) (by omega)
 by_cases c4 : p = i - 1
 ·subst c4;rw [r1];exact ⟨ge q (by omega) h3,fun _=>ht a q (Nat.le_refl _) (by omega) (by omega) h3⟩
 rw [r2 p (by omega)];exact h _ _ (by omega) h2 h3
theorem shifted_down (W : Weak gt) {a i m : Nat} {D E : List (α × Nat)} (hai : a ≤ i) (him : i ≤ m) (h : Fal z gt D a m) (r : ∀ k,i < k → k ≤ m → g z E k = g z D (k - 1)) (r1 : g z E i = g z D m) (r2 : ∀ k,k < i → g z E k = g z D k)
  (le : ∀ k,a ≤ k → k < i → gt (g z D m).1 (g z D k).1 = false) (gr : ∀ k,i ≤ k → k < m → gt (g z D m).1 (g z D k).1 = true) (ht : Tie z D a m (m + 1)) : Fal z gt E a (m + 1):=by
 intro p q h1 h2 h3
 by_cases c1 : q < i
 ·rw [r2 p (by omega),r2 q c1];exact h p q h1 h2 (by omega)
 by_cases c2 : q = i
 ·subst c2;rw [r1,r2 p (by omega)];exact ⟨le p h1 (by omega),fun _=>ht p m h1 (by omega) (by omega) (by omega)⟩
 rw [r q (by omega) (by omega)]
 by_cases c3 : p < i
 ·rw [r2 p c3];exact h p _ h1 (by omega) (by omega)
 by_cases c4 : p = i
 ·subst c4;rw [r1];have:=gr (q - 1) (by omega) (by omega);exact ⟨W.asym _ _ this,fun n=>by rw [this] at n;cases n⟩
 rw [r p (by omega) (by omega)];exact h _ _ (by omega) (by omega) (by omega)
def SB (z : α × Nat) (gt : α → α → Bool) (D : List (α × Nat)) (n bs : Nat) : Prop:=∀ c p q,c * bs ≤ p → p < q → q < n → q < c * bs + bs → Bef gt (g z D p) (g z D q)
def InB (z : α × Nat) (D : List (α × Nat)) (n bs : Nat) : Prop:=∀ c k,c * bs ≤ k → k < n → k < c * bs + bs → c * bs ≤ (g z D k).2 ∧ (g z D k).2 < c * bs + bs
structure Ins (z : α × Nat) (gt : α → α → Bool) (D : List (α × Nat)) (n bs t : Nat) : Prop where
 so : ∀ c p q,c * bs ≤ p → p < q → q < t * bs → q < c * bs + bs → Bef gt (g z D p) (g z D q)
 id : ∀ k,t * bs ≤ k → k < n → (g z D k).2 = k
 inb : InB z D n bs
theorem blk {bs c t k : Nat} (h1 : c * bs ≤ k) (h2 : k < c * bs + bs) (h3 : t * bs ≤ k) (h4 : k < t * bs + bs) : c = t:=by
 rcases Nat.lt_trichotomy c t with h|h|h
 ·have : (c + 1) * bs ≤ t * bs:=Nat.mul_le_mul_right bs h
  rw [Nat.succ_mul] at this;omega
 ·exact h
 have : (t + 1) * bs ≤ c * bs:=Nat.mul_le_mul_right bs h
 rw [Nat.succ_mul] at this;omega
theorem blk_lt {bs c t k : Nat} (h1 : c * bs ≤ k) (h3 : k < t * bs) : c * bs + bs ≤ t * bs:=by
 have : c < t:=Nat.lt_of_mul_lt_mul_right (Nat.lt_of_le_of_lt h1 h3);have:=Nat.mul_le_mul_right bs this
 rwa [Nat.succ_mul] at this
theorem InB.op {D E : List (α × Nat)} {n bs t b : Nat} (h : InB z D n bs) (o : Opn z (t * bs) b D E) (hb : b ≤ t * bs + bs) (hn : b ≤ n) : InB z E n bs:=by
 intro c k h1 h2 h3
 by_cases c1 : t * bs ≤ k ∧ k < b
 ·obtain ⟨k',a1,a2,e⟩:=o.mem k c1.1 c1.2;have : c = t:=blk h1 h3 c1.1 (by omega);subst this;rw [e];exact h c k' a1 (by omega) (by omega)
 rw [o.out k (by omega)];exact h c k h1 h2 h3
theorem Ins.step {D E : List (α × Nat)} {n bs t : Nat} (h : Ins z gt D n bs t) (o : Opn z (t * bs) (t * bs + bs) D E) (f : Fal z gt E (t * bs) (t * bs + bs)) (hn : t * bs + bs ≤ n) : Ins z gt E n bs (t + 1):=by
 refine ⟨fun c p q h1 h2 h3 h4=>?_,fun k h1 h2=>?_,h.inb.op o (Nat.le_refl _) hn⟩
 ·rw [Nat.succ_mul] at h3
  by_cases c1 : t * bs ≤ p
  ·exact f p q c1 h2 h3
  have:=blk_lt h1 (show p < t * bs by omega);rw [o.out p (by omega),o.out q (by omega)];exact h.so c p q h1 h2 (by omega) h4
 rw [Nat.succ_mul] at h1
 rw [o.out k (by omega)];exact h.id k (by omega) h2
theorem Ins.last {D E : List (α × Nat)} {n bs t : Nat} (h : Ins z gt D n bs t) (o : Opn z (t * bs) n D E) (f : Fal z gt E (t * bs) n) (hn : n ≤ t * bs + bs) : SB z gt E n bs ∧ InB z E n bs:=by
 refine ⟨fun c p q h1 h2 h3 h4=>?_,h.inb.op o hn (Nat.le_refl _)⟩
 by_cases c1 : t * bs ≤ p
 ·exact f p q c1 h2 h3
 have:=blk_lt h1 (show p < t * bs by omega);rw [o.out p (by omega),o.out q (by omega)];exact h.so c p q h1 h2 (by omega) h4
structure Mrg (z : α × Nat) (gt : α → α → Bool) (D : List (α × Nat)) (n bs t : Nat) : Prop where
 so : ∀ c p q,c * (2 * bs) ≤ p → p < q → q < t * (2 * bs) → q < c * (2 * bs) + 2 * bs → Bef gt (g z D p) (g z D q)
 half : ∀ c p q,t * (2 * bs) ≤ p → c * bs ≤ p → p < q → q < n → q < c * bs + bs → Bef gt (g z D p) (g z D q)
 in2 : InB z D n (2 * bs)
 in1 : ∀ c k,t * (2 * bs) ≤ k → c * bs ≤ k → k < n → k < c * bs + bs → c * bs ≤ (g z D k).2 ∧ (g z D k).2 < c * bs + bs
theorem two_mul (c bs : Nat) : c * (2 * bs) = (2 * c) * bs ∧ (2 * c + 1) * bs = (2 * c) * bs + bs:=⟨by rw [← Nat.mul_assoc,Nat.mul_comm c 2],Nat.succ_mul _ _⟩
theorem Mrg.init {D : List (α × Nat)} {n bs : Nat} (h : SB z gt D n bs) (i : InB z D n bs) : Mrg z gt D n bs 0:=by
 refine ⟨fun c p q h1 h2 h3 h4=>absurd h3 (by omega),fun c p q _ h1 h2 h3 h4=>h c p q h1 h2 h3 h4,fun c k h1 h2 h3=>?_,fun c k _ h1 h2 h3=>i c k h1 h2 h3⟩;obtain ⟨e1,e2⟩:=two_mul c bs
 by_cases c1 : k < (2 * c) * bs + bs
 ·have:=i (2 * c) k (by omega) h2 c1
  omega
 have:=i (2 * c + 1) k (by omega) h2 (by omega)
 omega
theorem Mrg.pre {D : List (α × Nat)} {n bs t b : Nat} (h : Mrg z gt D n bs t) (hb : b ≤ n) (hb2 : b ≤ t * (2 * bs) + 2 * bs) : Fal z gt D (t * (2 * bs)) (min b (t * (2 * bs) + bs)) ∧ Fal z gt D (t * (2 * bs) + bs) b ∧ Tie z D (t * (2 * bs)) (t * (2 * bs) + bs) b:=by
 obtain ⟨e1,e2⟩:=two_mul t bs;refine ⟨fun p q h1 h2 h3=>?_,fun p q h1 h2 h3=>?_,fun p q h1 h2 h3 h4=>?_⟩
 ·exact h.half (2 * t) p q h1 (by omega) h2 (by omega) (by omega)
 ·exact h.half (2 * t + 1) p q (by omega) (by omega) h2 (by omega) (by omega)
 have a:=h.in1 (2 * t) p h1 (by omega) (by omega) (by omega);have c:=h.in1 (2 * t + 1) q (by omega) (by omega) (by omega) (by omega)
 omega
theorem Mrg.step {D E : List (α × Nat)} {n bs t : Nat} (h : Mrg z gt D n bs t) (o : Opn z (t * (2 * bs)) (t * (2 * bs) + 2 * bs) D E) (f : Fal z gt E (t * (2 * bs)) (t * (2 * bs) + 2 * bs)) (hn : t * (2 * bs) + 2 * bs ≤ n) : Mrg z gt E n bs (t + 1):=by
 refine ⟨fun c p q h1 h2 h3 h4=>?_,fun c p q h0 h1 h2 h3 h4=>?_,h.in2.op o (Nat.le_refl _) hn,fun c k h0 h1 h2 h3=>?_⟩
 ·rw [Nat.succ_mul] at h3
  by_cases c1 : t * (2 * bs) ≤ p
  ·exact f p q c1 h2 h3
  have:=blk_lt h1 (show p < t * (2 * bs) by omega);rw [o.out p (by omega),o.out q (by omega)];exact h.so c p q h1 h2 (by omega) h4
 ·rw [Nat.succ_mul] at h0
  rw [o.out p (by omega),o.out q (by omega)];exact h.half c p q (by omega) h1 h2 h3 h4
 rw [Nat.succ_mul] at h0
 rw [o.out k (by omega)];exact h.in1 c k (by omega) h1 h2 h3
theorem Mrg.last {D E : List (α × Nat)} {n bs t : Nat} (h : Mrg z gt D n bs t) (o : Opn z (t * (2 * bs)) n D E) (f : Fal z gt E (t * (2 * bs)) n) (hn : n ≤ t * (2 * bs) + 2 * bs) : SB z gt E n (2 * bs) ∧ InB z E n (2 * bs):=by
 refine ⟨fun c p q h1 h2 h3 h4=>?_,h.in2.op o hn (Nat.le_refl _)⟩
 by_cases c1 : t * (2 * bs) ≤ p
 ·exact f p q c1 h2 h3
 have:=blk_lt h1 (show p < t * (2 * bs) by omega);rw [o.out p (by omega),o.out q (by omega)];exact h.so c p q h1 h2 (by omega) h4
theorem SB.all {D : List (α × Nat)} {n bs : Nat} (h : SB z gt D n bs) (hn : n ≤ bs) : Fal z gt D 0 n:=fun p q h1 h2 h3=>h 0 p q (by omega) h2 h3 (by omega)
structure Slip (z : α × Nat) (gt : α → α → Bool) (D : List (α × Nat)) (a j i : Nat) : Prop where
 rest : ∀ p q,a ≤ p → p < q → q ≤ i → p ≠ j → q ≠ j → Bef gt (g z D p) (g z D q)
 up : ∀ q,j < q → q ≤ i → gt (g z D j).1 (g z D q).1 = true
 tie : ∀ q,a ≤ q → q < j → (g z D q).2 < (g z D j).2
theorem Slip.start {D : List (α × Nat)} {a i : Nat} (h : Fal z gt D a i) (ht : Tie z D a i (i + 1)) : Slip z gt D a i i :=
 ⟨fun p q h1 h2 h3 h4 h5=>h p q h1 h2 (by omega),fun q h1 h2=>absurd h1 (by omega),fun q h1 h2=>ht q i h1 h2 (Nat.le_refl _) (by omega)⟩
theorem Slip.step (W : Weak gt) {D : List (α × Nat)} {a j i : Nat} (h : Slip z gt D a (j + 1) i) (ha : a ≤ j) (hj : j + 1 ≤ i) (hi : i < D.length) (lt : gt (g z D (j + 1)).1 (g z D j).1 = true) : Slip z gt (sw z D (j + 1) j) a j i:=by
 have gs : ∀ k,g z (sw z D (j + 1) j) k = if k = j then g z D (j + 1) else if k = j + 1 then g z D j else g z D k:=fun k=>sw_get D _ _ k (by omega) (by omega)
 refine ⟨fun p q h1 h2 h3 h4 h5=>?_,fun q h1 h2=>?_,fun q h1 h2=>?_⟩
 ·rw [gs p,gs q,if_neg h4,if_neg h5]
  by_cases c1 : p = j + 1
  ·rw [if_pos c1,if_neg (by omega)];exact h.rest j q ha (by omega) h3 (by omega) (by omega)
  rw [if_neg c1]
  by_cases c2 : q = j + 1
  ·rw [if_pos c2];exact h.rest p j h1 (by omega) (by omega) c1 (by omega)
  rw [if_neg c2];exact h.rest p q h1 h2 h3 c1 c2
 ·rw [gs j,gs q,if_pos rfl,if_neg (by omega)]
  by_cases c1 : q = j + 1
  ·rw [if_pos c1];exact lt
  rw [if_neg c1];exact h.up q (by omega) h2
 rw [gs j,gs q,if_pos rfl,if_neg (by omega),if_neg (by omega)];exact h.tie q h1 (by omega)
theorem Slip.stop (W : Weak gt) {D : List (α × Nat)} {a j i : Nat} (h : Slip z gt D a j i) (ha : a ≤ j) (hj : j ≤ i) (st : j = a ∨ (a < j ∧ gt (g z D j).1 (g z D (j - 1)).1 = false)) : Fal z gt D a (i + 1):=by
 intro p q h1 h2 h3
 by_cases c1 : p = j
 ·subst c1;have:=h.up q h2 (by omega);exact ⟨W.asym _ _ this,fun n=>by rw [this] at n;cases n⟩
 by_cases c2 : q = j
 ·subst c2
  rcases st with e|⟨e1,e2⟩
  ·omega
  refine ⟨?_,fun _=>h.tie p h1 h2⟩
  by_cases c3 : p = q - 1
  ·subst c3;exact e2
  exact Le.trans W (h.rest p (q - 1) h1 (by omega) (by omega) c1 (by omega)).1 e2
 exact h.rest p q h1 h2 (by omega) c1 c2
end
end Go.Proofs.Ytlgamjgdkljfiaa.QSortTallyBegins
namespace Go.Proofs.Ytlgamjgdkljfiaa.QStabTallyBegins
open Go.RowKit Go.Proofs.Ytlgamjgdkljfiaa.PTallyBegins Go.Proofs.YtlgamjgdkljfiaaW.PrintWords Go.Proofs.YtlgamjgdkljfiaaW.PrintLast Go.Proofs.YtlgamjgdkljfiaaW.PrintMore Go.Proofs.Ytlgamjgdkljfiaa.QSortTallyBegins
set_option linter.unusedVariables false
set_option linter.unusedSimpArgs false
theorem w64 (n : Int) (h : -9223372036854775808 ≤ n) (h2 : n ≤ 9223372036854775807) : wrap64 n = n:=by unfold wrap64;omega
abbrev zI : Int × Nat:=((0 : Int),0)
def gtI (x y : Int) : Bool:=decide (y < x)
theorem gtI_weak : Weak gtI:=⟨fun x y h=>by unfold gtI at *;rw [decide_eq_true_eq] at h;exact decide_eq_false (by omega),fun x y z h1 h2=>by unfold gtI at *;rw [decide_eq_false_iff_not] at *;omega⟩
abbrev gI (T : List (Int × Nat)) (k : Nat) : Int × Nat:=g zI T k
def Un (T : List (Int × Nat)) : List Int:=T.map (·.1)
theorem un_len (T : List (Int × Nat)) : (Un T).length = T.length:=List.length_map ..
theorem un_rd (T : List (Int × Nat)) (k : Nat) : rd (Un T) (k : Int) = (gI T k).1:=by
 unfold rd Un gI g
 rw [Int.toNat_natCast,List.getD_eq_getElem?_getD,List.getD_eq_getElem?_getD,List.getElem?_map]
 cases T[k]? <;> rfl
theorem un_sw (T : List (Int × Nat)) (i j : Nat) : ((Un T).set ((i : Int)).toNat (gI T j).1).set ((j : Int)).toNat (gI T i).1 = Un (sw zI T i j):=by
 unfold Un sw
 rw [Int.toNat_natCast,Int.toNat_natCast,List.map_set,List.map_set]
theorem cmp_if {β : Type} (a b : Int) (X Y : Option β) : ((tally_Top_int_1.f a b).bind fun t=>if t < 0 then X else Y) = if gtI a b = true then X else Y:=by
 have e : tally_Top_int_1.f a b = some (if b < a then -1 else if b > a then 1 else 0):=by
  unfold tally_Top_int_1.f cmp_Compare_int.f cmp_isNaN_int.f
  simp only [Option.bind_some,bne_self_eq_false,Bool.false_eq_true,if_false]
  split
  ·rfl
  split <;> rfl
 rw [e,Option.bind_some]
 unfold gtI
 by_cases h : b < a
 ·rw [if_pos h,if_pos (by decide),if_pos (decide_eq_true h)]
 rw [if_neg h,if_neg (show ¬ decide (b < a) = true by rw [decide_eq_false h];decide)]
 split
 ·rw [if_neg (by decide)]
 rw [if_neg (by decide)]
def To {α : Type} (f f' : Nat → Option α) : Prop:=∀ r,Ev f' r → Ev f r
theorem To.refl {α : Type} (f : Nat → Option α) : To f f:=fun r h=>h
theorem To.trans {α : Type} {f f' f'' : Nat → Option α} (h1 : To f f') (h2 : To f' f'') : To f f'':=fun r h=>h1 r (h2 r h)
theorem To.step {α : Type} {f f' : Nat → Option α} (h : ∀ k,f (k + 1) = f' k) : To f f':=fun r hr=>Ev.step h hr
theorem ins_stop (k : Nat) (T : List (Int × Nat)) (a b i j : Nat) (hj : j ≤ a) (hi : i < 17592186044416) : slices_insertionSortCmpFunc_int.l1 (k + 1) (Un T) a b i j = slices_insertionSortCmpFunc_int.l0 k (Un T) a b ((i + 1 : Nat) : Int):=by
 rw [slices_insertionSortCmpFunc_int.l1,if_neg (by omega),show wrap64 ((i : Int) + 1) = ((i + 1 : Nat) : Int) by rw [w64 _ (by omega) (by omega)];omega]
theorem ins_go (k : Nat) (T : List (Int × Nat)) (a b i j : Nat) (hj : a < j + 1) (hl : j + 1 < T.length) (hT : T.length ≤ 17592186044416) (hi : i < 17592186044416) : slices_insertionSortCmpFunc_int.l1 (k + 1) (Un T) a b i ((j + 1 : Nat) : Int) = if gtI (gI T (j + 1)).1 (gI T j).1 = true then slices_insertionSortCmpFunc_int.l1 k (Un (sw zI T (j + 1) j)) a b i (j : Int) else slices_insertionSortCmpFunc_int.l0 k (Un T) a b ((i + 1 : Nat) : Int):=by
 have e1 : wrap64 (((j + 1 : Nat) : Int) - 1) = (j : Int):=by rw [w64 _ (by omega) (by omega)];omega
 have e2 : wrap64 ((i : Int) + 1) = ((i + 1 : Nat) : Int):=by rw [w64 _ (by omega) (by omega)];omega
 rw [slices_insertionSortCmpFunc_int.l1,e1,e2,un_len,if_pos (by omega),if_pos (by omega),if_pos (by omega),if_pos (by omega),if_pos (by omega),un_rd,un_rd,cmp_if,un_sw]
theorem ins_inner {a b i : Nat} : ∀ d (T : List (Int × Nat)),i < T.length → T.length ≤ 17592186044416 → a + d ≤ i → Slip zI gtI T a (a + d) i →
  ∃ T',Opn zI a (i + 1) T T' ∧ Fal zI gtI T' a (i + 1) ∧ To (fun k=>slices_insertionSortCmpFunc_int.l1 k (Un T) a b i ((a + d : Nat) : Int)) (fun k=>slices_insertionSortCmpFunc_int.l0 k (Un T') a b ((i + 1 : Nat) : Int))
 | 0,T,hi,hT,hd,h=>⟨T,Opn.refl _ _ _,h.stop gtI_weak (Nat.le_refl _) (by omega) (.inl rfl),To.step (fun k=>ins_stop k T a b i a (Nat.le_refl _) (by omega))⟩
 | d + 1,T,hi,hT,hd,h=>by
  have st : ∀ k,_:=fun k=>ins_go k T a b i (a + d) (by omega) (by omega) hT (by omega)
  cases c : gtI (gI T (a + d + 1)).1 (gI T (a + d)).1 with
  | true =>
   have hs : Slip zI gtI T a (a + d + 1) i:=h;have h' : Slip zI gtI (sw zI T (a + d + 1) (a + d)) a (a + d) i:=hs.step gtI_weak (by omega) (by omega) hi c;obtain ⟨T',o,f,t⟩:=ins_inner d (sw zI T (a + d + 1) (a + d)) (by rw [sw_len];exact hi) (by rw [sw_len];exact hT) (by omega) h';exact ⟨T',(sw_op T _ _ (by omega) (by omega) (by omega) (by omega) (by omega)).trans o,f,To.trans (To.step (fun k=>(st k).trans (by rw [c,if_pos rfl]))) t⟩
  | false =>
   exact ⟨T,Opn.refl _ _ _,h.stop gtI_weak (by omega) (by omega) (.inr ⟨by omega,c⟩),To.step (fun k=>(st k).trans (by rw [c,if_neg Bool.false_ne_true]))⟩
theorem ins_outer {a b : Nat} : ∀ d (T : List (Int × Nat)) (i : Nat),i + d = b → a < i → b ≤ T.length → T.length ≤ 17592186044416 → Fal zI gtI T a i → (∀ k,i ≤ k → k < b → (gI T k).2 = k) → (∀ k,a ≤ k → k < i → (gI T k).2 < i) →
  ∃ T',Opn zI a b T T' ∧ Fal zI gtI T' a b ∧ Ev (fun k=>slices_insertionSortCmpFunc_int.l0 k (Un T) a b (i : Int)) (Un T')
 | 0,T,i,hd,hai,hb,hT,f,t1,t2=>⟨T,Opn.refl _ _ _,(show i = b by omega) ▸ f,Ev.step (f:=fun _=>some (Un T)) (fun k=>by rw [slices_insertionSortCmpFunc_int.l0,if_neg (by omega)]) (Ev.now _)⟩
 | d + 1,T,i,hd,hai,hb,hT,f,t1,t2=>by
  have tie : Tie zI T a i (i + 1):=by
   intro p q h1 h2 h3 h4
   have : q = i:=by omega
   subst this;have y1 : (g zI T q).2 = q:=t1 q (Nat.le_refl _) (by omega);have y2 : (g zI T p).2 < q:=t2 p h1 h2
   omega
  have sl:=Slip.start f tie;obtain ⟨T1,o,f1,t⟩:=ins_inner (a:=a) (b:=b) (i:=i) (i - a) T (by omega) hT (by omega) (by rw [show a + (i - a) = i by omega];exact sl)
  rw [show a + (i - a) = i by omega] at t
  obtain ⟨T2,o2,f2,e2⟩:=ins_outer (a:=a) (b:=b) d T1 (i + 1) (by omega) (by omega) (by rw [o.len];exact hb) (by rw [o.len];exact hT) f1 (fun k h1 h2=>(congrArg Prod.snd (o.out k (by omega))).trans (t1 k (by omega) h2)) (fun k h1 h2=>by
   obtain ⟨k',g1,g2,e⟩:=o.mem k h1 h2
   show (g zI T1 k).2 < i + 1
   rw [e]
   by_cases c : k' = i
   ·subst c;have y : (g zI T k').2 = k':=t1 k' (Nat.le_refl _) (by omega)
    omega
   have y : (g zI T k').2 < i:=t2 k' g1 (by omega)
   omega)
  refine ⟨T2,(o.widen (Nat.le_refl _) (by omega)).trans o2,f2,Ev.step (fun k=>?_) (t _ e2)⟩;rw [slices_insertionSortCmpFunc_int.l0,if_pos (by omega)]
theorem ins_f {a b : Nat} (T : List (Int × Nat)) (hab : a ≤ b) (hb : b ≤ T.length) (hT : T.length ≤ 17592186044416) (t : ∀ k,a ≤ k → k < b → (gI T k).2 = k) :
  ∃ T',Opn zI a b T T' ∧ Fal zI gtI T' a b ∧ Ev (fun k=>slices_insertionSortCmpFunc_int.f k (Un T) a b ()) (Un T'):=by
 have e : wrap64 ((a : Int) + 1) = ((a + 1 : Nat) : Int):=by rw [w64 _ (by omega) (by omega)];omega
 by_cases c : b ≤ a + 1
 ·refine ⟨T,Opn.refl _ _ _,Fal.one _ _ _ c,Ev.congr (fun k=>by rw [slices_insertionSortCmpFunc_int.f,e]) (Ev.step (f:=fun _=>some (Un T)) (fun k=>by rw [slices_insertionSortCmpFunc_int.l0,if_neg (by omega)]) (Ev.now _))⟩
 obtain ⟨T',o,f,h⟩:=ins_outer (a:=a) (b:=b) (b - (a + 1)) T (a + 1) (by omega) (by omega) hb hT (Fal.one _ _ _ (Nat.le_refl _)) (fun k h1 h2=>t k (by omega) h2) (fun k h1 h2=>by have:=t k h1 (by omega);omega);exact ⟨T',o,f,Ev.congr (fun k=>by rw [slices_insertionSortCmpFunc_int.f,e]) h⟩
theorem swr_loop {a b n : Nat} {D : List (Int × Nat)} (hab : a + n ≤ b) (hb : b + n ≤ D.length) (hT : D.length ≤ 17592186044416) : ∀ d t (E : List (Int × Nat)),t + d = n → SwR zI a b t D E →
  ∃ F,SwR zI a b n D F ∧ Ev (fun k=>slices_swapRangeCmpFunc_int.l0 k (Un E) a b n (t : Int)) (Un F)
 | 0,t,E,h,s=>⟨E,(show t = n by omega) ▸ s,Ev.step (f:=fun _=>some (Un E)) (fun k=>by rw [slices_swapRangeCmpFunc_int.l0,if_neg (by omega)]) (Ev.now _)⟩
 | d + 1,t,E,h,s=>by
  have len:=s.op.len;obtain ⟨F,s2,e⟩:=swr_loop hab hb hT d (t + 1) (sw zI E (a + t) (b + t)) (by omega) (s.succ (by omega) (by omega));refine ⟨F,s2,Ev.step (fun k=>?_) e⟩
  have e1 : wrap64 ((b : Int) + (t : Int)) = ((b + t : Nat) : Int):=by rw [w64 _ (by omega) (by omega)];omega
  have e2 : wrap64 ((a : Int) + (t : Int)) = ((a + t : Nat) : Int):=by rw [w64 _ (by omega) (by omega)];omega
  have e3 : wrap64 ((t : Int) + 1) = ((t + 1 : Nat) : Int):=by rw [w64 _ (by omega) (by omega)];omega
  rw [slices_swapRangeCmpFunc_int.l0,e1,e2,e3,un_len,if_pos (by omega),if_pos (by omega),if_pos (by omega),if_pos (by omega),if_pos (by omega),un_rd,un_rd,un_sw]
theorem swr_f {a b n : Nat} (D : List (Int × Nat)) (hab : a + n ≤ b) (hb : b + n ≤ D.length) (hT : D.length ≤ 17592186044416) : ∃ F,SwR zI a b n D F ∧ Ev (fun k=>slices_swapRangeCmpFunc_int.f k (Un D) a b n ()) (Un F):=by
 obtain ⟨F,s,e⟩:=swr_loop hab hb hT n 0 D (by omega) (SwR.zero _ _ _);exact ⟨F,s,e⟩
theorem rot_loop (s : Nat) : ∀ (i j m : Nat) (D : List (Int × Nat)),i + j ≤ s → 0 < i → 0 < j → i ≤ m → m + j ≤ D.length → D.length ≤ 17592186044416 →
  ∃ F,Rot zI (m - i) m (m + j) D F ∧ Ev (fun k=>slices_rotateCmpFunc_int.l0 k (Un D) m () i j) (Un F):=by
 induction s with
 | zero=>intro i j m D h hi;omega
 | succ s ih =>
  intro i j m D h hi hj him hm hT
  have e1 : wrap64 ((m : Int) - (i : Int)) = ((m - i : Nat) : Int):=by rw [w64 _ (by omega) (by omega)];omega
  rcases Nat.lt_trichotomy i j with c|c|c
  ·obtain ⟨E,s1,v1⟩:=swr_f (a:=m - i) (b:=m + j - i) (n:=i) D (by omega) (by omega) hT;obtain ⟨F,r,v2⟩:=ih i (j - i) m E (by omega) hi (by omega) him (by rw [s1.op.len];omega) (by rw [s1.op.len];exact hT);refine ⟨F,Rot.less him c s1 r,Ev.step (fun k=>?_) (Ev.bind (f:=fun k t=>slices_rotateCmpFunc_int.l0 k t m () i ((j - i : Nat) : Int)) v1 v2)⟩
   have e2 : wrap64 (wrap64 ((m : Int) + (j : Int)) - (i : Int)) = ((m + j - i : Nat) : Int):=by rw [w64 ((m : Int) + j) (by omega) (by omega),w64 _ (by omega) (by omega)];omega
   have e3 : wrap64 ((j : Int) - (i : Int)) = ((j - i : Nat) : Int):=by rw [w64 _ (by omega) (by omega)];omega
   rw [slices_rotateCmpFunc_int.l0,if_neg (by omega),if_neg (by omega),e1,e2,e3]
  ·subst c;obtain ⟨E,s1,v1⟩:=swr_f (a:=m - i) (b:=m) (n:=i) D (by omega) (by omega) hT;refine ⟨E,Rot.swap s1 (by omega),Ev.step (fun k=>?_) (Ev.bind (f:=fun k t=>some t) v1 (Ev.now _))⟩;rw [slices_rotateCmpFunc_int.l0,if_pos rfl,e1]
  obtain ⟨E,s1,v1⟩:=swr_f (a:=m - i) (b:=m) (n:=j) D (by omega) (by omega) hT;obtain ⟨F,r,v2⟩:=ih (i - j) j m E (by omega) (by omega) hj (by omega) (by rw [s1.op.len];omega) (by rw [s1.op.len];exact hT);refine ⟨F,Rot.more him c s1 r,Ev.step (fun k=>?_) (Ev.bind (f:=fun k t=>slices_rotateCmpFunc_int.l0 k t m () ((i - j : Nat) : Int) j) v1 v2)⟩
  have e3 : wrap64 ((i : Int) - (j : Int)) = ((i - j : Nat) : Int):=by rw [w64 _ (by omega) (by omega)];omega
  rw [slices_rotateCmpFunc_int.l0,if_neg (by omega),if_pos (by omega),e1,e3]
theorem rot_f {a m b : Nat} (D : List (Int × Nat)) (h1 : a < m) (h2 : m < b) (hb : b ≤ D.length) (hT : D.length ≤ 17592186044416) : ∃ F,Rot zI a m b D F ∧ Ev (fun k=>slices_rotateCmpFunc_int.f k (Un D) a m b ()) (Un F):=by
 obtain ⟨F,r,v⟩:=rot_loop ((m - a) + (b - m)) (m - a) (b - m) m D (Nat.le_refl _) (by omega) (by omega) (by omega) (by omega) hT
 rw [show m - (m - a) = a by omega,show m + (b - m) = b by omega] at r
 refine ⟨F,r,Ev.congr (fun k=>?_) v⟩
 have e1 : wrap64 ((m : Int) - (a : Int)) = ((m - a : Nat) : Int):=by rw [w64 _ (by omega) (by omega)];omega
 have e2 : wrap64 ((b : Int) - (m : Int)) = ((b - m : Nat) : Int):=by rw [w64 _ (by omega) (by omega)];omega
 rw [slices_rotateCmpFunc_int.f,e1,e2]
theorem half (x y : Nat) (h : x + y ≤ 140737488355328) : wrap64 ((IntKind.u64.wrap (wrap64 ((x : Int) + (y : Int)))) / 2) = (((x + y) / 2 : Nat) : Int):=by
 rw [w64 ((x : Int) + y) (by omega) (by omega),Go.IntWalk.u64_in _ (by omega),w64 _ (by omega) (by omega)]
 omega
theorem ws (i : Nat) (h : i ≤ 140737488355328) : wrap64 ((i : Int) + 1) = ((i + 1 : Nat) : Int):=by rw [w64 _ (by omega) (by omega)];omega
theorem up_go (k : Nat) (D : List (Int × Nat)) (a i j h : Nat) (hh : h = (i + j) / 2) (hij : i < j) (hl : h < D.length) (ha : a < D.length) (hT : D.length ≤ 17592186044416) (hj : j ≤ D.length) : slices_symMergeCmpFunc_int.l0 (k + 1) (Un D) a i j = if gtI (gI D h).1 (gI D a).1 = true then slices_symMergeCmpFunc_int.l0 k (Un D) a ((h + 1 : Nat) : Int) j else slices_symMergeCmpFunc_int.l0 k (Un D) a i (h : Int):=by
 have x1 : (i : Int) < (j : Int):=by omega
 have x2 : (0 : Int) ≤ (h : Int):=by omega
 have x3 : (h : Int) < (D.length : Int):=by omega
 have x4 : (0 : Int) ≤ (a : Int):=by omega
 have x5 : (a : Int) < (D.length : Int):=by omega
 have hs : i + j ≤ 140737488355328:=by omega
 have e1:=ws h (by omega);have eh:=half i j hs
 rw [← hh] at eh
 rw [slices_symMergeCmpFunc_int.l0,eh,e1,un_len,if_pos x1,if_pos x2,if_pos x3,if_pos x4,if_pos x5,un_rd,un_rd,cmp_if]
theorem down_go (k : Nat) (D : List (Int × Nat)) (m i j h : Nat) (hh : h = (i + j) / 2) (hij : i < j) (hl : h < D.length) (hm : m < D.length) (hT : D.length ≤ 17592186044416) (hj : j ≤ D.length) : slices_symMergeCmpFunc_int.l2 (k + 1) (Un D) m i j = if gtI (gI D m).1 (gI D h).1 = true then slices_symMergeCmpFunc_int.l2 k (Un D) m i (h : Int) else slices_symMergeCmpFunc_int.l2 k (Un D) m ((h + 1 : Nat) : Int) j:=by
 have x1 : (i : Int) < (j : Int):=by omega
 have x2 : (0 : Int) ≤ (h : Int):=by omega
 have x3 : (h : Int) < (D.length : Int):=by omega
 have x4 : (0 : Int) ≤ (m : Int):=by omega
 have x5 : (m : Int) < (D.length : Int):=by omega
 have hs : i + j ≤ 140737488355328:=by omega
 have e1:=ws h (by omega);have eh:=half i j hs
 rw [← hh] at eh
 rw [slices_symMergeCmpFunc_int.l2,eh,e1,un_len,if_pos x1,if_pos x4,if_pos x5,if_pos x2,if_pos x3,un_rd,un_rd,cmp_if]
theorem cut_go (k : Nat) (D : List (Int × Nat)) (a m b mid n i j h q : Nat) (hh : h = (i + j) / 2) (hq : q + h = n - 1) (hn : 0 < n) (hn2 : n ≤ 140737488355328) (hij : i < j) (hl : h < D.length) (hm : q < D.length) (hT : D.length ≤ 17592186044416) (hj : i + j ≤ 140737488355328) : slices_symMergeCmpFunc_int.l4 (k + 1) (Un D) a m b () mid n i j ((n - 1 : Nat) : Int) = if gtI (gI D q).1 (gI D h).1 = true then slices_symMergeCmpFunc_int.l4 k (Un D) a m b () mid n i (h : Int) ((n - 1 : Nat) : Int) else slices_symMergeCmpFunc_int.l4 k (Un D) a m b () mid n ((h + 1 : Nat) : Int) j ((n - 1 : Nat) : Int):=by
 have x1 : (i : Int) < (j : Int):=by omega
 have x2 : (0 : Int) ≤ (h : Int):=by omega
 have x3 : (h : Int) < (D.length : Int):=by omega
 have x4 : (0 : Int) ≤ (q : Int):=by omega
 have x5 : (q : Int) < (D.length : Int):=by omega
 have e1:=ws h (by omega)
 have e2 : wrap64 (((n - 1 : Nat) : Int) - (h : Int)) = (q : Int):=by rw [w64 _ (by omega) (by omega)];omega
 have eh:=half i j hj
 rw [← hh] at eh
 rw [slices_symMergeCmpFunc_int.l4,eh,e1,e2,un_len,if_pos x1,if_pos x4,if_pos x5,if_pos x2,if_pos x3,un_rd,un_rd,cmp_if]
theorem up_search {a m b : Nat} (D : List (Int × Nat)) (ham : a < m) (hb : b ≤ D.length) (hT : D.length ≤ 17592186044416) (s : Nat) : ∀ i j,j - i ≤ s → m ≤ i → i ≤ j → j ≤ b → (i = m ∨ gtI (gI D (i - 1)).1 (gI D a).1 = true) → (j = b ∨ gtI (gI D j).1 (gI D a).1 = false) →
  ∃ p,m ≤ p ∧ p ≤ b ∧ (p = m ∨ gtI (gI D (p - 1)).1 (gI D a).1 = true) ∧ (p = b ∨ gtI (gI D p).1 (gI D a).1 = false) ∧ To (fun k=>slices_symMergeCmpFunc_int.l0 k (Un D) a i j) (fun k=>slices_symMergeCmpFunc_int.l1 k (Un D) p a):=by
 induction s with
 | zero =>
  intro i j h1 h2 h3 h4 h5 h6
  have : i = j:=by omega
  subst this;exact ⟨i,h2,h4,h5,h6,To.step (fun k=>by rw [slices_symMergeCmpFunc_int.l0,if_neg (by omega)])⟩
 | succ s ih =>
  intro i j h1 h2 h3 h4 h5 h6
  by_cases c : i < j
  ·obtain ⟨h,hh⟩ : ∃ h,h = (i + j) / 2:=⟨_,rfl⟩
   have hb1 : i ≤ h:=by omega
   have hb2 : h < j:=by omega
   have st:=fun k=>up_go k D a i j h hh c (by omega) (by omega) hT (by omega)
   clear hh
   cases q : gtI (gI D h).1 (gI D a).1 with
   | true =>
    obtain ⟨p,p1,p2,p3,p4,p5⟩:=ih (h + 1) j (by omega) (by omega) (by omega) h4 (.inr q) h6;exact ⟨p,p1,p2,p3,p4,To.trans (To.step (fun k=>by rw [st k,q,if_pos rfl])) p5⟩
   | false =>
    obtain ⟨p,p1,p2,p3,p4,p5⟩:=ih i h (by omega) h2 (by omega) (by omega) h5 (.inr q);exact ⟨p,p1,p2,p3,p4,To.trans (To.step (fun k=>by rw [st k,q,if_neg Bool.false_ne_true])) p5⟩
  have : i = j:=by omega
  subst this;exact ⟨i,h2,h4,h5,h6,To.step (fun k=>by rw [slices_symMergeCmpFunc_int.l0,if_neg (by omega)])⟩
theorem down_search {a m : Nat} (D : List (Int × Nat)) (hb : m < D.length) (hT : D.length ≤ 17592186044416) (s : Nat) : ∀ i j,j - i ≤ s → a ≤ i → i ≤ j → j ≤ m → (i = a ∨ gtI (gI D m).1 (gI D (i - 1)).1 = false) → (j = m ∨ gtI (gI D m).1 (gI D j).1 = true) →
  ∃ p,a ≤ p ∧ p ≤ m ∧ (p = a ∨ gtI (gI D m).1 (gI D (p - 1)).1 = false) ∧ (p = m ∨ gtI (gI D m).1 (gI D p).1 = true) ∧ To (fun k=>slices_symMergeCmpFunc_int.l2 k (Un D) m i j) (fun k=>slices_symMergeCmpFunc_int.l3 k (Un D) p m):=by
 induction s with
 | zero =>
  intro i j h1 h2 h3 h4 h5 h6
  have : i = j:=by omega
  subst this;exact ⟨i,h2,h4,h5,h6,To.step (fun k=>by rw [slices_symMergeCmpFunc_int.l2,if_neg (by omega)])⟩
 | succ s ih =>
  intro i j h1 h2 h3 h4 h5 h6
  by_cases c : i < j
  ·obtain ⟨h,hh⟩ : ∃ h,h = (i + j) / 2:=⟨_,rfl⟩
   have hb1 : i ≤ h:=by omega
   have hb2 : h < j:=by omega
   have st:=fun k=>down_go k D m i j h hh c (by omega) (by omega) hT (by omega)
   clear hh
   cases q : gtI (gI D m).1 (gI D h).1 with
   | true =>
    obtain ⟨p,p1,p2,p3,p4,p5⟩:=ih i h (by omega) h2 (by omega) (by omega) h5 (.inr q);exact ⟨p,p1,p2,p3,p4,To.trans (To.step (fun k=>by rw [st k,q,if_pos rfl])) p5⟩
   | false =>
    obtain ⟨p,p1,p2,p3,p4,p5⟩:=ih (h + 1) j (by omega) (by omega) (by omega) h4 (.inr q) h6;exact ⟨p,p1,p2,p3,p4,To.trans (To.step (fun k=>by rw [st k,q,if_neg Bool.false_ne_true])) p5⟩
  have : i = j:=by omega
  subst this;exact ⟨i,h2,h4,h5,h6,To.step (fun k=>by rw [slices_symMergeCmpFunc_int.l2,if_neg (by omega)])⟩
theorem up_move {a i : Nat} {D : List (Int × Nat)} (hi : i ≤ D.length) (hT : D.length ≤ 17592186044416) : ∀ d p (E : List (Int × Nat)),p + d + 1 = i → a ≤ p → Opn zI a i D E → (∀ k,a ≤ k → k < p → gI E k = gI D (k + 1)) → gI E p = gI D a → (∀ k,p < k → gI E k = gI D k) →
  ∃ F,Opn zI a i D F ∧ (∀ k,a ≤ k → k < i - 1 → gI F k = gI D (k + 1)) ∧ gI F (i - 1) = gI D a ∧ (∀ k,i ≤ k → gI F k = gI D k) ∧ Ev (fun k=>slices_symMergeCmpFunc_int.l1 k (Un E) i p) (Un F)
 | 0,p,E,h,ha,o,h1,h2,h3=>by
  have hp : p = i - 1:=by omega
  have e1 : wrap64 ((i : Int) - 1) = ((i - 1 : Nat) : Int):=by rw [w64 _ (by omega) (by omega)];omega
  refine ⟨E,o,fun k g1 g2=>h1 k g1 (by omega),hp ▸ h2,fun k g=>h3 k (by omega),Ev.step (f:=fun _=>some (Un E)) (fun k=>?_) (Ev.now _)⟩;rw [slices_symMergeCmpFunc_int.l1,e1,if_neg (by omega)]
 | d + 1,p,E,h,ha,o,h1,h2,h3=>by
  have len:=o.len
  have gs : ∀ k,gI (sw zI E p (p + 1)) k = if k = p + 1 then gI E p else if k = p then gI E (p + 1) else gI E k:=fun k=>sw_get E _ _ k (by omega) (by omega)
  obtain ⟨F,o2,f1,f2,f3,v⟩:=up_move hi hT d (p + 1) (sw zI E p (p + 1)) (by omega) (by omega) (o.trans (sw_op E _ _ ha (by omega) (by omega) (by omega) (by omega)))
   (fun k g1 g2=>by
    rw [gs,if_neg (by omega)]
    by_cases c : k = p
    ·rw [if_pos c,h3 (p + 1) (by omega),c]
    rw [if_neg c];exact h1 k g1 (by omega))
   (by rw [gs,if_pos rfl];exact h2)
   (fun k g=>by rw [gs,if_neg (by omega),if_neg (by omega)];exact h3 k (by omega))
  refine ⟨F,o2,f1,f2,f3,Ev.step (fun k=>?_) v⟩
  have e1 : wrap64 ((i : Int) - 1) = ((i - 1 : Nat) : Int):=by rw [w64 _ (by omega) (by omega)];omega
  have e2 : wrap64 ((p : Int) + 1) = ((p + 1 : Nat) : Int):=by rw [w64 _ (by omega) (by omega)];omega
  rw [slices_symMergeCmpFunc_int.l1,e1,e2,un_len,if_pos (by omega),if_pos (by omega),if_pos (by omega),if_pos (by omega),if_pos (by omega),un_rd,un_rd,un_sw]
theorem down_move {i m : Nat} {D : List (Int × Nat)} (hm : m < D.length) (hT : D.length ≤ 17592186044416) : ∀ d p (E : List (Int × Nat)),p = i + d → p ≤ m → Opn zI i (m + 1) D E → (∀ k,p < k → k ≤ m → gI E k = gI D (k - 1)) → gI E p = gI D m → (∀ k,k < p → gI E k = gI D k) →
  ∃ F,Opn zI i (m + 1) D F ∧ (∀ k,i < k → k ≤ m → gI F k = gI D (k - 1)) ∧ gI F i = gI D m ∧ (∀ k,k < i → gI F k = gI D k) ∧ Ev (fun k=>slices_symMergeCmpFunc_int.l3 k (Un E) i p) (Un F)
 | 0,p,E,h,hpm,o,h1,h2,h3=>by
  have hp : p = i:=by omega
  subst hp;exact ⟨E,o,h1,h2,h3,Ev.step (f:=fun _=>some (Un E)) (fun k=>by rw [slices_symMergeCmpFunc_int.l3,if_neg (by omega)]) (Ev.now _)⟩
 | d + 1,p,E,h,hpm,o,h1,h2,h3=>by
  have len:=o.len
  obtain ⟨q,rfl⟩ : ∃ q,p = q + 1:=⟨p - 1,by omega⟩
  have gs : ∀ k,gI (sw zI E (q + 1) q) k = if k = q then gI E (q + 1) else if k = q + 1 then gI E q else gI E k:=fun k=>sw_get E _ _ k (by omega) (by omega)
  obtain ⟨F,o2,f1,f2,f3,v⟩:=down_move hm hT d q (sw zI E (q + 1) q) (by omega) (by omega) (o.trans (sw_op E _ _ (by omega) (by omega) (by omega) (by omega) (by omega)))
   (fun k g1 g2=>by
    rw [gs,if_neg (by omega)]
    by_cases c : k = q + 1
    ·rw [if_pos c,h3 q (by omega),c];rfl
    rw [if_neg c];exact h1 k (by omega) g2)
   (by rw [gs,if_pos rfl];exact h2)
   (fun k g=>by rw [gs,if_neg (by omega),if_neg (by omega)];exact h3 k (by omega))
  refine ⟨F,o2,f1,f2,f3,Ev.step (fun k=>?_) v⟩
  have e1 : wrap64 (((q + 1 : Nat) : Int) - 1) = (q : Int):=by rw [w64 _ (by omega) (by omega)];omega
  rw [slices_symMergeCmpFunc_int.l3,e1,un_len,if_pos (by omega),if_pos (by omega),if_pos (by omega),if_pos (by omega),if_pos (by omega),un_rd,un_rd,un_sw]
theorem cut_search {a m b mid n s0 r0 : Nat} (D : List (Int × Nat)) (hb : b ≤ D.length) (hT : D.length ≤ 17592186044416) (hn : 0 < n) (hn2 : n ≤ 2 * b) (lo : ∀ c,s0 ≤ c → c < r0 → c < D.length ∧ c < n ∧ n - 1 - c < D.length) (s : Nat) : ∀ i j,j - i ≤ s → s0 ≤ i → i ≤ j → j ≤ r0 → r0 ≤ n → (i = s0 ∨ gtI (gI D (n - i)).1 (gI D (i - 1)).1 = false) → (j = r0 ∨ gtI (gI D (n - 1 - j)).1 (gI D j).1 = true) →
  ∃ p,s0 ≤ p ∧ p ≤ r0 ∧ (p = s0 ∨ gtI (gI D (n - p)).1 (gI D (p - 1)).1 = false) ∧ (p = r0 ∨ gtI (gI D (n - 1 - p)).1 (gI D p).1 = true) ∧
   To (fun k=>slices_symMergeCmpFunc_int.l4 k (Un D) a m b () mid n i j ((n - 1 : Nat) : Int)) (fun k=>if (p : Int) < (m : Int) then slices_symMergeCmpFunc_int.j6 k (Un D) a m b () mid p ((n - p : Nat) : Int) (decide ((m : Int) < ((n - p : Nat) : Int))) else slices_symMergeCmpFunc_int.j6 k (Un D) a m b () mid p ((n - p : Nat) : Int) false):=by
 have fin : ∀ p,p ≤ n → p ≤ r0 → ∀ k,slices_symMergeCmpFunc_int.l4 (k + 1) (Un D) a m b () mid n p p ((n - 1 : Nat) : Int) = if (p : Int) < (m : Int) then slices_symMergeCmpFunc_int.j6 k (Un D) a m b () mid p ((n - p : Nat) : Int) (decide ((m : Int) < ((n - p : Nat) : Int))) else slices_symMergeCmpFunc_int.j6 k (Un D) a m b () mid p ((n - p : Nat) : Int) false:=by
  intro p h1 h2 k
  have e1 : wrap64 ((n : Int) - (p : Int)) = ((n - p : Nat) : Int):=by rw [w64 _ (by omega) (by omega)];omega
  rw [slices_symMergeCmpFunc_int.l4,if_neg (by omega),e1]
 induction s with
 | zero =>
  intro i j h1 h2 h3 h4 h7 h5 h6
  have : i = j:=by omega
  subst this;exact ⟨i,h2,h4,h5,h6,To.step (fin i (by omega) h4)⟩
 | succ s ih =>
  intro i j h1 h2 h3 h4 h7 h5 h6
  by_cases c : i < j
  ·obtain ⟨h,hh⟩ : ∃ h,h = (i + j) / 2:=⟨_,rfl⟩
   have hb1 : i ≤ h:=by omega
   have hb2 : h < j:=by omega
   obtain ⟨l1,l2,l3⟩:=lo h (by omega) (by omega)
   have st:=fun k=>cut_go k D a m b mid n i j h (n - 1 - h) hh (by omega) hn (by omega) c l1 l3 hT (by omega)
   clear hh
   cases q : gtI (gI D (n - 1 - h)).1 (gI D h).1 with
   | true =>
    obtain ⟨p,p1,p2,p3,p4,p5⟩:=ih i h (by omega) h2 (by omega) (by omega) h7 h5 (.inr q);exact ⟨p,p1,p2,p3,p4,To.trans (To.step (fun k=>by rw [st k,q,if_pos rfl])) p5⟩
   | false =>
    obtain ⟨p,p1,p2,p3,p4,p5⟩:=ih (h + 1) j (by omega) (by omega) (by omega) h4 h7 (.inr (by rw [show n - (h + 1) = n - 1 - h by omega];exact q)) h6;exact ⟨p,p1,p2,p3,p4,To.trans (To.step (fun k=>by rw [st k,q,if_neg Bool.false_ne_true])) p5⟩
  have : i = j:=by omega
  subst this;exact ⟨i,h2,h4,h5,h6,To.step (fin i (by omega) h4)⟩
def SymOk (s : Nat) : Prop:=∀ (a m b : Nat) (D : List (Int × Nat)),b - a ≤ s → a < m → m < b → b ≤ D.length → D.length ≤ 17592186044416 → Fal zI gtI D a m → Fal zI gtI D m b → Tie zI D a m b →
  ∃ E,Opn zI a b D E ∧ Fal zI gtI E a b ∧ Ev (fun k=>slices_symMergeCmpFunc_int.f k (Un D) a m b ()) (Un E)
theorem right_ev {s : Nat} (ih : SymOk s) {mid e b : Nat} (D : List (Int × Nat)) (hs : b - mid ≤ s) (hme : mid ≤ e) (heb : e ≤ b) (hb : b ≤ D.length) (hT : D.length ≤ 17592186044416) (f1 : Fal zI gtI D mid e) (f2 : Fal zI gtI D e b) (t : Tie zI D mid e b) :
  ∃ F,Opn zI mid b D F ∧ Fal zI gtI F mid b ∧ Ev (fun k=>if (mid : Int) < (e : Int) then (if (e : Int) < (b : Int) then ((slices_symMergeCmpFunc_int.f k (Un D) mid e b ()).bind fun t166=>(some t166)) else (some (Un D))) else (some (Un D))) (Un F):=by
 by_cases c1 : mid < e
 ·by_cases c2 : e < b
  ·obtain ⟨F,o,f,v⟩:=ih mid e b D hs c1 c2 hb hT f1 f2 t;exact ⟨F,o,f,Ev.congr (fun k=>by rw [if_pos (by omega),if_pos (by omega)]) (Ev.bind (f:=fun _ t=>some t) v (Ev.now _))⟩
  have : e = b:=by omega
  subst this;exact ⟨D,Opn.refl _ _ _,f1,Ev.congr (f:=fun _=>some (Un D)) (fun k=>by rw [if_pos (by omega),if_neg (by omega)]) (Ev.now _)⟩
 have : e = mid:=by omega
 subst this;exact ⟨D,Opn.refl _ _ _,f2,Ev.congr (f:=fun _=>some (Un D)) (fun k=>by rw [if_neg (by omega)]) (Ev.now _)⟩
theorem j7_ev {s : Nat} (ih : SymOk s) {a p mid e b : Nat} (D : List (Int × Nat)) (hs1 : mid - a ≤ s) (hs2 : b - mid ≤ s) (h1 : a ≤ p) (h2 : p ≤ mid) (h3 : mid ≤ e) (h4 : e ≤ b) (hb : b ≤ D.length) (hT : D.length ≤ 17592186044416) (h : Halves zI gtI a p mid e b D) :
  ∃ F,Opn zI a b D F ∧ Fal zI gtI F a b ∧ Ev (fun k=>slices_symMergeCmpFunc_int.j7 k (Un D) a b () mid p e) (Un F):=by
 by_cases c : a < p ∧ p < mid
 ·obtain ⟨E,o1,f1,v1⟩:=ih a p mid D hs1 c.1 c.2 (by omega) hT h.a1 h.a2 h.ta;obtain ⟨F,o2,f2,v2⟩:=right_ev ih E hs2 h3 h4 (by rw [o1.len];exact hb) (by rw [o1.len];exact hT) (h.b1.congr (fun k g1 g2=>o1.out k (by omega))) (h.b2.congr (fun k g1 g2=>o1.out k (by omega))) (h.tb.after o1 (Nat.le_refl _));refine ⟨F,(o1.widen (Nat.le_refl _) (by omega)).trans (o2.widen (by omega) (Nat.le_refl _)),merged (by omega) (by omega) h.ab o1 f1 o2 f2,Ev.step (fun k=>?_) (Ev.step (g:=fun k=>slices_symMergeCmpFunc_int.j8 k (Un D) a b () mid p e true) (fun k=>?_) (Ev.bind (f:=fun k t165=>if (mid : Int) < (e : Int) then (if (e : Int) < (b : Int) then ((slices_symMergeCmpFunc_int.f k t165 mid e b ()).bind fun t166=>(some t166)) else (some t165)) else (some t165)) v1 v2))⟩
  ·rw [slices_symMergeCmpFunc_int.j7,if_pos (by omega),decide_eq_true (show (p : Int) < (mid : Int) by omega)]
  rw [slices_symMergeCmpFunc_int.j8,if_pos rfl]
 have f1 : Fal zI gtI D a mid:=by
  by_cases c1 : a < p
  ·have : p = mid:=by omega
   subst this;exact h.a1
  have : p = a:=by omega
  subst this;exact h.a2
 obtain ⟨F,o2,f2,v2⟩:=right_ev ih D hs2 h3 h4 hb hT h.b1 h.b2 h.tb;refine ⟨F,o2.widen (by omega) (Nat.le_refl _),merged (by omega) (by omega) h.ab (Opn.refl _ _ _) f1 o2 f2,Ev.step (f:=fun k=>slices_symMergeCmpFunc_int.j8 k (Un D) a b () mid p e false) (fun k=>?_) (Ev.step (fun k=>?_) v2)⟩
 ·rw [slices_symMergeCmpFunc_int.j7]
  by_cases c1 : (a : Int) < (p : Int)
  ·rw [if_pos c1,decide_eq_false (show ¬ (p : Int) < (mid : Int) by omega)]
  rw [if_neg c1]
 rw [slices_symMergeCmpFunc_int.j8,if_neg (by decide)]
theorem wsub (x y : Nat) (h : y ≤ x) (hx : x ≤ 140737488355328) : wrap64 ((x : Int) - (y : Int)) = ((x - y : Nat) : Int):=by rw [w64 _ (by omega) (by omega)];omega
theorem wadd (x y : Nat) (hx : x + y ≤ 140737488355328) : wrap64 ((x : Int) + (y : Int)) = ((x + y : Nat) : Int):=by rw [w64 _ (by omega) (by omega)];omega
theorem sym_one (k : Nat) (X : List Int) (a b : Nat) (hb : a + 1 ≤ 140737488355328) : slices_symMergeCmpFunc_int.f (k + 1) X a ((a + 1 : Nat) : Int) b () = slices_symMergeCmpFunc_int.l0 k X a ((a + 1 : Nat) : Int) b:=by
 rw [slices_symMergeCmpFunc_int.f,wsub (a + 1) a (by omega) hb,if_pos (by omega)]
theorem sym_last (k : Nat) (X : List Int) (a m : Nat) (ham : a < m) (c : ¬ m = a + 1) (hb : m + 1 ≤ 140737488355328) : slices_symMergeCmpFunc_int.f (k + 1) X a m ((m + 1 : Nat) : Int) () = slices_symMergeCmpFunc_int.l2 k X m a m:=by
 rw [slices_symMergeCmpFunc_int.f,wsub m a (by omega) (by omega),wsub (m + 1) m (by omega) hb,if_neg (by omega),if_pos (by omega)]
theorem sym_more (k : Nat) (X : List Int) (a m b mid : Nat) (ham : a < m) (hmb : m < b) (c1 : ¬ m = a + 1) (c2 : ¬ b = m + 1) (hb : b ≤ 35184372088832) (hm : mid = (a + b) / 2) :
  slices_symMergeCmpFunc_int.f (k + 1) X a m b () = if mid < m then slices_symMergeCmpFunc_int.j4 k X a m b () mid ((mid + m : Nat) : Int) (wrap64 (((mid + m : Nat) : Int) - (b : Int))) mid else slices_symMergeCmpFunc_int.j4 k X a m b () mid ((mid + m : Nat) : Int) a m:=by
 have eh:=half a b (by omega)
 rw [← hm] at eh
 have hmid : mid + m ≤ 140737488355328:=by omega
 have x1 : ¬ ((m - a : Nat) : Int) = 1:=by omega
 have x2 : ¬ ((b - m : Nat) : Int) = 1:=by omega
 rw [slices_symMergeCmpFunc_int.f,wsub m a (by omega) (by omega),wsub b m (by omega) (by omega),if_neg x1,if_neg x2,eh,wadd mid m hmid]
 by_cases c : mid < m
 ·rw [if_pos c,if_pos (show (m : Int) > (mid : Int) from Int.ofNat_lt.2 c)]
 rw [if_neg c,if_neg (show ¬ (m : Int) > (mid : Int) from fun h=>c (Int.ofNat_lt.1 h))]
theorem j4_go (k : Nat) (X : List Int) (a m b mid n i j : Nat) (h0 : 1 ≤ n) (hn : n ≤ 140737488355328) : slices_symMergeCmpFunc_int.j4 (k + 1) X a m b () mid n i j = slices_symMergeCmpFunc_int.l4 k X a m b () mid n i j ((n - 1 : Nat) : Int):=by
 rw [slices_symMergeCmpFunc_int.j4,show wrap64 ((n : Int) - 1) = ((n - 1 : Nat) : Int) from wsub n 1 h0 hn]
theorem sym_ok : ∀ s,SymOk s
 | 0=>fun a m b D h h1 h2=>absurd h (by omega)
 | s + 1=>by
  have ih:=sym_ok s;intro a m b D hs ham hmb hb hT f1 f2 ti;have W:=gtI_weak
  by_cases c1 : m = a + 1
  ·subst c1;obtain ⟨p,p1,p2,p3,p4,p5⟩:=up_search (a:=a) (m:=a + 1) (b:=b) D (by omega) hb hT b (a + 1) b (by omega) (Nat.le_refl _) (by omega) (Nat.le_refl _) (.inl rfl) (.inl rfl);obtain ⟨F,o,r1,r2,r3,v⟩:=up_move (a:=a) (i:=p) (D:=D) (by omega) hT (p - 1 - a) a D (by omega) (Nat.le_refl _) (Opn.refl _ _ _) (fun k g1 g2=>by omega) rfl (fun k _=>rfl);refine ⟨F,o.widen (Nat.le_refl _) p2,shifted_up W (by omega) p2 f2 r1 r2 r3 (fun k g1 g2=>?_) (fun k g1 g2=>?_) ti,Ev.step (fun k=>?_) (p5 _ v)⟩
   ·rcases p3 with e|e
    ·omega
    exact W.gt_le (f2.le W k (p - 1) (by omega) (by omega) (by omega)) e (Le.refl W _)
   ·rcases p4 with e|e
    ·omega
    exact Le.trans W (y:=gI D p) e (f2.le W p k (by omega) g1 g2)
   exact sym_one k _ a b (by omega)
  by_cases c2 : b = m + 1
  ·subst c2;obtain ⟨p,p1,p2,p3,p4,p5⟩:=down_search (a:=a) (m:=m) D (by omega) hT m a m (by omega) (Nat.le_refl _) (by omega) (Nat.le_refl _) (.inl rfl) (.inl rfl);obtain ⟨F,o,r1,r2,r3,v⟩:=down_move (i:=p) (m:=m) (D:=D) (by omega) hT (m - p) m D (by omega) (Nat.le_refl _) (Opn.refl _ _ _) (fun k g1 g2=>by omega) rfl (fun k _=>rfl);refine ⟨F,o.widen p1 (Nat.le_refl _),shifted_down W p1 p2 f1 r1 r2 r3 (fun k g1 g2=>?_) (fun k g1 g2=>?_) ti,Ev.step (fun k=>?_) (p5 _ v)⟩
   ·rcases p3 with e|e
    ·omega
    exact Le.trans W (y:=gI D (p - 1)) (f1.le W k (p - 1) g1 (by omega) (by omega)) e
   ·rcases p4 with e|e
    ·omega
    exact W.gt_le (Le.refl W _) e (f1.le W p k p1 g1 g2)
   exact sym_last k _ a m ham c1 (by omega)
  obtain ⟨mid,hmid⟩ : ∃ mid,mid = (a + b) / 2:=⟨_,rfl⟩
  have stm:=fun k=>sym_more k (Un D) a m b mid ham hmb c1 c2 (by omega) hmid
  have hm1 : a < mid:=by omega
  have hm2 : mid < b:=by omega
  have hm3 : 2 * mid ≤ a + b:=by omega
  have hm4 : a + b ≤ 2 * mid + 1:=by omega
  clear hmid
  obtain ⟨p,g1,g2,g3,g4,g5,g6,g7⟩ : ∃ p,a ≤ p ∧ p ≤ m ∧ p ≤ mid ∧ m ≤ mid + m - p ∧ mid + m - p ≤ b ∧ ((a < p → mid + m - p < b → gtI (gI D (mid + m - p)).1 (gI D (p - 1)).1 = false) ∧ (p < m → m < mid + m - p → gtI (gI D (mid + m - p - 1)).1 (gI D p).1 = true)) ∧
    To (fun k=>slices_symMergeCmpFunc_int.f k (Un D) a m b ()) (fun k=>if (p : Int) < (m : Int) then slices_symMergeCmpFunc_int.j6 k (Un D) a m b () mid p ((mid + m - p : Nat) : Int) (decide ((m : Int) < ((mid + m - p : Nat) : Int))) else slices_symMergeCmpFunc_int.j6 k (Un D) a m b () mid p ((mid + m - p : Nat) : Int) false):=by
   by_cases c3 : mid < m
   ·have es:=fun k=>(stm k).trans (by rw [if_pos c3,wsub (mid + m) b (by omega) (by omega)])
    obtain ⟨p,q1,q2,q3,q4,q5⟩:=cut_search (a:=a) (m:=m) (b:=b) (mid:=mid) (n:=mid + m) (s0:=mid + m - b) (r0:=mid) D hb hT (by omega) (by omega) (fun c x y=>⟨by omega,by omega,by omega⟩) mid (mid + m - b) mid (by omega) (Nat.le_refl _) (by omega) (Nat.le_refl _) (by omega) (.inl rfl) (.inl rfl);refine ⟨p,by omega,by omega,by omega,by omega,by omega,⟨fun x y=>?_,fun x y=>?_⟩,To.trans (To.step (f':=fun k=>slices_symMergeCmpFunc_int.j4 k (Un D) a m b () mid ((mid + m : Nat) : Int) ((mid + m - b : Nat) : Int) mid) (fun k=>?_)) (To.trans (To.step (fun k=>?_)) q5)⟩
    ·rcases q3 with e|e
     ·omega
     exact e
    ·rcases q4 with e|e
     ·omega
     rw [show mid + m - p - 1 = mid + m - 1 - p by omega];exact e
    ·exact es k
    exact j4_go k _ a m b mid (mid + m) _ _ (by omega) (by omega)
   obtain ⟨p,q1,q2,q3,q4,q5⟩:=cut_search (a:=a) (m:=m) (b:=b) (mid:=mid) (n:=mid + m) (s0:=a) (r0:=m) D hb hT (by omega) (by omega) (fun c x y=>⟨by omega,by omega,by omega⟩) m a m (by omega) (Nat.le_refl _) (by omega) (Nat.le_refl _) (by omega) (.inl rfl) (.inl rfl);refine ⟨p,by omega,by omega,by omega,by omega,by omega,⟨fun x y=>?_,fun x y=>?_⟩,To.trans (To.step (f':=fun k=>slices_symMergeCmpFunc_int.j4 k (Un D) a m b () mid ((mid + m : Nat) : Int) a m) (fun k=>?_)) (To.trans (To.step (fun k=>?_)) q5)⟩
   ·rcases q3 with e|e
    ·omega
    exact e
   ·rcases q4 with e|e
    ·omega
    rw [show mid + m - p - 1 = mid + m - 1 - p by omega];exact e
   ·exact (stm k).trans (if_neg c3)
   exact j4_go k _ a m b mid (mid + m) _ _ (by omega) (by omega)
  obtain ⟨E,r,v1⟩ : ∃ E,Rot zI p m (mid + m - p) D E ∧ To (fun k=>if (p : Int) < (m : Int) then slices_symMergeCmpFunc_int.j6 k (Un D) a m b () mid p ((mid + m - p : Nat) : Int) (decide ((m : Int) < ((mid + m - p : Nat) : Int))) else slices_symMergeCmpFunc_int.j6 k (Un D) a m b () mid p ((mid + m - p : Nat) : Int) false) (fun k=>slices_symMergeCmpFunc_int.j7 k (Un E) a b () mid p ((mid + m - p : Nat) : Int)):=by
   by_cases c4 : p < m ∧ m < mid + m - p
   ·obtain ⟨E,r,v⟩:=rot_f (a:=p) (m:=m) (b:=mid + m - p) D c4.1 c4.2 (by omega) hT;refine ⟨E,r,fun q hq=>Ev.congr (fun k=>by rw [if_pos (by omega),decide_eq_true (by omega)]) (Ev.step (fun k=>?_) (Ev.bind (f:=fun k t164=>slices_symMergeCmpFunc_int.j7 k t164 a b () mid p ((mid + m - p : Nat) : Int)) v hq))⟩;rw [slices_symMergeCmpFunc_int.j6,if_pos rfl]
   refine ⟨D,Rot.none _ _ _ _ (by omega) g2 g4,fun q hq=>Ev.congr (f:=fun k=>slices_symMergeCmpFunc_int.j6 k (Un D) a m b () mid p ((mid + m - p : Nat) : Int) false) (fun k=>?_) (Ev.step (fun k=>?_) hq)⟩
   ·by_cases c5 : (p : Int) < (m : Int)
    ·rw [if_pos c5,decide_eq_false (by omega)]
    rw [if_neg c5]
   rw [slices_symMergeCmpFunc_int.j6,if_neg (by decide)]
  have H:=halves (mid:=mid) W g1 g2 g4 g5 (by omega) f1 f2 ti r g6.1 g6.2;obtain ⟨F,o2,f,v2⟩:=j7_ev ih E (by omega) (by omega) g1 g3 (by omega) g5 (by rw [r.op.len];exact hb) (by rw [r.op.len];exact hT) H;exact ⟨F,(r.op.widen g1 g5).trans o2,f,g7 _ (v1 _ v2)⟩
theorem stab_ins {n : Nat} (hn : n ≤ 17592186044416) (s : Nat) : ∀ t (D : List (Int × Nat)),n - t * 20 ≤ s → t * 20 ≤ n → D.length = n → Ins zI gtI D n 20 t → ∃ E,Opn zI 0 n D E ∧ SB zI gtI E n 20 ∧ InB zI E n 20 ∧ To (fun k=>slices_stableCmpFunc_int.l0 k (Un D) n () 20 ((t * 20 : Nat) : Int) ((t * 20 + 20 : Nat) : Int)) (fun k=>slices_stableCmpFunc_int.l1 k (Un E) n () 20):=by
 induction s with
 | zero =>
  intro t D h1 h2 hl I;obtain ⟨E,o,f,v⟩:=ins_f (a:=t * 20) (b:=n) D h2 (by omega) (by omega) (fun k g1 g2=>I.id k g1 g2);obtain ⟨b1,b2⟩:=I.last o f (by omega);refine ⟨E,o.widen (Nat.zero_le _) (Nat.le_refl _),b1,b2,fun r hr=>Ev.step (fun k=>?_) (Ev.bind (f:=fun k t169=>slices_stableCmpFunc_int.l1 k t169 n () 20) v hr)⟩;rw [slices_stableCmpFunc_int.l0,if_neg (by omega)]
 | succ s ih =>
  intro t D h1 h2 hl I
  by_cases c : t * 20 + 20 ≤ n
  ·obtain ⟨E,o,f,v⟩:=ins_f (a:=t * 20) (b:=t * 20 + 20) D (by omega) (by omega) (by omega) (fun k g1 g2=>I.id k g1 (by omega));obtain ⟨F,o2,b1,b2,v2⟩:=ih (t + 1) E (by omega) (by omega) (by rw [o.len];exact hl) (I.step o f c);refine ⟨F,(o.widen (Nat.zero_le _) c).trans o2,b1,b2,fun r hr=>Ev.step (fun k=>?_) (Ev.bind (f:=fun k t168=>slices_stableCmpFunc_int.l0 k t168 n () 20 (((t + 1) * 20 : Nat) : Int) (((t + 1) * 20 + 20 : Nat) : Int)) v (v2 r hr))⟩
   have e1 : wrap64 (((t * 20 + 20 : Nat) : Int) + 20) = (((t + 1) * 20 + 20 : Nat) : Int):=by rw [w64 _ (by omega) (by omega)];omega
   have e2 : ((t * 20 + 20 : Nat) : Int) = (((t + 1) * 20 : Nat) : Int):=by omega
   rw [slices_stableCmpFunc_int.l0,if_pos (by omega),e1,← e2]
  obtain ⟨E,o,f,v⟩:=ins_f (a:=t * 20) (b:=n) D h2 (by omega) (by omega) (fun k g1 g2=>I.id k g1 g2);obtain ⟨b1,b2⟩:=I.last o f (by omega);refine ⟨E,o.widen (Nat.zero_le _) (Nat.le_refl _),b1,b2,fun r hr=>Ev.step (fun k=>?_) (Ev.bind (f:=fun k t169=>slices_stableCmpFunc_int.l1 k t169 n () 20) v hr)⟩;rw [slices_stableCmpFunc_int.l0,if_neg (by omega)]
theorem stab_pass {n bs : Nat} (hn : n ≤ 17592186044416) (h0 : 0 < bs) (hbs : bs < n) (s : Nat) : ∀ t (D : List (Int × Nat)) (A : Nat),A = t * (2 * bs) → n - A ≤ s → A ≤ n → D.length = n → Mrg zI gtI D n bs t → ∃ E,Opn zI 0 n D E ∧ SB zI gtI E n (2 * bs) ∧ InB zI E n (2 * bs) ∧ To (fun k=>slices_stableCmpFunc_int.l2 k (Un D) n () bs (A : Int) ((A + 2 * bs : Nat) : Int)) (fun k=>slices_stableCmpFunc_int.l1 k (Un E) n () ((2 * bs : Nat) : Int)):=by
 have stop : ∀ t (D : List (Int × Nat)) (A : Nat),A = t * (2 * bs) → A ≤ n → D.length = n → n < A + 2 * bs → Mrg zI gtI D n bs t → ∃ E,Opn zI 0 n D E ∧ SB zI gtI E n (2 * bs) ∧ InB zI E n (2 * bs) ∧ To (fun k=>slices_stableCmpFunc_int.l2 k (Un D) n () bs (A : Int) ((A + 2 * bs : Nat) : Int)) (fun k=>slices_stableCmpFunc_int.l1 k (Un E) n () ((2 * bs : Nat) : Int)):=by
  intro t D A hA h2 hl hlt M
  have e1 : wrap64 ((A : Int) + (bs : Int)) = ((A + bs : Nat) : Int):=by rw [w64 _ (by omega) (by omega)];omega
  have e2 : wrap64 ((bs : Int) * 2) = ((2 * bs : Nat) : Int):=by rw [w64 _ (by omega) (by omega)];omega
  have pre:=M.pre (b:=n) (Nat.le_refl _) (by rw [← hA];omega)
  rw [← hA] at pre
  by_cases c : A + bs < n
  ·obtain ⟨E,o,f,v⟩:=sym_ok n A (A + bs) n D (by omega) (by omega) c (by omega) (by omega) (pre.1.sub (Nat.le_refl _) (by omega)) pre.2.1 pre.2.2;obtain ⟨b1,b2⟩:=M.last (E:=E) (by rw [← hA];exact o) (by rw [← hA];exact f) (by rw [← hA];omega);refine ⟨E,o.widen (Nat.zero_le _) (Nat.le_refl _),b1,b2,fun r hr=>Ev.step (fun k=>?_) (Ev.bind (f:=fun k t171=>slices_stableCmpFunc_int.l1 k t171 n () ((2 * bs : Nat) : Int)) v hr)⟩;rw [slices_stableCmpFunc_int.l2,if_neg (by omega),e1,e2,if_pos (by omega)]
  obtain ⟨b1,b2⟩:=M.last (E:=D) (Opn.refl _ _ _) (by rw [← hA];exact pre.1.sub (Nat.le_refl _) (by omega)) (by rw [← hA];omega);refine ⟨D,Opn.refl _ _ _,b1,b2,To.step (fun k=>?_)⟩;rw [slices_stableCmpFunc_int.l2,if_neg (by omega),e1,e2,if_neg (by omega)]
 induction s with
 | zero =>
  intro t D A hA h1 h2 hl M;exact stop t D A hA h2 hl (by omega) M
 | succ s ih =>
  intro t D A hA h1 h2 hl M
  by_cases c : A + 2 * bs ≤ n
  ·have e1 : wrap64 ((A : Int) + (bs : Int)) = ((A + bs : Nat) : Int):=by rw [w64 _ (by omega) (by omega)];omega
   have e2 : wrap64 (2 * (bs : Int)) = ((2 * bs : Nat) : Int):=by rw [w64 _ (by omega) (by omega)];omega
   have e3 : wrap64 (((A + 2 * bs : Nat) : Int) + ((2 * bs : Nat) : Int)) = ((A + 2 * bs + 2 * bs : Nat) : Int):=by rw [w64 _ (by omega) (by omega)];omega
   have pre:=M.pre (b:=A + 2 * bs) c (by rw [← hA];omega)
   rw [← hA] at pre
   obtain ⟨E,o,f,v⟩:=sym_ok n A (A + bs) (A + 2 * bs) D (by omega) (by omega) (by omega) (by omega) (by omega) (pre.1.sub (Nat.le_refl _) (by omega)) pre.2.1 pre.2.2;obtain ⟨F,o2,b1,b2,v2⟩:=ih (t + 1) E (A + 2 * bs) (by rw [show (t + 1) * (2 * bs) = t * (2 * bs) + 2 * bs from Nat.succ_mul _ _,← hA]) (by omega) (by omega) (by rw [o.len];exact hl) (M.step (by rw [← hA];exact o) (by rw [← hA];exact f) (by rw [← hA];exact c));refine ⟨F,(o.widen (Nat.zero_le _) c).trans o2,b1,b2,fun r hr=>Ev.step (fun k=>?_) (Ev.bind (f:=fun k t170=>slices_stableCmpFunc_int.l2 k t170 n () bs ((A + 2 * bs : Nat) : Int) ((A + 2 * bs + 2 * bs : Nat) : Int)) v (v2 r hr))⟩;rw [slices_stableCmpFunc_int.l2,if_pos (by omega),e1,e2,e3]
  exact stop t D A hA h2 hl (by omega) M
theorem stab_more {n : Nat} (hn : n ≤ 17592186044416) (s : Nat) : ∀ bs (D : List (Int × Nat)),0 < bs → bs ≤ 35184372088832 → n - bs ≤ s → D.length = n → SB zI gtI D n bs → InB zI D n bs → ∃ E,Opn zI 0 n D E ∧ Fal zI gtI E 0 n ∧ Ev (fun k=>slices_stableCmpFunc_int.l1 k (Un D) n () bs) (Un E):=by
 induction s with
 | zero =>
  intro bs D h0 hbs h1 hl b1 b2;exact ⟨D,Opn.refl _ _ _,b1.all (by omega),Ev.step (f:=fun _=>some (Un D)) (fun k=>by rw [slices_stableCmpFunc_int.l1,if_neg (by omega)]) (Ev.now _)⟩
 | succ s ih =>
  intro bs D h0 hbs h1 hl b1 b2
  by_cases c : bs < n
  ·obtain ⟨E,o,c1,c2,v⟩:=stab_pass hn h0 c n 0 D 0 (by omega) (by omega) (by omega) hl (Mrg.init b1 b2);obtain ⟨F,o2,f,v2⟩:=ih (2 * bs) E (by omega) (by omega) (by omega) (by rw [o.len];exact hl) c1 c2
   have e2 : wrap64 (2 * (bs : Int)) = ((2 * bs : Nat) : Int):=by rw [w64 _ (by omega) (by omega)];omega
   refine ⟨F,o.trans o2,f,Ev.step (fun k=>?_) (v _ v2)⟩;rw [slices_stableCmpFunc_int.l1,if_pos (by omega),e2,Nat.zero_add];rfl
  exact ⟨D,Opn.refl _ _ _,b1.all (by omega),Ev.step (f:=fun _=>some (Un D)) (fun k=>by rw [slices_stableCmpFunc_int.l1,if_neg (by omega)]) (Ev.now _)⟩
theorem stab_f {n : Nat} (D : List (Int × Nat)) (hl : D.length = n) (hn : n ≤ 17592186044416) (id : ∀ k,k < n → (gI D k).2 = k) : ∃ E,Opn zI 0 n D E ∧ Fal zI gtI E 0 n ∧ Ev (fun k=>slices_SortStableFunc_int_int.f k (Un D) ()) (Un E):=by
 have I : Ins zI gtI D n 20 0:=⟨fun c p q h1 h2 h3=>absurd h3 (by omega),fun k _ h=>id k h,fun c k h1 h2 h3=>by rw [id k h2];exact ⟨h1,h3⟩⟩;obtain ⟨E,o,b1,b2,v⟩:=stab_ins hn n 0 D (by omega) (by omega) hl I;obtain ⟨F,o2,f,v2⟩:=stab_more hn n 20 E (by omega) (by omega) (by omega) (by rw [o.len];exact hl) b1 b2;refine ⟨F,o.trans o2,f,Ev.congr (fun k=>?_) (Ev.bind (f:=fun _ t=>some t) (v _ v2) (Ev.now _))⟩;rw [slices_SortStableFunc_int_int.f,slices_stableCmpFunc_int.f,un_len,hl];rfl
end Go.Proofs.Ytlgamjgdkljfiaa.QStabTallyBegins
namespace Go.Proofs.Ytlgamjgdkljfiaa.Pure
open Go.RowKit Go.Proofs.Ytlgamjgdkljfiaa.PTallyBegins Go.Proofs.YtlgamjgdkljfiaaW.PrintWords Go.Proofs.YtlgamjgdkljfiaaW.PrintLast Go.Proofs.YtlgamjgdkljfiaaW.PrintMore Go.Proofs.Ytlgamjgdkljfiaa.QSortTallyBegins Go.Proofs.Ytlgamjgdkljfiaa.QStabTallyBegins
set_option linter.unusedVariables false
set_option linter.unusedSimpArgs false
def tagged (l : List Int) : List (Int × Nat):=l.zipIdx
theorem tag_un (l : List Int) : Un (tagged l) = l:=by unfold Un tagged;exact List.zipIdx_map_fst ..
theorem tag_len (l : List Int) : (tagged l).length = l.length:=by unfold tagged;exact List.length_zipIdx
theorem tag_id (l : List Int) (k : Nat) (h : k < l.length) : (gI (tagged l) k).2 = k:=by
 unfold gI g tagged
 rw [List.getD_eq_getElem?_getD,List.getElem?_zipIdx,List.getElem?_eq_getElem h]
 show 0 + k = k
 omega
def cntL (X : List Int) (v : Int) (n : Nat) : Nat:=C n (fun k=>decide (rd X (k : Int) = v))
theorem cnt_step (X : List Int) (v : Int) (n : Nat) : cntL X v (n + 1) = if rd X (n : Int) = v then cntL X v n + 1 else cntL X v n:=by
 unfold cntL
 rw [C]
 by_cases h : rd X (n : Int) = v
 ·rw [if_pos h,if_pos (decide_eq_true h)]
 rw [if_neg h,if_neg (by rw [decide_eq_false h];decide)];rfl
theorem cnt_le (X : List Int) (v : Int) : ∀ n,cntL X v n ≤ n
 | 0=>Nat.le_refl _
 | n + 1=>by have:=cnt_le X v n;rw [cnt_step];split <;> omega
theorem top_ev (l : List Int) (hl : l.length ≤ 17592186043904) : ∃ S : List Int,S.length = l.length ∧ (∀ i,i + 1 < S.length → ¬ rd S ((i + 1 : Nat) : Int) > rd S (i : Int)) ∧ (∀ v,cntL S v l.length = cntL l v l.length) ∧
  ∀ a : Int,Ev (fun k=>tally_Top_int.f k l a) (if a < 1 then [] else S.take (mn a (l.length : Int)).toNat):=by
 obtain ⟨E,o,f,v⟩:=stab_f (n:=l.length) (tagged l) (tag_len l) (by omega) (fun k h=>tag_id l k h)
 have el : E.length = l.length:=by rw [o.len,tag_len]
 refine ⟨Un E,by rw [un_len,el],fun i h=>?_,fun w=>?_,fun a=>?_⟩
 ·rw [un_len,el] at h
  rw [un_rd,un_rd];have:=(f i (i + 1) (Nat.zero_le _) (by omega) h).1
  unfold gtI at this
  rw [decide_eq_false_iff_not] at this
  omega
 ·have:=o.cnt (fun p=>decide (p.1 = w))
  rw [tag_len] at this
  unfold cntL
  rw [C_congr (h:=fun k=>decide ((gI E k).1 = w)) _ (fun k _=>by rw [un_rd]),this];refine (C_congr _ (fun k _=>?_)).symm;rw [← un_rd,tag_un]
 by_cases h : a < 1
 ·rw [if_pos h];exact Ev.congr (f:=fun _=>some []) (fun k=>by rw [tally_Top_int.f,if_pos h]) (Ev.now _)
 rw [if_neg h]
 have hc : slices_Clone_int_int.f l = some l:=by
  unfold slices_Clone_int_int.f
  rw [Option.bind_some,if_pos (by simp only [List.length_nil];omega),List.nil_append]
 have m0 : 0 ≤ mn a (l.length : Int):=by unfold mn;split <;> omega
 have m1 : mn a (l.length : Int) ≤ (l.length : Int):=by unfold mn;split <;> omega
 refine Ev.congr (f:=fun k=>(slices_SortStableFunc_int_int.f k l ()).bind fun t176=>some (t176.take ((mn a (l.length : Int)) : Int).toNat)) (fun k=>?_) ?_
 ·rw [tally_Top_int.f,if_neg h,hc,Option.bind_some];simp only [if_pos m0,if_pos m1]
 rw [tag_un] at v
 exact Ev.bind v (Ev.now _)
theorem count_loop (l S T : List Int) (i : Nat) (hi : i < S.length) (hS : S.length = l.length) (hl : l.length < 2000) {r : Bool} (hr : Ev (fun k=>quarrylaw31_TallyBegins.l0 k l S T ((i + 1 : Nat) : Int)) r) (he : cntL S (rd S (i : Int)) l.length = cntL l (rd S (i : Int)) l.length) : ∀ d n : Nat,n + d = l.length →
  Ev (fun k=>quarrylaw31_TallyBegins.l1 k l S T (i : Int) ((cntL l (rd S (i : Int)) n : Nat) : Int) ((cntL S (rd S (i : Int)) n : Nat) : Int) (n : Int)) r
 | 0,n,h=>by
  have hn : n = l.length:=by omega
  subst hn;have w : wrap64 ((i : Int) + 1) = ((i + 1 : Nat) : Int):=ws i (by omega);refine Ev.step (f:=fun k=>quarrylaw31_TallyBegins.j4 k l S T (i : Int) ((cntL l (rd S (i : Int)) l.length : Nat) : Int) ((cntL S (rd S (i : Int)) l.length : Nat) : Int) (l.length : Int) false) (fun k=>?_) (Ev.step (fun k=>?_) hr)
  ·rw [quarrylaw31_TallyBegins.l1,if_neg (by omega)]
  rw [quarrylaw31_TallyBegins.j4,if_neg (by decide),if_pos (by rw [he]),w]
 | d + 1,n,h=>by
  have ih:=count_loop l S T i hi hS hl hr he d (n + 1) (by omega);have a1:=cnt_le l (rd S (i : Int)) n;have a2:=cnt_le S (rd S (i : Int)) n;have w0 : wrap64 ((n : Int) + 1) = ((n + 1 : Nat) : Int):=ws n (by omega);have w1 : wrap64 (((cntL l (rd S (i : Int)) n : Nat) : Int) + 1) = ((cntL l (rd S (i : Int)) n + 1 : Nat) : Int):=ws _ (by omega);have w2 : wrap64 (((cntL S (rd S (i : Int)) n : Nat) : Int) + 1) = ((cntL S (rd S (i : Int)) n + 1 : Nat) : Int):=ws _ (by omega)
  have x1 : (n : Int) < (l.length : Int):=by omega
  have x2 : (l.length : Int) < 2000:=by omega
  have x3 : (0 : Int) ≤ (n : Int):=by omega
  have x4 : (0 : Int) ≤ (i : Int):=by omega
  have x5 : (i : Int) < (S.length : Int):=by omega
  have x6 : (n : Int) < (S.length : Int):=by omega
  rw [cnt_step,cnt_step] at ih
  refine Ev.step (f:=fun k=>quarrylaw31_TallyBegins.j4 k l S T (i : Int) ((cntL l (rd S (i : Int)) n : Nat) : Int) ((cntL S (rd S (i : Int)) n : Nat) : Int) (n : Int) true) (fun k=>?_) (Ev.step (fun k=>?_) ih)
  ·rw [quarrylaw31_TallyBegins.l1,if_pos x1,decide_eq_true x2]
  rw [quarrylaw31_TallyBegins.j4,if_pos rfl,if_pos x3,if_pos x1,if_pos x4,if_pos x5,w0,w1,w2]
  by_cases c1 : rd l (n : Int) = rd S (i : Int)
  ·rw [if_pos c1,if_pos x6,if_pos c1]
   by_cases c2 : rd S (n : Int) = rd S (i : Int)
   ·rw [if_pos c2,if_pos c2]
   rw [if_neg c2,if_neg c2]
  rw [if_neg c1,if_pos x6,if_neg c1]
  by_cases c2 : rd S (n : Int) = rd S (i : Int)
  ·rw [if_pos c2,if_pos c2]
  rw [if_neg c2,if_neg c2]
theorem law_loop (l S T : List Int) (hS : S.length = l.length) (hl : l.length ≤ 17592186043904) (hf : ∀ i,i + 1 < S.length → ¬ rd S ((i + 1 : Nat) : Int) > rd S (i : Int)) (hc : ∀ v,cntL S v l.length = cntL l v l.length) (hT : ∀ i : Nat,i < T.length → rd T (i : Int) = rd S (i : Int)) (hTS : T.length ≤ S.length) : ∀ d i : Nat,i + d = S.length →
  Ev (fun k=>quarrylaw31_TallyBegins.l0 k l S T (i : Int)) true
 | 0,i,h=>Ev.step (f:=fun _=>some true) (fun k=>by rw [quarrylaw31_TallyBegins.l0,if_neg (by omega)]) (Ev.now _)
 | d + 1,i,h=>by
  have ih:=law_loop l S T hS hl hf hc hT hTS d (i + 1) (by omega);have w0 : wrap64 ((i : Int) + 1) = ((i + 1 : Nat) : Int):=ws i (by omega)
  have j2 : Ev (fun k=>quarrylaw31_TallyBegins.j2 k l S T (i : Int) false) true:=by
   refine Ev.step (f:=fun k=>quarrylaw31_TallyBegins.l1 k l S T (i : Int) 0 0 0) (fun k=>by rw [quarrylaw31_TallyBegins.j2,if_neg (by decide)]) ?_
   by_cases c : l.length < 2000
   ·exact count_loop l S T i (by omega) hS c ih (hc _) l.length 0 (by omega)
   refine Ev.step (f:=fun k=>quarrylaw31_TallyBegins.j4 k l S T (i : Int) 0 0 0 false) (fun k=>?_) (Ev.step (fun k=>?_) ih)
   ·rw [quarrylaw31_TallyBegins.l1]
    by_cases c2 : (0 : Int) < (l.length : Int)
    ·rw [if_pos c2,decide_eq_false (show ¬ (l.length : Int) < 2000 by omega)]
    rw [if_neg c2]
   rw [quarrylaw31_TallyBegins.j4,if_neg (by decide),if_pos rfl,w0]
  have sel : ∀ k,(if (i : Int) < (T.length : Int) then quarrylaw31_TallyBegins.j2 k l S T (i : Int) (rd T (i : Int) != rd S (i : Int)) else quarrylaw31_TallyBegins.j2 k l S T (i : Int) false) = quarrylaw31_TallyBegins.j2 k l S T (i : Int) false:=fun k=>by
   by_cases c : (i : Int) < (T.length : Int)
   ·rw [if_pos c,hT i (by omega),bne_self_eq_false]
   rw [if_neg c]
  have x1 : (i : Int) < (S.length : Int):=by omega
  have x2 : (0 : Int) ≤ (i : Int):=by omega
  refine Ev.step (fun k=>?_) j2;rw [quarrylaw31_TallyBegins.l0,if_pos x1]
  by_cases c0 : (i : Int) > 0
  ·obtain ⟨p,rfl⟩ : ∃ p,i = p + 1:=⟨i - 1,by omega⟩
   have w : wrap64 (((p + 1 : Nat) : Int) - 1) = (p : Int):=by rw [show wrap64 (((p + 1 : Nat) : Int) - 1) = ((p + 1 - 1 : Nat) : Int) from wsub (p + 1) 1 (by omega) (by omega)];rfl
   rw [if_pos c0,if_pos x2,w,if_pos (by omega),if_pos (by omega),if_neg (hf p (by omega))];exact sel k
  rw [if_neg c0];refine Eq.trans ?_ (sel k)
  by_cases c : (i : Int) < (T.length : Int)
  ·rw [if_pos c,if_pos c,if_pos x2]
  rw [if_neg c,if_neg c]
theorem awake_yes : quarrylaw31_awake.f = some true:=by first|rfl|(unfold quarrylaw31_awake.f;rfl)|decide +kernel
theorem TallyBegins : quarrylaw31_TallyBegins.Pure:=by
 intro l a _ hb _ ha
 have hl : l.length ≤ 17592186043904:=by omega
 obtain ⟨S,s1,s2,s3,s4⟩:=top_ev l hl;have t1:=s4 (wrap64 ((l.length : Int) + 1));have t2:=s4 a;have w0 : wrap64 ((l.length : Int) + 1) = ((l.length + 1 : Nat) : Int):=ws l.length (by omega)
 rw [w0] at t1
 have m1 : mn ((l.length + 1 : Nat) : Int) (l.length : Int) = (l.length : Int):=by unfold mn;rw [if_pos (by omega)]
 rw [if_neg (by omega),m1,Int.toNat_natCast,List.take_of_length_le (by omega)] at t1
 refine Ev.rounds (r:=true) ?_
 obtain ⟨T,hT⟩ : ∃ T,T = (if a < 1 then [] else S.take (mn a (l.length : Int)).toNat):=⟨_,rfl⟩
 rw [← hT] at t2
 have hTl : (T.length : Int) = mx 0 (mn a (l.length : Int)) ∧ T.length ≤ S.length:=by
  by_cases c : a < 1
  ·rw [if_pos c] at hT
   subst hT;refine ⟨?_,Nat.zero_le _⟩
   unfold mx mn
   simp only [List.length_nil]
   split <;> split <;> omega
  rw [if_neg c] at hT
  have e : T.length = min (mn a (l.length : Int)).toNat S.length:=by rw [hT,List.length_take]
  have m0 : 0 ≤ mn a (l.length : Int) ∧ mn a (l.length : Int) ≤ l.length:=by unfold mn;split <;> omega
  refine ⟨?_,by omega⟩
  unfold mx
  split <;> omega
 have hTr : ∀ i : Nat,i < T.length → rd T (i : Int) = rd S (i : Int):=by
  intro i hi
  by_cases c : a < 1
  ·rw [if_pos c] at hT;subst hT;exact absurd hi (Nat.not_lt_zero _)
  rw [if_neg c] at hT
  rw [hT,List.length_take] at hi
  rw [hT]
  unfold rd
  rw [Int.toNat_natCast,List.getD_eq_getElem?_getD,List.getD_eq_getElem?_getD,List.getElem?_take,if_pos (by omega)]
 have lo:=law_loop l S T s1 hl s2 s3 hTr hTl.2 S.length 0 (by omega);have j0 : Ev (fun k=>quarrylaw31_TallyBegins.j0 k l S T false) true:=Ev.step (fun k=>by rw [quarrylaw31_TallyBegins.j0,if_neg (by decide)];rfl) lo;have hne : ((T.length : Int) != mx 0 (mn a (l.length : Int))) = false:=bne_eq_false_iff_eq.mpr hTl.1;refine Ev.congr (f:=fun k=>(tally_Top_int.f k l ((l.length + 1 : Nat) : Int)).bind fun t181=>(tally_Top_int.f k l a).bind fun t184=>(if (t181.length : Int) = (l.length : Int) then (if (t184.length : Int) > (t181.length : Int) then (quarrylaw31_TallyBegins.j0 k l t181 t184 true) else (quarrylaw31_TallyBegins.j0 k l t181 t184 ((t184.length : Int) != (mx 0 (mn a (l.length : Int)))))) else (quarrylaw31_TallyBegins.j0 k l t181 t184 true))) (fun k=>?_) (Ev.bind t1 (Ev.bind t2 (Ev.congr (fun k=>?_) j0)))
 ·rw [quarrylaw31_TallyBegins.f,awake_yes,Option.bind_some,if_pos rfl,w0]
 rw [if_pos (by omega),if_neg (by omega),hne]
end Go.Proofs.Ytlgamjgdkljfiaa.Pure
