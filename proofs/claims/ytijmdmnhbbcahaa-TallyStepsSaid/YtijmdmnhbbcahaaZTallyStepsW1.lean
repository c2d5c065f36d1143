-- Written by shrink.py, a program of this session: what the law needs of the print and its words. Lean checks it.
import Derived.Test.YtijmdmnhbbcahaaZTallyStepsW0
import Derived.Deep.Quiet
import Derived.WalkLawsBesides
import Derived.Laws.Externs
import Derived.Test.YtijmdmnhbbcahaaRows
import Derived.ProofKit
import Derived.OpenShut
import Derived.Deep.Slices
import Derived.SizedLaws
import Derived.Laws.Cover2
namespace Go.Proofs.YtijmdmnhbbcahaaW.PrintWords
open Go.RowKit
theorem px_pos (n : Nat) : decide ((n : Int) > 0) = decide (0 < n):=by rw [decide_eq_decide];omega
theorem px_ne (l : List UInt8) : (l != ([] : List UInt8)) = !l.isEmpty:=by cases l <;> rfl
section
variable {P Q : Prop} {w w0 w1 w2 : World} {g g2 : Nat} {o : Obj} {B : Nat}
theorem bk_ (x : Aside0 Q) (h : Q → P:=by intro h_;(with_reducible repeat (first|refine blk_drewN ?_ _|refine blk_drew ?_|refine blk_alloc ?_ _));exact h_) : P:=h x.out
theorem hb_ (x : Aside0 Q) (h : Q → P:=by intro h_;repeat (first|(with_reducible first|exact h_|apply below_alloc|apply pw_below_drewN|apply below_drew1|refine below_set ?_ (Aside0.out (by assumption)))|exact h_)) : P:=h x.out
theorem rk_ (x : Aside0 Q) (h : Q → P:=by intro h_;(with_reducible repeat (first|apply Kd.R_alloc|apply Kd.R_drewN|apply Kd.R_drew));exact h_) : P:=h x.out
theorem bs_ {a b : World} (hg : g = w.heap.size) (x : Aside0 (Below a.heap.size a b)) (h : Below a.heap.size a b → Below a.heap.size a w:=by intro h_;repeat (first|(with_reducible first|exact h_|apply below_alloc|apply pw_below_drewN|apply below_drew1|refine below_set ?_ (Aside0.out (by assumption)))|exact h_)) : a.heap.size ≤ g:=by rw [hg];exact below_size (h x.out)
theorem J_ (x : P) (y : Q) : Aside0 P ∧ Q:=⟨⟨x⟩,y⟩
theorem bf_ {g3 : Nat} (n : Aside0 (g3 ≠ g2)) (x : Aside0 Q) (h : g3 ≠ g2 → Q → P:=by intro n_ h_;(repeat (first|(with_reducible first|refine blk_drewN ?_ _|refine blk_drew ?_|refine blk_alloc ?_ _)|(with_reducible refine blk_far ?_ n_ _)));exact h_) : P:=h n.out x.out
theorem am_ (h : P:=by (try simp only [List.map_toArray,List.map_cons,List.map_nil]);first|done|rfl|(simp only [List.length_drop,List.length_take];rfl)) : P:=h
theorem aa_ (h : P:=by first|(with_reducible assumption)|assumption) : P:=h
theorem rr_ (h : P:=by first|rfl|(simp;done)|(simp [*];done)) : P:=h
theorem bkb_ (x : Aside0 (w0.heap[g]? = some o)) (hb : Below w.heap.size w w1) (h : w0.heap[g]? = some o → w.heap[g]? = some o:=by intro h_;(with_reducible repeat (first|refine blk_drewN ?_ _|refine blk_drew ?_|refine blk_alloc ?_ _));exact h_) : w1.heap[g]? = some o:=blk_below (h x.out) hb
theorem bkl_ (x : Aside0 (w0.heap[g]? = some o)) (h : w0.heap[g]? = some o → w.heap[g]? = some o:=by intro h_;(with_reducible repeat (first|refine blk_drewN ?_ _|refine blk_drew ?_|refine blk_alloc ?_ _));exact h_) : g < w.heap.size:=blk_lt (h x.out)
theorem bp_ {t : TypeId} {cs cs' : Array Value} (h : w.heap[g]? = some (.cells cs t (0,0))) (i : Nat) (u : Value) (e : cs.setIfInBounds i u = cs':=by first|rfl|(simp only [px_pos,px_ne];rfl)|simp [px_pos,px_ne]) : (w.setCell ⟨g,i,none⟩ u).heap[g]? = some (.cells cs' t (0,0)):=blk_put h i u e
theorem cf4_ {t : TypeId} {a0 a1 a2 a3 : Value} (x : Aside0 (w.heap[g]? = some (.cells #[a0,a1,a2,a3] t (0,0)))) : w.cell? ⟨g,0,none⟩ = some a0 ∧ w.cell? ⟨g,1,none⟩ = some a1 ∧ w.cell? ⟨g,2,none⟩ = some a2 ∧ w.cell? ⟨g,3,none⟩ = some a3 ∧ w.frozen? ⟨g,0,none⟩ = false ∧ w.frozen? ⟨g,1,none⟩ = false ∧ w.frozen? ⟨g,2,none⟩ = false ∧ w.frozen? ⟨g,3,none⟩ = false:=⟨(blk_cell x.out 0).trans rfl,(blk_cell x.out 1).trans rfl,(blk_cell x.out 2).trans rfl,(blk_cell x.out 3).trans rfl,blk_frozen x.out 0,blk_frozen x.out 1,blk_frozen x.out 2,blk_frozen x.out 3⟩
theorem cf7_ {t : TypeId} {a0 a1 a2 a3 a4 a5 a6 : Value} (x : Aside0 (w.heap[g]? = some (.cells #[a0,a1,a2,a3,a4,a5,a6] t (0,0)))) : w.cell? ⟨g,0,none⟩ = some a0 ∧ w.cell? ⟨g,1,none⟩ = some a1 ∧ w.cell? ⟨g,2,none⟩ = some a2 ∧ w.cell? ⟨g,3,none⟩ = some a3 ∧ w.cell? ⟨g,4,none⟩ = some a4 ∧ w.cell? ⟨g,5,none⟩ = some a5 ∧ w.cell? ⟨g,6,none⟩ = some a6 ∧ w.frozen? ⟨g,0,none⟩ = false ∧ w.frozen? ⟨g,1,none⟩ = false ∧ w.frozen? ⟨g,2,none⟩ = false ∧ w.frozen? ⟨g,3,none⟩ = false ∧ w.frozen? ⟨g,4,none⟩ = false ∧ w.frozen? ⟨g,5,none⟩ = false ∧ w.frozen? ⟨g,6,none⟩ = false:=⟨(blk_cell x.out 0).trans rfl,(blk_cell x.out 1).trans rfl,(blk_cell x.out 2).trans rfl,(blk_cell x.out 3).trans rfl,(blk_cell x.out 4).trans rfl,(blk_cell x.out 5).trans rfl,(blk_cell x.out 6).trans rfl,blk_frozen x.out 0,blk_frozen x.out 1,blk_frozen x.out 2,blk_frozen x.out 3,blk_frozen x.out 4,blk_frozen x.out 5,blk_frozen x.out 6⟩
end
end Go.Proofs.YtijmdmnhbbcahaaW.PrintWords
namespace Go.Proofs.YtijmdmnhbbcahaaW.PrintWords
open Go.RowKit
def fok (op : BinOp) (x y : Nat) : Bool:=(floatBits op .f64 x y).isSome
def fop (op : BinOp) (x y : Nat) : Nat:=(floatBits op .f64 x y).getD 0
theorem fok_fop {op : BinOp} {x y : Nat} (h : fok op x y = true) : floatBits op .f64 x y = some (fop op x y):=by
 unfold fok at h
 unfold fop
 cases e : floatBits op .f64 x y with
 | none=>rw [e] at h;cases h
 | some r=>rfl
section
variable {P : Program} {w : World} {t : TypeId} {x y : Nat}
theorem run_fadd (h : fok .add x y = true) : (binOp .add t (.float .f64 x) (.float .f64 y)).run P w = .ok (.float .f64 (fop .add x y)) w:=run_float_arith w .add t .f64 x y _ (fok_fop h)
theorem run_fsub (h : fok .sub x y = true) : (binOp .sub t (.float .f64 x) (.float .f64 y)).run P w = .ok (.float .f64 (fop .sub x y)) w:=run_float_arith w .sub t .f64 x y _ (fok_fop h)
theorem run_fmul (h : fok .mul x y = true) : (binOp .mul t (.float .f64 x) (.float .f64 y)).run P w = .ok (.float .f64 (fop .mul x y)) w:=run_float_arith w .mul t .f64 x y _ (fok_fop h)
theorem run_fquo (h : fok .quo x y = true) : (binOp .quo t (.float .f64 x) (.float .f64 y)).run P w = .ok (.float .f64 (fop .quo x y)) w:=run_float_arith w .quo t .f64 x y _ (fok_fop h)
end
theorem run_cadd {P : Program} {w : World} {t : TypeId} {a b c d : Nat} (h1 : fok .add a c = true) (h2 : fok .add b d = true) : (binOp .add t (.complex .f64 a b) (.complex .f64 c d)).run P w = .ok (.complex .f64 (fop .add a c) (fop .add b d)) w :=
 run_complex_sum w .add (.inl rfl) t .f64 a b c d _ _ (by unfold cSumBits;rw [fok_fop h1,fok_fop h2];rfl)
def nanOf (w : World) (x y : Nat) : Nat:=(Question.nanBits .f64 x y).cut (w.tape w.drawn (.nanBits .f64 x y))
theorem read_nanOf (w : World) (x y : Nat) : ∃ s t,Ieee.double.read (nanOf w x y) = .nan s t:=by
 unfold nanOf Question.cut
 generalize w.tape w.drawn (.nanBits .f64 x y) = n
 simp only;have h1 : (n / 2) % (2 ^ 52 - 1) < 2 ^ 52 - 1:=Nat.mod_lt _ (by decide);have h2 : n % 2 < 2:=Nat.mod_lt _ (by decide)
 have h3 : (2 : Nat) ^ 52 - 1 = 4503599627370495:=by decide
 have h4 : (2 : Nat) ^ 63 = 9223372036854775808:=by decide
 rw [h3] at h1 ⊢
 rw [h4]
 generalize n % 2 = a at *
 generalize (n / 2) % 4503599627370495 = b at *
 have h5 : a = 0 ∨ a = 1:=by omega
 have h6 : (a * 9223372036854775808 + 9218868437227405312 + 1 + b) % 9223372036854775808 = 9218868437227405312 + 1 + b:=by rcases h5 with rfl|rfl <;> omega
 unfold Ieee.Format.read
 have e1 : Ieee.Format.signWeight Ieee.double = 9223372036854775808:=by decide
 have e2 : Ieee.Format.binade Ieee.double = 4503599627370496:=by decide
 have e3 : Ieee.Format.infRung Ieee.double = 9218868437227405312:=by decide
 simp only [e1,e2,e3];rw [h6,if_neg (by omega),if_neg (by omega),if_neg (by omega)];exact ⟨_,_,rfl⟩
theorem order_nan_left (w : World) (x y z : Nat) : FloatKind.f64.format.order (nanOf w x y) z = none:=by
 obtain ⟨s,t,h⟩:=read_nanOf w x y
 show Ieee.double.order (nanOf w x y) z = none
 unfold Ieee.Format.order
 rw [h];rfl
theorem fok_none {op : BinOp} {x y : Nat} (h : fok op x y = false) : floatBits op .f64 x y = none:=by
 unfold fok at h
 cases e : floatBits op .f64 x y with
 | none=>rfl
 | some r=>rw [e] at h;cases h
section
variable {P : Program} {w : World} {t : TypeId} {x y : Nat}
theorem run_fsub_nan (h : fok .sub x y = false) : (binOp .sub t (.float .f64 x) (.float .f64 y)).run P w = .ok (.float .f64 (nanOf w x y)) w.drew:=by
 have h2 : Ieee.double.sub x y = none:=fok_none h
 simp [binOp,Op.floatArith,FloatKind.format,h2,Question.forced,nanOf]
theorem run_fadd_nan (h : fok .add x y = false) : (binOp .add t (.float .f64 x) (.float .f64 y)).run P w = .ok (.float .f64 (nanOf w x y)) w.drew:=by
 have h2 : Ieee.double.add x y = none:=fok_none h
 simp [binOp,Op.floatArith,FloatKind.format,h2,Question.forced,nanOf]
end
def isNan (n : Nat) : Prop:=∃ s t,Ieee.double.read n = .nan s t
def nanC : Nat:=9221120237041090561
theorem nan_nanC : isNan nanC:=⟨false,2251799813685249,by decide +kernel⟩
theorem nan_nanOf (w : World) (x y : Nat) : isNan (nanOf w x y):=read_nanOf w x y
theorem nan_order {n : Nat} (h : isNan n) : FloatKind.f64.format.order n n = none:=by
 obtain ⟨s,t,e⟩:=h
 show Ieee.double.order n n = none
 unfold Ieee.Format.order
 rw [e];rfl
theorem unary_fneg (x : Nat) : Op.unary .neg (.float .f64 x) = pure (.float .f64 (Op.negFloat .f64 x)):=rfl
theorem run_store_f64 {P : Program} {w : World} {a : Addr} {m : Mode} (b : Nat) : (store a (.float .f64 b) m).run P w = stored P w a (.float .f64 b) m:=run_store P w a _ m rfl
theorem run_store_c128 {P : Program} {w : World} {a : Addr} {m : Mode} (b c : Nat) : (store a (.complex .f64 b c) m).run P w = stored P w a (.complex .f64 b c) m:=run_store P w a _ m rfl
theorem run_equalIn_f64 {P : Program} {w : World} {d : Nat} {t : TypeId} {x y : Nat} (ht : P.underlying t = some (.float .f64)) : (Op.equalIn (d + 1) t (.float .f64 x) (.float .f64 y)).run P w = .ok (Op.floatEq .f64 x y) w:=by
 simp [Op.equalIn,run_underlying ht]
namespace Kd
def f64 : Kd Nat:=scalar (Value.float .f64) (fun _=>rfl)
section
variable {w : World} {A : Option Addr} {n : Nat} {ad : Addr}
theorem at_f64 {xs : List Nat} (h : Kd.f64.C w A n xs) (i : Int) (h0 : 0 ≤ i) (h1 : i < n) : ∃ ad,A = some ad ∧ w.cell? (ad.add i.toNat) = some (.float .f64 (rdOf (0 : Nat) xs i)) :=
 ReadsOf.at_ (reads_of_C (enc:=Value.float .f64) (d:=(0 : Nat)) (h1:=fun _=>rfl) h) i h0 h1
end
end Kd
theorem f64_list {W : World} {b : Nat} {t : TypeId} (xs : List Nat) (h : W.heap[b]? = some (.cells (xs.map (Value.float .f64)).toArray t (0,0))) (hm : xs.length ≤ 9223372036854775807) : Kd.C Kd.f64 W (some ⟨b,0,none⟩) xs.length xs:=by
 refine ⟨rfl,hm,fun _=>⟨⟨b,0,none⟩,rfl,fun j p hp=>?_⟩⟩;have hj : j < xs.length:=(List.getElem?_eq_some_iff.1 hp).1
 have ha : (⟨b,0,none⟩ : Addr).add (j * 1 + 0) = ⟨b,j,none⟩:=by
  unfold Addr.add
  by_cases h0 : j * 1 + 0 = 0
  ·rw [if_pos h0]
   have : j = 0:=by omega
   rw [this]
  rw [if_neg h0]
  simp
 refine ⟨[.float .f64 p],rfl,rfl,fun i u hu=>?_⟩;have hi : i < 1:=(List.getElem?_eq_some_iff.1 hu).1
 have hi0 : i = 0:=by omega
 subst hi0;have hu' : Value.float .f64 p = u:=Option.some.inj hu;subst hu'
 show W.cell? ((⟨b,0,none⟩ : Addr).add (j * 1 + 0)) = _
 rw [ha,blk_cell h]
 simp [hp]
theorem f64_one {W : World} {b : Nat} {a : Nat} {t : TypeId} (h : W.heap[b]? = some (.cells #[.float .f64 a] t (0,0))) : Kd.C Kd.f64 W (some ⟨b,0,none⟩) [a].length [a]:=by
 refine ⟨rfl,by simp,fun _=>⟨⟨b,0,none⟩,rfl,fun j p hp=>?_⟩⟩;have hj : j < 1:=(List.getElem?_eq_some_iff.1 hp).1
 match j,hj,hp with
 | 0,_,hp =>
  obtain rfl:=Option.some.inj hp;refine ⟨[.float .f64 a],rfl,rfl,fun i u hu=>?_⟩;have hi : i < 1:=(List.getElem?_eq_some_iff.1 hu).1
  match i,hi,hu with
  | 0,_,hu=>exact (blk_cell h 0).trans hu
end Go.Proofs.YtijmdmnhbbcahaaW.PrintWords
namespace Go.Proofs.YtijmdmnhbbcahaaX
open Go.Proofs.Ytijmdmnhbbcahaa
open Go Go.ChangeShapes Go.WideShapes Go.RowKit Go.Proofs.YtijmdmnhbbcahaaW.PrintWords
def Opens {H : Type} {α : Type} (enc : TypeId × Value → H) (P : Program) (W : World) (n : Nat) (t : TypeId) (K : Kd α) (SZ : α → Prop) (B : α → Nat) : Prop :=
 ∀ (base : Nat) (spare : Nat → Bool) (held : Bool) (cs : List Value) (d : DataW H) (ps : List MemPlace),DataW.trod enc P W base spare held n t cs = some (d,ps) → (∀ m ∈ d.weights P t,m ≤ reachBytes) → ∃ x,K.K W x cs ∧ SZ x ∧ B x ≤ Go.Proofs.Ytijmdmnhbbcahaa.Rows.uptoBulk d
section
variable {H : Type} {enc : TypeId × Value → H} {P : Program} {W : World} {n : Nat} {t e : TypeId}
theorem list_of {α : Type} {n : Nat} {p : Nat → α → Prop} (h : ∀ i,i < n → ∃ x,p i x) : ∃ xs : List α,xs.length = n ∧ ∀ i x,xs[i]? = some x → p i x:=by
 induction n with
 | zero=>exact ⟨[],rfl,fun i x hx=>by simp at hx⟩
 | succ n ih =>
  obtain ⟨xs,hl,hx⟩:=ih (fun i hi=>h i (by omega));obtain ⟨y,hy⟩:=h n (by omega);refine ⟨xs ++ [y],by simp [hl],fun i x hi=>?_⟩
  rcases Nat.lt_or_ge i n with hlt|hge
  ·rw [List.getElem?_append_left (by omega)] at hi
   exact hx i x hi
  rw [List.getElem?_append_right (by omega)] at hi
  have h0 : i - xs.length = 0:=by
   rcases Nat.eq_zero_or_pos (i - xs.length) with h0|h0
   ·exact h0
   rw [List.getElem?_eq_none (by simp;omega)] at hi;cases hi
  rw [h0] at hi
  simp at hi
  subst hi
  have : i = n:=by omega
  subst this;exact hy
theorem weightsAll_mem {P : Program} {e : TypeId} : ∀ {l : List (DataW H)} {i : Nat} {d : DataW H},l[i]? = some d → ∀ m ∈ d.weights P e,m ∈ DataW.weightsAll P e l
 | [],i,d,h=>by simp at h
 | y :: r,0,d,h=>by
  simp at h
  subst h;intro m hm;simp only [DataW.weightsAll,List.mem_append];exact .inl hm
 | y :: r,i + 1,d,h=>by
  simp at h
  intro m hm;simp only [DataW.weightsAll,List.mem_append];exact .inr (weightsAll_mem h m hm)
theorem bulk_sum {α : Type} {G : α → Nat} : ∀ {xs : List α} {ds : List (DataW H)},xs.length = ds.length → (∀ (i : Nat) x d,xs[i]? = some x → ds[i]? = some d → G x ≤ Rows.uptoBulk d) → (xs.map G).sum ≤ Rows.uptoBulkAll ds
 | [],[],_,_=>by simp
 | x :: xs,d :: ds,hl,h=>by
  have h0:=h 0 x d rfl rfl;have h1:=bulk_sum (xs:=xs) (ds:=ds) (by simpa using hl) (fun i y d hy hd=>h (i + 1) y d (by simpa using hy) (by simpa using hd));simp only [List.map_cons,List.sum_cons,Rows.uptoBulkAll]
  omega
 | [],_ :: _,hl,_=>by simp at hl
 | _ :: _,[],hl,_=>by simp at hl
theorem opens_slice {α : Type} {K : Kd α} {SZ : α → Prop} {G : α → Nat} {B : Nat} (hu : P.underlying t = some (.slice e)) (hc : P.cellsOf e = K.sz) (hB : P.bytesOf e = B) (h : ∀ m,m < n → Opens enc P W m e K SZ G) :
  Opens enc P W n t (Kd.slice e K) (fun xs=>xs.length * B ≤ 140737488351232 ∧ ∀ x ∈ xs,SZ x) (fun xs=>(xs.map G).sum + 1):=by
 intro base spare held cs d ps ht hw
 rcases DataW.trod_slice hu ht with ⟨rfl,hx⟩|⟨a,len,cap,elems,rest,m,rfl,rfl,hx,hb,hl,hm,hlen,hel,_,_⟩
 ·obtain ⟨rfl,_⟩:=Prod.mk.inj hx;exact ⟨[],⟨none,0,rfl,Nat.le_refl _,Kd.C_nil K W⟩,by simp,by simp [Rows.uptoBulk]⟩
 obtain ⟨rfl,rfl⟩:=Prod.mk.inj hx
 have hwt : ∀ (j : Nat) (y : DataW H × List MemPlace),elems[j]? = some y → ∀ m ∈ y.1.weights P e,m ≤ reachBytes:=by
  intro j y hy m hm;refine hw m ?_;simp only [DataW.weights,hu];refine List.mem_cons_of_mem _ (List.mem_append_left _ (weightsAll_mem (i:=j) (d:=y.1) ?_ m hm))
  simp [hy]
 have hbig : (elems.length + rest.length) * B ≤ reachBytes:=by
  refine hw _ ?_;simp only [DataW.weights,hu,List.length_map,hB];exact List.mem_cons_self
 obtain ⟨xs,hxl,hxs⟩:=list_of (n:=len) (p:=fun i x=>(∃ c,c.length = K.sz ∧ K.K W x c ∧ ∀ j u,c[j]? = some u → W.cell? (a.add (i * K.sz + j)) = some u) ∧ SZ x ∧ ∀ d,(elems.map (·.1))[i]? = some d → G x ≤ Rows.uptoBulk d) (fun i hi=>by
  have h1:=hel i hi
  rw [List.getElem?_eq_getElem (by omega)] at h1
  obtain ⟨c,hcs,htr⟩:=Option.bind_eq_some_iff.1 h1;obtain ⟨x,hk,hs,hg⟩:=h m (by omega) base spare held c _ _ htr (hwt i _ (List.getElem?_eq_getElem (by omega)))
  obtain ⟨_,hcl,hcell⟩:=World.cells?_some hcs
  rw [hc] at hcl hcell
  refine ⟨x,⟨c,hcl,hk,fun j u hu=>?_⟩,hs,fun d hd=>by rw [List.getElem?_map,List.getElem?_eq_getElem (by omega)] at hd;simp at hd;rw [← hd];exact hg⟩
  have hj : j < K.sz:=by
   rcases Nat.lt_or_ge j K.sz with hj|hj
   ·exact hj
   rw [List.getElem?_eq_none (by omega)] at hu;cases hu
  rw [← Go.Deep.add_add,hcell j hj,hu])
 subst hxl;refine ⟨xs,⟨some a,cap,rfl,hl,rfl,by unfold maxLen at hm;omega,fun _=>⟨a,rfl,fun j p hj=>(hxs j p hj).1⟩⟩,⟨?_,fun x hx=>?_⟩,?_⟩
 ·have h2 : xs.length * B ≤ (elems.length + rest.length) * B:=Nat.mul_le_mul_right _ (by omega);exact Nat.le_trans h2 hbig
 ·obtain ⟨j,hj,rfl⟩:=List.getElem_of_mem hx;exact (hxs j _ (List.getElem?_eq_getElem hj)).2.1
 have h2:=bulk_sum (G:=G) (xs:=xs) (ds:=elems.map (·.1)) (by simp [hlen]) (fun i x d hx hd=>(hxs i x hx).2.2 d hd);simp only [Rows.uptoBulk]
 omega
theorem weights_arg {ts : List TypeId} {ds : List (DataW H)} (h : (DataW.weightsEach P ts ds).all (· ≤ reachBytes) = true) {j : Nat} {d : DataW H} (ht : ts[j]? = some t) (hd : ds[j]? = some d) : ∀ m ∈ d.weights P t,m ≤ reachBytes:=fun m hm=>by
 have:=List.all_eq_true.1 h m (DataW.weights_mem_each ht hd m hm)
 simpa using this
end
end Go.Proofs.YtijmdmnhbbcahaaX
namespace Go.Proofs.YtijmdmnhbbcahaaX
open Go.Proofs.Ytijmdmnhbbcahaa
open Go Go.ChangeShapes Go.WideShapes Go.RowKit Go.Proofs.YtijmdmnhbbcahaaW.PrintWords
section
variable {H : Type} {enc : TypeId × Value → H} {P : Program} {W : World} {n : Nat} {t : TypeId}
theorem opens_f64 (hu : P.underlying t = some (.float .f64)) : Opens enc P W n t Kd.f64 (fun x=>(Lit.float .f64 x).wf = true) (fun _=>1):=by
 intro base spare held cs d ps h _
 cases n with
 | zero=>simp [DataW.trod] at h
 | succ n =>
  unfold DataW.trod at h
  rw [hu] at h
  split at h <;> simp_all
  rename_i hk
  subst hk;obtain ⟨⟨_,hw⟩,h2,_⟩:=h;subst h2;exact ⟨_,rfl,hw,by simp [Rows.uptoBulk]⟩
end
end Go.Proofs.YtijmdmnhbbcahaaX
