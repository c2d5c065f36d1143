-- Written by shrink.py, a program of this session: what the law needs of the print and its words. Lean checks it.
import Derived.Test.YtlgamjgdkljfiacGreatDoorZWritePrettiesW0
import Derived.Deep.Quiet
import Derived.Test.YtlgamjgdkljfiacGreatDoorRows
import Derived.ProofKit
import Derived.OpenShut
import Derived.Deep.Slices
import Derived.SizedLaws
namespace Go.Proofs.YtlgamjgdkljfiacGreatDoorW.PrintWords
open Go.RowKit
theorem px_pos (n : Nat) : decide ((n : Int) > 0) = decide (0 < n):=by rw [decide_eq_decide];omega
theorem px_ne (l : List UInt8) : (l != ([] : List UInt8)) = !l.isEmpty:=by cases l <;> rfl
section
variable {P Q : Prop} {w w0 w1 w2 : World} {g g2 : Nat} {o : Obj} {B : Nat}
theorem bk_ (x : Aside0 Q) (h : Q → P:=by intro h_;(with_reducible repeat (first|refine blk_drewN ?_ _|refine blk_drew ?_|refine blk_alloc ?_ _));exact h_) : P:=h x.out
theorem hb_ (x : Aside0 Q) (h : Q → P:=by intro h_;repeat (first|(with_reducible first|exact h_|apply below_alloc|apply pw_below_drewN|apply below_drew1|refine below_set ?_ (Aside0.out (by assumption)))|exact h_)) : P:=h x.out
theorem rk_ (x : Aside0 Q) (h : Q → P:=by intro h_;(with_reducible repeat (first|apply Kd.R_alloc|apply Kd.R_drewN|apply Kd.R_drew));exact h_) : P:=h x.out
theorem bs_ {a b : World} (hg : g = w.heap.size) (x : Aside0 (Below a.heap.size a b)) (h : Below a.heap.size a b → Below a.heap.size a w:=by intro h_;repeat (first|(with_reducible first|exact h_|apply below_alloc|apply pw_below_drewN|apply below_drew1|refine below_set ?_ (Aside0.out (by assumption)))|exact h_)) : a.heap.size ≤ g:=by rw [hg];exact below_size (h x.out)
theorem J_ (x : P) (y : Q) : Aside0 P ∧ Q:=⟨⟨x⟩,y⟩
theorem bf_ {g3 : Nat} (n : Aside0 (g3 ≠ g2)) (x : Aside0 Q) (h : g3 ≠ g2 → Q → P:=by intro n_ h_;(repeat (first|(with_reducible first|refine blk_drewN ?_ _|refine blk_drew ?_|refine blk_alloc ?_ _)|(with_reducible refine blk_far ?_ n_ _)));exact h_) : P:=h n.out x.out
theorem am_ (h : P:=by (try simp only [List.map_toArray,List.map_cons,List.map_nil]);first|done|rfl|(simp only [List.length_drop,List.length_take];rfl)) : P:=h
theorem aa_ (h : P:=by first|(with_reducible assumption)|assumption) : P:=h
theorem rr_ (h : P:=by first|rfl|(simp;done)|(simp [*];done)) : P:=h
theorem bkb_ (x : Aside0 (w0.heap[g]? = some o)) (hb : Below w.heap.size w w1) (h : w0.heap[g]? = some o → w.heap[g]? = some o:=by intro h_;(with_reducible repeat (first|refine blk_drewN ?_ _|refine blk_drew ?_|refine blk_alloc ?_ _));exact h_) : w1.heap[g]? = some o:=blk_below (h x.out) hb
theorem bkl_ (x : Aside0 (w0.heap[g]? = some o)) (h : w0.heap[g]? = some o → w.heap[g]? = some o:=by intro h_;(with_reducible repeat (first|refine blk_drewN ?_ _|refine blk_drew ?_|refine blk_alloc ?_ _));exact h_) : g < w.heap.size:=blk_lt (h x.out)
theorem bp_ {t : TypeId} {cs cs' : Array Value} (h : w.heap[g]? = some (.cells cs t (0,0))) (i : Nat) (u : Value) (e : cs.setIfInBounds i u = cs':=by first|rfl|(simp only [px_pos,px_ne];rfl)|simp [px_pos,px_ne]) : (w.setCell ⟨g,i,none⟩ u).heap[g]? = some (.cells cs' t (0,0)):=blk_put h i u e
theorem cf3_ {t : TypeId} {a0 a1 a2 : Value} (x : Aside0 (w.heap[g]? = some (.cells #[a0,a1,a2] t (0,0)))) : w.cell? ⟨g,0,none⟩ = some a0 ∧ w.cell? ⟨g,1,none⟩ = some a1 ∧ w.cell? ⟨g,2,none⟩ = some a2 ∧ w.frozen? ⟨g,0,none⟩ = false ∧ w.frozen? ⟨g,1,none⟩ = false ∧ w.frozen? ⟨g,2,none⟩ = false:=⟨(blk_cell x.out 0).trans rfl,(blk_cell x.out 1).trans rfl,(blk_cell x.out 2).trans rfl,blk_frozen x.out 0,blk_frozen x.out 1,blk_frozen x.out 2⟩
theorem cf4_ {t : TypeId} {a0 a1 a2 a3 : Value} (x : Aside0 (w.heap[g]? = some (.cells #[a0,a1,a2,a3] t (0,0)))) : w.cell? ⟨g,0,none⟩ = some a0 ∧ w.cell? ⟨g,1,none⟩ = some a1 ∧ w.cell? ⟨g,2,none⟩ = some a2 ∧ w.cell? ⟨g,3,none⟩ = some a3 ∧ w.frozen? ⟨g,0,none⟩ = false ∧ w.frozen? ⟨g,1,none⟩ = false ∧ w.frozen? ⟨g,2,none⟩ = false ∧ w.frozen? ⟨g,3,none⟩ = false:=⟨(blk_cell x.out 0).trans rfl,(blk_cell x.out 1).trans rfl,(blk_cell x.out 2).trans rfl,(blk_cell x.out 3).trans rfl,blk_frozen x.out 0,blk_frozen x.out 1,blk_frozen x.out 2,blk_frozen x.out 3⟩
theorem cf5_ {t : TypeId} {a0 a1 a2 a3 a4 : Value} (x : Aside0 (w.heap[g]? = some (.cells #[a0,a1,a2,a3,a4] t (0,0)))) : w.cell? ⟨g,0,none⟩ = some a0 ∧ w.cell? ⟨g,1,none⟩ = some a1 ∧ w.cell? ⟨g,2,none⟩ = some a2 ∧ w.cell? ⟨g,3,none⟩ = some a3 ∧ w.cell? ⟨g,4,none⟩ = some a4 ∧ w.frozen? ⟨g,0,none⟩ = false ∧ w.frozen? ⟨g,1,none⟩ = false ∧ w.frozen? ⟨g,2,none⟩ = false ∧ w.frozen? ⟨g,3,none⟩ = false ∧ w.frozen? ⟨g,4,none⟩ = false:=⟨(blk_cell x.out 0).trans rfl,(blk_cell x.out 1).trans rfl,(blk_cell x.out 2).trans rfl,(blk_cell x.out 3).trans rfl,(blk_cell x.out 4).trans rfl,blk_frozen x.out 0,blk_frozen x.out 1,blk_frozen x.out 2,blk_frozen x.out 3,blk_frozen x.out 4⟩
theorem cf6_ {t : TypeId} {a0 a1 a2 a3 a4 a5 : Value} (x : Aside0 (w.heap[g]? = some (.cells #[a0,a1,a2,a3,a4,a5] t (0,0)))) : w.cell? ⟨g,0,none⟩ = some a0 ∧ w.cell? ⟨g,1,none⟩ = some a1 ∧ w.cell? ⟨g,2,none⟩ = some a2 ∧ w.cell? ⟨g,3,none⟩ = some a3 ∧ w.cell? ⟨g,4,none⟩ = some a4 ∧ w.cell? ⟨g,5,none⟩ = some a5 ∧ w.frozen? ⟨g,0,none⟩ = false ∧ w.frozen? ⟨g,1,none⟩ = false ∧ w.frozen? ⟨g,2,none⟩ = false ∧ w.frozen? ⟨g,3,none⟩ = false ∧ w.frozen? ⟨g,4,none⟩ = false ∧ w.frozen? ⟨g,5,none⟩ = false:=⟨(blk_cell x.out 0).trans rfl,(blk_cell x.out 1).trans rfl,(blk_cell x.out 2).trans rfl,(blk_cell x.out 3).trans rfl,(blk_cell x.out 4).trans rfl,(blk_cell x.out 5).trans rfl,blk_frozen x.out 0,blk_frozen x.out 1,blk_frozen x.out 2,blk_frozen x.out 3,blk_frozen x.out 4,blk_frozen x.out 5⟩
end
end Go.Proofs.YtlgamjgdkljfiacGreatDoorW.PrintWords
namespace Go.Proofs.YtlgamjgdkljfiacGreatDoorW.PrintWords
open Go.RowKit
theorem bytes_gtr : ∀ a b : List UInt8,(!(Op.bytesLess a b || a == b)) = Op.bytesLess b a
 | [],[]=>rfl
 | [],_ :: _=>by simp [Op.bytesLess]
 | _ :: _,[]=>by simp [Op.bytesLess]
 | x :: a,y :: b=>by
  have ih:=bytes_gtr a b
  by_cases h1 : x < y
  ·have h2 : ¬ y < x:=UInt8.not_lt.2 (UInt8.le_of_lt h1)
   have h3 : ¬ y = x:=fun e=>by subst e;exact UInt8.lt_irrefl _ h1
   simp [Op.bytesLess,h1,h2,h3]
  by_cases h2 : y < x
  ·have h3 : ¬ x = y:=fun e=>by subst e;exact UInt8.lt_irrefl _ h2
   simp [Op.bytesLess,h1,h2,h3]
  have e : x = y:=UInt8.le_antisymm (UInt8.not_lt.1 h2) (UInt8.not_lt.1 h1);subst e;simp only [Op.bytesLess,h1,decide_false,Bool.false_or,beq_self_eq_true,Bool.true_and,← ih,List.cons_beq_cons]
theorem str_gtr (t : TypeId) (x y : ByteArray) : binOp .gtr t (.string x) (.string y) = pure (.bool (Op.bytesLess y.toList x.toList)):=by
 rw [← bytes_gtr]
 simp [binOp,Op.stringOp]
theorem str_leq (t : TypeId) (x y : ByteArray) : binOp .leq t (.string x) (.string y) = pure (.bool (!(Op.bytesLess y.toList x.toList))):=by
 rw [← bytes_gtr,Bool.not_not]
 simp [binOp,Op.stringOp]
theorem str_geq (t : TypeId) (x y : ByteArray) : binOp .geq t (.string x) (.string y) = pure (.bool (!(Op.bytesLess x.toList y.toList))):=by
 simp [binOp,Op.stringOp]
end Go.Proofs.YtlgamjgdkljfiacGreatDoorW.PrintWords
namespace Go.Proofs.YtlgamjgdkljfiacGreatDoorX
open Go.Proofs.YtlgamjgdkljfiacGreatDoor
open Go.ChangeShapes Go.WideShapes Go.RowKit Go.Proofs.YtlgamjgdkljfiacGreatDoorW.PrintWords
def Opens {H : Type} {α : Type} (enc : TypeId × Value → H) (P : Program) (W : World) (n : Nat) (t : TypeId) (K : Kd α) (SZ : α → Prop) (B : α → Nat) : Prop :=
 ∀ (base : Nat) (spare : Nat → Bool) (held : Bool) (cs : List Value) (d : DataW H) (ps : List MemPlace),DataW.trod enc P W base spare held n t cs = some (d,ps) → (∀ m ∈ d.weights P t,m ≤ reachBytes) → ∃ x,K.K W x cs ∧ SZ x ∧ B x ≤ Go.Proofs.YtlgamjgdkljfiacGreatDoor.Rows.uptoBulk d
section
variable {H : Type} {enc : TypeId × Value → H} {P : Program} {W : World} {n : Nat} {t e : TypeId}
theorem opens_int {k : IntKind} (hu : P.underlying t = some (.int k)) : Opens enc P W n t (Kd.int k) (fun x=>(Lit.int k x).wf = true) (fun _=>1):=by
 intro base spare held cs d ps h _;obtain ⟨x,e0,e1,wx⟩:=DataW.trod_int hu h;obtain ⟨rfl,_⟩:=Prod.mk.inj e1;exact ⟨x,by rw [e0];rfl,wx,by simp [Rows.uptoBulk]⟩
theorem opens_bool (hu : P.underlying t = some .bool) : Opens enc P W n t Kd.bool (fun _=>True) (fun _=>1):=by
 intro base spare held cs d ps h _
 cases n with
 | zero=>simp [DataW.trod] at h
 | succ n =>
  unfold DataW.trod at h
  rw [hu] at h
  split at h <;> simp_all
  rename_i b
  obtain ⟨rfl,_⟩:=h;cases b
  ·exact ⟨.inl rfl,by simp [Rows.uptoBulk]⟩
  exact ⟨.inr rfl,by simp [Rows.uptoBulk]⟩
theorem opens_string (hu : P.underlying t = some .string) : Opens enc P W n t Kd.string (fun s=>s.size ≤ 140737488351232) (fun s=>s.size + 1):=by
 intro base spare held cs d ps h hw
 cases n with
 | zero=>simp [DataW.trod] at h
 | succ n =>
  unfold DataW.trod at h
  rw [hu] at h
  split at h <;> simp_all
  rename_i s
  obtain ⟨_,rfl,_⟩:=h;have hz:=hw s.data.toList.length (by simp [DataW.weights]);refine ⟨s,rfl,?_,?_⟩
  ·rw [data_length] at hz
   exact hz
  simp only [Rows.uptoBulk,data_length];omega
theorem list_of {α : Type} {n : Nat} {p : Nat → α → Prop} (h : ∀ i,i < n → ∃ x,p i x) : ∃ xs : List α,xs.length = n ∧ ∀ i x,xs[i]? = some x → p i x:=by
 induction n with
 | zero=>exact ⟨[],rfl,fun i x hx=>by simp at hx⟩
 | succ n ih =>
  obtain ⟨xs,hl,hx⟩:=ih (fun i hi=>h i (by omega));obtain ⟨y,hy⟩:=h n (by omega);refine ⟨xs ++ [y],by simp [hl],fun i x hi=>?_⟩
  rcases Nat.lt_or_ge i n with hlt|hge
  ·rw [List.getElem?_append_left (by omega)] at hi
   exact hx i x hi
  rw [List.getElem?_append_right (by omega)] at hi
  have h0 : i - xs.length = 0:=by
   rcases Nat.eq_zero_or_pos (i - xs.length) with h0|h0
   ·exact h0
   rw [List.getElem?_eq_none (by simp;omega)] at hi;cases hi
  rw [h0] at hi
  simp at hi
  subst hi
  have : i = n:=by omega
  subst this;exact hy
theorem weightsAll_mem {P : Program} {e : TypeId} : ∀ {l : List (DataW H)} {i : Nat} {d : DataW H},l[i]? = some d → ∀ m ∈ d.weights P e,m ∈ DataW.weightsAll P e l
 | [],i,d,h=>by simp at h
 | y :: r,0,d,h=>by
  simp at h
  subst h;intro m hm;simp only [DataW.weightsAll,List.mem_append];exact .inl hm
 | y :: r,i + 1,d,h=>by
  simp at h
  intro m hm;simp only [DataW.weightsAll,List.mem_append];exact .inr (weightsAll_mem h m hm)
theorem bulk_sum {α : Type} {G : α → Nat} : ∀ {xs : List α} {ds : List (DataW H)},xs.length = ds.length → (∀ (i : Nat) x d,xs[i]? = some x → ds[i]? = some d → G x ≤ Rows.uptoBulk d) → (xs.map G).sum ≤ Rows.uptoBulkAll ds
 | [],[],_,_=>by simp
 | x :: xs,d :: ds,hl,h=>by
  have h0:=h 0 x d rfl rfl;have h1:=bulk_sum (xs:=xs) (ds:=ds) (by simpa using hl) (fun i y d hy hd=>h (i + 1) y d (by simpa using hy) (by simpa using hd));simp only [List.map_cons,List.sum_cons,Rows.uptoBulkAll]
  omega
 | [],_ :: _,hl,_=>by simp at hl
 | _ :: _,[],hl,_=>by simp at hl
theorem opens_slice {α : Type} {K : Kd α} {SZ : α → Prop} {G : α → Nat} {B : Nat} (hu : P.underlying t = some (.slice e)) (hc : P.cellsOf e = K.sz) (hB : P.bytesOf e = B) (h : ∀ m,m < n → Opens enc P W m e K SZ G) :
  Opens enc P W n t (Kd.slice e K) (fun xs=>xs.length * B ≤ 140737488351232 ∧ ∀ x ∈ xs,SZ x) (fun xs=>(xs.map G).sum + 1):=by
 intro base spare held cs d ps ht hw
 rcases DataW.trod_slice hu ht with ⟨rfl,hx⟩|⟨a,len,cap,elems,rest,m,rfl,rfl,hx,hb,hl,hm,hlen,hel,_,_⟩
 ·obtain ⟨rfl,_⟩:=Prod.mk.inj hx;exact ⟨[],⟨none,0,rfl,Nat.le_refl _,Kd.C_nil K W⟩,by simp,by simp [Rows.uptoBulk]⟩
 obtain ⟨rfl,rfl⟩:=Prod.mk.inj hx
 have hwt : ∀ (j : Nat) (y : DataW H × List MemPlace),elems[j]? = some y → ∀ m ∈ y.1.weights P e,m ≤ reachBytes:=by
  intro j y hy m hm;refine hw m ?_;simp only [DataW.weights,hu];refine List.mem_cons_of_mem _ (List.mem_append_left _ (weightsAll_mem (i:=j) (d:=y.1) ?_ m hm))
  simp [hy]
 have hbig : (elems.length + rest.length) * B ≤ reachBytes:=by
  refine hw _ ?_;simp only [DataW.weights,hu,List.length_map,hB];exact List.mem_cons_self
 obtain ⟨xs,hxl,hxs⟩:=list_of (n:=len) (p:=fun i x=>(∃ c,c.length = K.sz ∧ K.K W x c ∧ ∀ j u,c[j]? = some u → W.cell? (a.add (i * K.sz + j)) = some u) ∧ SZ x ∧ ∀ d,(elems.map (·.1))[i]? = some d → G x ≤ Rows.uptoBulk d) (fun i hi=>by
  have h1:=hel i hi
  rw [List.getElem?_eq_getElem (by omega)] at h1
  obtain ⟨c,hcs,htr⟩:=Option.bind_eq_some_iff.1 h1;obtain ⟨x,hk,hs,hg⟩:=h m (by omega) base spare held c _ _ htr (hwt i _ (List.getElem?_eq_getElem (by omega)))
  obtain ⟨_,hcl,hcell⟩:=World.cells?_some hcs
  rw [hc] at hcl hcell
  refine ⟨x,⟨c,hcl,hk,fun j u hu=>?_⟩,hs,fun d hd=>by rw [List.getElem?_map,List.getElem?_eq_getElem (by omega)] at hd;simp at hd;rw [← hd];exact hg⟩
  have hj : j < K.sz:=by
   rcases Nat.lt_or_ge j K.sz with hj|hj
   ·exact hj
   rw [List.getElem?_eq_none (by omega)] at hu;cases hu
  rw [← Go.Deep.add_add,hcell j hj,hu])
 subst hxl;refine ⟨xs,⟨some a,cap,rfl,hl,rfl,by unfold maxLen at hm;omega,fun _=>⟨a,rfl,fun j p hj=>(hxs j p hj).1⟩⟩,⟨?_,fun x hx=>?_⟩,?_⟩
 ·have h2 : xs.length * B ≤ (elems.length + rest.length) * B:=Nat.mul_le_mul_right _ (by omega);exact Nat.le_trans h2 hbig
 ·obtain ⟨j,hj,rfl⟩:=List.getElem_of_mem hx;exact (hxs j _ (List.getElem?_eq_getElem hj)).2.1
 have h2:=bulk_sum (G:=G) (xs:=xs) (ds:=elems.map (·.1)) (by simp [hlen]) (fun i x d hx hd=>(hxs i x hx).2.2 d hd);simp only [Rows.uptoBulk]
 omega
theorem weights_part {fs : Array Field} {parts : List (DataW H)} {j : Nat} {tj : TypeId} {d : DataW H} (hu : P.underlying t = some (.struct fs)) (ht : (fs.toList.map (·.type))[j]? = some tj) (hd : parts[j]? = some d) : ∀ m ∈ d.weights P tj,m ∈ (DataW.agg parts).weights P t:=by
 intro m hm;simp only [DataW.weights,hu];exact DataW.weights_mem_each ht hd m hm
theorem weights_arg {ts : List TypeId} {ds : List (DataW H)} (h : (DataW.weightsEach P ts ds).all (· ≤ reachBytes) = true) {j : Nat} {d : DataW H} (ht : ts[j]? = some t) (hd : ds[j]? = some d) : ∀ m ∈ d.weights P t,m ≤ reachBytes:=fun m hm=>by
 have:=List.all_eq_true.1 h m (DataW.weights_mem_each ht hd m hm)
 simpa using this
end
end Go.Proofs.YtlgamjgdkljfiacGreatDoorX
