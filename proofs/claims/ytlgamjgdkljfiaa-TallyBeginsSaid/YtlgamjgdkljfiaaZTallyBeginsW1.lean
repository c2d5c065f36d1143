-- Written by shrink.py, a program of this session: what the law needs of the print and its words. Lean checks it.
import Derived.Test.YtlgamjgdkljfiaaZTallyBeginsW0
import Derived.Deep.Quiet
import Derived.WalkLawsBesides
import Derived.Laws.Externs
import Derived.Test.YtlgamjgdkljfiaaRows
import Derived.ProofKit
import Derived.OpenShut
import Derived.Deep.Slices
import Derived.SizedLaws
namespace Go.Proofs.YtlgamjgdkljfiaaW.PrintWords
open Go.RowKit
theorem px_pos (n : Nat) : decide ((n : Int) > 0) = decide (0 < n):=by rw [decide_eq_decide];omega
theorem px_ne (l : List UInt8) : (l != ([] : List UInt8)) = !l.isEmpty:=by cases l <;> rfl
section
variable {P Q : Prop} {w w0 w1 w2 : World} {g g2 : Nat} {o : Obj} {B : Nat}
theorem hb_ (x : Aside0 Q) (h : Q → P:=by intro h_;repeat (first|(with_reducible first|exact h_|apply below_alloc|apply pw_below_drewN|apply below_drew1|refine below_set ?_ (Aside0.out (by assumption)))|exact h_)) : P:=h x.out
theorem cf4_ {t : TypeId} {a0 a1 a2 a3 : Value} (x : Aside0 (w.heap[g]? = some (.cells #[a0,a1,a2,a3] t (0,0)))) : w.cell? ⟨g,0,none⟩ = some a0 ∧ w.cell? ⟨g,1,none⟩ = some a1 ∧ w.cell? ⟨g,2,none⟩ = some a2 ∧ w.cell? ⟨g,3,none⟩ = some a3 ∧ w.frozen? ⟨g,0,none⟩ = false ∧ w.frozen? ⟨g,1,none⟩ = false ∧ w.frozen? ⟨g,2,none⟩ = false ∧ w.frozen? ⟨g,3,none⟩ = false:=⟨(blk_cell x.out 0).trans rfl,(blk_cell x.out 1).trans rfl,(blk_cell x.out 2).trans rfl,(blk_cell x.out 3).trans rfl,blk_frozen x.out 0,blk_frozen x.out 1,blk_frozen x.out 2,blk_frozen x.out 3⟩
theorem cf7_ {t : TypeId} {a0 a1 a2 a3 a4 a5 a6 : Value} (x : Aside0 (w.heap[g]? = some (.cells #[a0,a1,a2,a3,a4,a5,a6] t (0,0)))) : w.cell? ⟨g,0,none⟩ = some a0 ∧ w.cell? ⟨g,1,none⟩ = some a1 ∧ w.cell? ⟨g,2,none⟩ = some a2 ∧ w.cell? ⟨g,3,none⟩ = some a3 ∧ w.cell? ⟨g,4,none⟩ = some a4 ∧ w.cell? ⟨g,5,none⟩ = some a5 ∧ w.cell? ⟨g,6,none⟩ = some a6 ∧ w.frozen? ⟨g,0,none⟩ = false ∧ w.frozen? ⟨g,1,none⟩ = false ∧ w.frozen? ⟨g,2,none⟩ = false ∧ w.frozen? ⟨g,3,none⟩ = false ∧ w.frozen? ⟨g,4,none⟩ = false ∧ w.frozen? ⟨g,5,none⟩ = false ∧ w.frozen? ⟨g,6,none⟩ = false:=⟨(blk_cell x.out 0).trans rfl,(blk_cell x.out 1).trans rfl,(blk_cell x.out 2).trans rfl,(blk_cell x.out 3).trans rfl,(blk_cell x.out 4).trans rfl,(blk_cell x.out 5).trans rfl,(blk_cell x.out 6).trans rfl,blk_frozen x.out 0,blk_frozen x.out 1,blk_frozen x.out 2,blk_frozen x.out 3,blk_frozen x.out 4,blk_frozen x.out 5,blk_frozen x.out 6⟩
end
end Go.Proofs.YtlgamjgdkljfiaaW.PrintWords
namespace Go.Proofs.YtlgamjgdkljfiaaW.PrintLast
open Go.RowKit Go.Proofs.YtlgamjgdkljfiaaW.PrintWords
section
variable {P : Program} {ops : Array Oper} {Q : Exit → Act → World → Prop}
theorem goesD_ {oi : Oper} {N : Option Tmp} {a : Act} {w : World} {K : Act → World → Prop} {f : FuncId} {fn : Func} {c : Operand} {as_ : Array Operand} {ts : Array TypeId} (hf : P.funcs[f]? = some fn) (hname : (fn.name == "runtime.NumGoroutine") = false) (hb : fn.body.isSome = true) (args : Array Value)
  (hw : Region.wanted oi (yielded ops a.tmps) = true) (hN : oi.dst = N) (hop : oi.op = .call { callee:=.value c,args:=as_,argTypes:=ts }) (hc : a.eval c = .func (.func f) #[] #[]) (hargs : as_.map a.eval = args)
  (h : Calls P f args w fun e w'=>∃ v,e = .returned v ∧ K (a.put N v) w') : if Region.wanted oi (yielded ops a.tmps) = true then Oper.wp P oi a w K Q else K (a.put N undef) w:=by
 refine call_ f args hw hN ?_ h;have he:=enters_ hf hname hb args w
 unfold execOp
 simp [hop,resolve,Deferred.ofValue,invoke,hc,hargs,he]
end
end Go.Proofs.YtlgamjgdkljfiaaW.PrintLast
namespace Go.Proofs.YtlgamjgdkljfiaaW.PrintWords
open Go.RowKit
def fok (op : BinOp) (x y : Nat) : Bool:=(floatBits op .f64 x y).isSome
def fop (op : BinOp) (x y : Nat) : Nat:=(floatBits op .f64 x y).getD 0
theorem fok_fop {op : BinOp} {x y : Nat} (h : fok op x y = true) : floatBits op .f64 x y = some (fop op x y):=by
 unfold fok at h
 unfold fop
 cases e : floatBits op .f64 x y with
 | none=>rw [e] at h;cases h
 | some r=>rfl
section
variable {P : Program} {w : World} {t : TypeId} {x y : Nat}
theorem run_fadd (h : fok .add x y = true) : (binOp .add t (.float .f64 x) (.float .f64 y)).run P w = .ok (.float .f64 (fop .add x y)) w:=run_float_arith w .add t .f64 x y _ (fok_fop h)
theorem run_fsub (h : fok .sub x y = true) : (binOp .sub t (.float .f64 x) (.float .f64 y)).run P w = .ok (.float .f64 (fop .sub x y)) w:=run_float_arith w .sub t .f64 x y _ (fok_fop h)
theorem run_fmul (h : fok .mul x y = true) : (binOp .mul t (.float .f64 x) (.float .f64 y)).run P w = .ok (.float .f64 (fop .mul x y)) w:=run_float_arith w .mul t .f64 x y _ (fok_fop h)
theorem run_fquo (h : fok .quo x y = true) : (binOp .quo t (.float .f64 x) (.float .f64 y)).run P w = .ok (.float .f64 (fop .quo x y)) w:=run_float_arith w .quo t .f64 x y _ (fok_fop h)
end
theorem run_cadd {P : Program} {w : World} {t : TypeId} {a b c d : Nat} (h1 : fok .add a c = true) (h2 : fok .add b d = true) : (binOp .add t (.complex .f64 a b) (.complex .f64 c d)).run P w = .ok (.complex .f64 (fop .add a c) (fop .add b d)) w :=
 run_complex_sum w .add (.inl rfl) t .f64 a b c d _ _ (by unfold cSumBits;rw [fok_fop h1,fok_fop h2];rfl)
theorem unary_fneg (x : Nat) : Op.unary .neg (.float .f64 x) = pure (.float .f64 (Op.negFloat .f64 x)):=rfl
theorem run_store_f64 {P : Program} {w : World} {a : Addr} {m : Mode} (b : Nat) : (store a (.float .f64 b) m).run P w = stored P w a (.float .f64 b) m:=run_store P w a _ m rfl
theorem run_store_c128 {P : Program} {w : World} {a : Addr} {m : Mode} (b c : Nat) : (store a (.complex .f64 b c) m).run P w = stored P w a (.complex .f64 b c) m:=run_store P w a _ m rfl
theorem run_equalIn_f64 {P : Program} {w : World} {d : Nat} {t : TypeId} {x y : Nat} (ht : P.underlying t = some (.float .f64)) : (Op.equalIn (d + 1) t (.float .f64 x) (.float .f64 y)).run P w = .ok (Op.floatEq .f64 x y) w:=by
 simp [Op.equalIn,run_underlying ht]
namespace Kd
def f64 : Kd Nat:=scalar (Value.float .f64) (fun _=>rfl)
section
variable {w : World} {A : Option Addr} {n : Nat} {ad : Addr}
theorem at_f64 {xs : List Nat} (h : Kd.f64.C w A n xs) (i : Int) (h0 : 0 ≤ i) (h1 : i < n) : ∃ ad,A = some ad ∧ w.cell? (ad.add i.toNat) = some (.float .f64 (rdOf (0 : Nat) xs i)) :=
 ReadsOf.at_ (reads_of_C (enc:=Value.float .f64) (d:=(0 : Nat)) (h1:=fun _=>rfl) h) i h0 h1
end
end Kd
theorem f64_list {W : World} {b : Nat} {t : TypeId} (xs : List Nat) (h : W.heap[b]? = some (.cells (xs.map (Value.float .f64)).toArray t (0,0))) (hm : xs.length ≤ 9223372036854775807) : Kd.C Kd.f64 W (some ⟨b,0,none⟩) xs.length xs:=by
 refine ⟨rfl,hm,fun _=>⟨⟨b,0,none⟩,rfl,fun j p hp=>?_⟩⟩;have hj : j < xs.length:=(List.getElem?_eq_some_iff.1 hp).1
 have ha : (⟨b,0,none⟩ : Addr).add (j * 1 + 0) = ⟨b,j,none⟩:=by
  unfold Addr.add
  by_cases h0 : j * 1 + 0 = 0
  ·rw [if_pos h0]
   have : j = 0:=by omega
   rw [this]
  rw [if_neg h0]
  simp
 refine ⟨[.float .f64 p],rfl,rfl,fun i u hu=>?_⟩;have hi : i < 1:=(List.getElem?_eq_some_iff.1 hu).1
 have hi0 : i = 0:=by omega
 subst hi0;have hu' : Value.float .f64 p = u:=Option.some.inj hu;subst hu'
 show W.cell? ((⟨b,0,none⟩ : Addr).add (j * 1 + 0)) = _
 rw [ha,blk_cell h]
 simp [hp]
theorem f64_one {W : World} {b : Nat} {a : Nat} {t : TypeId} (h : W.heap[b]? = some (.cells #[.float .f64 a] t (0,0))) : Kd.C Kd.f64 W (some ⟨b,0,none⟩) [a].length [a]:=by
 refine ⟨rfl,by simp,fun _=>⟨⟨b,0,none⟩,rfl,fun j p hp=>?_⟩⟩;have hj : j < 1:=(List.getElem?_eq_some_iff.1 hp).1
 match j,hj,hp with
 | 0,_,hp =>
  obtain rfl:=Option.some.inj hp;refine ⟨[.float .f64 a],rfl,rfl,fun i u hu=>?_⟩;have hi : i < 1:=(List.getElem?_eq_some_iff.1 hu).1
  match i,hi,hu with
  | 0,_,hu=>exact (blk_cell h 0).trans hu
end Go.Proofs.YtlgamjgdkljfiaaW.PrintWords
