-- Written by shrink.py, a program of this session: what the law needs of the print and its words. Lean checks it.
import Derived.Test.YtlgamjgdkljfiaaZPTallyBeginsx0
import Derived.Test.YtlgamjgdkljfiaaZPTallyBeginsx4
import Derived.WalkMore
import Derived.Deep.QuietTactic
import Derived.BigQuiet
import Derived.StillTailTactics
namespace Go.Proofs.Ytlgamjgdkljfiaa.PTallyBegins
open Go.RowKit Go.Proofs.YtlgamjgdkljfiaaW.PrintWords Go.Proofs.YtlgamjgdkljfiaaW.PrintLast Go.Proofs.YtlgamjgdkljfiaaW.PrintMore
attribute [local go_sem] run_fadd run_fsub run_fmul run_fquo unary_fneg run_store_f64 run_store_c128 run_cadd
attribute [local go_sem] max2_int min2_int max_two min_two max_three min_three max_four min_four
set_option linter.unusedVariables false
set_option linter.unusedSimpArgs false
def minF (a x : Nat) : Nat:=if (FloatKind.f64.format.order a x == some .lt) = true then a else x
def maxF (a x : Nat) : Nat:=if (FloatKind.f64.format.order a x == some .gt) = true then a else x
def zeroF (x : Nat) : Nat:=if (FloatKind.f64.format.order x 0 == some .lt) = true then 0 else x
theorem minF_t {a x : Nat} (h : (FloatKind.f64.format.order a x == some .lt) = true) : minF a x = a:=if_pos h
theorem minF_f {a x : Nat} (h : (FloatKind.f64.format.order a x == some .lt) = false) : minF a x = x:=if_neg (by rw [h];decide)
theorem maxF_t {a x : Nat} (h : (FloatKind.f64.format.order a x == some .gt) = true) : maxF a x = a:=if_pos h
theorem maxF_f {a x : Nat} (h : (FloatKind.f64.format.order a x == some .gt) = false) : maxF a x = x:=if_neg (by rw [h];decide)
theorem zeroF_t {x : Nat} (h : (FloatKind.f64.format.order x 0 == some .lt) = true) : zeroF x = 0:=if_pos h
theorem zeroF_f {x : Nat} (h : (FloatKind.f64.format.order x 0 == some .lt) = false) : zeroF x = x:=if_neg (by rw [h];decide)
def tally_Put.g (k : Nat) (c : Int) (x1 x2 x3 x4 x5 x6 : Nat) (a : Nat) (lo : Nat) : Option (Int × Nat × Nat × Nat × Nat × Nat × Nat × Int):=if fok .add x4 lo = true then (if fok .sub a x5 = true then (if fok .quo (fop .sub a x5) (floatOfInt .f64 (wrap64 (c + 1))) = true then (if fok .add x5 (fop .quo (fop .sub a x5) (floatOfInt .f64 (wrap64 (c + 1)))) = true then (if fok .sub a (fop .add x5 (fop .quo (fop .sub a x5) (floatOfInt .f64 (wrap64 (c + 1))))) = true then (if fok .mul (fop .sub a x5) (fop .sub a (fop .add x5 (fop .quo (fop .sub a x5) (floatOfInt .f64 (wrap64 (c + 1)))))) = true then (if fok .add x6 (fop .mul (fop .sub a x5) (fop .sub a (fop .add x5 (fop .quo (fop .sub a x5) (floatOfInt .f64 (wrap64 (c + 1))))))) = true then ((tally_sound.f k (wrap64 (c + 1)) (minF a x1) (maxF a x2) (fop .add x3 a) (fop .add x4 lo) (fop .add x5 (fop .quo (fop .sub a x5) (floatOfInt .f64 (wrap64 (c + 1))))) (zeroF (fop .add x6 (fop .mul (fop .sub a x5) (fop .sub a (fop .add x5 (fop .quo (fop .sub a x5) (floatOfInt .f64 (wrap64 (c + 1)))))))))).bind fun v=>if v = true then some ((wrap64 (c + 1)),(minF a x1),(maxF a x2),(fop .add x3 a),(fop .add x4 lo),(fop .add x5 (fop .quo (fop .sub a x5) (floatOfInt .f64 (wrap64 (c + 1))))),(zeroF (fop .add x6 (fop .mul (fop .sub a x5) (fop .sub a (fop .add x5 (fop .quo (fop .sub a x5) (floatOfInt .f64 (wrap64 (c + 1))))))))),0) else some (0,0,0,0,0,0,0,121)) else none) else none) else none) else none) else none) else none) else none
def tally_Put.f (k : Nat) (c : Int) (x1 x2 x3 x4 x5 x6 : Nat) (a : Nat) : Option (Int × Nat × Nat × Nat × Nat × Nat × Nat × Int):=(tally_formed.f k c x1 x2 x3 x4 x5 x6).bind fun t=>if t = true then ((tally_finite.f k [a]).bind fun u=>if u = true then (if c = 0 then some (1,a,a,a,0,a,0,0) else if fok .add x3 a = true then ((tally_lost.f x3 a (fop .add x3 a)).bind fun lo=>tally_Put.g k c x1 x2 x3 x4 x5 x6 a lo) else none) else some (0,0,0,0,0,0,0,130)) else some (0,0,0,0,0,0,0,1)
def tally_Put.T12 : Bool × List (List Nat × List Nat):=(true,[([],[]),([0],[0]),([],[]),([2],[2]),([],[]),([],[]),([5],[5]),([3,4,6],[3,4,6]),([1,7],[1,7]),([0,1,2,3,4,5,6,7,8],[]),([9,8,7,0,1,2,3,4,5,6,7,8],[8,9])])
def tally_Put.B12 : List Nat:=[0,1,0,4,0,0,32,124,255,511,1023]
theorem tally_Put.tab12 : rtab .any (opsOf Try.f45 12) = tally_Put.T12:=by kernel_rfl
theorem tally_Put.bits12 : waitsOk tally_Put.T12.2 tally_Put.B12 = true:=by kernel_rfl
theorem blk_new2 (w : World) (o : Obj) (g : Nat) (hg : g = w.heap.size) : (w.alloc o).heap[g]? = some o:=by subst hg;exact blk_new w o
set_option maxHeartbeats 4000000 in
set_option maxRecDepth 100000 in
theorem tally_Put.calls (k : Nat) (c : Int) (x1 x2 x3 x4 x5 x6 : Nat) (a : Nat) (r1 : Int) (r2 r3 r4 r5 r6 r7 : Nat) (r8 : Int) (w : World) (h : tally_Put.f k c x1 x2 x3 x4 x5 x6 a = some (r1,r2,r3,r4,r5,r6,r7,r8)) :
  Calls Try.prog 45 #[.agg #[.int .i64 c,.float .f64 x1,.float .f64 x2,.float .f64 x3,.float .f64 x4,.float .f64 x5,.float .f64 x6],.float .f64 a] w fun e w'=>e = .returned (.tuple #[.agg #[.int .i64 r1,.float .f64 r2,.float .f64 r3,.float .f64 r4,.float .f64 r5,.float .f64 r6,.float .f64 r7],.int .i64 r8]) ∧ Below w.heap.size w w':=by
 unfold tally_Put.f at h
 obtain ⟨t,ht,h⟩:=Option.bind_eq_some_iff.mp h;have HT:=Aside0.mk ht;clear ht;have hu:=Try.underlying56
 by_cases c1 : t = true
 ·subst c1
  rw [if_pos rfl] at h
  obtain ⟨u,hf,h⟩:=Option.bind_eq_some_iff.mp h;have HF:=Aside0.mk hf;clear hf
  by_cases c2 : u = true
  ·subst c2
   rw [if_pos rfl] at h
   by_cases c3 : c = 0
   ·rw [if_pos c3] at h
    have c3b : (c == 0) = true:=beq_iff_eq.mpr c3;clear c3
    simp only [Option.some.injEq,Prod.mk.injEq] at h
    obtain ⟨rfl,rfl,rfl,rfl,rfl,rfl,rfl,rfl⟩:=h;go_enter Try.func45,Try.ntmps45
    go_wp2_with fail
    have T0 : ((w.alloc (.cells #[.int .i64 c,.float .f64 x1,.float .f64 x2,.float .f64 x3,.float .f64 x4,.float .f64 x5,.float .f64 x6] 56)).alloc (.cells #[.int .i64 0,.float .f64 0,.float .f64 0,.float .f64 0,.float .f64 0,.float .f64 0,.float .f64 0] 56)).heap[w.heap.size]? = some (.cells #[.int .i64 c,.float .f64 x1,.float .f64 x2,.float .f64 x3,.float .f64 x4,.float .f64 x5,.float .f64 x6] 56 (0,0)):=blk_alloc (blk_new w _) _;have R0 : ((w.alloc (.cells #[.int .i64 c,.float .f64 x1,.float .f64 x2,.float .f64 x3,.float .f64 x4,.float .f64 x5,.float .f64 x6] 56)).alloc (.cells #[.int .i64 0,.float .f64 0,.float .f64 0,.float .f64 0,.float .f64 0,.float .f64 0,.float .f64 0] 56)).heap[w.heap.size + 1]? = some (.cells #[.int .i64 0,.float .f64 0,.float .f64 0,.float .f64 0,.float .f64 0,.float .f64 0,.float .f64 0] 56 (0,0)):=blk_new2 _ _ _ (by simp);have B0 : Below w.heap.size w ((w.alloc (.cells #[.int .i64 c,.float .f64 x1,.float .f64 x2,.float .f64 x3,.float .f64 x4,.float .f64 x5,.float .f64 x6] 56)).alloc (.cells #[.int .i64 0,.float .f64 0,.float .f64 0,.float .f64 0,.float .f64 0,.float .f64 0,.float .f64 0] 56)):=((Below.refl w.heap.size w).alloc (Nat.le_refl _) _).alloc (by simp) _
    have Z0 : w.heap.size ≤ ((w.alloc (.cells #[.int .i64 c,.float .f64 x1,.float .f64 x2,.float .f64 x3,.float .f64 x4,.float .f64 x5,.float .f64 x6] 56)).alloc (.cells #[.int .i64 0,.float .f64 0,.float .f64 0,.float .f64 0,.float .f64 0,.float .f64 0,.float .f64 0] 56)).heap.size:=by simp;omega
    refine (tally_formed.calls k c x1 x2 x3 x4 x5 x6 true _ HT.out).mono ?_;rintro e w1 ⟨rfl,hb1⟩;have T1:=Aside0.mk (blk_below T0 hb1);have R1:=Aside0.mk (blk_below R0 hb1);have B1:=Aside0.mk (below_then B0 Z0 hb1);clear T0 R0 B0 Z0 hb1;obtain ⟨t0,t1,t2,t3,t4,t5,t6,ft0,ft1,ft2,ft3,ft4,ft5,ft6⟩:=cf7_ T1;obtain ⟨r0,r1,r2,r3,r4,r5,r6,fr0,fr1,fr2,fr3,fr4,fr5,fr6⟩:=cf7_ R1;have hz : w.heap.size + 1 < w1.heap.size:=blk_lt R1.out
    go_wp2_with fail
    have hl : Kd.C Kd.f64 (w1.alloc (.cells #[.float .f64 a] 27)) (some ⟨w1.heap.size,0,none⟩) [a].length [a]:=f64_one (blk_new w1 _);refine (tally_finite.calls k _ _ [a] true _ hl (Nat.le_refl _) HF.out).mono ?_;rintro e w2 ⟨rfl,nd,rfl⟩;have T2:=Aside0.mk (show ((w1.alloc (.cells #[.float .f64 a] 27)).drewN nd).heap[w.heap.size]? = _ from blk_drewN (blk_alloc T1.out _) nd);have R2:=Aside0.mk (show ((w1.alloc (.cells #[.float .f64 a] 27)).drewN nd).heap[w.heap.size + 1]? = _ from blk_drewN (blk_alloc R1.out _) nd);have B2:=Aside0.mk (show Below w.heap.size w ((w1.alloc (.cells #[.float .f64 a] 27)).drewN nd) from pw_below_drewN (below_alloc B1.out _) nd)
    have Z2 : w1.heap.size < ((w1.alloc (.cells #[.float .f64 a] 27)).drewN nd).heap.size:=by simp
    clear t0 t1 t2 t3 t4 t5 t6 ft0 ft1 ft2 ft3 ft4 ft5 ft6;clear r0 r1 r2 r3 r4 r5 r6 fr0 fr1 fr2 fr3 fr4 fr5 fr6
    obtain ⟨W2,hW2⟩ : ∃ W2,W2 = (w1.alloc (.cells #[.float .f64 a] 27)).drewN nd:=⟨_,rfl⟩
    rw [← hW2] at T2 R2 B2 Z2 ⊢
    clear hW2 hl T1 R1 B1;obtain ⟨t0,t1,t2,t3,t4,t5,t6,ft0,ft1,ft2,ft3,ft4,ft5,ft6⟩:=cf7_ T2;obtain ⟨r0,r1,r2,r3,r4,r5,r6,fr0,fr1,fr2,fr3,fr4,fr5,fr6⟩:=cf7_ R2
    have hz2 : w.heap.size + 1 < W2.heap.size:=by omega
    go_wp2
    refine bodyPost_ret (results_ct rfl _ _ (w.heap.size + 1) 56 #[.int .i64 1,.float .f64 a,.float .f64 a,.float .f64 a,.float .f64 0,.float .f64 a,.float .f64 0] (0,0) _ rfl (by
     refine blk_put (cs:=#[.int .i64 1,.float .f64 a,.float .f64 a,.float .f64 a,.float .f64 0,.float .f64 a,.float .f64 0]) ?_ 6 _ rfl;refine blk_put (cs:=#[.int .i64 1,.float .f64 a,.float .f64 a,.float .f64 a,.float .f64 0,.float .f64 0,.float .f64 0]) ?_ 5 _ rfl;refine blk_put (cs:=#[.int .i64 1,.float .f64 a,.float .f64 a,.float .f64 a,.float .f64 0,.float .f64 0,.float .f64 0]) ?_ 4 _ rfl;refine blk_put (cs:=#[.int .i64 1,.float .f64 a,.float .f64 a,.float .f64 0,.float .f64 0,.float .f64 0,.float .f64 0]) ?_ 3 _ rfl;refine blk_put (cs:=#[.int .i64 1,.float .f64 a,.float .f64 0,.float .f64 0,.float .f64 0,.float .f64 0,.float .f64 0]) ?_ 2 _ rfl;refine blk_put (cs:=#[.int .i64 1,.float .f64 0,.float .f64 0,.float .f64 0,.float .f64 0,.float .f64 0,.float .f64 0]) ?_ 1 _ rfl;refine blk_put (cs:=#[.int .i64 0,.float .f64 0,.float .f64 0,.float .f64 0,.float .f64 0,.float .f64 0,.float .f64 0]) ?_ 0 _ rfl
     exact R2.out) Try.underlying56 rfl (by kernel_rfl)) rfl ?_
    exact ⟨by rfl,below_set (below_set (below_set (below_set (below_set (below_set (below_set (B2.out) (by omega)) (by omega)) (by omega)) (by omega)) (by omega)) (by omega)) (by omega)⟩
   rw [if_neg c3] at h
   have c3b : (c == 0) = false:=beq_eq_false_iff_ne.mpr c3
   have c4 : fok .add x3 a = true:=Classical.byContradiction fun g=>by rw [if_neg g] at h;cases h
   rw [if_pos c4] at h
   obtain ⟨lo,hlo,h⟩:=Option.bind_eq_some_iff.mp h;have HL:=Aside0.mk hlo;have HG:=Aside0.mk h;clear hlo h c3;go_enter Try.func45,Try.ntmps45
   go_wp2_with fail
   have T0 : ((w.alloc (.cells #[.int .i64 c,.float .f64 x1,.float .f64 x2,.float .f64 x3,.float .f64 x4,.float .f64 x5,.float .f64 x6] 56)).alloc (.cells #[.int .i64 0,.float .f64 0,.float .f64 0,.float .f64 0,.float .f64 0,.float .f64 0,.float .f64 0] 56)).heap[w.heap.size]? = some (.cells #[.int .i64 c,.float .f64 x1,.float .f64 x2,.float .f64 x3,.float .f64 x4,.float .f64 x5,.float .f64 x6] 56 (0,0)):=blk_alloc (blk_new w _) _;have R0 : ((w.alloc (.cells #[.int .i64 c,.float .f64 x1,.float .f64 x2,.float .f64 x3,.float .f64 x4,.float .f64 x5,.float .f64 x6] 56)).alloc (.cells #[.int .i64 0,.float .f64 0,.float .f64 0,.float .f64 0,.float .f64 0,.float .f64 0,.float .f64 0] 56)).heap[w.heap.size + 1]? = some (.cells #[.int .i64 0,.float .f64 0,.float .f64 0,.float .f64 0,.float .f64 0,.float .f64 0,.float .f64 0] 56 (0,0)):=blk_new2 _ _ _ (by simp);have B0 : Below w.heap.size w ((w.alloc (.cells #[.int .i64 c,.float .f64 x1,.float .f64 x2,.float .f64 x3,.float .f64 x4,.float .f64 x5,.float .f64 x6] 56)).alloc (.cells #[.int .i64 0,.float .f64 0,.float .f64 0,.float .f64 0,.float .f64 0,.float .f64 0,.float .f64 0] 56)):=((Below.refl w.heap.size w).alloc (Nat.le_refl _) _).alloc (by simp) _
   have Z0 : w.heap.size ≤ ((w.alloc (.cells #[.int .i64 c,.float .f64 x1,.float .f64 x2,.float .f64 x3,.float .f64 x4,.float .f64 x5,.float .f64 x6] 56)).alloc (.cells #[.int .i64 0,.float .f64 0,.float .f64 0,.float .f64 0,.float .f64 0,.float .f64 0,.float .f64 0] 56)).heap.size:=by simp;omega
   refine (tally_formed.calls k c x1 x2 x3 x4 x5 x6 true _ HT.out).mono ?_;rintro e w1 ⟨rfl,hb1⟩;have T1:=Aside0.mk (blk_below T0 hb1);have R1:=Aside0.mk (blk_below R0 hb1);have B1:=Aside0.mk (below_then B0 Z0 hb1);clear T0 R0 B0 Z0 hb1;obtain ⟨t0,t1,t2,t3,t4,t5,t6,ft0,ft1,ft2,ft3,ft4,ft5,ft6⟩:=cf7_ T1;obtain ⟨r0,r1,r2,r3,r4,r5,r6,fr0,fr1,fr2,fr3,fr4,fr5,fr6⟩:=cf7_ R1;have hz : w.heap.size + 1 < w1.heap.size:=blk_lt R1.out
   go_wp2_with fail
   have hl : Kd.C Kd.f64 (w1.alloc (.cells #[.float .f64 a] 27)) (some ⟨w1.heap.size,0,none⟩) [a].length [a]:=f64_one (blk_new w1 _);refine (tally_finite.calls k _ _ [a] true _ hl (Nat.le_refl _) HF.out).mono ?_;rintro e w2 ⟨rfl,nd,rfl⟩;have T2:=Aside0.mk (show ((w1.alloc (.cells #[.float .f64 a] 27)).drewN nd).heap[w.heap.size]? = _ from blk_drewN (blk_alloc T1.out _) nd);have R2:=Aside0.mk (show ((w1.alloc (.cells #[.float .f64 a] 27)).drewN nd).heap[w.heap.size + 1]? = _ from blk_drewN (blk_alloc R1.out _) nd);have B2:=Aside0.mk (show Below w.heap.size w ((w1.alloc (.cells #[.float .f64 a] 27)).drewN nd) from pw_below_drewN (below_alloc B1.out _) nd)
   have Z2 : w1.heap.size < ((w1.alloc (.cells #[.float .f64 a] 27)).drewN nd).heap.size:=by simp
   clear t0 t1 t2 t3 t4 t5 t6 ft0 ft1 ft2 ft3 ft4 ft5 ft6;clear r0 r1 r2 r3 r4 r5 r6 fr0 fr1 fr2 fr3 fr4 fr5 fr6
   obtain ⟨W2,hW2⟩ : ∃ W2,W2 = (w1.alloc (.cells #[.float .f64 a] 27)).drewN nd:=⟨_,rfl⟩
   rw [← hW2] at T2 R2 B2 Z2 ⊢
   clear hW2 hl T1 R1 B1;obtain ⟨t0,t1,t2,t3,t4,t5,t6,ft0,ft1,ft2,ft3,ft4,ft5,ft6⟩:=cf7_ T2;obtain ⟨r0,r1,r2,r3,r4,r5,r6,fr0,fr1,fr2,fr3,fr4,fr5,fr6⟩:=cf7_ R2
   have hz2 : w.heap.size + 1 < W2.heap.size:=by omega
   have hg : w.heap.size + 1 < W2.heap.size:=hz2
   go_upto_region 8 with fail
   clear t0 t1 t2 t3 t4 t5 t6 ft0 ft1 ft2 ft3 ft4 ft5 ft6;clear r0 r1 r2 r3 r4 r5 r6 fr0 fr1 fr2 fr3 fr4 fr5 fr6
   have ng0 : w.heap.size ≠ W2.heap.size ∧ w.heap.size + 1 ≠ W2.heap.size:=by omega
   have gb0 : w.heap.size ≤ W2.heap.size:=by omega
   obtain ⟨W3,hW3⟩ : ∃ W3,W3 = W2.alloc (.cells #[.int .i64 (wrap64 (c + 1)),.float .f64 x1,.float .f64 x2,.float .f64 ((fop .add x3 a)),.float .f64 0,.float .f64 0,.float .f64 0] 56):=⟨_,rfl⟩
   have U3:=Aside0.mk (show W3.heap[W2.heap.size]? = some (.cells #[.int .i64 (wrap64 (c + 1)),.float .f64 x1,.float .f64 x2,.float .f64 ((fop .add x3 a)),.float .f64 0,.float .f64 0,.float .f64 0] 56 (0,0)) from by rw [hW3];exact blk_new W2 _);have T3:=Aside0.mk (show W3.heap[w.heap.size]? = some (.cells #[.int .i64 c,.float .f64 x1,.float .f64 x2,.float .f64 x3,.float .f64 x4,.float .f64 x5,.float .f64 x6] 56 (0,0)) from by rw [hW3];exact blk_alloc T2.out _);have R3:=Aside0.mk (show W3.heap[(w.heap.size + 1)]? = some (.cells #[.int .i64 0,.float .f64 0,.float .f64 0,.float .f64 0,.float .f64 0,.float .f64 0,.float .f64 0] 56 (0,0)) from by rw [hW3];exact blk_alloc R2.out _);have B3:=Aside0.mk (show Below w.heap.size w W3 from by rw [hW3];exact below_alloc B2.out _);rw [← hW3];clear hW3
   obtain ⟨g,hgg⟩ : ∃ g,g = W2.heap.size:=⟨_,rfl⟩
   rw [← hgg] at U3 ng0 gb0 ⊢
   have ng:=Aside0.mk ng0;have gb:=Aside0.mk gb0;clear hgg ng0 gb0 hg hz hz2 Z2 T2 R2 B2;obtain ⟨u0,u1,u2,u3,u4,u5,u6,fu0,fu1,fu2,fu3,fu4,fu5,fu6⟩:=cf7_ U3
   go_upto_if 40 with (fail)
   go_cut [] (fun wc=>wc.heap[g]? = some (.cells #[.int .i64 (wrap64 (c + 1)),.float .f64 ((minF a x1)),.float .f64 x2,.float .f64 ((fop .add x3 a)),.float .f64 0,.float .f64 0,.float .f64 0] 56 (0,0)) ∧ wc.heap[w.heap.size]? = some (.cells #[.int .i64 c,.float .f64 x1,.float .f64 x2,.float .f64 x3,.float .f64 x4,.float .f64 x5,.float .f64 x6] 56 (0,0)) ∧ wc.heap[w.heap.size + 1]? = some (.cells #[.int .i64 0,.float .f64 0,.float .f64 0,.float .f64 0,.float .f64 0,.float .f64 0,.float .f64 0] 56 (0,0)) ∧ Below w.heap.size w wc)
   case first =>
    by_cases q : (FloatKind.f64.format.order a x1 == some .lt) = true
    ·rw [q];have HQ:=Aside0.mk (minF_t q);clear q;go_wp2
     go_meet
     case rel=>exact ⟨by rw [HQ.out];exact blk_put U3.out 1 _ rfl,blk_far T3.out (p:=⟨g,1,none⟩) ng.out.1 _,blk_far R3.out (p:=⟨g,1,none⟩) ng.out.2 _,below_set B3.out gb.out⟩
    have q':=Bool.eq_false_iff.mpr q;rw [q'];have HQ:=Aside0.mk (minF_f q');clear q q';go_wp2
    go_meet
    case rel=>exact ⟨by rw [HQ.out];exact U3.out,T3.out,R3.out,B3.out⟩
   case rest =>
    obtain ⟨hu_,ht_,hr_,hb_⟩:=hcut;clear u0 u1 u2 u3 u4 u5 u6 fu0 fu1 fu2 fu3 fu4 fu5 fu6;clear U3 T3 R3 B3;have U4:=Aside0.mk hu_;have T4:=Aside0.mk ht_;have R4:=Aside0.mk hr_;have B4:=Aside0.mk hb_;clear hu_ ht_ hr_ hb_;obtain ⟨u0,u1,u2,u3,u4,u5,u6,fu0,fu1,fu2,fu3,fu4,fu5,fu6⟩:=cf7_ U4
    go_upto_if 46 with (fail)
    go_cut [] (fun wc=>wc.heap[g]? = some (.cells #[.int .i64 (wrap64 (c + 1)),.float .f64 ((minF a x1)),.float .f64 ((maxF a x2)),.float .f64 ((fop .add x3 a)),.float .f64 0,.float .f64 0,.float .f64 0] 56 (0,0)) ∧ wc.heap[w.heap.size]? = some (.cells #[.int .i64 c,.float .f64 x1,.float .f64 x2,.float .f64 x3,.float .f64 x4,.float .f64 x5,.float .f64 x6] 56 (0,0)) ∧ wc.heap[w.heap.size + 1]? = some (.cells #[.int .i64 0,.float .f64 0,.float .f64 0,.float .f64 0,.float .f64 0,.float .f64 0,.float .f64 0] 56 (0,0)) ∧ Below w.heap.size w wc)
    case first =>
     by_cases q : (FloatKind.f64.format.order a x2 == some .gt) = true
     ·rw [q];have HQ:=Aside0.mk (maxF_t q);clear q;go_wp2
      go_meet
      case rel=>exact ⟨by rw [HQ.out];exact blk_put U4.out 2 _ rfl,blk_far T4.out (p:=⟨g,2,none⟩) ng.out.1 _,blk_far R4.out (p:=⟨g,2,none⟩) ng.out.2 _,below_set B4.out gb.out⟩
     have q':=Bool.eq_false_iff.mpr q;rw [q'];have HQ:=Aside0.mk (maxF_f q');clear q q';go_wp2
     go_meet
     case rel=>exact ⟨by rw [HQ.out];exact U4.out,T4.out,R4.out,B4.out⟩
    case rest =>
     obtain ⟨hu_,ht_,hr_,hb_⟩:=hcut;clear u0 u1 u2 u3 u4 u5 u6 fu0 fu1 fu2 fu3 fu4 fu5 fu6;clear U4 T4 R4 B4;have U5:=Aside0.mk hu_;have T5:=Aside0.mk ht_;have R5:=Aside0.mk hr_;have B5:=Aside0.mk hb_;clear hu_ ht_ hr_ hb_;have h:=HG.out;clear HG
     unfold tally_Put.g at h
     have e1 : fok .add x4 lo = true:=Classical.byContradiction fun g_=>by rw [if_neg g_] at h;cases h
     rw [if_pos e1] at h
     have e2 : fok .sub a x5 = true:=Classical.byContradiction fun g_=>by rw [if_neg g_] at h;cases h
     rw [if_pos e2] at h
     have e3 : fok .quo (fop .sub a x5) (floatOfInt .f64 (wrap64 (c + 1))) = true:=Classical.byContradiction fun g_=>by rw [if_neg g_] at h;cases h
     rw [if_pos e3] at h
     have e4 : fok .add x5 (fop .quo (fop .sub a x5) (floatOfInt .f64 (wrap64 (c + 1)))) = true:=Classical.byContradiction fun g_=>by rw [if_neg g_] at h;cases h
     rw [if_pos e4] at h
     have e5 : fok .sub a (fop .add x5 (fop .quo (fop .sub a x5) (floatOfInt .f64 (wrap64 (c + 1))))) = true:=Classical.byContradiction fun g_=>by rw [if_neg g_] at h;cases h
     rw [if_pos e5] at h
     have e6 : fok .mul (fop .sub a x5) (fop .sub a (fop .add x5 (fop .quo (fop .sub a x5) (floatOfInt .f64 (wrap64 (c + 1)))))) = true:=Classical.byContradiction fun g_=>by rw [if_neg g_] at h;cases h
     rw [if_pos e6] at h
     have e7 : fok .add x6 (fop .mul (fop .sub a x5) (fop .sub a (fop .add x5 (fop .quo (fop .sub a x5) (floatOfInt .f64 (wrap64 (c + 1))))))) = true:=Classical.byContradiction fun g_=>by rw [if_neg g_] at h;cases h
     rw [if_pos e7] at h
     obtain ⟨v,hv,h⟩:=Option.bind_eq_some_iff.mp h;have HV:=Aside0.mk hv;have HG:=Aside0.mk h;clear hv h
     try go_wp2
     have U6:=Aside0.mk (blk_drew U5.out);have T6:=Aside0.mk (blk_drew T5.out);have R6:=Aside0.mk (blk_drew R5.out);have B6:=Aside0.mk (below_drew1 B5.out);clear U5 T5 R5 B5;refine start_ (n:=11) (S:=fun w'=>w'.cell? ⟨w.heap.size,4,none⟩ = some (.float .f64 x4) ∧ w'.cell? ⟨w.heap.size,3,none⟩ = some (.float .f64 x3) ∧ w'.cell? ⟨g,3,none⟩ = some (.float .f64 (fop .add x3 a))) (ds:=[10]) #[false,false,false,false,false,false,false,false,false,false,false] (by kernel_rfl) rfl rfl ⟨(blk_cell T6.out 4).trans rfl,(blk_cell T6.out 3).trans rfl,(blk_cell U6.out 3).trans rfl⟩ (fun hHeld=>?_);refine with_tabW tally_Put.tab12 tally_Put.bits12 (fun HT_ HW_=>?_)
     generalize wc.drew = wr at U6 T6 R6 B6 hHeld ⊢
     refine pure_ (i:=0) (N:=some 49) (v:=?_) (a':=?_) #[true,false,false,false,false,false,false,false,false,false,false] rfl rfl (any_of HT_.out (by kernel_rfl)) (fun _ _ _ h=>h) (Or.inl ⟨by rfl,?_⟩) ?_ ?_;rotate_left
     ·intro w';go_simp;with_reducible rfl
     rotate_left
     ·simp only [Act.put,List.setIfInBounds_toArray,List.set_cons_zero,List.set_cons_succ,i64_w,i32_w];rfl
     refine pure_ (i:=2) (N:=some 51) (v:=?_) (a':=?_) #[true,false,true,false,false,false,false,false,false,false,false] rfl rfl (any_of HT_.out (by kernel_rfl)) (fun _ _ _ h=>h) (Or.inl ⟨by rfl,?_⟩) ?_ ?_;rotate_left
     ·intro w';go_simp;with_reducible rfl
     rotate_left
     ·simp only [Act.put,List.setIfInBounds_toArray,List.set_cons_zero,List.set_cons_succ,i64_w,i32_w];rfl
     refine pure_ (i:=4) (N:=some 53) (v:=?_) (a':=?_) #[true,false,true,false,true,false,false,false,false,false,false] rfl rfl (any_of HT_.out (by kernel_rfl)) (fun _ _ _ h=>h) (Or.inl ⟨by rfl,?_⟩) ?_ ?_;rotate_left
     ·intro w';go_simp;with_reducible rfl
     rotate_left
     ·simp only [Act.put,List.setIfInBounds_toArray,List.set_cons_zero,List.set_cons_succ,i64_w,i32_w];rfl
     refine pure_ (i:=5) (N:=some 54) (v:=?_) (a':=?_) #[true,false,true,false,true,true,false,false,false,false,false] rfl rfl (any_of HT_.out (by kernel_rfl)) (fun _ _ _ h=>h) (Or.inl ⟨by rfl,?_⟩) ?_ ?_;rotate_left
     ·intro w';go_simp;with_reducible rfl
     rotate_left
     ·simp only [Act.put,List.setIfInBounds_toArray,List.set_cons_zero,List.set_cons_succ,i64_w,i32_w];rfl
     refine take_ (i:=1) (N:=some 50) (v:=?_) (a':=?_) #[true,true,true,false,true,true,false,false,false,false,false] rfl rfl (take_ofW HT_.out HW_.out (by kernel_rfl)) (fun _ _ _ h=>h) (Or.inl ⟨by rfl,?_⟩) hHeld ?_ ?_;rotate_left
     ·rintro w' ⟨s0,s1,s2⟩;go_simp;with_reducible rfl
     rotate_left
     ·simp only [Act.put,List.setIfInBounds_toArray,List.set_cons_zero,List.set_cons_succ,i64_w,i32_w];rfl
     refine take_ (i:=3) (N:=some 52) (v:=?_) (a':=?_) #[true,true,true,true,true,true,false,false,false,false,false] rfl rfl (take_ofW HT_.out HW_.out (by kernel_rfl)) (fun _ _ _ h=>h) (Or.inl ⟨by rfl,?_⟩) hHeld ?_ ?_;rotate_left
     ·rintro w' ⟨s0,s1,s2⟩;go_simp;with_reducible rfl
     rotate_left
     ·simp only [Act.put,List.setIfInBounds_toArray,List.set_cons_zero,List.set_cons_succ,i64_w,i32_w];rfl
     refine take_ (i:=6) (N:=some 55) (v:=?_) (a':=?_) #[true,true,true,true,true,true,true,false,false,false,false] rfl rfl (take_ofW HT_.out HW_.out (by kernel_rfl)) (fun _ _ _ h=>h) (Or.inl ⟨by rfl,?_⟩) hHeld ?_ ?_;rotate_left
     ·rintro w' ⟨s0,s1,s2⟩;go_simp;with_reducible rfl
     rotate_left
     ·simp only [Act.put,List.setIfInBounds_toArray,List.set_cons_zero,List.set_cons_succ,i64_w,i32_w];rfl
     refine one_ (i:=7) (N:=some 56) #[true,true,true,true,true,true,true,true,false,false,false] rfl rfl (one_of HT_.out (by kernel_rfl)) (by decide) (fun K hK=>?_);refine goes_ Try.func58 (by kernel_rfl) rfl #[.float .f64 x3,.float .f64 a,.float .f64 (fop .add x3 a)] (by rfl) rfl rfl (by (try simp only [List.map_toArray,List.map_cons,List.map_nil]);first|done|rfl|(simp only [List.length_drop,List.length_take];rfl)) ?_
     with_reducible refine (tally_lost.calls x3 a (fop .add x3 a) lo _ HL.out).mono ?_
     rintro e w' ⟨rfl,⟨nd,rfl⟩⟩;refine ⟨_,rfl,?_⟩;refine hK.out _ _ ⟨(blk_cell T6.out 4).trans rfl,(blk_cell T6.out 3).trans rfl,(blk_cell U6.out 3).trans rfl⟩ (fun hHeld=>?_);clear hK K;refine norm_ (a':=?_) ?_ ?_;rotate_left
     ·show Act.put _ (some 56) _ = _
      simp only [Act.put,List.setIfInBounds_toArray,List.set_cons_zero,List.set_cons_succ,i64_w,i32_w];rfl
     refine pure_ (i:=8) (N:=some 57) (v:=?_) (a':=?_) #[true,true,true,true,true,true,true,true,true,false,false] rfl rfl (any_of HT_.out (by kernel_rfl)) (fun _ _ _ h=>h) (Or.inl ⟨by rfl,?_⟩) ?_ ?_;rotate_left
     ·intro w';go_simp;with_reducible rfl
     rotate_left
     ·simp only [Act.put,List.setIfInBounds_toArray,List.set_cons_zero,List.set_cons_succ,i64_w,i32_w];rfl
     refine pure_ (i:=9) (N:=some 58) (v:=?_) (a':=?_) #[true,true,true,true,true,true,true,true,true,true,false] rfl rfl (any_of HT_.out (by kernel_rfl)) (fun _ _ _ h=>h) (Or.inl ⟨by rfl,?_⟩) ?_ ?_;rotate_left
     ·intro w';go_simp;with_reducible rfl
     rotate_left
     ·simp only [Act.put,List.setIfInBounds_toArray,List.set_cons_zero,List.set_cons_succ,i64_w,i32_w];rfl
     refine last_ (i:=10) (N:=none) #[true,true,true,true,true,true,true,true,true,true,true] rfl rfl (one_of HT_.out (by kernel_rfl)) (by decide) (fun K hK=>?_);have hs57 : wr.cell? ⟨g,4,none⟩ = some (.float .f64 0):=(blk_cell U6.out 4).trans rfl;have hfs57:=blk_frozen U6.out 4;refine skip_ (w1:=?_) (by rfl) rfl ?_ ?_;rotate_left
     ·go_simp;rfl
     refine hK.out _ _ ?_;clear hK K hs57 hfs57;refine done_ (done_of HT_.out (by kernel_rfl)) ?_;clear HT_ HW_ hHeld
     obtain ⟨W7,hW7⟩ : ∃ W7,W7 = (wr.drewN nd).setCell ⟨g,4,none⟩ (.float .f64 (fop .add x4 lo)):=⟨_,rfl⟩
     have U7:=Aside0.mk (show W7.heap[g]? = some (.cells #[.int .i64 (wrap64 (c + 1)),.float .f64 ((minF a x1)),.float .f64 ((maxF a x2)),.float .f64 ((fop .add x3 a)),.float .f64 ((fop .add x4 lo)),.float .f64 0,.float .f64 0] 56 (0,0)) from by rw [hW7];exact blk_put (blk_drewN U6.out nd) 4 _ rfl);have T7:=Aside0.mk (show W7.heap[w.heap.size]? = some (.cells #[.int .i64 c,.float .f64 x1,.float .f64 x2,.float .f64 x3,.float .f64 x4,.float .f64 x5,.float .f64 x6] 56 (0,0)) from by rw [hW7];exact blk_far (blk_drewN T6.out nd) (p:=⟨g,4,none⟩) ng.out.1 _);have R7:=Aside0.mk (show W7.heap[(w.heap.size + 1)]? = some (.cells #[.int .i64 0,.float .f64 0,.float .f64 0,.float .f64 0,.float .f64 0,.float .f64 0,.float .f64 0] 56 (0,0)) from by rw [hW7];exact blk_far (blk_drewN R6.out nd) (p:=⟨g,4,none⟩) ng.out.2 _);have B7:=Aside0.mk (show Below w.heap.size w W7 from by rw [hW7];exact below_set (pw_below_drewN B6.out nd) gb.out);rw [← hW7];clear hW7;clear U6 T6 R6 B6;obtain ⟨u0,u1,u2,u3,u4,u5,u6,fu0,fu1,fu2,fu3,fu4,fu5,fu6⟩:=cf7_ U7;obtain ⟨t0,t1,t2,t3,t4,t5,t6,ft0,ft1,ft2,ft3,ft4,ft5,ft6⟩:=cf7_ T7
     go_upto_region 15 with fail
     clear u0 u1 u2 u3 u4 u5 u6 fu0 fu1 fu2 fu3 fu4 fu5 fu6;clear t0 t1 t2 t3 t4 t5 t6 ft0 ft1 ft2 ft3 ft4 ft5 ft6
     obtain ⟨W8,hW8⟩ : ∃ W8,W8 = W7.setCell ⟨g,5,none⟩ (.float .f64 (fop .add x5 (fop .quo (fop .sub a x5) (floatOfInt .f64 (wrap64 (c + 1)))))):=⟨_,rfl⟩
     have U8:=Aside0.mk (show W8.heap[g]? = some (.cells #[.int .i64 (wrap64 (c + 1)),.float .f64 ((minF a x1)),.float .f64 ((maxF a x2)),.float .f64 ((fop .add x3 a)),.float .f64 ((fop .add x4 lo)),.float .f64 ((fop .add x5 (fop .quo (fop .sub a x5) (floatOfInt .f64 (wrap64 (c + 1)))))),.float .f64 0] 56 (0,0)) from by rw [hW8];exact blk_put (U7.out) 5 _ rfl);have T8:=Aside0.mk (show W8.heap[w.heap.size]? = some (.cells #[.int .i64 c,.float .f64 x1,.float .f64 x2,.float .f64 x3,.float .f64 x4,.float .f64 x5,.float .f64 x6] 56 (0,0)) from by rw [hW8];exact blk_far (T7.out) (p:=⟨g,5,none⟩) ng.out.1 _);have R8:=Aside0.mk (show W8.heap[(w.heap.size + 1)]? = some (.cells #[.int .i64 0,.float .f64 0,.float .f64 0,.float .f64 0,.float .f64 0,.float .f64 0,.float .f64 0] 56 (0,0)) from by rw [hW8];exact blk_far (R7.out) (p:=⟨g,5,none⟩) ng.out.2 _);have B8:=Aside0.mk (show Below w.heap.size w W8 from by rw [hW8];exact below_set (B7.out) gb.out);rw [← hW8];clear hW8;clear U7 T7 R7 B7;obtain ⟨u0,u1,u2,u3,u4,u5,u6,fu0,fu1,fu2,fu3,fu4,fu5,fu6⟩:=cf7_ U8;obtain ⟨t0,t1,t2,t3,t4,t5,t6,ft0,ft1,ft2,ft3,ft4,ft5,ft6⟩:=cf7_ T8
     go_upto_region 16 with fail
     clear u0 u1 u2 u3 u4 u5 u6 fu0 fu1 fu2 fu3 fu4 fu5 fu6;clear t0 t1 t2 t3 t4 t5 t6 ft0 ft1 ft2 ft3 ft4 ft5 ft6
     obtain ⟨W9,hW9⟩ : ∃ W9,W9 = W8.setCell ⟨g,6,none⟩ (.float .f64 (fop .add x6 (fop .mul (fop .sub a x5) (fop .sub a (fop .add x5 (fop .quo (fop .sub a x5) (floatOfInt .f64 (wrap64 (c + 1))))))))):=⟨_,rfl⟩
     have U9:=Aside0.mk (show W9.heap[g]? = some (.cells #[.int .i64 (wrap64 (c + 1)),.float .f64 ((minF a x1)),.float .f64 ((maxF a x2)),.float .f64 ((fop .add x3 a)),.float .f64 ((fop .add x4 lo)),.float .f64 ((fop .add x5 (fop .quo (fop .sub a x5) (floatOfInt .f64 (wrap64 (c + 1)))))),.float .f64 ((fop .add x6 (fop .mul (fop .sub a x5) (fop .sub a (fop .add x5 (fop .quo (fop .sub a x5) (floatOfInt .f64 (wrap64 (c + 1)))))))))] 56 (0,0)) from by rw [hW9];exact blk_put (U8.out) 6 _ rfl);have T9:=Aside0.mk (show W9.heap[w.heap.size]? = some (.cells #[.int .i64 c,.float .f64 x1,.float .f64 x2,.float .f64 x3,.float .f64 x4,.float .f64 x5,.float .f64 x6] 56 (0,0)) from by rw [hW9];exact blk_far (T8.out) (p:=⟨g,6,none⟩) ng.out.1 _);have R9:=Aside0.mk (show W9.heap[(w.heap.size + 1)]? = some (.cells #[.int .i64 0,.float .f64 0,.float .f64 0,.float .f64 0,.float .f64 0,.float .f64 0,.float .f64 0] 56 (0,0)) from by rw [hW9];exact blk_far (R8.out) (p:=⟨g,6,none⟩) ng.out.2 _);have B9:=Aside0.mk (show Below w.heap.size w W9 from by rw [hW9];exact below_set (B8.out) gb.out);rw [← hW9];clear hW9;clear U8 T8 R8 B8;obtain ⟨u0,u1,u2,u3,u4,u5,u6,fu0,fu1,fu2,fu3,fu4,fu5,fu6⟩:=cf7_ U9
     go_upto_if 84 with (fail)
     go_cut [] (fun wc=>wc.heap[g]? = some (.cells #[.int .i64 (wrap64 (c + 1)),.float .f64 ((minF a x1)),.float .f64 ((maxF a x2)),.float .f64 ((fop .add x3 a)),.float .f64 ((fop .add x4 lo)),.float .f64 ((fop .add x5 (fop .quo (fop .sub a x5) (floatOfInt .f64 (wrap64 (c + 1)))))),.float .f64 ((zeroF (fop .add x6 (fop .mul (fop .sub a x5) (fop .sub a (fop .add x5 (fop .quo (fop .sub a x5) (floatOfInt .f64 (wrap64 (c + 1))))))))))] 56 (0,0)) ∧ wc.heap[w.heap.size]? = some (.cells #[.int .i64 c,.float .f64 x1,.float .f64 x2,.float .f64 x3,.float .f64 x4,.float .f64 x5,.float .f64 x6] 56 (0,0)) ∧ wc.heap[w.heap.size + 1]? = some (.cells #[.int .i64 0,.float .f64 0,.float .f64 0,.float .f64 0,.float .f64 0,.float .f64 0,.float .f64 0] 56 (0,0)) ∧ Below w.heap.size w wc)
     case first =>
      by_cases q : (FloatKind.f64.format.order (fop .add x6 (fop .mul (fop .sub a x5) (fop .sub a (fop .add x5 (fop .quo (fop .sub a x5) (floatOfInt .f64 (wrap64 (c + 1)))))))) 0 == some .lt) = true
      ·rw [q];have HQ:=Aside0.mk (zeroF_t q);clear q;go_wp2
       go_meet
       case rel=>exact ⟨by rw [HQ.out];exact blk_put U9.out 6 _ rfl,blk_far T9.out (p:=⟨g,6,none⟩) ng.out.1 _,blk_far R9.out (p:=⟨g,6,none⟩) ng.out.2 _,below_set B9.out gb.out⟩
      have q':=Bool.eq_false_iff.mpr q;rw [q'];have HQ:=Aside0.mk (zeroF_f q');clear q q';go_wp2
      go_meet
      case rel=>exact ⟨by rw [HQ.out];exact U9.out,T9.out,R9.out,B9.out⟩
     case rest =>
      obtain ⟨hu_,ht_,hr_,hb_⟩:=hcut;clear u0 u1 u2 u3 u4 u5 u6 fu0 fu1 fu2 fu3 fu4 fu5 fu6;clear U9 T9 R9 B9;have U10:=Aside0.mk hu_;have T10:=Aside0.mk ht_;have R10:=Aside0.mk hr_;have B10:=Aside0.mk hb_;clear hu_ ht_ hr_ hb_;obtain ⟨u0,u1,u2,u3,u4,u5,u6,fu0,fu1,fu2,fu3,fu4,fu5,fu6⟩:=cf7_ U10;have hz3 : w.heap.size + 1 < wc.heap.size:=blk_lt R10.out;have hz4 : g < wc.heap.size:=blk_lt U10.out
      go_wp2_with fail
      refine (tally_sound.calls k (wrap64 (c + 1)) (minF a x1) (maxF a x2) (fop .add x3 a) (fop .add x4 lo) (fop .add x5 (fop .quo (fop .sub a x5) (floatOfInt .f64 (wrap64 (c + 1))))) (zeroF (fop .add x6 (fop .mul (fop .sub a x5) (fop .sub a (fop .add x5 (fop .quo (fop .sub a x5) (floatOfInt .f64 (wrap64 (c + 1))))))))) v _ HV.out).mono ?_;rintro e w9 ⟨rfl,hb⟩;have R11:=Aside0.mk (blk_below R10.out hb);have U11:=Aside0.mk (blk_below U10.out hb);have B11:=Aside0.mk (below_then B10.out (by omega) hb);clear u0 u1 u2 u3 u4 u5 u6 fu0 fu1 fu2 fu3 fu4 fu5 fu6;clear R10 U10 T10 B10 hb;obtain ⟨u0,u1,u2,u3,u4,u5,u6,fu0,fu1,fu2,fu3,fu4,fu5,fu6⟩:=cf7_ U11;obtain ⟨r0,r1,r2,r3,r4,r5,r6,fr0,fr1,fr2,fr3,fr4,fr5,fr6⟩:=cf7_ R11;have h:=HG.out;clear HG
      cases v with
      | true =>
       rw [if_pos rfl] at h
       simp only [Option.some.injEq,Prod.mk.injEq] at h
       obtain ⟨rfl,rfl,rfl,rfl,rfl,rfl,rfl,rfl⟩:=h;have nr:=ng.out.2;go_wp2
       refine bodyPost_ret (results_ct rfl _ _ (w.heap.size + 1) 56 #[.int .i64 (wrap64 (c + 1)),.float .f64 ((minF a x1)),.float .f64 ((maxF a x2)),.float .f64 ((fop .add x3 a)),.float .f64 ((fop .add x4 lo)),.float .f64 ((fop .add x5 (fop .quo (fop .sub a x5) (floatOfInt .f64 (wrap64 (c + 1)))))),.float .f64 ((zeroF (fop .add x6 (fop .mul (fop .sub a x5) (fop .sub a (fop .add x5 (fop .quo (fop .sub a x5) (floatOfInt .f64 (wrap64 (c + 1))))))))))] (0,0) _ rfl (by
        refine blk_put (cs:=#[.int .i64 (wrap64 (c + 1)),.float .f64 ((minF a x1)),.float .f64 ((maxF a x2)),.float .f64 ((fop .add x3 a)),.float .f64 ((fop .add x4 lo)),.float .f64 ((fop .add x5 (fop .quo (fop .sub a x5) (floatOfInt .f64 (wrap64 (c + 1)))))),.float .f64 0]) ?_ 6 _ rfl;refine blk_put (cs:=#[.int .i64 (wrap64 (c + 1)),.float .f64 ((minF a x1)),.float .f64 ((maxF a x2)),.float .f64 ((fop .add x3 a)),.float .f64 ((fop .add x4 lo)),.float .f64 0,.float .f64 0]) ?_ 5 _ rfl;refine blk_put (cs:=#[.int .i64 (wrap64 (c + 1)),.float .f64 ((minF a x1)),.float .f64 ((maxF a x2)),.float .f64 ((fop .add x3 a)),.float .f64 0,.float .f64 0,.float .f64 0]) ?_ 4 _ rfl;refine blk_put (cs:=#[.int .i64 (wrap64 (c + 1)),.float .f64 ((minF a x1)),.float .f64 ((maxF a x2)),.float .f64 0,.float .f64 0,.float .f64 0,.float .f64 0]) ?_ 3 _ rfl;refine blk_put (cs:=#[.int .i64 (wrap64 (c + 1)),.float .f64 ((minF a x1)),.float .f64 0,.float .f64 0,.float .f64 0,.float .f64 0,.float .f64 0]) ?_ 2 _ rfl;refine blk_put (cs:=#[.int .i64 (wrap64 (c + 1)),.float .f64 0,.float .f64 0,.float .f64 0,.float .f64 0,.float .f64 0,.float .f64 0]) ?_ 1 _ rfl;refine blk_put (cs:=#[.int .i64 0,.float .f64 0,.float .f64 0,.float .f64 0,.float .f64 0,.float .f64 0,.float .f64 0]) ?_ 0 _ rfl
        exact R11.out) Try.underlying56 rfl (by kernel_rfl)) rfl ?_
       exact ⟨by rfl,below_set (below_set (below_set (below_set (below_set (below_set (below_set (B11.out) (by omega)) (by omega)) (by omega)) (by omega)) (by omega)) (by omega)) (by omega)⟩
      | false =>
       rw [if_neg (by decide)] at h
       simp only [Option.some.injEq,Prod.mk.injEq] at h
       obtain ⟨rfl,rfl,rfl,rfl,rfl,rfl,rfl,rfl⟩:=h;go_wp2
       refine bodyPost_ret (results_ct rfl _ _ (w.heap.size + 1) 56 #[.int .i64 0,.float .f64 0,.float .f64 0,.float .f64 0,.float .f64 0,.float .f64 0,.float .f64 0] (0,0) _ rfl (by
        refine blk_put (cs:=#[.int .i64 0,.float .f64 0,.float .f64 0,.float .f64 0,.float .f64 0,.float .f64 0,.float .f64 0]) ?_ 6 _ rfl;refine blk_put (cs:=#[.int .i64 0,.float .f64 0,.float .f64 0,.float .f64 0,.float .f64 0,.float .f64 0,.float .f64 0]) ?_ 5 _ rfl;refine blk_put (cs:=#[.int .i64 0,.float .f64 0,.float .f64 0,.float .f64 0,.float .f64 0,.float .f64 0,.float .f64 0]) ?_ 4 _ rfl;refine blk_put (cs:=#[.int .i64 0,.float .f64 0,.float .f64 0,.float .f64 0,.float .f64 0,.float .f64 0,.float .f64 0]) ?_ 3 _ rfl;refine blk_put (cs:=#[.int .i64 0,.float .f64 0,.float .f64 0,.float .f64 0,.float .f64 0,.float .f64 0,.float .f64 0]) ?_ 2 _ rfl;refine blk_put (cs:=#[.int .i64 0,.float .f64 0,.float .f64 0,.float .f64 0,.float .f64 0,.float .f64 0,.float .f64 0]) ?_ 1 _ rfl;refine blk_put (cs:=#[.int .i64 0,.float .f64 0,.float .f64 0,.float .f64 0,.float .f64 0,.float .f64 0,.float .f64 0]) ?_ 0 _ rfl
        exact R11.out) Try.underlying56 rfl (by kernel_rfl)) rfl ?_
       exact ⟨by rfl,below_set (below_set (below_set (below_set (below_set (below_set (below_set (B11.out) (by omega)) (by omega)) (by omega)) (by omega)) (by omega)) (by omega)) (by omega)⟩
  have c2b:=Bool.eq_false_iff.mpr c2;subst c2b
  rw [if_neg (by decide)] at h
  simp only [Option.some.injEq,Prod.mk.injEq] at h
  obtain ⟨rfl,rfl,rfl,rfl,rfl,rfl,rfl,rfl⟩:=h;go_enter Try.func45,Try.ntmps45
  go_wp2_with fail
  have T0 : ((w.alloc (.cells #[.int .i64 c,.float .f64 x1,.float .f64 x2,.float .f64 x3,.float .f64 x4,.float .f64 x5,.float .f64 x6] 56)).alloc (.cells #[.int .i64 0,.float .f64 0,.float .f64 0,.float .f64 0,.float .f64 0,.float .f64 0,.float .f64 0] 56)).heap[w.heap.size]? = some (.cells #[.int .i64 c,.float .f64 x1,.float .f64 x2,.float .f64 x3,.float .f64 x4,.float .f64 x5,.float .f64 x6] 56 (0,0)):=blk_alloc (blk_new w _) _;have R0 : ((w.alloc (.cells #[.int .i64 c,.float .f64 x1,.float .f64 x2,.float .f64 x3,.float .f64 x4,.float .f64 x5,.float .f64 x6] 56)).alloc (.cells #[.int .i64 0,.float .f64 0,.float .f64 0,.float .f64 0,.float .f64 0,.float .f64 0,.float .f64 0] 56)).heap[w.heap.size + 1]? = some (.cells #[.int .i64 0,.float .f64 0,.float .f64 0,.float .f64 0,.float .f64 0,.float .f64 0,.float .f64 0] 56 (0,0)):=blk_new2 _ _ _ (by simp);have B0 : Below w.heap.size w ((w.alloc (.cells #[.int .i64 c,.float .f64 x1,.float .f64 x2,.float .f64 x3,.float .f64 x4,.float .f64 x5,.float .f64 x6] 56)).alloc (.cells #[.int .i64 0,.float .f64 0,.float .f64 0,.float .f64 0,.float .f64 0,.float .f64 0,.float .f64 0] 56)):=((Below.refl w.heap.size w).alloc (Nat.le_refl _) _).alloc (by simp) _
  have Z0 : w.heap.size ≤ ((w.alloc (.cells #[.int .i64 c,.float .f64 x1,.float .f64 x2,.float .f64 x3,.float .f64 x4,.float .f64 x5,.float .f64 x6] 56)).alloc (.cells #[.int .i64 0,.float .f64 0,.float .f64 0,.float .f64 0,.float .f64 0,.float .f64 0,.float .f64 0] 56)).heap.size:=by simp;omega
  refine (tally_formed.calls k c x1 x2 x3 x4 x5 x6 true _ HT.out).mono ?_;rintro e w1 ⟨rfl,hb1⟩;have T1:=Aside0.mk (blk_below T0 hb1);have R1:=Aside0.mk (blk_below R0 hb1);have B1:=Aside0.mk (below_then B0 Z0 hb1);clear T0 R0 B0 Z0 hb1;obtain ⟨t0,t1,t2,t3,t4,t5,t6,ft0,ft1,ft2,ft3,ft4,ft5,ft6⟩:=cf7_ T1;obtain ⟨r0,r1,r2,r3,r4,r5,r6,fr0,fr1,fr2,fr3,fr4,fr5,fr6⟩:=cf7_ R1;have hz : w.heap.size + 1 < w1.heap.size:=blk_lt R1.out
  go_wp2_with fail
  have hl : Kd.C Kd.f64 (w1.alloc (.cells #[.float .f64 a] 27)) (some ⟨w1.heap.size,0,none⟩) [a].length [a]:=f64_one (blk_new w1 _);refine (tally_finite.calls k _ _ [a] false _ hl (Nat.le_refl _) HF.out).mono ?_;rintro e w2 ⟨rfl,nd,rfl⟩;have T2:=Aside0.mk (show ((w1.alloc (.cells #[.float .f64 a] 27)).drewN nd).heap[w.heap.size]? = _ from blk_drewN (blk_alloc T1.out _) nd);have R2:=Aside0.mk (show ((w1.alloc (.cells #[.float .f64 a] 27)).drewN nd).heap[w.heap.size + 1]? = _ from blk_drewN (blk_alloc R1.out _) nd);have B2:=Aside0.mk (show Below w.heap.size w ((w1.alloc (.cells #[.float .f64 a] 27)).drewN nd) from pw_below_drewN (below_alloc B1.out _) nd)
  have Z2 : w1.heap.size < ((w1.alloc (.cells #[.float .f64 a] 27)).drewN nd).heap.size:=by simp
  clear t0 t1 t2 t3 t4 t5 t6 ft0 ft1 ft2 ft3 ft4 ft5 ft6;clear r0 r1 r2 r3 r4 r5 r6 fr0 fr1 fr2 fr3 fr4 fr5 fr6
  obtain ⟨W2,hW2⟩ : ∃ W2,W2 = (w1.alloc (.cells #[.float .f64 a] 27)).drewN nd:=⟨_,rfl⟩
  rw [← hW2] at T2 R2 B2 Z2 ⊢
  clear hW2 hl T1 R1 B1;obtain ⟨t0,t1,t2,t3,t4,t5,t6,ft0,ft1,ft2,ft3,ft4,ft5,ft6⟩:=cf7_ T2;obtain ⟨r0,r1,r2,r3,r4,r5,r6,fr0,fr1,fr2,fr3,fr4,fr5,fr6⟩:=cf7_ R2
  have hz2 : w.heap.size + 1 < W2.heap.size:=by omega
  go_wp2
  refine bodyPost_ret (results_ct rfl _ _ (w.heap.size + 1) 56 #[.int .i64 0,.float .f64 0,.float .f64 0,.float .f64 0,.float .f64 0,.float .f64 0,.float .f64 0] (0,0) _ rfl (by
   refine blk_put (cs:=#[.int .i64 0,.float .f64 0,.float .f64 0,.float .f64 0,.float .f64 0,.float .f64 0,.float .f64 0]) ?_ 6 _ rfl;refine blk_put (cs:=#[.int .i64 0,.float .f64 0,.float .f64 0,.float .f64 0,.float .f64 0,.float .f64 0,.float .f64 0]) ?_ 5 _ rfl;refine blk_put (cs:=#[.int .i64 0,.float .f64 0,.float .f64 0,.float .f64 0,.float .f64 0,.float .f64 0,.float .f64 0]) ?_ 4 _ rfl;refine blk_put (cs:=#[.int .i64 0,.float .f64 0,.float .f64 0,.float .f64 0,.float .f64 0,.float .f64 0,.float .f64 0]) ?_ 3 _ rfl;refine blk_put (cs:=#[.int .i64 0,.float .f64 0,.float .f64 0,.float .f64 0,.float .f64 0,.float .f64 0,.float .f64 0]) ?_ 2 _ rfl;refine blk_put (cs:=#[.int .i64 0,.float .f64 0,.float .f64 0,.float .f64 0,.float .f64 0,.float .f64 0,.float .f64 0]) ?_ 1 _ rfl;refine blk_put (cs:=#[.int .i64 0,.float .f64 0,.float .f64 0,.float .f64 0,.float .f64 0,.float .f64 0,.float .f64 0]) ?_ 0 _ rfl
   exact R2.out) Try.underlying56 rfl (by kernel_rfl)) rfl ?_
  exact ⟨by rfl,below_set (below_set (below_set (below_set (below_set (below_set (below_set (B2.out) (by omega)) (by omega)) (by omega)) (by omega)) (by omega)) (by omega)) (by omega)⟩
 have c1b:=Bool.eq_false_iff.mpr c1;subst c1b
 rw [if_neg (by decide)] at h
 simp only [Option.some.injEq,Prod.mk.injEq] at h
 obtain ⟨rfl,rfl,rfl,rfl,rfl,rfl,rfl,rfl⟩:=h;go_enter Try.func45,Try.ntmps45
 go_wp2_with fail
 have T0 : ((w.alloc (.cells #[.int .i64 c,.float .f64 x1,.float .f64 x2,.float .f64 x3,.float .f64 x4,.float .f64 x5,.float .f64 x6] 56)).alloc (.cells #[.int .i64 0,.float .f64 0,.float .f64 0,.float .f64 0,.float .f64 0,.float .f64 0,.float .f64 0] 56)).heap[w.heap.size]? = some (.cells #[.int .i64 c,.float .f64 x1,.float .f64 x2,.float .f64 x3,.float .f64 x4,.float .f64 x5,.float .f64 x6] 56 (0,0)):=blk_alloc (blk_new w _) _;have R0 : ((w.alloc (.cells #[.int .i64 c,.float .f64 x1,.float .f64 x2,.float .f64 x3,.float .f64 x4,.float .f64 x5,.float .f64 x6] 56)).alloc (.cells #[.int .i64 0,.float .f64 0,.float .f64 0,.float .f64 0,.float .f64 0,.float .f64 0,.float .f64 0] 56)).heap[w.heap.size + 1]? = some (.cells #[.int .i64 0,.float .f64 0,.float .f64 0,.float .f64 0,.float .f64 0,.float .f64 0,.float .f64 0] 56 (0,0)):=blk_new2 _ _ _ (by simp);have B0 : Below w.heap.size w ((w.alloc (.cells #[.int .i64 c,.float .f64 x1,.float .f64 x2,.float .f64 x3,.float .f64 x4,.float .f64 x5,.float .f64 x6] 56)).alloc (.cells #[.int .i64 0,.float .f64 0,.float .f64 0,.float .f64 0,.float .f64 0,.float .f64 0,.float .f64 0] 56)):=((Below.refl w.heap.size w).alloc (Nat.le_refl _) _).alloc (by simp) _
 have Z0 : w.heap.size ≤ ((w.alloc (.cells #[.int .i64 c,.float .f64 x1,.float .f64 x2,.float .f64 x3,.float .f64 x4,.float .f64 x5,.float .f64 x6] 56)).alloc (.cells #[.int .i64 0,.float .f64 0,.float .f64 0,.float .f64 0,.float .f64 0,.float .f64 0,.float .f64 0] 56)).heap.size:=by simp;omega
 refine (tally_formed.calls k c x1 x2 x3 x4 x5 x6 false _ HT.out).mono ?_;rintro e w1 ⟨rfl,hb1⟩;have T1:=Aside0.mk (blk_below T0 hb1);have R1:=Aside0.mk (blk_below R0 hb1);have B1:=Aside0.mk (below_then B0 Z0 hb1);clear T0 R0 B0 Z0 hb1;obtain ⟨t0,t1,t2,t3,t4,t5,t6,ft0,ft1,ft2,ft3,ft4,ft5,ft6⟩:=cf7_ T1;obtain ⟨r0,r1,r2,r3,r4,r5,r6,fr0,fr1,fr2,fr3,fr4,fr5,fr6⟩:=cf7_ R1;have hz : w.heap.size + 1 < w1.heap.size:=blk_lt R1.out;go_wp2
 refine bodyPost_ret (results_ct rfl _ _ (w.heap.size + 1) 56 #[.int .i64 0,.float .f64 0,.float .f64 0,.float .f64 0,.float .f64 0,.float .f64 0,.float .f64 0] (0,0) _ rfl (by
  refine blk_put (cs:=#[.int .i64 0,.float .f64 0,.float .f64 0,.float .f64 0,.float .f64 0,.float .f64 0,.float .f64 0]) ?_ 6 _ rfl;refine blk_put (cs:=#[.int .i64 0,.float .f64 0,.float .f64 0,.float .f64 0,.float .f64 0,.float .f64 0,.float .f64 0]) ?_ 5 _ rfl;refine blk_put (cs:=#[.int .i64 0,.float .f64 0,.float .f64 0,.float .f64 0,.float .f64 0,.float .f64 0,.float .f64 0]) ?_ 4 _ rfl;refine blk_put (cs:=#[.int .i64 0,.float .f64 0,.float .f64 0,.float .f64 0,.float .f64 0,.float .f64 0,.float .f64 0]) ?_ 3 _ rfl;refine blk_put (cs:=#[.int .i64 0,.float .f64 0,.float .f64 0,.float .f64 0,.float .f64 0,.float .f64 0,.float .f64 0]) ?_ 2 _ rfl;refine blk_put (cs:=#[.int .i64 0,.float .f64 0,.float .f64 0,.float .f64 0,.float .f64 0,.float .f64 0,.float .f64 0]) ?_ 1 _ rfl;refine blk_put (cs:=#[.int .i64 0,.float .f64 0,.float .f64 0,.float .f64 0,.float .f64 0,.float .f64 0,.float .f64 0]) ?_ 0 _ rfl
  exact R1.out) Try.underlying56 rfl (by kernel_rfl)) rfl ?_
 exact ⟨by rfl,below_set (below_set (below_set (below_set (below_set (below_set (below_set (B1.out) (by omega)) (by omega)) (by omega)) (by omega)) (by omega)) (by omega)) (by omega)⟩
end Go.Proofs.Ytlgamjgdkljfiaa.PTallyBegins
