-- Written by shrink.py, a program of this session: what the law needs of the print and its words. Lean checks it.
import Derived.Test.YtijmdmnhbbcahaaZPTallyWholex0
import Derived.Test.YtijmdmnhbbcahaaZPTallyWholex2
import Derived.Test.YtijmdmnhbbcahaaZPTallyWholex4
import Derived.WalkMore
import Derived.Deep.QuietTactic
import Derived.BigQuiet
namespace Go.Proofs.Ytijmdmnhbbcahaa.PTallyWhole
open Go.RowKit Go.Proofs.YtijmdmnhbbcahaaW.PrintWords Go.Proofs.YtijmdmnhbbcahaaW.PrintLast Go.Proofs.YtijmdmnhbbcahaaW.PrintMore
attribute [local go_sem] run_fadd run_fsub run_fmul run_fquo unary_fneg run_store_f64 run_store_c128 run_cadd
attribute [local go_sem] max2_int min2_int max_two min_two max_three min_three max_four min_four
set_option linter.unusedVariables false
set_option linter.unusedSimpArgs false
theorem sound_nan {n : Nat} {k : Nat} {c : Int} {x1 x2 x3 x5 x6 : Nat} {b : Bool} (hn : isNan n) (h : tally_sound.f k c x1 x2 x3 nanC x5 x6 = some b) : tally_sound.f k c x1 x2 x3 n x5 x6 = some b:=by
 have hf : ∀ m,isNan m → math_IsNaN.f m = some true:=by
  intro m hm
  unfold math_IsNaN.f
  rw [nan_order hm];rfl
 have hc : ∀ (l l' : List Nat),(∀ i K,((math_IsNaN.f (rdOf (0 : Nat) l i)).bind fun t=>(if t = true then (some false) else ((math_IsInf.f (rdOf (0 : Nat) l i) 0).bind fun t=>(if t = true then (some false) else K)))) = ((math_IsNaN.f (rdOf (0 : Nat) l' i)).bind fun t=>(if t = true then (some false) else ((math_IsInf.f (rdOf (0 : Nat) l' i) 0).bind fun t=>(if t = true then (some false) else K))))) → l.length = l'.length → ∀ k m i,tally_finite.l0 k l m i = tally_finite.l0 k l' m i:=by
  intro l l' hq hl k
  induction k with
  | zero=>intro m i;rfl
  | succ k ih=>intro m i;rw [tally_finite.l0,tally_finite.l0,hq,ih,hl]
 have hA : tally_finite.f k [x1,x2,x3,n,x5,x6] = tally_finite.f k [x1,x2,x3,nanC,x5,x6]:=by
  refine hc [x1,x2,x3,n,x5,x6] [x1,x2,x3,nanC,x5,x6] (fun i K=>?_) rfl k 6 0
  unfold rdOf
  generalize i.toNat = j
  match j with
  | 0=>rfl
  | 1=>rfl
  | 2=>rfl
  | 3 =>
   show ((math_IsNaN.f n).bind fun t=>(if t = true then (some false) else ((math_IsInf.f n 0).bind fun t=>(if t = true then (some false) else K)))) = ((math_IsNaN.f nanC).bind fun t=>(if t = true then (some false) else ((math_IsInf.f nanC 0).bind fun t=>(if t = true then (some false) else K))))
   rw [hf n hn,hf nanC nan_nanC];rfl
  | 4=>rfl
  | 5=>rfl
  | j + 6=>rfl
 unfold tally_sound.f at h ⊢
 rw [hA];exact h
theorem nan_add_op {P : Program} {oi : Oper} {ev : Operand → Value} {o1 o2 : Operand} {T T2 : TypeId} {x y : Nat} (w : World) (hop : oi.op = .binOp .add T o1 o2 T2) (h1 : ev o1 = .float .f64 x) (h2 : ev o2 = .float .f64 y) (h : fok .add x y = false) :
  (execOp ev oi).run P w = .ok (.value (.float .f64 (nanOf w x y))) w.drew:=by
 unfold execOp
 simp only [hop,h1,h2];have e:=run_fadd_nan (P:=P) (w:=w) (t:=T) h;have g : (eqGuard .add T o1 o2 (Value.float FloatKind.f64 x) (Value.float FloatKind.f64 y)).run P w = .ok () w:=rfl
 simp [g,e,Result.andThen]
attribute [local go_sem] run_fadd_nan
mutual
def tally_Join.j0 : Nat → Bool → Int → Nat → Nat → Nat → Nat → Nat → Nat → Int → Nat → Nat → Nat → Nat → Nat → Nat → Option (Int × Nat × Nat × Nat × Nat × Nat × Nat × Int)
 | 0,_,_,_,_,_,_,_,_,_,_,_,_,_,_,_=>none
 | k + 1,x18,x141000,x141001,x141002,x141003,x141004,x141005,x141006,x142000,x142001,x142002,x142003,x142004,x142005,x142006=>if x18 = true then (some (0,0,0,0,0,0,0,1)) else (if x142000 = 0 then (some (x141000,x141001,x141002,x141003,x141004,x141005,x141006,0)) else (if x141000 = 0 then (some (x142000,x142001,x142002,x142003,x142004,x142005,x142006,0)) else (if fok .add x141003 x142003 = true then (if x141000 > (wrap64 (4611686018427387904 - x142000)) then (some (0,0,0,0,0,0,0,121)) else (if (FloatKind.f64.format.order x142001 x141001 == some .lt) = true then (tally_Join.j1 k x141000 x141001 x141002 x141003 x141004 x141005 x141006 x142000 x142001 x142002 x142003 x142004 x142005 x142006 (wrap64 (x141000 + x142000)) x142001 x141002 (fop .add x141003 x142003) 0 0 0) else (tally_Join.j1 k x141000 x141001 x141002 x141003 x141004 x141005 x141006 x142000 x142001 x142002 x142003 x142004 x142005 x142006 (wrap64 (x141000 + x142000)) x141001 x141002 (fop .add x141003 x142003) 0 0 0))) else (none))))
def tally_Join.j1 : Nat → Int → Nat → Nat → Nat → Nat → Nat → Nat → Int → Nat → Nat → Nat → Nat → Nat → Nat → Int → Nat → Nat → Nat → Nat → Nat → Nat → Option (Int × Nat × Nat × Nat × Nat × Nat × Nat × Int)
 | 0,_,_,_,_,_,_,_,_,_,_,_,_,_,_,_,_,_,_,_,_,_=>none
 | k + 1,x141000,x141001,x141002,x141003,x141004,x141005,x141006,x142000,x142001,x142002,x142003,x142004,x142005,x142006,x146000,x146001,x146002,x146003,x146004,x146005,x146006=>if (FloatKind.f64.format.order x142002 x146002 == some .gt) = true then (tally_Join.j2 k x141000 x141001 x141002 x141003 x141004 x141005 x141006 x142000 x142001 x142002 x142003 x142004 x142005 x142006 x146000 x146001 x142002 x146003 x146004 x146005 x146006) else (tally_Join.j2 k x141000 x141001 x141002 x141003 x141004 x141005 x141006 x142000 x142001 x142002 x142003 x142004 x142005 x142006 x146000 x146001 x146002 x146003 x146004 x146005 x146006)
def tally_Join.j2 : Nat → Int → Nat → Nat → Nat → Nat → Nat → Nat → Int → Nat → Nat → Nat → Nat → Nat → Nat → Int → Nat → Nat → Nat → Nat → Nat → Nat → Option (Int × Nat × Nat × Nat × Nat × Nat × Nat × Int)
 | 0,_,_,_,_,_,_,_,_,_,_,_,_,_,_,_,_,_,_,_,_,_=>none
 | k + 1,x141000,x141001,x141002,x141003,x141004,x141005,x141006,x142000,x142001,x142002,x142003,x142004,x142005,x142006,x146000,x146001,x146002,x146003,x146004,x146005,x146006=>if fok .add x141004 x142004 = true then ((tally_lost.f x141003 x142003 x146003).bind fun t146=>(if fok .add (fop .add x141004 x142004) t146 = true then (if fok .sub x142005 x141005 = true then (if fok .quo (floatOfInt .f64 x142000) (floatOfInt .f64 x146000) = true then (if fok .mul (fop .sub x142005 x141005) (fop .quo (floatOfInt .f64 x142000) (floatOfInt .f64 x146000)) = true then (if fok .add x141005 (fop .mul (fop .sub x142005 x141005) (fop .quo (floatOfInt .f64 x142000) (floatOfInt .f64 x146000))) = true then (if fok .add x141006 x142006 = true then (if fok .mul (fop .sub x142005 x141005) (fop .sub x142005 x141005) = true then (if fok .mul (floatOfInt .f64 x141000) (fop .quo (floatOfInt .f64 x142000) (floatOfInt .f64 x146000)) = true then (if fok .mul (fop .mul (fop .sub x142005 x141005) (fop .sub x142005 x141005)) (fop .mul (floatOfInt .f64 x141000) (fop .quo (floatOfInt .f64 x142000) (floatOfInt .f64 x146000))) = true then (if fok .add (fop .add x141006 x142006) (fop .mul (fop .mul (fop .sub x142005 x141005) (fop .sub x142005 x141005)) (fop .mul (floatOfInt .f64 x141000) (fop .quo (floatOfInt .f64 x142000) (floatOfInt .f64 x146000)))) = true then ((tally_sound.f k x146000 x146001 x146002 x146003 (fop .add (fop .add x141004 x142004) t146) (fop .add x141005 (fop .mul (fop .sub x142005 x141005) (fop .quo (floatOfInt .f64 x142000) (floatOfInt .f64 x146000)))) (fop .add (fop .add x141006 x142006) (fop .mul (fop .mul (fop .sub x142005 x141005) (fop .sub x142005 x141005)) (fop .mul (floatOfInt .f64 x141000) (fop .quo (floatOfInt .f64 x142000) (floatOfInt .f64 x146000)))))).bind fun t147=>(if t147 = true then (some (x146000,x146001,x146002,x146003,fop .add (fop .add x141004 x142004) t146,fop .add x141005 (fop .mul (fop .sub x142005 x141005) (fop .quo (floatOfInt .f64 x142000) (floatOfInt .f64 x146000))),fop .add (fop .add x141006 x142006) (fop .mul (fop .mul (fop .sub x142005 x141005) (fop .sub x142005 x141005)) (fop .mul (floatOfInt .f64 x141000) (fop .quo (floatOfInt .f64 x142000) (floatOfInt .f64 x146000)))),0)) else (some (0,0,0,0,0,0,0,121)))) else (none)) else (none)) else (none)) else (none)) else (none)) else (none)) else (none)) else (none)) else (none)) else (if fok .sub x142005 x141005 = true then (if fok .quo (floatOfInt .f64 x142000) (floatOfInt .f64 x146000) = true then (if fok .mul (fop .sub x142005 x141005) (fop .quo (floatOfInt .f64 x142000) (floatOfInt .f64 x146000)) = true then (if fok .add x141005 (fop .mul (fop .sub x142005 x141005) (fop .quo (floatOfInt .f64 x142000) (floatOfInt .f64 x146000))) = true then (if fok .add x141006 x142006 = true then (if fok .mul (fop .sub x142005 x141005) (fop .sub x142005 x141005) = true then (if fok .mul (floatOfInt .f64 x141000) (fop .quo (floatOfInt .f64 x142000) (floatOfInt .f64 x146000)) = true then (if fok .mul (fop .mul (fop .sub x142005 x141005) (fop .sub x142005 x141005)) (fop .mul (floatOfInt .f64 x141000) (fop .quo (floatOfInt .f64 x142000) (floatOfInt .f64 x146000))) = true then (if fok .add (fop .add x141006 x142006) (fop .mul (fop .mul (fop .sub x142005 x141005) (fop .sub x142005 x141005)) (fop .mul (floatOfInt .f64 x141000) (fop .quo (floatOfInt .f64 x142000) (floatOfInt .f64 x146000)))) = true then ((tally_sound.f k x146000 x146001 x146002 x146003 nanC (fop .add x141005 (fop .mul (fop .sub x142005 x141005) (fop .quo (floatOfInt .f64 x142000) (floatOfInt .f64 x146000)))) (fop .add (fop .add x141006 x142006) (fop .mul (fop .mul (fop .sub x142005 x141005) (fop .sub x142005 x141005)) (fop .mul (floatOfInt .f64 x141000) (fop .quo (floatOfInt .f64 x142000) (floatOfInt .f64 x146000)))))).bind fun t147=>(if t147 = true then (none) else (some (0,0,0,0,0,0,0,121)))) else (none)) else (none)) else (none)) else (none)) else (none)) else (none)) else (none)) else (none)) else (none)))) else (none)
end
def tally_Join.f (k : Nat) (a0_0 : Int) (a0_1 : Nat) (a0_2 : Nat) (a0_3 : Nat) (a0_4 : Nat) (a0_5 : Nat) (a0_6 : Nat) (a1_0 : Int) (a1_1 : Nat) (a1_2 : Nat) (a1_3 : Nat) (a1_4 : Nat) (a1_5 : Nat) (a1_6 : Nat) : Option (Int × Nat × Nat × Nat × Nat × Nat × Nat × Int):=(tally_formed.f k a0_0 a0_1 a0_2 a0_3 a0_4 a0_5 a0_6).bind fun t143=>(if t143 = true then ((tally_formed.f k a1_0 a1_1 a1_2 a1_3 a1_4 a1_5 a1_6).bind fun t144=>(tally_Join.j0 k (!t144) a0_0 a0_1 a0_2 a0_3 a0_4 a0_5 a0_6 a1_0 a1_1 a1_2 a1_3 a1_4 a1_5 a1_6)) else (tally_Join.j0 k true a0_0 a0_1 a0_2 a0_3 a0_4 a0_5 a0_6 a1_0 a1_1 a1_2 a1_3 a1_4 a1_5 a1_6))
def tally_Join.T14 : Bool × List (List Nat × List Nat):=(true,[([],[]),([0],[0]),([],[]),([2],[2]),([1,3],[1,3]),([],[]),([5],[5]),([],[]),([7],[7]),([],[]),([9],[9]),([6,8,10],[6,8,10]),([4,11],[4,11]),([0,1,2,3,4,5,6,7,8,9,10,11,12],[]),([13,12,11,0,1,2,3,4,5,6,7,8,9,10,11,12],[12,13])])
def tally_Join.B14 : List Nat:=[0,1,0,4,15,0,32,0,128,0,512,2016,4095,8191,16383]
theorem tally_Join.tab14 : rtab .any (opsOf Try.f25 14) = tally_Join.T14:=by kernel_rfl
theorem tally_Join.bits14 : waitsOk tally_Join.T14.2 tally_Join.B14 = true:=by kernel_rfl
def tally_Join.T15 : Bool × List (List Nat × List Nat):=(true,[([],[]),([0],[0]),([1],[1]),([],[]),([3],[3]),([4],[4]),([2,0,1,2],[2]),([5,6,0,1,2,3,4,5,6],[5])])
def tally_Join.B15 : List Nat:=[0,1,3,0,8,24,7,127]
theorem tally_Join.tab15 : rtab .any (opsOf Try.f25 15) = tally_Join.T15:=by kernel_rfl
theorem tally_Join.bits15 : waitsOk tally_Join.T15.2 tally_Join.B15 = true:=by kernel_rfl
def tally_Join.T16 : Bool × List (List Nat × List Nat):=(true,[([],[]),([0],[0]),([],[]),([2],[2]),([1,3],[1,3]),([],[]),([],[]),([6],[6]),([7],[7]),([5,8],[5,8]),([4,0,1,2,3,4],[4]),([9,10,0,1,2,3,4,5,6,7,8,9,10],[9])])
def tally_Join.B16 : List Nat:=[0,1,0,4,15,0,0,64,192,480,31,2047]
theorem tally_Join.tab16 : rtab .any (opsOf Try.f25 16) = tally_Join.T16:=by kernel_rfl
theorem tally_Join.bits16 : waitsOk tally_Join.T16.2 tally_Join.B16 = true:=by kernel_rfl
set_option maxHeartbeats 8000000 in
set_option maxRecDepth 100000 in
theorem tally_Join.calls (k : Nat) (a0_0 : Int) (a0_1 : Nat) (a0_2 : Nat) (a0_3 : Nat) (a0_4 : Nat) (a0_5 : Nat) (a0_6 : Nat) (a1_0 : Int) (a1_1 : Nat) (a1_2 : Nat) (a1_3 : Nat) (a1_4 : Nat) (a1_5 : Nat) (a1_6 : Nat) (r1 : Int) (r2 : Nat) (r3 : Nat) (r4 : Nat) (r5 : Nat) (r6 : Nat) (r7 : Nat) (r8 : Int) (w : World) (h : tally_Join.f k a0_0 a0_1 a0_2 a0_3 a0_4 a0_5 a0_6 a1_0 a1_1 a1_2 a1_3 a1_4 a1_5 a1_6 = some (r1,r2,r3,r4,r5,r6,r7,r8)) :
  Calls Try.prog 25 #[.agg #[.int .i64 a0_0,.float .f64 a0_1,.float .f64 a0_2,.float .f64 a0_3,.float .f64 a0_4,.float .f64 a0_5,.float .f64 a0_6],.agg #[.int .i64 a1_0,.float .f64 a1_1,.float .f64 a1_2,.float .f64 a1_3,.float .f64 a1_4,.float .f64 a1_5,.float .f64 a1_6]] w fun e w'=>e = .returned (.tuple #[.agg #[.int .i64 r1,.float .f64 r2,.float .f64 r3,.float .f64 r4,.float .f64 r5,.float .f64 r6,.float .f64 r7],.int .i64 r8]) ∧ Below w.heap.size w w':=by
 have hu26:=Try.underlying26;have HB:=Aside0.mk (Below.refl w.heap.size w);have H : ((tally_formed.f k a0_0 a0_1 a0_2 a0_3 a0_4 a0_5 a0_6).bind fun t143=>(if t143 = true then ((tally_formed.f k a1_0 a1_1 a1_2 a1_3 a1_4 a1_5 a1_6).bind fun t144=>(tally_Join.j0 k (!t144) a0_0 a0_1 a0_2 a0_3 a0_4 a0_5 a0_6 a1_0 a1_1 a1_2 a1_3 a1_4 a1_5 a1_6)) else (tally_Join.j0 k true a0_0 a0_1 a0_2 a0_3 a0_4 a0_5 a0_6 a1_0 a1_1 a1_2 a1_3 a1_4 a1_5 a1_6))) = some (r1,r2,r3,r4,r5,r6,r7,r8):=h;clear h;have HC3:=Aside0.mk H;clear H;go_enter Try.func25,Try.ntmps25
 go_upto_region 1 with (first|((with_reducible refine gate_dst (N:=2) rfl ?_);refine box_event ?hg (N:=2) ?hd (cs:=#[.int .i64 a0_0,.float .f64 a0_1,.float .f64 a0_2,.float .f64 a0_3,.float .f64 a0_4,.float .f64 a0_5,.float .f64 a0_6]) (t:=26) ?hr ?_;(case hd=>rfl);(case hg=>rfl);(case hr=>first|(go_simp;done)|(go_simp;rfl));intro gb140 hg w4 hbox hb;have n0_:=Aside0.mk (below_step (by repeat (first|(with_reducible first|exact HB.out|apply below_alloc|apply pw_below_drewN|apply below_drew1)|exact HB.out)) hb);have n1_:=Aside0.mk (hbox);have n2_:=Aside0.mk ((by rw [hg];exact (below_size (by repeat (first|(with_reducible first|exact HB.out|apply below_alloc|apply pw_below_drewN|apply below_drew1)|exact HB.out))) : w.heap.size ≤ gb140));have n3_:=Aside0.mk ((by rw [hg];exact (below_size (by repeat (first|(with_reducible first|exact HB.out|apply below_alloc|apply pw_below_drewN|apply below_drew1)|exact HB.out))) : w.heap.size ≤ gb140));clear HB;have HB:=n0_;have BK140:=n1_;have GW140:=n2_;have GE140:=n3_;clear n0_ n1_ n2_ n3_;clear hb hbox hg)|((with_reducible refine gate_dst (N:=3) rfl ?_);refine box_event ?hg (N:=3) ?hd (cs:=#[.int .i64 a1_0,.float .f64 a1_1,.float .f64 a1_2,.float .f64 a1_3,.float .f64 a1_4,.float .f64 a1_5,.float .f64 a1_6]) (t:=26) ?hr ?_;(case hd=>rfl);(case hg=>rfl);(case hr=>first|(go_simp;done)|(go_simp;rfl));intro gb141 hg w5 hbox hb;have n0_:=Aside0.mk (blk_below (g:=gb140) (o:=.cells #[.int .i64 a0_0,.float .f64 a0_1,.float .f64 a0_2,.float .f64 a0_3,.float .f64 a0_4,.float .f64 a0_5,.float .f64 a0_6] 26 (0,0)) (by (with_reducible repeat (first|refine blk_drewN ?_ _|refine blk_drew ?_|refine blk_alloc ?_ _));exact BK140.out) hb);have n1_:=Aside0.mk (below_step (by repeat (first|(with_reducible first|exact HB.out|apply below_alloc|apply pw_below_drewN|apply below_drew1|refine below_set ?_ GE140.out)|exact HB.out)) hb);have n2_:=Aside0.mk (hbox);have n3_:=Aside0.mk ((by rw [hg];exact (below_size (by repeat (first|(with_reducible first|exact HB.out|apply below_alloc|apply pw_below_drewN|apply below_drew1|refine below_set ?_ GE140.out)|exact HB.out))) : w.heap.size ≤ gb141));have n4_:=Aside0.mk ((by rw [hg];exact (below_size (by repeat (first|(with_reducible first|exact HB.out|apply below_alloc|apply pw_below_drewN|apply below_drew1|refine below_set ?_ GE140.out)|exact HB.out))) : w.heap.size ≤ gb141));have n5_:=Aside0.mk ((by rw [hg];exact Nat.ne_of_lt (blk_lt (g:=gb140) (o:=.cells #[.int .i64 a0_0,.float .f64 a0_1,.float .f64 a0_2,.float .f64 a0_3,.float .f64 a0_4,.float .f64 a0_5,.float .f64 a0_6] 26 (0,0)) (by (with_reducible repeat (first|refine blk_drewN ?_ _|refine blk_drew ?_|refine blk_alloc ?_ _));exact BK140.out)) : gb140 ≠ gb141));have n6_:=Aside0.mk ((by rw [hg];exact Nat.ne_of_gt (blk_lt (g:=gb140) (o:=.cells #[.int .i64 a0_0,.float .f64 a0_1,.float .f64 a0_2,.float .f64 a0_3,.float .f64 a0_4,.float .f64 a0_5,.float .f64 a0_6] 26 (0,0)) (by (with_reducible repeat (first|refine blk_drewN ?_ _|refine blk_drew ?_|refine blk_alloc ?_ _));exact BK140.out)) : gb141 ≠ gb140));clear BK140;clear HB;have BK140:=n0_;have HB:=n1_;have BK141:=n2_;have GW141:=n3_;have GE141:=n4_;have NB140_141:=n5_;have NB141_140:=n6_;clear n0_ n1_ n2_ n3_ n4_ n5_ n6_;clear hb hbox hg)|((with_reducible refine gate_dst (N:=4) rfl ?_);refine box_event ?hg (N:=4) ?hd (cs:=#[.int .i64 0,.float .f64 0,.float .f64 0,.float .f64 0,.float .f64 0,.float .f64 0,.float .f64 0]) (t:=26) ?hr ?_;(case hd=>rfl);(case hg=>rfl);(case hr=>first|(go_simp;done)|(go_simp;rfl));intro gb142 hg w6 hbox hb;have n0_:=Aside0.mk (blk_below (g:=gb140) (o:=.cells #[.int .i64 a0_0,.float .f64 a0_1,.float .f64 a0_2,.float .f64 a0_3,.float .f64 a0_4,.float .f64 a0_5,.float .f64 a0_6] 26 (0,0)) (by (with_reducible repeat (first|refine blk_drewN ?_ _|refine blk_drew ?_|refine blk_alloc ?_ _));exact BK140.out) hb);have n1_:=Aside0.mk (blk_below (g:=gb141) (o:=.cells #[.int .i64 a1_0,.float .f64 a1_1,.float .f64 a1_2,.float .f64 a1_3,.float .f64 a1_4,.float .f64 a1_5,.float .f64 a1_6] 26 (0,0)) (by (with_reducible repeat (first|refine blk_drewN ?_ _|refine blk_drew ?_|refine blk_alloc ?_ _));exact BK141.out) hb);have n2_:=Aside0.mk (below_step (by repeat (first|(with_reducible first|exact HB.out|apply below_alloc|apply pw_below_drewN|apply below_drew1|refine below_set ?_ GE140.out|refine below_set ?_ GE141.out)|exact HB.out)) hb);have n3_:=Aside0.mk (hbox);have n4_:=Aside0.mk ((by rw [hg];exact (below_size (by repeat (first|(with_reducible first|exact HB.out|apply below_alloc|apply pw_below_drewN|apply below_drew1|refine below_set ?_ GE140.out|refine below_set ?_ GE141.out)|exact HB.out))) : w.heap.size ≤ gb142));have n5_:=Aside0.mk ((by rw [hg];exact (below_size (by repeat (first|(with_reducible first|exact HB.out|apply below_alloc|apply pw_below_drewN|apply below_drew1|refine below_set ?_ GE140.out|refine below_set ?_ GE141.out)|exact HB.out))) : w.heap.size ≤ gb142));have n6_:=Aside0.mk ((by rw [hg];exact Nat.ne_of_lt (blk_lt (g:=gb140) (o:=.cells #[.int .i64 a0_0,.float .f64 a0_1,.float .f64 a0_2,.float .f64 a0_3,.float .f64 a0_4,.float .f64 a0_5,.float .f64 a0_6] 26 (0,0)) (by (with_reducible repeat (first|refine blk_drewN ?_ _|refine blk_drew ?_|refine blk_alloc ?_ _));exact BK140.out)) : gb140 ≠ gb142));have n7_:=Aside0.mk ((by rw [hg];exact Nat.ne_of_gt (blk_lt (g:=gb140) (o:=.cells #[.int .i64 a0_0,.float .f64 a0_1,.float .f64 a0_2,.float .f64 a0_3,.float .f64 a0_4,.float .f64 a0_5,.float .f64 a0_6] 26 (0,0)) (by (with_reducible repeat (first|refine blk_drewN ?_ _|refine blk_drew ?_|refine blk_alloc ?_ _));exact BK140.out)) : gb142 ≠ gb140));have n8_:=Aside0.mk ((by rw [hg];exact Nat.ne_of_lt (blk_lt (g:=gb141) (o:=.cells #[.int .i64 a1_0,.float .f64 a1_1,.float .f64 a1_2,.float .f64 a1_3,.float .f64 a1_4,.float .f64 a1_5,.float .f64 a1_6] 26 (0,0)) (by (with_reducible repeat (first|refine blk_drewN ?_ _|refine blk_drew ?_|refine blk_alloc ?_ _));exact BK141.out)) : gb141 ≠ gb142));have n9_:=Aside0.mk ((by rw [hg];exact Nat.ne_of_gt (blk_lt (g:=gb141) (o:=.cells #[.int .i64 a1_0,.float .f64 a1_1,.float .f64 a1_2,.float .f64 a1_3,.float .f64 a1_4,.float .f64 a1_5,.float .f64 a1_6] 26 (0,0)) (by (with_reducible repeat (first|refine blk_drewN ?_ _|refine blk_drew ?_|refine blk_alloc ?_ _));exact BK141.out)) : gb142 ≠ gb141));clear BK140;clear BK141;clear HB;have BK140:=n0_;have BK141:=n1_;have HB:=n2_;have BK142:=n3_;have GW142:=n4_;have GE142:=n5_;have NB140_142:=n6_;have NB142_140:=n7_;have NB141_142:=n8_;have NB142_141:=n9_;clear n0_ n1_ n2_ n3_ n4_ n5_ n6_ n7_ n8_ n9_;clear hb hbox hg))
 (try simp only [Act.put,List.setIfInBounds_toArray,List.set_cons_zero,List.set_cons_succ])
 go_cut [18] (fun v18 wc=>∃ (kq : Nat) (x18_2 : Bool),v18 = .bool x18_2 ∧ Aside0 (tally_Join.j0 kq x18_2 a0_0 a0_1 a0_2 a0_3 a0_4 a0_5 a0_6 a1_0 a1_1 a1_2 a1_3 a1_4 a1_5 a1_6 = some (r1,r2,r3,r4,r5,r6,r7,r8)) ∧ Aside0 (kq ≤ k) ∧ Aside0 (wc.heap[gb140]? = some (.cells #[.int .i64 a0_0,.float .f64 a0_1,.float .f64 a0_2,.float .f64 a0_3,.float .f64 a0_4,.float .f64 a0_5,.float .f64 a0_6] 26 (0,0))) ∧ Aside0 (wc.heap[gb141]? = some (.cells #[.int .i64 a1_0,.float .f64 a1_1,.float .f64 a1_2,.float .f64 a1_3,.float .f64 a1_4,.float .f64 a1_5,.float .f64 a1_6] 26 (0,0))) ∧ Aside0 (wc.heap[gb142]? = some (.cells #[.int .i64 0,.float .f64 0,.float .f64 0,.float .f64 0,.float .f64 0,.float .f64 0,.float .f64 0] 26 (0,0))) ∧ Aside0 (Below w.heap.size w wc))
 case first =>
  have H:=HC3.out;clear HC3;replace H:=Option.bind_eq_some_iff.mp H;obtain ⟨t143,A70,H⟩:=H;replace H : (if t143 = true then ((tally_formed.f k a1_0 a1_1 a1_2 a1_3 a1_4 a1_5 a1_6).bind fun t144=>(tally_Join.j0 k (!t144) a0_0 a0_1 a0_2 a0_3 a0_4 a0_5 a0_6 a1_0 a1_1 a1_2 a1_3 a1_4 a1_5 a1_6)) else (tally_Join.j0 k true a0_0 a0_1 a0_2 a0_3 a0_4 a0_5 a0_6 a1_0 a1_1 a1_2 a1_3 a1_4 a1_5 a1_6)) = some (r1,r2,r3,r4,r5,r6,r7,r8):=H;have A7:=Aside0.mk A70;clear A70
  by_cases c8 : t143 = true
  ·subst c8
   have H1 : ((tally_formed.f k a1_0 a1_1 a1_2 a1_3 a1_4 a1_5 a1_6).bind fun t144=>(tally_Join.j0 k (!t144) a0_0 a0_1 a0_2 a0_3 a0_4 a0_5 a0_6 a1_0 a1_1 a1_2 a1_3 a1_4 a1_5 a1_6)) = some (r1,r2,r3,r4,r5,r6,r7,r8):=by rw [if_pos rfl] at H;exact H
   clear H;have H:=H1;clear H1;replace H:=Option.bind_eq_some_iff.mp H;obtain ⟨t144,A90,H⟩:=H;replace H : (tally_Join.j0 k (!t144) a0_0 a0_1 a0_2 a0_3 a0_4 a0_5 a0_6 a1_0 a1_1 a1_2 a1_3 a1_4 a1_5 a1_6) = some (r1,r2,r3,r4,r5,r6,r7,r8):=H;have A9:=Aside0.mk A90;clear A90;have H':=Aside0.mk H;clear H;have hnb10:=NB140_141.out;have hnc10:=NB141_140.out;have hnb11:=NB140_142.out;have hnc11:=NB142_140.out;have hcz12_0 : w6.cell? ⟨gb140,0,none⟩ = some (.int .i64 a0_0):=(blk_cell BK140.out 0).trans rfl;have hcz12_1 : w6.cell? ⟨gb140,1,none⟩ = some (.float .f64 a0_1):=(blk_cell BK140.out 1).trans rfl;have hcz12_2 : w6.cell? ⟨gb140,2,none⟩ = some (.float .f64 a0_2):=(blk_cell BK140.out 2).trans rfl;have hcz12_3 : w6.cell? ⟨gb140,3,none⟩ = some (.float .f64 a0_3):=(blk_cell BK140.out 3).trans rfl;have hcz12_4 : w6.cell? ⟨gb140,4,none⟩ = some (.float .f64 a0_4):=(blk_cell BK140.out 4).trans rfl;have hcz12_5 : w6.cell? ⟨gb140,5,none⟩ = some (.float .f64 a0_5):=(blk_cell BK140.out 5).trans rfl;have hcz12_6 : w6.cell? ⟨gb140,6,none⟩ = some (.float .f64 a0_6):=(blk_cell BK140.out 6).trans rfl;have hfz12_0:=blk_frozen BK140.out 0;have hfz12_1:=blk_frozen BK140.out 1;have hfz12_2:=blk_frozen BK140.out 2;have hfz12_3:=blk_frozen BK140.out 3;have hfz12_4:=blk_frozen BK140.out 4;have hfz12_5:=blk_frozen BK140.out 5;have hfz12_6:=blk_frozen BK140.out 6
   go_wp2_with (first|((with_reducible refine gate_callee (f:=43) rfl ?_);refine goesL_ (some 12) rfl rfl Try.func43 (by kernel_rfl) rfl #[.agg #[.int .i64 a0_0,.float .f64 a0_1,.float .f64 a0_2,.float .f64 a0_3,.float .f64 a0_4,.float .f64 a0_5,.float .f64 a0_6]] rfl (by (try simp only [List.map_toArray,List.map_cons,List.map_nil]);first|done|rfl|(simp only [List.length_drop,List.length_take];rfl)) ?_;(with_reducible refine (tally_formed.calls k a0_0 a0_1 a0_2 a0_3 a0_4 a0_5 a0_6 true _ A7.out).mono ?_);rintro e w13 ⟨rfl,hb⟩;refine ⟨_,rfl,?_⟩;have n0_:=Aside0.mk (blk_below (g:=gb140) (o:=.cells #[.int .i64 a0_0,.float .f64 a0_1,.float .f64 a0_2,.float .f64 a0_3,.float .f64 a0_4,.float .f64 a0_5,.float .f64 a0_6] 26 (0,0)) (by (with_reducible repeat (first|refine blk_drewN ?_ _|refine blk_drew ?_|refine blk_alloc ?_ _));exact BK140.out) hb);have n1_:=Aside0.mk (blk_below (g:=gb141) (o:=.cells #[.int .i64 a1_0,.float .f64 a1_1,.float .f64 a1_2,.float .f64 a1_3,.float .f64 a1_4,.float .f64 a1_5,.float .f64 a1_6] 26 (0,0)) (by (with_reducible repeat (first|refine blk_drewN ?_ _|refine blk_drew ?_|refine blk_alloc ?_ _));exact BK141.out) hb);have n2_:=Aside0.mk (blk_below (g:=gb142) (o:=.cells #[.int .i64 0,.float .f64 0,.float .f64 0,.float .f64 0,.float .f64 0,.float .f64 0,.float .f64 0] 26 (0,0)) (by (with_reducible repeat (first|refine blk_drewN ?_ _|refine blk_drew ?_|refine blk_alloc ?_ _));exact BK142.out) hb);have n3_:=Aside0.mk (below_step (by repeat (first|(with_reducible first|exact HB.out|apply below_alloc|apply pw_below_drewN|apply below_drew1|refine below_set ?_ GE140.out|refine below_set ?_ GE141.out|refine below_set ?_ GE142.out)|exact HB.out)) hb);clear BK140;clear BK141;clear BK142;clear HB;have BK140:=n0_;have BK141:=n1_;have BK142:=n2_;have HB:=n3_;clear n0_ n1_ n2_ n3_;(try clear hb);(try clear hb2);(try clear hk);(try clear hi);have hnb14:=NB141_142.out;have hnc14:=NB142_141.out;have hcz15_0 : w13.cell? ⟨gb141,0,none⟩ = some (.int .i64 a1_0):=(blk_cell BK141.out 0).trans rfl;have hcz15_1 : w13.cell? ⟨gb141,1,none⟩ = some (.float .f64 a1_1):=(blk_cell BK141.out 1).trans rfl;have hcz15_2 : w13.cell? ⟨gb141,2,none⟩ = some (.float .f64 a1_2):=(blk_cell BK141.out 2).trans rfl;have hcz15_3 : w13.cell? ⟨gb141,3,none⟩ = some (.float .f64 a1_3):=(blk_cell BK141.out 3).trans rfl;have hcz15_4 : w13.cell? ⟨gb141,4,none⟩ = some (.float .f64 a1_4):=(blk_cell BK141.out 4).trans rfl;have hcz15_5 : w13.cell? ⟨gb141,5,none⟩ = some (.float .f64 a1_5):=(blk_cell BK141.out 5).trans rfl;have hcz15_6 : w13.cell? ⟨gb141,6,none⟩ = some (.float .f64 a1_6):=(blk_cell BK141.out 6).trans rfl;have hfz15_0:=blk_frozen BK141.out 0;have hfz15_1:=blk_frozen BK141.out 1;have hfz15_2:=blk_frozen BK141.out 2;have hfz15_3:=blk_frozen BK141.out 3;have hfz15_4:=blk_frozen BK141.out 4;have hfz15_5:=blk_frozen BK141.out 5;have hfz15_6:=blk_frozen BK141.out 6)|(go_at_call 43;(with_reducible refine (tally_formed.calls k a1_0 a1_1 a1_2 a1_3 a1_4 a1_5 a1_6 t144 _ A9.out).mono ?_);rintro e w16 ⟨rfl,hb⟩;have n0_:=Aside0.mk (blk_below (g:=gb140) (o:=.cells #[.int .i64 a0_0,.float .f64 a0_1,.float .f64 a0_2,.float .f64 a0_3,.float .f64 a0_4,.float .f64 a0_5,.float .f64 a0_6] 26 (0,0)) (by (with_reducible repeat (first|refine blk_drewN ?_ _|refine blk_drew ?_|refine blk_alloc ?_ _));exact BK140.out) hb);have n1_:=Aside0.mk (blk_below (g:=gb141) (o:=.cells #[.int .i64 a1_0,.float .f64 a1_1,.float .f64 a1_2,.float .f64 a1_3,.float .f64 a1_4,.float .f64 a1_5,.float .f64 a1_6] 26 (0,0)) (by (with_reducible repeat (first|refine blk_drewN ?_ _|refine blk_drew ?_|refine blk_alloc ?_ _));exact BK141.out) hb);have n2_:=Aside0.mk (blk_below (g:=gb142) (o:=.cells #[.int .i64 0,.float .f64 0,.float .f64 0,.float .f64 0,.float .f64 0,.float .f64 0,.float .f64 0] 26 (0,0)) (by (with_reducible repeat (first|refine blk_drewN ?_ _|refine blk_drew ?_|refine blk_alloc ?_ _));exact BK142.out) hb);have n3_:=Aside0.mk (below_step (by repeat (first|(with_reducible first|exact HB.out|apply below_alloc|apply pw_below_drewN|apply below_drew1|refine below_set ?_ GE140.out|refine below_set ?_ GE141.out|refine below_set ?_ GE142.out)|exact HB.out)) hb);clear BK140;clear BK141;clear BK142;clear HB;have BK140:=n0_;have BK141:=n1_;have BK142:=n2_;have HB:=n3_;clear n0_ n1_ n2_ n3_;(try clear hb);(try clear hb2);(try clear hk);(try clear hi)))
   go_meet
   case rel=>exact ⟨_,(!t144),(by first|rfl|(simp;done)|(simp [*];done)),(by first|exact H'|(subst_vars;exact H')),⟨by first|omega|exact Nat.le_refl _⟩,⟨by (with_reducible repeat (first|refine blk_drewN ?_ _|refine blk_drew ?_|refine blk_alloc ?_ _));exact BK140.out⟩,⟨by (with_reducible repeat (first|refine blk_drewN ?_ _|refine blk_drew ?_|refine blk_alloc ?_ _));exact BK141.out⟩,⟨by (with_reducible repeat (first|refine blk_drewN ?_ _|refine blk_drew ?_|refine blk_alloc ?_ _));exact BK142.out⟩,⟨by repeat (first|(with_reducible first|exact HB.out|apply below_alloc|apply pw_below_drewN|apply below_drew1|refine below_set ?_ GE140.out|refine below_set ?_ GE141.out|refine below_set ?_ GE142.out)|exact HB.out)⟩⟩
  replace c8:=Bool.eq_false_iff.mpr c8;subst c8
  have H1 : (tally_Join.j0 k true a0_0 a0_1 a0_2 a0_3 a0_4 a0_5 a0_6 a1_0 a1_1 a1_2 a1_3 a1_4 a1_5 a1_6) = some (r1,r2,r3,r4,r5,r6,r7,r8):=by rw [if_neg (show ¬ (false = true) by decide)] at H;exact H
  clear H;have H:=H1;clear H1;have H':=Aside0.mk H;clear H;have hnb17:=NB140_141.out;have hnc17:=NB141_140.out;have hnb18:=NB140_142.out;have hnc18:=NB142_140.out;have hcz19_0 : w6.cell? ⟨gb140,0,none⟩ = some (.int .i64 a0_0):=(blk_cell BK140.out 0).trans rfl;have hcz19_1 : w6.cell? ⟨gb140,1,none⟩ = some (.float .f64 a0_1):=(blk_cell BK140.out 1).trans rfl;have hcz19_2 : w6.cell? ⟨gb140,2,none⟩ = some (.float .f64 a0_2):=(blk_cell BK140.out 2).trans rfl;have hcz19_3 : w6.cell? ⟨gb140,3,none⟩ = some (.float .f64 a0_3):=(blk_cell BK140.out 3).trans rfl;have hcz19_4 : w6.cell? ⟨gb140,4,none⟩ = some (.float .f64 a0_4):=(blk_cell BK140.out 4).trans rfl;have hcz19_5 : w6.cell? ⟨gb140,5,none⟩ = some (.float .f64 a0_5):=(blk_cell BK140.out 5).trans rfl;have hcz19_6 : w6.cell? ⟨gb140,6,none⟩ = some (.float .f64 a0_6):=(blk_cell BK140.out 6).trans rfl;have hfz19_0:=blk_frozen BK140.out 0;have hfz19_1:=blk_frozen BK140.out 1;have hfz19_2:=blk_frozen BK140.out 2;have hfz19_3:=blk_frozen BK140.out 3;have hfz19_4:=blk_frozen BK140.out 4;have hfz19_5:=blk_frozen BK140.out 5;have hfz19_6:=blk_frozen BK140.out 6
  go_wp2_with (first|((with_reducible refine gate_callee (f:=43) rfl ?_);refine goesL_ (some 12) rfl rfl Try.func43 (by kernel_rfl) rfl #[.agg #[.int .i64 a0_0,.float .f64 a0_1,.float .f64 a0_2,.float .f64 a0_3,.float .f64 a0_4,.float .f64 a0_5,.float .f64 a0_6]] rfl (by (try simp only [List.map_toArray,List.map_cons,List.map_nil]);first|done|rfl|(simp only [List.length_drop,List.length_take];rfl)) ?_;(with_reducible refine (tally_formed.calls k a0_0 a0_1 a0_2 a0_3 a0_4 a0_5 a0_6 false _ A7.out).mono ?_);rintro e w20 ⟨rfl,hb⟩;refine ⟨_,rfl,?_⟩;have n0_:=Aside0.mk (blk_below (g:=gb140) (o:=.cells #[.int .i64 a0_0,.float .f64 a0_1,.float .f64 a0_2,.float .f64 a0_3,.float .f64 a0_4,.float .f64 a0_5,.float .f64 a0_6] 26 (0,0)) (by (with_reducible repeat (first|refine blk_drewN ?_ _|refine blk_drew ?_|refine blk_alloc ?_ _));exact BK140.out) hb);have n1_:=Aside0.mk (blk_below (g:=gb141) (o:=.cells #[.int .i64 a1_0,.float .f64 a1_1,.float .f64 a1_2,.float .f64 a1_3,.float .f64 a1_4,.float .f64 a1_5,.float .f64 a1_6] 26 (0,0)) (by (with_reducible repeat (first|refine blk_drewN ?_ _|refine blk_drew ?_|refine blk_alloc ?_ _));exact BK141.out) hb);have n2_:=Aside0.mk (blk_below (g:=gb142) (o:=.cells #[.int .i64 0,.float .f64 0,.float .f64 0,.float .f64 0,.float .f64 0,.float .f64 0,.float .f64 0] 26 (0,0)) (by (with_reducible repeat (first|refine blk_drewN ?_ _|refine blk_drew ?_|refine blk_alloc ?_ _));exact BK142.out) hb);have n3_:=Aside0.mk (below_step (by repeat (first|(with_reducible first|exact HB.out|apply below_alloc|apply pw_below_drewN|apply below_drew1|refine below_set ?_ GE140.out|refine below_set ?_ GE141.out|refine below_set ?_ GE142.out)|exact HB.out)) hb);clear BK140;clear BK141;clear BK142;clear HB;have BK140:=n0_;have BK141:=n1_;have BK142:=n2_;have HB:=n3_;clear n0_ n1_ n2_ n3_;(try clear hb);(try clear hb2);(try clear hk);(try clear hi)))
  go_meet
  case rel=>exact ⟨_,(true),(by first|rfl|(simp;done)|(simp [*];done)),(by first|exact H'|(subst_vars;exact H')),⟨by first|omega|exact Nat.le_refl _⟩,⟨by (with_reducible repeat (first|refine blk_drewN ?_ _|refine blk_drew ?_|refine blk_alloc ?_ _));exact BK140.out⟩,⟨by (with_reducible repeat (first|refine blk_drewN ?_ _|refine blk_drew ?_|refine blk_alloc ?_ _));exact BK141.out⟩,⟨by (with_reducible repeat (first|refine blk_drewN ?_ _|refine blk_drew ?_|refine blk_alloc ?_ _));exact BK142.out⟩,⟨by repeat (first|(with_reducible first|exact HB.out|apply below_alloc|apply pw_below_drewN|apply below_drew1|refine below_set ?_ GE140.out|refine below_set ?_ GE141.out|refine below_set ?_ GE142.out)|exact HB.out)⟩⟩
 case rest =>
  clear HC3
  try clear c1
  try clear c2
  try clear p2
  try clear c4
  try clear c8
  try clear c10
  try clear c11
  try clear c14
  try clear c17
  try clear c18
  try clear hcz12_0
  try clear hcz12_1
  try clear hcz12_2
  try clear hcz12_3
  try clear hcz12_4
  try clear hcz12_5
  try clear hcz12_6
  try clear hcz15_0
  try clear hcz15_1
  try clear hcz15_2
  try clear hcz15_3
  try clear hcz15_4
  try clear hcz15_5
  try clear hcz15_6
  try clear hcz19_0
  try clear hcz19_1
  try clear hcz19_2
  try clear hcz19_3
  try clear hcz19_4
  try clear hcz19_5
  try clear hcz19_6
  try clear hfz12_0
  try clear hfz12_1
  try clear hfz12_2
  try clear hfz12_3
  try clear hfz12_4
  try clear hfz12_5
  try clear hfz12_6
  try clear hfz15_0
  try clear hfz15_1
  try clear hfz15_2
  try clear hfz15_3
  try clear hfz15_4
  try clear hfz15_5
  try clear hfz15_6
  try clear hfz19_0
  try clear hfz19_1
  try clear hfz19_2
  try clear hfz19_3
  try clear hfz19_4
  try clear hfz19_5
  try clear hfz19_6
  obtain ⟨kq,x18_2,rfl,HA,HJ2,BK140,BK141,BK142,HB⟩:=hcut
  cases kq with
  | zero=>exact absurd HA.out (by simp [tally_Join.j0])
  | succ kj2 =>
   have H:=HA.out;clear HA
   simp only [tally_Join.j0] at H
   by_cases c21 : x18_2 = true
   ·subst c21
    have H1 : (some (0,0,0,0,0,0,0,1)) = some (r1,r2,r3,r4,r5,r6,r7,r8):=by rw [if_pos rfl] at H;exact H
    clear H;have H:=H1;clear H1
    simp only [Option.some.injEq,Prod.mk.injEq] at H
    obtain ⟨rfl,rfl,rfl,rfl,rfl,rfl,rfl,rfl⟩:=H;have hnb22:=NB142_140.out;have hnc22:=NB140_142.out;have hnb23:=NB142_141.out;have hnc23:=NB141_142.out;have hcz24_0 : wc.cell? ⟨gb142,0,none⟩ = some (.int .i64 0):=(blk_cell BK142.out 0).trans rfl;have hcz24_1 : wc.cell? ⟨gb142,1,none⟩ = some (.float .f64 0):=(blk_cell BK142.out 1).trans rfl;have hcz24_2 : wc.cell? ⟨gb142,2,none⟩ = some (.float .f64 0):=(blk_cell BK142.out 2).trans rfl;have hcz24_3 : wc.cell? ⟨gb142,3,none⟩ = some (.float .f64 0):=(blk_cell BK142.out 3).trans rfl;have hcz24_4 : wc.cell? ⟨gb142,4,none⟩ = some (.float .f64 0):=(blk_cell BK142.out 4).trans rfl;have hcz24_5 : wc.cell? ⟨gb142,5,none⟩ = some (.float .f64 0):=(blk_cell BK142.out 5).trans rfl;have hcz24_6 : wc.cell? ⟨gb142,6,none⟩ = some (.float .f64 0):=(blk_cell BK142.out 6).trans rfl;have hfz24_0:=blk_frozen BK142.out 0;have hfz24_1:=blk_frozen BK142.out 1;have hfz24_2:=blk_frozen BK142.out 2;have hfz24_3:=blk_frozen BK142.out 3;have hfz24_4:=blk_frozen BK142.out 4;have hfz24_5:=blk_frozen BK142.out 5;have hfz24_6:=blk_frozen BK142.out 6;go_wp2
    refine bodyPost_ret (results_ct rfl _ _ gb142 26 #[.int .i64 0,.float .f64 0,.float .f64 0,.float .f64 0,.float .f64 0,.float .f64 0,.float .f64 0] (0,0) _ rfl (by (with_reducible repeat (first|refine blk_drewN ?_ _|refine blk_drew ?_|refine blk_alloc ?_ _));refine blk_put (cs:=#[.int .i64 0,.float .f64 0,.float .f64 0,.float .f64 0,.float .f64 0,.float .f64 0,.float .f64 0]) ?_ 6 _ (by first|rfl|(simp only [px_pos,px_ne];rfl)|simp [px_pos,px_ne]);(with_reducible repeat (first|refine blk_drewN ?_ _|refine blk_drew ?_|refine blk_alloc ?_ _));refine blk_put (cs:=#[.int .i64 0,.float .f64 0,.float .f64 0,.float .f64 0,.float .f64 0,.float .f64 0,.float .f64 0]) ?_ 5 _ (by first|rfl|(simp only [px_pos,px_ne];rfl)|simp [px_pos,px_ne]);(with_reducible repeat (first|refine blk_drewN ?_ _|refine blk_drew ?_|refine blk_alloc ?_ _));refine blk_put (cs:=#[.int .i64 0,.float .f64 0,.float .f64 0,.float .f64 0,.float .f64 0,.float .f64 0,.float .f64 0]) ?_ 4 _ (by first|rfl|(simp only [px_pos,px_ne];rfl)|simp [px_pos,px_ne]);(with_reducible repeat (first|refine blk_drewN ?_ _|refine blk_drew ?_|refine blk_alloc ?_ _));refine blk_put (cs:=#[.int .i64 0,.float .f64 0,.float .f64 0,.float .f64 0,.float .f64 0,.float .f64 0,.float .f64 0]) ?_ 3 _ (by first|rfl|(simp only [px_pos,px_ne];rfl)|simp [px_pos,px_ne]);(with_reducible repeat (first|refine blk_drewN ?_ _|refine blk_drew ?_|refine blk_alloc ?_ _));refine blk_put (cs:=#[.int .i64 0,.float .f64 0,.float .f64 0,.float .f64 0,.float .f64 0,.float .f64 0,.float .f64 0]) ?_ 2 _ (by first|rfl|(simp only [px_pos,px_ne];rfl)|simp [px_pos,px_ne]);(with_reducible repeat (first|refine blk_drewN ?_ _|refine blk_drew ?_|refine blk_alloc ?_ _));refine blk_put (cs:=#[.int .i64 0,.float .f64 0,.float .f64 0,.float .f64 0,.float .f64 0,.float .f64 0,.float .f64 0]) ?_ 1 _ (by first|rfl|(simp only [px_pos,px_ne];rfl)|simp [px_pos,px_ne]);(with_reducible repeat (first|refine blk_drewN ?_ _|refine blk_drew ?_|refine blk_alloc ?_ _));refine blk_put (cs:=#[.int .i64 0,.float .f64 0,.float .f64 0,.float .f64 0,.float .f64 0,.float .f64 0,.float .f64 0]) ?_ 0 _ (by first|rfl|(simp only [px_pos,px_ne];rfl)|simp [px_pos,px_ne]);(with_reducible repeat (first|refine blk_drewN ?_ _|refine blk_drew ?_|refine blk_alloc ?_ _));exact BK142.out) Try.underlying26 rfl (by kernel_rfl)) rfl ?_
    exact ⟨by first|rfl|(rw [px_ne];rfl)|(simp [errW_none,errW_some] <;> rfl)|(simp [*,errW_none,errW_some] <;> rfl),by repeat (first|(with_reducible first|exact HB.out|apply below_alloc|apply pw_below_drewN|apply below_drew1|refine below_set ?_ GE140.out|refine below_set ?_ GE141.out|refine below_set ?_ GE142.out)|exact HB.out)⟩
   replace c21:=Bool.eq_false_iff.mpr c21;subst c21
   have H1 : (if a1_0 = 0 then (some (a0_0,a0_1,a0_2,a0_3,a0_4,a0_5,a0_6,0)) else (if a0_0 = 0 then (some (a1_0,a1_1,a1_2,a1_3,a1_4,a1_5,a1_6,0)) else (if fok .add a0_3 a1_3 = true then (if a0_0 > (wrap64 (4611686018427387904 - a1_0)) then (some (0,0,0,0,0,0,0,121)) else (if (FloatKind.f64.format.order a1_1 a0_1 == some .lt) = true then (tally_Join.j1 kj2 a0_0 a0_1 a0_2 a0_3 a0_4 a0_5 a0_6 a1_0 a1_1 a1_2 a1_3 a1_4 a1_5 a1_6 (wrap64 (a0_0 + a1_0)) a1_1 a0_2 (fop .add a0_3 a1_3) 0 0 0) else (tally_Join.j1 kj2 a0_0 a0_1 a0_2 a0_3 a0_4 a0_5 a0_6 a1_0 a1_1 a1_2 a1_3 a1_4 a1_5 a1_6 (wrap64 (a0_0 + a1_0)) a0_1 a0_2 (fop .add a0_3 a1_3) 0 0 0))) else (none)))) = some (r1,r2,r3,r4,r5,r6,r7,r8):=by rw [if_neg (show ¬ (false = true) by decide)] at H;exact H
   clear H;have H:=H1;clear H1
   by_cases c25 : a1_0 = 0
   ·rw [if_pos c25] at H
    have c25b0 : (a1_0 == 0) = true:=beq_iff_eq.mpr c25;have c25b1 : (a1_0 != 0) = false:=bne_eq_false_iff_eq.mpr c25;clear c25
    simp only [Option.some.injEq,Prod.mk.injEq] at H
    obtain ⟨rfl,rfl,rfl,rfl,rfl,rfl,rfl,rfl⟩:=H;have hnb26:=NB141_140.out;have hnc26:=NB140_141.out;have hnb27:=NB141_142.out;have hnc27:=NB142_141.out;have hcz28_0 : wc.cell? ⟨gb141,0,none⟩ = some (.int .i64 a1_0):=(blk_cell BK141.out 0).trans rfl;have hcz28_1 : wc.cell? ⟨gb141,1,none⟩ = some (.float .f64 a1_1):=(blk_cell BK141.out 1).trans rfl;have hcz28_2 : wc.cell? ⟨gb141,2,none⟩ = some (.float .f64 a1_2):=(blk_cell BK141.out 2).trans rfl;have hcz28_3 : wc.cell? ⟨gb141,3,none⟩ = some (.float .f64 a1_3):=(blk_cell BK141.out 3).trans rfl;have hcz28_4 : wc.cell? ⟨gb141,4,none⟩ = some (.float .f64 a1_4):=(blk_cell BK141.out 4).trans rfl;have hcz28_5 : wc.cell? ⟨gb141,5,none⟩ = some (.float .f64 a1_5):=(blk_cell BK141.out 5).trans rfl;have hcz28_6 : wc.cell? ⟨gb141,6,none⟩ = some (.float .f64 a1_6):=(blk_cell BK141.out 6).trans rfl;have hfz28_0:=blk_frozen BK141.out 0;have hfz28_1:=blk_frozen BK141.out 1;have hfz28_2:=blk_frozen BK141.out 2;have hfz28_3:=blk_frozen BK141.out 3;have hfz28_4:=blk_frozen BK141.out 4;have hfz28_5:=blk_frozen BK141.out 5;have hfz28_6:=blk_frozen BK141.out 6;have hnb29:=NB140_142.out;have hnc29:=NB142_140.out;have hcz30_0 : wc.cell? ⟨gb140,0,none⟩ = some (.int .i64 a0_0):=(blk_cell BK140.out 0).trans rfl;have hcz30_1 : wc.cell? ⟨gb140,1,none⟩ = some (.float .f64 a0_1):=(blk_cell BK140.out 1).trans rfl;have hcz30_2 : wc.cell? ⟨gb140,2,none⟩ = some (.float .f64 a0_2):=(blk_cell BK140.out 2).trans rfl;have hcz30_3 : wc.cell? ⟨gb140,3,none⟩ = some (.float .f64 a0_3):=(blk_cell BK140.out 3).trans rfl
    have hcz30_4 : wc.cell? ⟨gb140,4,none⟩ = some (.float .f64 a0_4):=(blk_cell BK140.out 4).trans rfl;have hcz30_5 : wc.cell? ⟨gb140,5,none⟩ = some (.float .f64 a0_5):=(blk_cell BK140.out 5).trans rfl;have hcz30_6 : wc.cell? ⟨gb140,6,none⟩ = some (.float .f64 a0_6):=(blk_cell BK140.out 6).trans rfl;have hfz30_0:=blk_frozen BK140.out 0;have hfz30_1:=blk_frozen BK140.out 1;have hfz30_2:=blk_frozen BK140.out 2;have hfz30_3:=blk_frozen BK140.out 3;have hfz30_4:=blk_frozen BK140.out 4;have hfz30_5:=blk_frozen BK140.out 5;have hfz30_6:=blk_frozen BK140.out 6;have hcz31_0 : wc.cell? ⟨gb142,0,none⟩ = some (.int .i64 0):=(blk_cell BK142.out 0).trans rfl;have hcz31_1 : wc.cell? ⟨gb142,1,none⟩ = some (.float .f64 0):=(blk_cell BK142.out 1).trans rfl;have hcz31_2 : wc.cell? ⟨gb142,2,none⟩ = some (.float .f64 0):=(blk_cell BK142.out 2).trans rfl;have hcz31_3 : wc.cell? ⟨gb142,3,none⟩ = some (.float .f64 0):=(blk_cell BK142.out 3).trans rfl;have hcz31_4 : wc.cell? ⟨gb142,4,none⟩ = some (.float .f64 0):=(blk_cell BK142.out 4).trans rfl;have hcz31_5 : wc.cell? ⟨gb142,5,none⟩ = some (.float .f64 0):=(blk_cell BK142.out 5).trans rfl;have hcz31_6 : wc.cell? ⟨gb142,6,none⟩ = some (.float .f64 0):=(blk_cell BK142.out 6).trans rfl;have hfz31_0:=blk_frozen BK142.out 0;have hfz31_1:=blk_frozen BK142.out 1;have hfz31_2:=blk_frozen BK142.out 2;have hfz31_3:=blk_frozen BK142.out 3;have hfz31_4:=blk_frozen BK142.out 4;have hfz31_5:=blk_frozen BK142.out 5;have hfz31_6:=blk_frozen BK142.out 6;go_wp2
    refine bodyPost_ret (results_ct rfl _ _ gb142 26 #[.int .i64 a0_0,.float .f64 a0_1,.float .f64 a0_2,.float .f64 a0_3,.float .f64 a0_4,.float .f64 a0_5,.float .f64 a0_6] (0,0) _ rfl (by (with_reducible repeat (first|refine blk_drewN ?_ _|refine blk_drew ?_|refine blk_alloc ?_ _));refine blk_put (cs:=#[.int .i64 a0_0,.float .f64 a0_1,.float .f64 a0_2,.float .f64 a0_3,.float .f64 a0_4,.float .f64 a0_5,.float .f64 0]) ?_ 6 _ (by first|rfl|(simp only [px_pos,px_ne];rfl)|simp [px_pos,px_ne]);(with_reducible repeat (first|refine blk_drewN ?_ _|refine blk_drew ?_|refine blk_alloc ?_ _));refine blk_put (cs:=#[.int .i64 a0_0,.float .f64 a0_1,.float .f64 a0_2,.float .f64 a0_3,.float .f64 a0_4,.float .f64 0,.float .f64 0]) ?_ 5 _ (by first|rfl|(simp only [px_pos,px_ne];rfl)|simp [px_pos,px_ne]);(with_reducible repeat (first|refine blk_drewN ?_ _|refine blk_drew ?_|refine blk_alloc ?_ _));refine blk_put (cs:=#[.int .i64 a0_0,.float .f64 a0_1,.float .f64 a0_2,.float .f64 a0_3,.float .f64 0,.float .f64 0,.float .f64 0]) ?_ 4 _ (by first|rfl|(simp only [px_pos,px_ne];rfl)|simp [px_pos,px_ne]);(with_reducible repeat (first|refine blk_drewN ?_ _|refine blk_drew ?_|refine blk_alloc ?_ _));refine blk_put (cs:=#[.int .i64 a0_0,.float .f64 a0_1,.float .f64 a0_2,.float .f64 0,.float .f64 0,.float .f64 0,.float .f64 0]) ?_ 3 _ (by first|rfl|(simp only [px_pos,px_ne];rfl)|simp [px_pos,px_ne]);(with_reducible repeat (first|refine blk_drewN ?_ _|refine blk_drew ?_|refine blk_alloc ?_ _));refine blk_put (cs:=#[.int .i64 a0_0,.float .f64 a0_1,.float .f64 0,.float .f64 0,.float .f64 0,.float .f64 0,.float .f64 0]) ?_ 2 _ (by first|rfl|(simp only [px_pos,px_ne];rfl)|simp [px_pos,px_ne]);(with_reducible repeat (first|refine blk_drewN ?_ _|refine blk_drew ?_|refine blk_alloc ?_ _));refine blk_put (cs:=#[.int .i64 a0_0,.float .f64 0,.float .f64 0,.float .f64 0,.float .f64 0,.float .f64 0,.float .f64 0]) ?_ 1 _ (by first|rfl|(simp only [px_pos,px_ne];rfl)|simp [px_pos,px_ne]);(with_reducible repeat (first|refine blk_drewN ?_ _|refine blk_drew ?_|refine blk_alloc ?_ _));refine blk_put (cs:=#[.int .i64 0,.float .f64 0,.float .f64 0,.float .f64 0,.float .f64 0,.float .f64 0,.float .f64 0]) ?_ 0 _ (by first|rfl|(simp only [px_pos,px_ne];rfl)|simp [px_pos,px_ne]);(with_reducible repeat (first|refine blk_drewN ?_ _|refine blk_drew ?_|refine blk_alloc ?_ _));exact BK142.out) Try.underlying26 rfl (by kernel_rfl)) rfl ?_
    exact ⟨by first|rfl|(rw [px_ne];rfl)|(simp [errW_none,errW_some] <;> rfl)|(simp [*,errW_none,errW_some] <;> rfl),by repeat (first|(with_reducible first|exact HB.out|apply below_alloc|apply pw_below_drewN|apply below_drew1|refine below_set ?_ GE140.out|refine below_set ?_ GE141.out|refine below_set ?_ GE142.out)|exact HB.out)⟩
   rw [if_neg c25] at H
   have c25b0 : (a1_0 == 0) = false:=beq_eq_false_iff_ne.mpr c25;have c25b1 : (a1_0 != 0) = true:=bne_iff_ne.mpr c25
   by_cases c32 : a0_0 = 0
   ·rw [if_pos c32] at H
    have c32b0 : (a0_0 == 0) = true:=beq_iff_eq.mpr c32;have c32b1 : (a0_0 != 0) = false:=bne_eq_false_iff_eq.mpr c32;clear c32
    simp only [Option.some.injEq,Prod.mk.injEq] at H
    obtain ⟨rfl,rfl,rfl,rfl,rfl,rfl,rfl,rfl⟩:=H;have hnb33:=NB141_140.out;have hnc33:=NB140_141.out;have hnb34:=NB141_142.out;have hnc34:=NB142_141.out;have hcz35_0 : wc.cell? ⟨gb141,0,none⟩ = some (.int .i64 a1_0):=(blk_cell BK141.out 0).trans rfl;have hcz35_1 : wc.cell? ⟨gb141,1,none⟩ = some (.float .f64 a1_1):=(blk_cell BK141.out 1).trans rfl;have hcz35_2 : wc.cell? ⟨gb141,2,none⟩ = some (.float .f64 a1_2):=(blk_cell BK141.out 2).trans rfl;have hcz35_3 : wc.cell? ⟨gb141,3,none⟩ = some (.float .f64 a1_3):=(blk_cell BK141.out 3).trans rfl;have hcz35_4 : wc.cell? ⟨gb141,4,none⟩ = some (.float .f64 a1_4):=(blk_cell BK141.out 4).trans rfl;have hcz35_5 : wc.cell? ⟨gb141,5,none⟩ = some (.float .f64 a1_5):=(blk_cell BK141.out 5).trans rfl;have hcz35_6 : wc.cell? ⟨gb141,6,none⟩ = some (.float .f64 a1_6):=(blk_cell BK141.out 6).trans rfl;have hfz35_0:=blk_frozen BK141.out 0;have hfz35_1:=blk_frozen BK141.out 1;have hfz35_2:=blk_frozen BK141.out 2;have hfz35_3:=blk_frozen BK141.out 3;have hfz35_4:=blk_frozen BK141.out 4;have hfz35_5:=blk_frozen BK141.out 5;have hfz35_6:=blk_frozen BK141.out 6;have hnb36:=NB140_142.out;have hnc36:=NB142_140.out;have hcz37_0 : wc.cell? ⟨gb140,0,none⟩ = some (.int .i64 a0_0):=(blk_cell BK140.out 0).trans rfl;have hcz37_1 : wc.cell? ⟨gb140,1,none⟩ = some (.float .f64 a0_1):=(blk_cell BK140.out 1).trans rfl;have hcz37_2 : wc.cell? ⟨gb140,2,none⟩ = some (.float .f64 a0_2):=(blk_cell BK140.out 2).trans rfl;have hcz37_3 : wc.cell? ⟨gb140,3,none⟩ = some (.float .f64 a0_3):=(blk_cell BK140.out 3).trans rfl
    have hcz37_4 : wc.cell? ⟨gb140,4,none⟩ = some (.float .f64 a0_4):=(blk_cell BK140.out 4).trans rfl;have hcz37_5 : wc.cell? ⟨gb140,5,none⟩ = some (.float .f64 a0_5):=(blk_cell BK140.out 5).trans rfl;have hcz37_6 : wc.cell? ⟨gb140,6,none⟩ = some (.float .f64 a0_6):=(blk_cell BK140.out 6).trans rfl;have hfz37_0:=blk_frozen BK140.out 0;have hfz37_1:=blk_frozen BK140.out 1;have hfz37_2:=blk_frozen BK140.out 2;have hfz37_3:=blk_frozen BK140.out 3;have hfz37_4:=blk_frozen BK140.out 4;have hfz37_5:=blk_frozen BK140.out 5;have hfz37_6:=blk_frozen BK140.out 6;have hcz38_0 : wc.cell? ⟨gb142,0,none⟩ = some (.int .i64 0):=(blk_cell BK142.out 0).trans rfl;have hcz38_1 : wc.cell? ⟨gb142,1,none⟩ = some (.float .f64 0):=(blk_cell BK142.out 1).trans rfl;have hcz38_2 : wc.cell? ⟨gb142,2,none⟩ = some (.float .f64 0):=(blk_cell BK142.out 2).trans rfl;have hcz38_3 : wc.cell? ⟨gb142,3,none⟩ = some (.float .f64 0):=(blk_cell BK142.out 3).trans rfl;have hcz38_4 : wc.cell? ⟨gb142,4,none⟩ = some (.float .f64 0):=(blk_cell BK142.out 4).trans rfl;have hcz38_5 : wc.cell? ⟨gb142,5,none⟩ = some (.float .f64 0):=(blk_cell BK142.out 5).trans rfl;have hcz38_6 : wc.cell? ⟨gb142,6,none⟩ = some (.float .f64 0):=(blk_cell BK142.out 6).trans rfl;have hfz38_0:=blk_frozen BK142.out 0;have hfz38_1:=blk_frozen BK142.out 1;have hfz38_2:=blk_frozen BK142.out 2;have hfz38_3:=blk_frozen BK142.out 3;have hfz38_4:=blk_frozen BK142.out 4;have hfz38_5:=blk_frozen BK142.out 5;have hfz38_6:=blk_frozen BK142.out 6;go_wp2
    refine bodyPost_ret (results_ct rfl _ _ gb142 26 #[.int .i64 a1_0,.float .f64 a1_1,.float .f64 a1_2,.float .f64 a1_3,.float .f64 a1_4,.float .f64 a1_5,.float .f64 a1_6] (0,0) _ rfl (by (with_reducible repeat (first|refine blk_drewN ?_ _|refine blk_drew ?_|refine blk_alloc ?_ _));refine blk_put (cs:=#[.int .i64 a1_0,.float .f64 a1_1,.float .f64 a1_2,.float .f64 a1_3,.float .f64 a1_4,.float .f64 a1_5,.float .f64 0]) ?_ 6 _ (by first|rfl|(simp only [px_pos,px_ne];rfl)|simp [px_pos,px_ne]);(with_reducible repeat (first|refine blk_drewN ?_ _|refine blk_drew ?_|refine blk_alloc ?_ _));refine blk_put (cs:=#[.int .i64 a1_0,.float .f64 a1_1,.float .f64 a1_2,.float .f64 a1_3,.float .f64 a1_4,.float .f64 0,.float .f64 0]) ?_ 5 _ (by first|rfl|(simp only [px_pos,px_ne];rfl)|simp [px_pos,px_ne]);(with_reducible repeat (first|refine blk_drewN ?_ _|refine blk_drew ?_|refine blk_alloc ?_ _));refine blk_put (cs:=#[.int .i64 a1_0,.float .f64 a1_1,.float .f64 a1_2,.float .f64 a1_3,.float .f64 0,.float .f64 0,.float .f64 0]) ?_ 4 _ (by first|rfl|(simp only [px_pos,px_ne];rfl)|simp [px_pos,px_ne]);(with_reducible repeat (first|refine blk_drewN ?_ _|refine blk_drew ?_|refine blk_alloc ?_ _));refine blk_put (cs:=#[.int .i64 a1_0,.float .f64 a1_1,.float .f64 a1_2,.float .f64 0,.float .f64 0,.float .f64 0,.float .f64 0]) ?_ 3 _ (by first|rfl|(simp only [px_pos,px_ne];rfl)|simp [px_pos,px_ne]);(with_reducible repeat (first|refine blk_drewN ?_ _|refine blk_drew ?_|refine blk_alloc ?_ _));refine blk_put (cs:=#[.int .i64 a1_0,.float .f64 a1_1,.float .f64 0,.float .f64 0,.float .f64 0,.float .f64 0,.float .f64 0]) ?_ 2 _ (by first|rfl|(simp only [px_pos,px_ne];rfl)|simp [px_pos,px_ne]);(with_reducible repeat (first|refine blk_drewN ?_ _|refine blk_drew ?_|refine blk_alloc ?_ _));refine blk_put (cs:=#[.int .i64 a1_0,.float .f64 0,.float .f64 0,.float .f64 0,.float .f64 0,.float .f64 0,.float .f64 0]) ?_ 1 _ (by first|rfl|(simp only [px_pos,px_ne];rfl)|simp [px_pos,px_ne]);(with_reducible repeat (first|refine blk_drewN ?_ _|refine blk_drew ?_|refine blk_alloc ?_ _));refine blk_put (cs:=#[.int .i64 0,.float .f64 0,.float .f64 0,.float .f64 0,.float .f64 0,.float .f64 0,.float .f64 0]) ?_ 0 _ (by first|rfl|(simp only [px_pos,px_ne];rfl)|simp [px_pos,px_ne]);(with_reducible repeat (first|refine blk_drewN ?_ _|refine blk_drew ?_|refine blk_alloc ?_ _));exact BK142.out) Try.underlying26 rfl (by kernel_rfl)) rfl ?_
    exact ⟨by first|rfl|(rw [px_ne];rfl)|(simp [errW_none,errW_some] <;> rfl)|(simp [*,errW_none,errW_some] <;> rfl),by repeat (first|(with_reducible first|exact HB.out|apply below_alloc|apply pw_below_drewN|apply below_drew1|refine below_set ?_ GE140.out|refine below_set ?_ GE141.out|refine below_set ?_ GE142.out)|exact HB.out)⟩
   rw [if_neg c32] at H
   have c32b0 : (a0_0 == 0) = false:=beq_eq_false_iff_ne.mpr c32;have c32b1 : (a0_0 != 0) = true:=bne_iff_ne.mpr c32
   by_cases c39 : fok .add a0_3 a1_3 = true
   ·rw [if_pos c39] at H
    have c39b0:=eq_true c39;have c39b1 : decide (fok .add a0_3 a1_3 = true) = true:=decide_eq_true c39;clear c39
    by_cases c40 : a0_0 > (wrap64 (4611686018427387904 - a1_0))
    ·rw [if_pos c40] at H
     have c40b0 : decide ((wrap64 (4611686018427387904 - a1_0)) < a0_0) = true:=decide_eq_true c40;clear c40
     simp only [Option.some.injEq,Prod.mk.injEq] at H
     obtain ⟨rfl,rfl,rfl,rfl,rfl,rfl,rfl,rfl⟩:=H;have hnb41:=NB141_140.out;have hnc41:=NB140_141.out;have hnb42:=NB141_142.out;have hnc42:=NB142_141.out;have hcz43_0 : wc.cell? ⟨gb141,0,none⟩ = some (.int .i64 a1_0):=(blk_cell BK141.out 0).trans rfl;have hcz43_1 : wc.cell? ⟨gb141,1,none⟩ = some (.float .f64 a1_1):=(blk_cell BK141.out 1).trans rfl;have hcz43_2 : wc.cell? ⟨gb141,2,none⟩ = some (.float .f64 a1_2):=(blk_cell BK141.out 2).trans rfl;have hcz43_3 : wc.cell? ⟨gb141,3,none⟩ = some (.float .f64 a1_3):=(blk_cell BK141.out 3).trans rfl;have hcz43_4 : wc.cell? ⟨gb141,4,none⟩ = some (.float .f64 a1_4):=(blk_cell BK141.out 4).trans rfl;have hcz43_5 : wc.cell? ⟨gb141,5,none⟩ = some (.float .f64 a1_5):=(blk_cell BK141.out 5).trans rfl;have hcz43_6 : wc.cell? ⟨gb141,6,none⟩ = some (.float .f64 a1_6):=(blk_cell BK141.out 6).trans rfl;have hfz43_0:=blk_frozen BK141.out 0;have hfz43_1:=blk_frozen BK141.out 1;have hfz43_2:=blk_frozen BK141.out 2;have hfz43_3:=blk_frozen BK141.out 3;have hfz43_4:=blk_frozen BK141.out 4;have hfz43_5:=blk_frozen BK141.out 5;have hfz43_6:=blk_frozen BK141.out 6;have hnb44:=NB140_142.out;have hnc44:=NB142_140.out;have hcz45_0 : wc.cell? ⟨gb140,0,none⟩ = some (.int .i64 a0_0):=(blk_cell BK140.out 0).trans rfl;have hcz45_1 : wc.cell? ⟨gb140,1,none⟩ = some (.float .f64 a0_1):=(blk_cell BK140.out 1).trans rfl;have hcz45_2 : wc.cell? ⟨gb140,2,none⟩ = some (.float .f64 a0_2):=(blk_cell BK140.out 2).trans rfl;have hcz45_3 : wc.cell? ⟨gb140,3,none⟩ = some (.float .f64 a0_3):=(blk_cell BK140.out 3).trans rfl
     have hcz45_4 : wc.cell? ⟨gb140,4,none⟩ = some (.float .f64 a0_4):=(blk_cell BK140.out 4).trans rfl;have hcz45_5 : wc.cell? ⟨gb140,5,none⟩ = some (.float .f64 a0_5):=(blk_cell BK140.out 5).trans rfl;have hcz45_6 : wc.cell? ⟨gb140,6,none⟩ = some (.float .f64 a0_6):=(blk_cell BK140.out 6).trans rfl;have hfz45_0:=blk_frozen BK140.out 0;have hfz45_1:=blk_frozen BK140.out 1;have hfz45_2:=blk_frozen BK140.out 2;have hfz45_3:=blk_frozen BK140.out 3;have hfz45_4:=blk_frozen BK140.out 4;have hfz45_5:=blk_frozen BK140.out 5;have hfz45_6:=blk_frozen BK140.out 6
     go_wp2_with (first|((with_reducible refine gate_dst (N:=6) rfl ?_);refine box_event ?hg (N:=6) ?hd (cs:=#[.int .i64 0,.float .f64 0,.float .f64 0,.float .f64 0,.float .f64 0,.float .f64 0,.float .f64 0]) (t:=26) ?hr ?_;(case hd=>rfl);(case hg=>rfl);(case hr=>first|(go_simp;done)|(go_simp;rfl));intro gb145 hg w46 hbox hb;have n0_:=Aside0.mk (blk_below (g:=gb140) (o:=.cells #[.int .i64 a0_0,.float .f64 a0_1,.float .f64 a0_2,.float .f64 a0_3,.float .f64 a0_4,.float .f64 a0_5,.float .f64 a0_6] 26 (0,0)) (by (with_reducible repeat (first|refine blk_drewN ?_ _|refine blk_drew ?_|refine blk_alloc ?_ _));exact BK140.out) hb);have n1_:=Aside0.mk (blk_below (g:=gb141) (o:=.cells #[.int .i64 a1_0,.float .f64 a1_1,.float .f64 a1_2,.float .f64 a1_3,.float .f64 a1_4,.float .f64 a1_5,.float .f64 a1_6] 26 (0,0)) (by (with_reducible repeat (first|refine blk_drewN ?_ _|refine blk_drew ?_|refine blk_alloc ?_ _));exact BK141.out) hb);have n2_:=Aside0.mk (blk_below (g:=gb142) (o:=.cells #[.int .i64 0,.float .f64 0,.float .f64 0,.float .f64 0,.float .f64 0,.float .f64 0,.float .f64 0] 26 (0,0)) (by (with_reducible repeat (first|refine blk_drewN ?_ _|refine blk_drew ?_|refine blk_alloc ?_ _));exact BK142.out) hb);have n3_:=Aside0.mk (below_step (by repeat (first|(with_reducible first|exact HB.out|apply below_alloc|apply pw_below_drewN|apply below_drew1|refine below_set ?_ GE140.out|refine below_set ?_ GE141.out|refine below_set ?_ GE142.out)|exact HB.out)) hb);have n4_:=Aside0.mk (hbox);have n5_:=Aside0.mk ((by rw [hg];exact (below_size (by repeat (first|(with_reducible first|exact HB.out|apply below_alloc|apply pw_below_drewN|apply below_drew1|refine below_set ?_ GE140.out|refine below_set ?_ GE141.out|refine below_set ?_ GE142.out)|exact HB.out))) : w.heap.size ≤ gb145));have n6_:=Aside0.mk ((by rw [hg];exact (below_size (by repeat (first|(with_reducible first|exact HB.out|apply below_alloc|apply pw_below_drewN|apply below_drew1|refine below_set ?_ GE140.out|refine below_set ?_ GE141.out|refine below_set ?_ GE142.out)|exact HB.out))) : w.heap.size ≤ gb145));have n7_:=Aside0.mk ((by rw [hg];exact Nat.ne_of_lt (blk_lt (g:=gb140) (o:=.cells #[.int .i64 a0_0,.float .f64 a0_1,.float .f64 a0_2,.float .f64 a0_3,.float .f64 a0_4,.float .f64 a0_5,.float .f64 a0_6] 26 (0,0)) (by (with_reducible repeat (first|refine blk_drewN ?_ _|refine blk_drew ?_|refine blk_alloc ?_ _));exact BK140.out)) : gb140 ≠ gb145));have n8_:=Aside0.mk ((by rw [hg];exact Nat.ne_of_gt (blk_lt (g:=gb140) (o:=.cells #[.int .i64 a0_0,.float .f64 a0_1,.float .f64 a0_2,.float .f64 a0_3,.float .f64 a0_4,.float .f64 a0_5,.float .f64 a0_6] 26 (0,0)) (by (with_reducible repeat (first|refine blk_drewN ?_ _|refine blk_drew ?_|refine blk_alloc ?_ _));exact BK140.out)) : gb145 ≠ gb140));have n9_:=Aside0.mk ((by rw [hg];exact Nat.ne_of_lt (blk_lt (g:=gb141) (o:=.cells #[.int .i64 a1_0,.float .f64 a1_1,.float .f64 a1_2,.float .f64 a1_3,.float .f64 a1_4,.float .f64 a1_5,.float .f64 a1_6] 26 (0,0)) (by (with_reducible repeat (first|refine blk_drewN ?_ _|refine blk_drew ?_|refine blk_alloc ?_ _));exact BK141.out)) : gb141 ≠ gb145));have n10_:=Aside0.mk ((by rw [hg];exact Nat.ne_of_gt (blk_lt (g:=gb141) (o:=.cells #[.int .i64 a1_0,.float .f64 a1_1,.float .f64 a1_2,.float .f64 a1_3,.float .f64 a1_4,.float .f64 a1_5,.float .f64 a1_6] 26 (0,0)) (by (with_reducible repeat (first|refine blk_drewN ?_ _|refine blk_drew ?_|refine blk_alloc ?_ _));exact BK141.out)) : gb145 ≠ gb141));have n11_:=Aside0.mk ((by rw [hg];exact Nat.ne_of_lt (blk_lt (g:=gb142) (o:=.cells #[.int .i64 0,.float .f64 0,.float .f64 0,.float .f64 0,.float .f64 0,.float .f64 0,.float .f64 0] 26 (0,0)) (by (with_reducible repeat (first|refine blk_drewN ?_ _|refine blk_drew ?_|refine blk_alloc ?_ _));exact BK142.out)) : gb142 ≠ gb145));have n12_:=Aside0.mk ((by rw [hg];exact Nat.ne_of_gt (blk_lt (g:=gb142) (o:=.cells #[.int .i64 0,.float .f64 0,.float .f64 0,.float .f64 0,.float .f64 0,.float .f64 0,.float .f64 0] 26 (0,0)) (by (with_reducible repeat (first|refine blk_drewN ?_ _|refine blk_drew ?_|refine blk_alloc ?_ _));exact BK142.out)) : gb145 ≠ gb142));clear BK140;clear BK141;clear BK142;clear HB;have BK140:=n0_;have BK141:=n1_;have BK142:=n2_;have HB:=n3_;have BK145:=n4_;have GW145:=n5_;have GE145:=n6_;have NB140_145:=n7_;have NB145_140:=n8_;have NB141_145:=n9_;have NB145_141:=n10_;have NB142_145:=n11_;have NB145_142:=n12_;clear n0_ n1_ n2_ n3_ n4_ n5_ n6_ n7_ n8_ n9_ n10_ n11_ n12_;clear hb hbox hg;have hnb47:=NB145_140.out;have hnc47:=NB140_145.out;have hnb48:=NB145_141.out;have hnc48:=NB141_145.out;have hnb49:=NB145_142.out;have hnc49:=NB142_145.out;have hcz50_0 : w46.cell? ⟨gb145,0,none⟩ = some (.int .i64 0):=(blk_cell BK145.out 0).trans rfl;have hcz50_1 : w46.cell? ⟨gb145,1,none⟩ = some (.float .f64 0):=(blk_cell BK145.out 1).trans rfl;have hcz50_2 : w46.cell? ⟨gb145,2,none⟩ = some (.float .f64 0):=(blk_cell BK145.out 2).trans rfl;have hcz50_3 : w46.cell? ⟨gb145,3,none⟩ = some (.float .f64 0):=(blk_cell BK145.out 3).trans rfl;have hcz50_4 : w46.cell? ⟨gb145,4,none⟩ = some (.float .f64 0):=(blk_cell BK145.out 4).trans rfl;have hcz50_5 : w46.cell? ⟨gb145,5,none⟩ = some (.float .f64 0):=(blk_cell BK145.out 5).trans rfl;have hcz50_6 : w46.cell? ⟨gb145,6,none⟩ = some (.float .f64 0):=(blk_cell BK145.out 6).trans rfl;have hfz50_0:=blk_frozen BK145.out 0;have hfz50_1:=blk_frozen BK145.out 1;have hfz50_2:=blk_frozen BK145.out 2;have hfz50_3:=blk_frozen BK145.out 3;have hfz50_4:=blk_frozen BK145.out 4;have hfz50_5:=blk_frozen BK145.out 5;have hfz50_6:=blk_frozen BK145.out 6;have hcz51_0 : w46.cell? ⟨gb140,0,none⟩ = some (.int .i64 a0_0):=(blk_cell BK140.out 0).trans rfl;have hcz51_1 : w46.cell? ⟨gb140,1,none⟩ = some (.float .f64 a0_1):=(blk_cell BK140.out 1).trans rfl;have hcz51_2 : w46.cell? ⟨gb140,2,none⟩ = some (.float .f64 a0_2):=(blk_cell BK140.out 2).trans rfl;have hcz51_3 : w46.cell? ⟨gb140,3,none⟩ = some (.float .f64 a0_3):=(blk_cell BK140.out 3).trans rfl;have hcz51_4 : w46.cell? ⟨gb140,4,none⟩ = some (.float .f64 a0_4):=(blk_cell BK140.out 4).trans rfl;have hcz51_5 : w46.cell? ⟨gb140,5,none⟩ = some (.float .f64 a0_5):=(blk_cell BK140.out 5).trans rfl;have hcz51_6 : w46.cell? ⟨gb140,6,none⟩ = some (.float .f64 a0_6):=(blk_cell BK140.out 6).trans rfl;have hfz51_0:=blk_frozen BK140.out 0;have hfz51_1:=blk_frozen BK140.out 1;have hfz51_2:=blk_frozen BK140.out 2;have hfz51_3:=blk_frozen BK140.out 3;have hfz51_4:=blk_frozen BK140.out 4;have hfz51_5:=blk_frozen BK140.out 5;have hfz51_6:=blk_frozen BK140.out 6;have hcz52_0 : w46.cell? ⟨gb141,0,none⟩ = some (.int .i64 a1_0):=(blk_cell BK141.out 0).trans rfl;have hcz52_1 : w46.cell? ⟨gb141,1,none⟩ = some (.float .f64 a1_1):=(blk_cell BK141.out 1).trans rfl;have hcz52_2 : w46.cell? ⟨gb141,2,none⟩ = some (.float .f64 a1_2):=(blk_cell BK141.out 2).trans rfl;have hcz52_3 : w46.cell? ⟨gb141,3,none⟩ = some (.float .f64 a1_3):=(blk_cell BK141.out 3).trans rfl;have hcz52_4 : w46.cell? ⟨gb141,4,none⟩ = some (.float .f64 a1_4):=(blk_cell BK141.out 4).trans rfl;have hcz52_5 : w46.cell? ⟨gb141,5,none⟩ = some (.float .f64 a1_5):=(blk_cell BK141.out 5).trans rfl;have hcz52_6 : w46.cell? ⟨gb141,6,none⟩ = some (.float .f64 a1_6):=(blk_cell BK141.out 6).trans rfl;have hfz52_0:=blk_frozen BK141.out 0;have hfz52_1:=blk_frozen BK141.out 1;have hfz52_2:=blk_frozen BK141.out 2;have hfz52_3:=blk_frozen BK141.out 3;have hfz52_4:=blk_frozen BK141.out 4;have hfz52_5:=blk_frozen BK141.out 5;have hfz52_6:=blk_frozen BK141.out 6;have hcz53_0 : w46.cell? ⟨gb142,0,none⟩ = some (.int .i64 0):=(blk_cell BK142.out 0).trans rfl;have hcz53_1 : w46.cell? ⟨gb142,1,none⟩ = some (.float .f64 0):=(blk_cell BK142.out 1).trans rfl;have hcz53_2 : w46.cell? ⟨gb142,2,none⟩ = some (.float .f64 0):=(blk_cell BK142.out 2).trans rfl;have hcz53_3 : w46.cell? ⟨gb142,3,none⟩ = some (.float .f64 0):=(blk_cell BK142.out 3).trans rfl;have hcz53_4 : w46.cell? ⟨gb142,4,none⟩ = some (.float .f64 0):=(blk_cell BK142.out 4).trans rfl;have hcz53_5 : w46.cell? ⟨gb142,5,none⟩ = some (.float .f64 0):=(blk_cell BK142.out 5).trans rfl;have hcz53_6 : w46.cell? ⟨gb142,6,none⟩ = some (.float .f64 0):=(blk_cell BK142.out 6).trans rfl;have hfz53_0:=blk_frozen BK142.out 0;have hfz53_1:=blk_frozen BK142.out 1;have hfz53_2:=blk_frozen BK142.out 2;have hfz53_3:=blk_frozen BK142.out 3;have hfz53_4:=blk_frozen BK142.out 4;have hfz53_5:=blk_frozen BK142.out 5;have hfz53_6:=blk_frozen BK142.out 6))
     refine bodyPost_ret (results_ct rfl _ _ gb142 26 #[.int .i64 0,.float .f64 0,.float .f64 0,.float .f64 0,.float .f64 0,.float .f64 0,.float .f64 0] (0,0) _ rfl (by (with_reducible repeat (first|refine blk_drewN ?_ _|refine blk_drew ?_|refine blk_alloc ?_ _));refine blk_put (cs:=#[.int .i64 0,.float .f64 0,.float .f64 0,.float .f64 0,.float .f64 0,.float .f64 0,.float .f64 0]) ?_ 6 _ (by first|rfl|(simp only [px_pos,px_ne];rfl)|simp [px_pos,px_ne]);(with_reducible repeat (first|refine blk_drewN ?_ _|refine blk_drew ?_|refine blk_alloc ?_ _));refine blk_put (cs:=#[.int .i64 0,.float .f64 0,.float .f64 0,.float .f64 0,.float .f64 0,.float .f64 0,.float .f64 0]) ?_ 5 _ (by first|rfl|(simp only [px_pos,px_ne];rfl)|simp [px_pos,px_ne]);(with_reducible repeat (first|refine blk_drewN ?_ _|refine blk_drew ?_|refine blk_alloc ?_ _));refine blk_put (cs:=#[.int .i64 0,.float .f64 0,.float .f64 0,.float .f64 0,.float .f64 0,.float .f64 0,.float .f64 0]) ?_ 4 _ (by first|rfl|(simp only [px_pos,px_ne];rfl)|simp [px_pos,px_ne]);(with_reducible repeat (first|refine blk_drewN ?_ _|refine blk_drew ?_|refine blk_alloc ?_ _));refine blk_put (cs:=#[.int .i64 0,.float .f64 0,.float .f64 0,.float .f64 0,.float .f64 0,.float .f64 0,.float .f64 0]) ?_ 3 _ (by first|rfl|(simp only [px_pos,px_ne];rfl)|simp [px_pos,px_ne]);(with_reducible repeat (first|refine blk_drewN ?_ _|refine blk_drew ?_|refine blk_alloc ?_ _));refine blk_put (cs:=#[.int .i64 0,.float .f64 0,.float .f64 0,.float .f64 0,.float .f64 0,.float .f64 0,.float .f64 0]) ?_ 2 _ (by first|rfl|(simp only [px_pos,px_ne];rfl)|simp [px_pos,px_ne]);(with_reducible repeat (first|refine blk_drewN ?_ _|refine blk_drew ?_|refine blk_alloc ?_ _));refine blk_put (cs:=#[.int .i64 0,.float .f64 0,.float .f64 0,.float .f64 0,.float .f64 0,.float .f64 0,.float .f64 0]) ?_ 1 _ (by first|rfl|(simp only [px_pos,px_ne];rfl)|simp [px_pos,px_ne]);(with_reducible repeat (first|refine blk_drewN ?_ _|refine blk_drew ?_|refine blk_alloc ?_ _));refine blk_put (cs:=#[.int .i64 0,.float .f64 0,.float .f64 0,.float .f64 0,.float .f64 0,.float .f64 0,.float .f64 0]) ?_ 0 _ (by first|rfl|(simp only [px_pos,px_ne];rfl)|simp [px_pos,px_ne]);(with_reducible repeat (first|refine blk_drewN ?_ _|refine blk_drew ?_|refine blk_alloc ?_ _));refine blk_far ?_ NB142_145.out _;(with_reducible repeat (first|refine blk_drewN ?_ _|refine blk_drew ?_|refine blk_alloc ?_ _));refine blk_far ?_ NB142_145.out _;(with_reducible repeat (first|refine blk_drewN ?_ _|refine blk_drew ?_|refine blk_alloc ?_ _));refine blk_far ?_ NB142_145.out _;(with_reducible repeat (first|refine blk_drewN ?_ _|refine blk_drew ?_|refine blk_alloc ?_ _));refine blk_far ?_ NB142_145.out _;(with_reducible repeat (first|refine blk_drewN ?_ _|refine blk_drew ?_|refine blk_alloc ?_ _));refine blk_far ?_ NB142_145.out _;(with_reducible repeat (first|refine blk_drewN ?_ _|refine blk_drew ?_|refine blk_alloc ?_ _));refine blk_far ?_ NB142_145.out _;(with_reducible repeat (first|refine blk_drewN ?_ _|refine blk_drew ?_|refine blk_alloc ?_ _));refine blk_far ?_ NB142_145.out _;(with_reducible repeat (first|refine blk_drewN ?_ _|refine blk_drew ?_|refine blk_alloc ?_ _));exact BK142.out) Try.underlying26 rfl (by kernel_rfl)) rfl ?_
     exact ⟨by first|rfl|(rw [px_ne];rfl)|(simp [errW_none,errW_some] <;> rfl)|(simp [*,errW_none,errW_some] <;> rfl),by repeat (first|(with_reducible first|exact HB.out|apply below_alloc|apply pw_below_drewN|apply below_drew1|refine below_set ?_ GE140.out|refine below_set ?_ GE141.out|refine below_set ?_ GE142.out|refine below_set ?_ GE145.out)|exact HB.out)⟩
    rw [if_neg c40] at H
    have c40b0 : decide ((wrap64 (4611686018427387904 - a1_0)) < a0_0) = false:=decide_eq_false c40;clear c40;have HC54:=Aside0.mk H;clear H;have hnb55:=NB141_140.out;have hnc55:=NB140_141.out;have hnb56:=NB141_142.out;have hnc56:=NB142_141.out;have hcz57_0 : wc.cell? ⟨gb141,0,none⟩ = some (.int .i64 a1_0):=(blk_cell BK141.out 0).trans rfl;have hcz57_1 : wc.cell? ⟨gb141,1,none⟩ = some (.float .f64 a1_1):=(blk_cell BK141.out 1).trans rfl;have hcz57_2 : wc.cell? ⟨gb141,2,none⟩ = some (.float .f64 a1_2):=(blk_cell BK141.out 2).trans rfl;have hcz57_3 : wc.cell? ⟨gb141,3,none⟩ = some (.float .f64 a1_3):=(blk_cell BK141.out 3).trans rfl;have hcz57_4 : wc.cell? ⟨gb141,4,none⟩ = some (.float .f64 a1_4):=(blk_cell BK141.out 4).trans rfl;have hcz57_5 : wc.cell? ⟨gb141,5,none⟩ = some (.float .f64 a1_5):=(blk_cell BK141.out 5).trans rfl;have hcz57_6 : wc.cell? ⟨gb141,6,none⟩ = some (.float .f64 a1_6):=(blk_cell BK141.out 6).trans rfl;have hfz57_0:=blk_frozen BK141.out 0;have hfz57_1:=blk_frozen BK141.out 1;have hfz57_2:=blk_frozen BK141.out 2;have hfz57_3:=blk_frozen BK141.out 3;have hfz57_4:=blk_frozen BK141.out 4;have hfz57_5:=blk_frozen BK141.out 5;have hfz57_6:=blk_frozen BK141.out 6;have hnb58:=NB140_142.out;have hnc58:=NB142_140.out;have hcz59_0 : wc.cell? ⟨gb140,0,none⟩ = some (.int .i64 a0_0):=(blk_cell BK140.out 0).trans rfl;have hcz59_1 : wc.cell? ⟨gb140,1,none⟩ = some (.float .f64 a0_1):=(blk_cell BK140.out 1).trans rfl;have hcz59_2 : wc.cell? ⟨gb140,2,none⟩ = some (.float .f64 a0_2):=(blk_cell BK140.out 2).trans rfl
    have hcz59_3 : wc.cell? ⟨gb140,3,none⟩ = some (.float .f64 a0_3):=(blk_cell BK140.out 3).trans rfl;have hcz59_4 : wc.cell? ⟨gb140,4,none⟩ = some (.float .f64 a0_4):=(blk_cell BK140.out 4).trans rfl;have hcz59_5 : wc.cell? ⟨gb140,5,none⟩ = some (.float .f64 a0_5):=(blk_cell BK140.out 5).trans rfl;have hcz59_6 : wc.cell? ⟨gb140,6,none⟩ = some (.float .f64 a0_6):=(blk_cell BK140.out 6).trans rfl;have hfz59_0:=blk_frozen BK140.out 0;have hfz59_1:=blk_frozen BK140.out 1;have hfz59_2:=blk_frozen BK140.out 2;have hfz59_3:=blk_frozen BK140.out 3;have hfz59_4:=blk_frozen BK140.out 4;have hfz59_5:=blk_frozen BK140.out 5;have hfz59_6:=blk_frozen BK140.out 6
    go_upto_if 54 with (first|((with_reducible refine gate_dst (N:=6) rfl ?_);refine box_event ?hg (N:=6) ?hd (cs:=#[.int .i64 0,.float .f64 0,.float .f64 0,.float .f64 0,.float .f64 0,.float .f64 0,.float .f64 0]) (t:=26) ?hr ?_;(case hd=>rfl);(case hg=>rfl);(case hr=>first|(go_simp;done)|(go_simp;rfl));intro gb145 hg w60 hbox hb;have n0_:=Aside0.mk (blk_below (g:=gb140) (o:=.cells #[.int .i64 a0_0,.float .f64 a0_1,.float .f64 a0_2,.float .f64 a0_3,.float .f64 a0_4,.float .f64 a0_5,.float .f64 a0_6] 26 (0,0)) (by (with_reducible repeat (first|refine blk_drewN ?_ _|refine blk_drew ?_|refine blk_alloc ?_ _));exact BK140.out) hb);have n1_:=Aside0.mk (blk_below (g:=gb141) (o:=.cells #[.int .i64 a1_0,.float .f64 a1_1,.float .f64 a1_2,.float .f64 a1_3,.float .f64 a1_4,.float .f64 a1_5,.float .f64 a1_6] 26 (0,0)) (by (with_reducible repeat (first|refine blk_drewN ?_ _|refine blk_drew ?_|refine blk_alloc ?_ _));exact BK141.out) hb);have n2_:=Aside0.mk (blk_below (g:=gb142) (o:=.cells #[.int .i64 0,.float .f64 0,.float .f64 0,.float .f64 0,.float .f64 0,.float .f64 0,.float .f64 0] 26 (0,0)) (by (with_reducible repeat (first|refine blk_drewN ?_ _|refine blk_drew ?_|refine blk_alloc ?_ _));exact BK142.out) hb);have n3_:=Aside0.mk (below_step (by repeat (first|(with_reducible first|exact HB.out|apply below_alloc|apply pw_below_drewN|apply below_drew1|refine below_set ?_ GE140.out|refine below_set ?_ GE141.out|refine below_set ?_ GE142.out)|exact HB.out)) hb);have n4_:=Aside0.mk (hbox);have n5_:=Aside0.mk ((by rw [hg];exact (below_size (by repeat (first|(with_reducible first|exact HB.out|apply below_alloc|apply pw_below_drewN|apply below_drew1|refine below_set ?_ GE140.out|refine below_set ?_ GE141.out|refine below_set ?_ GE142.out)|exact HB.out))) : w.heap.size ≤ gb145));have n6_:=Aside0.mk ((by rw [hg];exact (below_size (by repeat (first|(with_reducible first|exact HB.out|apply below_alloc|apply pw_below_drewN|apply below_drew1|refine below_set ?_ GE140.out|refine below_set ?_ GE141.out|refine below_set ?_ GE142.out)|exact HB.out))) : w.heap.size ≤ gb145));have n7_:=Aside0.mk ((by rw [hg];exact Nat.ne_of_lt (blk_lt (g:=gb140) (o:=.cells #[.int .i64 a0_0,.float .f64 a0_1,.float .f64 a0_2,.float .f64 a0_3,.float .f64 a0_4,.float .f64 a0_5,.float .f64 a0_6] 26 (0,0)) (by (with_reducible repeat (first|refine blk_drewN ?_ _|refine blk_drew ?_|refine blk_alloc ?_ _));exact BK140.out)) : gb140 ≠ gb145));have n8_:=Aside0.mk ((by rw [hg];exact Nat.ne_of_gt (blk_lt (g:=gb140) (o:=.cells #[.int .i64 a0_0,.float .f64 a0_1,.float .f64 a0_2,.float .f64 a0_3,.float .f64 a0_4,.float .f64 a0_5,.float .f64 a0_6] 26 (0,0)) (by (with_reducible repeat (first|refine blk_drewN ?_ _|refine blk_drew ?_|refine blk_alloc ?_ _));exact BK140.out)) : gb145 ≠ gb140));have n9_:=Aside0.mk ((by rw [hg];exact Nat.ne_of_lt (blk_lt (g:=gb141) (o:=.cells #[.int .i64 a1_0,.float .f64 a1_1,.float .f64 a1_2,.float .f64 a1_3,.float .f64 a1_4,.float .f64 a1_5,.float .f64 a1_6] 26 (0,0)) (by (with_reducible repeat (first|refine blk_drewN ?_ _|refine blk_drew ?_|refine blk_alloc ?_ _));exact BK141.out)) : gb141 ≠ gb145));have n10_:=Aside0.mk ((by rw [hg];exact Nat.ne_of_gt (blk_lt (g:=gb141) (o:=.cells #[.int .i64 a1_0,.float .f64 a1_1,.float .f64 a1_2,.float .f64 a1_3,.float .f64 a1_4,.float .f64 a1_5,.float .f64 a1_6] 26 (0,0)) (by (with_reducible repeat (first|refine blk_drewN ?_ _|refine blk_drew ?_|refine blk_alloc ?_ _));exact BK141.out)) : gb145 ≠ gb141));have n11_:=Aside0.mk ((by rw [hg];exact Nat.ne_of_lt (blk_lt (g:=gb142) (o:=.cells #[.int .i64 0,.float .f64 0,.float .f64 0,.float .f64 0,.float .f64 0,.float .f64 0,.float .f64 0] 26 (0,0)) (by (with_reducible repeat (first|refine blk_drewN ?_ _|refine blk_drew ?_|refine blk_alloc ?_ _));exact BK142.out)) : gb142 ≠ gb145));have n12_:=Aside0.mk ((by rw [hg];exact Nat.ne_of_gt (blk_lt (g:=gb142) (o:=.cells #[.int .i64 0,.float .f64 0,.float .f64 0,.float .f64 0,.float .f64 0,.float .f64 0,.float .f64 0] 26 (0,0)) (by (with_reducible repeat (first|refine blk_drewN ?_ _|refine blk_drew ?_|refine blk_alloc ?_ _));exact BK142.out)) : gb145 ≠ gb142));clear BK140;clear BK141;clear BK142;clear HB;have BK140:=n0_;have BK141:=n1_;have BK142:=n2_;have HB:=n3_;have BK145:=n4_;have GW145:=n5_;have GE145:=n6_;have NB140_145:=n7_;have NB145_140:=n8_;have NB141_145:=n9_;have NB145_141:=n10_;have NB142_145:=n11_;have NB145_142:=n12_;clear n0_ n1_ n2_ n3_ n4_ n5_ n6_ n7_ n8_ n9_ n10_ n11_ n12_;clear hb hbox hg;have hnb61:=NB145_140.out;have hnc61:=NB140_145.out;have hnb62:=NB145_141.out;have hnc62:=NB141_145.out;have hnb63:=NB145_142.out;have hnc63:=NB142_145.out;have hcz64_0 : w60.cell? ⟨gb145,0,none⟩ = some (.int .i64 0):=(blk_cell BK145.out 0).trans rfl;have hcz64_1 : w60.cell? ⟨gb145,1,none⟩ = some (.float .f64 0):=(blk_cell BK145.out 1).trans rfl;have hcz64_2 : w60.cell? ⟨gb145,2,none⟩ = some (.float .f64 0):=(blk_cell BK145.out 2).trans rfl;have hcz64_3 : w60.cell? ⟨gb145,3,none⟩ = some (.float .f64 0):=(blk_cell BK145.out 3).trans rfl;have hcz64_4 : w60.cell? ⟨gb145,4,none⟩ = some (.float .f64 0):=(blk_cell BK145.out 4).trans rfl;have hcz64_5 : w60.cell? ⟨gb145,5,none⟩ = some (.float .f64 0):=(blk_cell BK145.out 5).trans rfl;have hcz64_6 : w60.cell? ⟨gb145,6,none⟩ = some (.float .f64 0):=(blk_cell BK145.out 6).trans rfl;have hfz64_0:=blk_frozen BK145.out 0;have hfz64_1:=blk_frozen BK145.out 1;have hfz64_2:=blk_frozen BK145.out 2;have hfz64_3:=blk_frozen BK145.out 3;have hfz64_4:=blk_frozen BK145.out 4;have hfz64_5:=blk_frozen BK145.out 5;have hfz64_6:=blk_frozen BK145.out 6;have hcz65_0 : w60.cell? ⟨gb140,0,none⟩ = some (.int .i64 a0_0):=(blk_cell BK140.out 0).trans rfl;have hcz65_1 : w60.cell? ⟨gb140,1,none⟩ = some (.float .f64 a0_1):=(blk_cell BK140.out 1).trans rfl;have hcz65_2 : w60.cell? ⟨gb140,2,none⟩ = some (.float .f64 a0_2):=(blk_cell BK140.out 2).trans rfl;have hcz65_3 : w60.cell? ⟨gb140,3,none⟩ = some (.float .f64 a0_3):=(blk_cell BK140.out 3).trans rfl;have hcz65_4 : w60.cell? ⟨gb140,4,none⟩ = some (.float .f64 a0_4):=(blk_cell BK140.out 4).trans rfl;have hcz65_5 : w60.cell? ⟨gb140,5,none⟩ = some (.float .f64 a0_5):=(blk_cell BK140.out 5).trans rfl;have hcz65_6 : w60.cell? ⟨gb140,6,none⟩ = some (.float .f64 a0_6):=(blk_cell BK140.out 6).trans rfl;have hfz65_0:=blk_frozen BK140.out 0;have hfz65_1:=blk_frozen BK140.out 1;have hfz65_2:=blk_frozen BK140.out 2;have hfz65_3:=blk_frozen BK140.out 3;have hfz65_4:=blk_frozen BK140.out 4;have hfz65_5:=blk_frozen BK140.out 5;have hfz65_6:=blk_frozen BK140.out 6;have hcz66_0 : w60.cell? ⟨gb141,0,none⟩ = some (.int .i64 a1_0):=(blk_cell BK141.out 0).trans rfl;have hcz66_1 : w60.cell? ⟨gb141,1,none⟩ = some (.float .f64 a1_1):=(blk_cell BK141.out 1).trans rfl;have hcz66_2 : w60.cell? ⟨gb141,2,none⟩ = some (.float .f64 a1_2):=(blk_cell BK141.out 2).trans rfl;have hcz66_3 : w60.cell? ⟨gb141,3,none⟩ = some (.float .f64 a1_3):=(blk_cell BK141.out 3).trans rfl;have hcz66_4 : w60.cell? ⟨gb141,4,none⟩ = some (.float .f64 a1_4):=(blk_cell BK141.out 4).trans rfl;have hcz66_5 : w60.cell? ⟨gb141,5,none⟩ = some (.float .f64 a1_5):=(blk_cell BK141.out 5).trans rfl;have hcz66_6 : w60.cell? ⟨gb141,6,none⟩ = some (.float .f64 a1_6):=(blk_cell BK141.out 6).trans rfl;have hfz66_0:=blk_frozen BK141.out 0;have hfz66_1:=blk_frozen BK141.out 1;have hfz66_2:=blk_frozen BK141.out 2;have hfz66_3:=blk_frozen BK141.out 3;have hfz66_4:=blk_frozen BK141.out 4;have hfz66_5:=blk_frozen BK141.out 5;have hfz66_6:=blk_frozen BK141.out 6))
    (try simp only [Act.put,List.setIfInBounds_toArray,List.set_cons_zero,List.set_cons_succ])
    go_cut [] (fun wc=>∃ (kq : Nat) (x146001_53 : Nat),Aside0 (tally_Join.j1 kq a0_0 a0_1 a0_2 a0_3 a0_4 a0_5 a0_6 a1_0 a1_1 a1_2 a1_3 a1_4 a1_5 a1_6 (wrap64 (a0_0 + a1_0)) x146001_53 a0_2 (fop .add a0_3 a1_3) 0 0 0 = some (r1,r2,r3,r4,r5,r6,r7,r8)) ∧ Aside0 (kq ≤ kj2) ∧ Aside0 (wc.heap[gb140]? = some (.cells #[.int .i64 a0_0,.float .f64 a0_1,.float .f64 a0_2,.float .f64 a0_3,.float .f64 a0_4,.float .f64 a0_5,.float .f64 a0_6] 26 (0,0))) ∧ Aside0 (wc.heap[gb141]? = some (.cells #[.int .i64 a1_0,.float .f64 a1_1,.float .f64 a1_2,.float .f64 a1_3,.float .f64 a1_4,.float .f64 a1_5,.float .f64 a1_6] 26 (0,0))) ∧ Aside0 (wc.heap[gb142]? = some (.cells #[.int .i64 0,.float .f64 0,.float .f64 0,.float .f64 0,.float .f64 0,.float .f64 0,.float .f64 0] 26 (0,0))) ∧ Aside0 (wc.heap[gb145]? = some (.cells #[.int .i64 (wrap64 (a0_0 + a1_0)),.float .f64 x146001_53,.float .f64 a0_2,.float .f64 (fop .add a0_3 a1_3),.float .f64 0,.float .f64 0,.float .f64 0] 26 (0,0))) ∧ Aside0 (Below w.heap.size w wc))
    case first =>
     have H:=HC54.out;clear HC54
     by_cases c67 : (FloatKind.f64.format.order a1_1 a0_1 == some .lt) = true
     ·rw [if_pos c67] at H
      have c67b0 : (FloatKind.f64.format.order a1_1 a0_1 == some .lt) = true:=c67
      (try (have c67b1 : decide (FloatKind.f64.format.order a1_1 a0_1 = some .lt) = true:=by simpa using c67))
      (try (have c67b2 : (FloatKind.f64.format.order a1_1 a0_1 == some .lt) = true:=by simpa using c67))
      clear c67
      (first|rw [c67b0]|(simp only [i64_w,i32_w];rw [c67b0])|skip)
      have H':=Aside0.mk H;clear H;have hnb68:=NB141_140.out;have hnc68:=NB140_141.out;have hnb69:=NB141_142.out;have hnc69:=NB142_141.out;have hnb70:=NB141_145.out;have hnc70:=NB145_141.out;have hcz71_0 : w60.cell? ⟨gb141,0,none⟩ = some (.int .i64 a1_0):=(blk_cell BK141.out 0).trans rfl;have hcz71_1 : w60.cell? ⟨gb141,1,none⟩ = some (.float .f64 a1_1):=(blk_cell BK141.out 1).trans rfl;have hcz71_2 : w60.cell? ⟨gb141,2,none⟩ = some (.float .f64 a1_2):=(blk_cell BK141.out 2).trans rfl;have hcz71_3 : w60.cell? ⟨gb141,3,none⟩ = some (.float .f64 a1_3):=(blk_cell BK141.out 3).trans rfl;have hcz71_4 : w60.cell? ⟨gb141,4,none⟩ = some (.float .f64 a1_4):=(blk_cell BK141.out 4).trans rfl;have hcz71_5 : w60.cell? ⟨gb141,5,none⟩ = some (.float .f64 a1_5):=(blk_cell BK141.out 5).trans rfl;have hcz71_6 : w60.cell? ⟨gb141,6,none⟩ = some (.float .f64 a1_6):=(blk_cell BK141.out 6).trans rfl;have hfz71_0:=blk_frozen BK141.out 0;have hfz71_1:=blk_frozen BK141.out 1;have hfz71_2:=blk_frozen BK141.out 2;have hfz71_3:=blk_frozen BK141.out 3;have hfz71_4:=blk_frozen BK141.out 4;have hfz71_5:=blk_frozen BK141.out 5;have hfz71_6:=blk_frozen BK141.out 6;have hnb72:=NB145_140.out;have hnc72:=NB140_145.out;have hnb73:=NB145_142.out;have hnc73:=NB142_145.out;have hcz74_0 : w60.cell? ⟨gb145,0,none⟩ = some (.int .i64 0):=(blk_cell BK145.out 0).trans rfl;have hcz74_1 : w60.cell? ⟨gb145,1,none⟩ = some (.float .f64 0):=(blk_cell BK145.out 1).trans rfl;have hcz74_2 : w60.cell? ⟨gb145,2,none⟩ = some (.float .f64 0):=(blk_cell BK145.out 2).trans rfl
      have hcz74_3 : w60.cell? ⟨gb145,3,none⟩ = some (.float .f64 0):=(blk_cell BK145.out 3).trans rfl;have hcz74_4 : w60.cell? ⟨gb145,4,none⟩ = some (.float .f64 0):=(blk_cell BK145.out 4).trans rfl;have hcz74_5 : w60.cell? ⟨gb145,5,none⟩ = some (.float .f64 0):=(blk_cell BK145.out 5).trans rfl;have hcz74_6 : w60.cell? ⟨gb145,6,none⟩ = some (.float .f64 0):=(blk_cell BK145.out 6).trans rfl;have hfz74_0:=blk_frozen BK145.out 0;have hfz74_1:=blk_frozen BK145.out 1;have hfz74_2:=blk_frozen BK145.out 2;have hfz74_3:=blk_frozen BK145.out 3;have hfz74_4:=blk_frozen BK145.out 4;have hfz74_5:=blk_frozen BK145.out 5;have hfz74_6:=blk_frozen BK145.out 6;go_wp2
      go_meet
      case rel=>exact ⟨_,(a1_1),(by first|exact H'|(subst_vars;exact H')),⟨by have:=HJ2.out;first|omega|exact Nat.le_refl _⟩,⟨by (with_reducible repeat (first|refine blk_drewN ?_ _|refine blk_drew ?_|refine blk_alloc ?_ _));refine blk_far ?_ NB140_145.out _;(with_reducible repeat (first|refine blk_drewN ?_ _|refine blk_drew ?_|refine blk_alloc ?_ _));refine blk_far ?_ NB140_145.out _;(with_reducible repeat (first|refine blk_drewN ?_ _|refine blk_drew ?_|refine blk_alloc ?_ _));refine blk_far ?_ NB140_145.out _;(with_reducible repeat (first|refine blk_drewN ?_ _|refine blk_drew ?_|refine blk_alloc ?_ _));refine blk_far ?_ NB140_145.out _;(with_reducible repeat (first|refine blk_drewN ?_ _|refine blk_drew ?_|refine blk_alloc ?_ _));refine blk_far ?_ NB140_145.out _;(with_reducible repeat (first|refine blk_drewN ?_ _|refine blk_drew ?_|refine blk_alloc ?_ _));refine blk_far ?_ NB140_145.out _;(with_reducible repeat (first|refine blk_drewN ?_ _|refine blk_drew ?_|refine blk_alloc ?_ _));refine blk_far ?_ NB140_145.out _;(with_reducible repeat (first|refine blk_drewN ?_ _|refine blk_drew ?_|refine blk_alloc ?_ _));refine blk_far ?_ NB140_145.out _;(with_reducible repeat (first|refine blk_drewN ?_ _|refine blk_drew ?_|refine blk_alloc ?_ _));exact BK140.out⟩,⟨by (with_reducible repeat (first|refine blk_drewN ?_ _|refine blk_drew ?_|refine blk_alloc ?_ _));refine blk_far ?_ NB141_145.out _;(with_reducible repeat (first|refine blk_drewN ?_ _|refine blk_drew ?_|refine blk_alloc ?_ _));refine blk_far ?_ NB141_145.out _;(with_reducible repeat (first|refine blk_drewN ?_ _|refine blk_drew ?_|refine blk_alloc ?_ _));refine blk_far ?_ NB141_145.out _;(with_reducible repeat (first|refine blk_drewN ?_ _|refine blk_drew ?_|refine blk_alloc ?_ _));refine blk_far ?_ NB141_145.out _;(with_reducible repeat (first|refine blk_drewN ?_ _|refine blk_drew ?_|refine blk_alloc ?_ _));refine blk_far ?_ NB141_145.out _;(with_reducible repeat (first|refine blk_drewN ?_ _|refine blk_drew ?_|refine blk_alloc ?_ _));refine blk_far ?_ NB141_145.out _;(with_reducible repeat (first|refine blk_drewN ?_ _|refine blk_drew ?_|refine blk_alloc ?_ _));refine blk_far ?_ NB141_145.out _;(with_reducible repeat (first|refine blk_drewN ?_ _|refine blk_drew ?_|refine blk_alloc ?_ _));refine blk_far ?_ NB141_145.out _;(with_reducible repeat (first|refine blk_drewN ?_ _|refine blk_drew ?_|refine blk_alloc ?_ _));exact BK141.out⟩,⟨by (with_reducible repeat (first|refine blk_drewN ?_ _|refine blk_drew ?_|refine blk_alloc ?_ _));refine blk_far ?_ NB142_145.out _;(with_reducible repeat (first|refine blk_drewN ?_ _|refine blk_drew ?_|refine blk_alloc ?_ _));refine blk_far ?_ NB142_145.out _;(with_reducible repeat (first|refine blk_drewN ?_ _|refine blk_drew ?_|refine blk_alloc ?_ _));refine blk_far ?_ NB142_145.out _;(with_reducible repeat (first|refine blk_drewN ?_ _|refine blk_drew ?_|refine blk_alloc ?_ _));refine blk_far ?_ NB142_145.out _;(with_reducible repeat (first|refine blk_drewN ?_ _|refine blk_drew ?_|refine blk_alloc ?_ _));refine blk_far ?_ NB142_145.out _;(with_reducible repeat (first|refine blk_drewN ?_ _|refine blk_drew ?_|refine blk_alloc ?_ _));refine blk_far ?_ NB142_145.out _;(with_reducible repeat (first|refine blk_drewN ?_ _|refine blk_drew ?_|refine blk_alloc ?_ _));refine blk_far ?_ NB142_145.out _;(with_reducible repeat (first|refine blk_drewN ?_ _|refine blk_drew ?_|refine blk_alloc ?_ _));refine blk_far ?_ NB142_145.out _;(with_reducible repeat (first|refine blk_drewN ?_ _|refine blk_drew ?_|refine blk_alloc ?_ _));exact BK142.out⟩,⟨by (with_reducible repeat (first|refine blk_drewN ?_ _|refine blk_drew ?_|refine blk_alloc ?_ _));refine blk_put (cs:=#[.int .i64 (wrap64 (a0_0 + a1_0)),.float .f64 a0_1,.float .f64 a0_2,.float .f64 (fop .add a0_3 a1_3),.float .f64 0,.float .f64 0,.float .f64 0]) ?_ 1 _ (by first|rfl|(simp only [px_pos,px_ne];rfl)|simp [px_pos,px_ne]);(with_reducible repeat (first|refine blk_drewN ?_ _|refine blk_drew ?_|refine blk_alloc ?_ _));refine blk_put (cs:=#[.int .i64 (wrap64 (a0_0 + a1_0)),.float .f64 a0_1,.float .f64 a0_2,.float .f64 (fop .add a0_3 a1_3),.float .f64 0,.float .f64 0,.float .f64 0]) ?_ 6 _ (by first|rfl|(simp only [px_pos,px_ne];rfl)|simp [px_pos,px_ne]);(with_reducible repeat (first|refine blk_drewN ?_ _|refine blk_drew ?_|refine blk_alloc ?_ _));refine blk_put (cs:=#[.int .i64 (wrap64 (a0_0 + a1_0)),.float .f64 a0_1,.float .f64 a0_2,.float .f64 (fop .add a0_3 a1_3),.float .f64 0,.float .f64 0,.float .f64 0]) ?_ 5 _ (by first|rfl|(simp only [px_pos,px_ne];rfl)|simp [px_pos,px_ne]);(with_reducible repeat (first|refine blk_drewN ?_ _|refine blk_drew ?_|refine blk_alloc ?_ _));refine blk_put (cs:=#[.int .i64 (wrap64 (a0_0 + a1_0)),.float .f64 a0_1,.float .f64 a0_2,.float .f64 (fop .add a0_3 a1_3),.float .f64 0,.float .f64 0,.float .f64 0]) ?_ 4 _ (by first|rfl|(simp only [px_pos,px_ne];rfl)|simp [px_pos,px_ne]);(with_reducible repeat (first|refine blk_drewN ?_ _|refine blk_drew ?_|refine blk_alloc ?_ _));refine blk_put (cs:=#[.int .i64 (wrap64 (a0_0 + a1_0)),.float .f64 a0_1,.float .f64 a0_2,.float .f64 0,.float .f64 0,.float .f64 0,.float .f64 0]) ?_ 3 _ (by first|rfl|(simp only [px_pos,px_ne];rfl)|simp [px_pos,px_ne]);(with_reducible repeat (first|refine blk_drewN ?_ _|refine blk_drew ?_|refine blk_alloc ?_ _));refine blk_put (cs:=#[.int .i64 (wrap64 (a0_0 + a1_0)),.float .f64 a0_1,.float .f64 0,.float .f64 0,.float .f64 0,.float .f64 0,.float .f64 0]) ?_ 2 _ (by first|rfl|(simp only [px_pos,px_ne];rfl)|simp [px_pos,px_ne]);(with_reducible repeat (first|refine blk_drewN ?_ _|refine blk_drew ?_|refine blk_alloc ?_ _));refine blk_put (cs:=#[.int .i64 (wrap64 (a0_0 + a1_0)),.float .f64 0,.float .f64 0,.float .f64 0,.float .f64 0,.float .f64 0,.float .f64 0]) ?_ 1 _ (by first|rfl|(simp only [px_pos,px_ne];rfl)|simp [px_pos,px_ne]);(with_reducible repeat (first|refine blk_drewN ?_ _|refine blk_drew ?_|refine blk_alloc ?_ _));refine blk_put (cs:=#[.int .i64 0,.float .f64 0,.float .f64 0,.float .f64 0,.float .f64 0,.float .f64 0,.float .f64 0]) ?_ 0 _ (by first|rfl|(simp only [px_pos,px_ne];rfl)|simp [px_pos,px_ne]);(with_reducible repeat (first|refine blk_drewN ?_ _|refine blk_drew ?_|refine blk_alloc ?_ _));exact BK145.out⟩,⟨by repeat (first|(with_reducible first|exact HB.out|apply below_alloc|apply pw_below_drewN|apply below_drew1|refine below_set ?_ GE140.out|refine below_set ?_ GE141.out|refine below_set ?_ GE142.out|refine below_set ?_ GE145.out)|exact HB.out)⟩⟩
     rw [if_neg c67] at H
     have c67b0 : (FloatKind.f64.format.order a1_1 a0_1 == some .lt) = false:=by simpa using c67
     (try (have c67b1 : decide (FloatKind.f64.format.order a1_1 a0_1 = some .lt) = false:=by simpa using c67))
     (try (have c67b2 : (FloatKind.f64.format.order a1_1 a0_1 == some .lt) = false:=by simpa using c67))
     (try (have c67b3 : ¬ (FloatKind.f64.format.order a1_1 a0_1 = some .lt):=by simpa using c67))
     clear c67
     (first|rw [c67b0]|(simp only [i64_w,i32_w];rw [c67b0])|skip)
     have H':=Aside0.mk H;clear H;go_wp2
     go_meet
     case rel=>exact ⟨_,(a0_1),(by first|exact H'|(subst_vars;exact H')),⟨by have:=HJ2.out;first|omega|exact Nat.le_refl _⟩,⟨by (with_reducible repeat (first|refine blk_drewN ?_ _|refine blk_drew ?_|refine blk_alloc ?_ _));refine blk_far ?_ NB140_145.out _;(with_reducible repeat (first|refine blk_drewN ?_ _|refine blk_drew ?_|refine blk_alloc ?_ _));refine blk_far ?_ NB140_145.out _;(with_reducible repeat (first|refine blk_drewN ?_ _|refine blk_drew ?_|refine blk_alloc ?_ _));refine blk_far ?_ NB140_145.out _;(with_reducible repeat (first|refine blk_drewN ?_ _|refine blk_drew ?_|refine blk_alloc ?_ _));refine blk_far ?_ NB140_145.out _;(with_reducible repeat (first|refine blk_drewN ?_ _|refine blk_drew ?_|refine blk_alloc ?_ _));refine blk_far ?_ NB140_145.out _;(with_reducible repeat (first|refine blk_drewN ?_ _|refine blk_drew ?_|refine blk_alloc ?_ _));refine blk_far ?_ NB140_145.out _;(with_reducible repeat (first|refine blk_drewN ?_ _|refine blk_drew ?_|refine blk_alloc ?_ _));refine blk_far ?_ NB140_145.out _;(with_reducible repeat (first|refine blk_drewN ?_ _|refine blk_drew ?_|refine blk_alloc ?_ _));exact BK140.out⟩,⟨by (with_reducible repeat (first|refine blk_drewN ?_ _|refine blk_drew ?_|refine blk_alloc ?_ _));refine blk_far ?_ NB141_145.out _;(with_reducible repeat (first|refine blk_drewN ?_ _|refine blk_drew ?_|refine blk_alloc ?_ _));refine blk_far ?_ NB141_145.out _;(with_reducible repeat (first|refine blk_drewN ?_ _|refine blk_drew ?_|refine blk_alloc ?_ _));refine blk_far ?_ NB141_145.out _;(with_reducible repeat (first|refine blk_drewN ?_ _|refine blk_drew ?_|refine blk_alloc ?_ _));refine blk_far ?_ NB141_145.out _;(with_reducible repeat (first|refine blk_drewN ?_ _|refine blk_drew ?_|refine blk_alloc ?_ _));refine blk_far ?_ NB141_145.out _;(with_reducible repeat (first|refine blk_drewN ?_ _|refine blk_drew ?_|refine blk_alloc ?_ _));refine blk_far ?_ NB141_145.out _;(with_reducible repeat (first|refine blk_drewN ?_ _|refine blk_drew ?_|refine blk_alloc ?_ _));refine blk_far ?_ NB141_145.out _;(with_reducible repeat (first|refine blk_drewN ?_ _|refine blk_drew ?_|refine blk_alloc ?_ _));exact BK141.out⟩,⟨by (with_reducible repeat (first|refine blk_drewN ?_ _|refine blk_drew ?_|refine blk_alloc ?_ _));refine blk_far ?_ NB142_145.out _;(with_reducible repeat (first|refine blk_drewN ?_ _|refine blk_drew ?_|refine blk_alloc ?_ _));refine blk_far ?_ NB142_145.out _;(with_reducible repeat (first|refine blk_drewN ?_ _|refine blk_drew ?_|refine blk_alloc ?_ _));refine blk_far ?_ NB142_145.out _;(with_reducible repeat (first|refine blk_drewN ?_ _|refine blk_drew ?_|refine blk_alloc ?_ _));refine blk_far ?_ NB142_145.out _;(with_reducible repeat (first|refine blk_drewN ?_ _|refine blk_drew ?_|refine blk_alloc ?_ _));refine blk_far ?_ NB142_145.out _;(with_reducible repeat (first|refine blk_drewN ?_ _|refine blk_drew ?_|refine blk_alloc ?_ _));refine blk_far ?_ NB142_145.out _;(with_reducible repeat (first|refine blk_drewN ?_ _|refine blk_drew ?_|refine blk_alloc ?_ _));refine blk_far ?_ NB142_145.out _;(with_reducible repeat (first|refine blk_drewN ?_ _|refine blk_drew ?_|refine blk_alloc ?_ _));exact BK142.out⟩,⟨by (with_reducible repeat (first|refine blk_drewN ?_ _|refine blk_drew ?_|refine blk_alloc ?_ _));refine blk_put (cs:=#[.int .i64 (wrap64 (a0_0 + a1_0)),.float .f64 a0_1,.float .f64 a0_2,.float .f64 (fop .add a0_3 a1_3),.float .f64 0,.float .f64 0,.float .f64 0]) ?_ 6 _ (by first|rfl|(simp only [px_pos,px_ne];rfl)|simp [px_pos,px_ne]);(with_reducible repeat (first|refine blk_drewN ?_ _|refine blk_drew ?_|refine blk_alloc ?_ _));refine blk_put (cs:=#[.int .i64 (wrap64 (a0_0 + a1_0)),.float .f64 a0_1,.float .f64 a0_2,.float .f64 (fop .add a0_3 a1_3),.float .f64 0,.float .f64 0,.float .f64 0]) ?_ 5 _ (by first|rfl|(simp only [px_pos,px_ne];rfl)|simp [px_pos,px_ne]);(with_reducible repeat (first|refine blk_drewN ?_ _|refine blk_drew ?_|refine blk_alloc ?_ _));refine blk_put (cs:=#[.int .i64 (wrap64 (a0_0 + a1_0)),.float .f64 a0_1,.float .f64 a0_2,.float .f64 (fop .add a0_3 a1_3),.float .f64 0,.float .f64 0,.float .f64 0]) ?_ 4 _ (by first|rfl|(simp only [px_pos,px_ne];rfl)|simp [px_pos,px_ne]);(with_reducible repeat (first|refine blk_drewN ?_ _|refine blk_drew ?_|refine blk_alloc ?_ _));refine blk_put (cs:=#[.int .i64 (wrap64 (a0_0 + a1_0)),.float .f64 a0_1,.float .f64 a0_2,.float .f64 0,.float .f64 0,.float .f64 0,.float .f64 0]) ?_ 3 _ (by first|rfl|(simp only [px_pos,px_ne];rfl)|simp [px_pos,px_ne]);(with_reducible repeat (first|refine blk_drewN ?_ _|refine blk_drew ?_|refine blk_alloc ?_ _));refine blk_put (cs:=#[.int .i64 (wrap64 (a0_0 + a1_0)),.float .f64 a0_1,.float .f64 0,.float .f64 0,.float .f64 0,.float .f64 0,.float .f64 0]) ?_ 2 _ (by first|rfl|(simp only [px_pos,px_ne];rfl)|simp [px_pos,px_ne]);(with_reducible repeat (first|refine blk_drewN ?_ _|refine blk_drew ?_|refine blk_alloc ?_ _));refine blk_put (cs:=#[.int .i64 (wrap64 (a0_0 + a1_0)),.float .f64 0,.float .f64 0,.float .f64 0,.float .f64 0,.float .f64 0,.float .f64 0]) ?_ 1 _ (by first|rfl|(simp only [px_pos,px_ne];rfl)|simp [px_pos,px_ne]);(with_reducible repeat (first|refine blk_drewN ?_ _|refine blk_drew ?_|refine blk_alloc ?_ _));refine blk_put (cs:=#[.int .i64 0,.float .f64 0,.float .f64 0,.float .f64 0,.float .f64 0,.float .f64 0,.float .f64 0]) ?_ 0 _ (by first|rfl|(simp only [px_pos,px_ne];rfl)|simp [px_pos,px_ne]);(with_reducible repeat (first|refine blk_drewN ?_ _|refine blk_drew ?_|refine blk_alloc ?_ _));exact BK145.out⟩,⟨by repeat (first|(with_reducible first|exact HB.out|apply below_alloc|apply pw_below_drewN|apply below_drew1|refine below_set ?_ GE140.out|refine below_set ?_ GE141.out|refine below_set ?_ GE142.out|refine below_set ?_ GE145.out)|exact HB.out)⟩⟩
    case rest =>
     clear HC54
     try clear c1
     try clear c2
     try clear p2
     try clear c3
     try clear c4
     try clear c5
     try clear c6
     try clear p6
     try clear c7
     try clear c8
     try clear c10
     try clear c11
     try clear c14
     try clear c17
     try clear c18
     try clear c21
     try clear c22
     try clear c23
     try clear c25
     try clear c25b0
     try clear c25b1
     try clear c26
     try clear c27
     try clear c29
     try clear c32
     try clear c32b0
     try clear c32b1
     try clear c33
     try clear c34
     try clear c36
     try clear c39
     try clear c39b0
     try clear c39b1
     try clear c40
     try clear c40b0
     try clear c41
     try clear c42
     try clear c43
     try clear c44
     try clear c47
     try clear c48
     try clear c49
     try clear c55
     try clear c56
     try clear c58
     try clear c61
     try clear c62
     try clear c63
     try clear p64
     try clear c67
     try clear c67b0
     try clear c67b1
     try clear c67b2
     try clear c68
     try clear c69
     try clear c70
     try clear c72
     try clear c73
     try clear hcz12_0
     try clear hcz12_1
     try clear hcz12_2
     try clear hcz12_3
     try clear hcz12_4
     try clear hcz12_5
     try clear hcz12_6
     try clear hcz15_0
     try clear hcz15_1
     try clear hcz15_2
     try clear hcz15_3
     try clear hcz15_4
     try clear hcz15_5
     try clear hcz15_6
     try clear hcz19_0
     try clear hcz19_1
     try clear hcz19_2
     try clear hcz19_3
     try clear hcz19_4
     try clear hcz19_5
     try clear hcz19_6
     try clear hcz24_0
     try clear hcz24_1
     try clear hcz24_2
     try clear hcz24_3
     try clear hcz24_4
     try clear hcz24_5
     try clear hcz24_6
     try clear hcz28_0
     try clear hcz28_1
     try clear hcz28_2
     try clear hcz28_3
     try clear hcz28_4
     try clear hcz28_5
     try clear hcz28_6
     try clear hcz30_0
     try clear hcz30_1
     try clear hcz30_2
     try clear hcz30_3
     try clear hcz30_4
     try clear hcz30_5
     try clear hcz30_6
     try clear hcz31_0
     try clear hcz31_1
     try clear hcz31_2
     try clear hcz31_3
     try clear hcz31_4
     try clear hcz31_5
     try clear hcz31_6
     try clear hcz35_0
     try clear hcz35_1
     try clear hcz35_2
     try clear hcz35_3
     try clear hcz35_4
     try clear hcz35_5
     try clear hcz35_6
     try clear hcz37_0
     try clear hcz37_1
     try clear hcz37_2
     try clear hcz37_3
     try clear hcz37_4
     try clear hcz37_5
     try clear hcz37_6
     try clear hcz38_0
     try clear hcz38_1
     try clear hcz38_2
     try clear hcz38_3
     try clear hcz38_4
     try clear hcz38_5
     try clear hcz38_6
     try clear hcz43_0
     try clear hcz43_1
     try clear hcz43_2
     try clear hcz43_3
     try clear hcz43_4
     try clear hcz43_5
     try clear hcz43_6
     try clear hcz45_0
     try clear hcz45_1
     try clear hcz45_2
     try clear hcz45_3
     try clear hcz45_4
     try clear hcz45_5
     try clear hcz45_6
     try clear hcz50_0
     try clear hcz50_1
     try clear hcz50_2
     try clear hcz50_3
     try clear hcz50_4
     try clear hcz50_5
     try clear hcz50_6
     try clear hcz51_0
     try clear hcz51_1
     try clear hcz51_2
     try clear hcz51_3
     try clear hcz51_4
     try clear hcz51_5
     try clear hcz51_6
     try clear hcz52_0
     try clear hcz52_1
     try clear hcz52_2
     try clear hcz52_3
     try clear hcz52_4
     try clear hcz52_5
     try clear hcz52_6
     try clear hcz53_0
     try clear hcz53_1
     try clear hcz53_2
     try clear hcz53_3
     try clear hcz53_4
     try clear hcz53_5
     try clear hcz53_6
     try clear hcz57_0
     try clear hcz57_1
     try clear hcz57_2
     try clear hcz57_3
     try clear hcz57_4
     try clear hcz57_5
     try clear hcz57_6
     try clear hcz59_0
     try clear hcz59_1
     try clear hcz59_2
     try clear hcz59_3
     try clear hcz59_4
     try clear hcz59_5
     try clear hcz59_6
     try clear hcz64_0
     try clear hcz64_1
     try clear hcz64_2
     try clear hcz64_3
     try clear hcz64_4
     try clear hcz64_5
     try clear hcz64_6
     try clear hcz65_0
     try clear hcz65_1
     try clear hcz65_2
     try clear hcz65_3
     try clear hcz65_4
     try clear hcz65_5
     try clear hcz65_6
     try clear hcz66_0
     try clear hcz66_1
     try clear hcz66_2
     try clear hcz66_3
     try clear hcz66_4
     try clear hcz66_5
     try clear hcz66_6
     try clear hcz71_0
     try clear hcz71_1
     try clear hcz71_2
     try clear hcz71_3
     try clear hcz71_4
     try clear hcz71_5
     try clear hcz71_6
     try clear hcz74_0
     try clear hcz74_1
     try clear hcz74_2
     try clear hcz74_3
     try clear hcz74_4
     try clear hcz74_5
     try clear hcz74_6
     try clear hfz12_0
     try clear hfz12_1
     try clear hfz12_2
     try clear hfz12_3
     try clear hfz12_4
     try clear hfz12_5
     try clear hfz12_6
     try clear hfz15_0
     try clear hfz15_1
     try clear hfz15_2
     try clear hfz15_3
     try clear hfz15_4
     try clear hfz15_5
     try clear hfz15_6
     try clear hfz19_0
     try clear hfz19_1
     try clear hfz19_2
     try clear hfz19_3
     try clear hfz19_4
     try clear hfz19_5
     try clear hfz19_6
     try clear hfz24_0
     try clear hfz24_1
     try clear hfz24_2
     try clear hfz24_3
     try clear hfz24_4
     try clear hfz24_5
     try clear hfz24_6
     try clear hfz28_0
     try clear hfz28_1
     try clear hfz28_2
     try clear hfz28_3
     try clear hfz28_4
     try clear hfz28_5
     try clear hfz28_6
     try clear hfz30_0
     try clear hfz30_1
     try clear hfz30_2
     try clear hfz30_3
     try clear hfz30_4
     try clear hfz30_5
     try clear hfz30_6
     try clear hfz31_0
     try clear hfz31_1
     try clear hfz31_2
     try clear hfz31_3
     try clear hfz31_4
     try clear hfz31_5
     try clear hfz31_6
     try clear hfz35_0
     try clear hfz35_1
     try clear hfz35_2
     try clear hfz35_3
     try clear hfz35_4
     try clear hfz35_5
     try clear hfz35_6
     try clear hfz37_0
     try clear hfz37_1
     try clear hfz37_2
     try clear hfz37_3
     try clear hfz37_4
     try clear hfz37_5
     try clear hfz37_6
     try clear hfz38_0
     try clear hfz38_1
     try clear hfz38_2
     try clear hfz38_3
     try clear hfz38_4
     try clear hfz38_5
     try clear hfz38_6
     try clear hfz43_0
     try clear hfz43_1
     try clear hfz43_2
     try clear hfz43_3
     try clear hfz43_4
     try clear hfz43_5
     try clear hfz43_6
     try clear hfz45_0
     try clear hfz45_1
     try clear hfz45_2
     try clear hfz45_3
     try clear hfz45_4
     try clear hfz45_5
     try clear hfz45_6
     try clear hfz50_0
     try clear hfz50_1
     try clear hfz50_2
     try clear hfz50_3
     try clear hfz50_4
     try clear hfz50_5
     try clear hfz50_6
     try clear hfz51_0
     try clear hfz51_1
     try clear hfz51_2
     try clear hfz51_3
     try clear hfz51_4
     try clear hfz51_5
     try clear hfz51_6
     try clear hfz52_0
     try clear hfz52_1
     try clear hfz52_2
     try clear hfz52_3
     try clear hfz52_4
     try clear hfz52_5
     try clear hfz52_6
     try clear hfz53_0
     try clear hfz53_1
     try clear hfz53_2
     try clear hfz53_3
     try clear hfz53_4
     try clear hfz53_5
     try clear hfz53_6
     try clear hfz57_0
     try clear hfz57_1
     try clear hfz57_2
     try clear hfz57_3
     try clear hfz57_4
     try clear hfz57_5
     try clear hfz57_6
     try clear hfz59_0
     try clear hfz59_1
     try clear hfz59_2
     try clear hfz59_3
     try clear hfz59_4
     try clear hfz59_5
     try clear hfz59_6
     try clear hfz64_0
     try clear hfz64_1
     try clear hfz64_2
     try clear hfz64_3
     try clear hfz64_4
     try clear hfz64_5
     try clear hfz64_6
     try clear hfz65_0
     try clear hfz65_1
     try clear hfz65_2
     try clear hfz65_3
     try clear hfz65_4
     try clear hfz65_5
     try clear hfz65_6
     try clear hfz66_0
     try clear hfz66_1
     try clear hfz66_2
     try clear hfz66_3
     try clear hfz66_4
     try clear hfz66_5
     try clear hfz66_6
     try clear hfz71_0
     try clear hfz71_1
     try clear hfz71_2
     try clear hfz71_3
     try clear hfz71_4
     try clear hfz71_5
     try clear hfz71_6
     try clear hfz74_0
     try clear hfz74_1
     try clear hfz74_2
     try clear hfz74_3
     try clear hfz74_4
     try clear hfz74_5
     try clear hfz74_6
     try clear p2
     obtain ⟨kq,x146001_53,HA,HJ53,BK140,BK141,BK142,BK145,HB⟩:=hcut
     cases kq with
     | zero=>exact absurd HA.out (by simp [tally_Join.j1])
     | succ kj53 =>
      have H:=HA.out;clear HA
      simp only [tally_Join.j1] at H
      have HC75:=Aside0.mk H;clear H;have hnb76:=NB141_140.out;have hnc76:=NB140_141.out;have hnb77:=NB141_142.out;have hnc77:=NB142_141.out;have hnb78:=NB141_145.out;have hnc78:=NB145_141.out;have hcz79_0 : wc.cell? ⟨gb141,0,none⟩ = some (.int .i64 a1_0):=(blk_cell BK141.out 0).trans rfl;have hcz79_1 : wc.cell? ⟨gb141,1,none⟩ = some (.float .f64 a1_1):=(blk_cell BK141.out 1).trans rfl;have hcz79_2 : wc.cell? ⟨gb141,2,none⟩ = some (.float .f64 a1_2):=(blk_cell BK141.out 2).trans rfl;have hcz79_3 : wc.cell? ⟨gb141,3,none⟩ = some (.float .f64 a1_3):=(blk_cell BK141.out 3).trans rfl;have hcz79_4 : wc.cell? ⟨gb141,4,none⟩ = some (.float .f64 a1_4):=(blk_cell BK141.out 4).trans rfl;have hcz79_5 : wc.cell? ⟨gb141,5,none⟩ = some (.float .f64 a1_5):=(blk_cell BK141.out 5).trans rfl;have hcz79_6 : wc.cell? ⟨gb141,6,none⟩ = some (.float .f64 a1_6):=(blk_cell BK141.out 6).trans rfl;have hfz79_0:=blk_frozen BK141.out 0;have hfz79_1:=blk_frozen BK141.out 1;have hfz79_2:=blk_frozen BK141.out 2;have hfz79_3:=blk_frozen BK141.out 3;have hfz79_4:=blk_frozen BK141.out 4;have hfz79_5:=blk_frozen BK141.out 5;have hfz79_6:=blk_frozen BK141.out 6;have hnb80:=NB145_140.out;have hnc80:=NB140_145.out;have hnb81:=NB145_142.out;have hnc81:=NB142_145.out;have hcz82_0 : wc.cell? ⟨gb145,0,none⟩ = some (.int .i64 (wrap64 (a0_0 + a1_0))):=(blk_cell BK145.out 0).trans rfl;have hcz82_1 : wc.cell? ⟨gb145,1,none⟩ = some (.float .f64 x146001_53):=(blk_cell BK145.out 1).trans rfl;have hcz82_2 : wc.cell? ⟨gb145,2,none⟩ = some (.float .f64 a0_2):=(blk_cell BK145.out 2).trans rfl
      have hcz82_3 : wc.cell? ⟨gb145,3,none⟩ = some (.float .f64 (fop .add a0_3 a1_3)):=(blk_cell BK145.out 3).trans rfl;have hcz82_4 : wc.cell? ⟨gb145,4,none⟩ = some (.float .f64 0):=(blk_cell BK145.out 4).trans rfl;have hcz82_5 : wc.cell? ⟨gb145,5,none⟩ = some (.float .f64 0):=(blk_cell BK145.out 5).trans rfl;have hcz82_6 : wc.cell? ⟨gb145,6,none⟩ = some (.float .f64 0):=(blk_cell BK145.out 6).trans rfl;have hfz82_0:=blk_frozen BK145.out 0;have hfz82_1:=blk_frozen BK145.out 1;have hfz82_2:=blk_frozen BK145.out 2;have hfz82_3:=blk_frozen BK145.out 3;have hfz82_4:=blk_frozen BK145.out 4;have hfz82_5:=blk_frozen BK145.out 5;have hfz82_6:=blk_frozen BK145.out 6
      go_upto_if 62 with (fail)
      go_cut [] (fun wc=>∃ (kq : Nat) (x146002_74 : Nat),Aside0 (tally_Join.j2 kq a0_0 a0_1 a0_2 a0_3 a0_4 a0_5 a0_6 a1_0 a1_1 a1_2 a1_3 a1_4 a1_5 a1_6 (wrap64 (a0_0 + a1_0)) x146001_53 x146002_74 (fop .add a0_3 a1_3) 0 0 0 = some (r1,r2,r3,r4,r5,r6,r7,r8)) ∧ Aside0 (kq ≤ kj53) ∧ Aside0 (wc.heap[gb140]? = some (.cells #[.int .i64 a0_0,.float .f64 a0_1,.float .f64 a0_2,.float .f64 a0_3,.float .f64 a0_4,.float .f64 a0_5,.float .f64 a0_6] 26 (0,0))) ∧ Aside0 (wc.heap[gb141]? = some (.cells #[.int .i64 a1_0,.float .f64 a1_1,.float .f64 a1_2,.float .f64 a1_3,.float .f64 a1_4,.float .f64 a1_5,.float .f64 a1_6] 26 (0,0))) ∧ Aside0 (wc.heap[gb142]? = some (.cells #[.int .i64 0,.float .f64 0,.float .f64 0,.float .f64 0,.float .f64 0,.float .f64 0,.float .f64 0] 26 (0,0))) ∧ Aside0 (wc.heap[gb145]? = some (.cells #[.int .i64 (wrap64 (a0_0 + a1_0)),.float .f64 x146001_53,.float .f64 x146002_74,.float .f64 (fop .add a0_3 a1_3),.float .f64 0,.float .f64 0,.float .f64 0] 26 (0,0))) ∧ Aside0 (Below w.heap.size w wc))
      case first =>
       have H:=HC75.out;clear HC75
       by_cases c83 : (FloatKind.f64.format.order a1_2 a0_2 == some .gt) = true
       ·rw [if_pos c83] at H
        have c83b0 : (FloatKind.f64.format.order a1_2 a0_2 == some .gt) = true:=c83
        (try (have c83b1 : decide (FloatKind.f64.format.order a1_2 a0_2 = some .gt) = true:=by simpa using c83))
        (try (have c83b2 : (FloatKind.f64.format.order a1_2 a0_2 == some .gt) = true:=by simpa using c83))
        clear c83
        (first|rw [c83b0]|(simp only [i64_w,i32_w];rw [c83b0])|skip)
        have H':=Aside0.mk H;clear H;have hnb84:=NB141_140.out;have hnc84:=NB140_141.out;have hnb85:=NB141_142.out;have hnc85:=NB142_141.out;have hnb86:=NB141_145.out;have hnc86:=NB145_141.out;have hcz87_0 : wc.cell? ⟨gb141,0,none⟩ = some (.int .i64 a1_0):=(blk_cell BK141.out 0).trans rfl;have hcz87_1 : wc.cell? ⟨gb141,1,none⟩ = some (.float .f64 a1_1):=(blk_cell BK141.out 1).trans rfl;have hcz87_2 : wc.cell? ⟨gb141,2,none⟩ = some (.float .f64 a1_2):=(blk_cell BK141.out 2).trans rfl;have hcz87_3 : wc.cell? ⟨gb141,3,none⟩ = some (.float .f64 a1_3):=(blk_cell BK141.out 3).trans rfl;have hcz87_4 : wc.cell? ⟨gb141,4,none⟩ = some (.float .f64 a1_4):=(blk_cell BK141.out 4).trans rfl;have hcz87_5 : wc.cell? ⟨gb141,5,none⟩ = some (.float .f64 a1_5):=(blk_cell BK141.out 5).trans rfl;have hcz87_6 : wc.cell? ⟨gb141,6,none⟩ = some (.float .f64 a1_6):=(blk_cell BK141.out 6).trans rfl;have hfz87_0:=blk_frozen BK141.out 0;have hfz87_1:=blk_frozen BK141.out 1;have hfz87_2:=blk_frozen BK141.out 2;have hfz87_3:=blk_frozen BK141.out 3;have hfz87_4:=blk_frozen BK141.out 4;have hfz87_5:=blk_frozen BK141.out 5;have hfz87_6:=blk_frozen BK141.out 6;have hnb88:=NB145_140.out;have hnc88:=NB140_145.out;have hnb89:=NB145_142.out;have hnc89:=NB142_145.out;have hcz90_0 : wc.cell? ⟨gb145,0,none⟩ = some (.int .i64 (wrap64 (a0_0 + a1_0))):=(blk_cell BK145.out 0).trans rfl;have hcz90_1 : wc.cell? ⟨gb145,1,none⟩ = some (.float .f64 x146001_53):=(blk_cell BK145.out 1).trans rfl;have hcz90_2 : wc.cell? ⟨gb145,2,none⟩ = some (.float .f64 a0_2):=(blk_cell BK145.out 2).trans rfl
        have hcz90_3 : wc.cell? ⟨gb145,3,none⟩ = some (.float .f64 (fop .add a0_3 a1_3)):=(blk_cell BK145.out 3).trans rfl;have hcz90_4 : wc.cell? ⟨gb145,4,none⟩ = some (.float .f64 0):=(blk_cell BK145.out 4).trans rfl;have hcz90_5 : wc.cell? ⟨gb145,5,none⟩ = some (.float .f64 0):=(blk_cell BK145.out 5).trans rfl;have hcz90_6 : wc.cell? ⟨gb145,6,none⟩ = some (.float .f64 0):=(blk_cell BK145.out 6).trans rfl;have hfz90_0:=blk_frozen BK145.out 0;have hfz90_1:=blk_frozen BK145.out 1;have hfz90_2:=blk_frozen BK145.out 2;have hfz90_3:=blk_frozen BK145.out 3;have hfz90_4:=blk_frozen BK145.out 4;have hfz90_5:=blk_frozen BK145.out 5;have hfz90_6:=blk_frozen BK145.out 6;go_wp2
        go_meet
        case rel=>exact ⟨_,(a1_2),(by first|exact H'|(subst_vars;exact H')),⟨by have:=HJ2.out;have:=HJ53.out;first|omega|exact Nat.le_refl _⟩,⟨by (with_reducible repeat (first|refine blk_drewN ?_ _|refine blk_drew ?_|refine blk_alloc ?_ _));refine blk_far ?_ NB140_145.out _;(with_reducible repeat (first|refine blk_drewN ?_ _|refine blk_drew ?_|refine blk_alloc ?_ _));exact BK140.out⟩,⟨by (with_reducible repeat (first|refine blk_drewN ?_ _|refine blk_drew ?_|refine blk_alloc ?_ _));refine blk_far ?_ NB141_145.out _;(with_reducible repeat (first|refine blk_drewN ?_ _|refine blk_drew ?_|refine blk_alloc ?_ _));exact BK141.out⟩,⟨by (with_reducible repeat (first|refine blk_drewN ?_ _|refine blk_drew ?_|refine blk_alloc ?_ _));refine blk_far ?_ NB142_145.out _;(with_reducible repeat (first|refine blk_drewN ?_ _|refine blk_drew ?_|refine blk_alloc ?_ _));exact BK142.out⟩,⟨by (with_reducible repeat (first|refine blk_drewN ?_ _|refine blk_drew ?_|refine blk_alloc ?_ _));refine blk_put (cs:=#[.int .i64 (wrap64 (a0_0 + a1_0)),.float .f64 x146001_53,.float .f64 a0_2,.float .f64 (fop .add a0_3 a1_3),.float .f64 0,.float .f64 0,.float .f64 0]) ?_ 2 _ (by first|rfl|(simp only [px_pos,px_ne];rfl)|simp [px_pos,px_ne]);(with_reducible repeat (first|refine blk_drewN ?_ _|refine blk_drew ?_|refine blk_alloc ?_ _));exact BK145.out⟩,⟨by repeat (first|(with_reducible first|exact HB.out|apply below_alloc|apply pw_below_drewN|apply below_drew1|refine below_set ?_ GE140.out|refine below_set ?_ GE141.out|refine below_set ?_ GE142.out|refine below_set ?_ GE145.out)|exact HB.out)⟩⟩
       rw [if_neg c83] at H
       have c83b0 : (FloatKind.f64.format.order a1_2 a0_2 == some .gt) = false:=by simpa using c83
       (try (have c83b1 : decide (FloatKind.f64.format.order a1_2 a0_2 = some .gt) = false:=by simpa using c83))
       (try (have c83b2 : (FloatKind.f64.format.order a1_2 a0_2 == some .gt) = false:=by simpa using c83))
       (try (have c83b3 : ¬ (FloatKind.f64.format.order a1_2 a0_2 = some .gt):=by simpa using c83))
       clear c83
       (first|rw [c83b0]|(simp only [i64_w,i32_w];rw [c83b0])|skip)
       have H':=Aside0.mk H;clear H;go_wp2
       go_meet
       case rel=>exact ⟨_,(a0_2),(by first|exact H'|(subst_vars;exact H')),⟨by have:=HJ2.out;have:=HJ53.out;first|omega|exact Nat.le_refl _⟩,⟨by (with_reducible repeat (first|refine blk_drewN ?_ _|refine blk_drew ?_|refine blk_alloc ?_ _));exact BK140.out⟩,⟨by (with_reducible repeat (first|refine blk_drewN ?_ _|refine blk_drew ?_|refine blk_alloc ?_ _));exact BK141.out⟩,⟨by (with_reducible repeat (first|refine blk_drewN ?_ _|refine blk_drew ?_|refine blk_alloc ?_ _));exact BK142.out⟩,⟨by (with_reducible repeat (first|refine blk_drewN ?_ _|refine blk_drew ?_|refine blk_alloc ?_ _));exact BK145.out⟩,⟨by repeat (first|(with_reducible first|exact HB.out|apply below_alloc|apply pw_below_drewN|apply below_drew1|refine below_set ?_ GE140.out|refine below_set ?_ GE141.out|refine below_set ?_ GE142.out|refine below_set ?_ GE145.out)|exact HB.out)⟩⟩
      case rest =>
       clear HC75
       try clear c1
       try clear c2
       try clear p2
       try clear c3
       try clear c4
       try clear c5
       try clear c6
       try clear p6
       try clear c7
       try clear c8
       try clear c10
       try clear c11
       try clear c14
       try clear c17
       try clear c18
       try clear c21
       try clear c22
       try clear c23
       try clear c25
       try clear c25b0
       try clear c25b1
       try clear c26
       try clear c27
       try clear c29
       try clear c32
       try clear c32b0
       try clear c32b1
       try clear c33
       try clear c34
       try clear c36
       try clear c39
       try clear c39b0
       try clear c39b1
       try clear c40
       try clear c40b0
       try clear c41
       try clear c42
       try clear c43
       try clear c44
       try clear c47
       try clear c48
       try clear c49
       try clear c55
       try clear c56
       try clear c58
       try clear c61
       try clear c62
       try clear c63
       try clear p64
       try clear c67
       try clear c67b0
       try clear c67b1
       try clear c67b2
       try clear c68
       try clear c69
       try clear c70
       try clear c72
       try clear c73
       try clear c76
       try clear c77
       try clear c78
       try clear c80
       try clear c81
       try clear c83
       try clear c83b0
       try clear c83b1
       try clear c83b2
       try clear c84
       try clear c85
       try clear c86
       try clear c88
       try clear c89
       try clear hcz12_0
       try clear hcz12_1
       try clear hcz12_2
       try clear hcz12_3
       try clear hcz12_4
       try clear hcz12_5
       try clear hcz12_6
       try clear hcz15_0
       try clear hcz15_1
       try clear hcz15_2
       try clear hcz15_3
       try clear hcz15_4
       try clear hcz15_5
       try clear hcz15_6
       try clear hcz19_0
       try clear hcz19_1
       try clear hcz19_2
       try clear hcz19_3
       try clear hcz19_4
       try clear hcz19_5
       try clear hcz19_6
       try clear hcz24_0
       try clear hcz24_1
       try clear hcz24_2
       try clear hcz24_3
       try clear hcz24_4
       try clear hcz24_5
       try clear hcz24_6
       try clear hcz28_0
       try clear hcz28_1
       try clear hcz28_2
       try clear hcz28_3
       try clear hcz28_4
       try clear hcz28_5
       try clear hcz28_6
       try clear hcz30_0
       try clear hcz30_1
       try clear hcz30_2
       try clear hcz30_3
       try clear hcz30_4
       try clear hcz30_5
       try clear hcz30_6
       try clear hcz31_0
       try clear hcz31_1
       try clear hcz31_2
       try clear hcz31_3
       try clear hcz31_4
       try clear hcz31_5
       try clear hcz31_6
       try clear hcz35_0
       try clear hcz35_1
       try clear hcz35_2
       try clear hcz35_3
       try clear hcz35_4
       try clear hcz35_5
       try clear hcz35_6
       try clear hcz37_0
       try clear hcz37_1
       try clear hcz37_2
       try clear hcz37_3
       try clear hcz37_4
       try clear hcz37_5
       try clear hcz37_6
       try clear hcz38_0
       try clear hcz38_1
       try clear hcz38_2
       try clear hcz38_3
       try clear hcz38_4
       try clear hcz38_5
       try clear hcz38_6
       try clear hcz43_0
       try clear hcz43_1
       try clear hcz43_2
       try clear hcz43_3
       try clear hcz43_4
       try clear hcz43_5
       try clear hcz43_6
       try clear hcz45_0
       try clear hcz45_1
       try clear hcz45_2
       try clear hcz45_3
       try clear hcz45_4
       try clear hcz45_5
       try clear hcz45_6
       try clear hcz50_0
       try clear hcz50_1
       try clear hcz50_2
       try clear hcz50_3
       try clear hcz50_4
       try clear hcz50_5
       try clear hcz50_6
       try clear hcz51_0
       try clear hcz51_1
       try clear hcz51_2
       try clear hcz51_3
       try clear hcz51_4
       try clear hcz51_5
       try clear hcz51_6
       try clear hcz52_0
       try clear hcz52_1
       try clear hcz52_2
       try clear hcz52_3
       try clear hcz52_4
       try clear hcz52_5
       try clear hcz52_6
       try clear hcz53_0
       try clear hcz53_1
       try clear hcz53_2
       try clear hcz53_3
       try clear hcz53_4
       try clear hcz53_5
       try clear hcz53_6
       try clear hcz57_0
       try clear hcz57_1
       try clear hcz57_2
       try clear hcz57_3
       try clear hcz57_4
       try clear hcz57_5
       try clear hcz57_6
       try clear hcz59_0
       try clear hcz59_1
       try clear hcz59_2
       try clear hcz59_3
       try clear hcz59_4
       try clear hcz59_5
       try clear hcz59_6
       try clear hcz64_0
       try clear hcz64_1
       try clear hcz64_2
       try clear hcz64_3
       try clear hcz64_4
       try clear hcz64_5
       try clear hcz64_6
       try clear hcz65_0
       try clear hcz65_1
       try clear hcz65_2
       try clear hcz65_3
       try clear hcz65_4
       try clear hcz65_5
       try clear hcz65_6
       try clear hcz66_0
       try clear hcz66_1
       try clear hcz66_2
       try clear hcz66_3
       try clear hcz66_4
       try clear hcz66_5
       try clear hcz66_6
       try clear hcz71_0
       try clear hcz71_1
       try clear hcz71_2
       try clear hcz71_3
       try clear hcz71_4
       try clear hcz71_5
       try clear hcz71_6
       try clear hcz74_0
       try clear hcz74_1
       try clear hcz74_2
       try clear hcz74_3
       try clear hcz74_4
       try clear hcz74_5
       try clear hcz74_6
       try clear hcz79_0
       try clear hcz79_1
       try clear hcz79_2
       try clear hcz79_3
       try clear hcz79_4
       try clear hcz79_5
       try clear hcz79_6
       try clear hcz82_0
       try clear hcz82_1
       try clear hcz82_2
       try clear hcz82_3
       try clear hcz82_4
       try clear hcz82_5
       try clear hcz82_6
       try clear hcz87_0
       try clear hcz87_1
       try clear hcz87_2
       try clear hcz87_3
       try clear hcz87_4
       try clear hcz87_5
       try clear hcz87_6
       try clear hcz90_0
       try clear hcz90_1
       try clear hcz90_2
       try clear hcz90_3
       try clear hcz90_4
       try clear hcz90_5
       try clear hcz90_6
       try clear hfz12_0
       try clear hfz12_1
       try clear hfz12_2
       try clear hfz12_3
       try clear hfz12_4
       try clear hfz12_5
       try clear hfz12_6
       try clear hfz15_0
       try clear hfz15_1
       try clear hfz15_2
       try clear hfz15_3
       try clear hfz15_4
       try clear hfz15_5
       try clear hfz15_6
       try clear hfz19_0
       try clear hfz19_1
       try clear hfz19_2
       try clear hfz19_3
       try clear hfz19_4
       try clear hfz19_5
       try clear hfz19_6
       try clear hfz24_0
       try clear hfz24_1
       try clear hfz24_2
       try clear hfz24_3
       try clear hfz24_4
       try clear hfz24_5
       try clear hfz24_6
       try clear hfz28_0
       try clear hfz28_1
       try clear hfz28_2
       try clear hfz28_3
       try clear hfz28_4
       try clear hfz28_5
       try clear hfz28_6
       try clear hfz30_0
       try clear hfz30_1
       try clear hfz30_2
       try clear hfz30_3
       try clear hfz30_4
       try clear hfz30_5
       try clear hfz30_6
       try clear hfz31_0
       try clear hfz31_1
       try clear hfz31_2
       try clear hfz31_3
       try clear hfz31_4
       try clear hfz31_5
       try clear hfz31_6
       try clear hfz35_0
       try clear hfz35_1
       try clear hfz35_2
       try clear hfz35_3
       try clear hfz35_4
       try clear hfz35_5
       try clear hfz35_6
       try clear hfz37_0
       try clear hfz37_1
       try clear hfz37_2
       try clear hfz37_3
       try clear hfz37_4
       try clear hfz37_5
       try clear hfz37_6
       try clear hfz38_0
       try clear hfz38_1
       try clear hfz38_2
       try clear hfz38_3
       try clear hfz38_4
       try clear hfz38_5
       try clear hfz38_6
       try clear hfz43_0
       try clear hfz43_1
       try clear hfz43_2
       try clear hfz43_3
       try clear hfz43_4
       try clear hfz43_5
       try clear hfz43_6
       try clear hfz45_0
       try clear hfz45_1
       try clear hfz45_2
       try clear hfz45_3
       try clear hfz45_4
       try clear hfz45_5
       try clear hfz45_6
       try clear hfz50_0
       try clear hfz50_1
       try clear hfz50_2
       try clear hfz50_3
       try clear hfz50_4
       try clear hfz50_5
       try clear hfz50_6
       try clear hfz51_0
       try clear hfz51_1
       try clear hfz51_2
       try clear hfz51_3
       try clear hfz51_4
       try clear hfz51_5
       try clear hfz51_6
       try clear hfz52_0
       try clear hfz52_1
       try clear hfz52_2
       try clear hfz52_3
       try clear hfz52_4
       try clear hfz52_5
       try clear hfz52_6
       try clear hfz53_0
       try clear hfz53_1
       try clear hfz53_2
       try clear hfz53_3
       try clear hfz53_4
       try clear hfz53_5
       try clear hfz53_6
       try clear hfz57_0
       try clear hfz57_1
       try clear hfz57_2
       try clear hfz57_3
       try clear hfz57_4
       try clear hfz57_5
       try clear hfz57_6
       try clear hfz59_0
       try clear hfz59_1
       try clear hfz59_2
       try clear hfz59_3
       try clear hfz59_4
       try clear hfz59_5
       try clear hfz59_6
       try clear hfz64_0
       try clear hfz64_1
       try clear hfz64_2
       try clear hfz64_3
       try clear hfz64_4
       try clear hfz64_5
       try clear hfz64_6
       try clear hfz65_0
       try clear hfz65_1
       try clear hfz65_2
       try clear hfz65_3
       try clear hfz65_4
       try clear hfz65_5
       try clear hfz65_6
       try clear hfz66_0
       try clear hfz66_1
       try clear hfz66_2
       try clear hfz66_3
       try clear hfz66_4
       try clear hfz66_5
       try clear hfz66_6
       try clear hfz71_0
       try clear hfz71_1
       try clear hfz71_2
       try clear hfz71_3
       try clear hfz71_4
       try clear hfz71_5
       try clear hfz71_6
       try clear hfz74_0
       try clear hfz74_1
       try clear hfz74_2
       try clear hfz74_3
       try clear hfz74_4
       try clear hfz74_5
       try clear hfz74_6
       try clear hfz79_0
       try clear hfz79_1
       try clear hfz79_2
       try clear hfz79_3
       try clear hfz79_4
       try clear hfz79_5
       try clear hfz79_6
       try clear hfz82_0
       try clear hfz82_1
       try clear hfz82_2
       try clear hfz82_3
       try clear hfz82_4
       try clear hfz82_5
       try clear hfz82_6
       try clear hfz87_0
       try clear hfz87_1
       try clear hfz87_2
       try clear hfz87_3
       try clear hfz87_4
       try clear hfz87_5
       try clear hfz87_6
       try clear hfz90_0
       try clear hfz90_1
       try clear hfz90_2
       try clear hfz90_3
       try clear hfz90_4
       try clear hfz90_5
       try clear hfz90_6
       try clear p2
       try clear p6
       try clear p64
       obtain ⟨kq,x146002_74,HA,HJ74,BK140,BK141,BK142,BK145,HB⟩:=hcut
       cases kq with
       | zero=>exact absurd HA.out (by simp [tally_Join.j2])
       | succ kj74 =>
        have H:=HA.out;clear HA
        simp only [tally_Join.j2] at H
        by_cases c91 : fok .add a0_4 a1_4 = true
        ·rw [if_pos c91] at H
         have c91b0:=eq_true c91;have c91b1 : decide (fok .add a0_4 a1_4 = true) = true:=decide_eq_true c91;clear c91;replace H:=Option.bind_eq_some_iff.mp H;obtain ⟨t146,A920,H⟩:=H;replace H : (if fok .add (fop .add a0_4 a1_4) t146 = true then (if fok .sub a1_5 a0_5 = true then (if fok .quo (floatOfInt .f64 a1_0) (floatOfInt .f64 (wrap64 (a0_0 + a1_0))) = true then (if fok .mul (fop .sub a1_5 a0_5) (fop .quo (floatOfInt .f64 a1_0) (floatOfInt .f64 (wrap64 (a0_0 + a1_0)))) = true then (if fok .add a0_5 (fop .mul (fop .sub a1_5 a0_5) (fop .quo (floatOfInt .f64 a1_0) (floatOfInt .f64 (wrap64 (a0_0 + a1_0))))) = true then (if fok .add a0_6 a1_6 = true then (if fok .mul (fop .sub a1_5 a0_5) (fop .sub a1_5 a0_5) = true then (if fok .mul (floatOfInt .f64 a0_0) (fop .quo (floatOfInt .f64 a1_0) (floatOfInt .f64 (wrap64 (a0_0 + a1_0)))) = true then (if fok .mul (fop .mul (fop .sub a1_5 a0_5) (fop .sub a1_5 a0_5)) (fop .mul (floatOfInt .f64 a0_0) (fop .quo (floatOfInt .f64 a1_0) (floatOfInt .f64 (wrap64 (a0_0 + a1_0))))) = true then (if fok .add (fop .add a0_6 a1_6) (fop .mul (fop .mul (fop .sub a1_5 a0_5) (fop .sub a1_5 a0_5)) (fop .mul (floatOfInt .f64 a0_0) (fop .quo (floatOfInt .f64 a1_0) (floatOfInt .f64 (wrap64 (a0_0 + a1_0)))))) = true then ((tally_sound.f kj74 (wrap64 (a0_0 + a1_0)) x146001_53 x146002_74 (fop .add a0_3 a1_3) (fop .add (fop .add a0_4 a1_4) t146) (fop .add a0_5 (fop .mul (fop .sub a1_5 a0_5) (fop .quo (floatOfInt .f64 a1_0) (floatOfInt .f64 (wrap64 (a0_0 + a1_0)))))) (fop .add (fop .add a0_6 a1_6) (fop .mul (fop .mul (fop .sub a1_5 a0_5) (fop .sub a1_5 a0_5)) (fop .mul (floatOfInt .f64 a0_0) (fop .quo (floatOfInt .f64 a1_0) (floatOfInt .f64 (wrap64 (a0_0 + a1_0)))))))).bind fun t147=>(if t147 = true then (some ((wrap64 (a0_0 + a1_0)),x146001_53,x146002_74,(fop .add a0_3 a1_3),fop .add (fop .add a0_4 a1_4) t146,fop .add a0_5 (fop .mul (fop .sub a1_5 a0_5) (fop .quo (floatOfInt .f64 a1_0) (floatOfInt .f64 (wrap64 (a0_0 + a1_0))))),fop .add (fop .add a0_6 a1_6) (fop .mul (fop .mul (fop .sub a1_5 a0_5) (fop .sub a1_5 a0_5)) (fop .mul (floatOfInt .f64 a0_0) (fop .quo (floatOfInt .f64 a1_0) (floatOfInt .f64 (wrap64 (a0_0 + a1_0)))))),0)) else (some (0,0,0,0,0,0,0,121)))) else (none)) else (none)) else (none)) else (none)) else (none)) else (none)) else (none)) else (none)) else (none)) else (if fok .sub a1_5 a0_5 = true then (if fok .quo (floatOfInt .f64 a1_0) (floatOfInt .f64 (wrap64 (a0_0 + a1_0))) = true then (if fok .mul (fop .sub a1_5 a0_5) (fop .quo (floatOfInt .f64 a1_0) (floatOfInt .f64 (wrap64 (a0_0 + a1_0)))) = true then (if fok .add a0_5 (fop .mul (fop .sub a1_5 a0_5) (fop .quo (floatOfInt .f64 a1_0) (floatOfInt .f64 (wrap64 (a0_0 + a1_0))))) = true then (if fok .add a0_6 a1_6 = true then (if fok .mul (fop .sub a1_5 a0_5) (fop .sub a1_5 a0_5) = true then (if fok .mul (floatOfInt .f64 a0_0) (fop .quo (floatOfInt .f64 a1_0) (floatOfInt .f64 (wrap64 (a0_0 + a1_0)))) = true then (if fok .mul (fop .mul (fop .sub a1_5 a0_5) (fop .sub a1_5 a0_5)) (fop .mul (floatOfInt .f64 a0_0) (fop .quo (floatOfInt .f64 a1_0) (floatOfInt .f64 (wrap64 (a0_0 + a1_0))))) = true then (if fok .add (fop .add a0_6 a1_6) (fop .mul (fop .mul (fop .sub a1_5 a0_5) (fop .sub a1_5 a0_5)) (fop .mul (floatOfInt .f64 a0_0) (fop .quo (floatOfInt .f64 a1_0) (floatOfInt .f64 (wrap64 (a0_0 + a1_0)))))) = true then ((tally_sound.f kj74 (wrap64 (a0_0 + a1_0)) x146001_53 x146002_74 (fop .add a0_3 a1_3) nanC (fop .add a0_5 (fop .mul (fop .sub a1_5 a0_5) (fop .quo (floatOfInt .f64 a1_0) (floatOfInt .f64 (wrap64 (a0_0 + a1_0)))))) (fop .add (fop .add a0_6 a1_6) (fop .mul (fop .mul (fop .sub a1_5 a0_5) (fop .sub a1_5 a0_5)) (fop .mul (floatOfInt .f64 a0_0) (fop .quo (floatOfInt .f64 a1_0) (floatOfInt .f64 (wrap64 (a0_0 + a1_0)))))))).bind fun t147=>(if t147 = true then (none) else (some (0,0,0,0,0,0,0,121)))) else (none)) else (none)) else (none)) else (none)) else (none)) else (none)) else (none)) else (none)) else (none))) = some (r1,r2,r3,r4,r5,r6,r7,r8):=H
         have A92:=Aside0.mk A920;clear A920
         by_cases c93 : fok .add (fop .add a0_4 a1_4) t146 = true
         ·rw [if_pos c93] at H
          have c93b0:=eq_true c93;have c93b1 : decide (fok .add (fop .add a0_4 a1_4) t146 = true) = true:=decide_eq_true c93;clear c93
          by_cases c94 : fok .sub a1_5 a0_5 = true
          ·rw [if_pos c94] at H
           have c94b0:=eq_true c94;have c94b1 : decide (fok .sub a1_5 a0_5 = true) = true:=decide_eq_true c94;clear c94
           by_cases c95 : fok .quo (floatOfInt .f64 a1_0) (floatOfInt .f64 (wrap64 (a0_0 + a1_0))) = true
           ·rw [if_pos c95] at H
            have c95b0:=eq_true c95;have c95b1 : decide (fok .quo (floatOfInt .f64 a1_0) (floatOfInt .f64 (wrap64 (a0_0 + a1_0))) = true) = true:=decide_eq_true c95
            by_cases c96 : fok .mul (fop .sub a1_5 a0_5) (fop .quo (floatOfInt .f64 a1_0) (floatOfInt .f64 (wrap64 (a0_0 + a1_0)))) = true
            ·rw [if_pos c96] at H
             have c96b0:=eq_true c96;have c96b1 : decide (fok .mul (fop .sub a1_5 a0_5) (fop .quo (floatOfInt .f64 a1_0) (floatOfInt .f64 (wrap64 (a0_0 + a1_0)))) = true) = true:=decide_eq_true c96
             by_cases c97 : fok .add a0_5 (fop .mul (fop .sub a1_5 a0_5) (fop .quo (floatOfInt .f64 a1_0) (floatOfInt .f64 (wrap64 (a0_0 + a1_0))))) = true
             ·rw [if_pos c97] at H
              have c97b0:=eq_true c97;have c97b1 : decide (fok .add a0_5 (fop .mul (fop .sub a1_5 a0_5) (fop .quo (floatOfInt .f64 a1_0) (floatOfInt .f64 (wrap64 (a0_0 + a1_0))))) = true) = true:=decide_eq_true c97
              by_cases c98 : fok .add a0_6 a1_6 = true
              ·rw [if_pos c98] at H
               have c98b0:=eq_true c98;have c98b1 : decide (fok .add a0_6 a1_6 = true) = true:=decide_eq_true c98;clear c98
               by_cases c99 : fok .mul (fop .sub a1_5 a0_5) (fop .sub a1_5 a0_5) = true
               ·rw [if_pos c99] at H
                have c99b0:=eq_true c99;have c99b1 : decide (fok .mul (fop .sub a1_5 a0_5) (fop .sub a1_5 a0_5) = true) = true:=decide_eq_true c99;clear c99
                by_cases c100 : fok .mul (floatOfInt .f64 a0_0) (fop .quo (floatOfInt .f64 a1_0) (floatOfInt .f64 (wrap64 (a0_0 + a1_0)))) = true
                ·rw [if_pos c100] at H
                 have c100b0:=eq_true c100;have c100b1 : decide (fok .mul (floatOfInt .f64 a0_0) (fop .quo (floatOfInt .f64 a1_0) (floatOfInt .f64 (wrap64 (a0_0 + a1_0)))) = true) = true:=decide_eq_true c100
                 by_cases c101 : fok .mul (fop .mul (fop .sub a1_5 a0_5) (fop .sub a1_5 a0_5)) (fop .mul (floatOfInt .f64 a0_0) (fop .quo (floatOfInt .f64 a1_0) (floatOfInt .f64 (wrap64 (a0_0 + a1_0))))) = true
                 ·rw [if_pos c101] at H
                  have c101b0:=eq_true c101;have c101b1 : decide (fok .mul (fop .mul (fop .sub a1_5 a0_5) (fop .sub a1_5 a0_5)) (fop .mul (floatOfInt .f64 a0_0) (fop .quo (floatOfInt .f64 a1_0) (floatOfInt .f64 (wrap64 (a0_0 + a1_0))))) = true) = true:=decide_eq_true c101
                  by_cases c102 : fok .add (fop .add a0_6 a1_6) (fop .mul (fop .mul (fop .sub a1_5 a0_5) (fop .sub a1_5 a0_5)) (fop .mul (floatOfInt .f64 a0_0) (fop .quo (floatOfInt .f64 a1_0) (floatOfInt .f64 (wrap64 (a0_0 + a1_0)))))) = true
                  ·rw [if_pos c102] at H
                   have c102b0:=eq_true c102;have c102b1 : decide (fok .add (fop .add a0_6 a1_6) (fop .mul (fop .mul (fop .sub a1_5 a0_5) (fop .sub a1_5 a0_5)) (fop .mul (floatOfInt .f64 a0_0) (fop .quo (floatOfInt .f64 a1_0) (floatOfInt .f64 (wrap64 (a0_0 + a1_0)))))) = true) = true:=decide_eq_true c102;replace H:=Option.bind_eq_some_iff.mp H;obtain ⟨t147,A1030,H⟩:=H;replace H : (if t147 = true then (some ((wrap64 (a0_0 + a1_0)),x146001_53,x146002_74,(fop .add a0_3 a1_3),fop .add (fop .add a0_4 a1_4) t146,fop .add a0_5 (fop .mul (fop .sub a1_5 a0_5) (fop .quo (floatOfInt .f64 a1_0) (floatOfInt .f64 (wrap64 (a0_0 + a1_0))))),fop .add (fop .add a0_6 a1_6) (fop .mul (fop .mul (fop .sub a1_5 a0_5) (fop .sub a1_5 a0_5)) (fop .mul (floatOfInt .f64 a0_0) (fop .quo (floatOfInt .f64 a1_0) (floatOfInt .f64 (wrap64 (a0_0 + a1_0)))))),0)) else (some (0,0,0,0,0,0,0,121))) = some (r1,r2,r3,r4,r5,r6,r7,r8):=H;have A103:=Aside0.mk A1030;clear A1030
                   by_cases c104 : t147 = true
                   ·subst c104
                    have H1 : (some ((wrap64 (a0_0 + a1_0)),x146001_53,x146002_74,(fop .add a0_3 a1_3),fop .add (fop .add a0_4 a1_4) t146,fop .add a0_5 (fop .mul (fop .sub a1_5 a0_5) (fop .quo (floatOfInt .f64 a1_0) (floatOfInt .f64 (wrap64 (a0_0 + a1_0))))),fop .add (fop .add a0_6 a1_6) (fop .mul (fop .mul (fop .sub a1_5 a0_5) (fop .sub a1_5 a0_5)) (fop .mul (floatOfInt .f64 a0_0) (fop .quo (floatOfInt .f64 a1_0) (floatOfInt .f64 (wrap64 (a0_0 + a1_0)))))),0)) = some (r1,r2,r3,r4,r5,r6,r7,r8):=by rw [if_pos rfl] at H;exact H
                    clear H;have H:=H1;clear H1
                    simp only [Option.some.injEq,Prod.mk.injEq] at H
                    obtain ⟨rfl,rfl,rfl,rfl,rfl,rfl,rfl,rfl⟩:=H
                    try go_wp2
                    have n0_:=Aside0.mk (blk_drew BK140.out);have n1_:=Aside0.mk (blk_drew BK141.out);have n2_:=Aside0.mk (blk_drew BK142.out);have n3_:=Aside0.mk (blk_drew BK145.out);have n4_:=Aside0.mk (below_drew1 HB.out);clear BK140;clear BK141;clear BK142;clear BK145;clear HB;have BK140:=n0_;have BK141:=n1_;have BK142:=n2_;have BK145:=n3_;have HB:=n4_;clear n0_ n1_ n2_ n3_ n4_;refine start_ (n:=15) (S:=fun w'=>w'.cell? ⟨gb140,0,none⟩ = some (.int .i64 a0_0) ∧ w'.cell? ⟨gb140,1,none⟩ = some (.float .f64 a0_1) ∧ w'.cell? ⟨gb140,2,none⟩ = some (.float .f64 a0_2) ∧ w'.cell? ⟨gb140,3,none⟩ = some (.float .f64 a0_3) ∧ w'.cell? ⟨gb140,4,none⟩ = some (.float .f64 a0_4) ∧ w'.cell? ⟨gb140,5,none⟩ = some (.float .f64 a0_5) ∧ w'.cell? ⟨gb140,6,none⟩ = some (.float .f64 a0_6) ∧ w'.cell? ⟨gb141,0,none⟩ = some (.int .i64 a1_0) ∧ w'.cell? ⟨gb141,1,none⟩ = some (.float .f64 a1_1) ∧ w'.cell? ⟨gb141,2,none⟩ = some (.float .f64 a1_2) ∧ w'.cell? ⟨gb141,3,none⟩ = some (.float .f64 a1_3) ∧ w'.cell? ⟨gb141,4,none⟩ = some (.float .f64 a1_4) ∧ w'.cell? ⟨gb141,5,none⟩ = some (.float .f64 a1_5) ∧ w'.cell? ⟨gb141,6,none⟩ = some (.float .f64 a1_6) ∧ w'.cell? ⟨gb145,0,none⟩ = some (.int .i64 (wrap64 (a0_0 + a1_0))) ∧ w'.cell? ⟨gb145,1,none⟩ = some (.float .f64 x146001_53) ∧ w'.cell? ⟨gb145,2,none⟩ = some (.float .f64 x146002_74) ∧ w'.cell? ⟨gb145,3,none⟩ = some (.float .f64 (fop .add a0_3 a1_3)) ∧ w'.cell? ⟨gb145,4,none⟩ = some (.float .f64 0) ∧ w'.cell? ⟨gb145,5,none⟩ = some (.float .f64 0) ∧ w'.cell? ⟨gb145,6,none⟩ = some (.float .f64 0)) (ds:=[14]) #[false,false,false,false,false,false,false,false,false,false,false,false,false,false,false] (by kernel_rfl) rfl rfl ⟨(blk_cell BK140.out 0).trans rfl,(blk_cell BK140.out 1).trans rfl,(blk_cell BK140.out 2).trans rfl,(blk_cell BK140.out 3).trans rfl,(blk_cell BK140.out 4).trans rfl,(blk_cell BK140.out 5).trans rfl,(blk_cell BK140.out 6).trans rfl,(blk_cell BK141.out 0).trans rfl,(blk_cell BK141.out 1).trans rfl,(blk_cell BK141.out 2).trans rfl,(blk_cell BK141.out 3).trans rfl,(blk_cell BK141.out 4).trans rfl,(blk_cell BK141.out 5).trans rfl,(blk_cell BK141.out 6).trans rfl,(blk_cell BK145.out 0).trans rfl,(blk_cell BK145.out 1).trans rfl,(blk_cell BK145.out 2).trans rfl,(blk_cell BK145.out 3).trans rfl,(blk_cell BK145.out 4).trans rfl,(blk_cell BK145.out 5).trans rfl,(blk_cell BK145.out 6).trans rfl⟩ (fun hHeld=>?_);refine with_tabW tally_Join.tab14 tally_Join.bits14 (fun HT_ HW_=>?_)
                    generalize wc.drew = w105 at BK140 BK141 BK142 BK145 HB hHeld ⊢
                    refine pure_ (i:=0) (N:=some 66) (v:=?_) (a':=?_) #[true,false,false,false,false,false,false,false,false,false,false,false,false,false,false] rfl rfl (any_of HT_.out (by kernel_rfl)) (fun _ _ _ h=>h) (Or.inl ⟨by rfl,?_⟩) ?_ ?_;rotate_left
                    ·intro w';go_simp;with_reducible rfl
                    rotate_left
                    ·simp only [Act.put,List.setIfInBounds_toArray,List.set_cons_zero,List.set_cons_succ,i64_w,i32_w];rfl
                    refine pure_ (i:=2) (N:=some 68) (v:=?_) (a':=?_) #[true,false,true,false,false,false,false,false,false,false,false,false,false,false,false] rfl rfl (any_of HT_.out (by kernel_rfl)) (fun _ _ _ h=>h) (Or.inl ⟨by rfl,?_⟩) ?_ ?_;rotate_left
                    ·intro w';go_simp;with_reducible rfl
                    rotate_left
                    ·simp only [Act.put,List.setIfInBounds_toArray,List.set_cons_zero,List.set_cons_succ,i64_w,i32_w];rfl
                    refine pure_ (i:=5) (N:=some 71) (v:=?_) (a':=?_) #[true,false,true,false,false,true,false,false,false,false,false,false,false,false,false] rfl rfl (any_of HT_.out (by kernel_rfl)) (fun _ _ _ h=>h) (Or.inl ⟨by rfl,?_⟩) ?_ ?_;rotate_left
                    ·intro w';go_simp;with_reducible rfl
                    rotate_left
                    ·simp only [Act.put,List.setIfInBounds_toArray,List.set_cons_zero,List.set_cons_succ,i64_w,i32_w];rfl
                    refine pure_ (i:=7) (N:=some 73) (v:=?_) (a':=?_) #[true,false,true,false,false,true,false,true,false,false,false,false,false,false,false] rfl rfl (any_of HT_.out (by kernel_rfl)) (fun _ _ _ h=>h) (Or.inl ⟨by rfl,?_⟩) ?_ ?_;rotate_left
                    ·intro w';go_simp;with_reducible rfl
                    rotate_left
                    ·simp only [Act.put,List.setIfInBounds_toArray,List.set_cons_zero,List.set_cons_succ,i64_w,i32_w];rfl
                    refine pure_ (i:=9) (N:=some 75) (v:=?_) (a':=?_) #[true,false,true,false,false,true,false,true,false,true,false,false,false,false,false] rfl rfl (any_of HT_.out (by kernel_rfl)) (fun _ _ _ h=>h) (Or.inl ⟨by rfl,?_⟩) ?_ ?_;rotate_left
                    ·intro w';go_simp;with_reducible rfl
                    rotate_left
                    ·simp only [Act.put,List.setIfInBounds_toArray,List.set_cons_zero,List.set_cons_succ,i64_w,i32_w];rfl
                    refine take_ (i:=1) (N:=some 67) (v:=?_) (a':=?_) #[true,true,true,false,false,true,false,true,false,true,false,false,false,false,false] rfl rfl (take_ofW HT_.out HW_.out (by kernel_rfl)) (fun _ _ _ h=>h) (Or.inl ⟨by rfl,?_⟩) hHeld ?_ ?_;rotate_left
                    ·rintro w' ⟨s0,s1,s2,s3,s4,s5,s6,s7,s8,s9,s10,s11,s12,s13,s14,s15,s16,s17,s18,s19,s20⟩;go_simp;with_reducible rfl
                    rotate_left
                    ·simp only [Act.put,List.setIfInBounds_toArray,List.set_cons_zero,List.set_cons_succ,i64_w,i32_w];rfl
                    refine take_ (i:=3) (N:=some 69) (v:=?_) (a':=?_) #[true,true,true,true,false,true,false,true,false,true,false,false,false,false,false] rfl rfl (take_ofW HT_.out HW_.out (by kernel_rfl)) (fun _ _ _ h=>h) (Or.inl ⟨by rfl,?_⟩) hHeld ?_ ?_;rotate_left
                    ·rintro w' ⟨s0,s1,s2,s3,s4,s5,s6,s7,s8,s9,s10,s11,s12,s13,s14,s15,s16,s17,s18,s19,s20⟩;go_simp;with_reducible rfl
                    rotate_left
                    ·simp only [Act.put,List.setIfInBounds_toArray,List.set_cons_zero,List.set_cons_succ,i64_w,i32_w];rfl
                    refine pure_ (i:=4) (N:=some 70) (v:=?_) (a':=?_) #[true,true,true,true,true,true,false,true,false,true,false,false,false,false,false] rfl rfl (any_of HT_.out (by kernel_rfl)) (fun _ _ _ h=>h) (Or.inl ⟨by rfl,?_⟩) ?_ ?_;rotate_left
                    ·intro w';go_simp;with_reducible rfl
                    rotate_left
                    ·simp only [Act.put,List.setIfInBounds_toArray,List.set_cons_zero,List.set_cons_succ,i64_w,i32_w];rfl
                    refine take_ (i:=6) (N:=some 72) (v:=?_) (a':=?_) #[true,true,true,true,true,true,true,true,false,true,false,false,false,false,false] rfl rfl (take_ofW HT_.out HW_.out (by kernel_rfl)) (fun _ _ _ h=>h) (Or.inl ⟨by rfl,?_⟩) hHeld ?_ ?_;rotate_left
                    ·rintro w' ⟨s0,s1,s2,s3,s4,s5,s6,s7,s8,s9,s10,s11,s12,s13,s14,s15,s16,s17,s18,s19,s20⟩;go_simp;with_reducible rfl
                    rotate_left
                    ·simp only [Act.put,List.setIfInBounds_toArray,List.set_cons_zero,List.set_cons_succ,i64_w,i32_w];rfl
                    refine take_ (i:=8) (N:=some 74) (v:=?_) (a':=?_) #[true,true,true,true,true,true,true,true,true,true,false,false,false,false,false] rfl rfl (take_ofW HT_.out HW_.out (by kernel_rfl)) (fun _ _ _ h=>h) (Or.inl ⟨by rfl,?_⟩) hHeld ?_ ?_;rotate_left
                    ·rintro w' ⟨s0,s1,s2,s3,s4,s5,s6,s7,s8,s9,s10,s11,s12,s13,s14,s15,s16,s17,s18,s19,s20⟩;go_simp;with_reducible rfl
                    rotate_left
                    ·simp only [Act.put,List.setIfInBounds_toArray,List.set_cons_zero,List.set_cons_succ,i64_w,i32_w];rfl
                    refine take_ (i:=10) (N:=some 76) (v:=?_) (a':=?_) #[true,true,true,true,true,true,true,true,true,true,true,false,false,false,false] rfl rfl (take_ofW HT_.out HW_.out (by kernel_rfl)) (fun _ _ _ h=>h) (Or.inl ⟨by rfl,?_⟩) hHeld ?_ ?_;rotate_left
                    ·rintro w' ⟨s0,s1,s2,s3,s4,s5,s6,s7,s8,s9,s10,s11,s12,s13,s14,s15,s16,s17,s18,s19,s20⟩;go_simp;with_reducible rfl
                    rotate_left
                    ·simp only [Act.put,List.setIfInBounds_toArray,List.set_cons_zero,List.set_cons_succ,i64_w,i32_w];rfl
                    refine one_ (i:=11) (N:=some 77) #[true,true,true,true,true,true,true,true,true,true,true,true,false,false,false] rfl rfl (one_of HT_.out (by kernel_rfl)) (by decide) (fun K hK=>?_);refine goes_ Try.func44 (by kernel_rfl) rfl #[.float .f64 a0_3,.float .f64 a1_3,.float .f64 (fop .add a0_3 a1_3)] (by rfl) rfl rfl (by (try simp only [List.map_toArray,List.map_cons,List.map_nil]);first|done|rfl|(simp only [List.length_drop,List.length_take];rfl)) ?_
                    with_reducible refine (tally_lost.calls a0_3 a1_3 (fop .add a0_3 a1_3) t146 _ A92.out).mono ?_
                    rintro e w' ⟨rfl,⟨nd,rfl⟩⟩;refine ⟨_,rfl,?_⟩;refine hK.out _ _ ⟨(blk_cell BK140.out 0).trans rfl,(blk_cell BK140.out 1).trans rfl,(blk_cell BK140.out 2).trans rfl,(blk_cell BK140.out 3).trans rfl,(blk_cell BK140.out 4).trans rfl,(blk_cell BK140.out 5).trans rfl,(blk_cell BK140.out 6).trans rfl,(blk_cell BK141.out 0).trans rfl,(blk_cell BK141.out 1).trans rfl,(blk_cell BK141.out 2).trans rfl,(blk_cell BK141.out 3).trans rfl,(blk_cell BK141.out 4).trans rfl,(blk_cell BK141.out 5).trans rfl,(blk_cell BK141.out 6).trans rfl,(blk_cell BK145.out 0).trans rfl,(blk_cell BK145.out 1).trans rfl,(blk_cell BK145.out 2).trans rfl,(blk_cell BK145.out 3).trans rfl,(blk_cell BK145.out 4).trans rfl,(blk_cell BK145.out 5).trans rfl,(blk_cell BK145.out 6).trans rfl⟩ (fun hHeld=>?_);clear hK K;refine norm_ (a':=?_) ?_ ?_;rotate_left
                    ·show Act.put _ (some 77) _ = _
                     simp only [Act.put,List.setIfInBounds_toArray,List.set_cons_zero,List.set_cons_succ,i64_w,i32_w];rfl
                    refine pure_ (i:=12) (N:=some 78) (v:=?_) (a':=?_) #[true,true,true,true,true,true,true,true,true,true,true,true,true,false,false] rfl rfl (any_of HT_.out (by kernel_rfl)) (fun _ _ _ h=>h) (Or.inl ⟨by rfl,?_⟩) ?_ ?_;rotate_left
                    ·intro w';go_simp;with_reducible rfl
                    rotate_left
                    ·simp only [Act.put,List.setIfInBounds_toArray,List.set_cons_zero,List.set_cons_succ,i64_w,i32_w];rfl
                    refine pure_ (i:=13) (N:=some 79) (v:=?_) (a':=?_) #[true,true,true,true,true,true,true,true,true,true,true,true,true,true,false] rfl rfl (any_of HT_.out (by kernel_rfl)) (fun _ _ _ h=>h) (Or.inl ⟨by rfl,?_⟩) ?_ ?_;rotate_left
                    ·intro w';go_simp;with_reducible rfl
                    rotate_left
                    ·simp only [Act.put,List.setIfInBounds_toArray,List.set_cons_zero,List.set_cons_succ,i64_w,i32_w];rfl
                    refine last_ (i:=14) (N:=none) #[true,true,true,true,true,true,true,true,true,true,true,true,true,true,true] rfl rfl (one_of HT_.out (by kernel_rfl)) (by decide) (fun K hK=>?_);have hs106 : w105.cell? ⟨gb145,4,none⟩ = some (.float .f64 0):=(blk_cell BK145.out 4).trans rfl;have hfs106:=blk_frozen BK145.out 4;have hns106_0:=NB140_145.out;have hns106_1:=NB141_145.out;have hns106_2:=NB142_145.out;have hms106_0:=NB145_140.out;have hms106_1:=NB145_141.out;have hms106_2:=NB145_142.out;refine skip_ (w1:=?_) (by rfl) rfl ?_ ?_;rotate_left
                    ·go_simp;rfl
                    refine hK.out _ _ ?_;clear hK K;refine done_ (done_of HT_.out (by kernel_rfl)) ?_
                    try go_wp2
                    obtain ⟨w107,hW_⟩ : ∃ w_,w_ = ((w105.drewN nd).setCell ⟨gb145,4,none⟩ (.float .f64 (fop .add (fop .add a0_4 a1_4) t146))):=⟨_,rfl⟩
                    have n0_ : Aside0 (w107.heap[gb140]? = some (.cells #[.int .i64 a0_0,.float .f64 a0_1,.float .f64 a0_2,.float .f64 a0_3,.float .f64 a0_4,.float .f64 a0_5,.float .f64 a0_6] 26 (0,0))):=⟨by rw [hW_];exact blk_far (blk_drewN BK140.out nd) (p:=⟨gb145,4,none⟩) NB140_145.out _⟩;have n1_ : Aside0 (w107.heap[gb141]? = some (.cells #[.int .i64 a1_0,.float .f64 a1_1,.float .f64 a1_2,.float .f64 a1_3,.float .f64 a1_4,.float .f64 a1_5,.float .f64 a1_6] 26 (0,0))):=⟨by rw [hW_];exact blk_far (blk_drewN BK141.out nd) (p:=⟨gb145,4,none⟩) NB141_145.out _⟩;have n2_ : Aside0 (w107.heap[gb142]? = some (.cells #[.int .i64 0,.float .f64 0,.float .f64 0,.float .f64 0,.float .f64 0,.float .f64 0,.float .f64 0] 26 (0,0))):=⟨by rw [hW_];exact blk_far (blk_drewN BK142.out nd) (p:=⟨gb145,4,none⟩) NB142_145.out _⟩;have n3_ : Aside0 (w107.heap[gb145]? = some (.cells #[.int .i64 (wrap64 (a0_0 + a1_0)),.float .f64 x146001_53,.float .f64 x146002_74,.float .f64 (fop .add a0_3 a1_3),.float .f64 (fop .add (fop .add a0_4 a1_4) t146),.float .f64 0,.float .f64 0] 26 (0,0))):=⟨by rw [hW_];exact blk_put (blk_drewN BK145.out nd) 4 _ rfl⟩;have n4_ : Aside0 (Below w.heap.size w w107):=⟨by rw [hW_];exact below_set (pw_below_drewN HB.out nd) GE145.out⟩
                    (try clear BK140)
                    (try clear BK141)
                    (try clear BK142)
                    (try clear BK145)
                    (try clear HB)
                    rw [← hW_];clear hW_;have BK140:=n0_;have BK141:=n1_;have BK142:=n2_;have BK145:=n3_;have HB:=n4_;clear n0_ n1_ n2_ n3_ n4_;have n0_:=Aside0.mk (blk_drew BK140.out);have n1_:=Aside0.mk (blk_drew BK141.out);have n2_:=Aside0.mk (blk_drew BK142.out);have n3_:=Aside0.mk (blk_drew BK145.out);have n4_:=Aside0.mk (below_drew1 HB.out);clear BK140;clear BK141;clear BK142;clear BK145;clear HB;have BK140:=n0_;have BK141:=n1_;have BK142:=n2_;have BK145:=n3_;have HB:=n4_;clear n0_ n1_ n2_ n3_ n4_;refine start_ (n:=8) (S:=fun w'=>w'.cell? ⟨gb140,0,none⟩ = some (.int .i64 a0_0) ∧ w'.cell? ⟨gb140,1,none⟩ = some (.float .f64 a0_1) ∧ w'.cell? ⟨gb140,2,none⟩ = some (.float .f64 a0_2) ∧ w'.cell? ⟨gb140,3,none⟩ = some (.float .f64 a0_3) ∧ w'.cell? ⟨gb140,4,none⟩ = some (.float .f64 a0_4) ∧ w'.cell? ⟨gb140,5,none⟩ = some (.float .f64 a0_5) ∧ w'.cell? ⟨gb140,6,none⟩ = some (.float .f64 a0_6) ∧ w'.cell? ⟨gb141,0,none⟩ = some (.int .i64 a1_0) ∧ w'.cell? ⟨gb141,1,none⟩ = some (.float .f64 a1_1) ∧ w'.cell? ⟨gb141,2,none⟩ = some (.float .f64 a1_2) ∧ w'.cell? ⟨gb141,3,none⟩ = some (.float .f64 a1_3) ∧ w'.cell? ⟨gb141,4,none⟩ = some (.float .f64 a1_4) ∧ w'.cell? ⟨gb141,5,none⟩ = some (.float .f64 a1_5) ∧ w'.cell? ⟨gb141,6,none⟩ = some (.float .f64 a1_6)) (ds:=[]) #[false,false,false,false,false,false,false,false] (by kernel_rfl) rfl rfl ⟨(blk_cell BK140.out 0).trans rfl,(blk_cell BK140.out 1).trans rfl,(blk_cell BK140.out 2).trans rfl,(blk_cell BK140.out 3).trans rfl,(blk_cell BK140.out 4).trans rfl,(blk_cell BK140.out 5).trans rfl,(blk_cell BK140.out 6).trans rfl,(blk_cell BK141.out 0).trans rfl,(blk_cell BK141.out 1).trans rfl,(blk_cell BK141.out 2).trans rfl,(blk_cell BK141.out 3).trans rfl,(blk_cell BK141.out 4).trans rfl,(blk_cell BK141.out 5).trans rfl,(blk_cell BK141.out 6).trans rfl⟩ (fun hHeld=>?_);refine with_tabW tally_Join.tab15 tally_Join.bits15 (fun HT_ HW_=>?_)
                    generalize w107.drew = w108 at BK140 BK141 BK142 BK145 HB hHeld ⊢
                    refine pure_ (i:=0) (N:=some 80) (v:=?_) (a':=?_) #[true,false,false,false,false,false,false,false] rfl rfl (any_of HT_.out (by kernel_rfl)) (fun _ _ _ h=>h) (Or.inl ⟨by rfl,?_⟩) ?_ ?_;rotate_left
                    ·intro w';go_simp;with_reducible rfl
                    rotate_left
                    ·simp only [Act.put,List.setIfInBounds_toArray,List.set_cons_zero,List.set_cons_succ,i64_w,i32_w];rfl
                    refine pure_ (i:=3) (N:=some 83) (v:=?_) (a':=?_) #[true,false,false,true,false,false,false,false] rfl rfl (any_of HT_.out (by kernel_rfl)) (fun _ _ _ h=>h) (Or.inl ⟨by rfl,?_⟩) ?_ ?_;rotate_left
                    ·intro w';go_simp;with_reducible rfl
                    rotate_left
                    ·simp only [Act.put,List.setIfInBounds_toArray,List.set_cons_zero,List.set_cons_succ,i64_w,i32_w];rfl
                    refine take_ (i:=1) (N:=some 81) (v:=?_) (a':=?_) #[true,true,false,true,false,false,false,false] rfl rfl (take_ofW HT_.out HW_.out (by kernel_rfl)) (fun _ _ _ h=>h) (Or.inl ⟨by rfl,?_⟩) hHeld ?_ ?_;rotate_left
                    ·rintro w' ⟨s0,s1,s2,s3,s4,s5,s6,s7,s8,s9,s10,s11,s12,s13⟩;go_simp;with_reducible rfl
                    rotate_left
                    ·simp only [Act.put,List.setIfInBounds_toArray,List.set_cons_zero,List.set_cons_succ,i64_w,i32_w];rfl
                    refine pure_ (i:=2) (N:=some 82) (v:=?_) (a':=?_) #[true,true,true,true,false,false,false,false] rfl rfl (any_of HT_.out (by kernel_rfl)) (fun _ _ _ h=>h) (Or.inl ⟨by rfl,?_⟩) ?_ ?_;rotate_left
                    ·intro w';go_simp;with_reducible rfl
                    rotate_left
                    ·simp only [Act.put,List.setIfInBounds_toArray,List.set_cons_zero,List.set_cons_succ,i64_w,i32_w];rfl
                    refine pure_ (i:=6) (N:=some 7) (v:=?_) (a':=?_) #[true,true,true,true,false,false,true,false] rfl rfl (any_of HT_.out (by kernel_rfl)) (fun _ _ _ h=>h) (Or.inl ⟨by rfl,?_⟩) ?_ ?_;rotate_left
                    ·intro w';go_simp;with_reducible rfl
                    rotate_left
                    ·simp only [Act.put,List.setIfInBounds_toArray,List.set_cons_zero,List.set_cons_succ,i64_w,i32_w];rfl
                    refine take_ (i:=4) (N:=some 84) (v:=?_) (a':=?_) #[true,true,true,true,true,false,true,false] rfl rfl (take_ofW HT_.out HW_.out (by kernel_rfl)) (fun _ _ _ h=>h) (Or.inl ⟨by rfl,?_⟩) hHeld ?_ ?_;rotate_left
                    ·rintro w' ⟨s0,s1,s2,s3,s4,s5,s6,s7,s8,s9,s10,s11,s12,s13⟩;go_simp;with_reducible rfl
                    rotate_left
                    ·simp only [Act.put,List.setIfInBounds_toArray,List.set_cons_zero,List.set_cons_succ,i64_w,i32_w];rfl
                    refine pure_ (i:=5) (N:=some 85) (v:=?_) (a':=?_) #[true,true,true,true,true,true,true,false] rfl rfl (any_of HT_.out (by kernel_rfl)) (fun _ _ _ h=>h) (Or.inl ⟨by rfl,?_⟩) ?_ ?_;rotate_left
                    ·intro w';go_simp;with_reducible rfl
                    rotate_left
                    ·simp only [Act.put,List.setIfInBounds_toArray,List.set_cons_zero,List.set_cons_succ,i64_w,i32_w];rfl
                    refine pure_ (i:=7) (N:=some 8) (v:=?_) (a':=?_) #[true,true,true,true,true,true,true,true] rfl rfl (any_of HT_.out (by kernel_rfl)) (fun _ _ _ h=>h) (Or.inl ⟨by rfl,?_⟩) ?_ ?_;rotate_left
                    ·intro w';go_simp;with_reducible rfl
                    rotate_left
                    ·simp only [Act.put,List.setIfInBounds_toArray,List.set_cons_zero,List.set_cons_succ,i64_w,i32_w];rfl
                    refine done_ (done_of HT_.out (by kernel_rfl)) ?_
                    try go_wp2
                    have n0_:=Aside0.mk (blk_drew BK140.out);have n1_:=Aside0.mk (blk_drew BK141.out);have n2_:=Aside0.mk (blk_drew BK142.out);have n3_:=Aside0.mk (blk_drew BK145.out);have n4_:=Aside0.mk (below_drew1 HB.out);clear BK140;clear BK141;clear BK142;clear BK145;clear HB;have BK140:=n0_;have BK141:=n1_;have BK142:=n2_;have BK145:=n3_;have HB:=n4_;clear n0_ n1_ n2_ n3_ n4_;refine start_ (n:=12) (S:=fun w'=>w'.cell? ⟨gb141,0,none⟩ = some (.int .i64 a1_0) ∧ w'.cell? ⟨gb141,1,none⟩ = some (.float .f64 a1_1) ∧ w'.cell? ⟨gb141,2,none⟩ = some (.float .f64 a1_2) ∧ w'.cell? ⟨gb141,3,none⟩ = some (.float .f64 a1_3) ∧ w'.cell? ⟨gb141,4,none⟩ = some (.float .f64 a1_4) ∧ w'.cell? ⟨gb141,5,none⟩ = some (.float .f64 a1_5) ∧ w'.cell? ⟨gb141,6,none⟩ = some (.float .f64 a1_6) ∧ w'.cell? ⟨gb140,0,none⟩ = some (.int .i64 a0_0) ∧ w'.cell? ⟨gb140,1,none⟩ = some (.float .f64 a0_1) ∧ w'.cell? ⟨gb140,2,none⟩ = some (.float .f64 a0_2) ∧ w'.cell? ⟨gb140,3,none⟩ = some (.float .f64 a0_3) ∧ w'.cell? ⟨gb140,4,none⟩ = some (.float .f64 a0_4) ∧ w'.cell? ⟨gb140,5,none⟩ = some (.float .f64 a0_5) ∧ w'.cell? ⟨gb140,6,none⟩ = some (.float .f64 a0_6) ∧ w'.cell? ⟨gb145,0,none⟩ = some (.int .i64 (wrap64 (a0_0 + a1_0))) ∧ w'.cell? ⟨gb145,1,none⟩ = some (.float .f64 x146001_53) ∧ w'.cell? ⟨gb145,2,none⟩ = some (.float .f64 x146002_74) ∧ w'.cell? ⟨gb145,3,none⟩ = some (.float .f64 (fop .add a0_3 a1_3)) ∧ w'.cell? ⟨gb145,4,none⟩ = some (.float .f64 (fop .add (fop .add a0_4 a1_4) t146)) ∧ w'.cell? ⟨gb145,5,none⟩ = some (.float .f64 0) ∧ w'.cell? ⟨gb145,6,none⟩ = some (.float .f64 0)) (ds:=[]) #[false,false,false,false,false,false,false,false,false,false,false,false] (by kernel_rfl) rfl rfl ⟨(blk_cell BK141.out 0).trans rfl,(blk_cell BK141.out 1).trans rfl,(blk_cell BK141.out 2).trans rfl,(blk_cell BK141.out 3).trans rfl,(blk_cell BK141.out 4).trans rfl,(blk_cell BK141.out 5).trans rfl,(blk_cell BK141.out 6).trans rfl,(blk_cell BK140.out 0).trans rfl,(blk_cell BK140.out 1).trans rfl,(blk_cell BK140.out 2).trans rfl,(blk_cell BK140.out 3).trans rfl,(blk_cell BK140.out 4).trans rfl,(blk_cell BK140.out 5).trans rfl,(blk_cell BK140.out 6).trans rfl,(blk_cell BK145.out 0).trans rfl,(blk_cell BK145.out 1).trans rfl,(blk_cell BK145.out 2).trans rfl,(blk_cell BK145.out 3).trans rfl,(blk_cell BK145.out 4).trans rfl,(blk_cell BK145.out 5).trans rfl,(blk_cell BK145.out 6).trans rfl⟩ (fun hHeld=>?_);refine with_tabW tally_Join.tab16 tally_Join.bits16 (fun HT_ HW_=>?_)
                    generalize w108.drew = w109 at BK140 BK141 BK142 BK145 HB hHeld ⊢
                    refine pure_ (i:=0) (N:=some 86) (v:=?_) (a':=?_) #[true,false,false,false,false,false,false,false,false,false,false,false] rfl rfl (any_of HT_.out (by kernel_rfl)) (fun _ _ _ h=>h) (Or.inl ⟨by rfl,?_⟩) ?_ ?_;rotate_left
                    ·intro w';go_simp;with_reducible rfl
                    rotate_left
                    ·simp only [Act.put,List.setIfInBounds_toArray,List.set_cons_zero,List.set_cons_succ,i64_w,i32_w];rfl
                    refine pure_ (i:=2) (N:=some 88) (v:=?_) (a':=?_) #[true,false,true,false,false,false,false,false,false,false,false,false] rfl rfl (any_of HT_.out (by kernel_rfl)) (fun _ _ _ h=>h) (Or.inl ⟨by rfl,?_⟩) ?_ ?_;rotate_left
                    ·intro w';go_simp;with_reducible rfl
                    rotate_left
                    ·simp only [Act.put,List.setIfInBounds_toArray,List.set_cons_zero,List.set_cons_succ,i64_w,i32_w];rfl
                    refine pure_ (i:=5) (N:=some 91) (v:=?_) (a':=?_) #[true,false,true,false,false,true,false,false,false,false,false,false] rfl rfl (any_of HT_.out (by kernel_rfl)) (fun _ _ _ h=>h) (Or.inl ⟨by rfl,?_⟩) ?_ ?_;rotate_left
                    ·intro w';go_simp;with_reducible rfl
                    rotate_left
                    ·simp only [Act.put,List.setIfInBounds_toArray,List.set_cons_zero,List.set_cons_succ,i64_w,i32_w];rfl
                    refine pure_ (i:=6) (N:=some 92) (v:=?_) (a':=?_) #[true,false,true,false,false,true,true,false,false,false,false,false] rfl rfl (any_of HT_.out (by kernel_rfl)) (fun _ _ _ h=>h) (Or.inl ⟨by rfl,?_⟩) ?_ ?_;rotate_left
                    ·intro w';go_simp;with_reducible rfl
                    rotate_left
                    ·simp only [Act.put,List.setIfInBounds_toArray,List.set_cons_zero,List.set_cons_succ,i64_w,i32_w];rfl
                    refine take_ (i:=1) (N:=some 87) (v:=?_) (a':=?_) #[true,true,true,false,false,true,true,false,false,false,false,false] rfl rfl (take_ofW HT_.out HW_.out (by kernel_rfl)) (fun _ _ _ h=>h) (Or.inl ⟨by rfl,?_⟩) hHeld ?_ ?_;rotate_left
                    ·rintro w' ⟨s0,s1,s2,s3,s4,s5,s6,s7,s8,s9,s10,s11,s12,s13,s14,s15,s16,s17,s18,s19,s20⟩;go_simp;with_reducible rfl
                    rotate_left
                    ·simp only [Act.put,List.setIfInBounds_toArray,List.set_cons_zero,List.set_cons_succ,i64_w,i32_w];rfl
                    refine take_ (i:=3) (N:=some 89) (v:=?_) (a':=?_) #[true,true,true,true,false,true,true,false,false,false,false,false] rfl rfl (take_ofW HT_.out HW_.out (by kernel_rfl)) (fun _ _ _ h=>h) (Or.inl ⟨by rfl,?_⟩) hHeld ?_ ?_;rotate_left
                    ·rintro w' ⟨s0,s1,s2,s3,s4,s5,s6,s7,s8,s9,s10,s11,s12,s13,s14,s15,s16,s17,s18,s19,s20⟩;go_simp;with_reducible rfl
                    rotate_left
                    ·simp only [Act.put,List.setIfInBounds_toArray,List.set_cons_zero,List.set_cons_succ,i64_w,i32_w];rfl
                    refine pure_ (i:=4) (N:=some 90) (v:=?_) (a':=?_) #[true,true,true,true,true,true,true,false,false,false,false,false] rfl rfl (any_of HT_.out (by kernel_rfl)) (fun _ _ _ h=>h) (Or.inl ⟨by rfl,?_⟩) ?_ ?_;rotate_left
                    ·intro w';go_simp;with_reducible rfl
                    rotate_left
                    ·simp only [Act.put,List.setIfInBounds_toArray,List.set_cons_zero,List.set_cons_succ,i64_w,i32_w];rfl
                    refine pure_ (i:=10) (N:=some 9) (v:=?_) (a':=?_) #[true,true,true,true,true,true,true,false,false,false,true,false] rfl rfl (any_of HT_.out (by kernel_rfl)) (fun _ _ _ h=>h) (Or.inl ⟨by rfl,?_⟩) ?_ ?_;rotate_left
                    ·intro w';go_simp;with_reducible rfl
                    rotate_left
                    ·simp only [Act.put,List.setIfInBounds_toArray,List.set_cons_zero,List.set_cons_succ,i64_w,i32_w];rfl
                    refine take_ (i:=7) (N:=some 93) (v:=?_) (a':=?_) #[true,true,true,true,true,true,true,true,false,false,true,false] rfl rfl (take_ofW HT_.out HW_.out (by kernel_rfl)) (fun _ _ _ h=>h) (Or.inl ⟨by rfl,?_⟩) hHeld ?_ ?_;rotate_left
                    ·rintro w' ⟨s0,s1,s2,s3,s4,s5,s6,s7,s8,s9,s10,s11,s12,s13,s14,s15,s16,s17,s18,s19,s20⟩;go_simp;with_reducible rfl
                    rotate_left
                    ·simp only [Act.put,List.setIfInBounds_toArray,List.set_cons_zero,List.set_cons_succ,i64_w,i32_w];rfl
                    refine pure_ (i:=8) (N:=some 94) (v:=?_) (a':=?_) #[true,true,true,true,true,true,true,true,true,false,true,false] rfl rfl (any_of HT_.out (by kernel_rfl)) (fun _ _ _ h=>h) (Or.inl ⟨by rfl,?_⟩) ?_ ?_;rotate_left
                    ·intro w';go_simp;with_reducible rfl
                    rotate_left
                    ·simp only [Act.put,List.setIfInBounds_toArray,List.set_cons_zero,List.set_cons_succ,i64_w,i32_w];rfl
                    refine pure_ (i:=9) (N:=some 95) (v:=?_) (a':=?_) #[true,true,true,true,true,true,true,true,true,true,true,false] rfl rfl (any_of HT_.out (by kernel_rfl)) (fun _ _ _ h=>h) (Or.inl ⟨by rfl,?_⟩) ?_ ?_;rotate_left
                    ·intro w';go_simp;with_reducible rfl
                    rotate_left
                    ·simp only [Act.put,List.setIfInBounds_toArray,List.set_cons_zero,List.set_cons_succ,i64_w,i32_w];rfl
                    refine pure_ (i:=11) (N:=some 10) (v:=?_) (a':=?_) #[true,true,true,true,true,true,true,true,true,true,true,true] rfl rfl (any_of HT_.out (by kernel_rfl)) (fun _ _ _ h=>h) (Or.inl ⟨by rfl,?_⟩) ?_ ?_;rotate_left
                    ·intro w';go_simp;with_reducible rfl
                    rotate_left
                    ·simp only [Act.put,List.setIfInBounds_toArray,List.set_cons_zero,List.set_cons_succ,i64_w,i32_w];rfl
                    refine done_ (done_of HT_.out (by kernel_rfl)) ?_;have hnb110:=NB140_141.out;have hnc110:=NB141_140.out;have hnb111:=NB140_142.out;have hnc111:=NB142_140.out;have hnb112:=NB140_145.out;have hnc112:=NB145_140.out;have hcz113_0 : w109.cell? ⟨gb140,0,none⟩ = some (.int .i64 a0_0):=(blk_cell BK140.out 0).trans rfl;have hcz113_1 : w109.cell? ⟨gb140,1,none⟩ = some (.float .f64 a0_1):=(blk_cell BK140.out 1).trans rfl;have hcz113_2 : w109.cell? ⟨gb140,2,none⟩ = some (.float .f64 a0_2):=(blk_cell BK140.out 2).trans rfl;have hcz113_3 : w109.cell? ⟨gb140,3,none⟩ = some (.float .f64 a0_3):=(blk_cell BK140.out 3).trans rfl;have hcz113_4 : w109.cell? ⟨gb140,4,none⟩ = some (.float .f64 a0_4):=(blk_cell BK140.out 4).trans rfl;have hcz113_5 : w109.cell? ⟨gb140,5,none⟩ = some (.float .f64 a0_5):=(blk_cell BK140.out 5).trans rfl;have hcz113_6 : w109.cell? ⟨gb140,6,none⟩ = some (.float .f64 a0_6):=(blk_cell BK140.out 6).trans rfl;have hfz113_0:=blk_frozen BK140.out 0;have hfz113_1:=blk_frozen BK140.out 1;have hfz113_2:=blk_frozen BK140.out 2;have hfz113_3:=blk_frozen BK140.out 3;have hfz113_4:=blk_frozen BK140.out 4;have hfz113_5:=blk_frozen BK140.out 5;have hfz113_6:=blk_frozen BK140.out 6;have hnb114:=NB145_141.out;have hnc114:=NB141_145.out;have hnb115:=NB145_142.out;have hnc115:=NB142_145.out;have hcz116_0 : w109.cell? ⟨gb145,0,none⟩ = some (.int .i64 (wrap64 (a0_0 + a1_0))):=(blk_cell BK145.out 0).trans rfl;have hcz116_1 : w109.cell? ⟨gb145,1,none⟩ = some (.float .f64 x146001_53):=(blk_cell BK145.out 1).trans rfl
                    have hcz116_2 : w109.cell? ⟨gb145,2,none⟩ = some (.float .f64 x146002_74):=(blk_cell BK145.out 2).trans rfl;have hcz116_3 : w109.cell? ⟨gb145,3,none⟩ = some (.float .f64 (fop .add a0_3 a1_3)):=(blk_cell BK145.out 3).trans rfl;have hcz116_4 : w109.cell? ⟨gb145,4,none⟩ = some (.float .f64 (fop .add (fop .add a0_4 a1_4) t146)):=(blk_cell BK145.out 4).trans rfl;have hcz116_5 : w109.cell? ⟨gb145,5,none⟩ = some (.float .f64 0):=(blk_cell BK145.out 5).trans rfl;have hcz116_6 : w109.cell? ⟨gb145,6,none⟩ = some (.float .f64 0):=(blk_cell BK145.out 6).trans rfl;have hfz116_0:=blk_frozen BK145.out 0;have hfz116_1:=blk_frozen BK145.out 1;have hfz116_2:=blk_frozen BK145.out 2;have hfz116_3:=blk_frozen BK145.out 3;have hfz116_4:=blk_frozen BK145.out 4;have hfz116_5:=blk_frozen BK145.out 5;have hfz116_6:=blk_frozen BK145.out 6;have hnb117:=NB141_142.out;have hnc117:=NB142_141.out;have hcz118_0 : w109.cell? ⟨gb141,0,none⟩ = some (.int .i64 a1_0):=(blk_cell BK141.out 0).trans rfl;have hcz118_1 : w109.cell? ⟨gb141,1,none⟩ = some (.float .f64 a1_1):=(blk_cell BK141.out 1).trans rfl;have hcz118_2 : w109.cell? ⟨gb141,2,none⟩ = some (.float .f64 a1_2):=(blk_cell BK141.out 2).trans rfl;have hcz118_3 : w109.cell? ⟨gb141,3,none⟩ = some (.float .f64 a1_3):=(blk_cell BK141.out 3).trans rfl;have hcz118_4 : w109.cell? ⟨gb141,4,none⟩ = some (.float .f64 a1_4):=(blk_cell BK141.out 4).trans rfl;have hcz118_5 : w109.cell? ⟨gb141,5,none⟩ = some (.float .f64 a1_5):=(blk_cell BK141.out 5).trans rfl
                    have hcz118_6 : w109.cell? ⟨gb141,6,none⟩ = some (.float .f64 a1_6):=(blk_cell BK141.out 6).trans rfl;have hfz118_0:=blk_frozen BK141.out 0;have hfz118_1:=blk_frozen BK141.out 1;have hfz118_2:=blk_frozen BK141.out 2;have hfz118_3:=blk_frozen BK141.out 3;have hfz118_4:=blk_frozen BK141.out 4;have hfz118_5:=blk_frozen BK141.out 5;have hfz118_6:=blk_frozen BK141.out 6
                    try go_wp2_with (first|((with_reducible refine gate_callee (f:=45) rfl ?_);refine goesL_ (some 118) rfl rfl Try.func45 (by kernel_rfl) rfl #[.agg #[.int .i64 (wrap64 (a0_0 + a1_0)),.float .f64 x146001_53,.float .f64 x146002_74,.float .f64 (fop .add a0_3 a1_3),.float .f64 (fop .add (fop .add a0_4 a1_4) t146),.float .f64 (fop .add a0_5 (fop .mul (fop .sub a1_5 a0_5) (fop .quo (floatOfInt .f64 a1_0) (floatOfInt .f64 (wrap64 (a0_0 + a1_0)))))),.float .f64 (fop .add (fop .add a0_6 a1_6) (fop .mul (fop .mul (fop .sub a1_5 a0_5) (fop .sub a1_5 a0_5)) (fop .mul (floatOfInt .f64 a0_0) (fop .quo (floatOfInt .f64 a1_0) (floatOfInt .f64 (wrap64 (a0_0 + a1_0)))))))]] rfl (by (try simp only [List.map_toArray,List.map_cons,List.map_nil]);first|done|rfl|(simp only [List.length_drop,List.length_take];rfl)) ?_;(with_reducible refine (tally_sound.calls kj74 (wrap64 (a0_0 + a1_0)) x146001_53 x146002_74 (fop .add a0_3 a1_3) (fop .add (fop .add a0_4 a1_4) t146) (fop .add a0_5 (fop .mul (fop .sub a1_5 a0_5) (fop .quo (floatOfInt .f64 a1_0) (floatOfInt .f64 (wrap64 (a0_0 + a1_0)))))) (fop .add (fop .add a0_6 a1_6) (fop .mul (fop .mul (fop .sub a1_5 a0_5) (fop .sub a1_5 a0_5)) (fop .mul (floatOfInt .f64 a0_0) (fop .quo (floatOfInt .f64 a1_0) (floatOfInt .f64 (wrap64 (a0_0 + a1_0))))))) true _ A103.out).mono ?_);rintro e w119 ⟨rfl,hb⟩;refine ⟨_,rfl,?_⟩;have n0_:=Aside0.mk (blk_below (g:=gb140) (o:=.cells #[.int .i64 a0_0,.float .f64 a0_1,.float .f64 a0_2,.float .f64 a0_3,.float .f64 a0_4,.float .f64 a0_5,.float .f64 a0_6] 26 (0,0)) (by (with_reducible repeat (first|refine blk_drewN ?_ _|refine blk_drew ?_|refine blk_alloc ?_ _));refine blk_far ?_ NB140_145.out _;(with_reducible repeat (first|refine blk_drewN ?_ _|refine blk_drew ?_|refine blk_alloc ?_ _));refine blk_far ?_ NB140_145.out _;(with_reducible repeat (first|refine blk_drewN ?_ _|refine blk_drew ?_|refine blk_alloc ?_ _));exact BK140.out) hb);have n1_:=Aside0.mk (blk_below (g:=gb141) (o:=.cells #[.int .i64 a1_0,.float .f64 a1_1,.float .f64 a1_2,.float .f64 a1_3,.float .f64 a1_4,.float .f64 a1_5,.float .f64 a1_6] 26 (0,0)) (by (with_reducible repeat (first|refine blk_drewN ?_ _|refine blk_drew ?_|refine blk_alloc ?_ _));refine blk_far ?_ NB141_145.out _;(with_reducible repeat (first|refine blk_drewN ?_ _|refine blk_drew ?_|refine blk_alloc ?_ _));refine blk_far ?_ NB141_145.out _;(with_reducible repeat (first|refine blk_drewN ?_ _|refine blk_drew ?_|refine blk_alloc ?_ _));exact BK141.out) hb);have n2_:=Aside0.mk (blk_below (g:=gb142) (o:=.cells #[.int .i64 0,.float .f64 0,.float .f64 0,.float .f64 0,.float .f64 0,.float .f64 0,.float .f64 0] 26 (0,0)) (by (with_reducible repeat (first|refine blk_drewN ?_ _|refine blk_drew ?_|refine blk_alloc ?_ _));refine blk_far ?_ NB142_145.out _;(with_reducible repeat (first|refine blk_drewN ?_ _|refine blk_drew ?_|refine blk_alloc ?_ _));refine blk_far ?_ NB142_145.out _;(with_reducible repeat (first|refine blk_drewN ?_ _|refine blk_drew ?_|refine blk_alloc ?_ _));exact BK142.out) hb);have n3_:=Aside0.mk (blk_below (g:=gb145) (o:=.cells #[.int .i64 (wrap64 (a0_0 + a1_0)),.float .f64 x146001_53,.float .f64 x146002_74,.float .f64 (fop .add a0_3 a1_3),.float .f64 (fop .add (fop .add a0_4 a1_4) t146),.float .f64 (fop .add a0_5 (fop .mul (fop .sub a1_5 a0_5) (fop .quo (floatOfInt .f64 a1_0) (floatOfInt .f64 (wrap64 (a0_0 + a1_0)))))),.float .f64 (fop .add (fop .add a0_6 a1_6) (fop .mul (fop .mul (fop .sub a1_5 a0_5) (fop .sub a1_5 a0_5)) (fop .mul (floatOfInt .f64 a0_0) (fop .quo (floatOfInt .f64 a1_0) (floatOfInt .f64 (wrap64 (a0_0 + a1_0)))))))] 26 (0,0)) (by (with_reducible repeat (first|refine blk_drewN ?_ _|refine blk_drew ?_|refine blk_alloc ?_ _));refine blk_put (cs:=#[.int .i64 (wrap64 (a0_0 + a1_0)),.float .f64 x146001_53,.float .f64 x146002_74,.float .f64 (fop .add a0_3 a1_3),.float .f64 (fop .add (fop .add a0_4 a1_4) t146),.float .f64 (fop .add a0_5 (fop .mul (fop .sub a1_5 a0_5) (fop .quo (floatOfInt .f64 a1_0) (floatOfInt .f64 (wrap64 (a0_0 + a1_0)))))),.float .f64 0]) ?_ 6 _ (by first|rfl|(simp only [px_pos,px_ne];rfl)|simp [px_pos,px_ne]);(with_reducible repeat (first|refine blk_drewN ?_ _|refine blk_drew ?_|refine blk_alloc ?_ _));refine blk_put (cs:=#[.int .i64 (wrap64 (a0_0 + a1_0)),.float .f64 x146001_53,.float .f64 x146002_74,.float .f64 (fop .add a0_3 a1_3),.float .f64 (fop .add (fop .add a0_4 a1_4) t146),.float .f64 0,.float .f64 0]) ?_ 5 _ (by first|rfl|(simp only [px_pos,px_ne];rfl)|simp [px_pos,px_ne]);(with_reducible repeat (first|refine blk_drewN ?_ _|refine blk_drew ?_|refine blk_alloc ?_ _));exact BK145.out) hb);have n4_:=Aside0.mk (below_step (by repeat (first|(with_reducible first|exact HB.out|apply below_alloc|apply pw_below_drewN|apply below_drew1|refine below_set ?_ GE140.out|refine below_set ?_ GE141.out|refine below_set ?_ GE142.out|refine below_set ?_ GE145.out)|exact HB.out)) hb);clear BK140;clear BK141;clear BK142;clear BK145;clear HB;have BK140:=n0_;have BK141:=n1_;have BK142:=n2_;have BK145:=n3_;have HB:=n4_;clear n0_ n1_ n2_ n3_ n4_;(try clear hb);(try clear hb2);(try clear hk);(try clear hi);have hcz120_0 : w119.cell? ⟨gb145,0,none⟩ = some (.int .i64 (wrap64 (a0_0 + a1_0))):=(blk_cell BK145.out 0).trans rfl;have hcz120_1 : w119.cell? ⟨gb145,1,none⟩ = some (.float .f64 x146001_53):=(blk_cell BK145.out 1).trans rfl;have hcz120_2 : w119.cell? ⟨gb145,2,none⟩ = some (.float .f64 x146002_74):=(blk_cell BK145.out 2).trans rfl;have hcz120_3 : w119.cell? ⟨gb145,3,none⟩ = some (.float .f64 (fop .add a0_3 a1_3)):=(blk_cell BK145.out 3).trans rfl;have hcz120_4 : w119.cell? ⟨gb145,4,none⟩ = some (.float .f64 (fop .add (fop .add a0_4 a1_4) t146)):=(blk_cell BK145.out 4).trans rfl;have hcz120_5 : w119.cell? ⟨gb145,5,none⟩ = some (.float .f64 (fop .add a0_5 (fop .mul (fop .sub a1_5 a0_5) (fop .quo (floatOfInt .f64 a1_0) (floatOfInt .f64 (wrap64 (a0_0 + a1_0))))))):=(blk_cell BK145.out 5).trans rfl;have hcz120_6 : w119.cell? ⟨gb145,6,none⟩ = some (.float .f64 (fop .add (fop .add a0_6 a1_6) (fop .mul (fop .mul (fop .sub a1_5 a0_5) (fop .sub a1_5 a0_5)) (fop .mul (floatOfInt .f64 a0_0) (fop .quo (floatOfInt .f64 a1_0) (floatOfInt .f64 (wrap64 (a0_0 + a1_0)))))))):=(blk_cell BK145.out 6).trans rfl;have hfz120_0:=blk_frozen BK145.out 0;have hfz120_1:=blk_frozen BK145.out 1;have hfz120_2:=blk_frozen BK145.out 2;have hfz120_3:=blk_frozen BK145.out 3;have hfz120_4:=blk_frozen BK145.out 4;have hfz120_5:=blk_frozen BK145.out 5;have hfz120_6:=blk_frozen BK145.out 6;have hcz121_0 : w119.cell? ⟨gb142,0,none⟩ = some (.int .i64 0):=(blk_cell BK142.out 0).trans rfl;have hcz121_1 : w119.cell? ⟨gb142,1,none⟩ = some (.float .f64 0):=(blk_cell BK142.out 1).trans rfl;have hcz121_2 : w119.cell? ⟨gb142,2,none⟩ = some (.float .f64 0):=(blk_cell BK142.out 2).trans rfl;have hcz121_3 : w119.cell? ⟨gb142,3,none⟩ = some (.float .f64 0):=(blk_cell BK142.out 3).trans rfl;have hcz121_4 : w119.cell? ⟨gb142,4,none⟩ = some (.float .f64 0):=(blk_cell BK142.out 4).trans rfl;have hcz121_5 : w119.cell? ⟨gb142,5,none⟩ = some (.float .f64 0):=(blk_cell BK142.out 5).trans rfl;have hcz121_6 : w119.cell? ⟨gb142,6,none⟩ = some (.float .f64 0):=(blk_cell BK142.out 6).trans rfl;have hfz121_0:=blk_frozen BK142.out 0;have hfz121_1:=blk_frozen BK142.out 1;have hfz121_2:=blk_frozen BK142.out 2;have hfz121_3:=blk_frozen BK142.out 3;have hfz121_4:=blk_frozen BK142.out 4;have hfz121_5:=blk_frozen BK142.out 5;have hfz121_6:=blk_frozen BK142.out 6))
                    refine bodyPost_ret (results_ct rfl _ _ gb142 26 #[.int .i64 (wrap64 (a0_0 + a1_0)),.float .f64 x146001_53,.float .f64 x146002_74,.float .f64 (fop .add a0_3 a1_3),.float .f64 (fop .add (fop .add a0_4 a1_4) t146),.float .f64 (fop .add a0_5 (fop .mul (fop .sub a1_5 a0_5) (fop .quo (floatOfInt .f64 a1_0) (floatOfInt .f64 (wrap64 (a0_0 + a1_0)))))),.float .f64 (fop .add (fop .add a0_6 a1_6) (fop .mul (fop .mul (fop .sub a1_5 a0_5) (fop .sub a1_5 a0_5)) (fop .mul (floatOfInt .f64 a0_0) (fop .quo (floatOfInt .f64 a1_0) (floatOfInt .f64 (wrap64 (a0_0 + a1_0)))))))] (0,0) _ rfl (by (with_reducible repeat (first|refine blk_drewN ?_ _|refine blk_drew ?_|refine blk_alloc ?_ _));refine blk_put (cs:=#[.int .i64 (wrap64 (a0_0 + a1_0)),.float .f64 x146001_53,.float .f64 x146002_74,.float .f64 (fop .add a0_3 a1_3),.float .f64 (fop .add (fop .add a0_4 a1_4) t146),.float .f64 (fop .add a0_5 (fop .mul (fop .sub a1_5 a0_5) (fop .quo (floatOfInt .f64 a1_0) (floatOfInt .f64 (wrap64 (a0_0 + a1_0)))))),.float .f64 0]) ?_ 6 _ (by first|rfl|(simp only [px_pos,px_ne];rfl)|simp [px_pos,px_ne]);(with_reducible repeat (first|refine blk_drewN ?_ _|refine blk_drew ?_|refine blk_alloc ?_ _));refine blk_put (cs:=#[.int .i64 (wrap64 (a0_0 + a1_0)),.float .f64 x146001_53,.float .f64 x146002_74,.float .f64 (fop .add a0_3 a1_3),.float .f64 (fop .add (fop .add a0_4 a1_4) t146),.float .f64 0,.float .f64 0]) ?_ 5 _ (by first|rfl|(simp only [px_pos,px_ne];rfl)|simp [px_pos,px_ne]);(with_reducible repeat (first|refine blk_drewN ?_ _|refine blk_drew ?_|refine blk_alloc ?_ _));refine blk_put (cs:=#[.int .i64 (wrap64 (a0_0 + a1_0)),.float .f64 x146001_53,.float .f64 x146002_74,.float .f64 (fop .add a0_3 a1_3),.float .f64 0,.float .f64 0,.float .f64 0]) ?_ 4 _ (by first|rfl|(simp only [px_pos,px_ne];rfl)|simp [px_pos,px_ne]);(with_reducible repeat (first|refine blk_drewN ?_ _|refine blk_drew ?_|refine blk_alloc ?_ _));refine blk_put (cs:=#[.int .i64 (wrap64 (a0_0 + a1_0)),.float .f64 x146001_53,.float .f64 x146002_74,.float .f64 0,.float .f64 0,.float .f64 0,.float .f64 0]) ?_ 3 _ (by first|rfl|(simp only [px_pos,px_ne];rfl)|simp [px_pos,px_ne]);(with_reducible repeat (first|refine blk_drewN ?_ _|refine blk_drew ?_|refine blk_alloc ?_ _));refine blk_put (cs:=#[.int .i64 (wrap64 (a0_0 + a1_0)),.float .f64 x146001_53,.float .f64 0,.float .f64 0,.float .f64 0,.float .f64 0,.float .f64 0]) ?_ 2 _ (by first|rfl|(simp only [px_pos,px_ne];rfl)|simp [px_pos,px_ne]);(with_reducible repeat (first|refine blk_drewN ?_ _|refine blk_drew ?_|refine blk_alloc ?_ _));refine blk_put (cs:=#[.int .i64 (wrap64 (a0_0 + a1_0)),.float .f64 0,.float .f64 0,.float .f64 0,.float .f64 0,.float .f64 0,.float .f64 0]) ?_ 1 _ (by first|rfl|(simp only [px_pos,px_ne];rfl)|simp [px_pos,px_ne]);(with_reducible repeat (first|refine blk_drewN ?_ _|refine blk_drew ?_|refine blk_alloc ?_ _));refine blk_put (cs:=#[.int .i64 0,.float .f64 0,.float .f64 0,.float .f64 0,.float .f64 0,.float .f64 0,.float .f64 0]) ?_ 0 _ (by first|rfl|(simp only [px_pos,px_ne];rfl)|simp [px_pos,px_ne]);(with_reducible repeat (first|refine blk_drewN ?_ _|refine blk_drew ?_|refine blk_alloc ?_ _));exact BK142.out) Try.underlying26 rfl (by kernel_rfl)) rfl ?_
                    exact ⟨by first|rfl|(rw [px_ne];rfl)|(simp [errW_none,errW_some] <;> rfl)|(simp [*,errW_none,errW_some] <;> rfl),by repeat (first|(with_reducible first|exact HB.out|apply below_alloc|apply pw_below_drewN|apply below_drew1|refine below_set ?_ GE140.out|refine below_set ?_ GE141.out|refine below_set ?_ GE142.out|refine below_set ?_ GE145.out)|exact HB.out)⟩
                   replace c104:=Bool.eq_false_iff.mpr c104;subst c104
                   have H1 : (some (0,0,0,0,0,0,0,121)) = some (r1,r2,r3,r4,r5,r6,r7,r8):=by rw [if_neg (show ¬ (false = true) by decide)] at H;exact H
                   clear H;have H:=H1;clear H1
                   simp only [Option.some.injEq,Prod.mk.injEq] at H
                   obtain ⟨rfl,rfl,rfl,rfl,rfl,rfl,rfl,rfl⟩:=H
                   try go_wp2
                   have n0_:=Aside0.mk (blk_drew BK140.out);have n1_:=Aside0.mk (blk_drew BK141.out);have n2_:=Aside0.mk (blk_drew BK142.out);have n3_:=Aside0.mk (blk_drew BK145.out);have n4_:=Aside0.mk (below_drew1 HB.out);clear BK140;clear BK141;clear BK142;clear BK145;clear HB;have BK140:=n0_;have BK141:=n1_;have BK142:=n2_;have BK145:=n3_;have HB:=n4_;clear n0_ n1_ n2_ n3_ n4_;refine start_ (n:=15) (S:=fun w'=>w'.cell? ⟨gb140,0,none⟩ = some (.int .i64 a0_0) ∧ w'.cell? ⟨gb140,1,none⟩ = some (.float .f64 a0_1) ∧ w'.cell? ⟨gb140,2,none⟩ = some (.float .f64 a0_2) ∧ w'.cell? ⟨gb140,3,none⟩ = some (.float .f64 a0_3) ∧ w'.cell? ⟨gb140,4,none⟩ = some (.float .f64 a0_4) ∧ w'.cell? ⟨gb140,5,none⟩ = some (.float .f64 a0_5) ∧ w'.cell? ⟨gb140,6,none⟩ = some (.float .f64 a0_6) ∧ w'.cell? ⟨gb141,0,none⟩ = some (.int .i64 a1_0) ∧ w'.cell? ⟨gb141,1,none⟩ = some (.float .f64 a1_1) ∧ w'.cell? ⟨gb141,2,none⟩ = some (.float .f64 a1_2) ∧ w'.cell? ⟨gb141,3,none⟩ = some (.float .f64 a1_3) ∧ w'.cell? ⟨gb141,4,none⟩ = some (.float .f64 a1_4) ∧ w'.cell? ⟨gb141,5,none⟩ = some (.float .f64 a1_5) ∧ w'.cell? ⟨gb141,6,none⟩ = some (.float .f64 a1_6) ∧ w'.cell? ⟨gb145,0,none⟩ = some (.int .i64 (wrap64 (a0_0 + a1_0))) ∧ w'.cell? ⟨gb145,1,none⟩ = some (.float .f64 x146001_53) ∧ w'.cell? ⟨gb145,2,none⟩ = some (.float .f64 x146002_74) ∧ w'.cell? ⟨gb145,3,none⟩ = some (.float .f64 (fop .add a0_3 a1_3)) ∧ w'.cell? ⟨gb145,4,none⟩ = some (.float .f64 0) ∧ w'.cell? ⟨gb145,5,none⟩ = some (.float .f64 0) ∧ w'.cell? ⟨gb145,6,none⟩ = some (.float .f64 0)) (ds:=[14]) #[false,false,false,false,false,false,false,false,false,false,false,false,false,false,false] (by kernel_rfl) rfl rfl ⟨(blk_cell BK140.out 0).trans rfl,(blk_cell BK140.out 1).trans rfl,(blk_cell BK140.out 2).trans rfl,(blk_cell BK140.out 3).trans rfl,(blk_cell BK140.out 4).trans rfl,(blk_cell BK140.out 5).trans rfl,(blk_cell BK140.out 6).trans rfl,(blk_cell BK141.out 0).trans rfl,(blk_cell BK141.out 1).trans rfl,(blk_cell BK141.out 2).trans rfl,(blk_cell BK141.out 3).trans rfl,(blk_cell BK141.out 4).trans rfl,(blk_cell BK141.out 5).trans rfl,(blk_cell BK141.out 6).trans rfl,(blk_cell BK145.out 0).trans rfl,(blk_cell BK145.out 1).trans rfl,(blk_cell BK145.out 2).trans rfl,(blk_cell BK145.out 3).trans rfl,(blk_cell BK145.out 4).trans rfl,(blk_cell BK145.out 5).trans rfl,(blk_cell BK145.out 6).trans rfl⟩ (fun hHeld=>?_);refine with_tabW tally_Join.tab14 tally_Join.bits14 (fun HT_ HW_=>?_)
                   generalize wc.drew = w122 at BK140 BK141 BK142 BK145 HB hHeld ⊢
                   refine pure_ (i:=0) (N:=some 66) (v:=?_) (a':=?_) #[true,false,false,false,false,false,false,false,false,false,false,false,false,false,false] rfl rfl (any_of HT_.out (by kernel_rfl)) (fun _ _ _ h=>h) (Or.inl ⟨by rfl,?_⟩) ?_ ?_;rotate_left
                   ·intro w';go_simp;with_reducible rfl
                   rotate_left
                   ·simp only [Act.put,List.setIfInBounds_toArray,List.set_cons_zero,List.set_cons_succ,i64_w,i32_w];rfl
                   refine pure_ (i:=2) (N:=some 68) (v:=?_) (a':=?_) #[true,false,true,false,false,false,false,false,false,false,false,false,false,false,false] rfl rfl (any_of HT_.out (by kernel_rfl)) (fun _ _ _ h=>h) (Or.inl ⟨by rfl,?_⟩) ?_ ?_;rotate_left
                   ·intro w';go_simp;with_reducible rfl
                   rotate_left
                   ·simp only [Act.put,List.setIfInBounds_toArray,List.set_cons_zero,List.set_cons_succ,i64_w,i32_w];rfl
                   refine pure_ (i:=5) (N:=some 71) (v:=?_) (a':=?_) #[true,false,true,false,false,true,false,false,false,false,false,false,false,false,false] rfl rfl (any_of HT_.out (by kernel_rfl)) (fun _ _ _ h=>h) (Or.inl ⟨by rfl,?_⟩) ?_ ?_;rotate_left
                   ·intro w';go_simp;with_reducible rfl
                   rotate_left
                   ·simp only [Act.put,List.setIfInBounds_toArray,List.set_cons_zero,List.set_cons_succ,i64_w,i32_w];rfl
                   refine pure_ (i:=7) (N:=some 73) (v:=?_) (a':=?_) #[true,false,true,false,false,true,false,true,false,false,false,false,false,false,false] rfl rfl (any_of HT_.out (by kernel_rfl)) (fun _ _ _ h=>h) (Or.inl ⟨by rfl,?_⟩) ?_ ?_;rotate_left
                   ·intro w';go_simp;with_reducible rfl
                   rotate_left
                   ·simp only [Act.put,List.setIfInBounds_toArray,List.set_cons_zero,List.set_cons_succ,i64_w,i32_w];rfl
                   refine pure_ (i:=9) (N:=some 75) (v:=?_) (a':=?_) #[true,false,true,false,false,true,false,true,false,true,false,false,false,false,false] rfl rfl (any_of HT_.out (by kernel_rfl)) (fun _ _ _ h=>h) (Or.inl ⟨by rfl,?_⟩) ?_ ?_;rotate_left
                   ·intro w';go_simp;with_reducible rfl
                   rotate_left
                   ·simp only [Act.put,List.setIfInBounds_toArray,List.set_cons_zero,List.set_cons_succ,i64_w,i32_w];rfl
                   refine take_ (i:=1) (N:=some 67) (v:=?_) (a':=?_) #[true,true,true,false,false,true,false,true,false,true,false,false,false,false,false] rfl rfl (take_ofW HT_.out HW_.out (by kernel_rfl)) (fun _ _ _ h=>h) (Or.inl ⟨by rfl,?_⟩) hHeld ?_ ?_;rotate_left
                   ·rintro w' ⟨s0,s1,s2,s3,s4,s5,s6,s7,s8,s9,s10,s11,s12,s13,s14,s15,s16,s17,s18,s19,s20⟩;go_simp;with_reducible rfl
                   rotate_left
                   ·simp only [Act.put,List.setIfInBounds_toArray,List.set_cons_zero,List.set_cons_succ,i64_w,i32_w];rfl
                   refine take_ (i:=3) (N:=some 69) (v:=?_) (a':=?_) #[true,true,true,true,false,true,false,true,false,true,false,false,false,false,false] rfl rfl (take_ofW HT_.out HW_.out (by kernel_rfl)) (fun _ _ _ h=>h) (Or.inl ⟨by rfl,?_⟩) hHeld ?_ ?_;rotate_left
                   ·rintro w' ⟨s0,s1,s2,s3,s4,s5,s6,s7,s8,s9,s10,s11,s12,s13,s14,s15,s16,s17,s18,s19,s20⟩;go_simp;with_reducible rfl
                   rotate_left
                   ·simp only [Act.put,List.setIfInBounds_toArray,List.set_cons_zero,List.set_cons_succ,i64_w,i32_w];rfl
                   refine pure_ (i:=4) (N:=some 70) (v:=?_) (a':=?_) #[true,true,true,true,true,true,false,true,false,true,false,false,false,false,false] rfl rfl (any_of HT_.out (by kernel_rfl)) (fun _ _ _ h=>h) (Or.inl ⟨by rfl,?_⟩) ?_ ?_;rotate_left
                   ·intro w';go_simp;with_reducible rfl
                   rotate_left
                   ·simp only [Act.put,List.setIfInBounds_toArray,List.set_cons_zero,List.set_cons_succ,i64_w,i32_w];rfl
                   refine take_ (i:=6) (N:=some 72) (v:=?_) (a':=?_) #[true,true,true,true,true,true,true,true,false,true,false,false,false,false,false] rfl rfl (take_ofW HT_.out HW_.out (by kernel_rfl)) (fun _ _ _ h=>h) (Or.inl ⟨by rfl,?_⟩) hHeld ?_ ?_;rotate_left
                   ·rintro w' ⟨s0,s1,s2,s3,s4,s5,s6,s7,s8,s9,s10,s11,s12,s13,s14,s15,s16,s17,s18,s19,s20⟩;go_simp;with_reducible rfl
                   rotate_left
                   ·simp only [Act.put,List.setIfInBounds_toArray,List.set_cons_zero,List.set_cons_succ,i64_w,i32_w];rfl
                   refine take_ (i:=8) (N:=some 74) (v:=?_) (a':=?_) #[true,true,true,true,true,true,true,true,true,true,false,false,false,false,false] rfl rfl (take_ofW HT_.out HW_.out (by kernel_rfl)) (fun _ _ _ h=>h) (Or.inl ⟨by rfl,?_⟩) hHeld ?_ ?_;rotate_left
                   ·rintro w' ⟨s0,s1,s2,s3,s4,s5,s6,s7,s8,s9,s10,s11,s12,s13,s14,s15,s16,s17,s18,s19,s20⟩;go_simp;with_reducible rfl
                   rotate_left
                   ·simp only [Act.put,List.setIfInBounds_toArray,List.set_cons_zero,List.set_cons_succ,i64_w,i32_w];rfl
                   refine take_ (i:=10) (N:=some 76) (v:=?_) (a':=?_) #[true,true,true,true,true,true,true,true,true,true,true,false,false,false,false] rfl rfl (take_ofW HT_.out HW_.out (by kernel_rfl)) (fun _ _ _ h=>h) (Or.inl ⟨by rfl,?_⟩) hHeld ?_ ?_;rotate_left
                   ·rintro w' ⟨s0,s1,s2,s3,s4,s5,s6,s7,s8,s9,s10,s11,s12,s13,s14,s15,s16,s17,s18,s19,s20⟩;go_simp;with_reducible rfl
                   rotate_left
                   ·simp only [Act.put,List.setIfInBounds_toArray,List.set_cons_zero,List.set_cons_succ,i64_w,i32_w];rfl
                   refine one_ (i:=11) (N:=some 77) #[true,true,true,true,true,true,true,true,true,true,true,true,false,false,false] rfl rfl (one_of HT_.out (by kernel_rfl)) (by decide) (fun K hK=>?_);refine goes_ Try.func44 (by kernel_rfl) rfl #[.float .f64 a0_3,.float .f64 a1_3,.float .f64 (fop .add a0_3 a1_3)] (by rfl) rfl rfl (by (try simp only [List.map_toArray,List.map_cons,List.map_nil]);first|done|rfl|(simp only [List.length_drop,List.length_take];rfl)) ?_
                   with_reducible refine (tally_lost.calls a0_3 a1_3 (fop .add a0_3 a1_3) t146 _ A92.out).mono ?_
                   rintro e w' ⟨rfl,⟨nd,rfl⟩⟩;refine ⟨_,rfl,?_⟩;refine hK.out _ _ ⟨(blk_cell BK140.out 0).trans rfl,(blk_cell BK140.out 1).trans rfl,(blk_cell BK140.out 2).trans rfl,(blk_cell BK140.out 3).trans rfl,(blk_cell BK140.out 4).trans rfl,(blk_cell BK140.out 5).trans rfl,(blk_cell BK140.out 6).trans rfl,(blk_cell BK141.out 0).trans rfl,(blk_cell BK141.out 1).trans rfl,(blk_cell BK141.out 2).trans rfl,(blk_cell BK141.out 3).trans rfl,(blk_cell BK141.out 4).trans rfl,(blk_cell BK141.out 5).trans rfl,(blk_cell BK141.out 6).trans rfl,(blk_cell BK145.out 0).trans rfl,(blk_cell BK145.out 1).trans rfl,(blk_cell BK145.out 2).trans rfl,(blk_cell BK145.out 3).trans rfl,(blk_cell BK145.out 4).trans rfl,(blk_cell BK145.out 5).trans rfl,(blk_cell BK145.out 6).trans rfl⟩ (fun hHeld=>?_);clear hK K;refine norm_ (a':=?_) ?_ ?_;rotate_left
                   ·show Act.put _ (some 77) _ = _
                    simp only [Act.put,List.setIfInBounds_toArray,List.set_cons_zero,List.set_cons_succ,i64_w,i32_w];rfl
                   refine pure_ (i:=12) (N:=some 78) (v:=?_) (a':=?_) #[true,true,true,true,true,true,true,true,true,true,true,true,true,false,false] rfl rfl (any_of HT_.out (by kernel_rfl)) (fun _ _ _ h=>h) (Or.inl ⟨by rfl,?_⟩) ?_ ?_;rotate_left
                   ·intro w';go_simp;with_reducible rfl
                   rotate_left
                   ·simp only [Act.put,List.setIfInBounds_toArray,List.set_cons_zero,List.set_cons_succ,i64_w,i32_w];rfl
                   refine pure_ (i:=13) (N:=some 79) (v:=?_) (a':=?_) #[true,true,true,true,true,true,true,true,true,true,true,true,true,true,false] rfl rfl (any_of HT_.out (by kernel_rfl)) (fun _ _ _ h=>h) (Or.inl ⟨by rfl,?_⟩) ?_ ?_;rotate_left
                   ·intro w';go_simp;with_reducible rfl
                   rotate_left
                   ·simp only [Act.put,List.setIfInBounds_toArray,List.set_cons_zero,List.set_cons_succ,i64_w,i32_w];rfl
                   refine last_ (i:=14) (N:=none) #[true,true,true,true,true,true,true,true,true,true,true,true,true,true,true] rfl rfl (one_of HT_.out (by kernel_rfl)) (by decide) (fun K hK=>?_);have hs123 : w122.cell? ⟨gb145,4,none⟩ = some (.float .f64 0):=(blk_cell BK145.out 4).trans rfl;have hfs123:=blk_frozen BK145.out 4;have hns123_0:=NB140_145.out;have hns123_1:=NB141_145.out;have hns123_2:=NB142_145.out;have hms123_0:=NB145_140.out;have hms123_1:=NB145_141.out;have hms123_2:=NB145_142.out;refine skip_ (w1:=?_) (by rfl) rfl ?_ ?_;rotate_left
                   ·go_simp;rfl
                   refine hK.out _ _ ?_;clear hK K;refine done_ (done_of HT_.out (by kernel_rfl)) ?_
                   try go_wp2
                   obtain ⟨w124,hW_⟩ : ∃ w_,w_ = ((w122.drewN nd).setCell ⟨gb145,4,none⟩ (.float .f64 (fop .add (fop .add a0_4 a1_4) t146))):=⟨_,rfl⟩
                   have n0_ : Aside0 (w124.heap[gb140]? = some (.cells #[.int .i64 a0_0,.float .f64 a0_1,.float .f64 a0_2,.float .f64 a0_3,.float .f64 a0_4,.float .f64 a0_5,.float .f64 a0_6] 26 (0,0))):=⟨by rw [hW_];exact blk_far (blk_drewN BK140.out nd) (p:=⟨gb145,4,none⟩) NB140_145.out _⟩;have n1_ : Aside0 (w124.heap[gb141]? = some (.cells #[.int .i64 a1_0,.float .f64 a1_1,.float .f64 a1_2,.float .f64 a1_3,.float .f64 a1_4,.float .f64 a1_5,.float .f64 a1_6] 26 (0,0))):=⟨by rw [hW_];exact blk_far (blk_drewN BK141.out nd) (p:=⟨gb145,4,none⟩) NB141_145.out _⟩;have n2_ : Aside0 (w124.heap[gb142]? = some (.cells #[.int .i64 0,.float .f64 0,.float .f64 0,.float .f64 0,.float .f64 0,.float .f64 0,.float .f64 0] 26 (0,0))):=⟨by rw [hW_];exact blk_far (blk_drewN BK142.out nd) (p:=⟨gb145,4,none⟩) NB142_145.out _⟩;have n3_ : Aside0 (w124.heap[gb145]? = some (.cells #[.int .i64 (wrap64 (a0_0 + a1_0)),.float .f64 x146001_53,.float .f64 x146002_74,.float .f64 (fop .add a0_3 a1_3),.float .f64 (fop .add (fop .add a0_4 a1_4) t146),.float .f64 0,.float .f64 0] 26 (0,0))):=⟨by rw [hW_];exact blk_put (blk_drewN BK145.out nd) 4 _ rfl⟩;have n4_ : Aside0 (Below w.heap.size w w124):=⟨by rw [hW_];exact below_set (pw_below_drewN HB.out nd) GE145.out⟩
                   (try clear BK140)
                   (try clear BK141)
                   (try clear BK142)
                   (try clear BK145)
                   (try clear HB)
                   rw [← hW_];clear hW_;have BK140:=n0_;have BK141:=n1_;have BK142:=n2_;have BK145:=n3_;have HB:=n4_;clear n0_ n1_ n2_ n3_ n4_;have n0_:=Aside0.mk (blk_drew BK140.out);have n1_:=Aside0.mk (blk_drew BK141.out);have n2_:=Aside0.mk (blk_drew BK142.out);have n3_:=Aside0.mk (blk_drew BK145.out);have n4_:=Aside0.mk (below_drew1 HB.out);clear BK140;clear BK141;clear BK142;clear BK145;clear HB;have BK140:=n0_;have BK141:=n1_;have BK142:=n2_;have BK145:=n3_;have HB:=n4_;clear n0_ n1_ n2_ n3_ n4_;refine start_ (n:=8) (S:=fun w'=>w'.cell? ⟨gb140,0,none⟩ = some (.int .i64 a0_0) ∧ w'.cell? ⟨gb140,1,none⟩ = some (.float .f64 a0_1) ∧ w'.cell? ⟨gb140,2,none⟩ = some (.float .f64 a0_2) ∧ w'.cell? ⟨gb140,3,none⟩ = some (.float .f64 a0_3) ∧ w'.cell? ⟨gb140,4,none⟩ = some (.float .f64 a0_4) ∧ w'.cell? ⟨gb140,5,none⟩ = some (.float .f64 a0_5) ∧ w'.cell? ⟨gb140,6,none⟩ = some (.float .f64 a0_6) ∧ w'.cell? ⟨gb141,0,none⟩ = some (.int .i64 a1_0) ∧ w'.cell? ⟨gb141,1,none⟩ = some (.float .f64 a1_1) ∧ w'.cell? ⟨gb141,2,none⟩ = some (.float .f64 a1_2) ∧ w'.cell? ⟨gb141,3,none⟩ = some (.float .f64 a1_3) ∧ w'.cell? ⟨gb141,4,none⟩ = some (.float .f64 a1_4) ∧ w'.cell? ⟨gb141,5,none⟩ = some (.float .f64 a1_5) ∧ w'.cell? ⟨gb141,6,none⟩ = some (.float .f64 a1_6)) (ds:=[]) #[false,false,false,false,false,false,false,false] (by kernel_rfl) rfl rfl ⟨(blk_cell BK140.out 0).trans rfl,(blk_cell BK140.out 1).trans rfl,(blk_cell BK140.out 2).trans rfl,(blk_cell BK140.out 3).trans rfl,(blk_cell BK140.out 4).trans rfl,(blk_cell BK140.out 5).trans rfl,(blk_cell BK140.out 6).trans rfl,(blk_cell BK141.out 0).trans rfl,(blk_cell BK141.out 1).trans rfl,(blk_cell BK141.out 2).trans rfl,(blk_cell BK141.out 3).trans rfl,(blk_cell BK141.out 4).trans rfl,(blk_cell BK141.out 5).trans rfl,(blk_cell BK141.out 6).trans rfl⟩ (fun hHeld=>?_);refine with_tabW tally_Join.tab15 tally_Join.bits15 (fun HT_ HW_=>?_)
                   generalize w124.drew = w125 at BK140 BK141 BK142 BK145 HB hHeld ⊢
                   refine pure_ (i:=0) (N:=some 80) (v:=?_) (a':=?_) #[true,false,false,false,false,false,false,false] rfl rfl (any_of HT_.out (by kernel_rfl)) (fun _ _ _ h=>h) (Or.inl ⟨by rfl,?_⟩) ?_ ?_;rotate_left
                   ·intro w';go_simp;with_reducible rfl
                   rotate_left
                   ·simp only [Act.put,List.setIfInBounds_toArray,List.set_cons_zero,List.set_cons_succ,i64_w,i32_w];rfl
                   refine pure_ (i:=3) (N:=some 83) (v:=?_) (a':=?_) #[true,false,false,true,false,false,false,false] rfl rfl (any_of HT_.out (by kernel_rfl)) (fun _ _ _ h=>h) (Or.inl ⟨by rfl,?_⟩) ?_ ?_;rotate_left
                   ·intro w';go_simp;with_reducible rfl
                   rotate_left
                   ·simp only [Act.put,List.setIfInBounds_toArray,List.set_cons_zero,List.set_cons_succ,i64_w,i32_w];rfl
                   refine take_ (i:=1) (N:=some 81) (v:=?_) (a':=?_) #[true,true,false,true,false,false,false,false] rfl rfl (take_ofW HT_.out HW_.out (by kernel_rfl)) (fun _ _ _ h=>h) (Or.inl ⟨by rfl,?_⟩) hHeld ?_ ?_;rotate_left
                   ·rintro w' ⟨s0,s1,s2,s3,s4,s5,s6,s7,s8,s9,s10,s11,s12,s13⟩;go_simp;with_reducible rfl
                   rotate_left
                   ·simp only [Act.put,List.setIfInBounds_toArray,List.set_cons_zero,List.set_cons_succ,i64_w,i32_w];rfl
                   refine pure_ (i:=2) (N:=some 82) (v:=?_) (a':=?_) #[true,true,true,true,false,false,false,false] rfl rfl (any_of HT_.out (by kernel_rfl)) (fun _ _ _ h=>h) (Or.inl ⟨by rfl,?_⟩) ?_ ?_;rotate_left
                   ·intro w';go_simp;with_reducible rfl
                   rotate_left
                   ·simp only [Act.put,List.setIfInBounds_toArray,List.set_cons_zero,List.set_cons_succ,i64_w,i32_w];rfl
                   refine pure_ (i:=6) (N:=some 7) (v:=?_) (a':=?_) #[true,true,true,true,false,false,true,false] rfl rfl (any_of HT_.out (by kernel_rfl)) (fun _ _ _ h=>h) (Or.inl ⟨by rfl,?_⟩) ?_ ?_;rotate_left
                   ·intro w';go_simp;with_reducible rfl
                   rotate_left
                   ·simp only [Act.put,List.setIfInBounds_toArray,List.set_cons_zero,List.set_cons_succ,i64_w,i32_w];rfl
                   refine take_ (i:=4) (N:=some 84) (v:=?_) (a':=?_) #[true,true,true,true,true,false,true,false] rfl rfl (take_ofW HT_.out HW_.out (by kernel_rfl)) (fun _ _ _ h=>h) (Or.inl ⟨by rfl,?_⟩) hHeld ?_ ?_;rotate_left
                   ·rintro w' ⟨s0,s1,s2,s3,s4,s5,s6,s7,s8,s9,s10,s11,s12,s13⟩;go_simp;with_reducible rfl
                   rotate_left
                   ·simp only [Act.put,List.setIfInBounds_toArray,List.set_cons_zero,List.set_cons_succ,i64_w,i32_w];rfl
                   refine pure_ (i:=5) (N:=some 85) (v:=?_) (a':=?_) #[true,true,true,true,true,true,true,false] rfl rfl (any_of HT_.out (by kernel_rfl)) (fun _ _ _ h=>h) (Or.inl ⟨by rfl,?_⟩) ?_ ?_;rotate_left
                   ·intro w';go_simp;with_reducible rfl
                   rotate_left
                   ·simp only [Act.put,List.setIfInBounds_toArray,List.set_cons_zero,List.set_cons_succ,i64_w,i32_w];rfl
                   refine pure_ (i:=7) (N:=some 8) (v:=?_) (a':=?_) #[true,true,true,true,true,true,true,true] rfl rfl (any_of HT_.out (by kernel_rfl)) (fun _ _ _ h=>h) (Or.inl ⟨by rfl,?_⟩) ?_ ?_;rotate_left
                   ·intro w';go_simp;with_reducible rfl
                   rotate_left
                   ·simp only [Act.put,List.setIfInBounds_toArray,List.set_cons_zero,List.set_cons_succ,i64_w,i32_w];rfl
                   refine done_ (done_of HT_.out (by kernel_rfl)) ?_
                   try go_wp2
                   have n0_:=Aside0.mk (blk_drew BK140.out);have n1_:=Aside0.mk (blk_drew BK141.out);have n2_:=Aside0.mk (blk_drew BK142.out);have n3_:=Aside0.mk (blk_drew BK145.out);have n4_:=Aside0.mk (below_drew1 HB.out);clear BK140;clear BK141;clear BK142;clear BK145;clear HB;have BK140:=n0_;have BK141:=n1_;have BK142:=n2_;have BK145:=n3_;have HB:=n4_;clear n0_ n1_ n2_ n3_ n4_;refine start_ (n:=12) (S:=fun w'=>w'.cell? ⟨gb141,0,none⟩ = some (.int .i64 a1_0) ∧ w'.cell? ⟨gb141,1,none⟩ = some (.float .f64 a1_1) ∧ w'.cell? ⟨gb141,2,none⟩ = some (.float .f64 a1_2) ∧ w'.cell? ⟨gb141,3,none⟩ = some (.float .f64 a1_3) ∧ w'.cell? ⟨gb141,4,none⟩ = some (.float .f64 a1_4) ∧ w'.cell? ⟨gb141,5,none⟩ = some (.float .f64 a1_5) ∧ w'.cell? ⟨gb141,6,none⟩ = some (.float .f64 a1_6) ∧ w'.cell? ⟨gb140,0,none⟩ = some (.int .i64 a0_0) ∧ w'.cell? ⟨gb140,1,none⟩ = some (.float .f64 a0_1) ∧ w'.cell? ⟨gb140,2,none⟩ = some (.float .f64 a0_2) ∧ w'.cell? ⟨gb140,3,none⟩ = some (.float .f64 a0_3) ∧ w'.cell? ⟨gb140,4,none⟩ = some (.float .f64 a0_4) ∧ w'.cell? ⟨gb140,5,none⟩ = some (.float .f64 a0_5) ∧ w'.cell? ⟨gb140,6,none⟩ = some (.float .f64 a0_6) ∧ w'.cell? ⟨gb145,0,none⟩ = some (.int .i64 (wrap64 (a0_0 + a1_0))) ∧ w'.cell? ⟨gb145,1,none⟩ = some (.float .f64 x146001_53) ∧ w'.cell? ⟨gb145,2,none⟩ = some (.float .f64 x146002_74) ∧ w'.cell? ⟨gb145,3,none⟩ = some (.float .f64 (fop .add a0_3 a1_3)) ∧ w'.cell? ⟨gb145,4,none⟩ = some (.float .f64 (fop .add (fop .add a0_4 a1_4) t146)) ∧ w'.cell? ⟨gb145,5,none⟩ = some (.float .f64 0) ∧ w'.cell? ⟨gb145,6,none⟩ = some (.float .f64 0)) (ds:=[]) #[false,false,false,false,false,false,false,false,false,false,false,false] (by kernel_rfl) rfl rfl ⟨(blk_cell BK141.out 0).trans rfl,(blk_cell BK141.out 1).trans rfl,(blk_cell BK141.out 2).trans rfl,(blk_cell BK141.out 3).trans rfl,(blk_cell BK141.out 4).trans rfl,(blk_cell BK141.out 5).trans rfl,(blk_cell BK141.out 6).trans rfl,(blk_cell BK140.out 0).trans rfl,(blk_cell BK140.out 1).trans rfl,(blk_cell BK140.out 2).trans rfl,(blk_cell BK140.out 3).trans rfl,(blk_cell BK140.out 4).trans rfl,(blk_cell BK140.out 5).trans rfl,(blk_cell BK140.out 6).trans rfl,(blk_cell BK145.out 0).trans rfl,(blk_cell BK145.out 1).trans rfl,(blk_cell BK145.out 2).trans rfl,(blk_cell BK145.out 3).trans rfl,(blk_cell BK145.out 4).trans rfl,(blk_cell BK145.out 5).trans rfl,(blk_cell BK145.out 6).trans rfl⟩ (fun hHeld=>?_);refine with_tabW tally_Join.tab16 tally_Join.bits16 (fun HT_ HW_=>?_)
                   generalize w125.drew = w126 at BK140 BK141 BK142 BK145 HB hHeld ⊢
                   refine pure_ (i:=0) (N:=some 86) (v:=?_) (a':=?_) #[true,false,false,false,false,false,false,false,false,false,false,false] rfl rfl (any_of HT_.out (by kernel_rfl)) (fun _ _ _ h=>h) (Or.inl ⟨by rfl,?_⟩) ?_ ?_;rotate_left
                   ·intro w';go_simp;with_reducible rfl
                   rotate_left
                   ·simp only [Act.put,List.setIfInBounds_toArray,List.set_cons_zero,List.set_cons_succ,i64_w,i32_w];rfl
                   refine pure_ (i:=2) (N:=some 88) (v:=?_) (a':=?_) #[true,false,true,false,false,false,false,false,false,false,false,false] rfl rfl (any_of HT_.out (by kernel_rfl)) (fun _ _ _ h=>h) (Or.inl ⟨by rfl,?_⟩) ?_ ?_;rotate_left
                   ·intro w';go_simp;with_reducible rfl
                   rotate_left
                   ·simp only [Act.put,List.setIfInBounds_toArray,List.set_cons_zero,List.set_cons_succ,i64_w,i32_w];rfl
                   refine pure_ (i:=5) (N:=some 91) (v:=?_) (a':=?_) #[true,false,true,false,false,true,false,false,false,false,false,false] rfl rfl (any_of HT_.out (by kernel_rfl)) (fun _ _ _ h=>h) (Or.inl ⟨by rfl,?_⟩) ?_ ?_;rotate_left
                   ·intro w';go_simp;with_reducible rfl
                   rotate_left
                   ·simp only [Act.put,List.setIfInBounds_toArray,List.set_cons_zero,List.set_cons_succ,i64_w,i32_w];rfl
                   refine pure_ (i:=6) (N:=some 92) (v:=?_) (a':=?_) #[true,false,true,false,false,true,true,false,false,false,false,false] rfl rfl (any_of HT_.out (by kernel_rfl)) (fun _ _ _ h=>h) (Or.inl ⟨by rfl,?_⟩) ?_ ?_;rotate_left
                   ·intro w';go_simp;with_reducible rfl
                   rotate_left
                   ·simp only [Act.put,List.setIfInBounds_toArray,List.set_cons_zero,List.set_cons_succ,i64_w,i32_w];rfl
                   refine take_ (i:=1) (N:=some 87) (v:=?_) (a':=?_) #[true,true,true,false,false,true,true,false,false,false,false,false] rfl rfl (take_ofW HT_.out HW_.out (by kernel_rfl)) (fun _ _ _ h=>h) (Or.inl ⟨by rfl,?_⟩) hHeld ?_ ?_;rotate_left
                   ·rintro w' ⟨s0,s1,s2,s3,s4,s5,s6,s7,s8,s9,s10,s11,s12,s13,s14,s15,s16,s17,s18,s19,s20⟩;go_simp;with_reducible rfl
                   rotate_left
                   ·simp only [Act.put,List.setIfInBounds_toArray,List.set_cons_zero,List.set_cons_succ,i64_w,i32_w];rfl
                   refine take_ (i:=3) (N:=some 89) (v:=?_) (a':=?_) #[true,true,true,true,false,true,true,false,false,false,false,false] rfl rfl (take_ofW HT_.out HW_.out (by kernel_rfl)) (fun _ _ _ h=>h) (Or.inl ⟨by rfl,?_⟩) hHeld ?_ ?_;rotate_left
                   ·rintro w' ⟨s0,s1,s2,s3,s4,s5,s6,s7,s8,s9,s10,s11,s12,s13,s14,s15,s16,s17,s18,s19,s20⟩;go_simp;with_reducible rfl
                   rotate_left
                   ·simp only [Act.put,List.setIfInBounds_toArray,List.set_cons_zero,List.set_cons_succ,i64_w,i32_w];rfl
                   refine pure_ (i:=4) (N:=some 90) (v:=?_) (a':=?_) #[true,true,true,true,true,true,true,false,false,false,false,false] rfl rfl (any_of HT_.out (by kernel_rfl)) (fun _ _ _ h=>h) (Or.inl ⟨by rfl,?_⟩) ?_ ?_;rotate_left
                   ·intro w';go_simp;with_reducible rfl
                   rotate_left
                   ·simp only [Act.put,List.setIfInBounds_toArray,List.set_cons_zero,List.set_cons_succ,i64_w,i32_w];rfl
                   refine pure_ (i:=10) (N:=some 9) (v:=?_) (a':=?_) #[true,true,true,true,true,true,true,false,false,false,true,false] rfl rfl (any_of HT_.out (by kernel_rfl)) (fun _ _ _ h=>h) (Or.inl ⟨by rfl,?_⟩) ?_ ?_;rotate_left
                   ·intro w';go_simp;with_reducible rfl
                   rotate_left
                   ·simp only [Act.put,List.setIfInBounds_toArray,List.set_cons_zero,List.set_cons_succ,i64_w,i32_w];rfl
                   refine take_ (i:=7) (N:=some 93) (v:=?_) (a':=?_) #[true,true,true,true,true,true,true,true,false,false,true,false] rfl rfl (take_ofW HT_.out HW_.out (by kernel_rfl)) (fun _ _ _ h=>h) (Or.inl ⟨by rfl,?_⟩) hHeld ?_ ?_;rotate_left
                   ·rintro w' ⟨s0,s1,s2,s3,s4,s5,s6,s7,s8,s9,s10,s11,s12,s13,s14,s15,s16,s17,s18,s19,s20⟩;go_simp;with_reducible rfl
                   rotate_left
                   ·simp only [Act.put,List.setIfInBounds_toArray,List.set_cons_zero,List.set_cons_succ,i64_w,i32_w];rfl
                   refine pure_ (i:=8) (N:=some 94) (v:=?_) (a':=?_) #[true,true,true,true,true,true,true,true,true,false,true,false] rfl rfl (any_of HT_.out (by kernel_rfl)) (fun _ _ _ h=>h) (Or.inl ⟨by rfl,?_⟩) ?_ ?_;rotate_left
                   ·intro w';go_simp;with_reducible rfl
                   rotate_left
                   ·simp only [Act.put,List.setIfInBounds_toArray,List.set_cons_zero,List.set_cons_succ,i64_w,i32_w];rfl
                   refine pure_ (i:=9) (N:=some 95) (v:=?_) (a':=?_) #[true,true,true,true,true,true,true,true,true,true,true,false] rfl rfl (any_of HT_.out (by kernel_rfl)) (fun _ _ _ h=>h) (Or.inl ⟨by rfl,?_⟩) ?_ ?_;rotate_left
                   ·intro w';go_simp;with_reducible rfl
                   rotate_left
                   ·simp only [Act.put,List.setIfInBounds_toArray,List.set_cons_zero,List.set_cons_succ,i64_w,i32_w];rfl
                   refine pure_ (i:=11) (N:=some 10) (v:=?_) (a':=?_) #[true,true,true,true,true,true,true,true,true,true,true,true] rfl rfl (any_of HT_.out (by kernel_rfl)) (fun _ _ _ h=>h) (Or.inl ⟨by rfl,?_⟩) ?_ ?_;rotate_left
                   ·intro w';go_simp;with_reducible rfl
                   rotate_left
                   ·simp only [Act.put,List.setIfInBounds_toArray,List.set_cons_zero,List.set_cons_succ,i64_w,i32_w];rfl
                   refine done_ (done_of HT_.out (by kernel_rfl)) ?_;have hnb127:=NB140_141.out;have hnc127:=NB141_140.out;have hnb128:=NB140_142.out;have hnc128:=NB142_140.out;have hnb129:=NB140_145.out;have hnc129:=NB145_140.out;have hcz130_0 : w126.cell? ⟨gb140,0,none⟩ = some (.int .i64 a0_0):=(blk_cell BK140.out 0).trans rfl;have hcz130_1 : w126.cell? ⟨gb140,1,none⟩ = some (.float .f64 a0_1):=(blk_cell BK140.out 1).trans rfl;have hcz130_2 : w126.cell? ⟨gb140,2,none⟩ = some (.float .f64 a0_2):=(blk_cell BK140.out 2).trans rfl;have hcz130_3 : w126.cell? ⟨gb140,3,none⟩ = some (.float .f64 a0_3):=(blk_cell BK140.out 3).trans rfl;have hcz130_4 : w126.cell? ⟨gb140,4,none⟩ = some (.float .f64 a0_4):=(blk_cell BK140.out 4).trans rfl;have hcz130_5 : w126.cell? ⟨gb140,5,none⟩ = some (.float .f64 a0_5):=(blk_cell BK140.out 5).trans rfl;have hcz130_6 : w126.cell? ⟨gb140,6,none⟩ = some (.float .f64 a0_6):=(blk_cell BK140.out 6).trans rfl;have hfz130_0:=blk_frozen BK140.out 0;have hfz130_1:=blk_frozen BK140.out 1;have hfz130_2:=blk_frozen BK140.out 2;have hfz130_3:=blk_frozen BK140.out 3;have hfz130_4:=blk_frozen BK140.out 4;have hfz130_5:=blk_frozen BK140.out 5;have hfz130_6:=blk_frozen BK140.out 6;have hnb131:=NB145_141.out;have hnc131:=NB141_145.out;have hnb132:=NB145_142.out;have hnc132:=NB142_145.out;have hcz133_0 : w126.cell? ⟨gb145,0,none⟩ = some (.int .i64 (wrap64 (a0_0 + a1_0))):=(blk_cell BK145.out 0).trans rfl;have hcz133_1 : w126.cell? ⟨gb145,1,none⟩ = some (.float .f64 x146001_53):=(blk_cell BK145.out 1).trans rfl
                   have hcz133_2 : w126.cell? ⟨gb145,2,none⟩ = some (.float .f64 x146002_74):=(blk_cell BK145.out 2).trans rfl;have hcz133_3 : w126.cell? ⟨gb145,3,none⟩ = some (.float .f64 (fop .add a0_3 a1_3)):=(blk_cell BK145.out 3).trans rfl;have hcz133_4 : w126.cell? ⟨gb145,4,none⟩ = some (.float .f64 (fop .add (fop .add a0_4 a1_4) t146)):=(blk_cell BK145.out 4).trans rfl;have hcz133_5 : w126.cell? ⟨gb145,5,none⟩ = some (.float .f64 0):=(blk_cell BK145.out 5).trans rfl;have hcz133_6 : w126.cell? ⟨gb145,6,none⟩ = some (.float .f64 0):=(blk_cell BK145.out 6).trans rfl;have hfz133_0:=blk_frozen BK145.out 0;have hfz133_1:=blk_frozen BK145.out 1;have hfz133_2:=blk_frozen BK145.out 2;have hfz133_3:=blk_frozen BK145.out 3;have hfz133_4:=blk_frozen BK145.out 4;have hfz133_5:=blk_frozen BK145.out 5;have hfz133_6:=blk_frozen BK145.out 6;have hnb134:=NB141_142.out;have hnc134:=NB142_141.out;have hcz135_0 : w126.cell? ⟨gb141,0,none⟩ = some (.int .i64 a1_0):=(blk_cell BK141.out 0).trans rfl;have hcz135_1 : w126.cell? ⟨gb141,1,none⟩ = some (.float .f64 a1_1):=(blk_cell BK141.out 1).trans rfl;have hcz135_2 : w126.cell? ⟨gb141,2,none⟩ = some (.float .f64 a1_2):=(blk_cell BK141.out 2).trans rfl;have hcz135_3 : w126.cell? ⟨gb141,3,none⟩ = some (.float .f64 a1_3):=(blk_cell BK141.out 3).trans rfl;have hcz135_4 : w126.cell? ⟨gb141,4,none⟩ = some (.float .f64 a1_4):=(blk_cell BK141.out 4).trans rfl;have hcz135_5 : w126.cell? ⟨gb141,5,none⟩ = some (.float .f64 a1_5):=(blk_cell BK141.out 5).trans rfl
                   have hcz135_6 : w126.cell? ⟨gb141,6,none⟩ = some (.float .f64 a1_6):=(blk_cell BK141.out 6).trans rfl;have hfz135_0:=blk_frozen BK141.out 0;have hfz135_1:=blk_frozen BK141.out 1;have hfz135_2:=blk_frozen BK141.out 2;have hfz135_3:=blk_frozen BK141.out 3;have hfz135_4:=blk_frozen BK141.out 4;have hfz135_5:=blk_frozen BK141.out 5;have hfz135_6:=blk_frozen BK141.out 6
                   try go_wp2_with (first|((with_reducible refine gate_callee (f:=45) rfl ?_);refine goesL_ (some 118) rfl rfl Try.func45 (by kernel_rfl) rfl #[.agg #[.int .i64 (wrap64 (a0_0 + a1_0)),.float .f64 x146001_53,.float .f64 x146002_74,.float .f64 (fop .add a0_3 a1_3),.float .f64 (fop .add (fop .add a0_4 a1_4) t146),.float .f64 (fop .add a0_5 (fop .mul (fop .sub a1_5 a0_5) (fop .quo (floatOfInt .f64 a1_0) (floatOfInt .f64 (wrap64 (a0_0 + a1_0)))))),.float .f64 (fop .add (fop .add a0_6 a1_6) (fop .mul (fop .mul (fop .sub a1_5 a0_5) (fop .sub a1_5 a0_5)) (fop .mul (floatOfInt .f64 a0_0) (fop .quo (floatOfInt .f64 a1_0) (floatOfInt .f64 (wrap64 (a0_0 + a1_0)))))))]] rfl (by (try simp only [List.map_toArray,List.map_cons,List.map_nil]);first|done|rfl|(simp only [List.length_drop,List.length_take];rfl)) ?_;(with_reducible refine (tally_sound.calls kj74 (wrap64 (a0_0 + a1_0)) x146001_53 x146002_74 (fop .add a0_3 a1_3) (fop .add (fop .add a0_4 a1_4) t146) (fop .add a0_5 (fop .mul (fop .sub a1_5 a0_5) (fop .quo (floatOfInt .f64 a1_0) (floatOfInt .f64 (wrap64 (a0_0 + a1_0)))))) (fop .add (fop .add a0_6 a1_6) (fop .mul (fop .mul (fop .sub a1_5 a0_5) (fop .sub a1_5 a0_5)) (fop .mul (floatOfInt .f64 a0_0) (fop .quo (floatOfInt .f64 a1_0) (floatOfInt .f64 (wrap64 (a0_0 + a1_0))))))) false _ A103.out).mono ?_);rintro e w136 ⟨rfl,hb⟩;refine ⟨_,rfl,?_⟩;have n0_:=Aside0.mk (blk_below (g:=gb140) (o:=.cells #[.int .i64 a0_0,.float .f64 a0_1,.float .f64 a0_2,.float .f64 a0_3,.float .f64 a0_4,.float .f64 a0_5,.float .f64 a0_6] 26 (0,0)) (by (with_reducible repeat (first|refine blk_drewN ?_ _|refine blk_drew ?_|refine blk_alloc ?_ _));refine blk_far ?_ NB140_145.out _;(with_reducible repeat (first|refine blk_drewN ?_ _|refine blk_drew ?_|refine blk_alloc ?_ _));refine blk_far ?_ NB140_145.out _;(with_reducible repeat (first|refine blk_drewN ?_ _|refine blk_drew ?_|refine blk_alloc ?_ _));exact BK140.out) hb);have n1_:=Aside0.mk (blk_below (g:=gb141) (o:=.cells #[.int .i64 a1_0,.float .f64 a1_1,.float .f64 a1_2,.float .f64 a1_3,.float .f64 a1_4,.float .f64 a1_5,.float .f64 a1_6] 26 (0,0)) (by (with_reducible repeat (first|refine blk_drewN ?_ _|refine blk_drew ?_|refine blk_alloc ?_ _));refine blk_far ?_ NB141_145.out _;(with_reducible repeat (first|refine blk_drewN ?_ _|refine blk_drew ?_|refine blk_alloc ?_ _));refine blk_far ?_ NB141_145.out _;(with_reducible repeat (first|refine blk_drewN ?_ _|refine blk_drew ?_|refine blk_alloc ?_ _));exact BK141.out) hb);have n2_:=Aside0.mk (blk_below (g:=gb142) (o:=.cells #[.int .i64 0,.float .f64 0,.float .f64 0,.float .f64 0,.float .f64 0,.float .f64 0,.float .f64 0] 26 (0,0)) (by (with_reducible repeat (first|refine blk_drewN ?_ _|refine blk_drew ?_|refine blk_alloc ?_ _));refine blk_far ?_ NB142_145.out _;(with_reducible repeat (first|refine blk_drewN ?_ _|refine blk_drew ?_|refine blk_alloc ?_ _));refine blk_far ?_ NB142_145.out _;(with_reducible repeat (first|refine blk_drewN ?_ _|refine blk_drew ?_|refine blk_alloc ?_ _));exact BK142.out) hb);have n3_:=Aside0.mk (blk_below (g:=gb145) (o:=.cells #[.int .i64 (wrap64 (a0_0 + a1_0)),.float .f64 x146001_53,.float .f64 x146002_74,.float .f64 (fop .add a0_3 a1_3),.float .f64 (fop .add (fop .add a0_4 a1_4) t146),.float .f64 (fop .add a0_5 (fop .mul (fop .sub a1_5 a0_5) (fop .quo (floatOfInt .f64 a1_0) (floatOfInt .f64 (wrap64 (a0_0 + a1_0)))))),.float .f64 (fop .add (fop .add a0_6 a1_6) (fop .mul (fop .mul (fop .sub a1_5 a0_5) (fop .sub a1_5 a0_5)) (fop .mul (floatOfInt .f64 a0_0) (fop .quo (floatOfInt .f64 a1_0) (floatOfInt .f64 (wrap64 (a0_0 + a1_0)))))))] 26 (0,0)) (by (with_reducible repeat (first|refine blk_drewN ?_ _|refine blk_drew ?_|refine blk_alloc ?_ _));refine blk_put (cs:=#[.int .i64 (wrap64 (a0_0 + a1_0)),.float .f64 x146001_53,.float .f64 x146002_74,.float .f64 (fop .add a0_3 a1_3),.float .f64 (fop .add (fop .add a0_4 a1_4) t146),.float .f64 (fop .add a0_5 (fop .mul (fop .sub a1_5 a0_5) (fop .quo (floatOfInt .f64 a1_0) (floatOfInt .f64 (wrap64 (a0_0 + a1_0)))))),.float .f64 0]) ?_ 6 _ (by first|rfl|(simp only [px_pos,px_ne];rfl)|simp [px_pos,px_ne]);(with_reducible repeat (first|refine blk_drewN ?_ _|refine blk_drew ?_|refine blk_alloc ?_ _));refine blk_put (cs:=#[.int .i64 (wrap64 (a0_0 + a1_0)),.float .f64 x146001_53,.float .f64 x146002_74,.float .f64 (fop .add a0_3 a1_3),.float .f64 (fop .add (fop .add a0_4 a1_4) t146),.float .f64 0,.float .f64 0]) ?_ 5 _ (by first|rfl|(simp only [px_pos,px_ne];rfl)|simp [px_pos,px_ne]);(with_reducible repeat (first|refine blk_drewN ?_ _|refine blk_drew ?_|refine blk_alloc ?_ _));exact BK145.out) hb);have n4_:=Aside0.mk (below_step (by repeat (first|(with_reducible first|exact HB.out|apply below_alloc|apply pw_below_drewN|apply below_drew1|refine below_set ?_ GE140.out|refine below_set ?_ GE141.out|refine below_set ?_ GE142.out|refine below_set ?_ GE145.out)|exact HB.out)) hb);clear BK140;clear BK141;clear BK142;clear BK145;clear HB;have BK140:=n0_;have BK141:=n1_;have BK142:=n2_;have BK145:=n3_;have HB:=n4_;clear n0_ n1_ n2_ n3_ n4_;(try clear hb);(try clear hb2);(try clear hk);(try clear hi);have hcz137_0 : w136.cell? ⟨gb142,0,none⟩ = some (.int .i64 0):=(blk_cell BK142.out 0).trans rfl;have hcz137_1 : w136.cell? ⟨gb142,1,none⟩ = some (.float .f64 0):=(blk_cell BK142.out 1).trans rfl;have hcz137_2 : w136.cell? ⟨gb142,2,none⟩ = some (.float .f64 0):=(blk_cell BK142.out 2).trans rfl;have hcz137_3 : w136.cell? ⟨gb142,3,none⟩ = some (.float .f64 0):=(blk_cell BK142.out 3).trans rfl;have hcz137_4 : w136.cell? ⟨gb142,4,none⟩ = some (.float .f64 0):=(blk_cell BK142.out 4).trans rfl;have hcz137_5 : w136.cell? ⟨gb142,5,none⟩ = some (.float .f64 0):=(blk_cell BK142.out 5).trans rfl;have hcz137_6 : w136.cell? ⟨gb142,6,none⟩ = some (.float .f64 0):=(blk_cell BK142.out 6).trans rfl;have hfz137_0:=blk_frozen BK142.out 0;have hfz137_1:=blk_frozen BK142.out 1;have hfz137_2:=blk_frozen BK142.out 2;have hfz137_3:=blk_frozen BK142.out 3;have hfz137_4:=blk_frozen BK142.out 4;have hfz137_5:=blk_frozen BK142.out 5;have hfz137_6:=blk_frozen BK142.out 6))
                   refine bodyPost_ret (results_ct rfl _ _ gb142 26 #[.int .i64 0,.float .f64 0,.float .f64 0,.float .f64 0,.float .f64 0,.float .f64 0,.float .f64 0] (0,0) _ rfl (by (with_reducible repeat (first|refine blk_drewN ?_ _|refine blk_drew ?_|refine blk_alloc ?_ _));refine blk_put (cs:=#[.int .i64 0,.float .f64 0,.float .f64 0,.float .f64 0,.float .f64 0,.float .f64 0,.float .f64 0]) ?_ 6 _ (by first|rfl|(simp only [px_pos,px_ne];rfl)|simp [px_pos,px_ne]);(with_reducible repeat (first|refine blk_drewN ?_ _|refine blk_drew ?_|refine blk_alloc ?_ _));refine blk_put (cs:=#[.int .i64 0,.float .f64 0,.float .f64 0,.float .f64 0,.float .f64 0,.float .f64 0,.float .f64 0]) ?_ 5 _ (by first|rfl|(simp only [px_pos,px_ne];rfl)|simp [px_pos,px_ne]);(with_reducible repeat (first|refine blk_drewN ?_ _|refine blk_drew ?_|refine blk_alloc ?_ _));refine blk_put (cs:=#[.int .i64 0,.float .f64 0,.float .f64 0,.float .f64 0,.float .f64 0,.float .f64 0,.float .f64 0]) ?_ 4 _ (by first|rfl|(simp only [px_pos,px_ne];rfl)|simp [px_pos,px_ne]);(with_reducible repeat (first|refine blk_drewN ?_ _|refine blk_drew ?_|refine blk_alloc ?_ _));refine blk_put (cs:=#[.int .i64 0,.float .f64 0,.float .f64 0,.float .f64 0,.float .f64 0,.float .f64 0,.float .f64 0]) ?_ 3 _ (by first|rfl|(simp only [px_pos,px_ne];rfl)|simp [px_pos,px_ne]);(with_reducible repeat (first|refine blk_drewN ?_ _|refine blk_drew ?_|refine blk_alloc ?_ _));refine blk_put (cs:=#[.int .i64 0,.float .f64 0,.float .f64 0,.float .f64 0,.float .f64 0,.float .f64 0,.float .f64 0]) ?_ 2 _ (by first|rfl|(simp only [px_pos,px_ne];rfl)|simp [px_pos,px_ne]);(with_reducible repeat (first|refine blk_drewN ?_ _|refine blk_drew ?_|refine blk_alloc ?_ _));refine blk_put (cs:=#[.int .i64 0,.float .f64 0,.float .f64 0,.float .f64 0,.float .f64 0,.float .f64 0,.float .f64 0]) ?_ 1 _ (by first|rfl|(simp only [px_pos,px_ne];rfl)|simp [px_pos,px_ne]);(with_reducible repeat (first|refine blk_drewN ?_ _|refine blk_drew ?_|refine blk_alloc ?_ _));refine blk_put (cs:=#[.int .i64 0,.float .f64 0,.float .f64 0,.float .f64 0,.float .f64 0,.float .f64 0,.float .f64 0]) ?_ 0 _ (by first|rfl|(simp only [px_pos,px_ne];rfl)|simp [px_pos,px_ne]);(with_reducible repeat (first|refine blk_drewN ?_ _|refine blk_drew ?_|refine blk_alloc ?_ _));exact BK142.out) Try.underlying26 rfl (by kernel_rfl)) rfl ?_
                   exact ⟨by first|rfl|(rw [px_ne];rfl)|(simp [errW_none,errW_some] <;> rfl)|(simp [*,errW_none,errW_some] <;> rfl),by repeat (first|(with_reducible first|exact HB.out|apply below_alloc|apply pw_below_drewN|apply below_drew1|refine below_set ?_ GE140.out|refine below_set ?_ GE141.out|refine below_set ?_ GE142.out|refine below_set ?_ GE145.out)|exact HB.out)⟩
                  rw [if_neg c102] at H
                  exact absurd H (by simp)
                 rw [if_neg c101] at H
                 exact absurd H (by simp)
                rw [if_neg c100] at H
                exact absurd H (by simp)
               rw [if_neg c99] at H
               exact absurd H (by simp)
              rw [if_neg c98] at H
              exact absurd H (by simp)
             rw [if_neg c97] at H
             exact absurd H (by simp)
            rw [if_neg c96] at H
            exact absurd H (by simp)
           rw [if_neg c95] at H
           exact absurd H (by simp)
          rw [if_neg c94] at H
          exact absurd H (by simp)
         rw [if_neg c93] at H
         have c93b0 : fok .add (fop .add a0_4 a1_4) t146 = false:=Bool.eq_false_iff.mpr c93;clear c93
         by_cases c94 : fok .sub a1_5 a0_5 = true
         ·rw [if_pos c94] at H
          have c94b0:=eq_true c94;have c94b1 : decide (fok .sub a1_5 a0_5 = true) = true:=decide_eq_true c94;clear c94
          by_cases c95 : fok .quo (floatOfInt .f64 a1_0) (floatOfInt .f64 (wrap64 (a0_0 + a1_0))) = true
          ·rw [if_pos c95] at H
           have c95b0:=eq_true c95;have c95b1 : decide (fok .quo (floatOfInt .f64 a1_0) (floatOfInt .f64 (wrap64 (a0_0 + a1_0))) = true) = true:=decide_eq_true c95
           by_cases c96 : fok .mul (fop .sub a1_5 a0_5) (fop .quo (floatOfInt .f64 a1_0) (floatOfInt .f64 (wrap64 (a0_0 + a1_0)))) = true
           ·rw [if_pos c96] at H
            have c96b0:=eq_true c96;have c96b1 : decide (fok .mul (fop .sub a1_5 a0_5) (fop .quo (floatOfInt .f64 a1_0) (floatOfInt .f64 (wrap64 (a0_0 + a1_0)))) = true) = true:=decide_eq_true c96
            by_cases c97 : fok .add a0_5 (fop .mul (fop .sub a1_5 a0_5) (fop .quo (floatOfInt .f64 a1_0) (floatOfInt .f64 (wrap64 (a0_0 + a1_0))))) = true
            ·rw [if_pos c97] at H
             have c97b0:=eq_true c97;have c97b1 : decide (fok .add a0_5 (fop .mul (fop .sub a1_5 a0_5) (fop .quo (floatOfInt .f64 a1_0) (floatOfInt .f64 (wrap64 (a0_0 + a1_0))))) = true) = true:=decide_eq_true c97
             by_cases c98 : fok .add a0_6 a1_6 = true
             ·rw [if_pos c98] at H
              have c98b0:=eq_true c98;have c98b1 : decide (fok .add a0_6 a1_6 = true) = true:=decide_eq_true c98;clear c98
              by_cases c99 : fok .mul (fop .sub a1_5 a0_5) (fop .sub a1_5 a0_5) = true
              ·rw [if_pos c99] at H
               have c99b0:=eq_true c99;have c99b1 : decide (fok .mul (fop .sub a1_5 a0_5) (fop .sub a1_5 a0_5) = true) = true:=decide_eq_true c99;clear c99
               by_cases c100 : fok .mul (floatOfInt .f64 a0_0) (fop .quo (floatOfInt .f64 a1_0) (floatOfInt .f64 (wrap64 (a0_0 + a1_0)))) = true
               ·rw [if_pos c100] at H
                have c100b0:=eq_true c100;have c100b1 : decide (fok .mul (floatOfInt .f64 a0_0) (fop .quo (floatOfInt .f64 a1_0) (floatOfInt .f64 (wrap64 (a0_0 + a1_0)))) = true) = true:=decide_eq_true c100
                by_cases c101 : fok .mul (fop .mul (fop .sub a1_5 a0_5) (fop .sub a1_5 a0_5)) (fop .mul (floatOfInt .f64 a0_0) (fop .quo (floatOfInt .f64 a1_0) (floatOfInt .f64 (wrap64 (a0_0 + a1_0))))) = true
                ·rw [if_pos c101] at H
                 have c101b0:=eq_true c101;have c101b1 : decide (fok .mul (fop .mul (fop .sub a1_5 a0_5) (fop .sub a1_5 a0_5)) (fop .mul (floatOfInt .f64 a0_0) (fop .quo (floatOfInt .f64 a1_0) (floatOfInt .f64 (wrap64 (a0_0 + a1_0))))) = true) = true:=decide_eq_true c101
                 by_cases c102 : fok .add (fop .add a0_6 a1_6) (fop .mul (fop .mul (fop .sub a1_5 a0_5) (fop .sub a1_5 a0_5)) (fop .mul (floatOfInt .f64 a0_0) (fop .quo (floatOfInt .f64 a1_0) (floatOfInt .f64 (wrap64 (a0_0 + a1_0)))))) = true
                 ·rw [if_pos c102] at H
                  have c102b0:=eq_true c102;have c102b1 : decide (fok .add (fop .add a0_6 a1_6) (fop .mul (fop .mul (fop .sub a1_5 a0_5) (fop .sub a1_5 a0_5)) (fop .mul (floatOfInt .f64 a0_0) (fop .quo (floatOfInt .f64 a1_0) (floatOfInt .f64 (wrap64 (a0_0 + a1_0)))))) = true) = true:=decide_eq_true c102;replace H:=Option.bind_eq_some_iff.mp H;obtain ⟨t147,A1030,H⟩:=H;replace H : (if t147 = true then (none) else (some (0,0,0,0,0,0,0,121))) = some (r1,r2,r3,r4,r5,r6,r7,r8):=H;have A103:=Aside0.mk A1030;clear A1030
                  by_cases c104 : t147 = true
                  ·rw [if_pos c104] at H
                   exact absurd H (by simp)
                  replace c104:=Bool.eq_false_iff.mpr c104;subst c104
                  have H1 : (some (0,0,0,0,0,0,0,121)) = some (r1,r2,r3,r4,r5,r6,r7,r8):=by rw [if_neg (show ¬ (false = true) by decide)] at H;exact H
                  clear H;have H:=H1;clear H1
                  simp only [Option.some.injEq,Prod.mk.injEq] at H
                  obtain ⟨rfl,rfl,rfl,rfl,rfl,rfl,rfl,rfl⟩:=H
                  try go_wp2
                  have n0_:=Aside0.mk (blk_drew BK140.out);have n1_:=Aside0.mk (blk_drew BK141.out);have n2_:=Aside0.mk (blk_drew BK142.out);have n3_:=Aside0.mk (blk_drew BK145.out);have n4_:=Aside0.mk (below_drew1 HB.out);clear BK140;clear BK141;clear BK142;clear BK145;clear HB;have BK140:=n0_;have BK141:=n1_;have BK142:=n2_;have BK145:=n3_;have HB:=n4_;clear n0_ n1_ n2_ n3_ n4_;refine start_ (n:=15) (S:=fun w'=>w'.cell? ⟨gb140,0,none⟩ = some (.int .i64 a0_0) ∧ w'.cell? ⟨gb140,1,none⟩ = some (.float .f64 a0_1) ∧ w'.cell? ⟨gb140,2,none⟩ = some (.float .f64 a0_2) ∧ w'.cell? ⟨gb140,3,none⟩ = some (.float .f64 a0_3) ∧ w'.cell? ⟨gb140,4,none⟩ = some (.float .f64 a0_4) ∧ w'.cell? ⟨gb140,5,none⟩ = some (.float .f64 a0_5) ∧ w'.cell? ⟨gb140,6,none⟩ = some (.float .f64 a0_6) ∧ w'.cell? ⟨gb141,0,none⟩ = some (.int .i64 a1_0) ∧ w'.cell? ⟨gb141,1,none⟩ = some (.float .f64 a1_1) ∧ w'.cell? ⟨gb141,2,none⟩ = some (.float .f64 a1_2) ∧ w'.cell? ⟨gb141,3,none⟩ = some (.float .f64 a1_3) ∧ w'.cell? ⟨gb141,4,none⟩ = some (.float .f64 a1_4) ∧ w'.cell? ⟨gb141,5,none⟩ = some (.float .f64 a1_5) ∧ w'.cell? ⟨gb141,6,none⟩ = some (.float .f64 a1_6) ∧ w'.cell? ⟨gb145,0,none⟩ = some (.int .i64 (wrap64 (a0_0 + a1_0))) ∧ w'.cell? ⟨gb145,1,none⟩ = some (.float .f64 x146001_53) ∧ w'.cell? ⟨gb145,2,none⟩ = some (.float .f64 x146002_74) ∧ w'.cell? ⟨gb145,3,none⟩ = some (.float .f64 (fop .add a0_3 a1_3)) ∧ w'.cell? ⟨gb145,4,none⟩ = some (.float .f64 0) ∧ w'.cell? ⟨gb145,5,none⟩ = some (.float .f64 0) ∧ w'.cell? ⟨gb145,6,none⟩ = some (.float .f64 0)) (ds:=[14]) #[false,false,false,false,false,false,false,false,false,false,false,false,false,false,false] (by kernel_rfl) rfl rfl ⟨(blk_cell BK140.out 0).trans rfl,(blk_cell BK140.out 1).trans rfl,(blk_cell BK140.out 2).trans rfl,(blk_cell BK140.out 3).trans rfl,(blk_cell BK140.out 4).trans rfl,(blk_cell BK140.out 5).trans rfl,(blk_cell BK140.out 6).trans rfl,(blk_cell BK141.out 0).trans rfl,(blk_cell BK141.out 1).trans rfl,(blk_cell BK141.out 2).trans rfl,(blk_cell BK141.out 3).trans rfl,(blk_cell BK141.out 4).trans rfl,(blk_cell BK141.out 5).trans rfl,(blk_cell BK141.out 6).trans rfl,(blk_cell BK145.out 0).trans rfl,(blk_cell BK145.out 1).trans rfl,(blk_cell BK145.out 2).trans rfl,(blk_cell BK145.out 3).trans rfl,(blk_cell BK145.out 4).trans rfl,(blk_cell BK145.out 5).trans rfl,(blk_cell BK145.out 6).trans rfl⟩ (fun hHeld=>?_);refine with_tabW tally_Join.tab14 tally_Join.bits14 (fun HT_ HW_=>?_)
                  generalize wc.drew = w122 at BK140 BK141 BK142 BK145 HB hHeld ⊢
                  refine pure_ (i:=0) (N:=some 66) (v:=?_) (a':=?_) #[true,false,false,false,false,false,false,false,false,false,false,false,false,false,false] rfl rfl (any_of HT_.out (by kernel_rfl)) (fun _ _ _ h=>h) (Or.inl ⟨by rfl,?_⟩) ?_ ?_;rotate_left
                  ·intro w';go_simp;with_reducible rfl
                  rotate_left
                  ·simp only [Act.put,List.setIfInBounds_toArray,List.set_cons_zero,List.set_cons_succ,i64_w,i32_w];rfl
                  refine pure_ (i:=2) (N:=some 68) (v:=?_) (a':=?_) #[true,false,true,false,false,false,false,false,false,false,false,false,false,false,false] rfl rfl (any_of HT_.out (by kernel_rfl)) (fun _ _ _ h=>h) (Or.inl ⟨by rfl,?_⟩) ?_ ?_;rotate_left
                  ·intro w';go_simp;with_reducible rfl
                  rotate_left
                  ·simp only [Act.put,List.setIfInBounds_toArray,List.set_cons_zero,List.set_cons_succ,i64_w,i32_w];rfl
                  refine pure_ (i:=5) (N:=some 71) (v:=?_) (a':=?_) #[true,false,true,false,false,true,false,false,false,false,false,false,false,false,false] rfl rfl (any_of HT_.out (by kernel_rfl)) (fun _ _ _ h=>h) (Or.inl ⟨by rfl,?_⟩) ?_ ?_;rotate_left
                  ·intro w';go_simp;with_reducible rfl
                  rotate_left
                  ·simp only [Act.put,List.setIfInBounds_toArray,List.set_cons_zero,List.set_cons_succ,i64_w,i32_w];rfl
                  refine pure_ (i:=7) (N:=some 73) (v:=?_) (a':=?_) #[true,false,true,false,false,true,false,true,false,false,false,false,false,false,false] rfl rfl (any_of HT_.out (by kernel_rfl)) (fun _ _ _ h=>h) (Or.inl ⟨by rfl,?_⟩) ?_ ?_;rotate_left
                  ·intro w';go_simp;with_reducible rfl
                  rotate_left
                  ·simp only [Act.put,List.setIfInBounds_toArray,List.set_cons_zero,List.set_cons_succ,i64_w,i32_w];rfl
                  refine pure_ (i:=9) (N:=some 75) (v:=?_) (a':=?_) #[true,false,true,false,false,true,false,true,false,true,false,false,false,false,false] rfl rfl (any_of HT_.out (by kernel_rfl)) (fun _ _ _ h=>h) (Or.inl ⟨by rfl,?_⟩) ?_ ?_;rotate_left
                  ·intro w';go_simp;with_reducible rfl
                  rotate_left
                  ·simp only [Act.put,List.setIfInBounds_toArray,List.set_cons_zero,List.set_cons_succ,i64_w,i32_w];rfl
                  refine take_ (i:=1) (N:=some 67) (v:=?_) (a':=?_) #[true,true,true,false,false,true,false,true,false,true,false,false,false,false,false] rfl rfl (take_ofW HT_.out HW_.out (by kernel_rfl)) (fun _ _ _ h=>h) (Or.inl ⟨by rfl,?_⟩) hHeld ?_ ?_;rotate_left
                  ·rintro w' ⟨s0,s1,s2,s3,s4,s5,s6,s7,s8,s9,s10,s11,s12,s13,s14,s15,s16,s17,s18,s19,s20⟩;go_simp;with_reducible rfl
                  rotate_left
                  ·simp only [Act.put,List.setIfInBounds_toArray,List.set_cons_zero,List.set_cons_succ,i64_w,i32_w];rfl
                  refine take_ (i:=3) (N:=some 69) (v:=?_) (a':=?_) #[true,true,true,true,false,true,false,true,false,true,false,false,false,false,false] rfl rfl (take_ofW HT_.out HW_.out (by kernel_rfl)) (fun _ _ _ h=>h) (Or.inl ⟨by rfl,?_⟩) hHeld ?_ ?_;rotate_left
                  ·rintro w' ⟨s0,s1,s2,s3,s4,s5,s6,s7,s8,s9,s10,s11,s12,s13,s14,s15,s16,s17,s18,s19,s20⟩;go_simp;with_reducible rfl
                  rotate_left
                  ·simp only [Act.put,List.setIfInBounds_toArray,List.set_cons_zero,List.set_cons_succ,i64_w,i32_w];rfl
                  refine pure_ (i:=4) (N:=some 70) (v:=?_) (a':=?_) #[true,true,true,true,true,true,false,true,false,true,false,false,false,false,false] rfl rfl (any_of HT_.out (by kernel_rfl)) (fun _ _ _ h=>h) (Or.inl ⟨by rfl,?_⟩) ?_ ?_;rotate_left
                  ·intro w';go_simp;with_reducible rfl
                  rotate_left
                  ·simp only [Act.put,List.setIfInBounds_toArray,List.set_cons_zero,List.set_cons_succ,i64_w,i32_w];rfl
                  refine take_ (i:=6) (N:=some 72) (v:=?_) (a':=?_) #[true,true,true,true,true,true,true,true,false,true,false,false,false,false,false] rfl rfl (take_ofW HT_.out HW_.out (by kernel_rfl)) (fun _ _ _ h=>h) (Or.inl ⟨by rfl,?_⟩) hHeld ?_ ?_;rotate_left
                  ·rintro w' ⟨s0,s1,s2,s3,s4,s5,s6,s7,s8,s9,s10,s11,s12,s13,s14,s15,s16,s17,s18,s19,s20⟩;go_simp;with_reducible rfl
                  rotate_left
                  ·simp only [Act.put,List.setIfInBounds_toArray,List.set_cons_zero,List.set_cons_succ,i64_w,i32_w];rfl
                  refine take_ (i:=8) (N:=some 74) (v:=?_) (a':=?_) #[true,true,true,true,true,true,true,true,true,true,false,false,false,false,false] rfl rfl (take_ofW HT_.out HW_.out (by kernel_rfl)) (fun _ _ _ h=>h) (Or.inl ⟨by rfl,?_⟩) hHeld ?_ ?_;rotate_left
                  ·rintro w' ⟨s0,s1,s2,s3,s4,s5,s6,s7,s8,s9,s10,s11,s12,s13,s14,s15,s16,s17,s18,s19,s20⟩;go_simp;with_reducible rfl
                  rotate_left
                  ·simp only [Act.put,List.setIfInBounds_toArray,List.set_cons_zero,List.set_cons_succ,i64_w,i32_w];rfl
                  refine take_ (i:=10) (N:=some 76) (v:=?_) (a':=?_) #[true,true,true,true,true,true,true,true,true,true,true,false,false,false,false] rfl rfl (take_ofW HT_.out HW_.out (by kernel_rfl)) (fun _ _ _ h=>h) (Or.inl ⟨by rfl,?_⟩) hHeld ?_ ?_;rotate_left
                  ·rintro w' ⟨s0,s1,s2,s3,s4,s5,s6,s7,s8,s9,s10,s11,s12,s13,s14,s15,s16,s17,s18,s19,s20⟩;go_simp;with_reducible rfl
                  rotate_left
                  ·simp only [Act.put,List.setIfInBounds_toArray,List.set_cons_zero,List.set_cons_succ,i64_w,i32_w];rfl
                  refine one_ (i:=11) (N:=some 77) #[true,true,true,true,true,true,true,true,true,true,true,true,false,false,false] rfl rfl (one_of HT_.out (by kernel_rfl)) (by decide) (fun K hK=>?_);refine goes_ Try.func44 (by kernel_rfl) rfl #[.float .f64 a0_3,.float .f64 a1_3,.float .f64 (fop .add a0_3 a1_3)] (by rfl) rfl rfl (by (try simp only [List.map_toArray,List.map_cons,List.map_nil]);first|done|rfl|(simp only [List.length_drop,List.length_take];rfl)) ?_
                  with_reducible refine (tally_lost.calls a0_3 a1_3 (fop .add a0_3 a1_3) t146 _ A92.out).mono ?_
                  rintro e w' ⟨rfl,⟨nd,rfl⟩⟩;refine ⟨_,rfl,?_⟩;refine hK.out _ _ ⟨(blk_cell BK140.out 0).trans rfl,(blk_cell BK140.out 1).trans rfl,(blk_cell BK140.out 2).trans rfl,(blk_cell BK140.out 3).trans rfl,(blk_cell BK140.out 4).trans rfl,(blk_cell BK140.out 5).trans rfl,(blk_cell BK140.out 6).trans rfl,(blk_cell BK141.out 0).trans rfl,(blk_cell BK141.out 1).trans rfl,(blk_cell BK141.out 2).trans rfl,(blk_cell BK141.out 3).trans rfl,(blk_cell BK141.out 4).trans rfl,(blk_cell BK141.out 5).trans rfl,(blk_cell BK141.out 6).trans rfl,(blk_cell BK145.out 0).trans rfl,(blk_cell BK145.out 1).trans rfl,(blk_cell BK145.out 2).trans rfl,(blk_cell BK145.out 3).trans rfl,(blk_cell BK145.out 4).trans rfl,(blk_cell BK145.out 5).trans rfl,(blk_cell BK145.out 6).trans rfl⟩ (fun hHeld=>?_);clear hK K;refine norm_ (a':=?_) ?_ ?_;rotate_left
                  ·show Act.put _ (some 77) _ = _
                   simp only [Act.put,List.setIfInBounds_toArray,List.set_cons_zero,List.set_cons_succ,i64_w,i32_w];rfl
                  refine one_ (i:=12) (N:=some 78) #[true,true,true,true,true,true,true,true,true,true,true,true,true,false,false] rfl rfl (one_of HT_.out (by kernel_rfl)) (by decide) (fun K hK=>?_);refine value_ (v:=.float .f64 (nanOf (w122.drewN nd) (fop .add a0_4 a1_4) t146)) (w1:=(w122.drewN nd).drew) (by rfl) rfl ?_ ?_
                  ·exact nan_add_op _ (by rfl) (by rfl) (by rfl) c93b0
                  refine hK.out _ _ ⟨(blk_cell BK140.out 0).trans rfl,(blk_cell BK140.out 1).trans rfl,(blk_cell BK140.out 2).trans rfl,(blk_cell BK140.out 3).trans rfl,(blk_cell BK140.out 4).trans rfl,(blk_cell BK140.out 5).trans rfl,(blk_cell BK140.out 6).trans rfl,(blk_cell BK141.out 0).trans rfl,(blk_cell BK141.out 1).trans rfl,(blk_cell BK141.out 2).trans rfl,(blk_cell BK141.out 3).trans rfl,(blk_cell BK141.out 4).trans rfl,(blk_cell BK141.out 5).trans rfl,(blk_cell BK141.out 6).trans rfl,(blk_cell BK145.out 0).trans rfl,(blk_cell BK145.out 1).trans rfl,(blk_cell BK145.out 2).trans rfl,(blk_cell BK145.out 3).trans rfl,(blk_cell BK145.out 4).trans rfl,(blk_cell BK145.out 5).trans rfl,(blk_cell BK145.out 6).trans rfl⟩ (fun hHeld=>?_);clear hK K;refine norm_ (a':=?_) ?_ ?_;rotate_left
                  ·show Act.put _ (some 78) _ = _
                   simp only [Act.put,List.setIfInBounds_toArray,List.set_cons_zero,List.set_cons_succ,i64_w,i32_w];rfl
                  refine pure_ (i:=13) (N:=some 79) (v:=?_) (a':=?_) #[true,true,true,true,true,true,true,true,true,true,true,true,true,true,false] rfl rfl (any_of HT_.out (by kernel_rfl)) (fun _ _ _ h=>h) (Or.inl ⟨by rfl,?_⟩) ?_ ?_;rotate_left
                  ·intro w';go_simp;with_reducible rfl
                  rotate_left
                  ·simp only [Act.put,List.setIfInBounds_toArray,List.set_cons_zero,List.set_cons_succ,i64_w,i32_w];rfl
                  refine last_ (i:=14) (N:=none) #[true,true,true,true,true,true,true,true,true,true,true,true,true,true,true] rfl rfl (one_of HT_.out (by kernel_rfl)) (by decide) (fun K hK=>?_);have hs123 : w122.cell? ⟨gb145,4,none⟩ = some (.float .f64 0):=(blk_cell BK145.out 4).trans rfl;have hfs123:=blk_frozen BK145.out 4;have hns123_0:=NB140_145.out;have hns123_1:=NB141_145.out;have hns123_2:=NB142_145.out;have hms123_0:=NB145_140.out;have hms123_1:=NB145_141.out;have hms123_2:=NB145_142.out;refine skip_ (w1:=?_) (by rfl) rfl ?_ ?_;rotate_left
                  ·go_simp;rfl
                  refine hK.out _ _ ?_;clear hK K;refine done_ (done_of HT_.out (by kernel_rfl)) ?_
                  try go_wp2
                  obtain ⟨NN_,hNN_⟩ : ∃ n,n = nanOf (w122.drewN nd) (fop .add a0_4 a1_4) t146:=⟨_,rfl⟩
                  have HN_ : isNan NN_:=by rw [hNN_];exact nan_nanOf _ _ _
                  rw [← hNN_];clear hNN_
                  obtain ⟨w124,hW_⟩ : ∃ w_,w_ = ((w122.drewN (nd + 1)).setCell ⟨gb145,4,none⟩ (.float .f64 NN_)):=⟨_,rfl⟩
                  have n0_ : Aside0 (w124.heap[gb140]? = some (.cells #[.int .i64 a0_0,.float .f64 a0_1,.float .f64 a0_2,.float .f64 a0_3,.float .f64 a0_4,.float .f64 a0_5,.float .f64 a0_6] 26 (0,0))):=⟨by rw [hW_];exact blk_far (blk_drewN BK140.out (nd + 1)) (p:=⟨gb145,4,none⟩) NB140_145.out _⟩;have n1_ : Aside0 (w124.heap[gb141]? = some (.cells #[.int .i64 a1_0,.float .f64 a1_1,.float .f64 a1_2,.float .f64 a1_3,.float .f64 a1_4,.float .f64 a1_5,.float .f64 a1_6] 26 (0,0))):=⟨by rw [hW_];exact blk_far (blk_drewN BK141.out (nd + 1)) (p:=⟨gb145,4,none⟩) NB141_145.out _⟩;have n2_ : Aside0 (w124.heap[gb142]? = some (.cells #[.int .i64 0,.float .f64 0,.float .f64 0,.float .f64 0,.float .f64 0,.float .f64 0,.float .f64 0] 26 (0,0))):=⟨by rw [hW_];exact blk_far (blk_drewN BK142.out (nd + 1)) (p:=⟨gb145,4,none⟩) NB142_145.out _⟩;have n3_ : Aside0 (w124.heap[gb145]? = some (.cells #[.int .i64 (wrap64 (a0_0 + a1_0)),.float .f64 x146001_53,.float .f64 x146002_74,.float .f64 (fop .add a0_3 a1_3),.float .f64 NN_,.float .f64 0,.float .f64 0] 26 (0,0))):=⟨by rw [hW_];exact blk_put (blk_drewN BK145.out (nd + 1)) 4 _ rfl⟩;have n4_ : Aside0 (Below w.heap.size w w124):=⟨by rw [hW_];exact below_set (pw_below_drewN HB.out (nd + 1)) GE145.out⟩
                  (try clear BK140)
                  (try clear BK141)
                  (try clear BK142)
                  (try clear BK145)
                  (try clear HB)
                  rw [← hW_];clear hW_;have BK140:=n0_;have BK141:=n1_;have BK142:=n2_;have BK145:=n3_;have HB:=n4_;clear n0_ n1_ n2_ n3_ n4_;have n0_:=Aside0.mk (blk_drew BK140.out);have n1_:=Aside0.mk (blk_drew BK141.out);have n2_:=Aside0.mk (blk_drew BK142.out);have n3_:=Aside0.mk (blk_drew BK145.out);have n4_:=Aside0.mk (below_drew1 HB.out);clear BK140;clear BK141;clear BK142;clear BK145;clear HB;have BK140:=n0_;have BK141:=n1_;have BK142:=n2_;have BK145:=n3_;have HB:=n4_;clear n0_ n1_ n2_ n3_ n4_;refine start_ (n:=8) (S:=fun w'=>w'.cell? ⟨gb140,0,none⟩ = some (.int .i64 a0_0) ∧ w'.cell? ⟨gb140,1,none⟩ = some (.float .f64 a0_1) ∧ w'.cell? ⟨gb140,2,none⟩ = some (.float .f64 a0_2) ∧ w'.cell? ⟨gb140,3,none⟩ = some (.float .f64 a0_3) ∧ w'.cell? ⟨gb140,4,none⟩ = some (.float .f64 a0_4) ∧ w'.cell? ⟨gb140,5,none⟩ = some (.float .f64 a0_5) ∧ w'.cell? ⟨gb140,6,none⟩ = some (.float .f64 a0_6) ∧ w'.cell? ⟨gb141,0,none⟩ = some (.int .i64 a1_0) ∧ w'.cell? ⟨gb141,1,none⟩ = some (.float .f64 a1_1) ∧ w'.cell? ⟨gb141,2,none⟩ = some (.float .f64 a1_2) ∧ w'.cell? ⟨gb141,3,none⟩ = some (.float .f64 a1_3) ∧ w'.cell? ⟨gb141,4,none⟩ = some (.float .f64 a1_4) ∧ w'.cell? ⟨gb141,5,none⟩ = some (.float .f64 a1_5) ∧ w'.cell? ⟨gb141,6,none⟩ = some (.float .f64 a1_6)) (ds:=[]) #[false,false,false,false,false,false,false,false] (by kernel_rfl) rfl rfl ⟨(blk_cell BK140.out 0).trans rfl,(blk_cell BK140.out 1).trans rfl,(blk_cell BK140.out 2).trans rfl,(blk_cell BK140.out 3).trans rfl,(blk_cell BK140.out 4).trans rfl,(blk_cell BK140.out 5).trans rfl,(blk_cell BK140.out 6).trans rfl,(blk_cell BK141.out 0).trans rfl,(blk_cell BK141.out 1).trans rfl,(blk_cell BK141.out 2).trans rfl,(blk_cell BK141.out 3).trans rfl,(blk_cell BK141.out 4).trans rfl,(blk_cell BK141.out 5).trans rfl,(blk_cell BK141.out 6).trans rfl⟩ (fun hHeld=>?_);refine with_tabW tally_Join.tab15 tally_Join.bits15 (fun HT_ HW_=>?_)
                  generalize w124.drew = w125 at BK140 BK141 BK142 BK145 HB hHeld ⊢
                  refine pure_ (i:=0) (N:=some 80) (v:=?_) (a':=?_) #[true,false,false,false,false,false,false,false] rfl rfl (any_of HT_.out (by kernel_rfl)) (fun _ _ _ h=>h) (Or.inl ⟨by rfl,?_⟩) ?_ ?_;rotate_left
                  ·intro w';go_simp;with_reducible rfl
                  rotate_left
                  ·simp only [Act.put,List.setIfInBounds_toArray,List.set_cons_zero,List.set_cons_succ,i64_w,i32_w];rfl
                  refine pure_ (i:=3) (N:=some 83) (v:=?_) (a':=?_) #[true,false,false,true,false,false,false,false] rfl rfl (any_of HT_.out (by kernel_rfl)) (fun _ _ _ h=>h) (Or.inl ⟨by rfl,?_⟩) ?_ ?_;rotate_left
                  ·intro w';go_simp;with_reducible rfl
                  rotate_left
                  ·simp only [Act.put,List.setIfInBounds_toArray,List.set_cons_zero,List.set_cons_succ,i64_w,i32_w];rfl
                  refine take_ (i:=1) (N:=some 81) (v:=?_) (a':=?_) #[true,true,false,true,false,false,false,false] rfl rfl (take_ofW HT_.out HW_.out (by kernel_rfl)) (fun _ _ _ h=>h) (Or.inl ⟨by rfl,?_⟩) hHeld ?_ ?_;rotate_left
                  ·rintro w' ⟨s0,s1,s2,s3,s4,s5,s6,s7,s8,s9,s10,s11,s12,s13⟩;go_simp;with_reducible rfl
                  rotate_left
                  ·simp only [Act.put,List.setIfInBounds_toArray,List.set_cons_zero,List.set_cons_succ,i64_w,i32_w];rfl
                  refine pure_ (i:=2) (N:=some 82) (v:=?_) (a':=?_) #[true,true,true,true,false,false,false,false] rfl rfl (any_of HT_.out (by kernel_rfl)) (fun _ _ _ h=>h) (Or.inl ⟨by rfl,?_⟩) ?_ ?_;rotate_left
                  ·intro w';go_simp;with_reducible rfl
                  rotate_left
                  ·simp only [Act.put,List.setIfInBounds_toArray,List.set_cons_zero,List.set_cons_succ,i64_w,i32_w];rfl
                  refine pure_ (i:=6) (N:=some 7) (v:=?_) (a':=?_) #[true,true,true,true,false,false,true,false] rfl rfl (any_of HT_.out (by kernel_rfl)) (fun _ _ _ h=>h) (Or.inl ⟨by rfl,?_⟩) ?_ ?_;rotate_left
                  ·intro w';go_simp;with_reducible rfl
                  rotate_left
                  ·simp only [Act.put,List.setIfInBounds_toArray,List.set_cons_zero,List.set_cons_succ,i64_w,i32_w];rfl
                  refine take_ (i:=4) (N:=some 84) (v:=?_) (a':=?_) #[true,true,true,true,true,false,true,false] rfl rfl (take_ofW HT_.out HW_.out (by kernel_rfl)) (fun _ _ _ h=>h) (Or.inl ⟨by rfl,?_⟩) hHeld ?_ ?_;rotate_left
                  ·rintro w' ⟨s0,s1,s2,s3,s4,s5,s6,s7,s8,s9,s10,s11,s12,s13⟩;go_simp;with_reducible rfl
                  rotate_left
                  ·simp only [Act.put,List.setIfInBounds_toArray,List.set_cons_zero,List.set_cons_succ,i64_w,i32_w];rfl
                  refine pure_ (i:=5) (N:=some 85) (v:=?_) (a':=?_) #[true,true,true,true,true,true,true,false] rfl rfl (any_of HT_.out (by kernel_rfl)) (fun _ _ _ h=>h) (Or.inl ⟨by rfl,?_⟩) ?_ ?_;rotate_left
                  ·intro w';go_simp;with_reducible rfl
                  rotate_left
                  ·simp only [Act.put,List.setIfInBounds_toArray,List.set_cons_zero,List.set_cons_succ,i64_w,i32_w];rfl
                  refine pure_ (i:=7) (N:=some 8) (v:=?_) (a':=?_) #[true,true,true,true,true,true,true,true] rfl rfl (any_of HT_.out (by kernel_rfl)) (fun _ _ _ h=>h) (Or.inl ⟨by rfl,?_⟩) ?_ ?_;rotate_left
                  ·intro w';go_simp;with_reducible rfl
                  rotate_left
                  ·simp only [Act.put,List.setIfInBounds_toArray,List.set_cons_zero,List.set_cons_succ,i64_w,i32_w];rfl
                  refine done_ (done_of HT_.out (by kernel_rfl)) ?_
                  try go_wp2
                  have n0_:=Aside0.mk (blk_drew BK140.out);have n1_:=Aside0.mk (blk_drew BK141.out);have n2_:=Aside0.mk (blk_drew BK142.out);have n3_:=Aside0.mk (blk_drew BK145.out);have n4_:=Aside0.mk (below_drew1 HB.out);clear BK140;clear BK141;clear BK142;clear BK145;clear HB;have BK140:=n0_;have BK141:=n1_;have BK142:=n2_;have BK145:=n3_;have HB:=n4_;clear n0_ n1_ n2_ n3_ n4_;refine start_ (n:=12) (S:=fun w'=>w'.cell? ⟨gb141,0,none⟩ = some (.int .i64 a1_0) ∧ w'.cell? ⟨gb141,1,none⟩ = some (.float .f64 a1_1) ∧ w'.cell? ⟨gb141,2,none⟩ = some (.float .f64 a1_2) ∧ w'.cell? ⟨gb141,3,none⟩ = some (.float .f64 a1_3) ∧ w'.cell? ⟨gb141,4,none⟩ = some (.float .f64 a1_4) ∧ w'.cell? ⟨gb141,5,none⟩ = some (.float .f64 a1_5) ∧ w'.cell? ⟨gb141,6,none⟩ = some (.float .f64 a1_6) ∧ w'.cell? ⟨gb140,0,none⟩ = some (.int .i64 a0_0) ∧ w'.cell? ⟨gb140,1,none⟩ = some (.float .f64 a0_1) ∧ w'.cell? ⟨gb140,2,none⟩ = some (.float .f64 a0_2) ∧ w'.cell? ⟨gb140,3,none⟩ = some (.float .f64 a0_3) ∧ w'.cell? ⟨gb140,4,none⟩ = some (.float .f64 a0_4) ∧ w'.cell? ⟨gb140,5,none⟩ = some (.float .f64 a0_5) ∧ w'.cell? ⟨gb140,6,none⟩ = some (.float .f64 a0_6) ∧ w'.cell? ⟨gb145,0,none⟩ = some (.int .i64 (wrap64 (a0_0 + a1_0))) ∧ w'.cell? ⟨gb145,1,none⟩ = some (.float .f64 x146001_53) ∧ w'.cell? ⟨gb145,2,none⟩ = some (.float .f64 x146002_74) ∧ w'.cell? ⟨gb145,3,none⟩ = some (.float .f64 (fop .add a0_3 a1_3)) ∧ w'.cell? ⟨gb145,4,none⟩ = some (.float .f64 NN_) ∧ w'.cell? ⟨gb145,5,none⟩ = some (.float .f64 0) ∧ w'.cell? ⟨gb145,6,none⟩ = some (.float .f64 0)) (ds:=[]) #[false,false,false,false,false,false,false,false,false,false,false,false] (by kernel_rfl) rfl rfl ⟨(blk_cell BK141.out 0).trans rfl,(blk_cell BK141.out 1).trans rfl,(blk_cell BK141.out 2).trans rfl,(blk_cell BK141.out 3).trans rfl,(blk_cell BK141.out 4).trans rfl,(blk_cell BK141.out 5).trans rfl,(blk_cell BK141.out 6).trans rfl,(blk_cell BK140.out 0).trans rfl,(blk_cell BK140.out 1).trans rfl,(blk_cell BK140.out 2).trans rfl,(blk_cell BK140.out 3).trans rfl,(blk_cell BK140.out 4).trans rfl,(blk_cell BK140.out 5).trans rfl,(blk_cell BK140.out 6).trans rfl,(blk_cell BK145.out 0).trans rfl,(blk_cell BK145.out 1).trans rfl,(blk_cell BK145.out 2).trans rfl,(blk_cell BK145.out 3).trans rfl,(blk_cell BK145.out 4).trans rfl,(blk_cell BK145.out 5).trans rfl,(blk_cell BK145.out 6).trans rfl⟩ (fun hHeld=>?_);refine with_tabW tally_Join.tab16 tally_Join.bits16 (fun HT_ HW_=>?_)
                  generalize w125.drew = w126 at BK140 BK141 BK142 BK145 HB hHeld ⊢
                  refine pure_ (i:=0) (N:=some 86) (v:=?_) (a':=?_) #[true,false,false,false,false,false,false,false,false,false,false,false] rfl rfl (any_of HT_.out (by kernel_rfl)) (fun _ _ _ h=>h) (Or.inl ⟨by rfl,?_⟩) ?_ ?_;rotate_left
                  ·intro w';go_simp;with_reducible rfl
                  rotate_left
                  ·simp only [Act.put,List.setIfInBounds_toArray,List.set_cons_zero,List.set_cons_succ,i64_w,i32_w];rfl
                  refine pure_ (i:=2) (N:=some 88) (v:=?_) (a':=?_) #[true,false,true,false,false,false,false,false,false,false,false,false] rfl rfl (any_of HT_.out (by kernel_rfl)) (fun _ _ _ h=>h) (Or.inl ⟨by rfl,?_⟩) ?_ ?_;rotate_left
                  ·intro w';go_simp;with_reducible rfl
                  rotate_left
                  ·simp only [Act.put,List.setIfInBounds_toArray,List.set_cons_zero,List.set_cons_succ,i64_w,i32_w];rfl
                  refine pure_ (i:=5) (N:=some 91) (v:=?_) (a':=?_) #[true,false,true,false,false,true,false,false,false,false,false,false] rfl rfl (any_of HT_.out (by kernel_rfl)) (fun _ _ _ h=>h) (Or.inl ⟨by rfl,?_⟩) ?_ ?_;rotate_left
                  ·intro w';go_simp;with_reducible rfl
                  rotate_left
                  ·simp only [Act.put,List.setIfInBounds_toArray,List.set_cons_zero,List.set_cons_succ,i64_w,i32_w];rfl
                  refine pure_ (i:=6) (N:=some 92) (v:=?_) (a':=?_) #[true,false,true,false,false,true,true,false,false,false,false,false] rfl rfl (any_of HT_.out (by kernel_rfl)) (fun _ _ _ h=>h) (Or.inl ⟨by rfl,?_⟩) ?_ ?_;rotate_left
                  ·intro w';go_simp;with_reducible rfl
                  rotate_left
                  ·simp only [Act.put,List.setIfInBounds_toArray,List.set_cons_zero,List.set_cons_succ,i64_w,i32_w];rfl
                  refine take_ (i:=1) (N:=some 87) (v:=?_) (a':=?_) #[true,true,true,false,false,true,true,false,false,false,false,false] rfl rfl (take_ofW HT_.out HW_.out (by kernel_rfl)) (fun _ _ _ h=>h) (Or.inl ⟨by rfl,?_⟩) hHeld ?_ ?_;rotate_left
                  ·rintro w' ⟨s0,s1,s2,s3,s4,s5,s6,s7,s8,s9,s10,s11,s12,s13,s14,s15,s16,s17,s18,s19,s20⟩;go_simp;with_reducible rfl
                  rotate_left
                  ·simp only [Act.put,List.setIfInBounds_toArray,List.set_cons_zero,List.set_cons_succ,i64_w,i32_w];rfl
                  refine take_ (i:=3) (N:=some 89) (v:=?_) (a':=?_) #[true,true,true,true,false,true,true,false,false,false,false,false] rfl rfl (take_ofW HT_.out HW_.out (by kernel_rfl)) (fun _ _ _ h=>h) (Or.inl ⟨by rfl,?_⟩) hHeld ?_ ?_;rotate_left
                  ·rintro w' ⟨s0,s1,s2,s3,s4,s5,s6,s7,s8,s9,s10,s11,s12,s13,s14,s15,s16,s17,s18,s19,s20⟩;go_simp;with_reducible rfl
                  rotate_left
                  ·simp only [Act.put,List.setIfInBounds_toArray,List.set_cons_zero,List.set_cons_succ,i64_w,i32_w];rfl
                  refine pure_ (i:=4) (N:=some 90) (v:=?_) (a':=?_) #[true,true,true,true,true,true,true,false,false,false,false,false] rfl rfl (any_of HT_.out (by kernel_rfl)) (fun _ _ _ h=>h) (Or.inl ⟨by rfl,?_⟩) ?_ ?_;rotate_left
                  ·intro w';go_simp;with_reducible rfl
                  rotate_left
                  ·simp only [Act.put,List.setIfInBounds_toArray,List.set_cons_zero,List.set_cons_succ,i64_w,i32_w];rfl
                  refine pure_ (i:=10) (N:=some 9) (v:=?_) (a':=?_) #[true,true,true,true,true,true,true,false,false,false,true,false] rfl rfl (any_of HT_.out (by kernel_rfl)) (fun _ _ _ h=>h) (Or.inl ⟨by rfl,?_⟩) ?_ ?_;rotate_left
                  ·intro w';go_simp;with_reducible rfl
                  rotate_left
                  ·simp only [Act.put,List.setIfInBounds_toArray,List.set_cons_zero,List.set_cons_succ,i64_w,i32_w];rfl
                  refine take_ (i:=7) (N:=some 93) (v:=?_) (a':=?_) #[true,true,true,true,true,true,true,true,false,false,true,false] rfl rfl (take_ofW HT_.out HW_.out (by kernel_rfl)) (fun _ _ _ h=>h) (Or.inl ⟨by rfl,?_⟩) hHeld ?_ ?_;rotate_left
                  ·rintro w' ⟨s0,s1,s2,s3,s4,s5,s6,s7,s8,s9,s10,s11,s12,s13,s14,s15,s16,s17,s18,s19,s20⟩;go_simp;with_reducible rfl
                  rotate_left
                  ·simp only [Act.put,List.setIfInBounds_toArray,List.set_cons_zero,List.set_cons_succ,i64_w,i32_w];rfl
                  refine pure_ (i:=8) (N:=some 94) (v:=?_) (a':=?_) #[true,true,true,true,true,true,true,true,true,false,true,false] rfl rfl (any_of HT_.out (by kernel_rfl)) (fun _ _ _ h=>h) (Or.inl ⟨by rfl,?_⟩) ?_ ?_;rotate_left
                  ·intro w';go_simp;with_reducible rfl
                  rotate_left
                  ·simp only [Act.put,List.setIfInBounds_toArray,List.set_cons_zero,List.set_cons_succ,i64_w,i32_w];rfl
                  refine pure_ (i:=9) (N:=some 95) (v:=?_) (a':=?_) #[true,true,true,true,true,true,true,true,true,true,true,false] rfl rfl (any_of HT_.out (by kernel_rfl)) (fun _ _ _ h=>h) (Or.inl ⟨by rfl,?_⟩) ?_ ?_;rotate_left
                  ·intro w';go_simp;with_reducible rfl
                  rotate_left
                  ·simp only [Act.put,List.setIfInBounds_toArray,List.set_cons_zero,List.set_cons_succ,i64_w,i32_w];rfl
                  refine pure_ (i:=11) (N:=some 10) (v:=?_) (a':=?_) #[true,true,true,true,true,true,true,true,true,true,true,true] rfl rfl (any_of HT_.out (by kernel_rfl)) (fun _ _ _ h=>h) (Or.inl ⟨by rfl,?_⟩) ?_ ?_;rotate_left
                  ·intro w';go_simp;with_reducible rfl
                  rotate_left
                  ·simp only [Act.put,List.setIfInBounds_toArray,List.set_cons_zero,List.set_cons_succ,i64_w,i32_w];rfl
                  refine done_ (done_of HT_.out (by kernel_rfl)) ?_;have hnb127:=NB140_141.out;have hnc127:=NB141_140.out;have hnb128:=NB140_142.out;have hnc128:=NB142_140.out;have hnb129:=NB140_145.out;have hnc129:=NB145_140.out;have hcz130_0 : w126.cell? ⟨gb140,0,none⟩ = some (.int .i64 a0_0):=(blk_cell BK140.out 0).trans rfl;have hcz130_1 : w126.cell? ⟨gb140,1,none⟩ = some (.float .f64 a0_1):=(blk_cell BK140.out 1).trans rfl;have hcz130_2 : w126.cell? ⟨gb140,2,none⟩ = some (.float .f64 a0_2):=(blk_cell BK140.out 2).trans rfl;have hcz130_3 : w126.cell? ⟨gb140,3,none⟩ = some (.float .f64 a0_3):=(blk_cell BK140.out 3).trans rfl;have hcz130_4 : w126.cell? ⟨gb140,4,none⟩ = some (.float .f64 a0_4):=(blk_cell BK140.out 4).trans rfl;have hcz130_5 : w126.cell? ⟨gb140,5,none⟩ = some (.float .f64 a0_5):=(blk_cell BK140.out 5).trans rfl;have hcz130_6 : w126.cell? ⟨gb140,6,none⟩ = some (.float .f64 a0_6):=(blk_cell BK140.out 6).trans rfl;have hfz130_0:=blk_frozen BK140.out 0;have hfz130_1:=blk_frozen BK140.out 1;have hfz130_2:=blk_frozen BK140.out 2;have hfz130_3:=blk_frozen BK140.out 3;have hfz130_4:=blk_frozen BK140.out 4;have hfz130_5:=blk_frozen BK140.out 5;have hfz130_6:=blk_frozen BK140.out 6;have hnb131:=NB145_141.out;have hnc131:=NB141_145.out;have hnb132:=NB145_142.out;have hnc132:=NB142_145.out;have hcz133_0 : w126.cell? ⟨gb145,0,none⟩ = some (.int .i64 (wrap64 (a0_0 + a1_0))):=(blk_cell BK145.out 0).trans rfl;have hcz133_1 : w126.cell? ⟨gb145,1,none⟩ = some (.float .f64 x146001_53):=(blk_cell BK145.out 1).trans rfl
                  have hcz133_2 : w126.cell? ⟨gb145,2,none⟩ = some (.float .f64 x146002_74):=(blk_cell BK145.out 2).trans rfl;have hcz133_3 : w126.cell? ⟨gb145,3,none⟩ = some (.float .f64 (fop .add a0_3 a1_3)):=(blk_cell BK145.out 3).trans rfl;have hcz133_4 : w126.cell? ⟨gb145,4,none⟩ = some (.float .f64 NN_):=(blk_cell BK145.out 4).trans rfl;have hcz133_5 : w126.cell? ⟨gb145,5,none⟩ = some (.float .f64 0):=(blk_cell BK145.out 5).trans rfl;have hcz133_6 : w126.cell? ⟨gb145,6,none⟩ = some (.float .f64 0):=(blk_cell BK145.out 6).trans rfl;have hfz133_0:=blk_frozen BK145.out 0;have hfz133_1:=blk_frozen BK145.out 1;have hfz133_2:=blk_frozen BK145.out 2;have hfz133_3:=blk_frozen BK145.out 3;have hfz133_4:=blk_frozen BK145.out 4;have hfz133_5:=blk_frozen BK145.out 5;have hfz133_6:=blk_frozen BK145.out 6;have hnb134:=NB141_142.out;have hnc134:=NB142_141.out;have hcz135_0 : w126.cell? ⟨gb141,0,none⟩ = some (.int .i64 a1_0):=(blk_cell BK141.out 0).trans rfl;have hcz135_1 : w126.cell? ⟨gb141,1,none⟩ = some (.float .f64 a1_1):=(blk_cell BK141.out 1).trans rfl;have hcz135_2 : w126.cell? ⟨gb141,2,none⟩ = some (.float .f64 a1_2):=(blk_cell BK141.out 2).trans rfl;have hcz135_3 : w126.cell? ⟨gb141,3,none⟩ = some (.float .f64 a1_3):=(blk_cell BK141.out 3).trans rfl;have hcz135_4 : w126.cell? ⟨gb141,4,none⟩ = some (.float .f64 a1_4):=(blk_cell BK141.out 4).trans rfl;have hcz135_5 : w126.cell? ⟨gb141,5,none⟩ = some (.float .f64 a1_5):=(blk_cell BK141.out 5).trans rfl;have hcz135_6 : w126.cell? ⟨gb141,6,none⟩ = some (.float .f64 a1_6):=(blk_cell BK141.out 6).trans rfl
                  have hfz135_0:=blk_frozen BK141.out 0;have hfz135_1:=blk_frozen BK141.out 1;have hfz135_2:=blk_frozen BK141.out 2;have hfz135_3:=blk_frozen BK141.out 3;have hfz135_4:=blk_frozen BK141.out 4;have hfz135_5:=blk_frozen BK141.out 5;have hfz135_6:=blk_frozen BK141.out 6
                  try go_wp2_with (first|((with_reducible refine gate_callee (f:=45) rfl ?_);refine goesL_ (some 118) rfl rfl Try.func45 (by kernel_rfl) rfl #[.agg #[.int .i64 (wrap64 (a0_0 + a1_0)),.float .f64 x146001_53,.float .f64 x146002_74,.float .f64 (fop .add a0_3 a1_3),.float .f64 NN_,.float .f64 (fop .add a0_5 (fop .mul (fop .sub a1_5 a0_5) (fop .quo (floatOfInt .f64 a1_0) (floatOfInt .f64 (wrap64 (a0_0 + a1_0)))))),.float .f64 (fop .add (fop .add a0_6 a1_6) (fop .mul (fop .mul (fop .sub a1_5 a0_5) (fop .sub a1_5 a0_5)) (fop .mul (floatOfInt .f64 a0_0) (fop .quo (floatOfInt .f64 a1_0) (floatOfInt .f64 (wrap64 (a0_0 + a1_0)))))))]] rfl (by (try simp only [List.map_toArray,List.map_cons,List.map_nil]);first|done|rfl|(simp only [List.length_drop,List.length_take];rfl)) ?_;(with_reducible refine (tally_sound.calls kj74 (wrap64 (a0_0 + a1_0)) x146001_53 x146002_74 (fop .add a0_3 a1_3) NN_ (fop .add a0_5 (fop .mul (fop .sub a1_5 a0_5) (fop .quo (floatOfInt .f64 a1_0) (floatOfInt .f64 (wrap64 (a0_0 + a1_0)))))) (fop .add (fop .add a0_6 a1_6) (fop .mul (fop .mul (fop .sub a1_5 a0_5) (fop .sub a1_5 a0_5)) (fop .mul (floatOfInt .f64 a0_0) (fop .quo (floatOfInt .f64 a1_0) (floatOfInt .f64 (wrap64 (a0_0 + a1_0))))))) false _ (sound_nan HN_ A103.out)).mono ?_);rintro e w136 ⟨rfl,hb⟩;refine ⟨_,rfl,?_⟩;have n0_:=Aside0.mk (blk_below (g:=gb140) (o:=.cells #[.int .i64 a0_0,.float .f64 a0_1,.float .f64 a0_2,.float .f64 a0_3,.float .f64 a0_4,.float .f64 a0_5,.float .f64 a0_6] 26 (0,0)) (by (with_reducible repeat (first|refine blk_drewN ?_ _|refine blk_drew ?_|refine blk_alloc ?_ _));refine blk_far ?_ NB140_145.out _;(with_reducible repeat (first|refine blk_drewN ?_ _|refine blk_drew ?_|refine blk_alloc ?_ _));refine blk_far ?_ NB140_145.out _;(with_reducible repeat (first|refine blk_drewN ?_ _|refine blk_drew ?_|refine blk_alloc ?_ _));exact BK140.out) hb);have n1_:=Aside0.mk (blk_below (g:=gb141) (o:=.cells #[.int .i64 a1_0,.float .f64 a1_1,.float .f64 a1_2,.float .f64 a1_3,.float .f64 a1_4,.float .f64 a1_5,.float .f64 a1_6] 26 (0,0)) (by (with_reducible repeat (first|refine blk_drewN ?_ _|refine blk_drew ?_|refine blk_alloc ?_ _));refine blk_far ?_ NB141_145.out _;(with_reducible repeat (first|refine blk_drewN ?_ _|refine blk_drew ?_|refine blk_alloc ?_ _));refine blk_far ?_ NB141_145.out _;(with_reducible repeat (first|refine blk_drewN ?_ _|refine blk_drew ?_|refine blk_alloc ?_ _));exact BK141.out) hb);have n2_:=Aside0.mk (blk_below (g:=gb142) (o:=.cells #[.int .i64 0,.float .f64 0,.float .f64 0,.float .f64 0,.float .f64 0,.float .f64 0,.float .f64 0] 26 (0,0)) (by (with_reducible repeat (first|refine blk_drewN ?_ _|refine blk_drew ?_|refine blk_alloc ?_ _));refine blk_far ?_ NB142_145.out _;(with_reducible repeat (first|refine blk_drewN ?_ _|refine blk_drew ?_|refine blk_alloc ?_ _));refine blk_far ?_ NB142_145.out _;(with_reducible repeat (first|refine blk_drewN ?_ _|refine blk_drew ?_|refine blk_alloc ?_ _));exact BK142.out) hb);have n3_:=Aside0.mk (blk_below (g:=gb145) (o:=.cells #[.int .i64 (wrap64 (a0_0 + a1_0)),.float .f64 x146001_53,.float .f64 x146002_74,.float .f64 (fop .add a0_3 a1_3),.float .f64 NN_,.float .f64 (fop .add a0_5 (fop .mul (fop .sub a1_5 a0_5) (fop .quo (floatOfInt .f64 a1_0) (floatOfInt .f64 (wrap64 (a0_0 + a1_0)))))),.float .f64 (fop .add (fop .add a0_6 a1_6) (fop .mul (fop .mul (fop .sub a1_5 a0_5) (fop .sub a1_5 a0_5)) (fop .mul (floatOfInt .f64 a0_0) (fop .quo (floatOfInt .f64 a1_0) (floatOfInt .f64 (wrap64 (a0_0 + a1_0)))))))] 26 (0,0)) (by (with_reducible repeat (first|refine blk_drewN ?_ _|refine blk_drew ?_|refine blk_alloc ?_ _));refine blk_put (cs:=#[.int .i64 (wrap64 (a0_0 + a1_0)),.float .f64 x146001_53,.float .f64 x146002_74,.float .f64 (fop .add a0_3 a1_3),.float .f64 NN_,.float .f64 (fop .add a0_5 (fop .mul (fop .sub a1_5 a0_5) (fop .quo (floatOfInt .f64 a1_0) (floatOfInt .f64 (wrap64 (a0_0 + a1_0)))))),.float .f64 0]) ?_ 6 _ (by first|rfl|(simp only [px_pos,px_ne];rfl)|simp [px_pos,px_ne]);(with_reducible repeat (first|refine blk_drewN ?_ _|refine blk_drew ?_|refine blk_alloc ?_ _));refine blk_put (cs:=#[.int .i64 (wrap64 (a0_0 + a1_0)),.float .f64 x146001_53,.float .f64 x146002_74,.float .f64 (fop .add a0_3 a1_3),.float .f64 NN_,.float .f64 0,.float .f64 0]) ?_ 5 _ (by first|rfl|(simp only [px_pos,px_ne];rfl)|simp [px_pos,px_ne]);(with_reducible repeat (first|refine blk_drewN ?_ _|refine blk_drew ?_|refine blk_alloc ?_ _));exact BK145.out) hb);have n4_:=Aside0.mk (below_step (by repeat (first|(with_reducible first|exact HB.out|apply below_alloc|apply pw_below_drewN|apply below_drew1|refine below_set ?_ GE140.out|refine below_set ?_ GE141.out|refine below_set ?_ GE142.out|refine below_set ?_ GE145.out)|exact HB.out)) hb);clear BK140;clear BK141;clear BK142;clear BK145;clear HB;have BK140:=n0_;have BK141:=n1_;have BK142:=n2_;have BK145:=n3_;have HB:=n4_;clear n0_ n1_ n2_ n3_ n4_;(try clear hb);(try clear hb2);(try clear hk);(try clear hi);have hcz137_0 : w136.cell? ⟨gb142,0,none⟩ = some (.int .i64 0):=(blk_cell BK142.out 0).trans rfl;have hcz137_1 : w136.cell? ⟨gb142,1,none⟩ = some (.float .f64 0):=(blk_cell BK142.out 1).trans rfl;have hcz137_2 : w136.cell? ⟨gb142,2,none⟩ = some (.float .f64 0):=(blk_cell BK142.out 2).trans rfl;have hcz137_3 : w136.cell? ⟨gb142,3,none⟩ = some (.float .f64 0):=(blk_cell BK142.out 3).trans rfl;have hcz137_4 : w136.cell? ⟨gb142,4,none⟩ = some (.float .f64 0):=(blk_cell BK142.out 4).trans rfl;have hcz137_5 : w136.cell? ⟨gb142,5,none⟩ = some (.float .f64 0):=(blk_cell BK142.out 5).trans rfl;have hcz137_6 : w136.cell? ⟨gb142,6,none⟩ = some (.float .f64 0):=(blk_cell BK142.out 6).trans rfl;have hfz137_0:=blk_frozen BK142.out 0;have hfz137_1:=blk_frozen BK142.out 1;have hfz137_2:=blk_frozen BK142.out 2;have hfz137_3:=blk_frozen BK142.out 3;have hfz137_4:=blk_frozen BK142.out 4;have hfz137_5:=blk_frozen BK142.out 5;have hfz137_6:=blk_frozen BK142.out 6))
                  refine bodyPost_ret (results_ct rfl _ _ gb142 26 #[.int .i64 0,.float .f64 0,.float .f64 0,.float .f64 0,.float .f64 0,.float .f64 0,.float .f64 0] (0,0) _ rfl (by (with_reducible repeat (first|refine blk_drewN ?_ _|refine blk_drew ?_|refine blk_alloc ?_ _));refine blk_put (cs:=#[.int .i64 0,.float .f64 0,.float .f64 0,.float .f64 0,.float .f64 0,.float .f64 0,.float .f64 0]) ?_ 6 _ (by first|rfl|(simp only [px_pos,px_ne];rfl)|simp [px_pos,px_ne]);(with_reducible repeat (first|refine blk_drewN ?_ _|refine blk_drew ?_|refine blk_alloc ?_ _));refine blk_put (cs:=#[.int .i64 0,.float .f64 0,.float .f64 0,.float .f64 0,.float .f64 0,.float .f64 0,.float .f64 0]) ?_ 5 _ (by first|rfl|(simp only [px_pos,px_ne];rfl)|simp [px_pos,px_ne]);(with_reducible repeat (first|refine blk_drewN ?_ _|refine blk_drew ?_|refine blk_alloc ?_ _));refine blk_put (cs:=#[.int .i64 0,.float .f64 0,.float .f64 0,.float .f64 0,.float .f64 0,.float .f64 0,.float .f64 0]) ?_ 4 _ (by first|rfl|(simp only [px_pos,px_ne];rfl)|simp [px_pos,px_ne]);(with_reducible repeat (first|refine blk_drewN ?_ _|refine blk_drew ?_|refine blk_alloc ?_ _));refine blk_put (cs:=#[.int .i64 0,.float .f64 0,.float .f64 0,.float .f64 0,.float .f64 0,.float .f64 0,.float .f64 0]) ?_ 3 _ (by first|rfl|(simp only [px_pos,px_ne];rfl)|simp [px_pos,px_ne]);(with_reducible repeat (first|refine blk_drewN ?_ _|refine blk_drew ?_|refine blk_alloc ?_ _));refine blk_put (cs:=#[.int .i64 0,.float .f64 0,.float .f64 0,.float .f64 0,.float .f64 0,.float .f64 0,.float .f64 0]) ?_ 2 _ (by first|rfl|(simp only [px_pos,px_ne];rfl)|simp [px_pos,px_ne]);(with_reducible repeat (first|refine blk_drewN ?_ _|refine blk_drew ?_|refine blk_alloc ?_ _));refine blk_put (cs:=#[.int .i64 0,.float .f64 0,.float .f64 0,.float .f64 0,.float .f64 0,.float .f64 0,.float .f64 0]) ?_ 1 _ (by first|rfl|(simp only [px_pos,px_ne];rfl)|simp [px_pos,px_ne]);(with_reducible repeat (first|refine blk_drewN ?_ _|refine blk_drew ?_|refine blk_alloc ?_ _));refine blk_put (cs:=#[.int .i64 0,.float .f64 0,.float .f64 0,.float .f64 0,.float .f64 0,.float .f64 0,.float .f64 0]) ?_ 0 _ (by first|rfl|(simp only [px_pos,px_ne];rfl)|simp [px_pos,px_ne]);(with_reducible repeat (first|refine blk_drewN ?_ _|refine blk_drew ?_|refine blk_alloc ?_ _));exact BK142.out) Try.underlying26 rfl (by kernel_rfl)) rfl ?_
                  exact ⟨by first|rfl|(rw [px_ne];rfl)|(simp [errW_none,errW_some] <;> rfl)|(simp [*,errW_none,errW_some] <;> rfl),by repeat (first|(with_reducible first|exact HB.out|apply below_alloc|apply pw_below_drewN|apply below_drew1|refine below_set ?_ GE140.out|refine below_set ?_ GE141.out|refine below_set ?_ GE142.out|refine below_set ?_ GE145.out)|exact HB.out)⟩
                 rw [if_neg c102] at H
                 exact absurd H (by simp)
                rw [if_neg c101] at H
                exact absurd H (by simp)
               rw [if_neg c100] at H
               exact absurd H (by simp)
              rw [if_neg c99] at H
              exact absurd H (by simp)
             rw [if_neg c98] at H
             exact absurd H (by simp)
            rw [if_neg c97] at H
            exact absurd H (by simp)
           rw [if_neg c96] at H
           exact absurd H (by simp)
          rw [if_neg c95] at H
          exact absurd H (by simp)
         rw [if_neg c94] at H
         exact absurd H (by simp)
        rw [if_neg c91] at H
        exact absurd H (by simp)
   rw [if_neg c39] at H
   exact absurd H (by simp)
end Go.Proofs.Ytijmdmnhbbcahaa.PTallyWhole
