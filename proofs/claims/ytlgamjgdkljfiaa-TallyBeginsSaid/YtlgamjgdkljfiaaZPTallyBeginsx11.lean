-- Written by shrink.py, a program of this session: what the law needs of the print and its words. Lean checks it.
import Derived.Test.YtlgamjgdkljfiaaZPTallyBeginsx0
import Derived.Test.YtlgamjgdkljfiaaZPTallyBeginsx1
import Derived.Test.YtlgamjgdkljfiaaZPTallyBeginsx6
import Derived.Test.YtlgamjgdkljfiaaZPTallyBeginsx8
import Derived.Test.YtlgamjgdkljfiaaZPTallyBeginsx10
import Derived.WalkMore
namespace Go.Proofs.Ytlgamjgdkljfiaa.PTallyBegins
open Go.RowKit Go.Proofs.YtlgamjgdkljfiaaW.PrintWords Go.Proofs.YtlgamjgdkljfiaaW.PrintLast Go.Proofs.YtlgamjgdkljfiaaW.PrintMore
attribute [local go_sem] run_fadd run_fsub run_fmul run_fquo unary_fneg run_store_f64 run_store_c128 run_cadd
attribute [local go_sem] max2_int min2_int max_two min_two max_three min_three max_four min_four
set_option linter.unusedVariables false
set_option linter.unusedSimpArgs false
def quarrylaw31_awake.f : Option Bool:=some true
theorem aw_of : tally_Of.f 30 [4607182418800017408,4613937818241073152,4617315517961601024,4613937818241073152] = some (4,4607182418800017408,4617315517961601024,4622945017495814144,0,4613937818241073152,4620693217682128896,0):=by kernel_rfl
theorem aw_spread : tally_Spread.f 30 4 4607182418800017408 4617315517961601024 4622945017495814144 0 4613937818241073152 4620693217682128896 = some (4609047870845172685,0):=by kernel_rfl
theorem aw_tones : tally_Tones.ps 30 [4607182418800017408,4611686018427387904,4613937818241073152,4616189618054758400] = some ([(4621819117588971520,0),(13835058055282163712,4611686018427387904),(13835058055282163712,0),(13835058055282163712,13835058055282163712)],0):=by kernel_rfl
theorem aw_f0 : Op.floatEq .f64 4607182418800017408 4607182418800017408 = true:=by kernel_rfl
theorem aw_f1 : Op.floatEq .f64 4617315517961601024 4617315517961601024 = true:=by kernel_rfl
theorem aw_f2 : Op.floatEq .f64 4622945017495814144 4622945017495814144 = true:=by kernel_rfl
theorem aw_f3 : Op.floatEq .f64 0 0 = true:=by kernel_rfl
theorem aw_f4 : Op.floatEq .f64 4613937818241073152 4613937818241073152 = true:=by kernel_rfl
theorem aw_f5 : Op.floatEq .f64 4620693217682128896 4620693217682128896 = true:=by kernel_rfl
theorem aw_f6 : (FloatKind.f64.format.order 4609047870845172685 4607182418800017408 == some .gt) = true:=by kernel_rfl
theorem aw_f7 : fok .mul 4609047870845172685 4609047870845172685 = true:=by kernel_rfl
theorem aw_f8 : (FloatKind.f64.format.order (fop .mul 4609047870845172685 4609047870845172685) 4613937818241073152 == some .lt) = true:=by kernel_rfl
theorem aw_f9 : (FloatKind.f64.format.order 13835058055282163712 13835058055282163712 == some .eq) = true:=by kernel_rfl
theorem aw_f10 : (FloatKind.f64.format.order 4611686018427387904 4611686018427387904 == some .eq) = true:=by kernel_rfl
theorem aw_eq (d : Nat) (w : World) : (Op.equalIn (d + 2) 56 (.agg #[.int .i64 4,.float .f64 4607182418800017408,.float .f64 4617315517961601024,.float .f64 4622945017495814144,.float .f64 0,.float .f64 4613937818241073152,.float .f64 4620693217682128896]) (.agg #[.int .i64 4,.float .f64 4607182418800017408,.float .f64 4617315517961601024,.float .f64 4622945017495814144,.float .f64 0,.float .f64 4613937818241073152,.float .f64 4620693217682128896])).run Try.prog w = .ok true w:=by
 rw [eqA56,aw_f0,aw_f1,aw_f2,aw_f3,aw_f4,aw_f5];rfl
attribute [local go_sem high] aw_eq
set_option maxHeartbeats 4000000 in
set_option maxRecDepth 100000 in
theorem quarrylaw31_awake.calls (r : Bool) (w : World) (h : quarrylaw31_awake.f = some r) :
  Calls Try.prog 16 #[] w fun e w'=>e = .returned (.bool r) ∧ Below w.heap.size w w':=by
 unfold quarrylaw31_awake.f at h
 injection h with h
 subst h;have hu:=Try.underlying56;go_enter Try.func16,Try.ntmps16
 go_wp2_with fail
 obtain ⟨W0,hW0⟩ : ∃ W0,W0 = w.alloc (.cells #[.float .f64 4607182418800017408,.float .f64 4613937818241073152,.float .f64 4617315517961601024,.float .f64 4613937818241073152] 27):=⟨_,rfl⟩
 have K0 : W0.heap[w.heap.size]? = some (.cells #[.float .f64 4607182418800017408,.float .f64 4613937818241073152,.float .f64 4617315517961601024,.float .f64 4613937818241073152] 27 (0,0)):=by rw [hW0];exact blk_new w _
 have B0 : Below w.heap.size w W0:=by rw [hW0];exact (Below.refl w.heap.size w).alloc (Nat.le_refl _) _
 rw [← hW0];clear hW0;refine (tally_Of.calls 30 _ _ [4607182418800017408,4613937818241073152,4617315517961601024,4613937818241073152] 4 4607182418800017408 4617315517961601024 4622945017495814144 0 4613937818241073152 4620693217682128896 0 _ (f64_list (b:=w.heap.size) (t:=27) [4607182418800017408,4613937818241073152,4617315517961601024,4613937818241073152] K0 (by decide)) (Nat.le_refl _) aw_of).mono ?_;rintro e w1 ⟨rfl,hb1⟩;have B1:=Aside0.mk (below_then B0 (Nat.le_of_lt (blk_lt K0)) hb1);clear K0 B0 hb1;have hz1 : w.heap.size ≤ w1.heap.size:=B1.out.size
 go_upto_region 2 with fail
 obtain ⟨W2,hW2⟩ : ∃ W2,W2 = w1.alloc (.cells #[.int .i64 4,.float .f64 4607182418800017408,.float .f64 4617315517961601024,.float .f64 4622945017495814144,.float .f64 0,.float .f64 4613937818241073152,.float .f64 4620693217682128896] 56):=⟨_,rfl⟩
 have T2:=Aside0.mk (show W2.heap[w1.heap.size]? = some (.cells #[.int .i64 4,.float .f64 4607182418800017408,.float .f64 4617315517961601024,.float .f64 4622945017495814144,.float .f64 0,.float .f64 4613937818241073152,.float .f64 4620693217682128896] 56 (0,0)) from by rw [hW2];exact blk_new w1 _);have B2:=Aside0.mk (show Below w.heap.size w W2 from by rw [hW2];exact below_alloc B1.out _);have Z2 : w1.heap.size < W2.heap.size:=blk_lt T2.out;rw [← hW2];clear hW2 B1
 obtain ⟨b1,hb⟩ : ∃ b1,b1 = w1.heap.size:=⟨_,rfl⟩
 rw [← hb] at T2 Z2 hz1 ⊢
 clear hb;obtain ⟨t0,t1,t2,t3,t4,t5,t6,ft0,ft1,ft2,ft3,ft4,ft5,ft6⟩:=cf7_ T2
 go_wp2_with fail
 refine (tally_Spread.calls 30 4 4607182418800017408 4617315517961601024 4622945017495814144 0 4613937818241073152 4620693217682128896 4609047870845172685 0 _ aw_spread).mono ?_;rintro e w3 ⟨rfl,hb3⟩;have T3:=Aside0.mk (blk_below T2.out hb3);have B3:=Aside0.mk (below_then B2.out (by omega) hb3);clear t0 t1 t2 t3 t4 t5 t6 ft0 ft1 ft2 ft3 ft4 ft5 ft6 T2 B2;have Z3 : b1 < w3.heap.size:=blk_lt T3.out;clear hb3
 go_wp2_with fail
 obtain ⟨W4,hW4⟩ : ∃ W4,W4 = w3.alloc (.cells #[.float .f64 4607182418800017408,.float .f64 4611686018427387904,.float .f64 4613937818241073152,.float .f64 4616189618054758400] 27):=⟨_,rfl⟩
 have K4 : W4.heap[w3.heap.size]? = some (.cells #[.float .f64 4607182418800017408,.float .f64 4611686018427387904,.float .f64 4613937818241073152,.float .f64 4616189618054758400] 27 (0,0)):=by rw [hW4];exact blk_new w3 _
 have B4:=Aside0.mk (show Below w.heap.size w W4 from by rw [hW4];exact below_alloc B3.out _);have T4:=Aside0.mk (show W4.heap[b1]? = some (.cells #[.int .i64 4,.float .f64 4607182418800017408,.float .f64 4617315517961601024,.float .f64 4622945017495814144,.float .f64 0,.float .f64 4613937818241073152,.float .f64 4620693217682128896] 56 (0,0)) from by rw [hW4];exact blk_alloc T3.out _);rw [← hW4];clear hW4 B3 T3;refine (tones_calls 30 _ _ [4607182418800017408,4611686018427387904,4613937818241073152,4616189618054758400] _ 0 _ (f64_list (b:=w3.heap.size) (t:=27) [4607182418800017408,4611686018427387904,4613937818241073152,4616189618054758400] K4 (by decide)) (Nat.le_refl _) aw_tones).mono ?_;rintro e w5 ⟨p0,p1,p2,p3,hp,rfl,hb5⟩
 simp only [List.cons.injEq,and_true] at hp
 obtain ⟨rfl,rfl,rfl,rfl⟩:=hp;have T5:=Aside0.mk (blk_below T4.out hb5);have B5:=Aside0.mk (below_then B4.out (by have:=blk_lt K4;omega) hb5);clear T4 B4 K4 hb5;have Z5 : b1 < w5.heap.size:=blk_lt T5.out
 go_upto_region 4 with fail
 obtain ⟨W6,hW6⟩ : ∃ W6,W6 = w5.alloc (.cells #[.complex .f64 4621819117588971520 0,.complex .f64 13835058055282163712 4611686018427387904,.complex .f64 13835058055282163712 0,.complex .f64 13835058055282163712 13835058055282163712] 63):=⟨_,rfl⟩
 have B6:=Aside0.mk (show Below w.heap.size w W6 from by rw [hW6];exact below_alloc B5.out _);have T6:=Aside0.mk (show W6.heap[b1]? = some (.cells #[.int .i64 4,.float .f64 4607182418800017408,.float .f64 4617315517961601024,.float .f64 4622945017495814144,.float .f64 0,.float .f64 4613937818241073152,.float .f64 4620693217682128896] 56 (0,0)) from by rw [hW6];exact blk_alloc T5.out _);have Z6:=Aside0.mk (show W6.heap[w5.heap.size]? = some (.cells #[.complex .f64 4621819117588971520 0,.complex .f64 13835058055282163712 4611686018427387904,.complex .f64 13835058055282163712 0,.complex .f64 13835058055282163712 13835058055282163712] 63 (0,0)) from by rw [hW6];exact blk_new w5 _);rw [← hW6];clear hW6 B5 T5
 obtain ⟨b2,hb⟩ : ∃ b2,b2 = w5.heap.size:=⟨_,rfl⟩
 rw [← hb] at Z6 Z5 ⊢
 clear hb;obtain ⟨t0,t1,t2,t3,t4,t5,t6,ft0,ft1,ft2,ft3,ft4,ft5,ft6⟩:=cf7_ T6;obtain ⟨r0,r1,r2,r3,fr0,fr1,fr2,fr3⟩:=cf4_ Z6;have a6:=aw_f6;have a7:=aw_f7;have a8:=aw_f8;have a9:=aw_f9;have a10:=aw_f10
 go_wp2_with fail
 go_ret;exact ⟨rfl,by repeat (first|(with_reducible first|exact B6.out|apply below_alloc|apply pw_below_drewN|apply below_drew1)|exact B6.out)⟩
end Go.Proofs.Ytlgamjgdkljfiaa.PTallyBegins
