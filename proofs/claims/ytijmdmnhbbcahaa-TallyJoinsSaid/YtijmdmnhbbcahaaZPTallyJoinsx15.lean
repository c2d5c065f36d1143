-- Written by shrink.py, a program of this session: what the law needs of the print and its words. Lean checks it.
import Derived.Test.YtijmdmnhbbcahaaZPTallyJoinsx0
import Derived.Test.YtijmdmnhbbcahaaZPTallyJoinsx13
import Derived.Test.YtijmdmnhbbcahaaZPTallyJoinsx14
import Derived.WalkMore
namespace Go.Proofs.Ytijmdmnhbbcahaa.PTallyJoins
open Go.RowKit Go.Proofs.YtijmdmnhbbcahaaW.PrintWords Go.Proofs.YtijmdmnhbbcahaaW.PrintLast Go.Proofs.YtijmdmnhbbcahaaW.PrintMore
attribute [local go_sem] run_fadd run_fsub run_fmul run_fquo unary_fneg run_store_f64 run_store_c128 run_cadd
attribute [local go_sem] max2_int min2_int max_two min_two max_three min_three max_four min_four
set_option linter.unusedVariables false
set_option linter.unusedSimpArgs false
theorem told_nan {n : Nat} {k : Nat} {c : Int} {x1 x2 x3 x5 x6 : Nat} {r : Int × Nat × Nat × Nat × Nat × Nat × Nat × Int} (hn : isNan n) (h : quarryref31_told.f k c x1 x2 x3 nanC x5 x6 = some r) (h0 : ¬ (r.2.2.2.2.2.2.2 = 0)) : quarryref31_told.f k c x1 x2 x3 n x5 x6 = some r:=by
 have hf : ∀ m,isNan m → quarryref13_Finite.f m = some false:=by
  intro m hm
  unfold quarryref13_Finite.f
  rw [nan_fok_sub hm]
  rfl
 have hc : ∀ (l l' : List Nat),l.length = l'.length → (∀ i,quarryref13_Finite.f (rdOf (0 : Nat) l i) = quarryref13_Finite.f (rdOf (0 : Nat) l' i)) → ∀ k i,quarryref31_All.l0 k l i = quarryref31_All.l0 k l' i:=by
  intro l l' hl hq k
  induction k with
  | zero=>intro i;rfl
  | succ k ih=>intro i;rw [quarryref31_All.l0,quarryref31_All.l0,hl,hq i,ih]
 have hA : quarryref31_All.f k [x1,x2,x3,n,x5,x6] = quarryref31_All.f k [x1,x2,x3,nanC,x5,x6]:=by
  refine hc [x1,x2,x3,n,x5,x6] [x1,x2,x3,nanC,x5,x6] rfl (fun i=>?_) k 0
  unfold rdOf
  generalize i.toNat = j
  match j with
  | 0=>rfl
  | 1=>rfl
  | 2=>rfl
  | 3=>exact (hf n hn).trans (hf nanC nan_nanC).symm
  | 4=>rfl
  | 5=>rfl
  | j + 6=>rfl
 unfold quarryref31_told.f quarryref31_floats.f at h ⊢
 split
 ·rename_i g
  rw [if_pos g] at h
  exact h
 ·rename_i g
  rw [if_neg g,Option.bind_some] at h
  rw [Option.bind_some,hA]
  cases e : quarryref31_All.f k [x1,x2,x3,nanC,x5,x6] with
  | none=>rw [e] at h;cases h
  | some b =>
   rw [e] at h
   cases b with
   | false=>exact h
   | true =>
    exfalso
    rw [Option.bind_some,if_pos rfl] at h
    obtain rfl:=Option.some.inj h
    exact h0 rfl
attribute [local go_sem] run_fadd_nan
mutual
def quarryref31_Join.j0 : Nat → Bool → Int → Nat → Nat → Nat → Nat → Nat → Nat → Int → Nat → Nat → Nat → Nat → Nat → Nat → Option (Int × Nat × Nat × Nat × Nat × Nat × Nat × Int)
 | 0,_,_,_,_,_,_,_,_,_,_,_,_,_,_,_=>none
 | k + 1,x22,x168000,x168001,x168002,x168003,x168004,x168005,x168006,x169000,x169001,x169002,x169003,x169004,x169005,x169006=>if x22 = true then (some (0,0,0,0,0,0,0,1)) else (if x169000 = 0 then (some (x168000,x168001,x168002,x168003,x168004,x168005,x168006,0)) else (if x168000 = 0 then (some (x169000,x169001,x169002,x169003,x169004,x169005,x169006,0)) else (if x168000 > (wrap64 (4611686018427387904 - x169000)) then (some (0,0,0,0,0,0,0,121)) else (if (FloatKind.f64.format.order x169001 x168001 == some .lt) = true then (quarryref31_Join.j1 k x168000 x168001 x168002 x168003 x168004 x168005 x168006 x169000 x169001 x169002 x169003 x169004 x169005 x169006 (wrap64 (x168000 + x169000)) x169001 x168002 x168003 x168004 x168005 x168006) else (quarryref31_Join.j1 k x168000 x168001 x168002 x168003 x168004 x168005 x168006 x169000 x169001 x169002 x169003 x169004 x169005 x169006 (wrap64 (x168000 + x169000)) x168001 x168002 x168003 x168004 x168005 x168006)))))
def quarryref31_Join.j1 : Nat → Int → Nat → Nat → Nat → Nat → Nat → Nat → Int → Nat → Nat → Nat → Nat → Nat → Nat → Int → Nat → Nat → Nat → Nat → Nat → Nat → Option (Int × Nat × Nat × Nat × Nat × Nat × Nat × Int)
 | 0,_,_,_,_,_,_,_,_,_,_,_,_,_,_,_,_,_,_,_,_,_=>none
 | k + 1,x168000,x168001,x168002,x168003,x168004,x168005,x168006,x169000,x169001,x169002,x169003,x169004,x169005,x169006,x173000,x173001,x173002,x173003,x173004,x173005,x173006=>if (FloatKind.f64.format.order x169002 x168002 == some .gt) = true then (if fok .add x168003 x169003 = true then (if fok .add x168004 x169004 = true then ((quarryref31_lost.f x168003 x169003 (fop .add x168003 x169003)).bind fun t173=>(if fok .add (fop .add x168004 x169004) t173 = true then (if fok .sub x169005 x168005 = true then (if fok .quo (floatOfInt .f64 x169000) (floatOfInt .f64 x173000) = true then (if fok .mul (fop .sub x169005 x168005) (fop .quo (floatOfInt .f64 x169000) (floatOfInt .f64 x173000)) = true then (if fok .add x168005 (fop .mul (fop .sub x169005 x168005) (fop .quo (floatOfInt .f64 x169000) (floatOfInt .f64 x173000))) = true then (if fok .add x168006 x169006 = true then (if fok .mul (fop .sub x169005 x168005) (fop .sub x169005 x168005) = true then (if fok .mul (floatOfInt .f64 x168000) (fop .quo (floatOfInt .f64 x169000) (floatOfInt .f64 x173000)) = true then (if fok .mul (fop .mul (fop .sub x169005 x168005) (fop .sub x169005 x168005)) (fop .mul (floatOfInt .f64 x168000) (fop .quo (floatOfInt .f64 x169000) (floatOfInt .f64 x173000))) = true then (if fok .add (fop .add x168006 x169006) (fop .mul (fop .mul (fop .sub x169005 x168005) (fop .sub x169005 x168005)) (fop .mul (floatOfInt .f64 x168000) (fop .quo (floatOfInt .f64 x169000) (floatOfInt .f64 x173000)))) = true then ((quarryref31_told.f k x173000 x173001 x169002 (fop .add x168003 x169003) (fop .add (fop .add x168004 x169004) t173) (fop .add x168005 (fop .mul (fop .sub x169005 x168005) (fop .quo (floatOfInt .f64 x169000) (floatOfInt .f64 x173000)))) (fop .add (fop .add x168006 x169006) (fop .mul (fop .mul (fop .sub x169005 x168005) (fop .sub x169005 x168005)) (fop .mul (floatOfInt .f64 x168000) (fop .quo (floatOfInt .f64 x169000) (floatOfInt .f64 x173000)))))).bind fun bt174=>(some (bt174.1,bt174.2.1,bt174.2.2.1,bt174.2.2.2.1,bt174.2.2.2.2.1,bt174.2.2.2.2.2.1,bt174.2.2.2.2.2.2.1,bt174.2.2.2.2.2.2.2))) else (none)) else (none)) else (none)) else (none)) else (none)) else (none)) else (none)) else (none)) else (none)) else (if fok .sub x169005 x168005 = true then (if fok .quo (floatOfInt .f64 x169000) (floatOfInt .f64 x173000) = true then (if fok .mul (fop .sub x169005 x168005) (fop .quo (floatOfInt .f64 x169000) (floatOfInt .f64 x173000)) = true then (if fok .add x168005 (fop .mul (fop .sub x169005 x168005) (fop .quo (floatOfInt .f64 x169000) (floatOfInt .f64 x173000))) = true then (if fok .add x168006 x169006 = true then (if fok .mul (fop .sub x169005 x168005) (fop .sub x169005 x168005) = true then (if fok .mul (floatOfInt .f64 x168000) (fop .quo (floatOfInt .f64 x169000) (floatOfInt .f64 x173000)) = true then (if fok .mul (fop .mul (fop .sub x169005 x168005) (fop .sub x169005 x168005)) (fop .mul (floatOfInt .f64 x168000) (fop .quo (floatOfInt .f64 x169000) (floatOfInt .f64 x173000))) = true then (if fok .add (fop .add x168006 x169006) (fop .mul (fop .mul (fop .sub x169005 x168005) (fop .sub x169005 x168005)) (fop .mul (floatOfInt .f64 x168000) (fop .quo (floatOfInt .f64 x169000) (floatOfInt .f64 x173000)))) = true then ((quarryref31_told.f k x173000 x173001 x169002 (fop .add x168003 x169003) nanC (fop .add x168005 (fop .mul (fop .sub x169005 x168005) (fop .quo (floatOfInt .f64 x169000) (floatOfInt .f64 x173000)))) (fop .add (fop .add x168006 x169006) (fop .mul (fop .mul (fop .sub x169005 x168005) (fop .sub x169005 x168005)) (fop .mul (floatOfInt .f64 x168000) (fop .quo (floatOfInt .f64 x169000) (floatOfInt .f64 x173000)))))).bind fun bt174=>(if bt174.2.2.2.2.2.2.2 = 0 then none else (some (bt174.1,bt174.2.1,bt174.2.2.1,bt174.2.2.2.1,bt174.2.2.2.2.1,bt174.2.2.2.2.2.1,bt174.2.2.2.2.2.2.1,bt174.2.2.2.2.2.2.2)))) else (none)) else (none)) else (none)) else (none)) else (none)) else (none)) else (none)) else (none)) else (none)))) else (none)) else (none)) else (if fok .add x168003 x169003 = true then (if fok .add x168004 x169004 = true then ((quarryref31_lost.f x168003 x169003 (fop .add x168003 x169003)).bind fun t182=>(if fok .add (fop .add x168004 x169004) t182 = true then (if fok .sub x169005 x168005 = true then (if fok .quo (floatOfInt .f64 x169000) (floatOfInt .f64 x173000) = true then (if fok .mul (fop .sub x169005 x168005) (fop .quo (floatOfInt .f64 x169000) (floatOfInt .f64 x173000)) = true then (if fok .add x168005 (fop .mul (fop .sub x169005 x168005) (fop .quo (floatOfInt .f64 x169000) (floatOfInt .f64 x173000))) = true then (if fok .add x168006 x169006 = true then (if fok .mul (fop .sub x169005 x168005) (fop .sub x169005 x168005) = true then (if fok .mul (floatOfInt .f64 x168000) (fop .quo (floatOfInt .f64 x169000) (floatOfInt .f64 x173000)) = true then (if fok .mul (fop .mul (fop .sub x169005 x168005) (fop .sub x169005 x168005)) (fop .mul (floatOfInt .f64 x168000) (fop .quo (floatOfInt .f64 x169000) (floatOfInt .f64 x173000))) = true then (if fok .add (fop .add x168006 x169006) (fop .mul (fop .mul (fop .sub x169005 x168005) (fop .sub x169005 x168005)) (fop .mul (floatOfInt .f64 x168000) (fop .quo (floatOfInt .f64 x169000) (floatOfInt .f64 x173000)))) = true then ((quarryref31_told.f k x173000 x173001 x173002 (fop .add x168003 x169003) (fop .add (fop .add x168004 x169004) t182) (fop .add x168005 (fop .mul (fop .sub x169005 x168005) (fop .quo (floatOfInt .f64 x169000) (floatOfInt .f64 x173000)))) (fop .add (fop .add x168006 x169006) (fop .mul (fop .mul (fop .sub x169005 x168005) (fop .sub x169005 x168005)) (fop .mul (floatOfInt .f64 x168000) (fop .quo (floatOfInt .f64 x169000) (floatOfInt .f64 x173000)))))).bind fun bt183=>(some (bt183.1,bt183.2.1,bt183.2.2.1,bt183.2.2.2.1,bt183.2.2.2.2.1,bt183.2.2.2.2.2.1,bt183.2.2.2.2.2.2.1,bt183.2.2.2.2.2.2.2))) else (none)) else (none)) else (none)) else (none)) else (none)) else (none)) else (none)) else (none)) else (none)) else (if fok .sub x169005 x168005 = true then (if fok .quo (floatOfInt .f64 x169000) (floatOfInt .f64 x173000) = true then (if fok .mul (fop .sub x169005 x168005) (fop .quo (floatOfInt .f64 x169000) (floatOfInt .f64 x173000)) = true then (if fok .add x168005 (fop .mul (fop .sub x169005 x168005) (fop .quo (floatOfInt .f64 x169000) (floatOfInt .f64 x173000))) = true then (if fok .add x168006 x169006 = true then (if fok .mul (fop .sub x169005 x168005) (fop .sub x169005 x168005) = true then (if fok .mul (floatOfInt .f64 x168000) (fop .quo (floatOfInt .f64 x169000) (floatOfInt .f64 x173000)) = true then (if fok .mul (fop .mul (fop .sub x169005 x168005) (fop .sub x169005 x168005)) (fop .mul (floatOfInt .f64 x168000) (fop .quo (floatOfInt .f64 x169000) (floatOfInt .f64 x173000))) = true then (if fok .add (fop .add x168006 x169006) (fop .mul (fop .mul (fop .sub x169005 x168005) (fop .sub x169005 x168005)) (fop .mul (floatOfInt .f64 x168000) (fop .quo (floatOfInt .f64 x169000) (floatOfInt .f64 x173000)))) = true then ((quarryref31_told.f k x173000 x173001 x173002 (fop .add x168003 x169003) nanC (fop .add x168005 (fop .mul (fop .sub x169005 x168005) (fop .quo (floatOfInt .f64 x169000) (floatOfInt .f64 x173000)))) (fop .add (fop .add x168006 x169006) (fop .mul (fop .mul (fop .sub x169005 x168005) (fop .sub x169005 x168005)) (fop .mul (floatOfInt .f64 x168000) (fop .quo (floatOfInt .f64 x169000) (floatOfInt .f64 x173000)))))).bind fun bt183=>(if bt183.2.2.2.2.2.2.2 = 0 then none else (some (bt183.1,bt183.2.1,bt183.2.2.1,bt183.2.2.2.1,bt183.2.2.2.2.1,bt183.2.2.2.2.2.1,bt183.2.2.2.2.2.2.1,bt183.2.2.2.2.2.2.2)))) else (none)) else (none)) else (none)) else (none)) else (none)) else (none)) else (none)) else (none)) else (none)))) else (none)) else (none))
end
def quarryref31_Join.f (k : Nat) (a0_0 : Int) (a0_1 : Nat) (a0_2 : Nat) (a0_3 : Nat) (a0_4 : Nat) (a0_5 : Nat) (a0_6 : Nat) (a1_0 : Int) (a1_1 : Nat) (a1_2 : Nat) (a1_3 : Nat) (a1_4 : Nat) (a1_5 : Nat) (a1_6 : Nat) : Option (Int × Nat × Nat × Nat × Nat × Nat × Nat × Int):=(quarryref31_Formed.f k a0_0 a0_1 a0_2 a0_3 a0_4 a0_5 a0_6).bind fun t170=>(if t170 = true then ((quarryref31_Formed.f k a1_0 a1_1 a1_2 a1_3 a1_4 a1_5 a1_6).bind fun t171=>(quarryref31_Join.j0 k (!t171) a0_0 a0_1 a0_2 a0_3 a0_4 a0_5 a0_6 a1_0 a1_1 a1_2 a1_3 a1_4 a1_5 a1_6)) else (quarryref31_Join.j0 k true a0_0 a0_1 a0_2 a0_3 a0_4 a0_5 a0_6 a1_0 a1_1 a1_2 a1_3 a1_4 a1_5 a1_6))
theorem quarryref31_Join.mono_l : ∀ k,(∀ y0 y1 y2 y3 y4 y5 y6 y7 y8 y9 y10 y11 y12 y13 y14,LeO (quarryref31_Join.j0 k y0 y1 y2 y3 y4 y5 y6 y7 y8 y9 y10 y11 y12 y13 y14) (quarryref31_Join.j0 (k + 1) y0 y1 y2 y3 y4 y5 y6 y7 y8 y9 y10 y11 y12 y13 y14)) ∧ (∀ y0 y1 y2 y3 y4 y5 y6 y7 y8 y9 y10 y11 y12 y13 y14 y15 y16 y17 y18 y19 y20,LeO (quarryref31_Join.j1 k y0 y1 y2 y3 y4 y5 y6 y7 y8 y9 y10 y11 y12 y13 y14 y15 y16 y17 y18 y19 y20) (quarryref31_Join.j1 (k + 1) y0 y1 y2 y3 y4 y5 y6 y7 y8 y9 y10 y11 y12 y13 y14 y15 y16 y17 y18 y19 y20))
 | 0=>⟨fun _ _ _ _ _ _ _ _ _ _ _ _ _ _ _ r h=>by simp [quarryref31_Join.j0] at h,fun _ _ _ _ _ _ _ _ _ _ _ _ _ _ _ _ _ _ _ _ _ r h=>by simp [quarryref31_Join.j1] at h⟩
 | k + 1=>by
  obtain ⟨ih0,ih1⟩:=quarryref31_Join.mono_l k
  refine ⟨?_,?_⟩
  ·intro y0 y1 y2 y3 y4 y5 y6 y7 y8 y9 y10 y11 y12 y13 y14
   unfold quarryref31_Join.j0
   repeat' first
   | (with_reducible exact ih0 _ _ _ _ _ _ _ _ _ _ _ _ _ _ _)
   | (with_reducible exact ih1 _ _ _ _ _ _ _ _ _ _ _ _ _ _ _ _ _ _ _ _ _)
   | (with_reducible exact quarryref31_Formed.mono _ _ _ _ _ _ _ _)
   | (with_reducible exact quarryref31_told.mono _ _ _ _ _ _ _ _)
   | (with_reducible exact LeO.refl _)
   | (with_reducible exact LeO.none _)
   | (with_reducible refine LeO.ite ?_ ?_)
   | (with_reducible refine LeO.bind ?_ (fun _=>?_))
   | exact ih0 _ _ _ _ _ _ _ _ _ _ _ _ _ _ _
   | exact ih1 _ _ _ _ _ _ _ _ _ _ _ _ _ _ _ _ _ _ _ _ _
   | exact quarryref31_Formed.mono _ _ _ _ _ _ _ _
   | exact quarryref31_told.mono _ _ _ _ _ _ _ _
   | exact LeO.none _
   | refine LeO.ite ?_ ?_
   | refine LeO.bind ?_ (fun _=>?_)
  ·intro y0 y1 y2 y3 y4 y5 y6 y7 y8 y9 y10 y11 y12 y13 y14 y15 y16 y17 y18 y19 y20
   unfold quarryref31_Join.j1
   repeat' first
   | (with_reducible exact ih0 _ _ _ _ _ _ _ _ _ _ _ _ _ _ _)
   | (with_reducible exact ih1 _ _ _ _ _ _ _ _ _ _ _ _ _ _ _ _ _ _ _ _ _)
   | (with_reducible exact quarryref31_Formed.mono _ _ _ _ _ _ _ _)
   | (with_reducible exact quarryref31_told.mono _ _ _ _ _ _ _ _)
   | (with_reducible exact LeO.refl _)
   | (with_reducible exact LeO.none _)
   | (with_reducible refine LeO.ite ?_ ?_)
   | (with_reducible refine LeO.bind ?_ (fun _=>?_))
   | exact ih0 _ _ _ _ _ _ _ _ _ _ _ _ _ _ _
   | exact ih1 _ _ _ _ _ _ _ _ _ _ _ _ _ _ _ _ _ _ _ _ _
   | exact quarryref31_Formed.mono _ _ _ _ _ _ _ _
   | exact quarryref31_told.mono _ _ _ _ _ _ _ _
   | exact LeO.none _
   | refine LeO.ite ?_ ?_
   | refine LeO.bind ?_ (fun _=>?_)
theorem quarryref31_Join.mono : ∀ a0 a1 a2 a3 a4 a5 a6 a7 a8 a9 a10 a11 a12 a13 k,LeO (quarryref31_Join.f k a0 a1 a2 a3 a4 a5 a6 a7 a8 a9 a10 a11 a12 a13) (quarryref31_Join.f (k + 1) a0 a1 a2 a3 a4 a5 a6 a7 a8 a9 a10 a11 a12 a13):=by
 intro a0 a1 a2 a3 a4 a5 a6 a7 a8 a9 a10 a11 a12 a13 k
 obtain ⟨ih0,ih1⟩:=quarryref31_Join.mono_l k
 unfold quarryref31_Join.f
 repeat' first
   | (with_reducible exact ih0 _ _ _ _ _ _ _ _ _ _ _ _ _ _ _)
   | (with_reducible exact ih1 _ _ _ _ _ _ _ _ _ _ _ _ _ _ _ _ _ _ _ _ _)
   | (with_reducible exact quarryref31_Formed.mono _ _ _ _ _ _ _ _)
   | (with_reducible exact quarryref31_told.mono _ _ _ _ _ _ _ _)
   | (with_reducible exact LeO.refl _)
   | (with_reducible exact LeO.none _)
   | (with_reducible refine LeO.ite ?_ ?_)
   | (with_reducible refine LeO.bind ?_ (fun _=>?_))
   | exact ih0 _ _ _ _ _ _ _ _ _ _ _ _ _ _ _
   | exact ih1 _ _ _ _ _ _ _ _ _ _ _ _ _ _ _ _ _ _ _ _ _
   | exact quarryref31_Formed.mono _ _ _ _ _ _ _ _
   | exact quarryref31_told.mono _ _ _ _ _ _ _ _
   | exact LeO.none _
   | refine LeO.ite ?_ ?_
   | refine LeO.bind ?_ (fun _=>?_)
set_option maxHeartbeats 8000000 in
set_option maxRecDepth 100000 in
theorem quarryref31_Join.calls (k : Nat) (a0_0 : Int) (a0_1 : Nat) (a0_2 : Nat) (a0_3 : Nat) (a0_4 : Nat) (a0_5 : Nat) (a0_6 : Nat) (a1_0 : Int) (a1_1 : Nat) (a1_2 : Nat) (a1_3 : Nat) (a1_4 : Nat) (a1_5 : Nat) (a1_6 : Nat) (r1 : Int) (r2 : Nat) (r3 : Nat) (r4 : Nat) (r5 : Nat) (r6 : Nat) (r7 : Nat) (r8 : Int) (w : World) (h : quarryref31_Join.f k a0_0 a0_1 a0_2 a0_3 a0_4 a0_5 a0_6 a1_0 a1_1 a1_2 a1_3 a1_4 a1_5 a1_6 = some (r1,r2,r3,r4,r5,r6,r7,r8)) :
  Calls Try.prog 26 #[.agg #[.int .i64 a0_0,.float .f64 a0_1,.float .f64 a0_2,.float .f64 a0_3,.float .f64 a0_4,.float .f64 a0_5,.float .f64 a0_6],.agg #[.int .i64 a1_0,.float .f64 a1_1,.float .f64 a1_2,.float .f64 a1_3,.float .f64 a1_4,.float .f64 a1_5,.float .f64 a1_6]] w fun e w'=>e = .returned (.tuple #[.agg #[.int .i64 r1,.float .f64 r2,.float .f64 r3,.float .f64 r4,.float .f64 r5,.float .f64 r6,.float .f64 r7],.int .i64 r8]) ∧ Below w.heap.size w w':=by
 have hu26:=Try.underlying26
 have HB:=Aside0.mk (Below.refl w.heap.size w)
 have H : ((quarryref31_Formed.f k a0_0 a0_1 a0_2 a0_3 a0_4 a0_5 a0_6).bind fun t170=>(if t170 = true then ((quarryref31_Formed.f k a1_0 a1_1 a1_2 a1_3 a1_4 a1_5 a1_6).bind fun t171=>(quarryref31_Join.j0 k (!t171) a0_0 a0_1 a0_2 a0_3 a0_4 a0_5 a0_6 a1_0 a1_1 a1_2 a1_3 a1_4 a1_5 a1_6)) else (quarryref31_Join.j0 k true a0_0 a0_1 a0_2 a0_3 a0_4 a0_5 a0_6 a1_0 a1_1 a1_2 a1_3 a1_4 a1_5 a1_6))) = some (r1,r2,r3,r4,r5,r6,r7,r8):=h
 clear h
 have HC3:=Aside0.mk H
 clear H
 go_enter Try.func26,Try.ntmps26
 go_upto_region 1 with (first|((with_reducible refine gate_dst (N:=2) rfl ?_);refine box_event ?hg (N:=2) ?hd (cs:=#[.int .i64 a0_0,.float .f64 a0_1,.float .f64 a0_2,.float .f64 a0_3,.float .f64 a0_4,.float .f64 a0_5,.float .f64 a0_6]) (t:=26) ?hr ?_;(case hd=>rfl);(case hg=>rfl);(case hr=>first|(go_simp;done)|(go_simp;rfl));intro gb167 hg w4 hbox hb;have n0_:=Aside0.mk (below_step (by repeat (first|(with_reducible first|exact HB.out|apply below_alloc|apply pw_below_drewN|apply below_drew1)|exact HB.out)) hb);have n1_:=Aside0.mk (hbox);have n2_:=Aside0.mk ((by rw [hg];exact (below_size (by repeat (first|(with_reducible first|exact HB.out|apply below_alloc|apply pw_below_drewN|apply below_drew1)|exact HB.out))) : w.heap.size ≤ gb167));have n3_:=Aside0.mk ((by rw [hg];exact (below_size (by repeat (first|(with_reducible first|exact HB.out|apply below_alloc|apply pw_below_drewN|apply below_drew1)|exact HB.out))) : w.heap.size ≤ gb167));clear HB;have HB:=n0_;have BK167:=n1_;have GW167:=n2_;have GE167:=n3_;clear n0_ n1_ n2_ n3_;clear hb hbox hg)|((with_reducible refine gate_dst (N:=3) rfl ?_);refine box_event ?hg (N:=3) ?hd (cs:=#[.int .i64 a1_0,.float .f64 a1_1,.float .f64 a1_2,.float .f64 a1_3,.float .f64 a1_4,.float .f64 a1_5,.float .f64 a1_6]) (t:=26) ?hr ?_;(case hd=>rfl);(case hg=>rfl);(case hr=>first|(go_simp;done)|(go_simp;rfl));intro gb168 hg w5 hbox hb;have n0_:=Aside0.mk (blk_below (g:=gb167) (o:=.cells #[.int .i64 a0_0,.float .f64 a0_1,.float .f64 a0_2,.float .f64 a0_3,.float .f64 a0_4,.float .f64 a0_5,.float .f64 a0_6] 26 (0,0)) (by (with_reducible repeat (first|refine blk_drewN ?_ _|refine blk_drew ?_|refine blk_alloc ?_ _));exact BK167.out) hb);have n1_:=Aside0.mk (below_step (by repeat (first|(with_reducible first|exact HB.out|apply below_alloc|apply pw_below_drewN|apply below_drew1|refine below_set ?_ GE167.out)|exact HB.out)) hb);have n2_:=Aside0.mk (hbox);have n3_:=Aside0.mk ((by rw [hg];exact (below_size (by repeat (first|(with_reducible first|exact HB.out|apply below_alloc|apply pw_below_drewN|apply below_drew1|refine below_set ?_ GE167.out)|exact HB.out))) : w.heap.size ≤ gb168));have n4_:=Aside0.mk ((by rw [hg];exact (below_size (by repeat (first|(with_reducible first|exact HB.out|apply below_alloc|apply pw_below_drewN|apply below_drew1|refine below_set ?_ GE167.out)|exact HB.out))) : w.heap.size ≤ gb168));have n5_:=Aside0.mk ((by rw [hg];exact Nat.ne_of_lt (blk_lt (g:=gb167) (o:=.cells #[.int .i64 a0_0,.float .f64 a0_1,.float .f64 a0_2,.float .f64 a0_3,.float .f64 a0_4,.float .f64 a0_5,.float .f64 a0_6] 26 (0,0)) (by (with_reducible repeat (first|refine blk_drewN ?_ _|refine blk_drew ?_|refine blk_alloc ?_ _));exact BK167.out)) : gb167 ≠ gb168));have n6_:=Aside0.mk ((by rw [hg];exact Nat.ne_of_gt (blk_lt (g:=gb167) (o:=.cells #[.int .i64 a0_0,.float .f64 a0_1,.float .f64 a0_2,.float .f64 a0_3,.float .f64 a0_4,.float .f64 a0_5,.float .f64 a0_6] 26 (0,0)) (by (with_reducible repeat (first|refine blk_drewN ?_ _|refine blk_drew ?_|refine blk_alloc ?_ _));exact BK167.out)) : gb168 ≠ gb167));clear BK167;clear HB;have BK167:=n0_;have HB:=n1_;have BK168:=n2_;have GW168:=n3_;have GE168:=n4_;have NB167_168:=n5_;have NB168_167:=n6_;clear n0_ n1_ n2_ n3_ n4_ n5_ n6_;clear hb hbox hg)|((with_reducible refine gate_dst (N:=4) rfl ?_);refine box_event ?hg (N:=4) ?hd (cs:=#[.int .i64 0,.float .f64 0,.float .f64 0,.float .f64 0,.float .f64 0,.float .f64 0,.float .f64 0]) (t:=26) ?hr ?_;(case hd=>rfl);(case hg=>rfl);(case hr=>first|(go_simp;done)|(go_simp;rfl));intro gb169 hg w6 hbox hb;have n0_:=Aside0.mk (blk_below (g:=gb167) (o:=.cells #[.int .i64 a0_0,.float .f64 a0_1,.float .f64 a0_2,.float .f64 a0_3,.float .f64 a0_4,.float .f64 a0_5,.float .f64 a0_6] 26 (0,0)) (by (with_reducible repeat (first|refine blk_drewN ?_ _|refine blk_drew ?_|refine blk_alloc ?_ _));exact BK167.out) hb);have n1_:=Aside0.mk (blk_below (g:=gb168) (o:=.cells #[.int .i64 a1_0,.float .f64 a1_1,.float .f64 a1_2,.float .f64 a1_3,.float .f64 a1_4,.float .f64 a1_5,.float .f64 a1_6] 26 (0,0)) (by (with_reducible repeat (first|refine blk_drewN ?_ _|refine blk_drew ?_|refine blk_alloc ?_ _));exact BK168.out) hb);have n2_:=Aside0.mk (below_step (by repeat (first|(with_reducible first|exact HB.out|apply below_alloc|apply pw_below_drewN|apply below_drew1|refine below_set ?_ GE167.out|refine below_set ?_ GE168.out)|exact HB.out)) hb);have n3_:=Aside0.mk (hbox);have n4_:=Aside0.mk ((by rw [hg];exact (below_size (by repeat (first|(with_reducible first|exact HB.out|apply below_alloc|apply pw_below_drewN|apply below_drew1|refine below_set ?_ GE167.out|refine below_set ?_ GE168.out)|exact HB.out))) : w.heap.size ≤ gb169));have n5_:=Aside0.mk ((by rw [hg];exact (below_size (by repeat (first|(with_reducible first|exact HB.out|apply below_alloc|apply pw_below_drewN|apply below_drew1|refine below_set ?_ GE167.out|refine below_set ?_ GE168.out)|exact HB.out))) : w.heap.size ≤ gb169));have n6_:=Aside0.mk ((by rw [hg];exact Nat.ne_of_lt (blk_lt (g:=gb167) (o:=.cells #[.int .i64 a0_0,.float .f64 a0_1,.float .f64 a0_2,.float .f64 a0_3,.float .f64 a0_4,.float .f64 a0_5,.float .f64 a0_6] 26 (0,0)) (by (with_reducible repeat (first|refine blk_drewN ?_ _|refine blk_drew ?_|refine blk_alloc ?_ _));exact BK167.out)) : gb167 ≠ gb169));have n7_:=Aside0.mk ((by rw [hg];exact Nat.ne_of_gt (blk_lt (g:=gb167) (o:=.cells #[.int .i64 a0_0,.float .f64 a0_1,.float .f64 a0_2,.float .f64 a0_3,.float .f64 a0_4,.float .f64 a0_5,.float .f64 a0_6] 26 (0,0)) (by (with_reducible repeat (first|refine blk_drewN ?_ _|refine blk_drew ?_|refine blk_alloc ?_ _));exact BK167.out)) : gb169 ≠ gb167));have n8_:=Aside0.mk ((by rw [hg];exact Nat.ne_of_lt (blk_lt (g:=gb168) (o:=.cells #[.int .i64 a1_0,.float .f64 a1_1,.float .f64 a1_2,.float .f64 a1_3,.float .f64 a1_4,.float .f64 a1_5,.float .f64 a1_6] 26 (0,0)) (by (with_reducible repeat (first|refine blk_drewN ?_ _|refine blk_drew ?_|refine blk_alloc ?_ _));exact BK168.out)) : gb168 ≠ gb169));have n9_:=Aside0.mk ((by rw [hg];exact Nat.ne_of_gt (blk_lt (g:=gb168) (o:=.cells #[.int .i64 a1_0,.float .f64 a1_1,.float .f64 a1_2,.float .f64 a1_3,.float .f64 a1_4,.float .f64 a1_5,.float .f64 a1_6] 26 (0,0)) (by (with_reducible repeat (first|refine blk_drewN ?_ _|refine blk_drew ?_|refine blk_alloc ?_ _));exact BK168.out)) : gb169 ≠ gb168));clear BK167;clear BK168;clear HB;have BK167:=n0_;have BK168:=n1_;have HB:=n2_;have BK169:=n3_;have GW169:=n4_;have GE169:=n5_;have NB167_169:=n6_;have NB169_167:=n7_;have NB168_169:=n8_;have NB169_168:=n9_;clear n0_ n1_ n2_ n3_ n4_ n5_ n6_ n7_ n8_ n9_;clear hb hbox hg))
 (try simp only [Act.put,List.setIfInBounds_toArray,List.set_cons_zero,List.set_cons_succ])
 go_cut [22] (fun v22 wc=>∃ (kq : Nat) (x22_2 : Bool),v22 = .bool x22_2 ∧ Aside0 (quarryref31_Join.j0 kq x22_2 a0_0 a0_1 a0_2 a0_3 a0_4 a0_5 a0_6 a1_0 a1_1 a1_2 a1_3 a1_4 a1_5 a1_6 = some (r1,r2,r3,r4,r5,r6,r7,r8)) ∧ Aside0 (kq ≤ k) ∧ Aside0 (wc.heap[gb167]? = some (.cells #[.int .i64 a0_0,.float .f64 a0_1,.float .f64 a0_2,.float .f64 a0_3,.float .f64 a0_4,.float .f64 a0_5,.float .f64 a0_6] 26 (0,0))) ∧ Aside0 (wc.heap[gb168]? = some (.cells #[.int .i64 a1_0,.float .f64 a1_1,.float .f64 a1_2,.float .f64 a1_3,.float .f64 a1_4,.float .f64 a1_5,.float .f64 a1_6] 26 (0,0))) ∧ Aside0 (wc.heap[gb169]? = some (.cells #[.int .i64 0,.float .f64 0,.float .f64 0,.float .f64 0,.float .f64 0,.float .f64 0,.float .f64 0] 26 (0,0))) ∧ Aside0 (Below w.heap.size w wc))
 case first =>
  have H:=HC3.out
  clear HC3
  replace H:=Option.bind_eq_some_iff.mp H
  obtain ⟨t170,A70,H⟩:=H
  replace H : (if t170 = true then ((quarryref31_Formed.f k a1_0 a1_1 a1_2 a1_3 a1_4 a1_5 a1_6).bind fun t171=>(quarryref31_Join.j0 k (!t171) a0_0 a0_1 a0_2 a0_3 a0_4 a0_5 a0_6 a1_0 a1_1 a1_2 a1_3 a1_4 a1_5 a1_6)) else (quarryref31_Join.j0 k true a0_0 a0_1 a0_2 a0_3 a0_4 a0_5 a0_6 a1_0 a1_1 a1_2 a1_3 a1_4 a1_5 a1_6)) = some (r1,r2,r3,r4,r5,r6,r7,r8):=H
  have A7:=Aside0.mk A70
  clear A70
  by_cases c8 : t170 = true
  ·subst c8
   have H1 : ((quarryref31_Formed.f k a1_0 a1_1 a1_2 a1_3 a1_4 a1_5 a1_6).bind fun t171=>(quarryref31_Join.j0 k (!t171) a0_0 a0_1 a0_2 a0_3 a0_4 a0_5 a0_6 a1_0 a1_1 a1_2 a1_3 a1_4 a1_5 a1_6)) = some (r1,r2,r3,r4,r5,r6,r7,r8):=by rw [if_pos rfl] at H;exact H
   clear H
   have H:=H1
   clear H1
   replace H:=Option.bind_eq_some_iff.mp H
   obtain ⟨t171,A90,H⟩:=H
   replace H : (quarryref31_Join.j0 k (!t171) a0_0 a0_1 a0_2 a0_3 a0_4 a0_5 a0_6 a1_0 a1_1 a1_2 a1_3 a1_4 a1_5 a1_6) = some (r1,r2,r3,r4,r5,r6,r7,r8):=H
   have A9:=Aside0.mk A90
   clear A90
   have H':=Aside0.mk H
   clear H
   have hnb10:=NB167_168.out
   have hnc10:=NB168_167.out
   have hnb11:=NB167_169.out
   have hnc11:=NB169_167.out
   have hcz12_0 : w6.cell? ⟨gb167,0,none⟩ = some (.int .i64 a0_0):=(blk_cell BK167.out 0).trans rfl
   have hcz12_1 : w6.cell? ⟨gb167,1,none⟩ = some (.float .f64 a0_1):=(blk_cell BK167.out 1).trans rfl
   have hcz12_2 : w6.cell? ⟨gb167,2,none⟩ = some (.float .f64 a0_2):=(blk_cell BK167.out 2).trans rfl
   have hcz12_3 : w6.cell? ⟨gb167,3,none⟩ = some (.float .f64 a0_3):=(blk_cell BK167.out 3).trans rfl
   have hcz12_4 : w6.cell? ⟨gb167,4,none⟩ = some (.float .f64 a0_4):=(blk_cell BK167.out 4).trans rfl
   have hcz12_5 : w6.cell? ⟨gb167,5,none⟩ = some (.float .f64 a0_5):=(blk_cell BK167.out 5).trans rfl
   have hcz12_6 : w6.cell? ⟨gb167,6,none⟩ = some (.float .f64 a0_6):=(blk_cell BK167.out 6).trans rfl
   have hfz12_0:=blk_frozen BK167.out 0
   have hfz12_1:=blk_frozen BK167.out 1
   have hfz12_2:=blk_frozen BK167.out 2
   have hfz12_3:=blk_frozen BK167.out 3
   have hfz12_4:=blk_frozen BK167.out 4
   have hfz12_5:=blk_frozen BK167.out 5
   have hfz12_6:=blk_frozen BK167.out 6
   go_wp2_with (first|((with_reducible refine gate_callee (f:=46) rfl ?_);refine goesL_ (some 16) rfl rfl Try.func46 (by kernel_rfl) rfl #[.agg #[.int .i64 a0_0,.float .f64 a0_1,.float .f64 a0_2,.float .f64 a0_3,.float .f64 a0_4,.float .f64 a0_5,.float .f64 a0_6]] rfl (by (try simp only [List.map_toArray,List.map_cons,List.map_nil]);first|done|rfl|(simp only [List.length_drop,List.length_take];rfl)) ?_;(with_reducible refine (quarryref31_Formed.calls k a0_0 a0_1 a0_2 a0_3 a0_4 a0_5 a0_6 true _ A7.out).mono ?_);rintro e w13 ⟨rfl,hb⟩;refine ⟨_,rfl,?_⟩;have n0_:=Aside0.mk (blk_below (g:=gb167) (o:=.cells #[.int .i64 a0_0,.float .f64 a0_1,.float .f64 a0_2,.float .f64 a0_3,.float .f64 a0_4,.float .f64 a0_5,.float .f64 a0_6] 26 (0,0)) (by (with_reducible repeat (first|refine blk_drewN ?_ _|refine blk_drew ?_|refine blk_alloc ?_ _));exact BK167.out) hb);have n1_:=Aside0.mk (blk_below (g:=gb168) (o:=.cells #[.int .i64 a1_0,.float .f64 a1_1,.float .f64 a1_2,.float .f64 a1_3,.float .f64 a1_4,.float .f64 a1_5,.float .f64 a1_6] 26 (0,0)) (by (with_reducible repeat (first|refine blk_drewN ?_ _|refine blk_drew ?_|refine blk_alloc ?_ _));exact BK168.out) hb);have n2_:=Aside0.mk (blk_below (g:=gb169) (o:=.cells #[.int .i64 0,.float .f64 0,.float .f64 0,.float .f64 0,.float .f64 0,.float .f64 0,.float .f64 0] 26 (0,0)) (by (with_reducible repeat (first|refine blk_drewN ?_ _|refine blk_drew ?_|refine blk_alloc ?_ _));exact BK169.out) hb);have n3_:=Aside0.mk (below_step (by repeat (first|(with_reducible first|exact HB.out|apply below_alloc|apply pw_below_drewN|apply below_drew1|refine below_set ?_ GE167.out|refine below_set ?_ GE168.out|refine below_set ?_ GE169.out)|exact HB.out)) hb);clear BK167;clear BK168;clear BK169;clear HB;have BK167:=n0_;have BK168:=n1_;have BK169:=n2_;have HB:=n3_;clear n0_ n1_ n2_ n3_;(try clear hb);(try clear hb2);(try clear hk);(try clear hi);have hnb14:=NB168_169.out;have hnc14:=NB169_168.out;have hcz15_0 : w13.cell? ⟨gb168,0,none⟩ = some (.int .i64 a1_0):=(blk_cell BK168.out 0).trans rfl;have hcz15_1 : w13.cell? ⟨gb168,1,none⟩ = some (.float .f64 a1_1):=(blk_cell BK168.out 1).trans rfl;have hcz15_2 : w13.cell? ⟨gb168,2,none⟩ = some (.float .f64 a1_2):=(blk_cell BK168.out 2).trans rfl;have hcz15_3 : w13.cell? ⟨gb168,3,none⟩ = some (.float .f64 a1_3):=(blk_cell BK168.out 3).trans rfl;have hcz15_4 : w13.cell? ⟨gb168,4,none⟩ = some (.float .f64 a1_4):=(blk_cell BK168.out 4).trans rfl;have hcz15_5 : w13.cell? ⟨gb168,5,none⟩ = some (.float .f64 a1_5):=(blk_cell BK168.out 5).trans rfl;have hcz15_6 : w13.cell? ⟨gb168,6,none⟩ = some (.float .f64 a1_6):=(blk_cell BK168.out 6).trans rfl;have hfz15_0:=blk_frozen BK168.out 0;have hfz15_1:=blk_frozen BK168.out 1;have hfz15_2:=blk_frozen BK168.out 2;have hfz15_3:=blk_frozen BK168.out 3;have hfz15_4:=blk_frozen BK168.out 4;have hfz15_5:=blk_frozen BK168.out 5;have hfz15_6:=blk_frozen BK168.out 6)|(go_at_call 46;(with_reducible refine (quarryref31_Formed.calls k a1_0 a1_1 a1_2 a1_3 a1_4 a1_5 a1_6 t171 _ A9.out).mono ?_);rintro e w16 ⟨rfl,hb⟩;have n0_:=Aside0.mk (blk_below (g:=gb167) (o:=.cells #[.int .i64 a0_0,.float .f64 a0_1,.float .f64 a0_2,.float .f64 a0_3,.float .f64 a0_4,.float .f64 a0_5,.float .f64 a0_6] 26 (0,0)) (by (with_reducible repeat (first|refine blk_drewN ?_ _|refine blk_drew ?_|refine blk_alloc ?_ _));exact BK167.out) hb);have n1_:=Aside0.mk (blk_below (g:=gb168) (o:=.cells #[.int .i64 a1_0,.float .f64 a1_1,.float .f64 a1_2,.float .f64 a1_3,.float .f64 a1_4,.float .f64 a1_5,.float .f64 a1_6] 26 (0,0)) (by (with_reducible repeat (first|refine blk_drewN ?_ _|refine blk_drew ?_|refine blk_alloc ?_ _));exact BK168.out) hb);have n2_:=Aside0.mk (blk_below (g:=gb169) (o:=.cells #[.int .i64 0,.float .f64 0,.float .f64 0,.float .f64 0,.float .f64 0,.float .f64 0,.float .f64 0] 26 (0,0)) (by (with_reducible repeat (first|refine blk_drewN ?_ _|refine blk_drew ?_|refine blk_alloc ?_ _));exact BK169.out) hb);have n3_:=Aside0.mk (below_step (by repeat (first|(with_reducible first|exact HB.out|apply below_alloc|apply pw_below_drewN|apply below_drew1|refine below_set ?_ GE167.out|refine below_set ?_ GE168.out|refine below_set ?_ GE169.out)|exact HB.out)) hb);clear BK167;clear BK168;clear BK169;clear HB;have BK167:=n0_;have BK168:=n1_;have BK169:=n2_;have HB:=n3_;clear n0_ n1_ n2_ n3_;(try clear hb);(try clear hb2);(try clear hk);(try clear hi)))
   go_meet
   case rel=>exact ⟨_,(!t171),(by first|rfl|(simp;done)|(simp [*];done)),(by first|exact H'|(subst_vars;exact H')),⟨by first|omega|exact Nat.le_refl _⟩,⟨by (with_reducible repeat (first|refine blk_drewN ?_ _|refine blk_drew ?_|refine blk_alloc ?_ _));exact BK167.out⟩,⟨by (with_reducible repeat (first|refine blk_drewN ?_ _|refine blk_drew ?_|refine blk_alloc ?_ _));exact BK168.out⟩,⟨by (with_reducible repeat (first|refine blk_drewN ?_ _|refine blk_drew ?_|refine blk_alloc ?_ _));exact BK169.out⟩,⟨by repeat (first|(with_reducible first|exact HB.out|apply below_alloc|apply pw_below_drewN|apply below_drew1|refine below_set ?_ GE167.out|refine below_set ?_ GE168.out|refine below_set ?_ GE169.out)|exact HB.out)⟩⟩
  ·replace c8:=Bool.eq_false_iff.mpr c8
   subst c8
   have H1 : (quarryref31_Join.j0 k true a0_0 a0_1 a0_2 a0_3 a0_4 a0_5 a0_6 a1_0 a1_1 a1_2 a1_3 a1_4 a1_5 a1_6) = some (r1,r2,r3,r4,r5,r6,r7,r8):=by rw [if_neg (show ¬ (false = true) by decide)] at H;exact H
   clear H
   have H:=H1
   clear H1
   have H':=Aside0.mk H
   clear H
   have hnb17:=NB167_168.out
   have hnc17:=NB168_167.out
   have hnb18:=NB167_169.out
   have hnc18:=NB169_167.out
   have hcz19_0 : w6.cell? ⟨gb167,0,none⟩ = some (.int .i64 a0_0):=(blk_cell BK167.out 0).trans rfl
   have hcz19_1 : w6.cell? ⟨gb167,1,none⟩ = some (.float .f64 a0_1):=(blk_cell BK167.out 1).trans rfl
   have hcz19_2 : w6.cell? ⟨gb167,2,none⟩ = some (.float .f64 a0_2):=(blk_cell BK167.out 2).trans rfl
   have hcz19_3 : w6.cell? ⟨gb167,3,none⟩ = some (.float .f64 a0_3):=(blk_cell BK167.out 3).trans rfl
   have hcz19_4 : w6.cell? ⟨gb167,4,none⟩ = some (.float .f64 a0_4):=(blk_cell BK167.out 4).trans rfl
   have hcz19_5 : w6.cell? ⟨gb167,5,none⟩ = some (.float .f64 a0_5):=(blk_cell BK167.out 5).trans rfl
   have hcz19_6 : w6.cell? ⟨gb167,6,none⟩ = some (.float .f64 a0_6):=(blk_cell BK167.out 6).trans rfl
   have hfz19_0:=blk_frozen BK167.out 0
   have hfz19_1:=blk_frozen BK167.out 1
   have hfz19_2:=blk_frozen BK167.out 2
   have hfz19_3:=blk_frozen BK167.out 3
   have hfz19_4:=blk_frozen BK167.out 4
   have hfz19_5:=blk_frozen BK167.out 5
   have hfz19_6:=blk_frozen BK167.out 6
   go_wp2_with (first|((with_reducible refine gate_callee (f:=46) rfl ?_);refine goesL_ (some 16) rfl rfl Try.func46 (by kernel_rfl) rfl #[.agg #[.int .i64 a0_0,.float .f64 a0_1,.float .f64 a0_2,.float .f64 a0_3,.float .f64 a0_4,.float .f64 a0_5,.float .f64 a0_6]] rfl (by (try simp only [List.map_toArray,List.map_cons,List.map_nil]);first|done|rfl|(simp only [List.length_drop,List.length_take];rfl)) ?_;(with_reducible refine (quarryref31_Formed.calls k a0_0 a0_1 a0_2 a0_3 a0_4 a0_5 a0_6 false _ A7.out).mono ?_);rintro e w20 ⟨rfl,hb⟩;refine ⟨_,rfl,?_⟩;have n0_:=Aside0.mk (blk_below (g:=gb167) (o:=.cells #[.int .i64 a0_0,.float .f64 a0_1,.float .f64 a0_2,.float .f64 a0_3,.float .f64 a0_4,.float .f64 a0_5,.float .f64 a0_6] 26 (0,0)) (by (with_reducible repeat (first|refine blk_drewN ?_ _|refine blk_drew ?_|refine blk_alloc ?_ _));exact BK167.out) hb);have n1_:=Aside0.mk (blk_below (g:=gb168) (o:=.cells #[.int .i64 a1_0,.float .f64 a1_1,.float .f64 a1_2,.float .f64 a1_3,.float .f64 a1_4,.float .f64 a1_5,.float .f64 a1_6] 26 (0,0)) (by (with_reducible repeat (first|refine blk_drewN ?_ _|refine blk_drew ?_|refine blk_alloc ?_ _));exact BK168.out) hb);have n2_:=Aside0.mk (blk_below (g:=gb169) (o:=.cells #[.int .i64 0,.float .f64 0,.float .f64 0,.float .f64 0,.float .f64 0,.float .f64 0,.float .f64 0] 26 (0,0)) (by (with_reducible repeat (first|refine blk_drewN ?_ _|refine blk_drew ?_|refine blk_alloc ?_ _));exact BK169.out) hb);have n3_:=Aside0.mk (below_step (by repeat (first|(with_reducible first|exact HB.out|apply below_alloc|apply pw_below_drewN|apply below_drew1|refine below_set ?_ GE167.out|refine below_set ?_ GE168.out|refine below_set ?_ GE169.out)|exact HB.out)) hb);clear BK167;clear BK168;clear BK169;clear HB;have BK167:=n0_;have BK168:=n1_;have BK169:=n2_;have HB:=n3_;clear n0_ n1_ n2_ n3_;(try clear hb);(try clear hb2);(try clear hk);(try clear hi)))
   go_meet
   case rel=>exact ⟨_,(true),(by first|rfl|(simp;done)|(simp [*];done)),(by first|exact H'|(subst_vars;exact H')),⟨by first|omega|exact Nat.le_refl _⟩,⟨by (with_reducible repeat (first|refine blk_drewN ?_ _|refine blk_drew ?_|refine blk_alloc ?_ _));exact BK167.out⟩,⟨by (with_reducible repeat (first|refine blk_drewN ?_ _|refine blk_drew ?_|refine blk_alloc ?_ _));exact BK168.out⟩,⟨by (with_reducible repeat (first|refine blk_drewN ?_ _|refine blk_drew ?_|refine blk_alloc ?_ _));exact BK169.out⟩,⟨by repeat (first|(with_reducible first|exact HB.out|apply below_alloc|apply pw_below_drewN|apply below_drew1|refine below_set ?_ GE167.out|refine below_set ?_ GE168.out|refine below_set ?_ GE169.out)|exact HB.out)⟩⟩
 case rest =>
  clear HC3
  try clear c1
  try clear c2
  try clear p2
  try clear c4
  try clear c8
  try clear c10
  try clear c11
  try clear c14
  try clear c17
  try clear c18
  try clear hcz12_0
  try clear hcz12_1
  try clear hcz12_2
  try clear hcz12_3
  try clear hcz12_4
  try clear hcz12_5
  try clear hcz12_6
  try clear hcz15_0
  try clear hcz15_1
  try clear hcz15_2
  try clear hcz15_3
  try clear hcz15_4
  try clear hcz15_5
  try clear hcz15_6
  try clear hcz19_0
  try clear hcz19_1
  try clear hcz19_2
  try clear hcz19_3
  try clear hcz19_4
  try clear hcz19_5
  try clear hcz19_6
  try clear hfz12_0
  try clear hfz12_1
  try clear hfz12_2
  try clear hfz12_3
  try clear hfz12_4
  try clear hfz12_5
  try clear hfz12_6
  try clear hfz15_0
  try clear hfz15_1
  try clear hfz15_2
  try clear hfz15_3
  try clear hfz15_4
  try clear hfz15_5
  try clear hfz15_6
  try clear hfz19_0
  try clear hfz19_1
  try clear hfz19_2
  try clear hfz19_3
  try clear hfz19_4
  try clear hfz19_5
  try clear hfz19_6
  obtain ⟨kq,x22_2,rfl,HA,HJ2,BK167,BK168,BK169,HB⟩:=hcut
  cases kq with
  | zero=>exact absurd HA.out (by simp [quarryref31_Join.j0])
  | succ kj2 =>
   have H:=HA.out
   clear HA
   simp only [quarryref31_Join.j0] at H
   by_cases c21 : x22_2 = true
   ·subst c21
    have H1 : (some (0,0,0,0,0,0,0,1)) = some (r1,r2,r3,r4,r5,r6,r7,r8):=by rw [if_pos rfl] at H;exact H
    clear H
    have H:=H1
    clear H1
    simp only [Option.some.injEq,Prod.mk.injEq] at H
    obtain ⟨rfl,rfl,rfl,rfl,rfl,rfl,rfl,rfl⟩:=H
    have hnb22:=NB169_167.out
    have hnc22:=NB167_169.out
    have hnb23:=NB169_168.out
    have hnc23:=NB168_169.out
    have hcz24_0 : wc.cell? ⟨gb169,0,none⟩ = some (.int .i64 0):=(blk_cell BK169.out 0).trans rfl
    have hcz24_1 : wc.cell? ⟨gb169,1,none⟩ = some (.float .f64 0):=(blk_cell BK169.out 1).trans rfl
    have hcz24_2 : wc.cell? ⟨gb169,2,none⟩ = some (.float .f64 0):=(blk_cell BK169.out 2).trans rfl
    have hcz24_3 : wc.cell? ⟨gb169,3,none⟩ = some (.float .f64 0):=(blk_cell BK169.out 3).trans rfl
    have hcz24_4 : wc.cell? ⟨gb169,4,none⟩ = some (.float .f64 0):=(blk_cell BK169.out 4).trans rfl
    have hcz24_5 : wc.cell? ⟨gb169,5,none⟩ = some (.float .f64 0):=(blk_cell BK169.out 5).trans rfl
    have hcz24_6 : wc.cell? ⟨gb169,6,none⟩ = some (.float .f64 0):=(blk_cell BK169.out 6).trans rfl
    have hfz24_0:=blk_frozen BK169.out 0
    have hfz24_1:=blk_frozen BK169.out 1
    have hfz24_2:=blk_frozen BK169.out 2
    have hfz24_3:=blk_frozen BK169.out 3
    have hfz24_4:=blk_frozen BK169.out 4
    have hfz24_5:=blk_frozen BK169.out 5
    have hfz24_6:=blk_frozen BK169.out 6
    go_wp2
    refine bodyPost_ret (results_ct rfl _ _ gb169 26 #[.int .i64 0,.float .f64 0,.float .f64 0,.float .f64 0,.float .f64 0,.float .f64 0,.float .f64 0] (0,0) _ rfl (by (with_reducible repeat (first|refine blk_drewN ?_ _|refine blk_drew ?_|refine blk_alloc ?_ _));refine blk_put (cs:=#[.int .i64 0,.float .f64 0,.float .f64 0,.float .f64 0,.float .f64 0,.float .f64 0,.float .f64 0]) ?_ 6 _ (by first|rfl|(simp only [px_pos,px_ne];rfl)|simp [px_pos,px_ne]);(with_reducible repeat (first|refine blk_drewN ?_ _|refine blk_drew ?_|refine blk_alloc ?_ _));refine blk_put (cs:=#[.int .i64 0,.float .f64 0,.float .f64 0,.float .f64 0,.float .f64 0,.float .f64 0,.float .f64 0]) ?_ 5 _ (by first|rfl|(simp only [px_pos,px_ne];rfl)|simp [px_pos,px_ne]);(with_reducible repeat (first|refine blk_drewN ?_ _|refine blk_drew ?_|refine blk_alloc ?_ _));refine blk_put (cs:=#[.int .i64 0,.float .f64 0,.float .f64 0,.float .f64 0,.float .f64 0,.float .f64 0,.float .f64 0]) ?_ 4 _ (by first|rfl|(simp only [px_pos,px_ne];rfl)|simp [px_pos,px_ne]);(with_reducible repeat (first|refine blk_drewN ?_ _|refine blk_drew ?_|refine blk_alloc ?_ _));refine blk_put (cs:=#[.int .i64 0,.float .f64 0,.float .f64 0,.float .f64 0,.float .f64 0,.float .f64 0,.float .f64 0]) ?_ 3 _ (by first|rfl|(simp only [px_pos,px_ne];rfl)|simp [px_pos,px_ne]);(with_reducible repeat (first|refine blk_drewN ?_ _|refine blk_drew ?_|refine blk_alloc ?_ _));refine blk_put (cs:=#[.int .i64 0,.float .f64 0,.float .f64 0,.float .f64 0,.float .f64 0,.float .f64 0,.float .f64 0]) ?_ 2 _ (by first|rfl|(simp only [px_pos,px_ne];rfl)|simp [px_pos,px_ne]);(with_reducible repeat (first|refine blk_drewN ?_ _|refine blk_drew ?_|refine blk_alloc ?_ _));refine blk_put (cs:=#[.int .i64 0,.float .f64 0,.float .f64 0,.float .f64 0,.float .f64 0,.float .f64 0,.float .f64 0]) ?_ 1 _ (by first|rfl|(simp only [px_pos,px_ne];rfl)|simp [px_pos,px_ne]);(with_reducible repeat (first|refine blk_drewN ?_ _|refine blk_drew ?_|refine blk_alloc ?_ _));refine blk_put (cs:=#[.int .i64 0,.float .f64 0,.float .f64 0,.float .f64 0,.float .f64 0,.float .f64 0,.float .f64 0]) ?_ 0 _ (by first|rfl|(simp only [px_pos,px_ne];rfl)|simp [px_pos,px_ne]);(with_reducible repeat (first|refine blk_drewN ?_ _|refine blk_drew ?_|refine blk_alloc ?_ _));exact BK169.out) Try.underlying26 rfl (by kernel_rfl)) rfl ?_
    exact ⟨by first|rfl|(rw [px_ne];rfl)|(simp [errW_none,errW_some] <;> rfl)|(simp [*,errW_none,errW_some] <;> rfl),by repeat (first|(with_reducible first|exact HB.out|apply below_alloc|apply pw_below_drewN|apply below_drew1|refine below_set ?_ GE167.out|refine below_set ?_ GE168.out|refine below_set ?_ GE169.out)|exact HB.out)⟩
   ·replace c21:=Bool.eq_false_iff.mpr c21
    subst c21
    have H1 : (if a1_0 = 0 then (some (a0_0,a0_1,a0_2,a0_3,a0_4,a0_5,a0_6,0)) else (if a0_0 = 0 then (some (a1_0,a1_1,a1_2,a1_3,a1_4,a1_5,a1_6,0)) else (if a0_0 > (wrap64 (4611686018427387904 - a1_0)) then (some (0,0,0,0,0,0,0,121)) else (if (FloatKind.f64.format.order a1_1 a0_1 == some .lt) = true then (quarryref31_Join.j1 kj2 a0_0 a0_1 a0_2 a0_3 a0_4 a0_5 a0_6 a1_0 a1_1 a1_2 a1_3 a1_4 a1_5 a1_6 (wrap64 (a0_0 + a1_0)) a1_1 a0_2 a0_3 a0_4 a0_5 a0_6) else (quarryref31_Join.j1 kj2 a0_0 a0_1 a0_2 a0_3 a0_4 a0_5 a0_6 a1_0 a1_1 a1_2 a1_3 a1_4 a1_5 a1_6 (wrap64 (a0_0 + a1_0)) a0_1 a0_2 a0_3 a0_4 a0_5 a0_6))))) = some (r1,r2,r3,r4,r5,r6,r7,r8):=by rw [if_neg (show ¬ (false = true) by decide)] at H;exact H
    clear H
    have H:=H1
    clear H1
    by_cases c25 : a1_0 = 0
    ·rw [if_pos c25] at H
     have c25b0 : (a1_0 == 0) = true:=beq_iff_eq.mpr c25
     have c25b1 : (a1_0 != 0) = false:=bne_eq_false_iff_eq.mpr c25
     clear c25
     simp only [Option.some.injEq,Prod.mk.injEq] at H
     obtain ⟨rfl,rfl,rfl,rfl,rfl,rfl,rfl,rfl⟩:=H
     have hnb26:=NB168_167.out
     have hnc26:=NB167_168.out
     have hnb27:=NB168_169.out
     have hnc27:=NB169_168.out
     have hcz28_0 : wc.cell? ⟨gb168,0,none⟩ = some (.int .i64 a1_0):=(blk_cell BK168.out 0).trans rfl
     have hcz28_1 : wc.cell? ⟨gb168,1,none⟩ = some (.float .f64 a1_1):=(blk_cell BK168.out 1).trans rfl
     have hcz28_2 : wc.cell? ⟨gb168,2,none⟩ = some (.float .f64 a1_2):=(blk_cell BK168.out 2).trans rfl
     have hcz28_3 : wc.cell? ⟨gb168,3,none⟩ = some (.float .f64 a1_3):=(blk_cell BK168.out 3).trans rfl
     have hcz28_4 : wc.cell? ⟨gb168,4,none⟩ = some (.float .f64 a1_4):=(blk_cell BK168.out 4).trans rfl
     have hcz28_5 : wc.cell? ⟨gb168,5,none⟩ = some (.float .f64 a1_5):=(blk_cell BK168.out 5).trans rfl
     have hcz28_6 : wc.cell? ⟨gb168,6,none⟩ = some (.float .f64 a1_6):=(blk_cell BK168.out 6).trans rfl
     have hfz28_0:=blk_frozen BK168.out 0
     have hfz28_1:=blk_frozen BK168.out 1
     have hfz28_2:=blk_frozen BK168.out 2
     have hfz28_3:=blk_frozen BK168.out 3
     have hfz28_4:=blk_frozen BK168.out 4
     have hfz28_5:=blk_frozen BK168.out 5
     have hfz28_6:=blk_frozen BK168.out 6
     have hnb29:=NB167_169.out
     have hnc29:=NB169_167.out
     have hcz30_0 : wc.cell? ⟨gb167,0,none⟩ = some (.int .i64 a0_0):=(blk_cell BK167.out 0).trans rfl
     have hcz30_1 : wc.cell? ⟨gb167,1,none⟩ = some (.float .f64 a0_1):=(blk_cell BK167.out 1).trans rfl
     have hcz30_2 : wc.cell? ⟨gb167,2,none⟩ = some (.float .f64 a0_2):=(blk_cell BK167.out 2).trans rfl
     have hcz30_3 : wc.cell? ⟨gb167,3,none⟩ = some (.float .f64 a0_3):=(blk_cell BK167.out 3).trans rfl
     have hcz30_4 : wc.cell? ⟨gb167,4,none⟩ = some (.float .f64 a0_4):=(blk_cell BK167.out 4).trans rfl
     have hcz30_5 : wc.cell? ⟨gb167,5,none⟩ = some (.float .f64 a0_5):=(blk_cell BK167.out 5).trans rfl
     have hcz30_6 : wc.cell? ⟨gb167,6,none⟩ = some (.float .f64 a0_6):=(blk_cell BK167.out 6).trans rfl
     have hfz30_0:=blk_frozen BK167.out 0
     have hfz30_1:=blk_frozen BK167.out 1
     have hfz30_2:=blk_frozen BK167.out 2
     have hfz30_3:=blk_frozen BK167.out 3
     have hfz30_4:=blk_frozen BK167.out 4
     have hfz30_5:=blk_frozen BK167.out 5
     have hfz30_6:=blk_frozen BK167.out 6
     have hcz31_0 : wc.cell? ⟨gb169,0,none⟩ = some (.int .i64 0):=(blk_cell BK169.out 0).trans rfl
     have hcz31_1 : wc.cell? ⟨gb169,1,none⟩ = some (.float .f64 0):=(blk_cell BK169.out 1).trans rfl
     have hcz31_2 : wc.cell? ⟨gb169,2,none⟩ = some (.float .f64 0):=(blk_cell BK169.out 2).trans rfl
     have hcz31_3 : wc.cell? ⟨gb169,3,none⟩ = some (.float .f64 0):=(blk_cell BK169.out 3).trans rfl
     have hcz31_4 : wc.cell? ⟨gb169,4,none⟩ = some (.float .f64 0):=(blk_cell BK169.out 4).trans rfl
     have hcz31_5 : wc.cell? ⟨gb169,5,none⟩ = some (.float .f64 0):=(blk_cell BK169.out 5).trans rfl
     have hcz31_6 : wc.cell? ⟨gb169,6,none⟩ = some (.float .f64 0):=(blk_cell BK169.out 6).trans rfl
     have hfz31_0:=blk_frozen BK169.out 0
     have hfz31_1:=blk_frozen BK169.out 1
     have hfz31_2:=blk_frozen BK169.out 2
     have hfz31_3:=blk_frozen BK169.out 3
     have hfz31_4:=blk_frozen BK169.out 4
     have hfz31_5:=blk_frozen BK169.out 5
     have hfz31_6:=blk_frozen BK169.out 6
     go_wp2
     refine bodyPost_ret (results_ct rfl _ _ gb169 26 #[.int .i64 a0_0,.float .f64 a0_1,.float .f64 a0_2,.float .f64 a0_3,.float .f64 a0_4,.float .f64 a0_5,.float .f64 a0_6] (0,0) _ rfl (by (with_reducible repeat (first|refine blk_drewN ?_ _|refine blk_drew ?_|refine blk_alloc ?_ _));refine blk_put (cs:=#[.int .i64 a0_0,.float .f64 a0_1,.float .f64 a0_2,.float .f64 a0_3,.float .f64 a0_4,.float .f64 a0_5,.float .f64 0]) ?_ 6 _ (by first|rfl|(simp only [px_pos,px_ne];rfl)|simp [px_pos,px_ne]);(with_reducible repeat (first|refine blk_drewN ?_ _|refine blk_drew ?_|refine blk_alloc ?_ _));refine blk_put (cs:=#[.int .i64 a0_0,.float .f64 a0_1,.float .f64 a0_2,.float .f64 a0_3,.float .f64 a0_4,.float .f64 0,.float .f64 0]) ?_ 5 _ (by first|rfl|(simp only [px_pos,px_ne];rfl)|simp [px_pos,px_ne]);(with_reducible repeat (first|refine blk_drewN ?_ _|refine blk_drew ?_|refine blk_alloc ?_ _));refine blk_put (cs:=#[.int .i64 a0_0,.float .f64 a0_1,.float .f64 a0_2,.float .f64 a0_3,.float .f64 0,.float .f64 0,.float .f64 0]) ?_ 4 _ (by first|rfl|(simp only [px_pos,px_ne];rfl)|simp [px_pos,px_ne]);(with_reducible repeat (first|refine blk_drewN ?_ _|refine blk_drew ?_|refine blk_alloc ?_ _));refine blk_put (cs:=#[.int .i64 a0_0,.float .f64 a0_1,.float .f64 a0_2,.float .f64 0,.float .f64 0,.float .f64 0,.float .f64 0]) ?_ 3 _ (by first|rfl|(simp only [px_pos,px_ne];rfl)|simp [px_pos,px_ne]);(with_reducible repeat (first|refine blk_drewN ?_ _|refine blk_drew ?_|refine blk_alloc ?_ _));refine blk_put (cs:=#[.int .i64 a0_0,.float .f64 a0_1,.float .f64 0,.float .f64 0,.float .f64 0,.float .f64 0,.float .f64 0]) ?_ 2 _ (by first|rfl|(simp only [px_pos,px_ne];rfl)|simp [px_pos,px_ne]);(with_reducible repeat (first|refine blk_drewN ?_ _|refine blk_drew ?_|refine blk_alloc ?_ _));refine blk_put (cs:=#[.int .i64 a0_0,.float .f64 0,.float .f64 0,.float .f64 0,.float .f64 0,.float .f64 0,.float .f64 0]) ?_ 1 _ (by first|rfl|(simp only [px_pos,px_ne];rfl)|simp [px_pos,px_ne]);(with_reducible repeat (first|refine blk_drewN ?_ _|refine blk_drew ?_|refine blk_alloc ?_ _));refine blk_put (cs:=#[.int .i64 0,.float .f64 0,.float .f64 0,.float .f64 0,.float .f64 0,.float .f64 0,.float .f64 0]) ?_ 0 _ (by first|rfl|(simp only [px_pos,px_ne];rfl)|simp [px_pos,px_ne]);(with_reducible repeat (first|refine blk_drewN ?_ _|refine blk_drew ?_|refine blk_alloc ?_ _));exact BK169.out) Try.underlying26 rfl (by kernel_rfl)) rfl ?_
     exact ⟨by first|rfl|(rw [px_ne];rfl)|(simp [errW_none,errW_some] <;> rfl)|(simp [*,errW_none,errW_some] <;> rfl),by repeat (first|(with_reducible first|exact HB.out|apply below_alloc|apply pw_below_drewN|apply below_drew1|refine below_set ?_ GE167.out|refine below_set ?_ GE168.out|refine below_set ?_ GE169.out)|exact HB.out)⟩
    ·rw [if_neg c25] at H
     have c25b0 : (a1_0 == 0) = false:=beq_eq_false_iff_ne.mpr c25
     have c25b1 : (a1_0 != 0) = true:=bne_iff_ne.mpr c25
     by_cases c32 : a0_0 = 0
     ·rw [if_pos c32] at H
      have c32b0 : (a0_0 == 0) = true:=beq_iff_eq.mpr c32
      have c32b1 : (a0_0 != 0) = false:=bne_eq_false_iff_eq.mpr c32
      clear c32
      simp only [Option.some.injEq,Prod.mk.injEq] at H
      obtain ⟨rfl,rfl,rfl,rfl,rfl,rfl,rfl,rfl⟩:=H
      have hnb33:=NB168_167.out
      have hnc33:=NB167_168.out
      have hnb34:=NB168_169.out
      have hnc34:=NB169_168.out
      have hcz35_0 : wc.cell? ⟨gb168,0,none⟩ = some (.int .i64 a1_0):=(blk_cell BK168.out 0).trans rfl
      have hcz35_1 : wc.cell? ⟨gb168,1,none⟩ = some (.float .f64 a1_1):=(blk_cell BK168.out 1).trans rfl
      have hcz35_2 : wc.cell? ⟨gb168,2,none⟩ = some (.float .f64 a1_2):=(blk_cell BK168.out 2).trans rfl
      have hcz35_3 : wc.cell? ⟨gb168,3,none⟩ = some (.float .f64 a1_3):=(blk_cell BK168.out 3).trans rfl
      have hcz35_4 : wc.cell? ⟨gb168,4,none⟩ = some (.float .f64 a1_4):=(blk_cell BK168.out 4).trans rfl
      have hcz35_5 : wc.cell? ⟨gb168,5,none⟩ = some (.float .f64 a1_5):=(blk_cell BK168.out 5).trans rfl
      have hcz35_6 : wc.cell? ⟨gb168,6,none⟩ = some (.float .f64 a1_6):=(blk_cell BK168.out 6).trans rfl
      have hfz35_0:=blk_frozen BK168.out 0
      have hfz35_1:=blk_frozen BK168.out 1
      have hfz35_2:=blk_frozen BK168.out 2
      have hfz35_3:=blk_frozen BK168.out 3
      have hfz35_4:=blk_frozen BK168.out 4
      have hfz35_5:=blk_frozen BK168.out 5
      have hfz35_6:=blk_frozen BK168.out 6
      have hnb36:=NB167_169.out
      have hnc36:=NB169_167.out
      have hcz37_0 : wc.cell? ⟨gb167,0,none⟩ = some (.int .i64 a0_0):=(blk_cell BK167.out 0).trans rfl
      have hcz37_1 : wc.cell? ⟨gb167,1,none⟩ = some (.float .f64 a0_1):=(blk_cell BK167.out 1).trans rfl
      have hcz37_2 : wc.cell? ⟨gb167,2,none⟩ = some (.float .f64 a0_2):=(blk_cell BK167.out 2).trans rfl
      have hcz37_3 : wc.cell? ⟨gb167,3,none⟩ = some (.float .f64 a0_3):=(blk_cell BK167.out 3).trans rfl
      have hcz37_4 : wc.cell? ⟨gb167,4,none⟩ = some (.float .f64 a0_4):=(blk_cell BK167.out 4).trans rfl
      have hcz37_5 : wc.cell? ⟨gb167,5,none⟩ = some (.float .f64 a0_5):=(blk_cell BK167.out 5).trans rfl
      have hcz37_6 : wc.cell? ⟨gb167,6,none⟩ = some (.float .f64 a0_6):=(blk_cell BK167.out 6).trans rfl
      have hfz37_0:=blk_frozen BK167.out 0
      have hfz37_1:=blk_frozen BK167.out 1
      have hfz37_2:=blk_frozen BK167.out 2
      have hfz37_3:=blk_frozen BK167.out 3
      have hfz37_4:=blk_frozen BK167.out 4
      have hfz37_5:=blk_frozen BK167.out 5
      have hfz37_6:=blk_frozen BK167.out 6
      have hcz38_0 : wc.cell? ⟨gb169,0,none⟩ = some (.int .i64 0):=(blk_cell BK169.out 0).trans rfl
      have hcz38_1 : wc.cell? ⟨gb169,1,none⟩ = some (.float .f64 0):=(blk_cell BK169.out 1).trans rfl
      have hcz38_2 : wc.cell? ⟨gb169,2,none⟩ = some (.float .f64 0):=(blk_cell BK169.out 2).trans rfl
      have hcz38_3 : wc.cell? ⟨gb169,3,none⟩ = some (.float .f64 0):=(blk_cell BK169.out 3).trans rfl
      have hcz38_4 : wc.cell? ⟨gb169,4,none⟩ = some (.float .f64 0):=(blk_cell BK169.out 4).trans rfl
      have hcz38_5 : wc.cell? ⟨gb169,5,none⟩ = some (.float .f64 0):=(blk_cell BK169.out 5).trans rfl
      have hcz38_6 : wc.cell? ⟨gb169,6,none⟩ = some (.float .f64 0):=(blk_cell BK169.out 6).trans rfl
      have hfz38_0:=blk_frozen BK169.out 0
      have hfz38_1:=blk_frozen BK169.out 1
      have hfz38_2:=blk_frozen BK169.out 2
      have hfz38_3:=blk_frozen BK169.out 3
      have hfz38_4:=blk_frozen BK169.out 4
      have hfz38_5:=blk_frozen BK169.out 5
      have hfz38_6:=blk_frozen BK169.out 6
      go_wp2
      refine bodyPost_ret (results_ct rfl _ _ gb169 26 #[.int .i64 a1_0,.float .f64 a1_1,.float .f64 a1_2,.float .f64 a1_3,.float .f64 a1_4,.float .f64 a1_5,.float .f64 a1_6] (0,0) _ rfl (by (with_reducible repeat (first|refine blk_drewN ?_ _|refine blk_drew ?_|refine blk_alloc ?_ _));refine blk_put (cs:=#[.int .i64 a1_0,.float .f64 a1_1,.float .f64 a1_2,.float .f64 a1_3,.float .f64 a1_4,.float .f64 a1_5,.float .f64 0]) ?_ 6 _ (by first|rfl|(simp only [px_pos,px_ne];rfl)|simp [px_pos,px_ne]);(with_reducible repeat (first|refine blk_drewN ?_ _|refine blk_drew ?_|refine blk_alloc ?_ _));refine blk_put (cs:=#[.int .i64 a1_0,.float .f64 a1_1,.float .f64 a1_2,.float .f64 a1_3,.float .f64 a1_4,.float .f64 0,.float .f64 0]) ?_ 5 _ (by first|rfl|(simp only [px_pos,px_ne];rfl)|simp [px_pos,px_ne]);(with_reducible repeat (first|refine blk_drewN ?_ _|refine blk_drew ?_|refine blk_alloc ?_ _));refine blk_put (cs:=#[.int .i64 a1_0,.float .f64 a1_1,.float .f64 a1_2,.float .f64 a1_3,.float .f64 0,.float .f64 0,.float .f64 0]) ?_ 4 _ (by first|rfl|(simp only [px_pos,px_ne];rfl)|simp [px_pos,px_ne]);(with_reducible repeat (first|refine blk_drewN ?_ _|refine blk_drew ?_|refine blk_alloc ?_ _));refine blk_put (cs:=#[.int .i64 a1_0,.float .f64 a1_1,.float .f64 a1_2,.float .f64 0,.float .f64 0,.float .f64 0,.float .f64 0]) ?_ 3 _ (by first|rfl|(simp only [px_pos,px_ne];rfl)|simp [px_pos,px_ne]);(with_reducible repeat (first|refine blk_drewN ?_ _|refine blk_drew ?_|refine blk_alloc ?_ _));refine blk_put (cs:=#[.int .i64 a1_0,.float .f64 a1_1,.float .f64 0,.float .f64 0,.float .f64 0,.float .f64 0,.float .f64 0]) ?_ 2 _ (by first|rfl|(simp only [px_pos,px_ne];rfl)|simp [px_pos,px_ne]);(with_reducible repeat (first|refine blk_drewN ?_ _|refine blk_drew ?_|refine blk_alloc ?_ _));refine blk_put (cs:=#[.int .i64 a1_0,.float .f64 0,.float .f64 0,.float .f64 0,.float .f64 0,.float .f64 0,.float .f64 0]) ?_ 1 _ (by first|rfl|(simp only [px_pos,px_ne];rfl)|simp [px_pos,px_ne]);(with_reducible repeat (first|refine blk_drewN ?_ _|refine blk_drew ?_|refine blk_alloc ?_ _));refine blk_put (cs:=#[.int .i64 0,.float .f64 0,.float .f64 0,.float .f64 0,.float .f64 0,.float .f64 0,.float .f64 0]) ?_ 0 _ (by first|rfl|(simp only [px_pos,px_ne];rfl)|simp [px_pos,px_ne]);(with_reducible repeat (first|refine blk_drewN ?_ _|refine blk_drew ?_|refine blk_alloc ?_ _));exact BK169.out) Try.underlying26 rfl (by kernel_rfl)) rfl ?_
      exact ⟨by first|rfl|(rw [px_ne];rfl)|(simp [errW_none,errW_some] <;> rfl)|(simp [*,errW_none,errW_some] <;> rfl),by repeat (first|(with_reducible first|exact HB.out|apply below_alloc|apply pw_below_drewN|apply below_drew1|refine below_set ?_ GE167.out|refine below_set ?_ GE168.out|refine below_set ?_ GE169.out)|exact HB.out)⟩
     ·rw [if_neg c32] at H
      have c32b0 : (a0_0 == 0) = false:=beq_eq_false_iff_ne.mpr c32
      have c32b1 : (a0_0 != 0) = true:=bne_iff_ne.mpr c32
      by_cases c39 : a0_0 > (wrap64 (4611686018427387904 - a1_0))
      ·rw [if_pos c39] at H
       have c39b0 : decide ((wrap64 (4611686018427387904 - a1_0)) < a0_0) = true:=decide_eq_true c39
       clear c39
       simp only [Option.some.injEq,Prod.mk.injEq] at H
       obtain ⟨rfl,rfl,rfl,rfl,rfl,rfl,rfl,rfl⟩:=H
       have hnb40:=NB168_167.out
       have hnc40:=NB167_168.out
       have hnb41:=NB168_169.out
       have hnc41:=NB169_168.out
       have hcz42_0 : wc.cell? ⟨gb168,0,none⟩ = some (.int .i64 a1_0):=(blk_cell BK168.out 0).trans rfl
       have hcz42_1 : wc.cell? ⟨gb168,1,none⟩ = some (.float .f64 a1_1):=(blk_cell BK168.out 1).trans rfl
       have hcz42_2 : wc.cell? ⟨gb168,2,none⟩ = some (.float .f64 a1_2):=(blk_cell BK168.out 2).trans rfl
       have hcz42_3 : wc.cell? ⟨gb168,3,none⟩ = some (.float .f64 a1_3):=(blk_cell BK168.out 3).trans rfl
       have hcz42_4 : wc.cell? ⟨gb168,4,none⟩ = some (.float .f64 a1_4):=(blk_cell BK168.out 4).trans rfl
       have hcz42_5 : wc.cell? ⟨gb168,5,none⟩ = some (.float .f64 a1_5):=(blk_cell BK168.out 5).trans rfl
       have hcz42_6 : wc.cell? ⟨gb168,6,none⟩ = some (.float .f64 a1_6):=(blk_cell BK168.out 6).trans rfl
       have hfz42_0:=blk_frozen BK168.out 0
       have hfz42_1:=blk_frozen BK168.out 1
       have hfz42_2:=blk_frozen BK168.out 2
       have hfz42_3:=blk_frozen BK168.out 3
       have hfz42_4:=blk_frozen BK168.out 4
       have hfz42_5:=blk_frozen BK168.out 5
       have hfz42_6:=blk_frozen BK168.out 6
       have hnb43:=NB167_169.out
       have hnc43:=NB169_167.out
       have hcz44_0 : wc.cell? ⟨gb167,0,none⟩ = some (.int .i64 a0_0):=(blk_cell BK167.out 0).trans rfl
       have hcz44_1 : wc.cell? ⟨gb167,1,none⟩ = some (.float .f64 a0_1):=(blk_cell BK167.out 1).trans rfl
       have hcz44_2 : wc.cell? ⟨gb167,2,none⟩ = some (.float .f64 a0_2):=(blk_cell BK167.out 2).trans rfl
       have hcz44_3 : wc.cell? ⟨gb167,3,none⟩ = some (.float .f64 a0_3):=(blk_cell BK167.out 3).trans rfl
       have hcz44_4 : wc.cell? ⟨gb167,4,none⟩ = some (.float .f64 a0_4):=(blk_cell BK167.out 4).trans rfl
       have hcz44_5 : wc.cell? ⟨gb167,5,none⟩ = some (.float .f64 a0_5):=(blk_cell BK167.out 5).trans rfl
       have hcz44_6 : wc.cell? ⟨gb167,6,none⟩ = some (.float .f64 a0_6):=(blk_cell BK167.out 6).trans rfl
       have hfz44_0:=blk_frozen BK167.out 0
       have hfz44_1:=blk_frozen BK167.out 1
       have hfz44_2:=blk_frozen BK167.out 2
       have hfz44_3:=blk_frozen BK167.out 3
       have hfz44_4:=blk_frozen BK167.out 4
       have hfz44_5:=blk_frozen BK167.out 5
       have hfz44_6:=blk_frozen BK167.out 6
       have hcz45_0 : wc.cell? ⟨gb169,0,none⟩ = some (.int .i64 0):=(blk_cell BK169.out 0).trans rfl
       have hcz45_1 : wc.cell? ⟨gb169,1,none⟩ = some (.float .f64 0):=(blk_cell BK169.out 1).trans rfl
       have hcz45_2 : wc.cell? ⟨gb169,2,none⟩ = some (.float .f64 0):=(blk_cell BK169.out 2).trans rfl
       have hcz45_3 : wc.cell? ⟨gb169,3,none⟩ = some (.float .f64 0):=(blk_cell BK169.out 3).trans rfl
       have hcz45_4 : wc.cell? ⟨gb169,4,none⟩ = some (.float .f64 0):=(blk_cell BK169.out 4).trans rfl
       have hcz45_5 : wc.cell? ⟨gb169,5,none⟩ = some (.float .f64 0):=(blk_cell BK169.out 5).trans rfl
       have hcz45_6 : wc.cell? ⟨gb169,6,none⟩ = some (.float .f64 0):=(blk_cell BK169.out 6).trans rfl
       have hfz45_0:=blk_frozen BK169.out 0
       have hfz45_1:=blk_frozen BK169.out 1
       have hfz45_2:=blk_frozen BK169.out 2
       have hfz45_3:=blk_frozen BK169.out 3
       have hfz45_4:=blk_frozen BK169.out 4
       have hfz45_5:=blk_frozen BK169.out 5
       have hfz45_6:=blk_frozen BK169.out 6
       go_wp2
       refine bodyPost_ret (results_ct rfl _ _ gb169 26 #[.int .i64 0,.float .f64 0,.float .f64 0,.float .f64 0,.float .f64 0,.float .f64 0,.float .f64 0] (0,0) _ rfl (by (with_reducible repeat (first|refine blk_drewN ?_ _|refine blk_drew ?_|refine blk_alloc ?_ _));refine blk_put (cs:=#[.int .i64 0,.float .f64 0,.float .f64 0,.float .f64 0,.float .f64 0,.float .f64 0,.float .f64 0]) ?_ 6 _ (by first|rfl|(simp only [px_pos,px_ne];rfl)|simp [px_pos,px_ne]);(with_reducible repeat (first|refine blk_drewN ?_ _|refine blk_drew ?_|refine blk_alloc ?_ _));refine blk_put (cs:=#[.int .i64 0,.float .f64 0,.float .f64 0,.float .f64 0,.float .f64 0,.float .f64 0,.float .f64 0]) ?_ 5 _ (by first|rfl|(simp only [px_pos,px_ne];rfl)|simp [px_pos,px_ne]);(with_reducible repeat (first|refine blk_drewN ?_ _|refine blk_drew ?_|refine blk_alloc ?_ _));refine blk_put (cs:=#[.int .i64 0,.float .f64 0,.float .f64 0,.float .f64 0,.float .f64 0,.float .f64 0,.float .f64 0]) ?_ 4 _ (by first|rfl|(simp only [px_pos,px_ne];rfl)|simp [px_pos,px_ne]);(with_reducible repeat (first|refine blk_drewN ?_ _|refine blk_drew ?_|refine blk_alloc ?_ _));refine blk_put (cs:=#[.int .i64 0,.float .f64 0,.float .f64 0,.float .f64 0,.float .f64 0,.float .f64 0,.float .f64 0]) ?_ 3 _ (by first|rfl|(simp only [px_pos,px_ne];rfl)|simp [px_pos,px_ne]);(with_reducible repeat (first|refine blk_drewN ?_ _|refine blk_drew ?_|refine blk_alloc ?_ _));refine blk_put (cs:=#[.int .i64 0,.float .f64 0,.float .f64 0,.float .f64 0,.float .f64 0,.float .f64 0,.float .f64 0]) ?_ 2 _ (by first|rfl|(simp only [px_pos,px_ne];rfl)|simp [px_pos,px_ne]);(with_reducible repeat (first|refine blk_drewN ?_ _|refine blk_drew ?_|refine blk_alloc ?_ _));refine blk_put (cs:=#[.int .i64 0,.float .f64 0,.float .f64 0,.float .f64 0,.float .f64 0,.float .f64 0,.float .f64 0]) ?_ 1 _ (by first|rfl|(simp only [px_pos,px_ne];rfl)|simp [px_pos,px_ne]);(with_reducible repeat (first|refine blk_drewN ?_ _|refine blk_drew ?_|refine blk_alloc ?_ _));refine blk_put (cs:=#[.int .i64 0,.float .f64 0,.float .f64 0,.float .f64 0,.float .f64 0,.float .f64 0,.float .f64 0]) ?_ 0 _ (by first|rfl|(simp only [px_pos,px_ne];rfl)|simp [px_pos,px_ne]);(with_reducible repeat (first|refine blk_drewN ?_ _|refine blk_drew ?_|refine blk_alloc ?_ _));exact BK169.out) Try.underlying26 rfl (by kernel_rfl)) rfl ?_
       exact ⟨by first|rfl|(rw [px_ne];rfl)|(simp [errW_none,errW_some] <;> rfl)|(simp [*,errW_none,errW_some] <;> rfl),by repeat (first|(with_reducible first|exact HB.out|apply below_alloc|apply pw_below_drewN|apply below_drew1|refine below_set ?_ GE167.out|refine below_set ?_ GE168.out|refine below_set ?_ GE169.out)|exact HB.out)⟩
      ·rw [if_neg c39] at H
       have c39b0 : decide ((wrap64 (4611686018427387904 - a1_0)) < a0_0) = false:=decide_eq_false c39
       clear c39
       have HC46:=Aside0.mk H
       clear H
       have hnb47:=NB168_167.out
       have hnc47:=NB167_168.out
       have hnb48:=NB168_169.out
       have hnc48:=NB169_168.out
       have hcz49_0 : wc.cell? ⟨gb168,0,none⟩ = some (.int .i64 a1_0):=(blk_cell BK168.out 0).trans rfl
       have hcz49_1 : wc.cell? ⟨gb168,1,none⟩ = some (.float .f64 a1_1):=(blk_cell BK168.out 1).trans rfl
       have hcz49_2 : wc.cell? ⟨gb168,2,none⟩ = some (.float .f64 a1_2):=(blk_cell BK168.out 2).trans rfl
       have hcz49_3 : wc.cell? ⟨gb168,3,none⟩ = some (.float .f64 a1_3):=(blk_cell BK168.out 3).trans rfl
       have hcz49_4 : wc.cell? ⟨gb168,4,none⟩ = some (.float .f64 a1_4):=(blk_cell BK168.out 4).trans rfl
       have hcz49_5 : wc.cell? ⟨gb168,5,none⟩ = some (.float .f64 a1_5):=(blk_cell BK168.out 5).trans rfl
       have hcz49_6 : wc.cell? ⟨gb168,6,none⟩ = some (.float .f64 a1_6):=(blk_cell BK168.out 6).trans rfl
       have hfz49_0:=blk_frozen BK168.out 0
       have hfz49_1:=blk_frozen BK168.out 1
       have hfz49_2:=blk_frozen BK168.out 2
       have hfz49_3:=blk_frozen BK168.out 3
       have hfz49_4:=blk_frozen BK168.out 4
       have hfz49_5:=blk_frozen BK168.out 5
       have hfz49_6:=blk_frozen BK168.out 6
       have hnb50:=NB167_169.out
       have hnc50:=NB169_167.out
       have hcz51_0 : wc.cell? ⟨gb167,0,none⟩ = some (.int .i64 a0_0):=(blk_cell BK167.out 0).trans rfl
       have hcz51_1 : wc.cell? ⟨gb167,1,none⟩ = some (.float .f64 a0_1):=(blk_cell BK167.out 1).trans rfl
       have hcz51_2 : wc.cell? ⟨gb167,2,none⟩ = some (.float .f64 a0_2):=(blk_cell BK167.out 2).trans rfl
       have hcz51_3 : wc.cell? ⟨gb167,3,none⟩ = some (.float .f64 a0_3):=(blk_cell BK167.out 3).trans rfl
       have hcz51_4 : wc.cell? ⟨gb167,4,none⟩ = some (.float .f64 a0_4):=(blk_cell BK167.out 4).trans rfl
       have hcz51_5 : wc.cell? ⟨gb167,5,none⟩ = some (.float .f64 a0_5):=(blk_cell BK167.out 5).trans rfl
       have hcz51_6 : wc.cell? ⟨gb167,6,none⟩ = some (.float .f64 a0_6):=(blk_cell BK167.out 6).trans rfl
       have hfz51_0:=blk_frozen BK167.out 0
       have hfz51_1:=blk_frozen BK167.out 1
       have hfz51_2:=blk_frozen BK167.out 2
       have hfz51_3:=blk_frozen BK167.out 3
       have hfz51_4:=blk_frozen BK167.out 4
       have hfz51_5:=blk_frozen BK167.out 5
       have hfz51_6:=blk_frozen BK167.out 6
       go_upto_if 50 with (first|((with_reducible refine gate_dst (N:=6) rfl ?_);refine box_event ?hg (N:=6) ?hd (cs:=#[.int .i64 0,.float .f64 0,.float .f64 0,.float .f64 0,.float .f64 0,.float .f64 0,.float .f64 0]) (t:=26) ?hr ?_;(case hd=>rfl);(case hg=>rfl);(case hr=>first|(go_simp;done)|(go_simp;rfl));intro gb172 hg w52 hbox hb;have n0_:=Aside0.mk (blk_below (g:=gb167) (o:=.cells #[.int .i64 a0_0,.float .f64 a0_1,.float .f64 a0_2,.float .f64 a0_3,.float .f64 a0_4,.float .f64 a0_5,.float .f64 a0_6] 26 (0,0)) (by (with_reducible repeat (first|refine blk_drewN ?_ _|refine blk_drew ?_|refine blk_alloc ?_ _));exact BK167.out) hb);have n1_:=Aside0.mk (blk_below (g:=gb168) (o:=.cells #[.int .i64 a1_0,.float .f64 a1_1,.float .f64 a1_2,.float .f64 a1_3,.float .f64 a1_4,.float .f64 a1_5,.float .f64 a1_6] 26 (0,0)) (by (with_reducible repeat (first|refine blk_drewN ?_ _|refine blk_drew ?_|refine blk_alloc ?_ _));exact BK168.out) hb);have n2_:=Aside0.mk (blk_below (g:=gb169) (o:=.cells #[.int .i64 0,.float .f64 0,.float .f64 0,.float .f64 0,.float .f64 0,.float .f64 0,.float .f64 0] 26 (0,0)) (by (with_reducible repeat (first|refine blk_drewN ?_ _|refine blk_drew ?_|refine blk_alloc ?_ _));exact BK169.out) hb);have n3_:=Aside0.mk (below_step (by repeat (first|(with_reducible first|exact HB.out|apply below_alloc|apply pw_below_drewN|apply below_drew1|refine below_set ?_ GE167.out|refine below_set ?_ GE168.out|refine below_set ?_ GE169.out)|exact HB.out)) hb);have n4_:=Aside0.mk (hbox);have n5_:=Aside0.mk ((by rw [hg];exact (below_size (by repeat (first|(with_reducible first|exact HB.out|apply below_alloc|apply pw_below_drewN|apply below_drew1|refine below_set ?_ GE167.out|refine below_set ?_ GE168.out|refine below_set ?_ GE169.out)|exact HB.out))) : w.heap.size ≤ gb172));have n6_:=Aside0.mk ((by rw [hg];exact (below_size (by repeat (first|(with_reducible first|exact HB.out|apply below_alloc|apply pw_below_drewN|apply below_drew1|refine below_set ?_ GE167.out|refine below_set ?_ GE168.out|refine below_set ?_ GE169.out)|exact HB.out))) : w.heap.size ≤ gb172));have n7_:=Aside0.mk ((by rw [hg];exact Nat.ne_of_lt (blk_lt (g:=gb167) (o:=.cells #[.int .i64 a0_0,.float .f64 a0_1,.float .f64 a0_2,.float .f64 a0_3,.float .f64 a0_4,.float .f64 a0_5,.float .f64 a0_6] 26 (0,0)) (by (with_reducible repeat (first|refine blk_drewN ?_ _|refine blk_drew ?_|refine blk_alloc ?_ _));exact BK167.out)) : gb167 ≠ gb172));have n8_:=Aside0.mk ((by rw [hg];exact Nat.ne_of_gt (blk_lt (g:=gb167) (o:=.cells #[.int .i64 a0_0,.float .f64 a0_1,.float .f64 a0_2,.float .f64 a0_3,.float .f64 a0_4,.float .f64 a0_5,.float .f64 a0_6] 26 (0,0)) (by (with_reducible repeat (first|refine blk_drewN ?_ _|refine blk_drew ?_|refine blk_alloc ?_ _));exact BK167.out)) : gb172 ≠ gb167));have n9_:=Aside0.mk ((by rw [hg];exact Nat.ne_of_lt (blk_lt (g:=gb168) (o:=.cells #[.int .i64 a1_0,.float .f64 a1_1,.float .f64 a1_2,.float .f64 a1_3,.float .f64 a1_4,.float .f64 a1_5,.float .f64 a1_6] 26 (0,0)) (by (with_reducible repeat (first|refine blk_drewN ?_ _|refine blk_drew ?_|refine blk_alloc ?_ _));exact BK168.out)) : gb168 ≠ gb172));have n10_:=Aside0.mk ((by rw [hg];exact Nat.ne_of_gt (blk_lt (g:=gb168) (o:=.cells #[.int .i64 a1_0,.float .f64 a1_1,.float .f64 a1_2,.float .f64 a1_3,.float .f64 a1_4,.float .f64 a1_5,.float .f64 a1_6] 26 (0,0)) (by (with_reducible repeat (first|refine blk_drewN ?_ _|refine blk_drew ?_|refine blk_alloc ?_ _));exact BK168.out)) : gb172 ≠ gb168));have n11_:=Aside0.mk ((by rw [hg];exact Nat.ne_of_lt (blk_lt (g:=gb169) (o:=.cells #[.int .i64 0,.float .f64 0,.float .f64 0,.float .f64 0,.float .f64 0,.float .f64 0,.float .f64 0] 26 (0,0)) (by (with_reducible repeat (first|refine blk_drewN ?_ _|refine blk_drew ?_|refine blk_alloc ?_ _));exact BK169.out)) : gb169 ≠ gb172));have n12_:=Aside0.mk ((by rw [hg];exact Nat.ne_of_gt (blk_lt (g:=gb169) (o:=.cells #[.int .i64 0,.float .f64 0,.float .f64 0,.float .f64 0,.float .f64 0,.float .f64 0,.float .f64 0] 26 (0,0)) (by (with_reducible repeat (first|refine blk_drewN ?_ _|refine blk_drew ?_|refine blk_alloc ?_ _));exact BK169.out)) : gb172 ≠ gb169));clear BK167;clear BK168;clear BK169;clear HB;have BK167:=n0_;have BK168:=n1_;have BK169:=n2_;have HB:=n3_;have BK172:=n4_;have GW172:=n5_;have GE172:=n6_;have NB167_172:=n7_;have NB172_167:=n8_;have NB168_172:=n9_;have NB172_168:=n10_;have NB169_172:=n11_;have NB172_169:=n12_;clear n0_ n1_ n2_ n3_ n4_ n5_ n6_ n7_ n8_ n9_ n10_ n11_ n12_;clear hb hbox hg;have hnb53:=NB172_167.out;have hnc53:=NB167_172.out;have hnb54:=NB172_168.out;have hnc54:=NB168_172.out;have hnb55:=NB172_169.out;have hnc55:=NB169_172.out;have hcz56_0 : w52.cell? ⟨gb172,0,none⟩ = some (.int .i64 0):=(blk_cell BK172.out 0).trans rfl;have hcz56_1 : w52.cell? ⟨gb172,1,none⟩ = some (.float .f64 0):=(blk_cell BK172.out 1).trans rfl;have hcz56_2 : w52.cell? ⟨gb172,2,none⟩ = some (.float .f64 0):=(blk_cell BK172.out 2).trans rfl;have hcz56_3 : w52.cell? ⟨gb172,3,none⟩ = some (.float .f64 0):=(blk_cell BK172.out 3).trans rfl;have hcz56_4 : w52.cell? ⟨gb172,4,none⟩ = some (.float .f64 0):=(blk_cell BK172.out 4).trans rfl;have hcz56_5 : w52.cell? ⟨gb172,5,none⟩ = some (.float .f64 0):=(blk_cell BK172.out 5).trans rfl;have hcz56_6 : w52.cell? ⟨gb172,6,none⟩ = some (.float .f64 0):=(blk_cell BK172.out 6).trans rfl;have hfz56_0:=blk_frozen BK172.out 0;have hfz56_1:=blk_frozen BK172.out 1;have hfz56_2:=blk_frozen BK172.out 2;have hfz56_3:=blk_frozen BK172.out 3;have hfz56_4:=blk_frozen BK172.out 4;have hfz56_5:=blk_frozen BK172.out 5;have hfz56_6:=blk_frozen BK172.out 6;have hcz57_0 : w52.cell? ⟨gb167,0,none⟩ = some (.int .i64 a0_0):=(blk_cell BK167.out 0).trans rfl;have hcz57_1 : w52.cell? ⟨gb167,1,none⟩ = some (.float .f64 a0_1):=(blk_cell BK167.out 1).trans rfl;have hcz57_2 : w52.cell? ⟨gb167,2,none⟩ = some (.float .f64 a0_2):=(blk_cell BK167.out 2).trans rfl;have hcz57_3 : w52.cell? ⟨gb167,3,none⟩ = some (.float .f64 a0_3):=(blk_cell BK167.out 3).trans rfl;have hcz57_4 : w52.cell? ⟨gb167,4,none⟩ = some (.float .f64 a0_4):=(blk_cell BK167.out 4).trans rfl;have hcz57_5 : w52.cell? ⟨gb167,5,none⟩ = some (.float .f64 a0_5):=(blk_cell BK167.out 5).trans rfl;have hcz57_6 : w52.cell? ⟨gb167,6,none⟩ = some (.float .f64 a0_6):=(blk_cell BK167.out 6).trans rfl;have hfz57_0:=blk_frozen BK167.out 0;have hfz57_1:=blk_frozen BK167.out 1;have hfz57_2:=blk_frozen BK167.out 2;have hfz57_3:=blk_frozen BK167.out 3;have hfz57_4:=blk_frozen BK167.out 4;have hfz57_5:=blk_frozen BK167.out 5;have hfz57_6:=blk_frozen BK167.out 6;have hcz58_0 : w52.cell? ⟨gb168,0,none⟩ = some (.int .i64 a1_0):=(blk_cell BK168.out 0).trans rfl;have hcz58_1 : w52.cell? ⟨gb168,1,none⟩ = some (.float .f64 a1_1):=(blk_cell BK168.out 1).trans rfl;have hcz58_2 : w52.cell? ⟨gb168,2,none⟩ = some (.float .f64 a1_2):=(blk_cell BK168.out 2).trans rfl;have hcz58_3 : w52.cell? ⟨gb168,3,none⟩ = some (.float .f64 a1_3):=(blk_cell BK168.out 3).trans rfl;have hcz58_4 : w52.cell? ⟨gb168,4,none⟩ = some (.float .f64 a1_4):=(blk_cell BK168.out 4).trans rfl;have hcz58_5 : w52.cell? ⟨gb168,5,none⟩ = some (.float .f64 a1_5):=(blk_cell BK168.out 5).trans rfl;have hcz58_6 : w52.cell? ⟨gb168,6,none⟩ = some (.float .f64 a1_6):=(blk_cell BK168.out 6).trans rfl;have hfz58_0:=blk_frozen BK168.out 0;have hfz58_1:=blk_frozen BK168.out 1;have hfz58_2:=blk_frozen BK168.out 2;have hfz58_3:=blk_frozen BK168.out 3;have hfz58_4:=blk_frozen BK168.out 4;have hfz58_5:=blk_frozen BK168.out 5;have hfz58_6:=blk_frozen BK168.out 6))
       (try simp only [Act.put,List.setIfInBounds_toArray,List.set_cons_zero,List.set_cons_succ])
       go_cut [] (fun wc=>∃ (kq : Nat) (x173001_45 : Nat),Aside0 (quarryref31_Join.j1 kq a0_0 a0_1 a0_2 a0_3 a0_4 a0_5 a0_6 a1_0 a1_1 a1_2 a1_3 a1_4 a1_5 a1_6 (wrap64 (a0_0 + a1_0)) x173001_45 a0_2 a0_3 a0_4 a0_5 a0_6 = some (r1,r2,r3,r4,r5,r6,r7,r8)) ∧ Aside0 (kq ≤ kj2) ∧ Aside0 (wc.heap[gb167]? = some (.cells #[.int .i64 a0_0,.float .f64 a0_1,.float .f64 a0_2,.float .f64 a0_3,.float .f64 a0_4,.float .f64 a0_5,.float .f64 a0_6] 26 (0,0))) ∧ Aside0 (wc.heap[gb168]? = some (.cells #[.int .i64 a1_0,.float .f64 a1_1,.float .f64 a1_2,.float .f64 a1_3,.float .f64 a1_4,.float .f64 a1_5,.float .f64 a1_6] 26 (0,0))) ∧ Aside0 (wc.heap[gb169]? = some (.cells #[.int .i64 0,.float .f64 0,.float .f64 0,.float .f64 0,.float .f64 0,.float .f64 0,.float .f64 0] 26 (0,0))) ∧ Aside0 (wc.heap[gb172]? = some (.cells #[.int .i64 (wrap64 (a0_0 + a1_0)),.float .f64 x173001_45,.float .f64 a0_2,.float .f64 a0_3,.float .f64 a0_4,.float .f64 a0_5,.float .f64 a0_6] 26 (0,0))) ∧ Aside0 (Below w.heap.size w wc))
       case first =>
        have H:=HC46.out
        clear HC46
        by_cases c59 : (FloatKind.f64.format.order a1_1 a0_1 == some .lt) = true
        ·rw [if_pos c59] at H
         have c59b0 : (FloatKind.f64.format.order a1_1 a0_1 == some .lt) = true:=c59
         (try (have c59b1 : decide (FloatKind.f64.format.order a1_1 a0_1 = some .lt) = true:=by simpa using c59))
         (try (have c59b2 : (FloatKind.f64.format.order a1_1 a0_1 == some .lt) = true:=by simpa using c59))
         clear c59
         (first|rw [c59b0]|(simp only [i64_w,i32_w];rw [c59b0])|skip)
         have H':=Aside0.mk H
         clear H
         have hnb60:=NB168_167.out
         have hnc60:=NB167_168.out
         have hnb61:=NB168_169.out
         have hnc61:=NB169_168.out
         have hnb62:=NB168_172.out
         have hnc62:=NB172_168.out
         have hcz63_0 : w52.cell? ⟨gb168,0,none⟩ = some (.int .i64 a1_0):=(blk_cell BK168.out 0).trans rfl
         have hcz63_1 : w52.cell? ⟨gb168,1,none⟩ = some (.float .f64 a1_1):=(blk_cell BK168.out 1).trans rfl
         have hcz63_2 : w52.cell? ⟨gb168,2,none⟩ = some (.float .f64 a1_2):=(blk_cell BK168.out 2).trans rfl
         have hcz63_3 : w52.cell? ⟨gb168,3,none⟩ = some (.float .f64 a1_3):=(blk_cell BK168.out 3).trans rfl
         have hcz63_4 : w52.cell? ⟨gb168,4,none⟩ = some (.float .f64 a1_4):=(blk_cell BK168.out 4).trans rfl
         have hcz63_5 : w52.cell? ⟨gb168,5,none⟩ = some (.float .f64 a1_5):=(blk_cell BK168.out 5).trans rfl
         have hcz63_6 : w52.cell? ⟨gb168,6,none⟩ = some (.float .f64 a1_6):=(blk_cell BK168.out 6).trans rfl
         have hfz63_0:=blk_frozen BK168.out 0
         have hfz63_1:=blk_frozen BK168.out 1
         have hfz63_2:=blk_frozen BK168.out 2
         have hfz63_3:=blk_frozen BK168.out 3
         have hfz63_4:=blk_frozen BK168.out 4
         have hfz63_5:=blk_frozen BK168.out 5
         have hfz63_6:=blk_frozen BK168.out 6
         have hnb64:=NB172_167.out
         have hnc64:=NB167_172.out
         have hnb65:=NB172_169.out
         have hnc65:=NB169_172.out
         have hcz66_0 : w52.cell? ⟨gb172,0,none⟩ = some (.int .i64 0):=(blk_cell BK172.out 0).trans rfl
         have hcz66_1 : w52.cell? ⟨gb172,1,none⟩ = some (.float .f64 0):=(blk_cell BK172.out 1).trans rfl
         have hcz66_2 : w52.cell? ⟨gb172,2,none⟩ = some (.float .f64 0):=(blk_cell BK172.out 2).trans rfl
         have hcz66_3 : w52.cell? ⟨gb172,3,none⟩ = some (.float .f64 0):=(blk_cell BK172.out 3).trans rfl
         have hcz66_4 : w52.cell? ⟨gb172,4,none⟩ = some (.float .f64 0):=(blk_cell BK172.out 4).trans rfl
         have hcz66_5 : w52.cell? ⟨gb172,5,none⟩ = some (.float .f64 0):=(blk_cell BK172.out 5).trans rfl
         have hcz66_6 : w52.cell? ⟨gb172,6,none⟩ = some (.float .f64 0):=(blk_cell BK172.out 6).trans rfl
         have hfz66_0:=blk_frozen BK172.out 0
         have hfz66_1:=blk_frozen BK172.out 1
         have hfz66_2:=blk_frozen BK172.out 2
         have hfz66_3:=blk_frozen BK172.out 3
         have hfz66_4:=blk_frozen BK172.out 4
         have hfz66_5:=blk_frozen BK172.out 5
         have hfz66_6:=blk_frozen BK172.out 6
         go_wp2
         go_meet
         case rel=>exact ⟨_,(a1_1),(by first|exact H'|(subst_vars;exact H')),⟨by have:=HJ2.out;first|omega|exact Nat.le_refl _⟩,⟨by (with_reducible repeat (first|refine blk_drewN ?_ _|refine blk_drew ?_|refine blk_alloc ?_ _));refine blk_far ?_ NB167_172.out _;(with_reducible repeat (first|refine blk_drewN ?_ _|refine blk_drew ?_|refine blk_alloc ?_ _));refine blk_far ?_ NB167_172.out _;(with_reducible repeat (first|refine blk_drewN ?_ _|refine blk_drew ?_|refine blk_alloc ?_ _));refine blk_far ?_ NB167_172.out _;(with_reducible repeat (first|refine blk_drewN ?_ _|refine blk_drew ?_|refine blk_alloc ?_ _));refine blk_far ?_ NB167_172.out _;(with_reducible repeat (first|refine blk_drewN ?_ _|refine blk_drew ?_|refine blk_alloc ?_ _));refine blk_far ?_ NB167_172.out _;(with_reducible repeat (first|refine blk_drewN ?_ _|refine blk_drew ?_|refine blk_alloc ?_ _));refine blk_far ?_ NB167_172.out _;(with_reducible repeat (first|refine blk_drewN ?_ _|refine blk_drew ?_|refine blk_alloc ?_ _));refine blk_far ?_ NB167_172.out _;(with_reducible repeat (first|refine blk_drewN ?_ _|refine blk_drew ?_|refine blk_alloc ?_ _));refine blk_far ?_ NB167_172.out _;(with_reducible repeat (first|refine blk_drewN ?_ _|refine blk_drew ?_|refine blk_alloc ?_ _));refine blk_far ?_ NB167_172.out _;(with_reducible repeat (first|refine blk_drewN ?_ _|refine blk_drew ?_|refine blk_alloc ?_ _));exact BK167.out⟩,⟨by (with_reducible repeat (first|refine blk_drewN ?_ _|refine blk_drew ?_|refine blk_alloc ?_ _));refine blk_far ?_ NB168_172.out _;(with_reducible repeat (first|refine blk_drewN ?_ _|refine blk_drew ?_|refine blk_alloc ?_ _));refine blk_far ?_ NB168_172.out _;(with_reducible repeat (first|refine blk_drewN ?_ _|refine blk_drew ?_|refine blk_alloc ?_ _));refine blk_far ?_ NB168_172.out _;(with_reducible repeat (first|refine blk_drewN ?_ _|refine blk_drew ?_|refine blk_alloc ?_ _));refine blk_far ?_ NB168_172.out _;(with_reducible repeat (first|refine blk_drewN ?_ _|refine blk_drew ?_|refine blk_alloc ?_ _));refine blk_far ?_ NB168_172.out _;(with_reducible repeat (first|refine blk_drewN ?_ _|refine blk_drew ?_|refine blk_alloc ?_ _));refine blk_far ?_ NB168_172.out _;(with_reducible repeat (first|refine blk_drewN ?_ _|refine blk_drew ?_|refine blk_alloc ?_ _));refine blk_far ?_ NB168_172.out _;(with_reducible repeat (first|refine blk_drewN ?_ _|refine blk_drew ?_|refine blk_alloc ?_ _));refine blk_far ?_ NB168_172.out _;(with_reducible repeat (first|refine blk_drewN ?_ _|refine blk_drew ?_|refine blk_alloc ?_ _));refine blk_far ?_ NB168_172.out _;(with_reducible repeat (first|refine blk_drewN ?_ _|refine blk_drew ?_|refine blk_alloc ?_ _));exact BK168.out⟩,⟨by (with_reducible repeat (first|refine blk_drewN ?_ _|refine blk_drew ?_|refine blk_alloc ?_ _));refine blk_far ?_ NB169_172.out _;(with_reducible repeat (first|refine blk_drewN ?_ _|refine blk_drew ?_|refine blk_alloc ?_ _));refine blk_far ?_ NB169_172.out _;(with_reducible repeat (first|refine blk_drewN ?_ _|refine blk_drew ?_|refine blk_alloc ?_ _));refine blk_far ?_ NB169_172.out _;(with_reducible repeat (first|refine blk_drewN ?_ _|refine blk_drew ?_|refine blk_alloc ?_ _));refine blk_far ?_ NB169_172.out _;(with_reducible repeat (first|refine blk_drewN ?_ _|refine blk_drew ?_|refine blk_alloc ?_ _));refine blk_far ?_ NB169_172.out _;(with_reducible repeat (first|refine blk_drewN ?_ _|refine blk_drew ?_|refine blk_alloc ?_ _));refine blk_far ?_ NB169_172.out _;(with_reducible repeat (first|refine blk_drewN ?_ _|refine blk_drew ?_|refine blk_alloc ?_ _));refine blk_far ?_ NB169_172.out _;(with_reducible repeat (first|refine blk_drewN ?_ _|refine blk_drew ?_|refine blk_alloc ?_ _));refine blk_far ?_ NB169_172.out _;(with_reducible repeat (first|refine blk_drewN ?_ _|refine blk_drew ?_|refine blk_alloc ?_ _));refine blk_far ?_ NB169_172.out _;(with_reducible repeat (first|refine blk_drewN ?_ _|refine blk_drew ?_|refine blk_alloc ?_ _));exact BK169.out⟩,⟨by (with_reducible repeat (first|refine blk_drewN ?_ _|refine blk_drew ?_|refine blk_alloc ?_ _));refine blk_put (cs:=#[.int .i64 (wrap64 (a0_0 + a1_0)),.float .f64 a0_1,.float .f64 a0_2,.float .f64 a0_3,.float .f64 a0_4,.float .f64 a0_5,.float .f64 a0_6]) ?_ 1 _ (by first|rfl|(simp only [px_pos,px_ne];rfl)|simp [px_pos,px_ne]);(with_reducible repeat (first|refine blk_drewN ?_ _|refine blk_drew ?_|refine blk_alloc ?_ _));refine blk_put (cs:=#[.int .i64 a0_0,.float .f64 a0_1,.float .f64 a0_2,.float .f64 a0_3,.float .f64 a0_4,.float .f64 a0_5,.float .f64 a0_6]) ?_ 0 _ (by first|rfl|(simp only [px_pos,px_ne];rfl)|simp [px_pos,px_ne]);(with_reducible repeat (first|refine blk_drewN ?_ _|refine blk_drew ?_|refine blk_alloc ?_ _));refine blk_put (cs:=#[.int .i64 a0_0,.float .f64 a0_1,.float .f64 a0_2,.float .f64 a0_3,.float .f64 a0_4,.float .f64 a0_5,.float .f64 0]) ?_ 6 _ (by first|rfl|(simp only [px_pos,px_ne];rfl)|simp [px_pos,px_ne]);(with_reducible repeat (first|refine blk_drewN ?_ _|refine blk_drew ?_|refine blk_alloc ?_ _));refine blk_put (cs:=#[.int .i64 a0_0,.float .f64 a0_1,.float .f64 a0_2,.float .f64 a0_3,.float .f64 a0_4,.float .f64 0,.float .f64 0]) ?_ 5 _ (by first|rfl|(simp only [px_pos,px_ne];rfl)|simp [px_pos,px_ne]);(with_reducible repeat (first|refine blk_drewN ?_ _|refine blk_drew ?_|refine blk_alloc ?_ _));refine blk_put (cs:=#[.int .i64 a0_0,.float .f64 a0_1,.float .f64 a0_2,.float .f64 a0_3,.float .f64 0,.float .f64 0,.float .f64 0]) ?_ 4 _ (by first|rfl|(simp only [px_pos,px_ne];rfl)|simp [px_pos,px_ne]);(with_reducible repeat (first|refine blk_drewN ?_ _|refine blk_drew ?_|refine blk_alloc ?_ _));refine blk_put (cs:=#[.int .i64 a0_0,.float .f64 a0_1,.float .f64 a0_2,.float .f64 0,.float .f64 0,.float .f64 0,.float .f64 0]) ?_ 3 _ (by first|rfl|(simp only [px_pos,px_ne];rfl)|simp [px_pos,px_ne]);(with_reducible repeat (first|refine blk_drewN ?_ _|refine blk_drew ?_|refine blk_alloc ?_ _));refine blk_put (cs:=#[.int .i64 a0_0,.float .f64 a0_1,.float .f64 0,.float .f64 0,.float .f64 0,.float .f64 0,.float .f64 0]) ?_ 2 _ (by first|rfl|(simp only [px_pos,px_ne];rfl)|simp [px_pos,px_ne]);(with_reducible repeat (first|refine blk_drewN ?_ _|refine blk_drew ?_|refine blk_alloc ?_ _));refine blk_put (cs:=#[.int .i64 a0_0,.float .f64 0,.float .f64 0,.float .f64 0,.float .f64 0,.float .f64 0,.float .f64 0]) ?_ 1 _ (by first|rfl|(simp only [px_pos,px_ne];rfl)|simp [px_pos,px_ne]);(with_reducible repeat (first|refine blk_drewN ?_ _|refine blk_drew ?_|refine blk_alloc ?_ _));refine blk_put (cs:=#[.int .i64 0,.float .f64 0,.float .f64 0,.float .f64 0,.float .f64 0,.float .f64 0,.float .f64 0]) ?_ 0 _ (by first|rfl|(simp only [px_pos,px_ne];rfl)|simp [px_pos,px_ne]);(with_reducible repeat (first|refine blk_drewN ?_ _|refine blk_drew ?_|refine blk_alloc ?_ _));exact BK172.out⟩,⟨by repeat (first|(with_reducible first|exact HB.out|apply below_alloc|apply pw_below_drewN|apply below_drew1|refine below_set ?_ GE167.out|refine below_set ?_ GE168.out|refine below_set ?_ GE169.out|refine below_set ?_ GE172.out)|exact HB.out)⟩⟩
        ·rw [if_neg c59] at H
         have c59b0 : (FloatKind.f64.format.order a1_1 a0_1 == some .lt) = false:=by simpa using c59
         (try (have c59b1 : decide (FloatKind.f64.format.order a1_1 a0_1 = some .lt) = false:=by simpa using c59))
         (try (have c59b2 : (FloatKind.f64.format.order a1_1 a0_1 == some .lt) = false:=by simpa using c59))
         (try (have c59b3 : ¬ (FloatKind.f64.format.order a1_1 a0_1 = some .lt):=by simpa using c59))
         clear c59
         (first|rw [c59b0]|(simp only [i64_w,i32_w];rw [c59b0])|skip)
         have H':=Aside0.mk H
         clear H
         go_wp2
         go_meet
         case rel=>exact ⟨_,(a0_1),(by first|exact H'|(subst_vars;exact H')),⟨by have:=HJ2.out;first|omega|exact Nat.le_refl _⟩,⟨by (with_reducible repeat (first|refine blk_drewN ?_ _|refine blk_drew ?_|refine blk_alloc ?_ _));refine blk_far ?_ NB167_172.out _;(with_reducible repeat (first|refine blk_drewN ?_ _|refine blk_drew ?_|refine blk_alloc ?_ _));refine blk_far ?_ NB167_172.out _;(with_reducible repeat (first|refine blk_drewN ?_ _|refine blk_drew ?_|refine blk_alloc ?_ _));refine blk_far ?_ NB167_172.out _;(with_reducible repeat (first|refine blk_drewN ?_ _|refine blk_drew ?_|refine blk_alloc ?_ _));refine blk_far ?_ NB167_172.out _;(with_reducible repeat (first|refine blk_drewN ?_ _|refine blk_drew ?_|refine blk_alloc ?_ _));refine blk_far ?_ NB167_172.out _;(with_reducible repeat (first|refine blk_drewN ?_ _|refine blk_drew ?_|refine blk_alloc ?_ _));refine blk_far ?_ NB167_172.out _;(with_reducible repeat (first|refine blk_drewN ?_ _|refine blk_drew ?_|refine blk_alloc ?_ _));refine blk_far ?_ NB167_172.out _;(with_reducible repeat (first|refine blk_drewN ?_ _|refine blk_drew ?_|refine blk_alloc ?_ _));refine blk_far ?_ NB167_172.out _;(with_reducible repeat (first|refine blk_drewN ?_ _|refine blk_drew ?_|refine blk_alloc ?_ _));exact BK167.out⟩,⟨by (with_reducible repeat (first|refine blk_drewN ?_ _|refine blk_drew ?_|refine blk_alloc ?_ _));refine blk_far ?_ NB168_172.out _;(with_reducible repeat (first|refine blk_drewN ?_ _|refine blk_drew ?_|refine blk_alloc ?_ _));refine blk_far ?_ NB168_172.out _;(with_reducible repeat (first|refine blk_drewN ?_ _|refine blk_drew ?_|refine blk_alloc ?_ _));refine blk_far ?_ NB168_172.out _;(with_reducible repeat (first|refine blk_drewN ?_ _|refine blk_drew ?_|refine blk_alloc ?_ _));refine blk_far ?_ NB168_172.out _;(with_reducible repeat (first|refine blk_drewN ?_ _|refine blk_drew ?_|refine blk_alloc ?_ _));refine blk_far ?_ NB168_172.out _;(with_reducible repeat (first|refine blk_drewN ?_ _|refine blk_drew ?_|refine blk_alloc ?_ _));refine blk_far ?_ NB168_172.out _;(with_reducible repeat (first|refine blk_drewN ?_ _|refine blk_drew ?_|refine blk_alloc ?_ _));refine blk_far ?_ NB168_172.out _;(with_reducible repeat (first|refine blk_drewN ?_ _|refine blk_drew ?_|refine blk_alloc ?_ _));refine blk_far ?_ NB168_172.out _;(with_reducible repeat (first|refine blk_drewN ?_ _|refine blk_drew ?_|refine blk_alloc ?_ _));exact BK168.out⟩,⟨by (with_reducible repeat (first|refine blk_drewN ?_ _|refine blk_drew ?_|refine blk_alloc ?_ _));refine blk_far ?_ NB169_172.out _;(with_reducible repeat (first|refine blk_drewN ?_ _|refine blk_drew ?_|refine blk_alloc ?_ _));refine blk_far ?_ NB169_172.out _;(with_reducible repeat (first|refine blk_drewN ?_ _|refine blk_drew ?_|refine blk_alloc ?_ _));refine blk_far ?_ NB169_172.out _;(with_reducible repeat (first|refine blk_drewN ?_ _|refine blk_drew ?_|refine blk_alloc ?_ _));refine blk_far ?_ NB169_172.out _;(with_reducible repeat (first|refine blk_drewN ?_ _|refine blk_drew ?_|refine blk_alloc ?_ _));refine blk_far ?_ NB169_172.out _;(with_reducible repeat (first|refine blk_drewN ?_ _|refine blk_drew ?_|refine blk_alloc ?_ _));refine blk_far ?_ NB169_172.out _;(with_reducible repeat (first|refine blk_drewN ?_ _|refine blk_drew ?_|refine blk_alloc ?_ _));refine blk_far ?_ NB169_172.out _;(with_reducible repeat (first|refine blk_drewN ?_ _|refine blk_drew ?_|refine blk_alloc ?_ _));refine blk_far ?_ NB169_172.out _;(with_reducible repeat (first|refine blk_drewN ?_ _|refine blk_drew ?_|refine blk_alloc ?_ _));exact BK169.out⟩,⟨by (with_reducible repeat (first|refine blk_drewN ?_ _|refine blk_drew ?_|refine blk_alloc ?_ _));refine blk_put (cs:=#[.int .i64 a0_0,.float .f64 a0_1,.float .f64 a0_2,.float .f64 a0_3,.float .f64 a0_4,.float .f64 a0_5,.float .f64 a0_6]) ?_ 0 _ (by first|rfl|(simp only [px_pos,px_ne];rfl)|simp [px_pos,px_ne]);(with_reducible repeat (first|refine blk_drewN ?_ _|refine blk_drew ?_|refine blk_alloc ?_ _));refine blk_put (cs:=#[.int .i64 a0_0,.float .f64 a0_1,.float .f64 a0_2,.float .f64 a0_3,.float .f64 a0_4,.float .f64 a0_5,.float .f64 0]) ?_ 6 _ (by first|rfl|(simp only [px_pos,px_ne];rfl)|simp [px_pos,px_ne]);(with_reducible repeat (first|refine blk_drewN ?_ _|refine blk_drew ?_|refine blk_alloc ?_ _));refine blk_put (cs:=#[.int .i64 a0_0,.float .f64 a0_1,.float .f64 a0_2,.float .f64 a0_3,.float .f64 a0_4,.float .f64 0,.float .f64 0]) ?_ 5 _ (by first|rfl|(simp only [px_pos,px_ne];rfl)|simp [px_pos,px_ne]);(with_reducible repeat (first|refine blk_drewN ?_ _|refine blk_drew ?_|refine blk_alloc ?_ _));refine blk_put (cs:=#[.int .i64 a0_0,.float .f64 a0_1,.float .f64 a0_2,.float .f64 a0_3,.float .f64 0,.float .f64 0,.float .f64 0]) ?_ 4 _ (by first|rfl|(simp only [px_pos,px_ne];rfl)|simp [px_pos,px_ne]);(with_reducible repeat (first|refine blk_drewN ?_ _|refine blk_drew ?_|refine blk_alloc ?_ _));refine blk_put (cs:=#[.int .i64 a0_0,.float .f64 a0_1,.float .f64 a0_2,.float .f64 0,.float .f64 0,.float .f64 0,.float .f64 0]) ?_ 3 _ (by first|rfl|(simp only [px_pos,px_ne];rfl)|simp [px_pos,px_ne]);(with_reducible repeat (first|refine blk_drewN ?_ _|refine blk_drew ?_|refine blk_alloc ?_ _));refine blk_put (cs:=#[.int .i64 a0_0,.float .f64 a0_1,.float .f64 0,.float .f64 0,.float .f64 0,.float .f64 0,.float .f64 0]) ?_ 2 _ (by first|rfl|(simp only [px_pos,px_ne];rfl)|simp [px_pos,px_ne]);(with_reducible repeat (first|refine blk_drewN ?_ _|refine blk_drew ?_|refine blk_alloc ?_ _));refine blk_put (cs:=#[.int .i64 a0_0,.float .f64 0,.float .f64 0,.float .f64 0,.float .f64 0,.float .f64 0,.float .f64 0]) ?_ 1 _ (by first|rfl|(simp only [px_pos,px_ne];rfl)|simp [px_pos,px_ne]);(with_reducible repeat (first|refine blk_drewN ?_ _|refine blk_drew ?_|refine blk_alloc ?_ _));refine blk_put (cs:=#[.int .i64 0,.float .f64 0,.float .f64 0,.float .f64 0,.float .f64 0,.float .f64 0,.float .f64 0]) ?_ 0 _ (by first|rfl|(simp only [px_pos,px_ne];rfl)|simp [px_pos,px_ne]);(with_reducible repeat (first|refine blk_drewN ?_ _|refine blk_drew ?_|refine blk_alloc ?_ _));exact BK172.out⟩,⟨by repeat (first|(with_reducible first|exact HB.out|apply below_alloc|apply pw_below_drewN|apply below_drew1|refine below_set ?_ GE167.out|refine below_set ?_ GE168.out|refine below_set ?_ GE169.out|refine below_set ?_ GE172.out)|exact HB.out)⟩⟩
       case rest =>
        clear HC46
        try clear c1
        try clear c2
        try clear p2
        try clear c3
        try clear c4
        try clear c5
        try clear c6
        try clear p6
        try clear c8
        try clear c10
        try clear c11
        try clear c14
        try clear c17
        try clear c18
        try clear c21
        try clear c22
        try clear c23
        try clear c25
        try clear c25b0
        try clear c25b1
        try clear c26
        try clear c27
        try clear c29
        try clear c32
        try clear c32b0
        try clear c32b1
        try clear c33
        try clear c34
        try clear c36
        try clear c39
        try clear c39b0
        try clear c40
        try clear c41
        try clear c43
        try clear c46
        try clear c47
        try clear c48
        try clear c50
        try clear c53
        try clear c54
        try clear c55
        try clear c59
        try clear c59b0
        try clear c59b1
        try clear c59b2
        try clear c60
        try clear c61
        try clear c62
        try clear c64
        try clear p64
        try clear c65
        try clear hcz12_0
        try clear hcz12_1
        try clear hcz12_2
        try clear hcz12_3
        try clear hcz12_4
        try clear hcz12_5
        try clear hcz12_6
        try clear hcz15_0
        try clear hcz15_1
        try clear hcz15_2
        try clear hcz15_3
        try clear hcz15_4
        try clear hcz15_5
        try clear hcz15_6
        try clear hcz19_0
        try clear hcz19_1
        try clear hcz19_2
        try clear hcz19_3
        try clear hcz19_4
        try clear hcz19_5
        try clear hcz19_6
        try clear hcz24_0
        try clear hcz24_1
        try clear hcz24_2
        try clear hcz24_3
        try clear hcz24_4
        try clear hcz24_5
        try clear hcz24_6
        try clear hcz28_0
        try clear hcz28_1
        try clear hcz28_2
        try clear hcz28_3
        try clear hcz28_4
        try clear hcz28_5
        try clear hcz28_6
        try clear hcz30_0
        try clear hcz30_1
        try clear hcz30_2
        try clear hcz30_3
        try clear hcz30_4
        try clear hcz30_5
        try clear hcz30_6
        try clear hcz31_0
        try clear hcz31_1
        try clear hcz31_2
        try clear hcz31_3
        try clear hcz31_4
        try clear hcz31_5
        try clear hcz31_6
        try clear hcz35_0
        try clear hcz35_1
        try clear hcz35_2
        try clear hcz35_3
        try clear hcz35_4
        try clear hcz35_5
        try clear hcz35_6
        try clear hcz37_0
        try clear hcz37_1
        try clear hcz37_2
        try clear hcz37_3
        try clear hcz37_4
        try clear hcz37_5
        try clear hcz37_6
        try clear hcz38_0
        try clear hcz38_1
        try clear hcz38_2
        try clear hcz38_3
        try clear hcz38_4
        try clear hcz38_5
        try clear hcz38_6
        try clear hcz42_0
        try clear hcz42_1
        try clear hcz42_2
        try clear hcz42_3
        try clear hcz42_4
        try clear hcz42_5
        try clear hcz42_6
        try clear hcz44_0
        try clear hcz44_1
        try clear hcz44_2
        try clear hcz44_3
        try clear hcz44_4
        try clear hcz44_5
        try clear hcz44_6
        try clear hcz45_0
        try clear hcz45_1
        try clear hcz45_2
        try clear hcz45_3
        try clear hcz45_4
        try clear hcz45_5
        try clear hcz45_6
        try clear hcz49_0
        try clear hcz49_1
        try clear hcz49_2
        try clear hcz49_3
        try clear hcz49_4
        try clear hcz49_5
        try clear hcz49_6
        try clear hcz51_0
        try clear hcz51_1
        try clear hcz51_2
        try clear hcz51_3
        try clear hcz51_4
        try clear hcz51_5
        try clear hcz51_6
        try clear hcz56_0
        try clear hcz56_1
        try clear hcz56_2
        try clear hcz56_3
        try clear hcz56_4
        try clear hcz56_5
        try clear hcz56_6
        try clear hcz57_0
        try clear hcz57_1
        try clear hcz57_2
        try clear hcz57_3
        try clear hcz57_4
        try clear hcz57_5
        try clear hcz57_6
        try clear hcz58_0
        try clear hcz58_1
        try clear hcz58_2
        try clear hcz58_3
        try clear hcz58_4
        try clear hcz58_5
        try clear hcz58_6
        try clear hcz63_0
        try clear hcz63_1
        try clear hcz63_2
        try clear hcz63_3
        try clear hcz63_4
        try clear hcz63_5
        try clear hcz63_6
        try clear hcz66_0
        try clear hcz66_1
        try clear hcz66_2
        try clear hcz66_3
        try clear hcz66_4
        try clear hcz66_5
        try clear hcz66_6
        try clear hfz12_0
        try clear hfz12_1
        try clear hfz12_2
        try clear hfz12_3
        try clear hfz12_4
        try clear hfz12_5
        try clear hfz12_6
        try clear hfz15_0
        try clear hfz15_1
        try clear hfz15_2
        try clear hfz15_3
        try clear hfz15_4
        try clear hfz15_5
        try clear hfz15_6
        try clear hfz19_0
        try clear hfz19_1
        try clear hfz19_2
        try clear hfz19_3
        try clear hfz19_4
        try clear hfz19_5
        try clear hfz19_6
        try clear hfz24_0
        try clear hfz24_1
        try clear hfz24_2
        try clear hfz24_3
        try clear hfz24_4
        try clear hfz24_5
        try clear hfz24_6
        try clear hfz28_0
        try clear hfz28_1
        try clear hfz28_2
        try clear hfz28_3
        try clear hfz28_4
        try clear hfz28_5
        try clear hfz28_6
        try clear hfz30_0
        try clear hfz30_1
        try clear hfz30_2
        try clear hfz30_3
        try clear hfz30_4
        try clear hfz30_5
        try clear hfz30_6
        try clear hfz31_0
        try clear hfz31_1
        try clear hfz31_2
        try clear hfz31_3
        try clear hfz31_4
        try clear hfz31_5
        try clear hfz31_6
        try clear hfz35_0
        try clear hfz35_1
        try clear hfz35_2
        try clear hfz35_3
        try clear hfz35_4
        try clear hfz35_5
        try clear hfz35_6
        try clear hfz37_0
        try clear hfz37_1
        try clear hfz37_2
        try clear hfz37_3
        try clear hfz37_4
        try clear hfz37_5
        try clear hfz37_6
        try clear hfz38_0
        try clear hfz38_1
        try clear hfz38_2
        try clear hfz38_3
        try clear hfz38_4
        try clear hfz38_5
        try clear hfz38_6
        try clear hfz42_0
        try clear hfz42_1
        try clear hfz42_2
        try clear hfz42_3
        try clear hfz42_4
        try clear hfz42_5
        try clear hfz42_6
        try clear hfz44_0
        try clear hfz44_1
        try clear hfz44_2
        try clear hfz44_3
        try clear hfz44_4
        try clear hfz44_5
        try clear hfz44_6
        try clear hfz45_0
        try clear hfz45_1
        try clear hfz45_2
        try clear hfz45_3
        try clear hfz45_4
        try clear hfz45_5
        try clear hfz45_6
        try clear hfz49_0
        try clear hfz49_1
        try clear hfz49_2
        try clear hfz49_3
        try clear hfz49_4
        try clear hfz49_5
        try clear hfz49_6
        try clear hfz51_0
        try clear hfz51_1
        try clear hfz51_2
        try clear hfz51_3
        try clear hfz51_4
        try clear hfz51_5
        try clear hfz51_6
        try clear hfz56_0
        try clear hfz56_1
        try clear hfz56_2
        try clear hfz56_3
        try clear hfz56_4
        try clear hfz56_5
        try clear hfz56_6
        try clear hfz57_0
        try clear hfz57_1
        try clear hfz57_2
        try clear hfz57_3
        try clear hfz57_4
        try clear hfz57_5
        try clear hfz57_6
        try clear hfz58_0
        try clear hfz58_1
        try clear hfz58_2
        try clear hfz58_3
        try clear hfz58_4
        try clear hfz58_5
        try clear hfz58_6
        try clear hfz63_0
        try clear hfz63_1
        try clear hfz63_2
        try clear hfz63_3
        try clear hfz63_4
        try clear hfz63_5
        try clear hfz63_6
        try clear hfz66_0
        try clear hfz66_1
        try clear hfz66_2
        try clear hfz66_3
        try clear hfz66_4
        try clear hfz66_5
        try clear hfz66_6
        try clear p2
        obtain ⟨kq,x173001_45,HA,HJ45,BK167,BK168,BK169,BK172,HB⟩:=hcut
        cases kq with
        | zero=>exact absurd HA.out (by simp [quarryref31_Join.j1])
        | succ kj45 =>
         have H:=HA.out
         clear HA
         simp only [quarryref31_Join.j1] at H
         by_cases c67 : (FloatKind.f64.format.order a1_2 a0_2 == some .gt) = true
         ·rw [if_pos c67] at H
          have c67b0 : (FloatKind.f64.format.order a1_2 a0_2 == some .gt) = true:=c67
          (try (have c67b1 : decide (FloatKind.f64.format.order a1_2 a0_2 = some .gt) = true:=by simpa using c67))
          (try (have c67b2 : (FloatKind.f64.format.order a1_2 a0_2 == some .gt) = true:=by simpa using c67))
          clear c67
          by_cases c68 : fok .add a0_3 a1_3 = true
          ·rw [if_pos c68] at H
           have c68b0:=eq_true c68
           have c68b1 : decide (fok .add a0_3 a1_3 = true) = true:=decide_eq_true c68
           clear c68
           by_cases c69 : fok .add a0_4 a1_4 = true
           ·rw [if_pos c69] at H
            have c69b0:=eq_true c69
            have c69b1 : decide (fok .add a0_4 a1_4 = true) = true:=decide_eq_true c69
            clear c69
            replace H:=Option.bind_eq_some_iff.mp H
            obtain ⟨t173,A700,H⟩:=H
            replace H : (if fok .add (fop .add a0_4 a1_4) t173 = true then (if fok .sub a1_5 a0_5 = true then (if fok .quo (floatOfInt .f64 a1_0) (floatOfInt .f64 (wrap64 (a0_0 + a1_0))) = true then (if fok .mul (fop .sub a1_5 a0_5) (fop .quo (floatOfInt .f64 a1_0) (floatOfInt .f64 (wrap64 (a0_0 + a1_0)))) = true then (if fok .add a0_5 (fop .mul (fop .sub a1_5 a0_5) (fop .quo (floatOfInt .f64 a1_0) (floatOfInt .f64 (wrap64 (a0_0 + a1_0))))) = true then (if fok .add a0_6 a1_6 = true then (if fok .mul (fop .sub a1_5 a0_5) (fop .sub a1_5 a0_5) = true then (if fok .mul (floatOfInt .f64 a0_0) (fop .quo (floatOfInt .f64 a1_0) (floatOfInt .f64 (wrap64 (a0_0 + a1_0)))) = true then (if fok .mul (fop .mul (fop .sub a1_5 a0_5) (fop .sub a1_5 a0_5)) (fop .mul (floatOfInt .f64 a0_0) (fop .quo (floatOfInt .f64 a1_0) (floatOfInt .f64 (wrap64 (a0_0 + a1_0))))) = true then (if fok .add (fop .add a0_6 a1_6) (fop .mul (fop .mul (fop .sub a1_5 a0_5) (fop .sub a1_5 a0_5)) (fop .mul (floatOfInt .f64 a0_0) (fop .quo (floatOfInt .f64 a1_0) (floatOfInt .f64 (wrap64 (a0_0 + a1_0)))))) = true then ((quarryref31_told.f kj45 (wrap64 (a0_0 + a1_0)) x173001_45 a1_2 (fop .add a0_3 a1_3) (fop .add (fop .add a0_4 a1_4) t173) (fop .add a0_5 (fop .mul (fop .sub a1_5 a0_5) (fop .quo (floatOfInt .f64 a1_0) (floatOfInt .f64 (wrap64 (a0_0 + a1_0)))))) (fop .add (fop .add a0_6 a1_6) (fop .mul (fop .mul (fop .sub a1_5 a0_5) (fop .sub a1_5 a0_5)) (fop .mul (floatOfInt .f64 a0_0) (fop .quo (floatOfInt .f64 a1_0) (floatOfInt .f64 (wrap64 (a0_0 + a1_0)))))))).bind fun bt174=>(some (bt174.1,bt174.2.1,bt174.2.2.1,bt174.2.2.2.1,bt174.2.2.2.2.1,bt174.2.2.2.2.2.1,bt174.2.2.2.2.2.2.1,bt174.2.2.2.2.2.2.2))) else (none)) else (none)) else (none)) else (none)) else (none)) else (none)) else (none)) else (none)) else (none)) else (if fok .sub a1_5 a0_5 = true then (if fok .quo (floatOfInt .f64 a1_0) (floatOfInt .f64 (wrap64 (a0_0 + a1_0))) = true then (if fok .mul (fop .sub a1_5 a0_5) (fop .quo (floatOfInt .f64 a1_0) (floatOfInt .f64 (wrap64 (a0_0 + a1_0)))) = true then (if fok .add a0_5 (fop .mul (fop .sub a1_5 a0_5) (fop .quo (floatOfInt .f64 a1_0) (floatOfInt .f64 (wrap64 (a0_0 + a1_0))))) = true then (if fok .add a0_6 a1_6 = true then (if fok .mul (fop .sub a1_5 a0_5) (fop .sub a1_5 a0_5) = true then (if fok .mul (floatOfInt .f64 a0_0) (fop .quo (floatOfInt .f64 a1_0) (floatOfInt .f64 (wrap64 (a0_0 + a1_0)))) = true then (if fok .mul (fop .mul (fop .sub a1_5 a0_5) (fop .sub a1_5 a0_5)) (fop .mul (floatOfInt .f64 a0_0) (fop .quo (floatOfInt .f64 a1_0) (floatOfInt .f64 (wrap64 (a0_0 + a1_0))))) = true then (if fok .add (fop .add a0_6 a1_6) (fop .mul (fop .mul (fop .sub a1_5 a0_5) (fop .sub a1_5 a0_5)) (fop .mul (floatOfInt .f64 a0_0) (fop .quo (floatOfInt .f64 a1_0) (floatOfInt .f64 (wrap64 (a0_0 + a1_0)))))) = true then ((quarryref31_told.f kj45 (wrap64 (a0_0 + a1_0)) x173001_45 a1_2 (fop .add a0_3 a1_3) nanC (fop .add a0_5 (fop .mul (fop .sub a1_5 a0_5) (fop .quo (floatOfInt .f64 a1_0) (floatOfInt .f64 (wrap64 (a0_0 + a1_0)))))) (fop .add (fop .add a0_6 a1_6) (fop .mul (fop .mul (fop .sub a1_5 a0_5) (fop .sub a1_5 a0_5)) (fop .mul (floatOfInt .f64 a0_0) (fop .quo (floatOfInt .f64 a1_0) (floatOfInt .f64 (wrap64 (a0_0 + a1_0)))))))).bind fun bt174=>(if bt174.2.2.2.2.2.2.2 = 0 then none else (some (bt174.1,bt174.2.1,bt174.2.2.1,bt174.2.2.2.1,bt174.2.2.2.2.1,bt174.2.2.2.2.2.1,bt174.2.2.2.2.2.2.1,bt174.2.2.2.2.2.2.2)))) else (none)) else (none)) else (none)) else (none)) else (none)) else (none)) else (none)) else (none)) else (none))) = some (r1,r2,r3,r4,r5,r6,r7,r8):=H
            have A70:=Aside0.mk A700
            clear A700
            by_cases c71 : fok .add (fop .add a0_4 a1_4) t173 = true
            ·rw [if_pos c71] at H
             have c71b0:=eq_true c71
             have c71b1 : decide (fok .add (fop .add a0_4 a1_4) t173 = true) = true:=decide_eq_true c71
             clear c71
             by_cases c72 : fok .sub a1_5 a0_5 = true
             ·rw [if_pos c72] at H
              have c72b0:=eq_true c72
              have c72b1 : decide (fok .sub a1_5 a0_5 = true) = true:=decide_eq_true c72
              clear c72
              by_cases c73 : fok .quo (floatOfInt .f64 a1_0) (floatOfInt .f64 (wrap64 (a0_0 + a1_0))) = true
              ·rw [if_pos c73] at H
               have c73b0:=eq_true c73
               have c73b1 : decide (fok .quo (floatOfInt .f64 a1_0) (floatOfInt .f64 (wrap64 (a0_0 + a1_0))) = true) = true:=decide_eq_true c73
               by_cases c74 : fok .mul (fop .sub a1_5 a0_5) (fop .quo (floatOfInt .f64 a1_0) (floatOfInt .f64 (wrap64 (a0_0 + a1_0)))) = true
               ·rw [if_pos c74] at H
                have c74b0:=eq_true c74
                have c74b1 : decide (fok .mul (fop .sub a1_5 a0_5) (fop .quo (floatOfInt .f64 a1_0) (floatOfInt .f64 (wrap64 (a0_0 + a1_0)))) = true) = true:=decide_eq_true c74
                by_cases c75 : fok .add a0_5 (fop .mul (fop .sub a1_5 a0_5) (fop .quo (floatOfInt .f64 a1_0) (floatOfInt .f64 (wrap64 (a0_0 + a1_0))))) = true
                ·rw [if_pos c75] at H
                 have c75b0:=eq_true c75
                 have c75b1 : decide (fok .add a0_5 (fop .mul (fop .sub a1_5 a0_5) (fop .quo (floatOfInt .f64 a1_0) (floatOfInt .f64 (wrap64 (a0_0 + a1_0))))) = true) = true:=decide_eq_true c75
                 by_cases c76 : fok .add a0_6 a1_6 = true
                 ·rw [if_pos c76] at H
                  have c76b0:=eq_true c76
                  have c76b1 : decide (fok .add a0_6 a1_6 = true) = true:=decide_eq_true c76
                  clear c76
                  by_cases c77 : fok .mul (fop .sub a1_5 a0_5) (fop .sub a1_5 a0_5) = true
                  ·rw [if_pos c77] at H
                   have c77b0:=eq_true c77
                   have c77b1 : decide (fok .mul (fop .sub a1_5 a0_5) (fop .sub a1_5 a0_5) = true) = true:=decide_eq_true c77
                   clear c77
                   by_cases c78 : fok .mul (floatOfInt .f64 a0_0) (fop .quo (floatOfInt .f64 a1_0) (floatOfInt .f64 (wrap64 (a0_0 + a1_0)))) = true
                   ·rw [if_pos c78] at H
                    have c78b0:=eq_true c78
                    have c78b1 : decide (fok .mul (floatOfInt .f64 a0_0) (fop .quo (floatOfInt .f64 a1_0) (floatOfInt .f64 (wrap64 (a0_0 + a1_0)))) = true) = true:=decide_eq_true c78
                    by_cases c79 : fok .mul (fop .mul (fop .sub a1_5 a0_5) (fop .sub a1_5 a0_5)) (fop .mul (floatOfInt .f64 a0_0) (fop .quo (floatOfInt .f64 a1_0) (floatOfInt .f64 (wrap64 (a0_0 + a1_0))))) = true
                    ·rw [if_pos c79] at H
                     have c79b0:=eq_true c79
                     have c79b1 : decide (fok .mul (fop .mul (fop .sub a1_5 a0_5) (fop .sub a1_5 a0_5)) (fop .mul (floatOfInt .f64 a0_0) (fop .quo (floatOfInt .f64 a1_0) (floatOfInt .f64 (wrap64 (a0_0 + a1_0))))) = true) = true:=decide_eq_true c79
                     by_cases c80 : fok .add (fop .add a0_6 a1_6) (fop .mul (fop .mul (fop .sub a1_5 a0_5) (fop .sub a1_5 a0_5)) (fop .mul (floatOfInt .f64 a0_0) (fop .quo (floatOfInt .f64 a1_0) (floatOfInt .f64 (wrap64 (a0_0 + a1_0)))))) = true
                     ·rw [if_pos c80] at H
                      have c80b0:=eq_true c80
                      have c80b1 : decide (fok .add (fop .add a0_6 a1_6) (fop .mul (fop .mul (fop .sub a1_5 a0_5) (fop .sub a1_5 a0_5)) (fop .mul (floatOfInt .f64 a0_0) (fop .quo (floatOfInt .f64 a1_0) (floatOfInt .f64 (wrap64 (a0_0 + a1_0)))))) = true) = true:=decide_eq_true c80
                      replace H:=Option.bind_eq_some_iff.mp H
                      obtain ⟨⟨t174,t175,t176,t177,t178,t179,t180,t181⟩,A810,H⟩:=H
                      replace H : (some (t174,t175,t176,t177,t178,t179,t180,t181)) = some (r1,r2,r3,r4,r5,r6,r7,r8):=H
                      have A81:=Aside0.mk A810
                      clear A810
                      simp only [Option.some.injEq,Prod.mk.injEq] at H
                      obtain ⟨rfl,rfl,rfl,rfl,rfl,rfl,rfl,rfl⟩:=H
                      have hnb82:=NB168_167.out
                      have hnc82:=NB167_168.out
                      have hnb83:=NB168_169.out
                      have hnc83:=NB169_168.out
                      have hnb84:=NB168_172.out
                      have hnc84:=NB172_168.out
                      have hcz85_0 : wc.cell? ⟨gb168,0,none⟩ = some (.int .i64 a1_0):=(blk_cell BK168.out 0).trans rfl
                      have hcz85_1 : wc.cell? ⟨gb168,1,none⟩ = some (.float .f64 a1_1):=(blk_cell BK168.out 1).trans rfl
                      have hcz85_2 : wc.cell? ⟨gb168,2,none⟩ = some (.float .f64 a1_2):=(blk_cell BK168.out 2).trans rfl
                      have hcz85_3 : wc.cell? ⟨gb168,3,none⟩ = some (.float .f64 a1_3):=(blk_cell BK168.out 3).trans rfl
                      have hcz85_4 : wc.cell? ⟨gb168,4,none⟩ = some (.float .f64 a1_4):=(blk_cell BK168.out 4).trans rfl
                      have hcz85_5 : wc.cell? ⟨gb168,5,none⟩ = some (.float .f64 a1_5):=(blk_cell BK168.out 5).trans rfl
                      have hcz85_6 : wc.cell? ⟨gb168,6,none⟩ = some (.float .f64 a1_6):=(blk_cell BK168.out 6).trans rfl
                      have hfz85_0:=blk_frozen BK168.out 0
                      have hfz85_1:=blk_frozen BK168.out 1
                      have hfz85_2:=blk_frozen BK168.out 2
                      have hfz85_3:=blk_frozen BK168.out 3
                      have hfz85_4:=blk_frozen BK168.out 4
                      have hfz85_5:=blk_frozen BK168.out 5
                      have hfz85_6:=blk_frozen BK168.out 6
                      have hnb86:=NB167_169.out
                      have hnc86:=NB169_167.out
                      have hnb87:=NB167_172.out
                      have hnc87:=NB172_167.out
                      have hcz88_0 : wc.cell? ⟨gb167,0,none⟩ = some (.int .i64 a0_0):=(blk_cell BK167.out 0).trans rfl
                      have hcz88_1 : wc.cell? ⟨gb167,1,none⟩ = some (.float .f64 a0_1):=(blk_cell BK167.out 1).trans rfl
                      have hcz88_2 : wc.cell? ⟨gb167,2,none⟩ = some (.float .f64 a0_2):=(blk_cell BK167.out 2).trans rfl
                      have hcz88_3 : wc.cell? ⟨gb167,3,none⟩ = some (.float .f64 a0_3):=(blk_cell BK167.out 3).trans rfl
                      have hcz88_4 : wc.cell? ⟨gb167,4,none⟩ = some (.float .f64 a0_4):=(blk_cell BK167.out 4).trans rfl
                      have hcz88_5 : wc.cell? ⟨gb167,5,none⟩ = some (.float .f64 a0_5):=(blk_cell BK167.out 5).trans rfl
                      have hcz88_6 : wc.cell? ⟨gb167,6,none⟩ = some (.float .f64 a0_6):=(blk_cell BK167.out 6).trans rfl
                      have hfz88_0:=blk_frozen BK167.out 0
                      have hfz88_1:=blk_frozen BK167.out 1
                      have hfz88_2:=blk_frozen BK167.out 2
                      have hfz88_3:=blk_frozen BK167.out 3
                      have hfz88_4:=blk_frozen BK167.out 4
                      have hfz88_5:=blk_frozen BK167.out 5
                      have hfz88_6:=blk_frozen BK167.out 6
                      have hnb89:=NB172_169.out
                      have hnc89:=NB169_172.out
                      have hcz90_0 : wc.cell? ⟨gb172,0,none⟩ = some (.int .i64 (wrap64 (a0_0 + a1_0))):=(blk_cell BK172.out 0).trans rfl
                      have hcz90_1 : wc.cell? ⟨gb172,1,none⟩ = some (.float .f64 x173001_45):=(blk_cell BK172.out 1).trans rfl
                      have hcz90_2 : wc.cell? ⟨gb172,2,none⟩ = some (.float .f64 a0_2):=(blk_cell BK172.out 2).trans rfl
                      have hcz90_3 : wc.cell? ⟨gb172,3,none⟩ = some (.float .f64 a0_3):=(blk_cell BK172.out 3).trans rfl
                      have hcz90_4 : wc.cell? ⟨gb172,4,none⟩ = some (.float .f64 a0_4):=(blk_cell BK172.out 4).trans rfl
                      have hcz90_5 : wc.cell? ⟨gb172,5,none⟩ = some (.float .f64 a0_5):=(blk_cell BK172.out 5).trans rfl
                      have hcz90_6 : wc.cell? ⟨gb172,6,none⟩ = some (.float .f64 a0_6):=(blk_cell BK172.out 6).trans rfl
                      have hfz90_0:=blk_frozen BK172.out 0
                      have hfz90_1:=blk_frozen BK172.out 1
                      have hfz90_2:=blk_frozen BK172.out 2
                      have hfz90_3:=blk_frozen BK172.out 3
                      have hfz90_4:=blk_frozen BK172.out 4
                      have hfz90_5:=blk_frozen BK172.out 5
                      have hfz90_6:=blk_frozen BK172.out 6
                      go_wp2_with (first|((with_reducible refine gate_callee (f:=47) rfl ?_);refine goesL_ (some 80) rfl rfl Try.func47 (by kernel_rfl) rfl #[.float .f64 a0_3,.float .f64 a1_3,.float .f64 (fop .add a0_3 a1_3)] rfl (by (try simp only [List.map_toArray,List.map_cons,List.map_nil]);first|done|rfl|(simp only [List.length_drop,List.length_take];rfl)) ?_;(with_reducible refine (quarryref31_lost.calls a0_3 a1_3 (fop .add a0_3 a1_3) t173 _ A70.out).mono ?_);rintro e w' ⟨rfl,⟨nd,rfl⟩⟩;refine ⟨_,rfl,?_⟩)|((with_reducible refine gate_callee (f:=48) rfl ?_);refine goesL_ (some 124) rfl rfl Try.func48 (by kernel_rfl) rfl #[.agg #[.int .i64 (wrap64 (a0_0 + a1_0)),.float .f64 x173001_45,.float .f64 a1_2,.float .f64 (fop .add a0_3 a1_3),.float .f64 (fop .add (fop .add a0_4 a1_4) t173),.float .f64 (fop .add a0_5 (fop .mul (fop .sub a1_5 a0_5) (fop .quo (floatOfInt .f64 a1_0) (floatOfInt .f64 (wrap64 (a0_0 + a1_0)))))),.float .f64 (fop .add (fop .add a0_6 a1_6) (fop .mul (fop .mul (fop .sub a1_5 a0_5) (fop .sub a1_5 a0_5)) (fop .mul (floatOfInt .f64 a0_0) (fop .quo (floatOfInt .f64 a1_0) (floatOfInt .f64 (wrap64 (a0_0 + a1_0)))))))]] rfl (by (try simp only [List.map_toArray,List.map_cons,List.map_nil]);first|done|rfl|(simp only [List.length_drop,List.length_take];rfl)) ?_;(with_reducible refine (quarryref31_told.calls kj45 (wrap64 (a0_0 + a1_0)) x173001_45 a1_2 (fop .add a0_3 a1_3) (fop .add (fop .add a0_4 a1_4) t173) (fop .add a0_5 (fop .mul (fop .sub a1_5 a0_5) (fop .quo (floatOfInt .f64 a1_0) (floatOfInt .f64 (wrap64 (a0_0 + a1_0)))))) (fop .add (fop .add a0_6 a1_6) (fop .mul (fop .mul (fop .sub a1_5 a0_5) (fop .sub a1_5 a0_5)) (fop .mul (floatOfInt .f64 a0_0) (fop .quo (floatOfInt .f64 a1_0) (floatOfInt .f64 (wrap64 (a0_0 + a1_0))))))) t174 t175 t176 t177 t178 t179 t180 t181 _ A81.out).mono ?_);rintro e w91 ⟨rfl,hb⟩;refine ⟨_,rfl,?_⟩;have n0_:=Aside0.mk (blk_below (g:=gb167) (o:=.cells #[.int .i64 a0_0,.float .f64 a0_1,.float .f64 a0_2,.float .f64 a0_3,.float .f64 a0_4,.float .f64 a0_5,.float .f64 a0_6] 26 (0,0)) (by (with_reducible repeat (first|refine blk_drewN ?_ _|refine blk_drew ?_|refine blk_alloc ?_ _));refine blk_far ?_ NB167_172.out _;(with_reducible repeat (first|refine blk_drewN ?_ _|refine blk_drew ?_|refine blk_alloc ?_ _));refine blk_far ?_ NB167_172.out _;(with_reducible repeat (first|refine blk_drewN ?_ _|refine blk_drew ?_|refine blk_alloc ?_ _));refine blk_far ?_ NB167_172.out _;(with_reducible repeat (first|refine blk_drewN ?_ _|refine blk_drew ?_|refine blk_alloc ?_ _));refine blk_far ?_ NB167_172.out _;(with_reducible repeat (first|refine blk_drewN ?_ _|refine blk_drew ?_|refine blk_alloc ?_ _));refine blk_far ?_ NB167_172.out _;(with_reducible repeat (first|refine blk_drewN ?_ _|refine blk_drew ?_|refine blk_alloc ?_ _));exact BK167.out) hb);have n1_:=Aside0.mk (blk_below (g:=gb168) (o:=.cells #[.int .i64 a1_0,.float .f64 a1_1,.float .f64 a1_2,.float .f64 a1_3,.float .f64 a1_4,.float .f64 a1_5,.float .f64 a1_6] 26 (0,0)) (by (with_reducible repeat (first|refine blk_drewN ?_ _|refine blk_drew ?_|refine blk_alloc ?_ _));refine blk_far ?_ NB168_172.out _;(with_reducible repeat (first|refine blk_drewN ?_ _|refine blk_drew ?_|refine blk_alloc ?_ _));refine blk_far ?_ NB168_172.out _;(with_reducible repeat (first|refine blk_drewN ?_ _|refine blk_drew ?_|refine blk_alloc ?_ _));refine blk_far ?_ NB168_172.out _;(with_reducible repeat (first|refine blk_drewN ?_ _|refine blk_drew ?_|refine blk_alloc ?_ _));refine blk_far ?_ NB168_172.out _;(with_reducible repeat (first|refine blk_drewN ?_ _|refine blk_drew ?_|refine blk_alloc ?_ _));refine blk_far ?_ NB168_172.out _;(with_reducible repeat (first|refine blk_drewN ?_ _|refine blk_drew ?_|refine blk_alloc ?_ _));exact BK168.out) hb);have n2_:=Aside0.mk (blk_below (g:=gb169) (o:=.cells #[.int .i64 0,.float .f64 0,.float .f64 0,.float .f64 0,.float .f64 0,.float .f64 0,.float .f64 0] 26 (0,0)) (by (with_reducible repeat (first|refine blk_drewN ?_ _|refine blk_drew ?_|refine blk_alloc ?_ _));refine blk_far ?_ NB169_172.out _;(with_reducible repeat (first|refine blk_drewN ?_ _|refine blk_drew ?_|refine blk_alloc ?_ _));refine blk_far ?_ NB169_172.out _;(with_reducible repeat (first|refine blk_drewN ?_ _|refine blk_drew ?_|refine blk_alloc ?_ _));refine blk_far ?_ NB169_172.out _;(with_reducible repeat (first|refine blk_drewN ?_ _|refine blk_drew ?_|refine blk_alloc ?_ _));refine blk_far ?_ NB169_172.out _;(with_reducible repeat (first|refine blk_drewN ?_ _|refine blk_drew ?_|refine blk_alloc ?_ _));refine blk_far ?_ NB169_172.out _;(with_reducible repeat (first|refine blk_drewN ?_ _|refine blk_drew ?_|refine blk_alloc ?_ _));exact BK169.out) hb);have n3_:=Aside0.mk (blk_below (g:=gb172) (o:=.cells #[.int .i64 (wrap64 (a0_0 + a1_0)),.float .f64 x173001_45,.float .f64 a1_2,.float .f64 (fop .add a0_3 a1_3),.float .f64 (fop .add (fop .add a0_4 a1_4) t173),.float .f64 (fop .add a0_5 (fop .mul (fop .sub a1_5 a0_5) (fop .quo (floatOfInt .f64 a1_0) (floatOfInt .f64 (wrap64 (a0_0 + a1_0)))))),.float .f64 (fop .add (fop .add a0_6 a1_6) (fop .mul (fop .mul (fop .sub a1_5 a0_5) (fop .sub a1_5 a0_5)) (fop .mul (floatOfInt .f64 a0_0) (fop .quo (floatOfInt .f64 a1_0) (floatOfInt .f64 (wrap64 (a0_0 + a1_0)))))))] 26 (0,0)) (by (with_reducible repeat (first|refine blk_drewN ?_ _|refine blk_drew ?_|refine blk_alloc ?_ _));refine blk_put (cs:=#[.int .i64 (wrap64 (a0_0 + a1_0)),.float .f64 x173001_45,.float .f64 a1_2,.float .f64 (fop .add a0_3 a1_3),.float .f64 (fop .add (fop .add a0_4 a1_4) t173),.float .f64 (fop .add a0_5 (fop .mul (fop .sub a1_5 a0_5) (fop .quo (floatOfInt .f64 a1_0) (floatOfInt .f64 (wrap64 (a0_0 + a1_0)))))),.float .f64 a0_6]) ?_ 6 _ (by first|rfl|(simp only [px_pos,px_ne];rfl)|simp [px_pos,px_ne]);(with_reducible repeat (first|refine blk_drewN ?_ _|refine blk_drew ?_|refine blk_alloc ?_ _));refine blk_put (cs:=#[.int .i64 (wrap64 (a0_0 + a1_0)),.float .f64 x173001_45,.float .f64 a1_2,.float .f64 (fop .add a0_3 a1_3),.float .f64 (fop .add (fop .add a0_4 a1_4) t173),.float .f64 a0_5,.float .f64 a0_6]) ?_ 5 _ (by first|rfl|(simp only [px_pos,px_ne];rfl)|simp [px_pos,px_ne]);(with_reducible repeat (first|refine blk_drewN ?_ _|refine blk_drew ?_|refine blk_alloc ?_ _));refine blk_put (cs:=#[.int .i64 (wrap64 (a0_0 + a1_0)),.float .f64 x173001_45,.float .f64 a1_2,.float .f64 (fop .add a0_3 a1_3),.float .f64 a0_4,.float .f64 a0_5,.float .f64 a0_6]) ?_ 4 _ (by first|rfl|(simp only [px_pos,px_ne];rfl)|simp [px_pos,px_ne]);(with_reducible repeat (first|refine blk_drewN ?_ _|refine blk_drew ?_|refine blk_alloc ?_ _));refine blk_put (cs:=#[.int .i64 (wrap64 (a0_0 + a1_0)),.float .f64 x173001_45,.float .f64 a1_2,.float .f64 a0_3,.float .f64 a0_4,.float .f64 a0_5,.float .f64 a0_6]) ?_ 3 _ (by first|rfl|(simp only [px_pos,px_ne];rfl)|simp [px_pos,px_ne]);(with_reducible repeat (first|refine blk_drewN ?_ _|refine blk_drew ?_|refine blk_alloc ?_ _));refine blk_put (cs:=#[.int .i64 (wrap64 (a0_0 + a1_0)),.float .f64 x173001_45,.float .f64 a0_2,.float .f64 a0_3,.float .f64 a0_4,.float .f64 a0_5,.float .f64 a0_6]) ?_ 2 _ (by first|rfl|(simp only [px_pos,px_ne];rfl)|simp [px_pos,px_ne]);(with_reducible repeat (first|refine blk_drewN ?_ _|refine blk_drew ?_|refine blk_alloc ?_ _));exact BK172.out) hb);have n4_:=Aside0.mk (below_step (by repeat (first|(with_reducible first|exact HB.out|apply below_alloc|apply pw_below_drewN|apply below_drew1|refine below_set ?_ GE167.out|refine below_set ?_ GE168.out|refine below_set ?_ GE169.out|refine below_set ?_ GE172.out)|exact HB.out)) hb);clear BK167;clear BK168;clear BK169;clear BK172;clear HB;have BK167:=n0_;have BK168:=n1_;have BK169:=n2_;have BK172:=n3_;have HB:=n4_;clear n0_ n1_ n2_ n3_ n4_;(try clear hb);(try clear hb2);(try clear hk);(try clear hi);have hcz92_0 : w91.cell? ⟨gb169,0,none⟩ = some (.int .i64 0):=(blk_cell BK169.out 0).trans rfl;have hcz92_1 : w91.cell? ⟨gb169,1,none⟩ = some (.float .f64 0):=(blk_cell BK169.out 1).trans rfl;have hcz92_2 : w91.cell? ⟨gb169,2,none⟩ = some (.float .f64 0):=(blk_cell BK169.out 2).trans rfl;have hcz92_3 : w91.cell? ⟨gb169,3,none⟩ = some (.float .f64 0):=(blk_cell BK169.out 3).trans rfl;have hcz92_4 : w91.cell? ⟨gb169,4,none⟩ = some (.float .f64 0):=(blk_cell BK169.out 4).trans rfl;have hcz92_5 : w91.cell? ⟨gb169,5,none⟩ = some (.float .f64 0):=(blk_cell BK169.out 5).trans rfl;have hcz92_6 : w91.cell? ⟨gb169,6,none⟩ = some (.float .f64 0):=(blk_cell BK169.out 6).trans rfl;have hfz92_0:=blk_frozen BK169.out 0;have hfz92_1:=blk_frozen BK169.out 1;have hfz92_2:=blk_frozen BK169.out 2;have hfz92_3:=blk_frozen BK169.out 3;have hfz92_4:=blk_frozen BK169.out 4;have hfz92_5:=blk_frozen BK169.out 5;have hfz92_6:=blk_frozen BK169.out 6))
                      refine bodyPost_ret (results_ct rfl _ _ gb169 26 #[.int .i64 t174,.float .f64 t175,.float .f64 t176,.float .f64 t177,.float .f64 t178,.float .f64 t179,.float .f64 t180] (0,0) _ rfl (by (with_reducible repeat (first|refine blk_drewN ?_ _|refine blk_drew ?_|refine blk_alloc ?_ _));refine blk_put (cs:=#[.int .i64 t174,.float .f64 t175,.float .f64 t176,.float .f64 t177,.float .f64 t178,.float .f64 t179,.float .f64 0]) ?_ 6 _ (by first|rfl|(simp only [px_pos,px_ne];rfl)|simp [px_pos,px_ne]);(with_reducible repeat (first|refine blk_drewN ?_ _|refine blk_drew ?_|refine blk_alloc ?_ _));refine blk_put (cs:=#[.int .i64 t174,.float .f64 t175,.float .f64 t176,.float .f64 t177,.float .f64 t178,.float .f64 0,.float .f64 0]) ?_ 5 _ (by first|rfl|(simp only [px_pos,px_ne];rfl)|simp [px_pos,px_ne]);(with_reducible repeat (first|refine blk_drewN ?_ _|refine blk_drew ?_|refine blk_alloc ?_ _));refine blk_put (cs:=#[.int .i64 t174,.float .f64 t175,.float .f64 t176,.float .f64 t177,.float .f64 0,.float .f64 0,.float .f64 0]) ?_ 4 _ (by first|rfl|(simp only [px_pos,px_ne];rfl)|simp [px_pos,px_ne]);(with_reducible repeat (first|refine blk_drewN ?_ _|refine blk_drew ?_|refine blk_alloc ?_ _));refine blk_put (cs:=#[.int .i64 t174,.float .f64 t175,.float .f64 t176,.float .f64 0,.float .f64 0,.float .f64 0,.float .f64 0]) ?_ 3 _ (by first|rfl|(simp only [px_pos,px_ne];rfl)|simp [px_pos,px_ne]);(with_reducible repeat (first|refine blk_drewN ?_ _|refine blk_drew ?_|refine blk_alloc ?_ _));refine blk_put (cs:=#[.int .i64 t174,.float .f64 t175,.float .f64 0,.float .f64 0,.float .f64 0,.float .f64 0,.float .f64 0]) ?_ 2 _ (by first|rfl|(simp only [px_pos,px_ne];rfl)|simp [px_pos,px_ne]);(with_reducible repeat (first|refine blk_drewN ?_ _|refine blk_drew ?_|refine blk_alloc ?_ _));refine blk_put (cs:=#[.int .i64 t174,.float .f64 0,.float .f64 0,.float .f64 0,.float .f64 0,.float .f64 0,.float .f64 0]) ?_ 1 _ (by first|rfl|(simp only [px_pos,px_ne];rfl)|simp [px_pos,px_ne]);(with_reducible repeat (first|refine blk_drewN ?_ _|refine blk_drew ?_|refine blk_alloc ?_ _));refine blk_put (cs:=#[.int .i64 0,.float .f64 0,.float .f64 0,.float .f64 0,.float .f64 0,.float .f64 0,.float .f64 0]) ?_ 0 _ (by first|rfl|(simp only [px_pos,px_ne];rfl)|simp [px_pos,px_ne]);(with_reducible repeat (first|refine blk_drewN ?_ _|refine blk_drew ?_|refine blk_alloc ?_ _));exact BK169.out) Try.underlying26 rfl (by kernel_rfl)) rfl ?_
                      exact ⟨by first|rfl|(rw [px_ne];rfl)|(simp [errW_none,errW_some] <;> rfl)|(simp [*,errW_none,errW_some] <;> rfl),by repeat (first|(with_reducible first|exact HB.out|apply below_alloc|apply pw_below_drewN|apply below_drew1|refine below_set ?_ GE167.out|refine below_set ?_ GE168.out|refine below_set ?_ GE169.out|refine below_set ?_ GE172.out)|exact HB.out)⟩
                     ·rw [if_neg c80] at H
                      exact absurd H (by simp)
                    ·rw [if_neg c79] at H
                     exact absurd H (by simp)
                   ·rw [if_neg c78] at H
                    exact absurd H (by simp)
                  ·rw [if_neg c77] at H
                   exact absurd H (by simp)
                 ·rw [if_neg c76] at H
                  exact absurd H (by simp)
                ·rw [if_neg c75] at H
                 exact absurd H (by simp)
               ·rw [if_neg c74] at H
                exact absurd H (by simp)
              ·rw [if_neg c73] at H
               exact absurd H (by simp)
             ·rw [if_neg c72] at H
              exact absurd H (by simp)
            ·rw [if_neg c71] at H
             have c71b0 : fok .add (fop .add a0_4 a1_4) t173 = false:=Bool.eq_false_iff.mpr c71
             clear c71
             by_cases c72 : fok .sub a1_5 a0_5 = true
             ·rw [if_pos c72] at H
              have c72b0:=eq_true c72
              have c72b1 : decide (fok .sub a1_5 a0_5 = true) = true:=decide_eq_true c72
              clear c72
              by_cases c73 : fok .quo (floatOfInt .f64 a1_0) (floatOfInt .f64 (wrap64 (a0_0 + a1_0))) = true
              ·rw [if_pos c73] at H
               have c73b0:=eq_true c73
               have c73b1 : decide (fok .quo (floatOfInt .f64 a1_0) (floatOfInt .f64 (wrap64 (a0_0 + a1_0))) = true) = true:=decide_eq_true c73
               by_cases c74 : fok .mul (fop .sub a1_5 a0_5) (fop .quo (floatOfInt .f64 a1_0) (floatOfInt .f64 (wrap64 (a0_0 + a1_0)))) = true
               ·rw [if_pos c74] at H
                have c74b0:=eq_true c74
                have c74b1 : decide (fok .mul (fop .sub a1_5 a0_5) (fop .quo (floatOfInt .f64 a1_0) (floatOfInt .f64 (wrap64 (a0_0 + a1_0)))) = true) = true:=decide_eq_true c74
                by_cases c75 : fok .add a0_5 (fop .mul (fop .sub a1_5 a0_5) (fop .quo (floatOfInt .f64 a1_0) (floatOfInt .f64 (wrap64 (a0_0 + a1_0))))) = true
                ·rw [if_pos c75] at H
                 have c75b0:=eq_true c75
                 have c75b1 : decide (fok .add a0_5 (fop .mul (fop .sub a1_5 a0_5) (fop .quo (floatOfInt .f64 a1_0) (floatOfInt .f64 (wrap64 (a0_0 + a1_0))))) = true) = true:=decide_eq_true c75
                 by_cases c76 : fok .add a0_6 a1_6 = true
                 ·rw [if_pos c76] at H
                  have c76b0:=eq_true c76
                  have c76b1 : decide (fok .add a0_6 a1_6 = true) = true:=decide_eq_true c76
                  clear c76
                  by_cases c77 : fok .mul (fop .sub a1_5 a0_5) (fop .sub a1_5 a0_5) = true
                  ·rw [if_pos c77] at H
                   have c77b0:=eq_true c77
                   have c77b1 : decide (fok .mul (fop .sub a1_5 a0_5) (fop .sub a1_5 a0_5) = true) = true:=decide_eq_true c77
                   clear c77
                   by_cases c78 : fok .mul (floatOfInt .f64 a0_0) (fop .quo (floatOfInt .f64 a1_0) (floatOfInt .f64 (wrap64 (a0_0 + a1_0)))) = true
                   ·rw [if_pos c78] at H
                    have c78b0:=eq_true c78
                    have c78b1 : decide (fok .mul (floatOfInt .f64 a0_0) (fop .quo (floatOfInt .f64 a1_0) (floatOfInt .f64 (wrap64 (a0_0 + a1_0)))) = true) = true:=decide_eq_true c78
                    by_cases c79 : fok .mul (fop .mul (fop .sub a1_5 a0_5) (fop .sub a1_5 a0_5)) (fop .mul (floatOfInt .f64 a0_0) (fop .quo (floatOfInt .f64 a1_0) (floatOfInt .f64 (wrap64 (a0_0 + a1_0))))) = true
                    ·rw [if_pos c79] at H
                     have c79b0:=eq_true c79
                     have c79b1 : decide (fok .mul (fop .mul (fop .sub a1_5 a0_5) (fop .sub a1_5 a0_5)) (fop .mul (floatOfInt .f64 a0_0) (fop .quo (floatOfInt .f64 a1_0) (floatOfInt .f64 (wrap64 (a0_0 + a1_0))))) = true) = true:=decide_eq_true c79
                     by_cases c80 : fok .add (fop .add a0_6 a1_6) (fop .mul (fop .mul (fop .sub a1_5 a0_5) (fop .sub a1_5 a0_5)) (fop .mul (floatOfInt .f64 a0_0) (fop .quo (floatOfInt .f64 a1_0) (floatOfInt .f64 (wrap64 (a0_0 + a1_0)))))) = true
                     ·rw [if_pos c80] at H
                      have c80b0:=eq_true c80
                      have c80b1 : decide (fok .add (fop .add a0_6 a1_6) (fop .mul (fop .mul (fop .sub a1_5 a0_5) (fop .sub a1_5 a0_5)) (fop .mul (floatOfInt .f64 a0_0) (fop .quo (floatOfInt .f64 a1_0) (floatOfInt .f64 (wrap64 (a0_0 + a1_0)))))) = true) = true:=decide_eq_true c80
                      replace H:=Option.bind_eq_some_iff.mp H
                      obtain ⟨⟨t174,t175,t176,t177,t178,t179,t180,t181⟩,A810,H⟩:=H
                      replace H : (if t181 = 0 then none else (some (t174,t175,t176,t177,t178,t179,t180,t181))) = some (r1,r2,r3,r4,r5,r6,r7,r8):=H
                      have hz_ : ¬ (t181 = 0):=fun g_=>by rw [if_pos g_] at H;cases H
                      rw [if_neg hz_] at H
                      have A81:=Aside0.mk (fun n_ (hn_ : isNan n_)=>told_nan hn_ A810 hz_)
                      clear A810
                      simp only [Option.some.injEq,Prod.mk.injEq] at H
                      obtain ⟨rfl,rfl,rfl,rfl,rfl,rfl,rfl,rfl⟩:=H
                      have hnb82:=NB168_167.out
                      have hnc82:=NB167_168.out
                      have hnb83:=NB168_169.out
                      have hnc83:=NB169_168.out
                      have hnb84:=NB168_172.out
                      have hnc84:=NB172_168.out
                      have hcz85_0 : wc.cell? ⟨gb168,0,none⟩ = some (.int .i64 a1_0):=(blk_cell BK168.out 0).trans rfl
                      have hcz85_1 : wc.cell? ⟨gb168,1,none⟩ = some (.float .f64 a1_1):=(blk_cell BK168.out 1).trans rfl
                      have hcz85_2 : wc.cell? ⟨gb168,2,none⟩ = some (.float .f64 a1_2):=(blk_cell BK168.out 2).trans rfl
                      have hcz85_3 : wc.cell? ⟨gb168,3,none⟩ = some (.float .f64 a1_3):=(blk_cell BK168.out 3).trans rfl
                      have hcz85_4 : wc.cell? ⟨gb168,4,none⟩ = some (.float .f64 a1_4):=(blk_cell BK168.out 4).trans rfl
                      have hcz85_5 : wc.cell? ⟨gb168,5,none⟩ = some (.float .f64 a1_5):=(blk_cell BK168.out 5).trans rfl
                      have hcz85_6 : wc.cell? ⟨gb168,6,none⟩ = some (.float .f64 a1_6):=(blk_cell BK168.out 6).trans rfl
                      have hfz85_0:=blk_frozen BK168.out 0
                      have hfz85_1:=blk_frozen BK168.out 1
                      have hfz85_2:=blk_frozen BK168.out 2
                      have hfz85_3:=blk_frozen BK168.out 3
                      have hfz85_4:=blk_frozen BK168.out 4
                      have hfz85_5:=blk_frozen BK168.out 5
                      have hfz85_6:=blk_frozen BK168.out 6
                      have hnb86:=NB167_169.out
                      have hnc86:=NB169_167.out
                      have hnb87:=NB167_172.out
                      have hnc87:=NB172_167.out
                      have hcz88_0 : wc.cell? ⟨gb167,0,none⟩ = some (.int .i64 a0_0):=(blk_cell BK167.out 0).trans rfl
                      have hcz88_1 : wc.cell? ⟨gb167,1,none⟩ = some (.float .f64 a0_1):=(blk_cell BK167.out 1).trans rfl
                      have hcz88_2 : wc.cell? ⟨gb167,2,none⟩ = some (.float .f64 a0_2):=(blk_cell BK167.out 2).trans rfl
                      have hcz88_3 : wc.cell? ⟨gb167,3,none⟩ = some (.float .f64 a0_3):=(blk_cell BK167.out 3).trans rfl
                      have hcz88_4 : wc.cell? ⟨gb167,4,none⟩ = some (.float .f64 a0_4):=(blk_cell BK167.out 4).trans rfl
                      have hcz88_5 : wc.cell? ⟨gb167,5,none⟩ = some (.float .f64 a0_5):=(blk_cell BK167.out 5).trans rfl
                      have hcz88_6 : wc.cell? ⟨gb167,6,none⟩ = some (.float .f64 a0_6):=(blk_cell BK167.out 6).trans rfl
                      have hfz88_0:=blk_frozen BK167.out 0
                      have hfz88_1:=blk_frozen BK167.out 1
                      have hfz88_2:=blk_frozen BK167.out 2
                      have hfz88_3:=blk_frozen BK167.out 3
                      have hfz88_4:=blk_frozen BK167.out 4
                      have hfz88_5:=blk_frozen BK167.out 5
                      have hfz88_6:=blk_frozen BK167.out 6
                      have hnb89:=NB172_169.out
                      have hnc89:=NB169_172.out
                      have hcz90_0 : wc.cell? ⟨gb172,0,none⟩ = some (.int .i64 (wrap64 (a0_0 + a1_0))):=(blk_cell BK172.out 0).trans rfl
                      have hcz90_1 : wc.cell? ⟨gb172,1,none⟩ = some (.float .f64 x173001_45):=(blk_cell BK172.out 1).trans rfl
                      have hcz90_2 : wc.cell? ⟨gb172,2,none⟩ = some (.float .f64 a0_2):=(blk_cell BK172.out 2).trans rfl
                      have hcz90_3 : wc.cell? ⟨gb172,3,none⟩ = some (.float .f64 a0_3):=(blk_cell BK172.out 3).trans rfl
                      have hcz90_4 : wc.cell? ⟨gb172,4,none⟩ = some (.float .f64 a0_4):=(blk_cell BK172.out 4).trans rfl
                      have hcz90_5 : wc.cell? ⟨gb172,5,none⟩ = some (.float .f64 a0_5):=(blk_cell BK172.out 5).trans rfl
                      have hcz90_6 : wc.cell? ⟨gb172,6,none⟩ = some (.float .f64 a0_6):=(blk_cell BK172.out 6).trans rfl
                      have hfz90_0:=blk_frozen BK172.out 0
                      have hfz90_1:=blk_frozen BK172.out 1
                      have hfz90_2:=blk_frozen BK172.out 2
                      have hfz90_3:=blk_frozen BK172.out 3
                      have hfz90_4:=blk_frozen BK172.out 4
                      have hfz90_5:=blk_frozen BK172.out 5
                      have hfz90_6:=blk_frozen BK172.out 6
                      go_wp2_with (first|((with_reducible refine gate_callee (f:=47) rfl ?_);refine goesL_ (some 80) rfl rfl Try.func47 (by kernel_rfl) rfl #[.float .f64 a0_3,.float .f64 a1_3,.float .f64 (fop .add a0_3 a1_3)] rfl (by (try simp only [List.map_toArray,List.map_cons,List.map_nil]);first|done|rfl|(simp only [List.length_drop,List.length_take];rfl)) ?_;(with_reducible refine (quarryref31_lost.calls a0_3 a1_3 (fop .add a0_3 a1_3) t173 _ A70.out).mono ?_);rintro e w' ⟨rfl,⟨nd,rfl⟩⟩;refine ⟨_,rfl,?_⟩)|((with_reducible refine gate_callee (f:=48) rfl ?_);refine goesL_ (some 124) rfl rfl Try.func48 (by kernel_rfl) rfl #[.agg #[.int .i64 (wrap64 (a0_0 + a1_0)),.float .f64 x173001_45,.float .f64 a1_2,.float .f64 (fop .add a0_3 a1_3),.float .f64 (nanOf (((wc.setCell ⟨gb172,2,none⟩ (.float .f64 a1_2)).setCell ⟨gb172,3,none⟩ (.float .f64 (fop .add a0_3 a1_3))).drewN nd) (fop .add a0_4 a1_4) t173),.float .f64 (fop .add a0_5 (fop .mul (fop .sub a1_5 a0_5) (fop .quo (floatOfInt .f64 a1_0) (floatOfInt .f64 (wrap64 (a0_0 + a1_0)))))),.float .f64 (fop .add (fop .add a0_6 a1_6) (fop .mul (fop .mul (fop .sub a1_5 a0_5) (fop .sub a1_5 a0_5)) (fop .mul (floatOfInt .f64 a0_0) (fop .quo (floatOfInt .f64 a1_0) (floatOfInt .f64 (wrap64 (a0_0 + a1_0)))))))]] rfl (by (try simp only [List.map_toArray,List.map_cons,List.map_nil]);first|done|rfl|(simp only [List.length_drop,List.length_take];rfl)) ?_;(with_reducible refine (quarryref31_told.calls kj45 (wrap64 (a0_0 + a1_0)) x173001_45 a1_2 (fop .add a0_3 a1_3) (nanOf (((wc.setCell ⟨gb172,2,none⟩ (.float .f64 a1_2)).setCell ⟨gb172,3,none⟩ (.float .f64 (fop .add a0_3 a1_3))).drewN nd) (fop .add a0_4 a1_4) t173) (fop .add a0_5 (fop .mul (fop .sub a1_5 a0_5) (fop .quo (floatOfInt .f64 a1_0) (floatOfInt .f64 (wrap64 (a0_0 + a1_0)))))) (fop .add (fop .add a0_6 a1_6) (fop .mul (fop .mul (fop .sub a1_5 a0_5) (fop .sub a1_5 a0_5)) (fop .mul (floatOfInt .f64 a0_0) (fop .quo (floatOfInt .f64 a1_0) (floatOfInt .f64 (wrap64 (a0_0 + a1_0))))))) t174 t175 t176 t177 t178 t179 t180 t181 _ (A81.out _ (nan_nanOf _ _ _))).mono ?_);rintro e w91 ⟨rfl,hb⟩;refine ⟨_,rfl,?_⟩;have n0_:=Aside0.mk (blk_below (g:=gb167) (o:=.cells #[.int .i64 a0_0,.float .f64 a0_1,.float .f64 a0_2,.float .f64 a0_3,.float .f64 a0_4,.float .f64 a0_5,.float .f64 a0_6] 26 (0,0)) (by (with_reducible repeat (first|refine blk_drewN ?_ _|refine blk_drew ?_|refine blk_alloc ?_ _));refine blk_far ?_ NB167_172.out _;(with_reducible repeat (first|refine blk_drewN ?_ _|refine blk_drew ?_|refine blk_alloc ?_ _));refine blk_far ?_ NB167_172.out _;(with_reducible repeat (first|refine blk_drewN ?_ _|refine blk_drew ?_|refine blk_alloc ?_ _));refine blk_far ?_ NB167_172.out _;(with_reducible repeat (first|refine blk_drewN ?_ _|refine blk_drew ?_|refine blk_alloc ?_ _));refine blk_far ?_ NB167_172.out _;(with_reducible repeat (first|refine blk_drewN ?_ _|refine blk_drew ?_|refine blk_alloc ?_ _));refine blk_far ?_ NB167_172.out _;(with_reducible repeat (first|refine blk_drewN ?_ _|refine blk_drew ?_|refine blk_alloc ?_ _));exact BK167.out) hb);have n1_:=Aside0.mk (blk_below (g:=gb168) (o:=.cells #[.int .i64 a1_0,.float .f64 a1_1,.float .f64 a1_2,.float .f64 a1_3,.float .f64 a1_4,.float .f64 a1_5,.float .f64 a1_6] 26 (0,0)) (by (with_reducible repeat (first|refine blk_drewN ?_ _|refine blk_drew ?_|refine blk_alloc ?_ _));refine blk_far ?_ NB168_172.out _;(with_reducible repeat (first|refine blk_drewN ?_ _|refine blk_drew ?_|refine blk_alloc ?_ _));refine blk_far ?_ NB168_172.out _;(with_reducible repeat (first|refine blk_drewN ?_ _|refine blk_drew ?_|refine blk_alloc ?_ _));refine blk_far ?_ NB168_172.out _;(with_reducible repeat (first|refine blk_drewN ?_ _|refine blk_drew ?_|refine blk_alloc ?_ _));refine blk_far ?_ NB168_172.out _;(with_reducible repeat (first|refine blk_drewN ?_ _|refine blk_drew ?_|refine blk_alloc ?_ _));refine blk_far ?_ NB168_172.out _;(with_reducible repeat (first|refine blk_drewN ?_ _|refine blk_drew ?_|refine blk_alloc ?_ _));exact BK168.out) hb);have n2_:=Aside0.mk (blk_below (g:=gb169) (o:=.cells #[.int .i64 0,.float .f64 0,.float .f64 0,.float .f64 0,.float .f64 0,.float .f64 0,.float .f64 0] 26 (0,0)) (by (with_reducible repeat (first|refine blk_drewN ?_ _|refine blk_drew ?_|refine blk_alloc ?_ _));refine blk_far ?_ NB169_172.out _;(with_reducible repeat (first|refine blk_drewN ?_ _|refine blk_drew ?_|refine blk_alloc ?_ _));refine blk_far ?_ NB169_172.out _;(with_reducible repeat (first|refine blk_drewN ?_ _|refine blk_drew ?_|refine blk_alloc ?_ _));refine blk_far ?_ NB169_172.out _;(with_reducible repeat (first|refine blk_drewN ?_ _|refine blk_drew ?_|refine blk_alloc ?_ _));refine blk_far ?_ NB169_172.out _;(with_reducible repeat (first|refine blk_drewN ?_ _|refine blk_drew ?_|refine blk_alloc ?_ _));refine blk_far ?_ NB169_172.out _;(with_reducible repeat (first|refine blk_drewN ?_ _|refine blk_drew ?_|refine blk_alloc ?_ _));exact BK169.out) hb);have n3_:=Aside0.mk (blk_below (g:=gb172) (o:=.cells #[.int .i64 (wrap64 (a0_0 + a1_0)),.float .f64 x173001_45,.float .f64 a1_2,.float .f64 (fop .add a0_3 a1_3),.float .f64 (nanOf (((wc.setCell ⟨gb172,2,none⟩ (.float .f64 a1_2)).setCell ⟨gb172,3,none⟩ (.float .f64 (fop .add a0_3 a1_3))).drewN nd) (fop .add a0_4 a1_4) t173),.float .f64 (fop .add a0_5 (fop .mul (fop .sub a1_5 a0_5) (fop .quo (floatOfInt .f64 a1_0) (floatOfInt .f64 (wrap64 (a0_0 + a1_0)))))),.float .f64 (fop .add (fop .add a0_6 a1_6) (fop .mul (fop .mul (fop .sub a1_5 a0_5) (fop .sub a1_5 a0_5)) (fop .mul (floatOfInt .f64 a0_0) (fop .quo (floatOfInt .f64 a1_0) (floatOfInt .f64 (wrap64 (a0_0 + a1_0)))))))] 26 (0,0)) (by (with_reducible repeat (first|refine blk_drewN ?_ _|refine blk_drew ?_|refine blk_alloc ?_ _));refine blk_put (cs:=#[.int .i64 (wrap64 (a0_0 + a1_0)),.float .f64 x173001_45,.float .f64 a1_2,.float .f64 (fop .add a0_3 a1_3),.float .f64 (nanOf (((wc.setCell ⟨gb172,2,none⟩ (.float .f64 a1_2)).setCell ⟨gb172,3,none⟩ (.float .f64 (fop .add a0_3 a1_3))).drewN nd) (fop .add a0_4 a1_4) t173),.float .f64 (fop .add a0_5 (fop .mul (fop .sub a1_5 a0_5) (fop .quo (floatOfInt .f64 a1_0) (floatOfInt .f64 (wrap64 (a0_0 + a1_0)))))),.float .f64 a0_6]) ?_ 6 _ (by first|rfl|(simp only [px_pos,px_ne];rfl)|simp [px_pos,px_ne]);(with_reducible repeat (first|refine blk_drewN ?_ _|refine blk_drew ?_|refine blk_alloc ?_ _));refine blk_put (cs:=#[.int .i64 (wrap64 (a0_0 + a1_0)),.float .f64 x173001_45,.float .f64 a1_2,.float .f64 (fop .add a0_3 a1_3),.float .f64 (nanOf (((wc.setCell ⟨gb172,2,none⟩ (.float .f64 a1_2)).setCell ⟨gb172,3,none⟩ (.float .f64 (fop .add a0_3 a1_3))).drewN nd) (fop .add a0_4 a1_4) t173),.float .f64 a0_5,.float .f64 a0_6]) ?_ 5 _ (by first|rfl|(simp only [px_pos,px_ne];rfl)|simp [px_pos,px_ne]);(with_reducible repeat (first|refine blk_drewN ?_ _|refine blk_drew ?_|refine blk_alloc ?_ _));refine blk_put (cs:=#[.int .i64 (wrap64 (a0_0 + a1_0)),.float .f64 x173001_45,.float .f64 a1_2,.float .f64 (fop .add a0_3 a1_3),.float .f64 a0_4,.float .f64 a0_5,.float .f64 a0_6]) ?_ 4 _ (by first|rfl|(simp only [px_pos,px_ne];rfl)|simp [px_pos,px_ne]);(with_reducible repeat (first|refine blk_drewN ?_ _|refine blk_drew ?_|refine blk_alloc ?_ _));refine blk_put (cs:=#[.int .i64 (wrap64 (a0_0 + a1_0)),.float .f64 x173001_45,.float .f64 a1_2,.float .f64 a0_3,.float .f64 a0_4,.float .f64 a0_5,.float .f64 a0_6]) ?_ 3 _ (by first|rfl|(simp only [px_pos,px_ne];rfl)|simp [px_pos,px_ne]);(with_reducible repeat (first|refine blk_drewN ?_ _|refine blk_drew ?_|refine blk_alloc ?_ _));refine blk_put (cs:=#[.int .i64 (wrap64 (a0_0 + a1_0)),.float .f64 x173001_45,.float .f64 a0_2,.float .f64 a0_3,.float .f64 a0_4,.float .f64 a0_5,.float .f64 a0_6]) ?_ 2 _ (by first|rfl|(simp only [px_pos,px_ne];rfl)|simp [px_pos,px_ne]);(with_reducible repeat (first|refine blk_drewN ?_ _|refine blk_drew ?_|refine blk_alloc ?_ _));exact BK172.out) hb);have n4_:=Aside0.mk (below_step (by repeat (first|(with_reducible first|exact HB.out|apply below_alloc|apply pw_below_drewN|apply below_drew1|refine below_set ?_ GE167.out|refine below_set ?_ GE168.out|refine below_set ?_ GE169.out|refine below_set ?_ GE172.out)|exact HB.out)) hb);clear BK167;clear BK168;clear BK169;clear BK172;clear HB;have BK167:=n0_;have BK168:=n1_;have BK169:=n2_;have BK172:=n3_;have HB:=n4_;clear n0_ n1_ n2_ n3_ n4_;(try clear hb);(try clear hb2);(try clear hk);(try clear hi);have hcz92_0 : w91.cell? ⟨gb169,0,none⟩ = some (.int .i64 0):=(blk_cell BK169.out 0).trans rfl;have hcz92_1 : w91.cell? ⟨gb169,1,none⟩ = some (.float .f64 0):=(blk_cell BK169.out 1).trans rfl;have hcz92_2 : w91.cell? ⟨gb169,2,none⟩ = some (.float .f64 0):=(blk_cell BK169.out 2).trans rfl;have hcz92_3 : w91.cell? ⟨gb169,3,none⟩ = some (.float .f64 0):=(blk_cell BK169.out 3).trans rfl;have hcz92_4 : w91.cell? ⟨gb169,4,none⟩ = some (.float .f64 0):=(blk_cell BK169.out 4).trans rfl;have hcz92_5 : w91.cell? ⟨gb169,5,none⟩ = some (.float .f64 0):=(blk_cell BK169.out 5).trans rfl;have hcz92_6 : w91.cell? ⟨gb169,6,none⟩ = some (.float .f64 0):=(blk_cell BK169.out 6).trans rfl;have hfz92_0:=blk_frozen BK169.out 0;have hfz92_1:=blk_frozen BK169.out 1;have hfz92_2:=blk_frozen BK169.out 2;have hfz92_3:=blk_frozen BK169.out 3;have hfz92_4:=blk_frozen BK169.out 4;have hfz92_5:=blk_frozen BK169.out 5;have hfz92_6:=blk_frozen BK169.out 6))
                      refine bodyPost_ret (results_ct rfl _ _ gb169 26 #[.int .i64 t174,.float .f64 t175,.float .f64 t176,.float .f64 t177,.float .f64 t178,.float .f64 t179,.float .f64 t180] (0,0) _ rfl (by (with_reducible repeat (first|refine blk_drewN ?_ _|refine blk_drew ?_|refine blk_alloc ?_ _));refine blk_put (cs:=#[.int .i64 t174,.float .f64 t175,.float .f64 t176,.float .f64 t177,.float .f64 t178,.float .f64 t179,.float .f64 0]) ?_ 6 _ (by first|rfl|(simp only [px_pos,px_ne];rfl)|simp [px_pos,px_ne]);(with_reducible repeat (first|refine blk_drewN ?_ _|refine blk_drew ?_|refine blk_alloc ?_ _));refine blk_put (cs:=#[.int .i64 t174,.float .f64 t175,.float .f64 t176,.float .f64 t177,.float .f64 t178,.float .f64 0,.float .f64 0]) ?_ 5 _ (by first|rfl|(simp only [px_pos,px_ne];rfl)|simp [px_pos,px_ne]);(with_reducible repeat (first|refine blk_drewN ?_ _|refine blk_drew ?_|refine blk_alloc ?_ _));refine blk_put (cs:=#[.int .i64 t174,.float .f64 t175,.float .f64 t176,.float .f64 t177,.float .f64 0,.float .f64 0,.float .f64 0]) ?_ 4 _ (by first|rfl|(simp only [px_pos,px_ne];rfl)|simp [px_pos,px_ne]);(with_reducible repeat (first|refine blk_drewN ?_ _|refine blk_drew ?_|refine blk_alloc ?_ _));refine blk_put (cs:=#[.int .i64 t174,.float .f64 t175,.float .f64 t176,.float .f64 0,.float .f64 0,.float .f64 0,.float .f64 0]) ?_ 3 _ (by first|rfl|(simp only [px_pos,px_ne];rfl)|simp [px_pos,px_ne]);(with_reducible repeat (first|refine blk_drewN ?_ _|refine blk_drew ?_|refine blk_alloc ?_ _));refine blk_put (cs:=#[.int .i64 t174,.float .f64 t175,.float .f64 0,.float .f64 0,.float .f64 0,.float .f64 0,.float .f64 0]) ?_ 2 _ (by first|rfl|(simp only [px_pos,px_ne];rfl)|simp [px_pos,px_ne]);(with_reducible repeat (first|refine blk_drewN ?_ _|refine blk_drew ?_|refine blk_alloc ?_ _));refine blk_put (cs:=#[.int .i64 t174,.float .f64 0,.float .f64 0,.float .f64 0,.float .f64 0,.float .f64 0,.float .f64 0]) ?_ 1 _ (by first|rfl|(simp only [px_pos,px_ne];rfl)|simp [px_pos,px_ne]);(with_reducible repeat (first|refine blk_drewN ?_ _|refine blk_drew ?_|refine blk_alloc ?_ _));refine blk_put (cs:=#[.int .i64 0,.float .f64 0,.float .f64 0,.float .f64 0,.float .f64 0,.float .f64 0,.float .f64 0]) ?_ 0 _ (by first|rfl|(simp only [px_pos,px_ne];rfl)|simp [px_pos,px_ne]);(with_reducible repeat (first|refine blk_drewN ?_ _|refine blk_drew ?_|refine blk_alloc ?_ _));exact BK169.out) Try.underlying26 rfl (by kernel_rfl)) rfl ?_
                      exact ⟨by first|rfl|(rw [px_ne];rfl)|(simp [errW_none,errW_some] <;> rfl)|(simp [*,errW_none,errW_some] <;> rfl),by repeat (first|(with_reducible first|exact HB.out|apply below_alloc|apply pw_below_drewN|apply below_drew1|refine below_set ?_ GE167.out|refine below_set ?_ GE168.out|refine below_set ?_ GE169.out|refine below_set ?_ GE172.out)|exact HB.out)⟩
                     ·rw [if_neg c80] at H
                      exact absurd H (by simp)
                    ·rw [if_neg c79] at H
                     exact absurd H (by simp)
                   ·rw [if_neg c78] at H
                    exact absurd H (by simp)
                  ·rw [if_neg c77] at H
                   exact absurd H (by simp)
                 ·rw [if_neg c76] at H
                  exact absurd H (by simp)
                ·rw [if_neg c75] at H
                 exact absurd H (by simp)
               ·rw [if_neg c74] at H
                exact absurd H (by simp)
              ·rw [if_neg c73] at H
               exact absurd H (by simp)
             ·rw [if_neg c72] at H
              exact absurd H (by simp)
           ·rw [if_neg c69] at H
            exact absurd H (by simp)
          ·rw [if_neg c68] at H
           exact absurd H (by simp)
         ·rw [if_neg c67] at H
          have c67b0 : (FloatKind.f64.format.order a1_2 a0_2 == some .gt) = false:=by simpa using c67
          (try (have c67b1 : decide (FloatKind.f64.format.order a1_2 a0_2 = some .gt) = false:=by simpa using c67))
          (try (have c67b2 : (FloatKind.f64.format.order a1_2 a0_2 == some .gt) = false:=by simpa using c67))
          (try (have c67b3 : ¬ (FloatKind.f64.format.order a1_2 a0_2 = some .gt):=by simpa using c67))
          clear c67
          by_cases c93 : fok .add a0_3 a1_3 = true
          ·rw [if_pos c93] at H
           have c93b0:=eq_true c93
           have c93b1 : decide (fok .add a0_3 a1_3 = true) = true:=decide_eq_true c93
           clear c93
           by_cases c94 : fok .add a0_4 a1_4 = true
           ·rw [if_pos c94] at H
            have c94b0:=eq_true c94
            have c94b1 : decide (fok .add a0_4 a1_4 = true) = true:=decide_eq_true c94
            clear c94
            replace H:=Option.bind_eq_some_iff.mp H
            obtain ⟨t182,A950,H⟩:=H
            replace H : (if fok .add (fop .add a0_4 a1_4) t182 = true then (if fok .sub a1_5 a0_5 = true then (if fok .quo (floatOfInt .f64 a1_0) (floatOfInt .f64 (wrap64 (a0_0 + a1_0))) = true then (if fok .mul (fop .sub a1_5 a0_5) (fop .quo (floatOfInt .f64 a1_0) (floatOfInt .f64 (wrap64 (a0_0 + a1_0)))) = true then (if fok .add a0_5 (fop .mul (fop .sub a1_5 a0_5) (fop .quo (floatOfInt .f64 a1_0) (floatOfInt .f64 (wrap64 (a0_0 + a1_0))))) = true then (if fok .add a0_6 a1_6 = true then (if fok .mul (fop .sub a1_5 a0_5) (fop .sub a1_5 a0_5) = true then (if fok .mul (floatOfInt .f64 a0_0) (fop .quo (floatOfInt .f64 a1_0) (floatOfInt .f64 (wrap64 (a0_0 + a1_0)))) = true then (if fok .mul (fop .mul (fop .sub a1_5 a0_5) (fop .sub a1_5 a0_5)) (fop .mul (floatOfInt .f64 a0_0) (fop .quo (floatOfInt .f64 a1_0) (floatOfInt .f64 (wrap64 (a0_0 + a1_0))))) = true then (if fok .add (fop .add a0_6 a1_6) (fop .mul (fop .mul (fop .sub a1_5 a0_5) (fop .sub a1_5 a0_5)) (fop .mul (floatOfInt .f64 a0_0) (fop .quo (floatOfInt .f64 a1_0) (floatOfInt .f64 (wrap64 (a0_0 + a1_0)))))) = true then ((quarryref31_told.f kj45 (wrap64 (a0_0 + a1_0)) x173001_45 a0_2 (fop .add a0_3 a1_3) (fop .add (fop .add a0_4 a1_4) t182) (fop .add a0_5 (fop .mul (fop .sub a1_5 a0_5) (fop .quo (floatOfInt .f64 a1_0) (floatOfInt .f64 (wrap64 (a0_0 + a1_0)))))) (fop .add (fop .add a0_6 a1_6) (fop .mul (fop .mul (fop .sub a1_5 a0_5) (fop .sub a1_5 a0_5)) (fop .mul (floatOfInt .f64 a0_0) (fop .quo (floatOfInt .f64 a1_0) (floatOfInt .f64 (wrap64 (a0_0 + a1_0)))))))).bind fun bt183=>(some (bt183.1,bt183.2.1,bt183.2.2.1,bt183.2.2.2.1,bt183.2.2.2.2.1,bt183.2.2.2.2.2.1,bt183.2.2.2.2.2.2.1,bt183.2.2.2.2.2.2.2))) else (none)) else (none)) else (none)) else (none)) else (none)) else (none)) else (none)) else (none)) else (none)) else (if fok .sub a1_5 a0_5 = true then (if fok .quo (floatOfInt .f64 a1_0) (floatOfInt .f64 (wrap64 (a0_0 + a1_0))) = true then (if fok .mul (fop .sub a1_5 a0_5) (fop .quo (floatOfInt .f64 a1_0) (floatOfInt .f64 (wrap64 (a0_0 + a1_0)))) = true then (if fok .add a0_5 (fop .mul (fop .sub a1_5 a0_5) (fop .quo (floatOfInt .f64 a1_0) (floatOfInt .f64 (wrap64 (a0_0 + a1_0))))) = true then (if fok .add a0_6 a1_6 = true then (if fok .mul (fop .sub a1_5 a0_5) (fop .sub a1_5 a0_5) = true then (if fok .mul (floatOfInt .f64 a0_0) (fop .quo (floatOfInt .f64 a1_0) (floatOfInt .f64 (wrap64 (a0_0 + a1_0)))) = true then (if fok .mul (fop .mul (fop .sub a1_5 a0_5) (fop .sub a1_5 a0_5)) (fop .mul (floatOfInt .f64 a0_0) (fop .quo (floatOfInt .f64 a1_0) (floatOfInt .f64 (wrap64 (a0_0 + a1_0))))) = true then (if fok .add (fop .add a0_6 a1_6) (fop .mul (fop .mul (fop .sub a1_5 a0_5) (fop .sub a1_5 a0_5)) (fop .mul (floatOfInt .f64 a0_0) (fop .quo (floatOfInt .f64 a1_0) (floatOfInt .f64 (wrap64 (a0_0 + a1_0)))))) = true then ((quarryref31_told.f kj45 (wrap64 (a0_0 + a1_0)) x173001_45 a0_2 (fop .add a0_3 a1_3) nanC (fop .add a0_5 (fop .mul (fop .sub a1_5 a0_5) (fop .quo (floatOfInt .f64 a1_0) (floatOfInt .f64 (wrap64 (a0_0 + a1_0)))))) (fop .add (fop .add a0_6 a1_6) (fop .mul (fop .mul (fop .sub a1_5 a0_5) (fop .sub a1_5 a0_5)) (fop .mul (floatOfInt .f64 a0_0) (fop .quo (floatOfInt .f64 a1_0) (floatOfInt .f64 (wrap64 (a0_0 + a1_0)))))))).bind fun bt183=>(if bt183.2.2.2.2.2.2.2 = 0 then none else (some (bt183.1,bt183.2.1,bt183.2.2.1,bt183.2.2.2.1,bt183.2.2.2.2.1,bt183.2.2.2.2.2.1,bt183.2.2.2.2.2.2.1,bt183.2.2.2.2.2.2.2)))) else (none)) else (none)) else (none)) else (none)) else (none)) else (none)) else (none)) else (none)) else (none))) = some (r1,r2,r3,r4,r5,r6,r7,r8):=H
            have A95:=Aside0.mk A950
            clear A950
            by_cases c96 : fok .add (fop .add a0_4 a1_4) t182 = true
            ·rw [if_pos c96] at H
             have c96b0:=eq_true c96
             have c96b1 : decide (fok .add (fop .add a0_4 a1_4) t182 = true) = true:=decide_eq_true c96
             clear c96
             by_cases c97 : fok .sub a1_5 a0_5 = true
             ·rw [if_pos c97] at H
              have c97b0:=eq_true c97
              have c97b1 : decide (fok .sub a1_5 a0_5 = true) = true:=decide_eq_true c97
              clear c97
              by_cases c98 : fok .quo (floatOfInt .f64 a1_0) (floatOfInt .f64 (wrap64 (a0_0 + a1_0))) = true
              ·rw [if_pos c98] at H
               have c98b0:=eq_true c98
               have c98b1 : decide (fok .quo (floatOfInt .f64 a1_0) (floatOfInt .f64 (wrap64 (a0_0 + a1_0))) = true) = true:=decide_eq_true c98
               by_cases c99 : fok .mul (fop .sub a1_5 a0_5) (fop .quo (floatOfInt .f64 a1_0) (floatOfInt .f64 (wrap64 (a0_0 + a1_0)))) = true
               ·rw [if_pos c99] at H
                have c99b0:=eq_true c99
                have c99b1 : decide (fok .mul (fop .sub a1_5 a0_5) (fop .quo (floatOfInt .f64 a1_0) (floatOfInt .f64 (wrap64 (a0_0 + a1_0)))) = true) = true:=decide_eq_true c99
                by_cases c100 : fok .add a0_5 (fop .mul (fop .sub a1_5 a0_5) (fop .quo (floatOfInt .f64 a1_0) (floatOfInt .f64 (wrap64 (a0_0 + a1_0))))) = true
                ·rw [if_pos c100] at H
                 have c100b0:=eq_true c100
                 have c100b1 : decide (fok .add a0_5 (fop .mul (fop .sub a1_5 a0_5) (fop .quo (floatOfInt .f64 a1_0) (floatOfInt .f64 (wrap64 (a0_0 + a1_0))))) = true) = true:=decide_eq_true c100
                 by_cases c101 : fok .add a0_6 a1_6 = true
                 ·rw [if_pos c101] at H
                  have c101b0:=eq_true c101
                  have c101b1 : decide (fok .add a0_6 a1_6 = true) = true:=decide_eq_true c101
                  clear c101
                  by_cases c102 : fok .mul (fop .sub a1_5 a0_5) (fop .sub a1_5 a0_5) = true
                  ·rw [if_pos c102] at H
                   have c102b0:=eq_true c102
                   have c102b1 : decide (fok .mul (fop .sub a1_5 a0_5) (fop .sub a1_5 a0_5) = true) = true:=decide_eq_true c102
                   clear c102
                   by_cases c103 : fok .mul (floatOfInt .f64 a0_0) (fop .quo (floatOfInt .f64 a1_0) (floatOfInt .f64 (wrap64 (a0_0 + a1_0)))) = true
                   ·rw [if_pos c103] at H
                    have c103b0:=eq_true c103
                    have c103b1 : decide (fok .mul (floatOfInt .f64 a0_0) (fop .quo (floatOfInt .f64 a1_0) (floatOfInt .f64 (wrap64 (a0_0 + a1_0)))) = true) = true:=decide_eq_true c103
                    by_cases c104 : fok .mul (fop .mul (fop .sub a1_5 a0_5) (fop .sub a1_5 a0_5)) (fop .mul (floatOfInt .f64 a0_0) (fop .quo (floatOfInt .f64 a1_0) (floatOfInt .f64 (wrap64 (a0_0 + a1_0))))) = true
                    ·rw [if_pos c104] at H
                     have c104b0:=eq_true c104
                     have c104b1 : decide (fok .mul (fop .mul (fop .sub a1_5 a0_5) (fop .sub a1_5 a0_5)) (fop .mul (floatOfInt .f64 a0_0) (fop .quo (floatOfInt .f64 a1_0) (floatOfInt .f64 (wrap64 (a0_0 + a1_0))))) = true) = true:=decide_eq_true c104
                     by_cases c105 : fok .add (fop .add a0_6 a1_6) (fop .mul (fop .mul (fop .sub a1_5 a0_5) (fop .sub a1_5 a0_5)) (fop .mul (floatOfInt .f64 a0_0) (fop .quo (floatOfInt .f64 a1_0) (floatOfInt .f64 (wrap64 (a0_0 + a1_0)))))) = true
                     ·rw [if_pos c105] at H
                      have c105b0:=eq_true c105
                      have c105b1 : decide (fok .add (fop .add a0_6 a1_6) (fop .mul (fop .mul (fop .sub a1_5 a0_5) (fop .sub a1_5 a0_5)) (fop .mul (floatOfInt .f64 a0_0) (fop .quo (floatOfInt .f64 a1_0) (floatOfInt .f64 (wrap64 (a0_0 + a1_0)))))) = true) = true:=decide_eq_true c105
                      replace H:=Option.bind_eq_some_iff.mp H
                      obtain ⟨⟨t183,t184,t185,t186,t187,t188,t189,t190⟩,A1060,H⟩:=H
                      replace H : (some (t183,t184,t185,t186,t187,t188,t189,t190)) = some (r1,r2,r3,r4,r5,r6,r7,r8):=H
                      have A106:=Aside0.mk A1060
                      clear A1060
                      simp only [Option.some.injEq,Prod.mk.injEq] at H
                      obtain ⟨rfl,rfl,rfl,rfl,rfl,rfl,rfl,rfl⟩:=H
                      have hnb107:=NB168_167.out
                      have hnc107:=NB167_168.out
                      have hnb108:=NB168_169.out
                      have hnc108:=NB169_168.out
                      have hnb109:=NB168_172.out
                      have hnc109:=NB172_168.out
                      have hcz110_0 : wc.cell? ⟨gb168,0,none⟩ = some (.int .i64 a1_0):=(blk_cell BK168.out 0).trans rfl
                      have hcz110_1 : wc.cell? ⟨gb168,1,none⟩ = some (.float .f64 a1_1):=(blk_cell BK168.out 1).trans rfl
                      have hcz110_2 : wc.cell? ⟨gb168,2,none⟩ = some (.float .f64 a1_2):=(blk_cell BK168.out 2).trans rfl
                      have hcz110_3 : wc.cell? ⟨gb168,3,none⟩ = some (.float .f64 a1_3):=(blk_cell BK168.out 3).trans rfl
                      have hcz110_4 : wc.cell? ⟨gb168,4,none⟩ = some (.float .f64 a1_4):=(blk_cell BK168.out 4).trans rfl
                      have hcz110_5 : wc.cell? ⟨gb168,5,none⟩ = some (.float .f64 a1_5):=(blk_cell BK168.out 5).trans rfl
                      have hcz110_6 : wc.cell? ⟨gb168,6,none⟩ = some (.float .f64 a1_6):=(blk_cell BK168.out 6).trans rfl
                      have hfz110_0:=blk_frozen BK168.out 0
                      have hfz110_1:=blk_frozen BK168.out 1
                      have hfz110_2:=blk_frozen BK168.out 2
                      have hfz110_3:=blk_frozen BK168.out 3
                      have hfz110_4:=blk_frozen BK168.out 4
                      have hfz110_5:=blk_frozen BK168.out 5
                      have hfz110_6:=blk_frozen BK168.out 6
                      have hnb111:=NB167_169.out
                      have hnc111:=NB169_167.out
                      have hnb112:=NB167_172.out
                      have hnc112:=NB172_167.out
                      have hcz113_0 : wc.cell? ⟨gb167,0,none⟩ = some (.int .i64 a0_0):=(blk_cell BK167.out 0).trans rfl
                      have hcz113_1 : wc.cell? ⟨gb167,1,none⟩ = some (.float .f64 a0_1):=(blk_cell BK167.out 1).trans rfl
                      have hcz113_2 : wc.cell? ⟨gb167,2,none⟩ = some (.float .f64 a0_2):=(blk_cell BK167.out 2).trans rfl
                      have hcz113_3 : wc.cell? ⟨gb167,3,none⟩ = some (.float .f64 a0_3):=(blk_cell BK167.out 3).trans rfl
                      have hcz113_4 : wc.cell? ⟨gb167,4,none⟩ = some (.float .f64 a0_4):=(blk_cell BK167.out 4).trans rfl
                      have hcz113_5 : wc.cell? ⟨gb167,5,none⟩ = some (.float .f64 a0_5):=(blk_cell BK167.out 5).trans rfl
                      have hcz113_6 : wc.cell? ⟨gb167,6,none⟩ = some (.float .f64 a0_6):=(blk_cell BK167.out 6).trans rfl
                      have hfz113_0:=blk_frozen BK167.out 0
                      have hfz113_1:=blk_frozen BK167.out 1
                      have hfz113_2:=blk_frozen BK167.out 2
                      have hfz113_3:=blk_frozen BK167.out 3
                      have hfz113_4:=blk_frozen BK167.out 4
                      have hfz113_5:=blk_frozen BK167.out 5
                      have hfz113_6:=blk_frozen BK167.out 6
                      have hnb114:=NB172_169.out
                      have hnc114:=NB169_172.out
                      have hcz115_0 : wc.cell? ⟨gb172,0,none⟩ = some (.int .i64 (wrap64 (a0_0 + a1_0))):=(blk_cell BK172.out 0).trans rfl
                      have hcz115_1 : wc.cell? ⟨gb172,1,none⟩ = some (.float .f64 x173001_45):=(blk_cell BK172.out 1).trans rfl
                      have hcz115_2 : wc.cell? ⟨gb172,2,none⟩ = some (.float .f64 a0_2):=(blk_cell BK172.out 2).trans rfl
                      have hcz115_3 : wc.cell? ⟨gb172,3,none⟩ = some (.float .f64 a0_3):=(blk_cell BK172.out 3).trans rfl
                      have hcz115_4 : wc.cell? ⟨gb172,4,none⟩ = some (.float .f64 a0_4):=(blk_cell BK172.out 4).trans rfl
                      have hcz115_5 : wc.cell? ⟨gb172,5,none⟩ = some (.float .f64 a0_5):=(blk_cell BK172.out 5).trans rfl
                      have hcz115_6 : wc.cell? ⟨gb172,6,none⟩ = some (.float .f64 a0_6):=(blk_cell BK172.out 6).trans rfl
                      have hfz115_0:=blk_frozen BK172.out 0
                      have hfz115_1:=blk_frozen BK172.out 1
                      have hfz115_2:=blk_frozen BK172.out 2
                      have hfz115_3:=blk_frozen BK172.out 3
                      have hfz115_4:=blk_frozen BK172.out 4
                      have hfz115_5:=blk_frozen BK172.out 5
                      have hfz115_6:=blk_frozen BK172.out 6
                      go_wp2_with (first|((with_reducible refine gate_callee (f:=47) rfl ?_);refine goesL_ (some 80) rfl rfl Try.func47 (by kernel_rfl) rfl #[.float .f64 a0_3,.float .f64 a1_3,.float .f64 (fop .add a0_3 a1_3)] rfl (by (try simp only [List.map_toArray,List.map_cons,List.map_nil]);first|done|rfl|(simp only [List.length_drop,List.length_take];rfl)) ?_;(with_reducible refine (quarryref31_lost.calls a0_3 a1_3 (fop .add a0_3 a1_3) t182 _ A95.out).mono ?_);rintro e w' ⟨rfl,⟨nd,rfl⟩⟩;refine ⟨_,rfl,?_⟩)|((with_reducible refine gate_callee (f:=48) rfl ?_);refine goesL_ (some 124) rfl rfl Try.func48 (by kernel_rfl) rfl #[.agg #[.int .i64 (wrap64 (a0_0 + a1_0)),.float .f64 x173001_45,.float .f64 a0_2,.float .f64 (fop .add a0_3 a1_3),.float .f64 (fop .add (fop .add a0_4 a1_4) t182),.float .f64 (fop .add a0_5 (fop .mul (fop .sub a1_5 a0_5) (fop .quo (floatOfInt .f64 a1_0) (floatOfInt .f64 (wrap64 (a0_0 + a1_0)))))),.float .f64 (fop .add (fop .add a0_6 a1_6) (fop .mul (fop .mul (fop .sub a1_5 a0_5) (fop .sub a1_5 a0_5)) (fop .mul (floatOfInt .f64 a0_0) (fop .quo (floatOfInt .f64 a1_0) (floatOfInt .f64 (wrap64 (a0_0 + a1_0)))))))]] rfl (by (try simp only [List.map_toArray,List.map_cons,List.map_nil]);first|done|rfl|(simp only [List.length_drop,List.length_take];rfl)) ?_;(with_reducible refine (quarryref31_told.calls kj45 (wrap64 (a0_0 + a1_0)) x173001_45 a0_2 (fop .add a0_3 a1_3) (fop .add (fop .add a0_4 a1_4) t182) (fop .add a0_5 (fop .mul (fop .sub a1_5 a0_5) (fop .quo (floatOfInt .f64 a1_0) (floatOfInt .f64 (wrap64 (a0_0 + a1_0)))))) (fop .add (fop .add a0_6 a1_6) (fop .mul (fop .mul (fop .sub a1_5 a0_5) (fop .sub a1_5 a0_5)) (fop .mul (floatOfInt .f64 a0_0) (fop .quo (floatOfInt .f64 a1_0) (floatOfInt .f64 (wrap64 (a0_0 + a1_0))))))) t183 t184 t185 t186 t187 t188 t189 t190 _ A106.out).mono ?_);rintro e w116 ⟨rfl,hb⟩;refine ⟨_,rfl,?_⟩;have n0_:=Aside0.mk (blk_below (g:=gb167) (o:=.cells #[.int .i64 a0_0,.float .f64 a0_1,.float .f64 a0_2,.float .f64 a0_3,.float .f64 a0_4,.float .f64 a0_5,.float .f64 a0_6] 26 (0,0)) (by (with_reducible repeat (first|refine blk_drewN ?_ _|refine blk_drew ?_|refine blk_alloc ?_ _));refine blk_far ?_ NB167_172.out _;(with_reducible repeat (first|refine blk_drewN ?_ _|refine blk_drew ?_|refine blk_alloc ?_ _));refine blk_far ?_ NB167_172.out _;(with_reducible repeat (first|refine blk_drewN ?_ _|refine blk_drew ?_|refine blk_alloc ?_ _));refine blk_far ?_ NB167_172.out _;(with_reducible repeat (first|refine blk_drewN ?_ _|refine blk_drew ?_|refine blk_alloc ?_ _));refine blk_far ?_ NB167_172.out _;(with_reducible repeat (first|refine blk_drewN ?_ _|refine blk_drew ?_|refine blk_alloc ?_ _));exact BK167.out) hb);have n1_:=Aside0.mk (blk_below (g:=gb168) (o:=.cells #[.int .i64 a1_0,.float .f64 a1_1,.float .f64 a1_2,.float .f64 a1_3,.float .f64 a1_4,.float .f64 a1_5,.float .f64 a1_6] 26 (0,0)) (by (with_reducible repeat (first|refine blk_drewN ?_ _|refine blk_drew ?_|refine blk_alloc ?_ _));refine blk_far ?_ NB168_172.out _;(with_reducible repeat (first|refine blk_drewN ?_ _|refine blk_drew ?_|refine blk_alloc ?_ _));refine blk_far ?_ NB168_172.out _;(with_reducible repeat (first|refine blk_drewN ?_ _|refine blk_drew ?_|refine blk_alloc ?_ _));refine blk_far ?_ NB168_172.out _;(with_reducible repeat (first|refine blk_drewN ?_ _|refine blk_drew ?_|refine blk_alloc ?_ _));refine blk_far ?_ NB168_172.out _;(with_reducible repeat (first|refine blk_drewN ?_ _|refine blk_drew ?_|refine blk_alloc ?_ _));exact BK168.out) hb);have n2_:=Aside0.mk (blk_below (g:=gb169) (o:=.cells #[.int .i64 0,.float .f64 0,.float .f64 0,.float .f64 0,.float .f64 0,.float .f64 0,.float .f64 0] 26 (0,0)) (by (with_reducible repeat (first|refine blk_drewN ?_ _|refine blk_drew ?_|refine blk_alloc ?_ _));refine blk_far ?_ NB169_172.out _;(with_reducible repeat (first|refine blk_drewN ?_ _|refine blk_drew ?_|refine blk_alloc ?_ _));refine blk_far ?_ NB169_172.out _;(with_reducible repeat (first|refine blk_drewN ?_ _|refine blk_drew ?_|refine blk_alloc ?_ _));refine blk_far ?_ NB169_172.out _;(with_reducible repeat (first|refine blk_drewN ?_ _|refine blk_drew ?_|refine blk_alloc ?_ _));refine blk_far ?_ NB169_172.out _;(with_reducible repeat (first|refine blk_drewN ?_ _|refine blk_drew ?_|refine blk_alloc ?_ _));exact BK169.out) hb);have n3_:=Aside0.mk (blk_below (g:=gb172) (o:=.cells #[.int .i64 (wrap64 (a0_0 + a1_0)),.float .f64 x173001_45,.float .f64 a0_2,.float .f64 (fop .add a0_3 a1_3),.float .f64 (fop .add (fop .add a0_4 a1_4) t182),.float .f64 (fop .add a0_5 (fop .mul (fop .sub a1_5 a0_5) (fop .quo (floatOfInt .f64 a1_0) (floatOfInt .f64 (wrap64 (a0_0 + a1_0)))))),.float .f64 (fop .add (fop .add a0_6 a1_6) (fop .mul (fop .mul (fop .sub a1_5 a0_5) (fop .sub a1_5 a0_5)) (fop .mul (floatOfInt .f64 a0_0) (fop .quo (floatOfInt .f64 a1_0) (floatOfInt .f64 (wrap64 (a0_0 + a1_0)))))))] 26 (0,0)) (by (with_reducible repeat (first|refine blk_drewN ?_ _|refine blk_drew ?_|refine blk_alloc ?_ _));refine blk_put (cs:=#[.int .i64 (wrap64 (a0_0 + a1_0)),.float .f64 x173001_45,.float .f64 a0_2,.float .f64 (fop .add a0_3 a1_3),.float .f64 (fop .add (fop .add a0_4 a1_4) t182),.float .f64 (fop .add a0_5 (fop .mul (fop .sub a1_5 a0_5) (fop .quo (floatOfInt .f64 a1_0) (floatOfInt .f64 (wrap64 (a0_0 + a1_0)))))),.float .f64 a0_6]) ?_ 6 _ (by first|rfl|(simp only [px_pos,px_ne];rfl)|simp [px_pos,px_ne]);(with_reducible repeat (first|refine blk_drewN ?_ _|refine blk_drew ?_|refine blk_alloc ?_ _));refine blk_put (cs:=#[.int .i64 (wrap64 (a0_0 + a1_0)),.float .f64 x173001_45,.float .f64 a0_2,.float .f64 (fop .add a0_3 a1_3),.float .f64 (fop .add (fop .add a0_4 a1_4) t182),.float .f64 a0_5,.float .f64 a0_6]) ?_ 5 _ (by first|rfl|(simp only [px_pos,px_ne];rfl)|simp [px_pos,px_ne]);(with_reducible repeat (first|refine blk_drewN ?_ _|refine blk_drew ?_|refine blk_alloc ?_ _));refine blk_put (cs:=#[.int .i64 (wrap64 (a0_0 + a1_0)),.float .f64 x173001_45,.float .f64 a0_2,.float .f64 (fop .add a0_3 a1_3),.float .f64 a0_4,.float .f64 a0_5,.float .f64 a0_6]) ?_ 4 _ (by first|rfl|(simp only [px_pos,px_ne];rfl)|simp [px_pos,px_ne]);(with_reducible repeat (first|refine blk_drewN ?_ _|refine blk_drew ?_|refine blk_alloc ?_ _));refine blk_put (cs:=#[.int .i64 (wrap64 (a0_0 + a1_0)),.float .f64 x173001_45,.float .f64 a0_2,.float .f64 a0_3,.float .f64 a0_4,.float .f64 a0_5,.float .f64 a0_6]) ?_ 3 _ (by first|rfl|(simp only [px_pos,px_ne];rfl)|simp [px_pos,px_ne]);(with_reducible repeat (first|refine blk_drewN ?_ _|refine blk_drew ?_|refine blk_alloc ?_ _));exact BK172.out) hb);have n4_:=Aside0.mk (below_step (by repeat (first|(with_reducible first|exact HB.out|apply below_alloc|apply pw_below_drewN|apply below_drew1|refine below_set ?_ GE167.out|refine below_set ?_ GE168.out|refine below_set ?_ GE169.out|refine below_set ?_ GE172.out)|exact HB.out)) hb);clear BK167;clear BK168;clear BK169;clear BK172;clear HB;have BK167:=n0_;have BK168:=n1_;have BK169:=n2_;have BK172:=n3_;have HB:=n4_;clear n0_ n1_ n2_ n3_ n4_;(try clear hb);(try clear hb2);(try clear hk);(try clear hi);have hcz117_0 : w116.cell? ⟨gb169,0,none⟩ = some (.int .i64 0):=(blk_cell BK169.out 0).trans rfl;have hcz117_1 : w116.cell? ⟨gb169,1,none⟩ = some (.float .f64 0):=(blk_cell BK169.out 1).trans rfl;have hcz117_2 : w116.cell? ⟨gb169,2,none⟩ = some (.float .f64 0):=(blk_cell BK169.out 2).trans rfl;have hcz117_3 : w116.cell? ⟨gb169,3,none⟩ = some (.float .f64 0):=(blk_cell BK169.out 3).trans rfl;have hcz117_4 : w116.cell? ⟨gb169,4,none⟩ = some (.float .f64 0):=(blk_cell BK169.out 4).trans rfl;have hcz117_5 : w116.cell? ⟨gb169,5,none⟩ = some (.float .f64 0):=(blk_cell BK169.out 5).trans rfl;have hcz117_6 : w116.cell? ⟨gb169,6,none⟩ = some (.float .f64 0):=(blk_cell BK169.out 6).trans rfl;have hfz117_0:=blk_frozen BK169.out 0;have hfz117_1:=blk_frozen BK169.out 1;have hfz117_2:=blk_frozen BK169.out 2;have hfz117_3:=blk_frozen BK169.out 3;have hfz117_4:=blk_frozen BK169.out 4;have hfz117_5:=blk_frozen BK169.out 5;have hfz117_6:=blk_frozen BK169.out 6))
                      refine bodyPost_ret (results_ct rfl _ _ gb169 26 #[.int .i64 t183,.float .f64 t184,.float .f64 t185,.float .f64 t186,.float .f64 t187,.float .f64 t188,.float .f64 t189] (0,0) _ rfl (by (with_reducible repeat (first|refine blk_drewN ?_ _|refine blk_drew ?_|refine blk_alloc ?_ _));refine blk_put (cs:=#[.int .i64 t183,.float .f64 t184,.float .f64 t185,.float .f64 t186,.float .f64 t187,.float .f64 t188,.float .f64 0]) ?_ 6 _ (by first|rfl|(simp only [px_pos,px_ne];rfl)|simp [px_pos,px_ne]);(with_reducible repeat (first|refine blk_drewN ?_ _|refine blk_drew ?_|refine blk_alloc ?_ _));refine blk_put (cs:=#[.int .i64 t183,.float .f64 t184,.float .f64 t185,.float .f64 t186,.float .f64 t187,.float .f64 0,.float .f64 0]) ?_ 5 _ (by first|rfl|(simp only [px_pos,px_ne];rfl)|simp [px_pos,px_ne]);(with_reducible repeat (first|refine blk_drewN ?_ _|refine blk_drew ?_|refine blk_alloc ?_ _));refine blk_put (cs:=#[.int .i64 t183,.float .f64 t184,.float .f64 t185,.float .f64 t186,.float .f64 0,.float .f64 0,.float .f64 0]) ?_ 4 _ (by first|rfl|(simp only [px_pos,px_ne];rfl)|simp [px_pos,px_ne]);(with_reducible repeat (first|refine blk_drewN ?_ _|refine blk_drew ?_|refine blk_alloc ?_ _));refine blk_put (cs:=#[.int .i64 t183,.float .f64 t184,.float .f64 t185,.float .f64 0,.float .f64 0,.float .f64 0,.float .f64 0]) ?_ 3 _ (by first|rfl|(simp only [px_pos,px_ne];rfl)|simp [px_pos,px_ne]);(with_reducible repeat (first|refine blk_drewN ?_ _|refine blk_drew ?_|refine blk_alloc ?_ _));refine blk_put (cs:=#[.int .i64 t183,.float .f64 t184,.float .f64 0,.float .f64 0,.float .f64 0,.float .f64 0,.float .f64 0]) ?_ 2 _ (by first|rfl|(simp only [px_pos,px_ne];rfl)|simp [px_pos,px_ne]);(with_reducible repeat (first|refine blk_drewN ?_ _|refine blk_drew ?_|refine blk_alloc ?_ _));refine blk_put (cs:=#[.int .i64 t183,.float .f64 0,.float .f64 0,.float .f64 0,.float .f64 0,.float .f64 0,.float .f64 0]) ?_ 1 _ (by first|rfl|(simp only [px_pos,px_ne];rfl)|simp [px_pos,px_ne]);(with_reducible repeat (first|refine blk_drewN ?_ _|refine blk_drew ?_|refine blk_alloc ?_ _));refine blk_put (cs:=#[.int .i64 0,.float .f64 0,.float .f64 0,.float .f64 0,.float .f64 0,.float .f64 0,.float .f64 0]) ?_ 0 _ (by first|rfl|(simp only [px_pos,px_ne];rfl)|simp [px_pos,px_ne]);(with_reducible repeat (first|refine blk_drewN ?_ _|refine blk_drew ?_|refine blk_alloc ?_ _));exact BK169.out) Try.underlying26 rfl (by kernel_rfl)) rfl ?_
                      exact ⟨by first|rfl|(rw [px_ne];rfl)|(simp [errW_none,errW_some] <;> rfl)|(simp [*,errW_none,errW_some] <;> rfl),by repeat (first|(with_reducible first|exact HB.out|apply below_alloc|apply pw_below_drewN|apply below_drew1|refine below_set ?_ GE167.out|refine below_set ?_ GE168.out|refine below_set ?_ GE169.out|refine below_set ?_ GE172.out)|exact HB.out)⟩
                     ·rw [if_neg c105] at H
                      exact absurd H (by simp)
                    ·rw [if_neg c104] at H
                     exact absurd H (by simp)
                   ·rw [if_neg c103] at H
                    exact absurd H (by simp)
                  ·rw [if_neg c102] at H
                   exact absurd H (by simp)
                 ·rw [if_neg c101] at H
                  exact absurd H (by simp)
                ·rw [if_neg c100] at H
                 exact absurd H (by simp)
               ·rw [if_neg c99] at H
                exact absurd H (by simp)
              ·rw [if_neg c98] at H
               exact absurd H (by simp)
             ·rw [if_neg c97] at H
              exact absurd H (by simp)
            ·rw [if_neg c96] at H
             have c96b0 : fok .add (fop .add a0_4 a1_4) t182 = false:=Bool.eq_false_iff.mpr c96
             clear c96
             by_cases c97 : fok .sub a1_5 a0_5 = true
             ·rw [if_pos c97] at H
              have c97b0:=eq_true c97
              have c97b1 : decide (fok .sub a1_5 a0_5 = true) = true:=decide_eq_true c97
              clear c97
              by_cases c98 : fok .quo (floatOfInt .f64 a1_0) (floatOfInt .f64 (wrap64 (a0_0 + a1_0))) = true
              ·rw [if_pos c98] at H
               have c98b0:=eq_true c98
               have c98b1 : decide (fok .quo (floatOfInt .f64 a1_0) (floatOfInt .f64 (wrap64 (a0_0 + a1_0))) = true) = true:=decide_eq_true c98
               by_cases c99 : fok .mul (fop .sub a1_5 a0_5) (fop .quo (floatOfInt .f64 a1_0) (floatOfInt .f64 (wrap64 (a0_0 + a1_0)))) = true
               ·rw [if_pos c99] at H
                have c99b0:=eq_true c99
                have c99b1 : decide (fok .mul (fop .sub a1_5 a0_5) (fop .quo (floatOfInt .f64 a1_0) (floatOfInt .f64 (wrap64 (a0_0 + a1_0)))) = true) = true:=decide_eq_true c99
                by_cases c100 : fok .add a0_5 (fop .mul (fop .sub a1_5 a0_5) (fop .quo (floatOfInt .f64 a1_0) (floatOfInt .f64 (wrap64 (a0_0 + a1_0))))) = true
                ·rw [if_pos c100] at H
                 have c100b0:=eq_true c100
                 have c100b1 : decide (fok .add a0_5 (fop .mul (fop .sub a1_5 a0_5) (fop .quo (floatOfInt .f64 a1_0) (floatOfInt .f64 (wrap64 (a0_0 + a1_0))))) = true) = true:=decide_eq_true c100
                 by_cases c101 : fok .add a0_6 a1_6 = true
                 ·rw [if_pos c101] at H
                  have c101b0:=eq_true c101
                  have c101b1 : decide (fok .add a0_6 a1_6 = true) = true:=decide_eq_true c101
                  clear c101
                  by_cases c102 : fok .mul (fop .sub a1_5 a0_5) (fop .sub a1_5 a0_5) = true
                  ·rw [if_pos c102] at H
                   have c102b0:=eq_true c102
                   have c102b1 : decide (fok .mul (fop .sub a1_5 a0_5) (fop .sub a1_5 a0_5) = true) = true:=decide_eq_true c102
                   clear c102
                   by_cases c103 : fok .mul (floatOfInt .f64 a0_0) (fop .quo (floatOfInt .f64 a1_0) (floatOfInt .f64 (wrap64 (a0_0 + a1_0)))) = true
                   ·rw [if_pos c103] at H
                    have c103b0:=eq_true c103
                    have c103b1 : decide (fok .mul (floatOfInt .f64 a0_0) (fop .quo (floatOfInt .f64 a1_0) (floatOfInt .f64 (wrap64 (a0_0 + a1_0)))) = true) = true:=decide_eq_true c103
                    by_cases c104 : fok .mul (fop .mul (fop .sub a1_5 a0_5) (fop .sub a1_5 a0_5)) (fop .mul (floatOfInt .f64 a0_0) (fop .quo (floatOfInt .f64 a1_0) (floatOfInt .f64 (wrap64 (a0_0 + a1_0))))) = true
                    ·rw [if_pos c104] at H
                     have c104b0:=eq_true c104
                     have c104b1 : decide (fok .mul (fop .mul (fop .sub a1_5 a0_5) (fop .sub a1_5 a0_5)) (fop .mul (floatOfInt .f64 a0_0) (fop .quo (floatOfInt .f64 a1_0) (floatOfInt .f64 (wrap64 (a0_0 + a1_0))))) = true) = true:=decide_eq_true c104
                     by_cases c105 : fok .add (fop .add a0_6 a1_6) (fop .mul (fop .mul (fop .sub a1_5 a0_5) (fop .sub a1_5 a0_5)) (fop .mul (floatOfInt .f64 a0_0) (fop .quo (floatOfInt .f64 a1_0) (floatOfInt .f64 (wrap64 (a0_0 + a1_0)))))) = true
                     ·rw [if_pos c105] at H
                      have c105b0:=eq_true c105
                      have c105b1 : decide (fok .add (fop .add a0_6 a1_6) (fop .mul (fop .mul (fop .sub a1_5 a0_5) (fop .sub a1_5 a0_5)) (fop .mul (floatOfInt .f64 a0_0) (fop .quo (floatOfInt .f64 a1_0) (floatOfInt .f64 (wrap64 (a0_0 + a1_0)))))) = true) = true:=decide_eq_true c105
                      replace H:=Option.bind_eq_some_iff.mp H
                      obtain ⟨⟨t183,t184,t185,t186,t187,t188,t189,t190⟩,A1060,H⟩:=H
                      replace H : (if t190 = 0 then none else (some (t183,t184,t185,t186,t187,t188,t189,t190))) = some (r1,r2,r3,r4,r5,r6,r7,r8):=H
                      have hz_ : ¬ (t190 = 0):=fun g_=>by rw [if_pos g_] at H;cases H
                      rw [if_neg hz_] at H
                      have A106:=Aside0.mk (fun n_ (hn_ : isNan n_)=>told_nan hn_ A1060 hz_)
                      clear A1060
                      simp only [Option.some.injEq,Prod.mk.injEq] at H
                      obtain ⟨rfl,rfl,rfl,rfl,rfl,rfl,rfl,rfl⟩:=H
                      have hnb107:=NB168_167.out
                      have hnc107:=NB167_168.out
                      have hnb108:=NB168_169.out
                      have hnc108:=NB169_168.out
                      have hnb109:=NB168_172.out
                      have hnc109:=NB172_168.out
                      have hcz110_0 : wc.cell? ⟨gb168,0,none⟩ = some (.int .i64 a1_0):=(blk_cell BK168.out 0).trans rfl
                      have hcz110_1 : wc.cell? ⟨gb168,1,none⟩ = some (.float .f64 a1_1):=(blk_cell BK168.out 1).trans rfl
                      have hcz110_2 : wc.cell? ⟨gb168,2,none⟩ = some (.float .f64 a1_2):=(blk_cell BK168.out 2).trans rfl
                      have hcz110_3 : wc.cell? ⟨gb168,3,none⟩ = some (.float .f64 a1_3):=(blk_cell BK168.out 3).trans rfl
                      have hcz110_4 : wc.cell? ⟨gb168,4,none⟩ = some (.float .f64 a1_4):=(blk_cell BK168.out 4).trans rfl
                      have hcz110_5 : wc.cell? ⟨gb168,5,none⟩ = some (.float .f64 a1_5):=(blk_cell BK168.out 5).trans rfl
                      have hcz110_6 : wc.cell? ⟨gb168,6,none⟩ = some (.float .f64 a1_6):=(blk_cell BK168.out 6).trans rfl
                      have hfz110_0:=blk_frozen BK168.out 0
                      have hfz110_1:=blk_frozen BK168.out 1
                      have hfz110_2:=blk_frozen BK168.out 2
                      have hfz110_3:=blk_frozen BK168.out 3
                      have hfz110_4:=blk_frozen BK168.out 4
                      have hfz110_5:=blk_frozen BK168.out 5
                      have hfz110_6:=blk_frozen BK168.out 6
                      have hnb111:=NB167_169.out
                      have hnc111:=NB169_167.out
                      have hnb112:=NB167_172.out
                      have hnc112:=NB172_167.out
                      have hcz113_0 : wc.cell? ⟨gb167,0,none⟩ = some (.int .i64 a0_0):=(blk_cell BK167.out 0).trans rfl
                      have hcz113_1 : wc.cell? ⟨gb167,1,none⟩ = some (.float .f64 a0_1):=(blk_cell BK167.out 1).trans rfl
                      have hcz113_2 : wc.cell? ⟨gb167,2,none⟩ = some (.float .f64 a0_2):=(blk_cell BK167.out 2).trans rfl
                      have hcz113_3 : wc.cell? ⟨gb167,3,none⟩ = some (.float .f64 a0_3):=(blk_cell BK167.out 3).trans rfl
                      have hcz113_4 : wc.cell? ⟨gb167,4,none⟩ = some (.float .f64 a0_4):=(blk_cell BK167.out 4).trans rfl
                      have hcz113_5 : wc.cell? ⟨gb167,5,none⟩ = some (.float .f64 a0_5):=(blk_cell BK167.out 5).trans rfl
                      have hcz113_6 : wc.cell? ⟨gb167,6,none⟩ = some (.float .f64 a0_6):=(blk_cell BK167.out 6).trans rfl
                      have hfz113_0:=blk_frozen BK167.out 0
                      have hfz113_1:=blk_frozen BK167.out 1
                      have hfz113_2:=blk_frozen BK167.out 2
                      have hfz113_3:=blk_frozen BK167.out 3
                      have hfz113_4:=blk_frozen BK167.out 4
                      have hfz113_5:=blk_frozen BK167.out 5
                      have hfz113_6:=blk_frozen BK167.out 6
                      have hnb114:=NB172_169.out
                      have hnc114:=NB169_172.out
                      have hcz115_0 : wc.cell? ⟨gb172,0,none⟩ = some (.int .i64 (wrap64 (a0_0 + a1_0))):=(blk_cell BK172.out 0).trans rfl
                      have hcz115_1 : wc.cell? ⟨gb172,1,none⟩ = some (.float .f64 x173001_45):=(blk_cell BK172.out 1).trans rfl
                      have hcz115_2 : wc.cell? ⟨gb172,2,none⟩ = some (.float .f64 a0_2):=(blk_cell BK172.out 2).trans rfl
                      have hcz115_3 : wc.cell? ⟨gb172,3,none⟩ = some (.float .f64 a0_3):=(blk_cell BK172.out 3).trans rfl
                      have hcz115_4 : wc.cell? ⟨gb172,4,none⟩ = some (.float .f64 a0_4):=(blk_cell BK172.out 4).trans rfl
                      have hcz115_5 : wc.cell? ⟨gb172,5,none⟩ = some (.float .f64 a0_5):=(blk_cell BK172.out 5).trans rfl
                      have hcz115_6 : wc.cell? ⟨gb172,6,none⟩ = some (.float .f64 a0_6):=(blk_cell BK172.out 6).trans rfl
                      have hfz115_0:=blk_frozen BK172.out 0
                      have hfz115_1:=blk_frozen BK172.out 1
                      have hfz115_2:=blk_frozen BK172.out 2
                      have hfz115_3:=blk_frozen BK172.out 3
                      have hfz115_4:=blk_frozen BK172.out 4
                      have hfz115_5:=blk_frozen BK172.out 5
                      have hfz115_6:=blk_frozen BK172.out 6
                      go_wp2_with (first|((with_reducible refine gate_callee (f:=47) rfl ?_);refine goesL_ (some 80) rfl rfl Try.func47 (by kernel_rfl) rfl #[.float .f64 a0_3,.float .f64 a1_3,.float .f64 (fop .add a0_3 a1_3)] rfl (by (try simp only [List.map_toArray,List.map_cons,List.map_nil]);first|done|rfl|(simp only [List.length_drop,List.length_take];rfl)) ?_;(with_reducible refine (quarryref31_lost.calls a0_3 a1_3 (fop .add a0_3 a1_3) t182 _ A95.out).mono ?_);rintro e w' ⟨rfl,⟨nd,rfl⟩⟩;refine ⟨_,rfl,?_⟩)|((with_reducible refine gate_callee (f:=48) rfl ?_);refine goesL_ (some 124) rfl rfl Try.func48 (by kernel_rfl) rfl #[.agg #[.int .i64 (wrap64 (a0_0 + a1_0)),.float .f64 x173001_45,.float .f64 a0_2,.float .f64 (fop .add a0_3 a1_3),.float .f64 (nanOf ((wc.setCell ⟨gb172,3,none⟩ (.float .f64 (fop .add a0_3 a1_3))).drewN nd) (fop .add a0_4 a1_4) t182),.float .f64 (fop .add a0_5 (fop .mul (fop .sub a1_5 a0_5) (fop .quo (floatOfInt .f64 a1_0) (floatOfInt .f64 (wrap64 (a0_0 + a1_0)))))),.float .f64 (fop .add (fop .add a0_6 a1_6) (fop .mul (fop .mul (fop .sub a1_5 a0_5) (fop .sub a1_5 a0_5)) (fop .mul (floatOfInt .f64 a0_0) (fop .quo (floatOfInt .f64 a1_0) (floatOfInt .f64 (wrap64 (a0_0 + a1_0)))))))]] rfl (by (try simp only [List.map_toArray,List.map_cons,List.map_nil]);first|done|rfl|(simp only [List.length_drop,List.length_take];rfl)) ?_;(with_reducible refine (quarryref31_told.calls kj45 (wrap64 (a0_0 + a1_0)) x173001_45 a0_2 (fop .add a0_3 a1_3) (nanOf ((wc.setCell ⟨gb172,3,none⟩ (.float .f64 (fop .add a0_3 a1_3))).drewN nd) (fop .add a0_4 a1_4) t182) (fop .add a0_5 (fop .mul (fop .sub a1_5 a0_5) (fop .quo (floatOfInt .f64 a1_0) (floatOfInt .f64 (wrap64 (a0_0 + a1_0)))))) (fop .add (fop .add a0_6 a1_6) (fop .mul (fop .mul (fop .sub a1_5 a0_5) (fop .sub a1_5 a0_5)) (fop .mul (floatOfInt .f64 a0_0) (fop .quo (floatOfInt .f64 a1_0) (floatOfInt .f64 (wrap64 (a0_0 + a1_0))))))) t183 t184 t185 t186 t187 t188 t189 t190 _ (A106.out _ (nan_nanOf _ _ _))).mono ?_);rintro e w116 ⟨rfl,hb⟩;refine ⟨_,rfl,?_⟩;have n0_:=Aside0.mk (blk_below (g:=gb167) (o:=.cells #[.int .i64 a0_0,.float .f64 a0_1,.float .f64 a0_2,.float .f64 a0_3,.float .f64 a0_4,.float .f64 a0_5,.float .f64 a0_6] 26 (0,0)) (by (with_reducible repeat (first|refine blk_drewN ?_ _|refine blk_drew ?_|refine blk_alloc ?_ _));refine blk_far ?_ NB167_172.out _;(with_reducible repeat (first|refine blk_drewN ?_ _|refine blk_drew ?_|refine blk_alloc ?_ _));refine blk_far ?_ NB167_172.out _;(with_reducible repeat (first|refine blk_drewN ?_ _|refine blk_drew ?_|refine blk_alloc ?_ _));refine blk_far ?_ NB167_172.out _;(with_reducible repeat (first|refine blk_drewN ?_ _|refine blk_drew ?_|refine blk_alloc ?_ _));refine blk_far ?_ NB167_172.out _;(with_reducible repeat (first|refine blk_drewN ?_ _|refine blk_drew ?_|refine blk_alloc ?_ _));exact BK167.out) hb);have n1_:=Aside0.mk (blk_below (g:=gb168) (o:=.cells #[.int .i64 a1_0,.float .f64 a1_1,.float .f64 a1_2,.float .f64 a1_3,.float .f64 a1_4,.float .f64 a1_5,.float .f64 a1_6] 26 (0,0)) (by (with_reducible repeat (first|refine blk_drewN ?_ _|refine blk_drew ?_|refine blk_alloc ?_ _));refine blk_far ?_ NB168_172.out _;(with_reducible repeat (first|refine blk_drewN ?_ _|refine blk_drew ?_|refine blk_alloc ?_ _));refine blk_far ?_ NB168_172.out _;(with_reducible repeat (first|refine blk_drewN ?_ _|refine blk_drew ?_|refine blk_alloc ?_ _));refine blk_far ?_ NB168_172.out _;(with_reducible repeat (first|refine blk_drewN ?_ _|refine blk_drew ?_|refine blk_alloc ?_ _));refine blk_far ?_ NB168_172.out _;(with_reducible repeat (first|refine blk_drewN ?_ _|refine blk_drew ?_|refine blk_alloc ?_ _));exact BK168.out) hb);have n2_:=Aside0.mk (blk_below (g:=gb169) (o:=.cells #[.int .i64 0,.float .f64 0,.float .f64 0,.float .f64 0,.float .f64 0,.float .f64 0,.float .f64 0] 26 (0,0)) (by (with_reducible repeat (first|refine blk_drewN ?_ _|refine blk_drew ?_|refine blk_alloc ?_ _));refine blk_far ?_ NB169_172.out _;(with_reducible repeat (first|refine blk_drewN ?_ _|refine blk_drew ?_|refine blk_alloc ?_ _));refine blk_far ?_ NB169_172.out _;(with_reducible repeat (first|refine blk_drewN ?_ _|refine blk_drew ?_|refine blk_alloc ?_ _));refine blk_far ?_ NB169_172.out _;(with_reducible repeat (first|refine blk_drewN ?_ _|refine blk_drew ?_|refine blk_alloc ?_ _));refine blk_far ?_ NB169_172.out _;(with_reducible repeat (first|refine blk_drewN ?_ _|refine blk_drew ?_|refine blk_alloc ?_ _));exact BK169.out) hb);have n3_:=Aside0.mk (blk_below (g:=gb172) (o:=.cells #[.int .i64 (wrap64 (a0_0 + a1_0)),.float .f64 x173001_45,.float .f64 a0_2,.float .f64 (fop .add a0_3 a1_3),.float .f64 (nanOf ((wc.setCell ⟨gb172,3,none⟩ (.float .f64 (fop .add a0_3 a1_3))).drewN nd) (fop .add a0_4 a1_4) t182),.float .f64 (fop .add a0_5 (fop .mul (fop .sub a1_5 a0_5) (fop .quo (floatOfInt .f64 a1_0) (floatOfInt .f64 (wrap64 (a0_0 + a1_0)))))),.float .f64 (fop .add (fop .add a0_6 a1_6) (fop .mul (fop .mul (fop .sub a1_5 a0_5) (fop .sub a1_5 a0_5)) (fop .mul (floatOfInt .f64 a0_0) (fop .quo (floatOfInt .f64 a1_0) (floatOfInt .f64 (wrap64 (a0_0 + a1_0)))))))] 26 (0,0)) (by (with_reducible repeat (first|refine blk_drewN ?_ _|refine blk_drew ?_|refine blk_alloc ?_ _));refine blk_put (cs:=#[.int .i64 (wrap64 (a0_0 + a1_0)),.float .f64 x173001_45,.float .f64 a0_2,.float .f64 (fop .add a0_3 a1_3),.float .f64 (nanOf ((wc.setCell ⟨gb172,3,none⟩ (.float .f64 (fop .add a0_3 a1_3))).drewN nd) (fop .add a0_4 a1_4) t182),.float .f64 (fop .add a0_5 (fop .mul (fop .sub a1_5 a0_5) (fop .quo (floatOfInt .f64 a1_0) (floatOfInt .f64 (wrap64 (a0_0 + a1_0)))))),.float .f64 a0_6]) ?_ 6 _ (by first|rfl|(simp only [px_pos,px_ne];rfl)|simp [px_pos,px_ne]);(with_reducible repeat (first|refine blk_drewN ?_ _|refine blk_drew ?_|refine blk_alloc ?_ _));refine blk_put (cs:=#[.int .i64 (wrap64 (a0_0 + a1_0)),.float .f64 x173001_45,.float .f64 a0_2,.float .f64 (fop .add a0_3 a1_3),.float .f64 (nanOf ((wc.setCell ⟨gb172,3,none⟩ (.float .f64 (fop .add a0_3 a1_3))).drewN nd) (fop .add a0_4 a1_4) t182),.float .f64 a0_5,.float .f64 a0_6]) ?_ 5 _ (by first|rfl|(simp only [px_pos,px_ne];rfl)|simp [px_pos,px_ne]);(with_reducible repeat (first|refine blk_drewN ?_ _|refine blk_drew ?_|refine blk_alloc ?_ _));refine blk_put (cs:=#[.int .i64 (wrap64 (a0_0 + a1_0)),.float .f64 x173001_45,.float .f64 a0_2,.float .f64 (fop .add a0_3 a1_3),.float .f64 a0_4,.float .f64 a0_5,.float .f64 a0_6]) ?_ 4 _ (by first|rfl|(simp only [px_pos,px_ne];rfl)|simp [px_pos,px_ne]);(with_reducible repeat (first|refine blk_drewN ?_ _|refine blk_drew ?_|refine blk_alloc ?_ _));refine blk_put (cs:=#[.int .i64 (wrap64 (a0_0 + a1_0)),.float .f64 x173001_45,.float .f64 a0_2,.float .f64 a0_3,.float .f64 a0_4,.float .f64 a0_5,.float .f64 a0_6]) ?_ 3 _ (by first|rfl|(simp only [px_pos,px_ne];rfl)|simp [px_pos,px_ne]);(with_reducible repeat (first|refine blk_drewN ?_ _|refine blk_drew ?_|refine blk_alloc ?_ _));exact BK172.out) hb);have n4_:=Aside0.mk (below_step (by repeat (first|(with_reducible first|exact HB.out|apply below_alloc|apply pw_below_drewN|apply below_drew1|refine below_set ?_ GE167.out|refine below_set ?_ GE168.out|refine below_set ?_ GE169.out|refine below_set ?_ GE172.out)|exact HB.out)) hb);clear BK167;clear BK168;clear BK169;clear BK172;clear HB;have BK167:=n0_;have BK168:=n1_;have BK169:=n2_;have BK172:=n3_;have HB:=n4_;clear n0_ n1_ n2_ n3_ n4_;(try clear hb);(try clear hb2);(try clear hk);(try clear hi);have hcz117_0 : w116.cell? ⟨gb169,0,none⟩ = some (.int .i64 0):=(blk_cell BK169.out 0).trans rfl;have hcz117_1 : w116.cell? ⟨gb169,1,none⟩ = some (.float .f64 0):=(blk_cell BK169.out 1).trans rfl;have hcz117_2 : w116.cell? ⟨gb169,2,none⟩ = some (.float .f64 0):=(blk_cell BK169.out 2).trans rfl;have hcz117_3 : w116.cell? ⟨gb169,3,none⟩ = some (.float .f64 0):=(blk_cell BK169.out 3).trans rfl;have hcz117_4 : w116.cell? ⟨gb169,4,none⟩ = some (.float .f64 0):=(blk_cell BK169.out 4).trans rfl;have hcz117_5 : w116.cell? ⟨gb169,5,none⟩ = some (.float .f64 0):=(blk_cell BK169.out 5).trans rfl;have hcz117_6 : w116.cell? ⟨gb169,6,none⟩ = some (.float .f64 0):=(blk_cell BK169.out 6).trans rfl;have hfz117_0:=blk_frozen BK169.out 0;have hfz117_1:=blk_frozen BK169.out 1;have hfz117_2:=blk_frozen BK169.out 2;have hfz117_3:=blk_frozen BK169.out 3;have hfz117_4:=blk_frozen BK169.out 4;have hfz117_5:=blk_frozen BK169.out 5;have hfz117_6:=blk_frozen BK169.out 6))
                      refine bodyPost_ret (results_ct rfl _ _ gb169 26 #[.int .i64 t183,.float .f64 t184,.float .f64 t185,.float .f64 t186,.float .f64 t187,.float .f64 t188,.float .f64 t189] (0,0) _ rfl (by (with_reducible repeat (first|refine blk_drewN ?_ _|refine blk_drew ?_|refine blk_alloc ?_ _));refine blk_put (cs:=#[.int .i64 t183,.float .f64 t184,.float .f64 t185,.float .f64 t186,.float .f64 t187,.float .f64 t188,.float .f64 0]) ?_ 6 _ (by first|rfl|(simp only [px_pos,px_ne];rfl)|simp [px_pos,px_ne]);(with_reducible repeat (first|refine blk_drewN ?_ _|refine blk_drew ?_|refine blk_alloc ?_ _));refine blk_put (cs:=#[.int .i64 t183,.float .f64 t184,.float .f64 t185,.float .f64 t186,.float .f64 t187,.float .f64 0,.float .f64 0]) ?_ 5 _ (by first|rfl|(simp only [px_pos,px_ne];rfl)|simp [px_pos,px_ne]);(with_reducible repeat (first|refine blk_drewN ?_ _|refine blk_drew ?_|refine blk_alloc ?_ _));refine blk_put (cs:=#[.int .i64 t183,.float .f64 t184,.float .f64 t185,.float .f64 t186,.float .f64 0,.float .f64 0,.float .f64 0]) ?_ 4 _ (by first|rfl|(simp only [px_pos,px_ne];rfl)|simp [px_pos,px_ne]);(with_reducible repeat (first|refine blk_drewN ?_ _|refine blk_drew ?_|refine blk_alloc ?_ _));refine blk_put (cs:=#[.int .i64 t183,.float .f64 t184,.float .f64 t185,.float .f64 0,.float .f64 0,.float .f64 0,.float .f64 0]) ?_ 3 _ (by first|rfl|(simp only [px_pos,px_ne];rfl)|simp [px_pos,px_ne]);(with_reducible repeat (first|refine blk_drewN ?_ _|refine blk_drew ?_|refine blk_alloc ?_ _));refine blk_put (cs:=#[.int .i64 t183,.float .f64 t184,.float .f64 0,.float .f64 0,.float .f64 0,.float .f64 0,.float .f64 0]) ?_ 2 _ (by first|rfl|(simp only [px_pos,px_ne];rfl)|simp [px_pos,px_ne]);(with_reducible repeat (first|refine blk_drewN ?_ _|refine blk_drew ?_|refine blk_alloc ?_ _));refine blk_put (cs:=#[.int .i64 t183,.float .f64 0,.float .f64 0,.float .f64 0,.float .f64 0,.float .f64 0,.float .f64 0]) ?_ 1 _ (by first|rfl|(simp only [px_pos,px_ne];rfl)|simp [px_pos,px_ne]);(with_reducible repeat (first|refine blk_drewN ?_ _|refine blk_drew ?_|refine blk_alloc ?_ _));refine blk_put (cs:=#[.int .i64 0,.float .f64 0,.float .f64 0,.float .f64 0,.float .f64 0,.float .f64 0,.float .f64 0]) ?_ 0 _ (by first|rfl|(simp only [px_pos,px_ne];rfl)|simp [px_pos,px_ne]);(with_reducible repeat (first|refine blk_drewN ?_ _|refine blk_drew ?_|refine blk_alloc ?_ _));exact BK169.out) Try.underlying26 rfl (by kernel_rfl)) rfl ?_
                      exact ⟨by first|rfl|(rw [px_ne];rfl)|(simp [errW_none,errW_some] <;> rfl)|(simp [*,errW_none,errW_some] <;> rfl),by repeat (first|(with_reducible first|exact HB.out|apply below_alloc|apply pw_below_drewN|apply below_drew1|refine below_set ?_ GE167.out|refine below_set ?_ GE168.out|refine below_set ?_ GE169.out|refine below_set ?_ GE172.out)|exact HB.out)⟩
                     ·rw [if_neg c105] at H
                      exact absurd H (by simp)
                    ·rw [if_neg c104] at H
                     exact absurd H (by simp)
                   ·rw [if_neg c103] at H
                    exact absurd H (by simp)
                  ·rw [if_neg c102] at H
                   exact absurd H (by simp)
                 ·rw [if_neg c101] at H
                  exact absurd H (by simp)
                ·rw [if_neg c100] at H
                 exact absurd H (by simp)
               ·rw [if_neg c99] at H
                exact absurd H (by simp)
              ·rw [if_neg c98] at H
               exact absurd H (by simp)
             ·rw [if_neg c97] at H
              exact absurd H (by simp)
           ·rw [if_neg c94] at H
            exact absurd H (by simp)
          ·rw [if_neg c93] at H
           exact absurd H (by simp)
end Go.Proofs.Ytijmdmnhbbcahaa.PTallyJoins
