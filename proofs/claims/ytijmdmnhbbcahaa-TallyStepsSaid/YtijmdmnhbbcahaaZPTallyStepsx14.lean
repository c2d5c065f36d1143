-- Written by shrink.py, a program of this session: what the law needs of the print and its words. Lean checks it.
import Derived.Test.YtijmdmnhbbcahaaZPTallyStepsx0
import Derived.Test.YtijmdmnhbbcahaaZPTallyStepsx5
import Derived.Test.YtijmdmnhbbcahaaZPTallyStepsx6
import Derived.Test.YtijmdmnhbbcahaaZPTallyStepsx8
import Derived.Test.YtijmdmnhbbcahaaZPTallyStepsx11
import Derived.Test.YtijmdmnhbbcahaaZPTallyStepsx12
import Derived.Test.YtijmdmnhbbcahaaZPTallyStepsx13
namespace Go.Proofs.Ytijmdmnhbbcahaa.PTallySteps
open Go.RowKit Go.Proofs.YtijmdmnhbbcahaaW.PrintWords Go.Proofs.YtijmdmnhbbcahaaW.PrintLast Go.Proofs.YtijmdmnhbbcahaaW.PrintMore
attribute [local go_sem] run_fadd run_fsub run_fmul run_fquo unary_fneg run_store_f64 run_store_c128 run_cadd
attribute [local go_sem] max2_int min2_int max_two min_two max_three min_three max_four min_four
set_option linter.unusedVariables false
set_option linter.unusedSimpArgs false
mutual
def quarrylaw31_TallySteps.l0 : Nat → Nat → Int → List Nat → Int → Bool → Bool → Int → Int → Nat → Nat → Nat → Nat → Nat → Nat → Int → Nat → Nat → Nat → Nat → Nat → Nat → Option (Bool)
 | 0,_,_,_,_,_,_,_,_,_,_,_,_,_,_,_,_,_,_,_,_,_=>none
 | k + 1,x1,x6,x7,x9,x10,x11,x12,x150000,x150001,x150002,x150003,x150004,x150005,x150006,x165000,x165001,x165002,x165003,x165004,x165005,x165006=>if x12 < (x7.length : Int) then (if x10 = true then (if x11 = true then (if 0 ≤ x12 then (if 0 < (x7.length : Int) then (quarrylaw31_TallySteps.l0 k x1 x6 x7 x9 true (FloatKind.f64.format.order (rdOf (0 : Nat) x7 x12) (rdOf (0 : Nat) x7 0) == some .eq) (wrap64 (x12 + 1)) x150000 x150001 x150002 x150003 x150004 x150005 x150006 x165000 x165001 x165002 x165003 x165004 x165005 x165006) else (none)) else (none)) else (quarrylaw31_TallySteps.l0 k x1 x6 x7 x9 true false (wrap64 (x12 + 1)) x150000 x150001 x150002 x150003 x150004 x150005 x150006 x165000 x165001 x165002 x165003 x165004 x165005 x165006)) else (if 0 ≤ x12 then ((quarryref13_Finite.f (rdOf (0 : Nat) x7 x12)).bind fun t168=>(if x11 = true then (if 0 < (x7.length : Int) then (quarrylaw31_TallySteps.l0 k x1 x6 x7 x9 (!t168) (FloatKind.f64.format.order (rdOf (0 : Nat) x7 x12) (rdOf (0 : Nat) x7 0) == some .eq) (wrap64 (x12 + 1)) x150000 x150001 x150002 x150003 x150004 x150005 x150006 x165000 x165001 x165002 x165003 x165004 x165005 x165006) else (none)) else (quarrylaw31_TallySteps.l0 k x1 x6 x7 x9 (!t168) false (wrap64 (x12 + 1)) x150000 x150001 x150002 x150003 x150004 x150005 x150006 x165000 x165001 x165002 x165003 x165004 x165005 x165006))) else (none))) else (if x10 = true then (if x9 = 130 then ((quarrylaw31_same.f x165000 x165001 x165002 x165003 x165004 x165005 x165006 0 0 0 0 0 0 0).bind fun t171=>(some t171)) else (none)) else (if x6 = 0 then ((tally_Put.f k x150000 x150001 x150002 x150003 x150004 x150005 x150006 x1).bind fun bt174=>(if bt174.2.2.2.2.2.2.2 = x9 then ((quarrylaw31_same.f x165000 x165001 x165002 x165003 x165004 x165005 x165006 bt174.1 bt174.2.1 bt174.2.2.1 bt174.2.2.2.1 bt174.2.2.2.2.1 bt174.2.2.2.2.2.1 bt174.2.2.2.2.2.2.1).bind fun t183=>(quarrylaw31_TallySteps.j1 k x7 x9 x11 (!t183) x165000 x165001 x165002 x165003 x165004 x165005 x165006)) else (quarrylaw31_TallySteps.j1 k x7 x9 x11 true x165000 x165001 x165002 x165003 x165004 x165005 x165006))) else (if x6 = 121 then (if x9 = 121 then ((quarrylaw31_same.f x150000 x150001 x150002 x150003 x150004 x150005 x150006 0 0 0 0 0 0 0).bind fun t172=>(if t172 = true then ((quarrylaw31_same.f x165000 x165001 x165002 x165003 x165004 x165005 x165006 0 0 0 0 0 0 0).bind fun t173=>(some t173)) else (none))) else (none)) else (none))))
def quarrylaw31_TallySteps.j1 : Nat → List Nat → Int → Bool → Bool → Int → Nat → Nat → Nat → Nat → Nat → Nat → Option (Bool)
 | 0,_,_,_,_,_,_,_,_,_,_,_=>none
 | k + 1,x7,x9,x11,x109,x165000,x165001,x165002,x165003,x165004,x165005,x165006=>if x109 = true then (none) else (if x9 = 0 then (quarrylaw31_TallySteps.l1 k x7 x11 false false 0 x165000 x165001 x165002 x165003 x165004 x165005 x165006) else (some (x9 == 121)))
def quarrylaw31_TallySteps.l1 : Nat → List Nat → Bool → Bool → Bool → Int → Int → Nat → Nat → Nat → Nat → Nat → Nat → Option (Bool)
 | 0,_,_,_,_,_,_,_,_,_,_,_,_=>none
 | k + 1,x7,x11,x15,x16,x17,x165000,x165001,x165002,x165003,x165004,x165005,x165006=>if x17 < (x7.length : Int) then (if 0 ≤ x17 then (if (FloatKind.f64.format.order (rdOf (0 : Nat) x7 x17) x165001 == some .lt) = true then (none) else (if (FloatKind.f64.format.order (rdOf (0 : Nat) x7 x17) x165002 == some .gt) = true then (none) else (if x15 = true then (if x16 = true then (quarrylaw31_TallySteps.l1 k x7 x11 true true (wrap64 (x17 + 1)) x165000 x165001 x165002 x165003 x165004 x165005 x165006) else (quarrylaw31_TallySteps.l1 k x7 x11 true (FloatKind.f64.format.order (rdOf (0 : Nat) x7 x17) x165002 == some .eq) (wrap64 (x17 + 1)) x165000 x165001 x165002 x165003 x165004 x165005 x165006)) else (if x16 = true then (quarrylaw31_TallySteps.l1 k x7 x11 (FloatKind.f64.format.order (rdOf (0 : Nat) x7 x17) x165001 == some .eq) true (wrap64 (x17 + 1)) x165000 x165001 x165002 x165003 x165004 x165005 x165006) else (quarrylaw31_TallySteps.l1 k x7 x11 (FloatKind.f64.format.order (rdOf (0 : Nat) x7 x17) x165001 == some .eq) (FloatKind.f64.format.order (rdOf (0 : Nat) x7 x17) x165002 == some .eq) (wrap64 (x17 + 1)) x165000 x165001 x165002 x165003 x165004 x165005 x165006))))) else (none)) else ((tally_Spread.f k x165000 x165001 x165002 x165003 x165004 x165005 x165006).bind fun bt189=>((tally_Join.f k x165000 x165001 x165002 x165003 x165004 x165005 x165006 0 0 0 0 0 0 0).bind fun bt191=>((tally_Join.f k 0 0 0 0 0 0 0 x165000 x165001 x165002 x165003 x165004 x165005 x165006).bind fun bt200=>(if x15 = true then (if x16 = true then (if x165000 = (x7.length : Int) then (if bt189.2 = 0 then (if bt191.2.2.2.2.2.2.2 = 0 then (if bt200.2.2.2.2.2.2.2 = 0 then ((quarrylaw31_same.f bt191.1 bt191.2.1 bt191.2.2.1 bt191.2.2.2.1 bt191.2.2.2.2.1 bt191.2.2.2.2.2.1 bt191.2.2.2.2.2.2.1 x165000 x165001 x165002 x165003 x165004 x165005 x165006).bind fun t209=>(if t209 = true then ((quarrylaw31_same.f bt200.1 bt200.2.1 bt200.2.2.1 bt200.2.2.2.1 bt200.2.2.2.2.1 bt200.2.2.2.2.2.1 bt200.2.2.2.2.2.2.1 x165000 x165001 x165002 x165003 x165004 x165005 x165006).bind fun t210=>(if t210 = true then (if x11 = true then (if (FloatKind.f64.format.order x165006 0 == some .eq) = true then (if 0 < (x7.length : Int) then (some (FloatKind.f64.format.order x165005 (rdOf (0 : Nat) x7 0) == some .eq)) else (none)) else (none)) else (some true)) else (none))) else (none))) else (none)) else (none)) else (none)) else (none)) else (none)) else (none)))))
end
def quarrylaw31_TallySteps.f (k : Nat) (l0 : List Nat) (a1 : Nat) : Option (Bool):=(quarrylaw31_awake.f).bind fun t140=>(if t140 = true then ((tally_Of.f k l0).bind fun bt141=>(if ([] : List Nat).length + l0.length < 17592186044416 then ((some (([] : List Nat) ++ l0 : List Nat)).bind fun y150=>(if y150.length < 17592186044416 then ((some (y150 ++ [a1] : List Nat)).bind fun y153=>((tally_Of.f k y153).bind fun bt156=>(quarrylaw31_TallySteps.l0 k a1 bt141.2.2.2.2.2.2.2 y153 bt156.2.2.2.2.2.2.2 false true 0 bt141.1 bt141.2.1 bt141.2.2.1 bt141.2.2.2.1 bt141.2.2.2.2.1 bt141.2.2.2.2.2.1 bt141.2.2.2.2.2.2.1 bt156.1 bt156.2.1 bt156.2.2.1 bt156.2.2.2.1 bt156.2.2.2.2.1 bt156.2.2.2.2.2.1 bt156.2.2.2.2.2.2.1))) else (none))) else (none))) else (none))
def quarrylaw31_TallySteps.T14 : Bool × List (List Nat × List Nat):=(true,[([],[]),([0],[0]),([1],[1]),([1],[1]),([2,3,1],[1,2,3]),([4,1],[1,4]),([1],[1]),([6,1],[1,6]),([7,1],[1,7]),([5,8,1],[1,5,8]),([1,9],[1,9]),([10,1,0,1,2,3,4,5,6,7,8,9,10],[0,10])])
def quarrylaw31_TallySteps.B14 : List Nat:=[0,1,3,3,15,31,3,67,195,511,1023,2047]
theorem quarrylaw31_TallySteps.tab14 : rtab .any (opsOf Try.f9 14) = quarrylaw31_TallySteps.T14:=by kernel_rfl
theorem quarrylaw31_TallySteps.bits14 : waitsOk quarrylaw31_TallySteps.T14.2 quarrylaw31_TallySteps.B14 = true:=by kernel_rfl
def quarrylaw31_TallySteps.T28 : Bool × List (List Nat × List Nat):=(true,[([],[]),([],[]),([0,1],[0,1]),([2],[2]),([],[]),([4],[4]),([3,5],[3,5]),([6],[6]),([7],[7]),([7],[7]),([8,9,7],[7,8,9]),([10,7],[7,10]),([7],[7]),([12,7],[7,12]),([11,13,7],[7,11,13]),([7,14],[7,14])])
def quarrylaw31_TallySteps.B28 : List Nat:=[0,0,3,7,0,16,63,127,255,255,1023,2047,255,4351,16383,32767]
theorem quarrylaw31_TallySteps.tab28 : rtab .any (opsOf Try.f9 28) = quarrylaw31_TallySteps.T28:=by kernel_rfl
theorem quarrylaw31_TallySteps.bits28 : waitsOk quarrylaw31_TallySteps.T28.2 quarrylaw31_TallySteps.B28 = true:=by kernel_rfl
def quarrylaw31_TallySteps.T30 : Bool × List (List Nat × List Nat):=(true,[([],[]),([0],[0]),([1],[1]),([1],[1]),([2,3,1],[1,2,3]),([4,1],[1,4]),([1],[1]),([6,1],[1,6]),([5,7,1],[1,5,7]),([1,8],[1,8]),([9,1,0,1,2,3,4,5,6,7,8,9],[0,9])])
def quarrylaw31_TallySteps.B30 : List Nat:=[0,1,3,3,15,31,3,67,255,511,1023]
theorem quarrylaw31_TallySteps.tab30 : rtab .any (opsOf Try.f9 30) = quarrylaw31_TallySteps.T30:=by kernel_rfl
theorem quarrylaw31_TallySteps.bits30 : waitsOk quarrylaw31_TallySteps.T30.2 quarrylaw31_TallySteps.B30 = true:=by kernel_rfl
def quarrylaw31_TallySteps.T31 : Bool × List (List Nat × List Nat):=(true,[([],[]),([0],[0]),([1],[1]),([1],[1]),([2,3,1],[1,2,3]),([4,1],[1,4]),([1],[1]),([6,1],[1,6]),([5,7,1],[1,5,7]),([1,8],[1,8]),([9,1,0,1,2,3,4,5,6,7,8,9],[0,9])])
def quarrylaw31_TallySteps.B31 : List Nat:=[0,1,3,3,15,31,3,67,255,511,1023]
theorem quarrylaw31_TallySteps.tab31 : rtab .any (opsOf Try.f9 31) = quarrylaw31_TallySteps.T31:=by kernel_rfl
theorem quarrylaw31_TallySteps.bits31 : waitsOk quarrylaw31_TallySteps.T31.2 quarrylaw31_TallySteps.B31 = true:=by kernel_rfl
def quarrylaw31_TallySteps.T35 : Bool × List (List Nat × List Nat):=(true,[([],[]),([0],[0]),([1],[1]),([1,2],[1,2]),([3,1],[3]),([4],[4]),([5,4],[4,5]),([4],[4]),([7,4],[4,7]),([6,8,4],[4,6,8]),([4,9],[4,9]),([10,4],[10]),([11],[11]),([12,11],[11,12]),([11,13],[11,13]),([14,11],[14]),([15],[15]),([16,15],[15,16]),([15,17],[15,17]),([18,15],[18]),([19],[19]),([20,19],[19,20]),([19,21],[19,21]),([22,19],[22]),([23],[23]),([23],[23]),([24,25,23,23],[23,24,25]),([23,26],[23,26]),([27,26],[27]),([28],[28]),([28],[28]),([29,30,28,28],[28,29,30]),([28,31],[28,31]),([32,31],[32]),([33],[33]),([34,33],[33,34]),([35,33,33],[33,35]),([36],[36]),([37,36],[36,37]),([38,36],[36,38]),([39,36,36],[36,39]),([40],[40]),([41,40],[40,41]),([40],[40]),([43,40],[40,43]),([44,40],[40,44]),([42,45,40],[40,42,45]),([40,46,36],[36,40,46]),([36,47,33],[33,36,47]),([33,48],[33,48]),([49,40,0,1,2,3,4,5,6,7,8,9,10,11,12,13,14,15,16,17,18,19,20,21,22,23,24,25,26,27,28,29,30,31,32,33,34,35,36,37,38,39,40,41,42,43,44,45,46,47,48,49],[49])])
def quarrylaw31_TallySteps.B35 : List Nat:=[0,1,3,7,15,31,63,31,159,511,1023,2047,4095,8191,16383,32767,65535,131071,262143,524287,1048575,2097151,4194303,8388607,16777215,16777215,67108863,134217727,268435455,536870911,536870911,2147483647,4294967295,8589934591,17179869183,34359738367,68719476735,137438953471,274877906943,549755813887,1099511627775,2199023255551,4398046511103,2199023255551,10995116277759,28587302322175,70368744177663,140737488355327,281474976710655,562949953421311,1125899906842623]
theorem quarrylaw31_TallySteps.tab35 : rtab .any (opsOf Try.f9 35) = quarrylaw31_TallySteps.T35:=by kernel_rfl
theorem quarrylaw31_TallySteps.bits35 : waitsOk quarrylaw31_TallySteps.T35.2 quarrylaw31_TallySteps.B35 = true:=by kernel_rfl
set_option maxHeartbeats 60000000 in
set_option maxRecDepth 100000 in
theorem quarrylaw31_TallySteps.calls (k : Nat) (A0 : Option Addr) (c0 : Nat) (l0 : List Nat) (a1 : Nat) (r : Bool) (w : World) (hr0 : Kd.C Kd.f64 w A0 l0.length l0) (hc0 : l0.length ≤ c0) (h : quarrylaw31_TallySteps.f k l0 a1 = some r) :
  Calls Try.prog 9 #[.slice A0 l0.length c0,.float .f64 a1] w fun e w'=>e = .returned (.bool r) ∧ Below w.heap.size w w':=by
 have hu26:=Try.underlying26;have HR0:=Aside0.mk hr0;have HC0:=Aside0.mk hc0;clear hr0 hc0;have HB:=Aside0.mk (Below.refl w.heap.size w);have H : ((quarrylaw31_awake.f).bind fun t140=>(if t140 = true then ((tally_Of.f k l0).bind fun bt141=>(if ([] : List Nat).length + l0.length < 17592186044416 then ((some (([] : List Nat) ++ l0 : List Nat)).bind fun y150=>(if y150.length < 17592186044416 then ((some (y150 ++ [a1] : List Nat)).bind fun y153=>((tally_Of.f k y153).bind fun bt156=>(quarrylaw31_TallySteps.l0 k a1 bt141.2.2.2.2.2.2.2 y153 bt156.2.2.2.2.2.2.2 false true 0 bt141.1 bt141.2.1 bt141.2.2.1 bt141.2.2.2.1 bt141.2.2.2.2.1 bt141.2.2.2.2.2.1 bt141.2.2.2.2.2.2.1 bt156.1 bt156.2.1 bt156.2.2.1 bt156.2.2.2.1 bt156.2.2.2.2.1 bt156.2.2.2.2.2.1 bt156.2.2.2.2.2.2.1))) else (none))) else (none))) else (none))) = some r:=h;clear h;replace H:=Option.bind_eq_some_iff.mp H;obtain ⟨t140,A30,H⟩:=H;replace H : (if t140 = true then ((tally_Of.f k l0).bind fun bt141=>(if ([] : List Nat).length + l0.length < 17592186044416 then ((some (([] : List Nat) ++ l0 : List Nat)).bind fun y150=>(if y150.length < 17592186044416 then ((some (y150 ++ [a1] : List Nat)).bind fun y153=>((tally_Of.f k y153).bind fun bt156=>(quarrylaw31_TallySteps.l0 k a1 bt141.2.2.2.2.2.2.2 y153 bt156.2.2.2.2.2.2.2 false true 0 bt141.1 bt141.2.1 bt141.2.2.1 bt141.2.2.2.1 bt141.2.2.2.2.1 bt141.2.2.2.2.2.1 bt141.2.2.2.2.2.2.1 bt156.1 bt156.2.1 bt156.2.2.1 bt156.2.2.2.1 bt156.2.2.2.2.1 bt156.2.2.2.2.2.1 bt156.2.2.2.2.2.2.1))) else (none))) else (none))) else (none)) = some r:=H
 have A3:=Aside0.mk A30;clear A30
 by_cases c4 : t140 = true
 ·subst c4
  have H1 : ((tally_Of.f k l0).bind fun bt141=>(if ([] : List Nat).length + l0.length < 17592186044416 then ((some (([] : List Nat) ++ l0 : List Nat)).bind fun y150=>(if y150.length < 17592186044416 then ((some (y150 ++ [a1] : List Nat)).bind fun y153=>((tally_Of.f k y153).bind fun bt156=>(quarrylaw31_TallySteps.l0 k a1 bt141.2.2.2.2.2.2.2 y153 bt156.2.2.2.2.2.2.2 false true 0 bt141.1 bt141.2.1 bt141.2.2.1 bt141.2.2.2.1 bt141.2.2.2.2.1 bt141.2.2.2.2.2.1 bt141.2.2.2.2.2.2.1 bt156.1 bt156.2.1 bt156.2.2.1 bt156.2.2.2.1 bt156.2.2.2.2.1 bt156.2.2.2.2.2.1 bt156.2.2.2.2.2.2.1))) else (none))) else (none))) = some r:=by rw [if_pos rfl] at H;exact H
  clear H;have H:=H1;clear H1;replace H:=Option.bind_eq_some_iff.mp H;obtain ⟨⟨t141,t142,t143,t144,t145,t146,t147,t148⟩,A50,H⟩:=H;replace H : (if ([] : List Nat).length + l0.length < 17592186044416 then ((some (([] : List Nat) ++ l0 : List Nat)).bind fun y150=>(if y150.length < 17592186044416 then ((some (y150 ++ [a1] : List Nat)).bind fun y153=>((tally_Of.f k y153).bind fun bt156=>(quarrylaw31_TallySteps.l0 k a1 t148 y153 bt156.2.2.2.2.2.2.2 false true 0 t141 t142 t143 t144 t145 t146 t147 bt156.1 bt156.2.1 bt156.2.2.1 bt156.2.2.2.1 bt156.2.2.2.2.1 bt156.2.2.2.2.2.1 bt156.2.2.2.2.2.2.1))) else (none))) else (none)) = some r:=H;have A5:=Aside0.mk A50;clear A50
  by_cases c6 : ([] : List Nat).length + l0.length < 17592186044416
  ·rw [if_pos c6] at H
   have LMc6:=Aside0.mk c6;clear c6
   obtain ⟨y150,hy150⟩ : ∃ y_ : List Nat,y_ = (([] : List Nat) ++ l0):=⟨_,rfl⟩
   replace H : (if y150.length < 17592186044416 then ((some (y150 ++ [a1] : List Nat)).bind fun y153=>((tally_Of.f k y153).bind fun bt156=>(quarrylaw31_TallySteps.l0 k a1 t148 y153 bt156.2.2.2.2.2.2.2 false true 0 t141 t142 t143 t144 t145 t146 t147 bt156.1 bt156.2.1 bt156.2.2.1 bt156.2.2.2.1 bt156.2.2.2.2.1 bt156.2.2.2.2.2.1 bt156.2.2.2.2.2.2.1))) else (none)) = some r:=by first|(rw [hy150];with_reducible exact H)|(have H2_:=(Option.bind_some _ _).symm.trans H;rw [hy150];with_reducible exact H2_)|(have H2_:=(Option.bind_some _ _).symm.trans H;with_reducible exact H2_)|with_reducible exact H|(rw [hy150];exact H)|exact H
   have Ny150:=Aside0.mk hy150;clear hy150
   by_cases c7 : y150.length < 17592186044416
   ·rw [if_pos c7] at H
    have LMc7:=Aside0.mk c7;clear c7
    obtain ⟨y153,hy153⟩ : ∃ y_ : List Nat,y_ = (y150 ++ [a1]):=⟨_,rfl⟩
    replace H : ((tally_Of.f k y153).bind fun bt156=>(quarrylaw31_TallySteps.l0 k a1 t148 y153 bt156.2.2.2.2.2.2.2 false true 0 t141 t142 t143 t144 t145 t146 t147 bt156.1 bt156.2.1 bt156.2.2.1 bt156.2.2.2.1 bt156.2.2.2.2.1 bt156.2.2.2.2.2.1 bt156.2.2.2.2.2.2.1)) = some r:=by first|(rw [hy153];with_reducible exact H)|(have H2_:=(Option.bind_some _ _).symm.trans H;rw [hy153];with_reducible exact H2_)|(have H2_:=(Option.bind_some _ _).symm.trans H;with_reducible exact H2_)|with_reducible exact H|(rw [hy153];exact H)|exact H
    have Ny153:=Aside0.mk hy153;clear hy153;replace H:=Option.bind_eq_some_iff.mp H;obtain ⟨⟨t156,t157,t158,t159,t160,t161,t162,t163⟩,A80,H⟩:=H;replace H : (quarrylaw31_TallySteps.l0 k a1 t148 y153 t163 false true 0 t141 t142 t143 t144 t145 t146 t147 t156 t157 t158 t159 t160 t161 t162) = some r:=H;have A8:=Aside0.mk A80;clear A80;have H':=Aside0.mk H;clear H;go_enter Try.func9,Try.ntmps9
    go_wp2_with (first|((with_reducible refine gate_callee (f:=17) rfl ?_);refine goesL_ (some 24) rfl rfl Try.func17 (by kernel_rfl) rfl #[] rfl am_ ?_;(with_reducible refine (quarrylaw31_awake.calls  true _ A3.out).mono ?_);rintro e w9 ⟨rfl,hb⟩;refine ⟨_,rfl,?_⟩;have n0_:=Aside0.mk (below_step (hb_ HB) hb);clear HB;have HB:=n0_;clear n0_;(try clear hb);(try clear hb2);(try clear hk);(try clear hi))|((with_reducible refine gate_callee (f:=13) rfl ?_);refine goesL_ (some 28) rfl rfl Try.func13 (by kernel_rfl) rfl #[.slice A0 l0.length c0] rfl am_ ?_;(with_reducible refine (tally_Of.calls k _ _ l0 t141 t142 t143 t144 t145 t146 t147 t148 _ ?side1 ?side2 A5.out).mono ?_);(case side1=>repeat (first|exact (Kd.C_below HR0.out HB.out)|(with_reducible refine Kd.C_alloc ?_ _)|(with_reducible refine Kd.C_drewN ?_ _)|(with_reducible refine Kd.C_drew ?_)));(case side2=>exact HC0.out);rintro e w10 ⟨rfl,hb⟩;refine ⟨_,rfl,?_⟩;have n0_:=Aside0.mk (below_step (hb_ HB) hb);clear HB;have HB:=n0_;clear n0_;(try clear hb);(try clear hb2);(try clear hk);(try clear hi))|((with_reducible refine gate_dst (N:=5) rfl ?_);(try (refine gate_guard (by rfl) ?_;dsimp only));refine box_event ?hg (N:=5) ?hd (cs:=#[.int .i64 0,.float .f64 0,.float .f64 0,.float .f64 0,.float .f64 0,.float .f64 0,.float .f64 0]) (t:=26) ?hr ?_;(case hd=>rfl);(case hg=>rfl);(case hr=>first|(go_simp;done)|(go_simp;rfl));intro gb149 hg w11 hbox hb;have n_:=J_ (below_step (hb_ HB) hb) (J_ (hbox) (J_ (bs_ hg HB) (Aside0.mk (bs_ hg HB))));clear HB;obtain ⟨HB,BK149,GW149,GE149⟩:=n_;clear hb hbox hg;obtain ⟨hcz12_0,hcz12_1,hcz12_2,hcz12_3,hcz12_4,hcz12_5,hcz12_6,hfz12_0,hfz12_1,hfz12_2,hfz12_3,hfz12_4,hfz12_5,hfz12_6⟩:=cf7_ BK149)|((with_reducible refine gate_builtin (b:=.append) (xs:=#[.tmp 31,.tmp 32]) rfl ?_);(try (refine gate_guard (by rfl) ?_;dsimp only));at_builtin;refine Kd.R_append_rows Kd.f64 (w0:=w) w.heap.size rfl (.tmp 31) (.tmp 32) 22 24 (.float .f64 0) 8 rfl Try.underlying22 info24 rfl (by decide) (by omega) (.slice none 0 0) ([] : List Nat) l0 _ _ _ (fun _=>True) (fun _=>False) rfl rfl ?aO ?aR (fun _ _ h=>h) (fun _ h=>h.elim) ?aF ?aB ?aS ?aL ?_;(case aR=>exact Kd.C_below HR0.out (hb_ HB));(case aB=>exact (hb_ HB));(case aF=>exact (fun _ _=>trivial));(case aO=>exact ((Kd.R_nil _ _ _ _ (fun _=>True))));(case aS=>exact (below_size (hb_ HB)));(case aL=>have:=LMc6.out;first|omega|exact Nat.le_of_lt this);intro v151 w13 ho hb hg hat;rw [← Ny150.out] at ho;have n_:=J_ (blk_grown (g:=gb149) (o:=.cells #[.int .i64 t141,.float .f64 t142,.float .f64 t143,.float .f64 t144,.float .f64 t145,.float .f64 t146,.float .f64 t147] 26 (0,0)) (by (with_reducible repeat (first|refine blk_drewN ?_ _|refine blk_drew ?_|refine blk_alloc ?_ _));refine bp_ (cs:=#[.int .i64 t141,.float .f64 t142,.float .f64 t143,.float .f64 t144,.float .f64 t145,.float .f64 t146,.float .f64 0]) ?_ 6 _;refine bp_ (cs:=#[.int .i64 t141,.float .f64 t142,.float .f64 t143,.float .f64 t144,.float .f64 t145,.float .f64 0,.float .f64 0]) ?_ 5 _;refine bp_ (cs:=#[.int .i64 t141,.float .f64 t142,.float .f64 t143,.float .f64 t144,.float .f64 0,.float .f64 0,.float .f64 0]) ?_ 4 _;refine bp_ (cs:=#[.int .i64 t141,.float .f64 t142,.float .f64 t143,.float .f64 0,.float .f64 0,.float .f64 0,.float .f64 0]) ?_ 3 _;refine bp_ (cs:=#[.int .i64 t141,.float .f64 t142,.float .f64 0,.float .f64 0,.float .f64 0,.float .f64 0,.float .f64 0]) ?_ 2 _;refine bp_ (cs:=#[.int .i64 t141,.float .f64 0,.float .f64 0,.float .f64 0,.float .f64 0,.float .f64 0,.float .f64 0]) ?_ 1 _;refine bp_ (cs:=#[.int .i64 0,.float .f64 0,.float .f64 0,.float .f64 0,.float .f64 0,.float .f64 0,.float .f64 0]) ?_ 0 _;(with_reducible repeat (first|refine blk_drewN ?_ _|refine blk_drew ?_|refine blk_alloc ?_ _));exact BK149.out) hg (by simp [Value.ownBlock])) (J_ (hb) (Aside0.mk (ho)));clear BK149 HB;obtain ⟨BK149,HB,HO152⟩:=n_;clear ho hb hg hat)|((with_reducible refine gate_builtin (b:=.append) (xs:=#[.tmp 34,.tmp 36]) rfl ?_);(try (refine gate_guard (by rfl) ?_;dsimp only));at_builtin;refine Kd.R_append Kd.f64 (w0:=w) w.heap.size rfl (.tmp 34) (.tmp 36) 22 24 (.float .f64 0) 8 rfl Try.underlying22 info24 rfl (by decide) (by omega) v151 y150 a1 [.float .f64 a1] (fun _=>True) (fun _=>False) rfl rfl ?aP (fun _ hk=>hk.elim) ?aF ?aO ?aB ?aS ?aL ?_;(case aP=>exact rfl);(case aB=>exact (hb_ HB));(case aF=>exact (fun _ _=>trivial));(case aO=>exact (rk_ HO152));(case aS=>exact (below_size (hb_ HB)));(case aL=>have:=LMc7.out;first|omega|exact Nat.le_of_lt this);intro v154 w14 ho hb hg hat;rw [← Ny153.out] at ho;have n_:=J_ (blk_grown (g:=gb149) (o:=.cells #[.int .i64 t141,.float .f64 t142,.float .f64 t143,.float .f64 t144,.float .f64 t145,.float .f64 t146,.float .f64 t147] 26 (0,0)) (bk_ BK149) hg (Kd.R_ne HO152.out BK149.out (by decide))) (J_ (hb) (Aside0.mk (ho)));clear BK149 HB HO152;obtain ⟨BK149,HB,HO155⟩:=n_;clear ho hb hg hat;obtain ⟨Ao15,co15,eo15⟩:=Kd.R_slice HO155.out;subst eo15)|((with_reducible refine gate_callee (f:=13) rfl ?_);refine goesL_ (some 40) rfl rfl Try.func13 (by kernel_rfl) rfl #[.slice Ao15 y153.length co15] rfl am_ ?_;(with_reducible refine (tally_Of.calls k _ _ y153 t156 t157 t158 t159 t160 t161 t162 t163 _ ?side1 ?side2 A8.out).mono ?_);(case side1=>repeat (first|exact (Kd.R_reads' HO155.out).2.2|(with_reducible refine Kd.C_alloc ?_ _)|(with_reducible refine Kd.C_drewN ?_ _)|(with_reducible refine Kd.C_drew ?_)));(case side2=>exact (Kd.R_reads' HO155.out).2.1);rintro e w16 ⟨rfl,hb⟩;refine ⟨_,rfl,?_⟩;have n_:=J_ (Kd.R_below (rk_ HO155) hb) (J_ (bkb_ BK149 hb) (Aside0.mk (below_step (hb_ HB) hb)));clear HO155 BK149 HB;obtain ⟨HO155,BK149,HB⟩:=n_;(try clear hb);(try clear hb2);(try clear hk);(try clear hi))|((with_reducible refine gate_dst (N:=8) rfl ?_);(try (refine gate_guard (by rfl) ?_;dsimp only));refine box_event ?hg (N:=8) ?hd (cs:=#[.int .i64 0,.float .f64 0,.float .f64 0,.float .f64 0,.float .f64 0,.float .f64 0,.float .f64 0]) (t:=26) ?hr ?_;(case hd=>rfl);(case hg=>rfl);(case hr=>first|(go_simp;done)|(go_simp;rfl));intro gb164 hg w17 hbox hb;have n_:=J_ (Kd.R_below (rk_ HO155) hb) (J_ (bkb_ BK149 hb) (J_ (below_step (hb_ HB) hb) (J_ (hbox) (J_ (bs_ hg HB) (J_ (bs_ hg HB) (J_ ((by rw [hg];exact Nat.ne_of_lt (bkl_ BK149) : gb149 ≠ gb164)) (Aside0.mk ((by rw [hg];exact Nat.ne_of_gt (bkl_ BK149) : gb164 ≠ gb149)))))))));clear HO155 BK149 HB;obtain ⟨HO155,BK149,HB,BK164,GW164,GE164,NB149_164,NB164_149⟩:=n_;clear hb hbox hg;have hnb18:=NB164_149.out;have hnc18:=NB149_164.out;obtain ⟨hcz19_0,hcz19_1,hcz19_2,hcz19_3,hcz19_4,hcz19_5,hcz19_6,hfz19_0,hfz19_1,hfz19_2,hfz19_3,hfz19_4,hfz19_5,hfz19_6⟩:=cf7_ BK164))
    go_loopg [10,11,12] k (fun kq v10 v11 v12 w'=>∃ (x10_1 : Bool) (x11_1 : Bool) (x12_1 : Int),v10 = .bool x10_1 ∧ v11 = .bool x11_1 ∧ v12 = .int .i64 x12_1 ∧ Aside0 (quarrylaw31_TallySteps.l0 kq a1 t148 y153 t163 x10_1 x11_1 x12_1 t141 t142 t143 t144 t145 t146 t147 t156 t157 t158 t159 t160 t161 t162 = some r) ∧ Aside0 (kq ≤ k) ∧ Aside0 (Kd.R Kd.f64 24 w' w.heap.size (fun _=>True) (.slice Ao15 y153.length co15) y153) ∧ Aside0 (w'.heap[gb149]? = some (.cells #[.int .i64 t141,.float .f64 t142,.float .f64 t143,.float .f64 t144,.float .f64 t145,.float .f64 t146,.float .f64 t147] 26 (0,0))) ∧ Aside0 (w'.heap[gb164]? = some (.cells #[.int .i64 t156,.float .f64 t157,.float .f64 t158,.float .f64 t159,.float .f64 t160,.float .f64 t161,.float .f64 t162] 26 (0,0))) ∧ Aside0 (Below w.heap.size w w'))
    case atStart=>exact ⟨(false),(true),(0),rr_,rr_,rr_,H',⟨Nat.le_refl _⟩,⟨by (with_reducible repeat (first|apply Kd.R_alloc|apply Kd.R_drewN|apply Kd.R_drew));exact Kd.R_mono (Kd.R_far (p:=⟨gb164,6,none⟩) (Kd.R_far (p:=⟨gb164,5,none⟩) (Kd.R_far (p:=⟨gb164,4,none⟩) (Kd.R_far (p:=⟨gb164,3,none⟩) (Kd.R_far (p:=⟨gb164,2,none⟩) (Kd.R_far (p:=⟨gb164,1,none⟩) (Kd.R_far (p:=⟨gb164,0,none⟩) (Kd.R_types HO155.out BK164.out (by decide)) (fun _ hk=>hk.2) (.int .i64 t156)) (fun _ hk=>hk.2) (.float .f64 t157)) (fun _ hk=>hk.2) (.float .f64 t158)) (fun _ hk=>hk.2) (.float .f64 t159)) (fun _ hk=>hk.2) (.float .f64 t160)) (fun _ hk=>hk.2) (.float .f64 t161)) (fun _ hk=>hk.2) (.float .f64 t162)) (fun _ hk=>trivial)⟩,⟨(bf_ NB149_164 BK149)⟩,⟨by (with_reducible repeat (first|refine blk_drewN ?_ _|refine blk_drew ?_|refine blk_alloc ?_ _));refine bp_ (cs:=#[.int .i64 t156,.float .f64 t157,.float .f64 t158,.float .f64 t159,.float .f64 t160,.float .f64 t161,.float .f64 0]) ?_ 6 _;refine bp_ (cs:=#[.int .i64 t156,.float .f64 t157,.float .f64 t158,.float .f64 t159,.float .f64 t160,.float .f64 0,.float .f64 0]) ?_ 5 _;refine bp_ (cs:=#[.int .i64 t156,.float .f64 t157,.float .f64 t158,.float .f64 t159,.float .f64 0,.float .f64 0,.float .f64 0]) ?_ 4 _;refine bp_ (cs:=#[.int .i64 t156,.float .f64 t157,.float .f64 t158,.float .f64 0,.float .f64 0,.float .f64 0,.float .f64 0]) ?_ 3 _;refine bp_ (cs:=#[.int .i64 t156,.float .f64 t157,.float .f64 0,.float .f64 0,.float .f64 0,.float .f64 0,.float .f64 0]) ?_ 2 _;refine bp_ (cs:=#[.int .i64 t156,.float .f64 0,.float .f64 0,.float .f64 0,.float .f64 0,.float .f64 0,.float .f64 0]) ?_ 1 _;refine bp_ (cs:=#[.int .i64 0,.float .f64 0,.float .f64 0,.float .f64 0,.float .f64 0,.float .f64 0,.float .f64 0]) ?_ 0 _;(with_reducible repeat (first|refine blk_drewN ?_ _|refine blk_drew ?_|refine blk_alloc ?_ _));exact BK164.out⟩,⟨(hb_ HB)⟩⟩
    case round =>
     clear H'
     try clear BK149
     try clear BK164
     try clear HB
     obtain ⟨x10_1,x11_1,x12_1,rfl,rfl,rfl,HA,HK1,HO_7,BK149,BK164,HB⟩:=hrel
     cases gk with
     | zero=>exact absurd HA.out (by simp [quarrylaw31_TallySteps.l0])
     | succ k1 =>
      have H:=HA.out;clear HA
      simp only [quarrylaw31_TallySteps.l0] at H
      by_cases c20 : x12_1 < (y153.length : Int)
      ·rw [if_pos c20] at H
       have c20b0 : decide (x12_1 < (y153.length : Int)) = true:=decide_eq_true c20;clear c20
       by_cases c21 : x10_1 = true
       ·subst c21
        have H1 : (if x11_1 = true then (if 0 ≤ x12_1 then (if 0 < (y153.length : Int) then (quarrylaw31_TallySteps.l0 k1 a1 t148 y153 t163 true (FloatKind.f64.format.order (rdOf (0 : Nat) y153 x12_1) (rdOf (0 : Nat) y153 0) == some .eq) (wrap64 (x12_1 + 1)) t141 t142 t143 t144 t145 t146 t147 t156 t157 t158 t159 t160 t161 t162) else (none)) else (none)) else (quarrylaw31_TallySteps.l0 k1 a1 t148 y153 t163 true false (wrap64 (x12_1 + 1)) t141 t142 t143 t144 t145 t146 t147 t156 t157 t158 t159 t160 t161 t162)) = some r:=by rw [if_pos rfl] at H;exact H
        clear H;have H:=H1;clear H1
        by_cases c22 : x11_1 = true
        ·subst c22
         have H1 : (if 0 ≤ x12_1 then (if 0 < (y153.length : Int) then (quarrylaw31_TallySteps.l0 k1 a1 t148 y153 t163 true (FloatKind.f64.format.order (rdOf (0 : Nat) y153 x12_1) (rdOf (0 : Nat) y153 0) == some .eq) (wrap64 (x12_1 + 1)) t141 t142 t143 t144 t145 t146 t147 t156 t157 t158 t159 t160 t161 t162) else (none)) else (none)) = some r:=by rw [if_pos rfl] at H;exact H
         clear H;have H:=H1;clear H1
         by_cases c23 : 0 ≤ x12_1
         ·rw [if_pos c23] at H
          have c23b0 : decide (0 ≤ x12_1) = true:=decide_eq_true c23;clear c23
          by_cases c24 : 0 < (y153.length : Int)
          ·rw [if_pos c24] at H
           have c24b0 : decide (0 < (y153.length : Int)) = true:=decide_eq_true c24;have c24b1 : decide (0 < y153.length) = true:=decide_eq_true (by omega);clear c24;have H':=Aside0.mk H;clear H
           try go_wp2
           have n0_:=Aside0.mk (Kd.R_drew HO_7.out);have n1_:=Aside0.mk (blk_drew BK149.out);have n2_:=Aside0.mk (blk_drew BK164.out);have n3_:=Aside0.mk (below_drew1 HB.out);clear HO_7;clear BK149;clear BK164;clear HB;have HO_7:=n0_;have BK149:=n1_;have BK164:=n2_;have HB:=n3_;clear n0_ n1_ n2_ n3_;have p165 : 0 ≤ (x12_1 : Int):=of_decide_eq_true aa_;have q165 : x12_1 < (y153.length : Int):=of_decide_eq_true aa_;obtain ⟨ad165,e165,hx165_0⟩:=Kd.at_f64 (Kd.R_reads' HO_7.out).2.2 x12_1 p165 q165;cases e165;replace p165:=eq_true p165;replace q165:=eq_true q165;have p166 : 0 ≤ (0 : Int):=(by omega);have q166 : 0 < (y153.length : Int):=of_decide_eq_true aa_;obtain ⟨ad166,e166,hx166_0⟩:=Kd.at_f64 (Kd.R_reads' HO_7.out).2.2 0 p166 q166;obtain rfl : ad165 = ad166:=(by injection e166);have qi166 : (0 < y153.length) = True:=eq_true (by omega)
           (try rw [show ((0 : Int)).toNat = 0 from rfl] at hx166_0)
           (try rw [Addr.add_zero'] at hx166_0)
           replace p166:=eq_true p166;replace q166:=eq_true q166;refine start_ (n:=12) (S:=fun w'=>w'.cell? (ad165.add (x12_1).toNat) = some (.float .f64 (rdOf (0 : Nat) y153 x12_1)) ∧ w'.cell? ad165 = some (.float .f64 (rdOf (0 : Nat) y153 0))) (ds:=[]) #[false,false,false,false,false,false,false,false,false,false,false,false] (by kernel_rfl) rfl rfl ⟨hx165_0,hx166_0⟩ (fun hHeld=>?_);refine with_tabW quarrylaw31_TallySteps.tab14 quarrylaw31_TallySteps.bits14 (fun HT_ HW_=>?_)
           generalize wr.drew = w25 at HO_7 BK149 BK164 HB hx165_0 hx166_0 hHeld ⊢
           refine pure_ (i:=0) (N:=some 58) (v:=?_) (a':=?_) #[true,false,false,false,false,false,false,false,false,false,false,false] rfl rfl (any_of HT_.out (by kernel_rfl)) (fun _ _ _ h=>h) (Or.inl ⟨by rfl,?_⟩) ?_ ?_;rotate_left
           ·intro w';go_simp;with_reducible rfl
           rotate_left
           ·simp only [Act.put,List.setIfInBounds_toArray,List.set_cons_zero,List.set_cons_succ,i64_w,i32_w];rfl
           refine pure_ (i:=1) (N:=some 59) (v:=?_) (a':=?_) #[true,true,false,false,false,false,false,false,false,false,false,false] rfl rfl (any_of HT_.out (by kernel_rfl)) (fun _ _ _ h=>h) (Or.inl ⟨by rfl,?_⟩) ?_ ?_;rotate_left
           ·intro w';go_simp;with_reducible rfl
           rotate_left
           ·simp only [Act.put,List.setIfInBounds_toArray,List.set_cons_zero,List.set_cons_succ,i64_w,i32_w];rfl
           refine pure_ (i:=2) (N:=some 60) (v:=?_) (a':=?_) #[true,true,true,false,false,false,false,false,false,false,false,false] rfl rfl (any_of HT_.out (by kernel_rfl)) (fun _ _ _ h=>h) (Or.inl ⟨by rfl,?_⟩) ?_ ?_;rotate_left
           ·intro w';go_simp;with_reducible rfl
           rotate_left
           ·simp only [Act.put,List.setIfInBounds_toArray,List.set_cons_zero,List.set_cons_succ,i64_w,i32_w];rfl
           refine pure_ (i:=3) (N:=some 61) (v:=?_) (a':=?_) #[true,true,true,true,false,false,false,false,false,false,false,false] rfl rfl (any_of HT_.out (by kernel_rfl)) (fun _ _ _ h=>h) (Or.inl ⟨by rfl,?_⟩) ?_ ?_;rotate_left
           ·intro w';go_simp;with_reducible rfl
           rotate_left
           ·simp only [Act.put,List.setIfInBounds_toArray,List.set_cons_zero,List.set_cons_succ,i64_w,i32_w];rfl
           refine pure_ (i:=4) (N:=some 62) (v:=?_) (a':=?_) #[true,true,true,true,true,false,false,false,false,false,false,false] rfl rfl (any_of HT_.out (by kernel_rfl)) (fun _ _ _ h=>h) (Or.inl ⟨by rfl,?_⟩) ?_ ?_;rotate_left
           ·intro w';go_simp;with_reducible rfl
           rotate_left
           ·simp only [Act.put,List.setIfInBounds_toArray,List.set_cons_zero,List.set_cons_succ,i64_w,i32_w];rfl
           refine pure_ (i:=6) (N:=some 64) (v:=?_) (a':=?_) #[true,true,true,true,true,false,true,false,false,false,false,false] rfl rfl (any_of HT_.out (by kernel_rfl)) (fun _ _ _ h=>h) (Or.inl ⟨by rfl,?_⟩) ?_ ?_;rotate_left
           ·intro w';go_simp;with_reducible rfl
           rotate_left
           ·simp only [Act.put,List.setIfInBounds_toArray,List.set_cons_zero,List.set_cons_succ,i64_w,i32_w];rfl
           refine pure_ (i:=7) (N:=some 65) (v:=?_) (a':=?_) #[true,true,true,true,true,false,true,true,false,false,false,false] rfl rfl (any_of HT_.out (by kernel_rfl)) (fun _ _ _ h=>h) (Or.inl ⟨by rfl,?_⟩) ?_ ?_;rotate_left
           ·intro w';go_simp;with_reducible rfl
           rotate_left
           ·simp only [Act.put,List.setIfInBounds_toArray,List.set_cons_zero,List.set_cons_succ,i64_w,i32_w];rfl
           refine take_ (i:=5) (N:=some 63) (v:=?_) (a':=?_) #[true,true,true,true,true,true,true,true,false,false,false,false] rfl rfl (take_ofW HT_.out HW_.out (by kernel_rfl)) (fun _ _ _ h=>h) (Or.inl ⟨by rfl,?_⟩) hHeld ?_ ?_;rotate_left
           ·rintro w' ⟨s0,s1⟩;go_simp;with_reducible rfl
           rotate_left
           ·simp only [Act.put,List.setIfInBounds_toArray,List.set_cons_zero,List.set_cons_succ,i64_w,i32_w];rfl
           refine take_ (i:=8) (N:=some 66) (v:=?_) (a':=?_) #[true,true,true,true,true,true,true,true,true,false,false,false] rfl rfl (take_ofW HT_.out HW_.out (by kernel_rfl)) (fun _ _ _ h=>h) (Or.inl ⟨by rfl,?_⟩) hHeld ?_ ?_;rotate_left
           ·rintro w' ⟨s0,s1⟩;go_simp;with_reducible rfl
           rotate_left
           ·simp only [Act.put,List.setIfInBounds_toArray,List.set_cons_zero,List.set_cons_succ,i64_w,i32_w];rfl
           refine pure_ (i:=9) (N:=some 67) (v:=?_) (a':=?_) #[true,true,true,true,true,true,true,true,true,true,false,false] rfl rfl (any_of HT_.out (by kernel_rfl)) (fun _ _ _ h=>h) (Or.inl ⟨by rfl,?_⟩) ?_ ?_;rotate_left
           ·intro w';go_simp;with_reducible rfl
           rotate_left
           ·simp only [Act.put,List.setIfInBounds_toArray,List.set_cons_zero,List.set_cons_succ,i64_w,i32_w];rfl
           refine pure_ (i:=10) (N:=some 68) (v:=?_) (a':=?_) #[true,true,true,true,true,true,true,true,true,true,true,false] rfl rfl (any_of HT_.out (by kernel_rfl)) (fun _ _ _ h=>h) (Or.inl ⟨by rfl,?_⟩) ?_ ?_;rotate_left
           ·intro w';go_simp;with_reducible rfl
           rotate_left
           ·simp only [Act.put,List.setIfInBounds_toArray,List.set_cons_zero,List.set_cons_succ,i64_w,i32_w];rfl
           refine pure_ (i:=11) (N:=some 11) (v:=?_) (a':=?_) #[true,true,true,true,true,true,true,true,true,true,true,true] rfl rfl (any_of HT_.out (by kernel_rfl)) (fun _ _ _ h=>h) (Or.inl ⟨by rfl,?_⟩) ?_ ?_;rotate_left
           ·intro w';go_simp;with_reducible rfl
           rotate_left
           ·simp only [Act.put,List.setIfInBounds_toArray,List.set_cons_zero,List.set_cons_succ,i64_w,i32_w];rfl
           refine done_ (done_of HT_.out (by kernel_rfl)) ?_
           try go_wp2
           go_roundg k1
           case measure=>have:=HK1.out;omega
           case rel=>exact ⟨(true),((FloatKind.f64.format.order (rdOf (0 : Nat) y153 x12_1) (rdOf (0 : Nat) y153 0) == some .eq)),(wrap64 (x12_1 + 1)),rr_,rr_,rr_,(by first|exact H'|(subst_vars;exact H')),⟨by have:=HK1.out;omega⟩,⟨(rk_ HO_7)⟩,⟨(bk_ BK149)⟩,⟨(bk_ BK164)⟩,⟨(hb_ HB)⟩⟩
          rw [if_neg c24] at H
          exact absurd H (by simp)
         rw [if_neg c23] at H
         exact absurd H (by simp)
        replace c22:=Bool.eq_false_iff.mpr c22;subst c22
        have H1 : (quarrylaw31_TallySteps.l0 k1 a1 t148 y153 t163 true false (wrap64 (x12_1 + 1)) t141 t142 t143 t144 t145 t146 t147 t156 t157 t158 t159 t160 t161 t162) = some r:=by rw [if_neg (show ¬ (false = true) by decide)] at H;exact H
        clear H;have H:=H1;clear H1;have H':=Aside0.mk H;clear H
        try go_wp2
        have n0_:=Aside0.mk (Kd.R_drew HO_7.out);have n1_:=Aside0.mk (blk_drew BK149.out);have n2_:=Aside0.mk (blk_drew BK164.out);have n3_:=Aside0.mk (below_drew1 HB.out);clear HO_7;clear BK149;clear BK164;clear HB;have HO_7:=n0_;have BK149:=n1_;have BK164:=n2_;have HB:=n3_;clear n0_ n1_ n2_ n3_;refine start_ (n:=12) (S:=fun w'=>True) (ds:=[]) #[false,false,false,false,false,false,false,false,false,false,false,false] (by kernel_rfl) rfl rfl trivial (fun hHeld=>?_);refine with_tabW quarrylaw31_TallySteps.tab14 quarrylaw31_TallySteps.bits14 (fun HT_ HW_=>?_)
        generalize wr.drew = w26 at HO_7 BK149 BK164 HB hHeld ⊢
        refine pure_ (i:=0) (N:=some 58) (v:=?_) (a':=?_) #[true,false,false,false,false,false,false,false,false,false,false,false] rfl rfl (any_of HT_.out (by kernel_rfl)) (fun _ _ _ h=>h) (Or.inl ⟨by rfl,?_⟩) ?_ ?_;rotate_left
        ·intro w';go_simp;with_reducible rfl
        rotate_left
        ·simp only [Act.put,List.setIfInBounds_toArray,List.set_cons_zero,List.set_cons_succ,i64_w,i32_w];rfl
        refine pure_ (i:=1) (N:=some 59) (v:=?_) (a':=?_) #[true,true,false,false,false,false,false,false,false,false,false,false] rfl rfl (any_of HT_.out (by kernel_rfl)) (fun _ _ _ h=>h) (Or.inl ⟨by rfl,?_⟩) ?_ ?_;rotate_left
        ·intro w';go_simp;with_reducible rfl
        rotate_left
        ·simp only [Act.put,List.setIfInBounds_toArray,List.set_cons_zero,List.set_cons_succ,i64_w,i32_w];rfl
        refine pure_ (i:=2) (N:=some 60) (v:=undef) (a':=?_) #[true,true,true,false,false,false,false,false,false,false,false,false] rfl rfl (any_of HT_.out (by kernel_rfl)) (fun _ _ _ h=>h) (Or.inr ⟨by rfl,rfl⟩) ?_ ?_;rotate_left
        ·simp only [Act.put,List.setIfInBounds_toArray,List.set_cons_zero,List.set_cons_succ,i64_w,i32_w];rfl
        refine pure_ (i:=3) (N:=some 61) (v:=undef) (a':=?_) #[true,true,true,true,false,false,false,false,false,false,false,false] rfl rfl (any_of HT_.out (by kernel_rfl)) (fun _ _ _ h=>h) (Or.inr ⟨by rfl,rfl⟩) ?_ ?_;rotate_left
        ·simp only [Act.put,List.setIfInBounds_toArray,List.set_cons_zero,List.set_cons_succ,i64_w,i32_w];rfl
        refine pure_ (i:=4) (N:=some 62) (v:=undef) (a':=?_) #[true,true,true,true,true,false,false,false,false,false,false,false] rfl rfl (any_of HT_.out (by kernel_rfl)) (fun _ _ _ h=>h) (Or.inr ⟨by rfl,rfl⟩) ?_ ?_;rotate_left
        ·simp only [Act.put,List.setIfInBounds_toArray,List.set_cons_zero,List.set_cons_succ,i64_w,i32_w];rfl
        refine pure_ (i:=5) (N:=some 63) (v:=undef) (a':=?_) #[true,true,true,true,true,true,false,false,false,false,false,false] rfl rfl (any_of HT_.out (by kernel_rfl)) (fun _ _ _ h=>h) (Or.inr ⟨by rfl,rfl⟩) ?_ ?_;rotate_left
        ·simp only [Act.put,List.setIfInBounds_toArray,List.set_cons_zero,List.set_cons_succ,i64_w,i32_w];rfl
        refine pure_ (i:=6) (N:=some 64) (v:=undef) (a':=?_) #[true,true,true,true,true,true,true,false,false,false,false,false] rfl rfl (any_of HT_.out (by kernel_rfl)) (fun _ _ _ h=>h) (Or.inr ⟨by rfl,rfl⟩) ?_ ?_;rotate_left
        ·simp only [Act.put,List.setIfInBounds_toArray,List.set_cons_zero,List.set_cons_succ,i64_w,i32_w];rfl
        refine pure_ (i:=7) (N:=some 65) (v:=undef) (a':=?_) #[true,true,true,true,true,true,true,true,false,false,false,false] rfl rfl (any_of HT_.out (by kernel_rfl)) (fun _ _ _ h=>h) (Or.inr ⟨by rfl,rfl⟩) ?_ ?_;rotate_left
        ·simp only [Act.put,List.setIfInBounds_toArray,List.set_cons_zero,List.set_cons_succ,i64_w,i32_w];rfl
        refine pure_ (i:=8) (N:=some 66) (v:=undef) (a':=?_) #[true,true,true,true,true,true,true,true,true,false,false,false] rfl rfl (any_of HT_.out (by kernel_rfl)) (fun _ _ _ h=>h) (Or.inr ⟨by rfl,rfl⟩) ?_ ?_;rotate_left
        ·simp only [Act.put,List.setIfInBounds_toArray,List.set_cons_zero,List.set_cons_succ,i64_w,i32_w];rfl
        refine pure_ (i:=9) (N:=some 67) (v:=undef) (a':=?_) #[true,true,true,true,true,true,true,true,true,true,false,false] rfl rfl (any_of HT_.out (by kernel_rfl)) (fun _ _ _ h=>h) (Or.inr ⟨by rfl,rfl⟩) ?_ ?_;rotate_left
        ·simp only [Act.put,List.setIfInBounds_toArray,List.set_cons_zero,List.set_cons_succ,i64_w,i32_w];rfl
        refine pure_ (i:=10) (N:=some 68) (v:=?_) (a':=?_) #[true,true,true,true,true,true,true,true,true,true,true,false] rfl rfl (any_of HT_.out (by kernel_rfl)) (fun _ _ _ h=>h) (Or.inl ⟨by rfl,?_⟩) ?_ ?_;rotate_left
        ·intro w';go_simp;with_reducible rfl
        rotate_left
        ·simp only [Act.put,List.setIfInBounds_toArray,List.set_cons_zero,List.set_cons_succ,i64_w,i32_w];rfl
        refine pure_ (i:=11) (N:=some 11) (v:=?_) (a':=?_) #[true,true,true,true,true,true,true,true,true,true,true,true] rfl rfl (any_of HT_.out (by kernel_rfl)) (fun _ _ _ h=>h) (Or.inl ⟨by rfl,?_⟩) ?_ ?_;rotate_left
        ·intro w';go_simp;with_reducible rfl
        rotate_left
        ·simp only [Act.put,List.setIfInBounds_toArray,List.set_cons_zero,List.set_cons_succ,i64_w,i32_w];rfl
        refine done_ (done_of HT_.out (by kernel_rfl)) ?_
        try go_wp2
        go_roundg k1
        case measure=>have:=HK1.out;omega
        case rel=>exact ⟨(true),(false),(wrap64 (x12_1 + 1)),rr_,rr_,rr_,(by first|exact H'|(subst_vars;exact H')),⟨by have:=HK1.out;omega⟩,⟨(rk_ HO_7)⟩,⟨(bk_ BK149)⟩,⟨(bk_ BK164)⟩,⟨(hb_ HB)⟩⟩
       as_aux_lemma =>
        replace c21:=Bool.eq_false_iff.mpr c21;subst c21
        have H1 : (if 0 ≤ x12_1 then ((quarryref13_Finite.f (rdOf (0 : Nat) y153 x12_1)).bind fun t168=>(if x11_1 = true then (if 0 < (y153.length : Int) then (quarrylaw31_TallySteps.l0 k1 a1 t148 y153 t163 (!t168) (FloatKind.f64.format.order (rdOf (0 : Nat) y153 x12_1) (rdOf (0 : Nat) y153 0) == some .eq) (wrap64 (x12_1 + 1)) t141 t142 t143 t144 t145 t146 t147 t156 t157 t158 t159 t160 t161 t162) else (none)) else (quarrylaw31_TallySteps.l0 k1 a1 t148 y153 t163 (!t168) false (wrap64 (x12_1 + 1)) t141 t142 t143 t144 t145 t146 t147 t156 t157 t158 t159 t160 t161 t162))) else (none)) = some r:=by rw [if_neg (show ¬ (false = true) by decide)] at H;exact H
        clear H;have H:=H1;clear H1
        by_cases c27 : 0 ≤ x12_1
        ·rw [if_pos c27] at H
         have c27b0 : decide (0 ≤ x12_1) = true:=decide_eq_true c27;clear c27;replace H:=Option.bind_eq_some_iff.mp H;obtain ⟨t168,A280,H⟩:=H;replace H : (if x11_1 = true then (if 0 < (y153.length : Int) then (quarrylaw31_TallySteps.l0 k1 a1 t148 y153 t163 (!t168) (FloatKind.f64.format.order (rdOf (0 : Nat) y153 x12_1) (rdOf (0 : Nat) y153 0) == some .eq) (wrap64 (x12_1 + 1)) t141 t142 t143 t144 t145 t146 t147 t156 t157 t158 t159 t160 t161 t162) else (none)) else (quarrylaw31_TallySteps.l0 k1 a1 t148 y153 t163 (!t168) false (wrap64 (x12_1 + 1)) t141 t142 t143 t144 t145 t146 t147 t156 t157 t158 t159 t160 t161 t162)) = some r:=H;have A28:=Aside0.mk A280;clear A280
         by_cases c29 : x11_1 = true
         ·subst c29
          have H1 : (if 0 < (y153.length : Int) then (quarrylaw31_TallySteps.l0 k1 a1 t148 y153 t163 (!t168) (FloatKind.f64.format.order (rdOf (0 : Nat) y153 x12_1) (rdOf (0 : Nat) y153 0) == some .eq) (wrap64 (x12_1 + 1)) t141 t142 t143 t144 t145 t146 t147 t156 t157 t158 t159 t160 t161 t162) else (none)) = some r:=by rw [if_pos rfl] at H;exact H
          clear H;have H:=H1;clear H1
          by_cases c30 : 0 < (y153.length : Int)
          ·rw [if_pos c30] at H
           have c30b0 : decide (0 < (y153.length : Int)) = true:=decide_eq_true c30;have c30b1 : decide (0 < y153.length) = true:=decide_eq_true (by omega);clear c30;have H':=Aside0.mk H;clear H;have p167 : 0 ≤ (x12_1 : Int):=of_decide_eq_true aa_;have q167 : x12_1 < (y153.length : Int):=of_decide_eq_true aa_;obtain ⟨ad167,e167,hx167_0⟩:=Kd.at_f64 (Kd.R_reads' HO_7.out).2.2 x12_1 p167 q167;cases e167;replace p167:=eq_true p167;replace q167:=eq_true q167
           try go_wp2_with (first|(go_at_call 29;(with_reducible refine (quarryref13_Finite.calls (rdOf (0 : Nat) y153 x12_1) t168 _ A28.out).mono ?_);rintro e w' ⟨rfl,⟨nd,rfl⟩⟩))
           (try (rw [drewN_self wr];generalize hq_ : World.drewN wr _ = wr;have n0_ : Aside0 (Kd.R Kd.f64 24 wr w.heap.size (fun _=>True) (.slice (some ad167) y153.length co15) y153):=⟨by rw [← hq_];exact (rk_ HO_7)⟩;have n1_ : Aside0 (wr.heap[gb149]? = some (.cells #[.int .i64 t141,.float .f64 t142,.float .f64 t143,.float .f64 t144,.float .f64 t145,.float .f64 t146,.float .f64 t147] 26 (0,0))):=⟨by rw [← hq_];exact (bk_ BK149)⟩;have n2_ : Aside0 (wr.heap[gb164]? = some (.cells #[.int .i64 t156,.float .f64 t157,.float .f64 t158,.float .f64 t159,.float .f64 t160,.float .f64 t161,.float .f64 t162] 26 (0,0))):=⟨by rw [← hq_];exact (bk_ BK164)⟩;have n3_ : Aside0 (Below w.heap.size w wr):=⟨by rw [← hq_];exact (hb_ HB)⟩;clear HO_7 BK149 BK164 HB hq_;have HO_7:=n0_;have BK149:=n1_;have BK164:=n2_;have HB:=n3_;clear n0_ n1_ n2_ n3_))
           have n0_:=Aside0.mk (Kd.R_drew HO_7.out);have n1_:=Aside0.mk (blk_drew BK149.out);have n2_:=Aside0.mk (blk_drew BK164.out);have n3_:=Aside0.mk (below_drew1 HB.out);clear HO_7;clear BK149;clear BK164;clear HB;have HO_7:=n0_;have BK149:=n1_;have BK164:=n2_;have HB:=n3_;clear n0_ n1_ n2_ n3_;have p169 : 0 ≤ (x12_1 : Int):=of_decide_eq_true aa_;have q169 : x12_1 < (y153.length : Int):=of_decide_eq_true aa_;obtain ⟨ad169,e169,hx169_0⟩:=Kd.at_f64 (Kd.R_reads' HO_7.out).2.2 x12_1 p169 q169;obtain rfl : ad167 = ad169:=(by injection e169);replace p169:=eq_true p169;replace q169:=eq_true q169;have p170 : 0 ≤ (0 : Int):=(by omega);have q170 : 0 < (y153.length : Int):=of_decide_eq_true aa_;obtain ⟨ad170,e170,hx170_0⟩:=Kd.at_f64 (Kd.R_reads' HO_7.out).2.2 0 p170 q170;obtain rfl : ad167 = ad170:=(by injection e170);have qi170 : (0 < y153.length) = True:=eq_true (by omega)
           (try rw [show ((0 : Int)).toNat = 0 from rfl] at hx170_0)
           (try rw [Addr.add_zero'] at hx170_0)
           replace p170:=eq_true p170;replace q170:=eq_true q170;refine start_ (n:=12) (S:=fun w'=>w'.cell? (ad167.add (x12_1).toNat) = some (.float .f64 (rdOf (0 : Nat) y153 x12_1)) ∧ w'.cell? ad167 = some (.float .f64 (rdOf (0 : Nat) y153 0))) (ds:=[]) #[false,false,false,false,false,false,false,false,false,false,false,false] (by kernel_rfl) rfl rfl ⟨hx169_0,hx170_0⟩ (fun hHeld=>?_);refine with_tabW quarrylaw31_TallySteps.tab14 quarrylaw31_TallySteps.bits14 (fun HT_ HW_=>?_)
           generalize wr.drew = w31 at HO_7 BK149 BK164 HB hx169_0 hx170_0 hHeld ⊢
           refine pure_ (i:=0) (N:=some 58) (v:=?_) (a':=?_) #[true,false,false,false,false,false,false,false,false,false,false,false] rfl rfl (any_of HT_.out (by kernel_rfl)) (fun _ _ _ h=>h) (Or.inl ⟨by rfl,?_⟩) ?_ ?_;rotate_left
           ·intro w';go_simp;with_reducible rfl
           rotate_left
           ·simp only [Act.put,List.setIfInBounds_toArray,List.set_cons_zero,List.set_cons_succ,i64_w,i32_w];rfl
           refine pure_ (i:=1) (N:=some 59) (v:=?_) (a':=?_) #[true,true,false,false,false,false,false,false,false,false,false,false] rfl rfl (any_of HT_.out (by kernel_rfl)) (fun _ _ _ h=>h) (Or.inl ⟨by rfl,?_⟩) ?_ ?_;rotate_left
           ·intro w';go_simp;with_reducible rfl
           rotate_left
           ·simp only [Act.put,List.setIfInBounds_toArray,List.set_cons_zero,List.set_cons_succ,i64_w,i32_w];rfl
           refine pure_ (i:=2) (N:=some 60) (v:=?_) (a':=?_) #[true,true,true,false,false,false,false,false,false,false,false,false] rfl rfl (any_of HT_.out (by kernel_rfl)) (fun _ _ _ h=>h) (Or.inl ⟨by rfl,?_⟩) ?_ ?_;rotate_left
           ·intro w';go_simp;with_reducible rfl
           rotate_left
           ·simp only [Act.put,List.setIfInBounds_toArray,List.set_cons_zero,List.set_cons_succ,i64_w,i32_w];rfl
           refine pure_ (i:=3) (N:=some 61) (v:=?_) (a':=?_) #[true,true,true,true,false,false,false,false,false,false,false,false] rfl rfl (any_of HT_.out (by kernel_rfl)) (fun _ _ _ h=>h) (Or.inl ⟨by rfl,?_⟩) ?_ ?_;rotate_left
           ·intro w';go_simp;with_reducible rfl
           rotate_left
           ·simp only [Act.put,List.setIfInBounds_toArray,List.set_cons_zero,List.set_cons_succ,i64_w,i32_w];rfl
           refine pure_ (i:=4) (N:=some 62) (v:=?_) (a':=?_) #[true,true,true,true,true,false,false,false,false,false,false,false] rfl rfl (any_of HT_.out (by kernel_rfl)) (fun _ _ _ h=>h) (Or.inl ⟨by rfl,?_⟩) ?_ ?_;rotate_left
           ·intro w';go_simp;with_reducible rfl
           rotate_left
           ·simp only [Act.put,List.setIfInBounds_toArray,List.set_cons_zero,List.set_cons_succ,i64_w,i32_w];rfl
           refine pure_ (i:=6) (N:=some 64) (v:=?_) (a':=?_) #[true,true,true,true,true,false,true,false,false,false,false,false] rfl rfl (any_of HT_.out (by kernel_rfl)) (fun _ _ _ h=>h) (Or.inl ⟨by rfl,?_⟩) ?_ ?_;rotate_left
           ·intro w';go_simp;with_reducible rfl
           rotate_left
           ·simp only [Act.put,List.setIfInBounds_toArray,List.set_cons_zero,List.set_cons_succ,i64_w,i32_w];rfl
           refine pure_ (i:=7) (N:=some 65) (v:=?_) (a':=?_) #[true,true,true,true,true,false,true,true,false,false,false,false] rfl rfl (any_of HT_.out (by kernel_rfl)) (fun _ _ _ h=>h) (Or.inl ⟨by rfl,?_⟩) ?_ ?_;rotate_left
           ·intro w';go_simp;with_reducible rfl
           rotate_left
           ·simp only [Act.put,List.setIfInBounds_toArray,List.set_cons_zero,List.set_cons_succ,i64_w,i32_w];rfl
           refine take_ (i:=5) (N:=some 63) (v:=?_) (a':=?_) #[true,true,true,true,true,true,true,true,false,false,false,false] rfl rfl (take_ofW HT_.out HW_.out (by kernel_rfl)) (fun _ _ _ h=>h) (Or.inl ⟨by rfl,?_⟩) hHeld ?_ ?_;rotate_left
           ·rintro w' ⟨s0,s1⟩;go_simp;with_reducible rfl
           rotate_left
           ·simp only [Act.put,List.setIfInBounds_toArray,List.set_cons_zero,List.set_cons_succ,i64_w,i32_w];rfl
           refine take_ (i:=8) (N:=some 66) (v:=?_) (a':=?_) #[true,true,true,true,true,true,true,true,true,false,false,false] rfl rfl (take_ofW HT_.out HW_.out (by kernel_rfl)) (fun _ _ _ h=>h) (Or.inl ⟨by rfl,?_⟩) hHeld ?_ ?_;rotate_left
           ·rintro w' ⟨s0,s1⟩;go_simp;with_reducible rfl
           rotate_left
           ·simp only [Act.put,List.setIfInBounds_toArray,List.set_cons_zero,List.set_cons_succ,i64_w,i32_w];rfl
           refine pure_ (i:=9) (N:=some 67) (v:=?_) (a':=?_) #[true,true,true,true,true,true,true,true,true,true,false,false] rfl rfl (any_of HT_.out (by kernel_rfl)) (fun _ _ _ h=>h) (Or.inl ⟨by rfl,?_⟩) ?_ ?_;rotate_left
           ·intro w';go_simp;with_reducible rfl
           rotate_left
           ·simp only [Act.put,List.setIfInBounds_toArray,List.set_cons_zero,List.set_cons_succ,i64_w,i32_w];rfl
           refine pure_ (i:=10) (N:=some 68) (v:=?_) (a':=?_) #[true,true,true,true,true,true,true,true,true,true,true,false] rfl rfl (any_of HT_.out (by kernel_rfl)) (fun _ _ _ h=>h) (Or.inl ⟨by rfl,?_⟩) ?_ ?_;rotate_left
           ·intro w';go_simp;with_reducible rfl
           rotate_left
           ·simp only [Act.put,List.setIfInBounds_toArray,List.set_cons_zero,List.set_cons_succ,i64_w,i32_w];rfl
           refine pure_ (i:=11) (N:=some 11) (v:=?_) (a':=?_) #[true,true,true,true,true,true,true,true,true,true,true,true] rfl rfl (any_of HT_.out (by kernel_rfl)) (fun _ _ _ h=>h) (Or.inl ⟨by rfl,?_⟩) ?_ ?_;rotate_left
           ·intro w';go_simp;with_reducible rfl
           rotate_left
           ·simp only [Act.put,List.setIfInBounds_toArray,List.set_cons_zero,List.set_cons_succ,i64_w,i32_w];rfl
           refine done_ (done_of HT_.out (by kernel_rfl)) ?_
           try go_wp2
           go_roundg k1
           case measure=>have:=HK1.out;omega
           case rel=>exact ⟨(!t168),((FloatKind.f64.format.order (rdOf (0 : Nat) y153 x12_1) (rdOf (0 : Nat) y153 0) == some .eq)),(wrap64 (x12_1 + 1)),rr_,rr_,rr_,(by first|exact H'|(subst_vars;exact H')),⟨by have:=HK1.out;omega⟩,⟨(rk_ HO_7)⟩,⟨(bk_ BK149)⟩,⟨(bk_ BK164)⟩,⟨(hb_ HB)⟩⟩
          rw [if_neg c30] at H
          exact absurd H (by simp)
         replace c29:=Bool.eq_false_iff.mpr c29;subst c29
         have H1 : (quarrylaw31_TallySteps.l0 k1 a1 t148 y153 t163 (!t168) false (wrap64 (x12_1 + 1)) t141 t142 t143 t144 t145 t146 t147 t156 t157 t158 t159 t160 t161 t162) = some r:=by rw [if_neg (show ¬ (false = true) by decide)] at H;exact H
         clear H;have H:=H1;clear H1;have H':=Aside0.mk H;clear H;have p167 : 0 ≤ (x12_1 : Int):=of_decide_eq_true aa_;have q167 : x12_1 < (y153.length : Int):=of_decide_eq_true aa_;obtain ⟨ad167,e167,hx167_0⟩:=Kd.at_f64 (Kd.R_reads' HO_7.out).2.2 x12_1 p167 q167;cases e167;replace p167:=eq_true p167;replace q167:=eq_true q167
         try go_wp2_with (first|(go_at_call 29;(with_reducible refine (quarryref13_Finite.calls (rdOf (0 : Nat) y153 x12_1) t168 _ A28.out).mono ?_);rintro e w' ⟨rfl,⟨nd,rfl⟩⟩))
         (try (rw [drewN_self wr];generalize hq_ : World.drewN wr _ = wr;have n0_ : Aside0 (Kd.R Kd.f64 24 wr w.heap.size (fun _=>True) (.slice (some ad167) y153.length co15) y153):=⟨by rw [← hq_];exact (rk_ HO_7)⟩;have n1_ : Aside0 (wr.heap[gb149]? = some (.cells #[.int .i64 t141,.float .f64 t142,.float .f64 t143,.float .f64 t144,.float .f64 t145,.float .f64 t146,.float .f64 t147] 26 (0,0))):=⟨by rw [← hq_];exact (bk_ BK149)⟩;have n2_ : Aside0 (wr.heap[gb164]? = some (.cells #[.int .i64 t156,.float .f64 t157,.float .f64 t158,.float .f64 t159,.float .f64 t160,.float .f64 t161,.float .f64 t162] 26 (0,0))):=⟨by rw [← hq_];exact (bk_ BK164)⟩;have n3_ : Aside0 (Below w.heap.size w wr):=⟨by rw [← hq_];exact (hb_ HB)⟩;clear HO_7 BK149 BK164 HB hq_;have HO_7:=n0_;have BK149:=n1_;have BK164:=n2_;have HB:=n3_;clear n0_ n1_ n2_ n3_))
         have n0_:=Aside0.mk (Kd.R_drew HO_7.out);have n1_:=Aside0.mk (blk_drew BK149.out);have n2_:=Aside0.mk (blk_drew BK164.out);have n3_:=Aside0.mk (below_drew1 HB.out);clear HO_7;clear BK149;clear BK164;clear HB;have HO_7:=n0_;have BK149:=n1_;have BK164:=n2_;have HB:=n3_;clear n0_ n1_ n2_ n3_;refine start_ (n:=12) (S:=fun w'=>True) (ds:=[]) #[false,false,false,false,false,false,false,false,false,false,false,false] (by kernel_rfl) rfl rfl trivial (fun hHeld=>?_);refine with_tabW quarrylaw31_TallySteps.tab14 quarrylaw31_TallySteps.bits14 (fun HT_ HW_=>?_)
         generalize wr.drew = w32 at HO_7 BK149 BK164 HB hHeld ⊢
         refine pure_ (i:=0) (N:=some 58) (v:=?_) (a':=?_) #[true,false,false,false,false,false,false,false,false,false,false,false] rfl rfl (any_of HT_.out (by kernel_rfl)) (fun _ _ _ h=>h) (Or.inl ⟨by rfl,?_⟩) ?_ ?_;rotate_left
         ·intro w';go_simp;with_reducible rfl
         rotate_left
         ·simp only [Act.put,List.setIfInBounds_toArray,List.set_cons_zero,List.set_cons_succ,i64_w,i32_w];rfl
         refine pure_ (i:=1) (N:=some 59) (v:=?_) (a':=?_) #[true,true,false,false,false,false,false,false,false,false,false,false] rfl rfl (any_of HT_.out (by kernel_rfl)) (fun _ _ _ h=>h) (Or.inl ⟨by rfl,?_⟩) ?_ ?_;rotate_left
         ·intro w';go_simp;with_reducible rfl
         rotate_left
         ·simp only [Act.put,List.setIfInBounds_toArray,List.set_cons_zero,List.set_cons_succ,i64_w,i32_w];rfl
         refine pure_ (i:=2) (N:=some 60) (v:=undef) (a':=?_) #[true,true,true,false,false,false,false,false,false,false,false,false] rfl rfl (any_of HT_.out (by kernel_rfl)) (fun _ _ _ h=>h) (Or.inr ⟨by rfl,rfl⟩) ?_ ?_;rotate_left
         ·simp only [Act.put,List.setIfInBounds_toArray,List.set_cons_zero,List.set_cons_succ,i64_w,i32_w];rfl
         refine pure_ (i:=3) (N:=some 61) (v:=undef) (a':=?_) #[true,true,true,true,false,false,false,false,false,false,false,false] rfl rfl (any_of HT_.out (by kernel_rfl)) (fun _ _ _ h=>h) (Or.inr ⟨by rfl,rfl⟩) ?_ ?_;rotate_left
         ·simp only [Act.put,List.setIfInBounds_toArray,List.set_cons_zero,List.set_cons_succ,i64_w,i32_w];rfl
         refine pure_ (i:=4) (N:=some 62) (v:=undef) (a':=?_) #[true,true,true,true,true,false,false,false,false,false,false,false] rfl rfl (any_of HT_.out (by kernel_rfl)) (fun _ _ _ h=>h) (Or.inr ⟨by rfl,rfl⟩) ?_ ?_;rotate_left
         ·simp only [Act.put,List.setIfInBounds_toArray,List.set_cons_zero,List.set_cons_succ,i64_w,i32_w];rfl
         refine pure_ (i:=5) (N:=some 63) (v:=undef) (a':=?_) #[true,true,true,true,true,true,false,false,false,false,false,false] rfl rfl (any_of HT_.out (by kernel_rfl)) (fun _ _ _ h=>h) (Or.inr ⟨by rfl,rfl⟩) ?_ ?_;rotate_left
         ·simp only [Act.put,List.setIfInBounds_toArray,List.set_cons_zero,List.set_cons_succ,i64_w,i32_w];rfl
         refine pure_ (i:=6) (N:=some 64) (v:=undef) (a':=?_) #[true,true,true,true,true,true,true,false,false,false,false,false] rfl rfl (any_of HT_.out (by kernel_rfl)) (fun _ _ _ h=>h) (Or.inr ⟨by rfl,rfl⟩) ?_ ?_;rotate_left
         ·simp only [Act.put,List.setIfInBounds_toArray,List.set_cons_zero,List.set_cons_succ,i64_w,i32_w];rfl
         refine pure_ (i:=7) (N:=some 65) (v:=undef) (a':=?_) #[true,true,true,true,true,true,true,true,false,false,false,false] rfl rfl (any_of HT_.out (by kernel_rfl)) (fun _ _ _ h=>h) (Or.inr ⟨by rfl,rfl⟩) ?_ ?_;rotate_left
         ·simp only [Act.put,List.setIfInBounds_toArray,List.set_cons_zero,List.set_cons_succ,i64_w,i32_w];rfl
         refine pure_ (i:=8) (N:=some 66) (v:=undef) (a':=?_) #[true,true,true,true,true,true,true,true,true,false,false,false] rfl rfl (any_of HT_.out (by kernel_rfl)) (fun _ _ _ h=>h) (Or.inr ⟨by rfl,rfl⟩) ?_ ?_;rotate_left
         ·simp only [Act.put,List.setIfInBounds_toArray,List.set_cons_zero,List.set_cons_succ,i64_w,i32_w];rfl
         refine pure_ (i:=9) (N:=some 67) (v:=undef) (a':=?_) #[true,true,true,true,true,true,true,true,true,true,false,false] rfl rfl (any_of HT_.out (by kernel_rfl)) (fun _ _ _ h=>h) (Or.inr ⟨by rfl,rfl⟩) ?_ ?_;rotate_left
         ·simp only [Act.put,List.setIfInBounds_toArray,List.set_cons_zero,List.set_cons_succ,i64_w,i32_w];rfl
         refine pure_ (i:=10) (N:=some 68) (v:=?_) (a':=?_) #[true,true,true,true,true,true,true,true,true,true,true,false] rfl rfl (any_of HT_.out (by kernel_rfl)) (fun _ _ _ h=>h) (Or.inl ⟨by rfl,?_⟩) ?_ ?_;rotate_left
         ·intro w';go_simp;with_reducible rfl
         rotate_left
         ·simp only [Act.put,List.setIfInBounds_toArray,List.set_cons_zero,List.set_cons_succ,i64_w,i32_w];rfl
         refine pure_ (i:=11) (N:=some 11) (v:=?_) (a':=?_) #[true,true,true,true,true,true,true,true,true,true,true,true] rfl rfl (any_of HT_.out (by kernel_rfl)) (fun _ _ _ h=>h) (Or.inl ⟨by rfl,?_⟩) ?_ ?_;rotate_left
         ·intro w';go_simp;with_reducible rfl
         rotate_left
         ·simp only [Act.put,List.setIfInBounds_toArray,List.set_cons_zero,List.set_cons_succ,i64_w,i32_w];rfl
         refine done_ (done_of HT_.out (by kernel_rfl)) ?_
         try go_wp2
         go_roundg k1
         case measure=>have:=HK1.out;omega
         case rel=>exact ⟨(!t168),(false),(wrap64 (x12_1 + 1)),rr_,rr_,rr_,(by first|exact H'|(subst_vars;exact H')),⟨by have:=HK1.out;omega⟩,⟨(rk_ HO_7)⟩,⟨(bk_ BK149)⟩,⟨(bk_ BK164)⟩,⟨(hb_ HB)⟩⟩
        rw [if_neg c27] at H
        exact absurd H (by simp)
      rw [if_neg c20] at H
      have c20b0 : decide (x12_1 < (y153.length : Int)) = false:=decide_eq_false c20;clear c20
      by_cases c33 : x10_1 = true
      ·subst c33
       have H1 : (if t163 = 130 then ((quarrylaw31_same.f t156 t157 t158 t159 t160 t161 t162 0 0 0 0 0 0 0).bind fun t171=>(some t171)) else (none)) = some r:=by rw [if_pos rfl] at H;exact H
       clear H;have H:=H1;clear H1
       by_cases c34 : t163 = 130
       ·rw [if_pos c34] at H
        have c34b0 : (t163 == 130) = true:=beq_iff_eq.mpr c34;have c34b1 : (t163 != 130) = false:=bne_eq_false_iff_eq.mpr c34;clear c34;replace H:=Option.bind_eq_some_iff.mp H;obtain ⟨t171,A350,H⟩:=H;replace H : (some t171) = some r:=H;have A35:=Aside0.mk A350;clear A350;obtain rfl:=Option.some.inj H;have hnb36:=NB164_149.out;have hnc36:=NB149_164.out;obtain ⟨hcz37_0,hcz37_1,hcz37_2,hcz37_3,hcz37_4,hcz37_5,hcz37_6,hfz37_0,hfz37_1,hfz37_2,hfz37_3,hfz37_4,hfz37_5,hfz37_6⟩:=cf7_ BK164
        go_wp2_with (first|(go_at_call 15;(with_reducible refine (quarrylaw31_same.calls t156 t157 t158 t159 t160 t161 t162 0 0 0 0 0 0 0 t171 _ A35.out).mono ?_);rintro e w38 ⟨rfl,hb⟩;have n_:=J_ (Kd.R_below (rk_ HO_7) hb) (J_ (bkb_ BK149 hb) (J_ (bkb_ BK164 hb) (Aside0.mk (below_step (hb_ HB) hb))));clear HO_7 BK149 BK164 HB;obtain ⟨HO_7,BK149,BK164,HB⟩:=n_;(try clear hb);(try clear hb2);(try clear hk);(try clear hi)))
        go_ret;exact ⟨er_,(hb_ HB)⟩
       rw [if_neg c34] at H
       exact absurd H (by simp)
      replace c33:=Bool.eq_false_iff.mpr c33;subst c33
      have H1 : (if t148 = 0 then ((tally_Put.f k1 t141 t142 t143 t144 t145 t146 t147 a1).bind fun bt174=>(if bt174.2.2.2.2.2.2.2 = t163 then ((quarrylaw31_same.f t156 t157 t158 t159 t160 t161 t162 bt174.1 bt174.2.1 bt174.2.2.1 bt174.2.2.2.1 bt174.2.2.2.2.1 bt174.2.2.2.2.2.1 bt174.2.2.2.2.2.2.1).bind fun t183=>(quarrylaw31_TallySteps.j1 k1 y153 t163 x11_1 (!t183) t156 t157 t158 t159 t160 t161 t162)) else (quarrylaw31_TallySteps.j1 k1 y153 t163 x11_1 true t156 t157 t158 t159 t160 t161 t162))) else (if t148 = 121 then (if t163 = 121 then ((quarrylaw31_same.f t141 t142 t143 t144 t145 t146 t147 0 0 0 0 0 0 0).bind fun t172=>(if t172 = true then ((quarrylaw31_same.f t156 t157 t158 t159 t160 t161 t162 0 0 0 0 0 0 0).bind fun t173=>(some t173)) else (none))) else (none)) else (none))) = some r:=by rw [if_neg (show ¬ (false = true) by decide)] at H;exact H
      clear H;have H:=H1;clear H1
      by_cases c39 : t148 = 0
      ·rw [if_pos c39] at H
       have c39b0 : (t148 == 0) = true:=beq_iff_eq.mpr c39;have c39b1 : (t148 != 0) = false:=bne_eq_false_iff_eq.mpr c39;clear c39;replace H:=Option.bind_eq_some_iff.mp H;obtain ⟨⟨t174,t175,t176,t177,t178,t179,t180,t181⟩,A400,H⟩:=H;replace H : (if t181 = t163 then ((quarrylaw31_same.f t156 t157 t158 t159 t160 t161 t162 t174 t175 t176 t177 t178 t179 t180).bind fun t183=>(quarrylaw31_TallySteps.j1 k1 y153 t163 x11_1 (!t183) t156 t157 t158 t159 t160 t161 t162)) else (quarrylaw31_TallySteps.j1 k1 y153 t163 x11_1 true t156 t157 t158 t159 t160 t161 t162)) = some r:=H;have A40:=Aside0.mk A400;clear A400;have HC41:=Aside0.mk H;clear H;have hnb42:=NB149_164.out;have hnc42:=NB164_149.out;obtain ⟨hcz43_0,hcz43_1,hcz43_2,hcz43_3,hcz43_4,hcz43_5,hcz43_6,hfz43_0,hfz43_1,hfz43_2,hfz43_3,hfz43_4,hfz43_5,hfz43_6⟩:=cf7_ BK149
       go_upto_region 20 with (first|((with_reducible refine gate_callee (f:=18) rfl ?_);refine goesL_ (some 98) rfl rfl Try.func18 (by kernel_rfl) rfl #[.agg #[.int .i64 t141,.float .f64 t142,.float .f64 t143,.float .f64 t144,.float .f64 t145,.float .f64 t146,.float .f64 t147],.float .f64 a1] rfl am_ ?_;(with_reducible refine (tally_Put.calls k1 t141 t142 t143 t144 t145 t146 t147 a1 t174 t175 t176 t177 t178 t179 t180 t181 _ A40.out).mono ?_);rintro e w44 ⟨rfl,hb⟩;refine ⟨_,rfl,?_⟩;have n_:=J_ (Kd.R_below (rk_ HO_7) hb) (J_ (bkb_ BK149 hb) (J_ (bkb_ BK164 hb) (Aside0.mk (below_step (hb_ HB) hb))));clear HO_7 BK149 BK164 HB;obtain ⟨HO_7,BK149,BK164,HB⟩:=n_;(try clear hb);(try clear hb2);(try clear hk);(try clear hi))|((with_reducible refine gate_dst (N:=13) rfl ?_);(try (refine gate_guard (by rfl) ?_;dsimp only));refine box_event ?hg (N:=13) ?hd (cs:=#[.int .i64 0,.float .f64 0,.float .f64 0,.float .f64 0,.float .f64 0,.float .f64 0,.float .f64 0]) (t:=26) ?hr ?_;(case hd=>rfl);(case hg=>rfl);(case hr=>first|(go_simp;done)|(go_simp;rfl));intro gb182 hg w45 hbox hb;have n_:=J_ (Kd.R_below (rk_ HO_7) hb) (J_ (bkb_ BK149 hb) (J_ (bkb_ BK164 hb) (J_ (below_step (hb_ HB) hb) (J_ (hbox) (J_ (bs_ hg HB) (J_ (bs_ hg HB) (J_ ((by rw [hg];exact Nat.ne_of_lt (bkl_ BK149) : gb149 ≠ gb182)) (J_ ((by rw [hg];exact Nat.ne_of_gt (bkl_ BK149) : gb182 ≠ gb149)) (J_ ((by rw [hg];exact Nat.ne_of_lt (bkl_ BK164) : gb164 ≠ gb182)) (Aside0.mk ((by rw [hg];exact Nat.ne_of_gt (bkl_ BK164) : gb182 ≠ gb164))))))))))));clear HO_7 BK149 BK164 HB;obtain ⟨HO_7,BK149,BK164,HB,BK182,GW182,GE182,NB149_182,NB182_149,NB164_182,NB182_164⟩:=n_;clear hb hbox hg;have hnb46:=NB182_149.out;have hnc46:=NB149_182.out;have hnb47:=NB182_164.out;have hnc47:=NB164_182.out;obtain ⟨hcz48_0,hcz48_1,hcz48_2,hcz48_3,hcz48_4,hcz48_5,hcz48_6,hfz48_0,hfz48_1,hfz48_2,hfz48_3,hfz48_4,hfz48_5,hfz48_6⟩:=cf7_ BK182))
       (try simp only [Act.put,List.setIfInBounds_toArray,List.set_cons_zero,List.set_cons_succ])
       have H:=HC41.out;clear HC41;have HC49:=Aside0.mk H;clear H
       go_upto_region 20 with (fail)
       go_cut [109] (fun v109 wc=>∃ (kq : Nat) (x109_48 : Bool),v109 = .bool x109_48 ∧ Aside0 (quarrylaw31_TallySteps.j1 kq y153 t163 x11_1 x109_48 t156 t157 t158 t159 t160 t161 t162 = some r) ∧ Aside0 (kq ≤ k1) ∧ Aside0 (Kd.R Kd.f64 24 wc w.heap.size (fun _=>True) (.slice Ao15 y153.length co15) y153) ∧ Aside0 (wc.heap[gb149]? = some (.cells #[.int .i64 t141,.float .f64 t142,.float .f64 t143,.float .f64 t144,.float .f64 t145,.float .f64 t146,.float .f64 t147] 26 (0,0))) ∧ Aside0 (wc.heap[gb164]? = some (.cells #[.int .i64 t156,.float .f64 t157,.float .f64 t158,.float .f64 t159,.float .f64 t160,.float .f64 t161,.float .f64 t162] 26 (0,0))) ∧ Aside0 (wc.heap[gb182]? = some (.cells #[.int .i64 t174,.float .f64 t175,.float .f64 t176,.float .f64 t177,.float .f64 t178,.float .f64 t179,.float .f64 t180] 26 (0,0))) ∧ Aside0 (Below w.heap.size w wc))
       case first =>
        have H:=HC49.out;clear HC49
        by_cases c50 : t181 = t163
        ·rw [if_pos c50] at H
         have c50b0 : (t181 == t163) = true:=beq_iff_eq.mpr c50;have c50b1 : (t181 != t163) = false:=bne_eq_false_iff_eq.mpr c50;clear c50
         (first|rw [c50b0]|(simp only [i64_w,i32_w];rw [c50b0])|skip)
         replace H:=Option.bind_eq_some_iff.mp H;obtain ⟨t183,A510,H⟩:=H;replace H : (quarrylaw31_TallySteps.j1 k1 y153 t163 x11_1 (!t183) t156 t157 t158 t159 t160 t161 t162) = some r:=H;have A51:=Aside0.mk A510;clear A510;have H':=Aside0.mk H;clear H;have hnb52:=NB164_149.out;have hnc52:=NB149_164.out;have hnb53:=NB164_182.out;have hnc53:=NB182_164.out;obtain ⟨hcz54_0,hcz54_1,hcz54_2,hcz54_3,hcz54_4,hcz54_5,hcz54_6,hfz54_0,hfz54_1,hfz54_2,hfz54_3,hfz54_4,hfz54_5,hfz54_6⟩:=cf7_ BK164;have hnb55:=NB182_149.out;have hnc55:=NB149_182.out;obtain ⟨hcz56_0,hcz56_1,hcz56_2,hcz56_3,hcz56_4,hcz56_5,hcz56_6,hfz56_0,hfz56_1,hfz56_2,hfz56_3,hfz56_4,hfz56_5,hfz56_6⟩:=cf7_ BK182
         go_wp2_with (first|(go_at_call 15;(with_reducible refine (quarrylaw31_same.calls t156 t157 t158 t159 t160 t161 t162 t174 t175 t176 t177 t178 t179 t180 t183 _ A51.out).mono ?_);rintro e w57 ⟨rfl,hb⟩;have n_:=J_ (Kd.R_below (by (with_reducible repeat (first|apply Kd.R_alloc|apply Kd.R_drewN|apply Kd.R_drew));exact (Kd.R_mono (Kd.R_far (p:=⟨gb182,6,none⟩) (Kd.R_far (p:=⟨gb182,5,none⟩) (Kd.R_far (p:=⟨gb182,4,none⟩) (Kd.R_far (p:=⟨gb182,3,none⟩) (Kd.R_far (p:=⟨gb182,2,none⟩) (Kd.R_far (p:=⟨gb182,1,none⟩) (Kd.R_far (p:=⟨gb182,0,none⟩) (Kd.R_types HO_7.out BK182.out (by decide)) (fun _ hk=>hk.2) (.int .i64 t174)) (fun _ hk=>hk.2) (.float .f64 t175)) (fun _ hk=>hk.2) (.float .f64 t176)) (fun _ hk=>hk.2) (.float .f64 t177)) (fun _ hk=>hk.2) (.float .f64 t178)) (fun _ hk=>hk.2) (.float .f64 t179)) (fun _ hk=>hk.2) (.float .f64 t180)) (fun _ h_=>h_.1))) hb) (J_ (blk_below (g:=gb149) (o:=.cells #[.int .i64 t141,.float .f64 t142,.float .f64 t143,.float .f64 t144,.float .f64 t145,.float .f64 t146,.float .f64 t147] 26 (0,0)) ((bf_ NB149_182 BK149)) hb) (J_ (blk_below (g:=gb164) (o:=.cells #[.int .i64 t156,.float .f64 t157,.float .f64 t158,.float .f64 t159,.float .f64 t160,.float .f64 t161,.float .f64 t162] 26 (0,0)) ((bf_ NB164_182 BK164)) hb) (J_ (blk_below (g:=gb182) (o:=.cells #[.int .i64 t174,.float .f64 t175,.float .f64 t176,.float .f64 t177,.float .f64 t178,.float .f64 t179,.float .f64 t180] 26 (0,0)) (by (with_reducible repeat (first|refine blk_drewN ?_ _|refine blk_drew ?_|refine blk_alloc ?_ _));refine bp_ (cs:=#[.int .i64 t174,.float .f64 t175,.float .f64 t176,.float .f64 t177,.float .f64 t178,.float .f64 t179,.float .f64 0]) ?_ 6 _;refine bp_ (cs:=#[.int .i64 t174,.float .f64 t175,.float .f64 t176,.float .f64 t177,.float .f64 t178,.float .f64 0,.float .f64 0]) ?_ 5 _;refine bp_ (cs:=#[.int .i64 t174,.float .f64 t175,.float .f64 t176,.float .f64 t177,.float .f64 0,.float .f64 0,.float .f64 0]) ?_ 4 _;refine bp_ (cs:=#[.int .i64 t174,.float .f64 t175,.float .f64 t176,.float .f64 0,.float .f64 0,.float .f64 0,.float .f64 0]) ?_ 3 _;refine bp_ (cs:=#[.int .i64 t174,.float .f64 t175,.float .f64 0,.float .f64 0,.float .f64 0,.float .f64 0,.float .f64 0]) ?_ 2 _;refine bp_ (cs:=#[.int .i64 t174,.float .f64 0,.float .f64 0,.float .f64 0,.float .f64 0,.float .f64 0,.float .f64 0]) ?_ 1 _;refine bp_ (cs:=#[.int .i64 0,.float .f64 0,.float .f64 0,.float .f64 0,.float .f64 0,.float .f64 0,.float .f64 0]) ?_ 0 _;(with_reducible repeat (first|refine blk_drewN ?_ _|refine blk_drew ?_|refine blk_alloc ?_ _));exact BK182.out) hb) (Aside0.mk (below_step (hb_ HB) hb)))));clear HO_7 BK149 BK164 BK182 HB;obtain ⟨HO_7,BK149,BK164,BK182,HB⟩:=n_;(try clear hb);(try clear hb2);(try clear hk);(try clear hi)))
         go_meet
         case rel=>exact ⟨_,(!t183),rr_,(by first|exact H'|(subst_vars;exact H')),⟨by have:=HK1.out;first|omega|exact Nat.le_refl _⟩,⟨(rk_ HO_7)⟩,⟨(bk_ BK149)⟩,⟨(bk_ BK164)⟩,⟨(bk_ BK182)⟩,⟨(hb_ HB)⟩⟩
        rw [if_neg c50] at H
        have c50b0 : (t181 == t163) = false:=beq_eq_false_iff_ne.mpr c50;have c50b1 : (t181 != t163) = true:=bne_iff_ne.mpr c50
        (first|rw [c50b0]|(simp only [i64_w,i32_w];rw [c50b0])|skip)
        have H':=Aside0.mk H;clear H;go_wp2
        go_meet
        case rel=>exact ⟨_,(true),rr_,(by first|exact H'|(subst_vars;exact H')),⟨by have:=HK1.out;first|omega|exact Nat.le_refl _⟩,⟨by (with_reducible repeat (first|apply Kd.R_alloc|apply Kd.R_drewN|apply Kd.R_drew));exact Kd.R_mono (Kd.R_far (p:=⟨gb182,6,none⟩) (Kd.R_far (p:=⟨gb182,5,none⟩) (Kd.R_far (p:=⟨gb182,4,none⟩) (Kd.R_far (p:=⟨gb182,3,none⟩) (Kd.R_far (p:=⟨gb182,2,none⟩) (Kd.R_far (p:=⟨gb182,1,none⟩) (Kd.R_far (p:=⟨gb182,0,none⟩) (Kd.R_types HO_7.out BK182.out (by decide)) (fun _ hk=>hk.2) (.int .i64 t174)) (fun _ hk=>hk.2) (.float .f64 t175)) (fun _ hk=>hk.2) (.float .f64 t176)) (fun _ hk=>hk.2) (.float .f64 t177)) (fun _ hk=>hk.2) (.float .f64 t178)) (fun _ hk=>hk.2) (.float .f64 t179)) (fun _ hk=>hk.2) (.float .f64 t180)) (fun _ hk=>trivial)⟩,⟨(bf_ NB149_182 BK149)⟩,⟨(bf_ NB164_182 BK164)⟩,⟨by (with_reducible repeat (first|refine blk_drewN ?_ _|refine blk_drew ?_|refine blk_alloc ?_ _));refine bp_ (cs:=#[.int .i64 t174,.float .f64 t175,.float .f64 t176,.float .f64 t177,.float .f64 t178,.float .f64 t179,.float .f64 0]) ?_ 6 _;refine bp_ (cs:=#[.int .i64 t174,.float .f64 t175,.float .f64 t176,.float .f64 t177,.float .f64 t178,.float .f64 0,.float .f64 0]) ?_ 5 _;refine bp_ (cs:=#[.int .i64 t174,.float .f64 t175,.float .f64 t176,.float .f64 t177,.float .f64 0,.float .f64 0,.float .f64 0]) ?_ 4 _;refine bp_ (cs:=#[.int .i64 t174,.float .f64 t175,.float .f64 t176,.float .f64 0,.float .f64 0,.float .f64 0,.float .f64 0]) ?_ 3 _;refine bp_ (cs:=#[.int .i64 t174,.float .f64 t175,.float .f64 0,.float .f64 0,.float .f64 0,.float .f64 0,.float .f64 0]) ?_ 2 _;refine bp_ (cs:=#[.int .i64 t174,.float .f64 0,.float .f64 0,.float .f64 0,.float .f64 0,.float .f64 0,.float .f64 0]) ?_ 1 _;refine bp_ (cs:=#[.int .i64 0,.float .f64 0,.float .f64 0,.float .f64 0,.float .f64 0,.float .f64 0,.float .f64 0]) ?_ 0 _;(with_reducible repeat (first|refine blk_drewN ?_ _|refine blk_drew ?_|refine blk_alloc ?_ _));exact BK182.out⟩,⟨(hb_ HB)⟩⟩
       case rest =>
        clear HC49;obtain ⟨kq,x109_48,rfl,HA,HJ48,HO_7,BK149,BK164,BK182,HB⟩:=hcut
        cases kq with
        | zero=>exact absurd HA.out (by simp [quarrylaw31_TallySteps.j1])
        | succ kj48 =>
         have H:=HA.out;clear HA
         simp only [quarrylaw31_TallySteps.j1] at H
         by_cases c58 : x109_48 = true
         ·subst c58
          have H1 : (none) = some r:=by rw [if_pos rfl] at H;exact H
          clear H;have H:=H1;clear H1;exact absurd H (by simp)
         replace c58:=Bool.eq_false_iff.mpr c58;subst c58
         have H1 : (if t163 = 0 then (quarrylaw31_TallySteps.l1 kj48 y153 x11_1 false false 0 t156 t157 t158 t159 t160 t161 t162) else (some (t163 == 121))) = some r:=by rw [if_neg (show ¬ (false = true) by decide)] at H;exact H
         clear H;have H:=H1;clear H1
         by_cases c59 : t163 = 0
         ·rw [if_pos c59] at H
          have c59b0 : (t163 == 0) = true:=beq_iff_eq.mpr c59;have c59b1 : (t163 != 0) = false:=bne_eq_false_iff_eq.mpr c59;clear c59;have H':=Aside0.mk H;clear H;go_wp2
          go_loopg [15,16,17] kj48 (fun kq v15 v16 v17 w'=>∃ (x15_3 : Bool) (x16_3 : Bool) (x17_3 : Int),v15 = .bool x15_3 ∧ v16 = .bool x16_3 ∧ v17 = .int .i64 x17_3 ∧ Aside0 (quarrylaw31_TallySteps.l1 kq y153 x11_1 x15_3 x16_3 x17_3 t156 t157 t158 t159 t160 t161 t162 = some r) ∧ Aside0 (kq ≤ kj48) ∧ Aside0 (Kd.R Kd.f64 24 w' w.heap.size (fun _=>True) (.slice Ao15 y153.length co15) y153) ∧ Aside0 (w'.heap[gb149]? = some (.cells #[.int .i64 t141,.float .f64 t142,.float .f64 t143,.float .f64 t144,.float .f64 t145,.float .f64 t146,.float .f64 t147] 26 (0,0))) ∧ Aside0 (w'.heap[gb164]? = some (.cells #[.int .i64 t156,.float .f64 t157,.float .f64 t158,.float .f64 t159,.float .f64 t160,.float .f64 t161,.float .f64 t162] 26 (0,0))) ∧ Aside0 (w'.heap[gb182]? = some (.cells #[.int .i64 t174,.float .f64 t175,.float .f64 t176,.float .f64 t177,.float .f64 t178,.float .f64 t179,.float .f64 t180] 26 (0,0))) ∧ Aside0 (Below w.heap.size w w'))
          case atStart=>exact ⟨(false),(false),(0),rr_,rr_,rr_,H',⟨Nat.le_refl _⟩,⟨(rk_ HO_7)⟩,⟨(bk_ BK149)⟩,⟨(bk_ BK164)⟩,⟨(bk_ BK182)⟩,⟨(hb_ HB)⟩⟩
          case round =>
           clear H'
           try clear HO_7
           try clear BK149
           try clear BK164
           try clear BK182
           try clear HB
           obtain ⟨x15_3,x16_3,x17_3,rfl,rfl,rfl,HA,HK3,HO_7,BK149,BK164,BK182,HB⟩:=hrel
           cases gk with
           | zero=>exact absurd HA.out (by simp [quarrylaw31_TallySteps.l1])
           | succ k3 =>
            have H:=HA.out;clear HA
            simp only [quarrylaw31_TallySteps.l1] at H
            by_cases c60 : x17_3 < (y153.length : Int)
            ·rw [if_pos c60] at H
             have c60b0 : decide (x17_3 < (y153.length : Int)) = true:=decide_eq_true c60;clear c60
             by_cases c61 : 0 ≤ x17_3
             ·rw [if_pos c61] at H
              have c61b0 : decide (0 ≤ x17_3) = true:=decide_eq_true c61;clear c61
              by_cases c62 : (FloatKind.f64.format.order (rdOf (0 : Nat) y153 x17_3) t157 == some .lt) = true
              ·rw [if_pos c62] at H
               have c62b0 : (FloatKind.f64.format.order (rdOf (0 : Nat) y153 x17_3) t157 == some .lt) = true:=c62
               (try (have c62b1 : decide (FloatKind.f64.format.order (rdOf (0 : Nat) y153 x17_3) t157 = some .lt) = true:=by simpa using c62))
               (try (have c62b2 : (FloatKind.f64.format.order (rdOf (0 : Nat) y153 x17_3) t157 == some .lt) = true:=by simpa using c62))
               clear c62;exact absurd H (by simp)
              rw [if_neg c62] at H
              have c62b0 : (FloatKind.f64.format.order (rdOf (0 : Nat) y153 x17_3) t157 == some .lt) = false:=by simpa using c62
              (try (have c62b1 : decide (FloatKind.f64.format.order (rdOf (0 : Nat) y153 x17_3) t157 = some .lt) = false:=by simpa using c62))
              (try (have c62b2 : (FloatKind.f64.format.order (rdOf (0 : Nat) y153 x17_3) t157 == some .lt) = false:=by simpa using c62))
              (try (have c62b3 : ¬ (FloatKind.f64.format.order (rdOf (0 : Nat) y153 x17_3) t157 = some .lt):=by simpa using c62))
              clear c62
              by_cases c63 : (FloatKind.f64.format.order (rdOf (0 : Nat) y153 x17_3) t158 == some .gt) = true
              ·rw [if_pos c63] at H
               have c63b0 : (FloatKind.f64.format.order (rdOf (0 : Nat) y153 x17_3) t158 == some .gt) = true:=c63
               (try (have c63b1 : decide (FloatKind.f64.format.order (rdOf (0 : Nat) y153 x17_3) t158 = some .gt) = true:=by simpa using c63))
               (try (have c63b2 : (FloatKind.f64.format.order (rdOf (0 : Nat) y153 x17_3) t158 == some .gt) = true:=by simpa using c63))
               clear c63;exact absurd H (by simp)
              rw [if_neg c63] at H
              have c63b0 : (FloatKind.f64.format.order (rdOf (0 : Nat) y153 x17_3) t158 == some .gt) = false:=by simpa using c63
              (try (have c63b1 : decide (FloatKind.f64.format.order (rdOf (0 : Nat) y153 x17_3) t158 = some .gt) = false:=by simpa using c63))
              (try (have c63b2 : (FloatKind.f64.format.order (rdOf (0 : Nat) y153 x17_3) t158 == some .gt) = false:=by simpa using c63))
              (try (have c63b3 : ¬ (FloatKind.f64.format.order (rdOf (0 : Nat) y153 x17_3) t158 = some .gt):=by simpa using c63))
              clear c63
              by_cases c64 : x15_3 = true
              ·subst c64
               have H1 : (if x16_3 = true then (quarrylaw31_TallySteps.l1 k3 y153 x11_1 true true (wrap64 (x17_3 + 1)) t156 t157 t158 t159 t160 t161 t162) else (quarrylaw31_TallySteps.l1 k3 y153 x11_1 true (FloatKind.f64.format.order (rdOf (0 : Nat) y153 x17_3) t158 == some .eq) (wrap64 (x17_3 + 1)) t156 t157 t158 t159 t160 t161 t162)) = some r:=by rw [if_pos rfl] at H;exact H
               clear H;have H:=H1;clear H1
               by_cases c65 : x16_3 = true
               ·as_aux_lemma =>
                 subst c65
                 have H1 : (quarrylaw31_TallySteps.l1 k3 y153 x11_1 true true (wrap64 (x17_3 + 1)) t156 t157 t158 t159 t160 t161 t162) = some r:=by rw [if_pos rfl] at H;exact H
                 clear H;have H:=H1;clear H1;have H':=Aside0.mk H;clear H
                 try go_wp2
                 have n0_:=Aside0.mk (Kd.R_drew HO_7.out);have n1_:=Aside0.mk (blk_drew BK149.out);have n2_:=Aside0.mk (blk_drew BK164.out);have n3_:=Aside0.mk (blk_drew BK182.out);have n4_:=Aside0.mk (below_drew1 HB.out);clear HO_7;clear BK149;clear BK164;clear BK182;clear HB;have HO_7:=n0_;have BK149:=n1_;have BK164:=n2_;have BK182:=n3_;have HB:=n4_;clear n0_ n1_ n2_ n3_ n4_;have p184 : 0 ≤ (x17_3 : Int):=of_decide_eq_true aa_;have q184 : x17_3 < (y153.length : Int):=of_decide_eq_true aa_;obtain ⟨ad184,e184,hx184_0⟩:=Kd.at_f64 (Kd.R_reads' HO_7.out).2.2 x17_3 p184 q184;cases e184;replace p184:=eq_true p184;replace q184:=eq_true q184;have p185 : 0 ≤ (x17_3 : Int):=of_decide_eq_true aa_;have q185 : x17_3 < (y153.length : Int):=of_decide_eq_true aa_;obtain ⟨ad185,e185,hx185_0⟩:=Kd.at_f64 (Kd.R_reads' HO_7.out).2.2 x17_3 p185 q185;obtain rfl : ad184 = ad185:=(by injection e185);replace p185:=eq_true p185;replace q185:=eq_true q185;refine start_ (n:=16) (S:=fun w'=>w'.cell? ⟨gb164,0,none⟩ = some (.int .i64 t156) ∧ w'.cell? ⟨gb164,1,none⟩ = some (.float .f64 t157) ∧ w'.cell? ⟨gb164,2,none⟩ = some (.float .f64 t158) ∧ w'.cell? ⟨gb164,3,none⟩ = some (.float .f64 t159) ∧ w'.cell? ⟨gb164,4,none⟩ = some (.float .f64 t160) ∧ w'.cell? ⟨gb164,5,none⟩ = some (.float .f64 t161) ∧ w'.cell? ⟨gb164,6,none⟩ = some (.float .f64 t162) ∧ w'.cell? (ad184.add (x17_3).toNat) = some (.float .f64 (rdOf (0 : Nat) y153 x17_3)) ∧ w'.cell? (ad184.add (x17_3).toNat) = some (.float .f64 (rdOf (0 : Nat) y153 x17_3))) (ds:=[]) #[false,false,false,false,false,false,false,false,false,false,false,false,false,false,false,false] (by kernel_rfl) rfl rfl ⟨(blk_cell BK164.out 0).trans rfl,(blk_cell BK164.out 1).trans rfl,(blk_cell BK164.out 2).trans rfl,(blk_cell BK164.out 3).trans rfl,(blk_cell BK164.out 4).trans rfl,(blk_cell BK164.out 5).trans rfl,(blk_cell BK164.out 6).trans rfl,hx184_0,hx185_0⟩ (fun hHeld=>?_);refine with_tabW quarrylaw31_TallySteps.tab28 quarrylaw31_TallySteps.bits28 (fun HT_ HW_=>?_)
                 generalize wr.drew = w66 at HO_7 BK149 BK164 BK182 HB hx184_0 hx185_0 hHeld ⊢
                 refine pure_ (i:=0) (N:=some 120) (v:=?_) (a':=?_) #[true,false,false,false,false,false,false,false,false,false,false,false,false,false,false,false] rfl rfl (any_of HT_.out (by kernel_rfl)) (fun _ _ _ h=>h) (Or.inl ⟨by rfl,?_⟩) ?_ ?_;rotate_left
                 ·intro w';go_simp;with_reducible rfl
                 rotate_left
                 ·simp only [Act.put,List.setIfInBounds_toArray,List.set_cons_zero,List.set_cons_succ,i64_w,i32_w];rfl
                 refine pure_ (i:=1) (N:=some 121) (v:=?_) (a':=?_) #[true,true,false,false,false,false,false,false,false,false,false,false,false,false,false,false] rfl rfl (any_of HT_.out (by kernel_rfl)) (fun _ _ _ h=>h) (Or.inl ⟨by rfl,?_⟩) ?_ ?_;rotate_left
                 ·intro w';go_simp;with_reducible rfl
                 rotate_left
                 ·simp only [Act.put,List.setIfInBounds_toArray,List.set_cons_zero,List.set_cons_succ,i64_w,i32_w];rfl
                 refine pure_ (i:=2) (N:=some 122) (v:=?_) (a':=?_) #[true,true,true,false,false,false,false,false,false,false,false,false,false,false,false,false] rfl rfl (any_of HT_.out (by kernel_rfl)) (fun _ _ _ h=>h) (Or.inl ⟨by rfl,?_⟩) ?_ ?_;rotate_left
                 ·intro w';go_simp;with_reducible rfl
                 rotate_left
                 ·simp only [Act.put,List.setIfInBounds_toArray,List.set_cons_zero,List.set_cons_succ,i64_w,i32_w];rfl
                 refine pure_ (i:=4) (N:=some 124) (v:=?_) (a':=?_) #[true,true,true,false,true,false,false,false,false,false,false,false,false,false,false,false] rfl rfl (any_of HT_.out (by kernel_rfl)) (fun _ _ _ h=>h) (Or.inl ⟨by rfl,?_⟩) ?_ ?_;rotate_left
                 ·intro w';go_simp;with_reducible rfl
                 rotate_left
                 ·simp only [Act.put,List.setIfInBounds_toArray,List.set_cons_zero,List.set_cons_succ,i64_w,i32_w];rfl
                 refine take_ (i:=3) (N:=some 123) (v:=?_) (a':=?_) #[true,true,true,true,true,false,false,false,false,false,false,false,false,false,false,false] rfl rfl (take_ofW HT_.out HW_.out (by kernel_rfl)) (fun _ _ _ h=>h) (Or.inl ⟨by rfl,?_⟩) hHeld ?_ ?_;rotate_left
                 ·rintro w' ⟨s0,s1,s2,s3,s4,s5,s6,s7,s8⟩;go_simp;with_reducible rfl
                 rotate_left
                 ·simp only [Act.put,List.setIfInBounds_toArray,List.set_cons_zero,List.set_cons_succ,i64_w,i32_w];rfl
                 refine take_ (i:=5) (N:=some 125) (v:=?_) (a':=?_) #[true,true,true,true,true,true,false,false,false,false,false,false,false,false,false,false] rfl rfl (take_ofW HT_.out HW_.out (by kernel_rfl)) (fun _ _ _ h=>h) (Or.inl ⟨by rfl,?_⟩) hHeld ?_ ?_;rotate_left
                 ·rintro w' ⟨s0,s1,s2,s3,s4,s5,s6,s7,s8⟩;go_simp;with_reducible rfl
                 rotate_left
                 ·simp only [Act.put,List.setIfInBounds_toArray,List.set_cons_zero,List.set_cons_succ,i64_w,i32_w];rfl
                 refine pure_ (i:=6) (N:=some 126) (v:=?_) (a':=?_) #[true,true,true,true,true,true,true,false,false,false,false,false,false,false,false,false] rfl rfl (any_of HT_.out (by kernel_rfl)) (fun _ _ _ h=>h) (Or.inl ⟨by rfl,?_⟩) ?_ ?_;rotate_left
                 ·intro w';go_simp;with_reducible rfl
                 rotate_left
                 ·simp only [Act.put,List.setIfInBounds_toArray,List.set_cons_zero,List.set_cons_succ,i64_w,i32_w];rfl
                 refine pure_ (i:=7) (N:=some 127) (v:=?_) (a':=?_) #[true,true,true,true,true,true,true,true,false,false,false,false,false,false,false,false] rfl rfl (any_of HT_.out (by kernel_rfl)) (fun _ _ _ h=>h) (Or.inl ⟨by rfl,?_⟩) ?_ ?_;rotate_left
                 ·intro w';go_simp;with_reducible rfl
                 rotate_left
                 ·simp only [Act.put,List.setIfInBounds_toArray,List.set_cons_zero,List.set_cons_succ,i64_w,i32_w];rfl
                 refine pure_ (i:=8) (N:=some 128) (v:=?_) (a':=?_) #[true,true,true,true,true,true,true,true,true,false,false,false,false,false,false,false] rfl rfl (any_of HT_.out (by kernel_rfl)) (fun _ _ _ h=>h) (Or.inl ⟨by rfl,?_⟩) ?_ ?_;rotate_left
                 ·intro w';go_simp;with_reducible rfl
                 rotate_left
                 ·simp only [Act.put,List.setIfInBounds_toArray,List.set_cons_zero,List.set_cons_succ,i64_w,i32_w];rfl
                 refine pure_ (i:=9) (N:=some 129) (v:=?_) (a':=?_) #[true,true,true,true,true,true,true,true,true,true,false,false,false,false,false,false] rfl rfl (any_of HT_.out (by kernel_rfl)) (fun _ _ _ h=>h) (Or.inl ⟨by rfl,?_⟩) ?_ ?_;rotate_left
                 ·intro w';go_simp;with_reducible rfl
                 rotate_left
                 ·simp only [Act.put,List.setIfInBounds_toArray,List.set_cons_zero,List.set_cons_succ,i64_w,i32_w];rfl
                 refine pure_ (i:=10) (N:=some 130) (v:=?_) (a':=?_) #[true,true,true,true,true,true,true,true,true,true,true,false,false,false,false,false] rfl rfl (any_of HT_.out (by kernel_rfl)) (fun _ _ _ h=>h) (Or.inl ⟨by rfl,?_⟩) ?_ ?_;rotate_left
                 ·intro w';go_simp;with_reducible rfl
                 rotate_left
                 ·simp only [Act.put,List.setIfInBounds_toArray,List.set_cons_zero,List.set_cons_succ,i64_w,i32_w];rfl
                 refine pure_ (i:=12) (N:=some 132) (v:=?_) (a':=?_) #[true,true,true,true,true,true,true,true,true,true,true,false,true,false,false,false] rfl rfl (any_of HT_.out (by kernel_rfl)) (fun _ _ _ h=>h) (Or.inl ⟨by rfl,?_⟩) ?_ ?_;rotate_left
                 ·intro w';go_simp;with_reducible rfl
                 rotate_left
                 ·simp only [Act.put,List.setIfInBounds_toArray,List.set_cons_zero,List.set_cons_succ,i64_w,i32_w];rfl
                 refine take_ (i:=11) (N:=some 131) (v:=?_) (a':=?_) #[true,true,true,true,true,true,true,true,true,true,true,true,true,false,false,false] rfl rfl (take_ofW HT_.out HW_.out (by kernel_rfl)) (fun _ _ _ h=>h) (Or.inl ⟨by rfl,?_⟩) hHeld ?_ ?_;rotate_left
                 ·rintro w' ⟨s0,s1,s2,s3,s4,s5,s6,s7,s8⟩;go_simp;with_reducible rfl
                 rotate_left
                 ·simp only [Act.put,List.setIfInBounds_toArray,List.set_cons_zero,List.set_cons_succ,i64_w,i32_w];rfl
                 refine take_ (i:=13) (N:=some 133) (v:=?_) (a':=?_) #[true,true,true,true,true,true,true,true,true,true,true,true,true,true,false,false] rfl rfl (take_ofW HT_.out HW_.out (by kernel_rfl)) (fun _ _ _ h=>h) (Or.inl ⟨by rfl,?_⟩) hHeld ?_ ?_;rotate_left
                 ·rintro w' ⟨s0,s1,s2,s3,s4,s5,s6,s7,s8⟩;go_simp;with_reducible rfl
                 rotate_left
                 ·simp only [Act.put,List.setIfInBounds_toArray,List.set_cons_zero,List.set_cons_succ,i64_w,i32_w];rfl
                 refine pure_ (i:=14) (N:=some 134) (v:=?_) (a':=?_) #[true,true,true,true,true,true,true,true,true,true,true,true,true,true,true,false] rfl rfl (any_of HT_.out (by kernel_rfl)) (fun _ _ _ h=>h) (Or.inl ⟨by rfl,?_⟩) ?_ ?_;rotate_left
                 ·intro w';go_simp;with_reducible rfl
                 rotate_left
                 ·simp only [Act.put,List.setIfInBounds_toArray,List.set_cons_zero,List.set_cons_succ,i64_w,i32_w];rfl
                 refine pure_ (i:=15) (N:=some 135) (v:=?_) (a':=?_) #[true,true,true,true,true,true,true,true,true,true,true,true,true,true,true,true] rfl rfl (any_of HT_.out (by kernel_rfl)) (fun _ _ _ h=>h) (Or.inl ⟨by rfl,?_⟩) ?_ ?_;rotate_left
                 ·intro w';go_simp;with_reducible rfl
                 rotate_left
                 ·simp only [Act.put,List.setIfInBounds_toArray,List.set_cons_zero,List.set_cons_succ,i64_w,i32_w];rfl
                 refine done_ (done_of HT_.out (by kernel_rfl)) ?_
                 try go_wp2
                 have n0_:=Aside0.mk (Kd.R_drew HO_7.out);have n1_:=Aside0.mk (blk_drew BK149.out);have n2_:=Aside0.mk (blk_drew BK164.out);have n3_:=Aside0.mk (blk_drew BK182.out);have n4_:=Aside0.mk (below_drew1 HB.out);clear HO_7;clear BK149;clear BK164;clear BK182;clear HB;have HO_7:=n0_;have BK149:=n1_;have BK164:=n2_;have BK182:=n3_;have HB:=n4_;clear n0_ n1_ n2_ n3_ n4_;refine start_ (n:=11) (S:=fun w'=>True) (ds:=[]) #[false,false,false,false,false,false,false,false,false,false,false] (by kernel_rfl) rfl rfl trivial (fun hHeld=>?_);refine with_tabW quarrylaw31_TallySteps.tab30 quarrylaw31_TallySteps.bits30 (fun HT_ HW_=>?_)
                 generalize w66.drew = w67 at HO_7 BK149 BK164 BK182 HB hHeld ⊢
                 refine pure_ (i:=0) (N:=some 136) (v:=?_) (a':=?_) #[true,false,false,false,false,false,false,false,false,false,false] rfl rfl (any_of HT_.out (by kernel_rfl)) (fun _ _ _ h=>h) (Or.inl ⟨by rfl,?_⟩) ?_ ?_;rotate_left
                 ·intro w';go_simp;with_reducible rfl
                 rotate_left
                 ·simp only [Act.put,List.setIfInBounds_toArray,List.set_cons_zero,List.set_cons_succ,i64_w,i32_w];rfl
                 refine pure_ (i:=1) (N:=some 137) (v:=?_) (a':=?_) #[true,true,false,false,false,false,false,false,false,false,false] rfl rfl (any_of HT_.out (by kernel_rfl)) (fun _ _ _ h=>h) (Or.inl ⟨by rfl,?_⟩) ?_ ?_;rotate_left
                 ·intro w';go_simp;with_reducible rfl
                 rotate_left
                 ·simp only [Act.put,List.setIfInBounds_toArray,List.set_cons_zero,List.set_cons_succ,i64_w,i32_w];rfl
                 refine pure_ (i:=2) (N:=some 138) (v:=undef) (a':=?_) #[true,true,true,false,false,false,false,false,false,false,false] rfl rfl (any_of HT_.out (by kernel_rfl)) (fun _ _ _ h=>h) (Or.inr ⟨by rfl,rfl⟩) ?_ ?_;rotate_left
                 ·simp only [Act.put,List.setIfInBounds_toArray,List.set_cons_zero,List.set_cons_succ,i64_w,i32_w];rfl
                 refine pure_ (i:=3) (N:=some 139) (v:=undef) (a':=?_) #[true,true,true,true,false,false,false,false,false,false,false] rfl rfl (any_of HT_.out (by kernel_rfl)) (fun _ _ _ h=>h) (Or.inr ⟨by rfl,rfl⟩) ?_ ?_;rotate_left
                 ·simp only [Act.put,List.setIfInBounds_toArray,List.set_cons_zero,List.set_cons_succ,i64_w,i32_w];rfl
                 refine pure_ (i:=4) (N:=some 140) (v:=undef) (a':=?_) #[true,true,true,true,true,false,false,false,false,false,false] rfl rfl (any_of HT_.out (by kernel_rfl)) (fun _ _ _ h=>h) (Or.inr ⟨by rfl,rfl⟩) ?_ ?_;rotate_left
                 ·simp only [Act.put,List.setIfInBounds_toArray,List.set_cons_zero,List.set_cons_succ,i64_w,i32_w];rfl
                 refine pure_ (i:=5) (N:=some 141) (v:=undef) (a':=?_) #[true,true,true,true,true,true,false,false,false,false,false] rfl rfl (any_of HT_.out (by kernel_rfl)) (fun _ _ _ h=>h) (Or.inr ⟨by rfl,rfl⟩) ?_ ?_;rotate_left
                 ·simp only [Act.put,List.setIfInBounds_toArray,List.set_cons_zero,List.set_cons_succ,i64_w,i32_w];rfl
                 refine pure_ (i:=6) (N:=some 142) (v:=undef) (a':=?_) #[true,true,true,true,true,true,true,false,false,false,false] rfl rfl (any_of HT_.out (by kernel_rfl)) (fun _ _ _ h=>h) (Or.inr ⟨by rfl,rfl⟩) ?_ ?_;rotate_left
                 ·simp only [Act.put,List.setIfInBounds_toArray,List.set_cons_zero,List.set_cons_succ,i64_w,i32_w];rfl
                 refine pure_ (i:=7) (N:=some 143) (v:=undef) (a':=?_) #[true,true,true,true,true,true,true,true,false,false,false] rfl rfl (any_of HT_.out (by kernel_rfl)) (fun _ _ _ h=>h) (Or.inr ⟨by rfl,rfl⟩) ?_ ?_;rotate_left
                 ·simp only [Act.put,List.setIfInBounds_toArray,List.set_cons_zero,List.set_cons_succ,i64_w,i32_w];rfl
                 refine pure_ (i:=8) (N:=some 144) (v:=undef) (a':=?_) #[true,true,true,true,true,true,true,true,true,false,false] rfl rfl (any_of HT_.out (by kernel_rfl)) (fun _ _ _ h=>h) (Or.inr ⟨by rfl,rfl⟩) ?_ ?_;rotate_left
                 ·simp only [Act.put,List.setIfInBounds_toArray,List.set_cons_zero,List.set_cons_succ,i64_w,i32_w];rfl
                 refine pure_ (i:=9) (N:=some 145) (v:=?_) (a':=?_) #[true,true,true,true,true,true,true,true,true,true,false] rfl rfl (any_of HT_.out (by kernel_rfl)) (fun _ _ _ h=>h) (Or.inl ⟨by rfl,?_⟩) ?_ ?_;rotate_left
                 ·intro w';go_simp;with_reducible rfl
                 rotate_left
                 ·simp only [Act.put,List.setIfInBounds_toArray,List.set_cons_zero,List.set_cons_succ,i64_w,i32_w];rfl
                 refine pure_ (i:=10) (N:=some 15) (v:=?_) (a':=?_) #[true,true,true,true,true,true,true,true,true,true,true] rfl rfl (any_of HT_.out (by kernel_rfl)) (fun _ _ _ h=>h) (Or.inl ⟨by rfl,?_⟩) ?_ ?_;rotate_left
                 ·intro w';go_simp;with_reducible rfl
                 rotate_left
                 ·simp only [Act.put,List.setIfInBounds_toArray,List.set_cons_zero,List.set_cons_succ,i64_w,i32_w];rfl
                 refine done_ (done_of HT_.out (by kernel_rfl)) ?_
                 try go_wp2
                 have n0_:=Aside0.mk (Kd.R_drew HO_7.out);have n1_:=Aside0.mk (blk_drew BK149.out);have n2_:=Aside0.mk (blk_drew BK164.out);have n3_:=Aside0.mk (blk_drew BK182.out);have n4_:=Aside0.mk (below_drew1 HB.out);clear HO_7;clear BK149;clear BK164;clear BK182;clear HB;have HO_7:=n0_;have BK149:=n1_;have BK164:=n2_;have BK182:=n3_;have HB:=n4_;clear n0_ n1_ n2_ n3_ n4_;refine start_ (n:=11) (S:=fun w'=>True) (ds:=[]) #[false,false,false,false,false,false,false,false,false,false,false] (by kernel_rfl) rfl rfl trivial (fun hHeld=>?_);refine with_tabW quarrylaw31_TallySteps.tab31 quarrylaw31_TallySteps.bits31 (fun HT_ HW_=>?_)
                 generalize w67.drew = w68 at HO_7 BK149 BK164 BK182 HB hHeld ⊢
                 refine pure_ (i:=0) (N:=some 146) (v:=?_) (a':=?_) #[true,false,false,false,false,false,false,false,false,false,false] rfl rfl (any_of HT_.out (by kernel_rfl)) (fun _ _ _ h=>h) (Or.inl ⟨by rfl,?_⟩) ?_ ?_;rotate_left
                 ·intro w';go_simp;with_reducible rfl
                 rotate_left
                 ·simp only [Act.put,List.setIfInBounds_toArray,List.set_cons_zero,List.set_cons_succ,i64_w,i32_w];rfl
                 refine pure_ (i:=1) (N:=some 147) (v:=?_) (a':=?_) #[true,true,false,false,false,false,false,false,false,false,false] rfl rfl (any_of HT_.out (by kernel_rfl)) (fun _ _ _ h=>h) (Or.inl ⟨by rfl,?_⟩) ?_ ?_;rotate_left
                 ·intro w';go_simp;with_reducible rfl
                 rotate_left
                 ·simp only [Act.put,List.setIfInBounds_toArray,List.set_cons_zero,List.set_cons_succ,i64_w,i32_w];rfl
                 refine pure_ (i:=2) (N:=some 148) (v:=undef) (a':=?_) #[true,true,true,false,false,false,false,false,false,false,false] rfl rfl (any_of HT_.out (by kernel_rfl)) (fun _ _ _ h=>h) (Or.inr ⟨by rfl,rfl⟩) ?_ ?_;rotate_left
                 ·simp only [Act.put,List.setIfInBounds_toArray,List.set_cons_zero,List.set_cons_succ,i64_w,i32_w];rfl
                 refine pure_ (i:=3) (N:=some 149) (v:=undef) (a':=?_) #[true,true,true,true,false,false,false,false,false,false,false] rfl rfl (any_of HT_.out (by kernel_rfl)) (fun _ _ _ h=>h) (Or.inr ⟨by rfl,rfl⟩) ?_ ?_;rotate_left
                 ·simp only [Act.put,List.setIfInBounds_toArray,List.set_cons_zero,List.set_cons_succ,i64_w,i32_w];rfl
                 refine pure_ (i:=4) (N:=some 150) (v:=undef) (a':=?_) #[true,true,true,true,true,false,false,false,false,false,false] rfl rfl (any_of HT_.out (by kernel_rfl)) (fun _ _ _ h=>h) (Or.inr ⟨by rfl,rfl⟩) ?_ ?_;rotate_left
                 ·simp only [Act.put,List.setIfInBounds_toArray,List.set_cons_zero,List.set_cons_succ,i64_w,i32_w];rfl
                 refine pure_ (i:=5) (N:=some 151) (v:=undef) (a':=?_) #[true,true,true,true,true,true,false,false,false,false,false] rfl rfl (any_of HT_.out (by kernel_rfl)) (fun _ _ _ h=>h) (Or.inr ⟨by rfl,rfl⟩) ?_ ?_;rotate_left
                 ·simp only [Act.put,List.setIfInBounds_toArray,List.set_cons_zero,List.set_cons_succ,i64_w,i32_w];rfl
                 refine pure_ (i:=6) (N:=some 152) (v:=undef) (a':=?_) #[true,true,true,true,true,true,true,false,false,false,false] rfl rfl (any_of HT_.out (by kernel_rfl)) (fun _ _ _ h=>h) (Or.inr ⟨by rfl,rfl⟩) ?_ ?_;rotate_left
                 ·simp only [Act.put,List.setIfInBounds_toArray,List.set_cons_zero,List.set_cons_succ,i64_w,i32_w];rfl
                 refine pure_ (i:=7) (N:=some 153) (v:=undef) (a':=?_) #[true,true,true,true,true,true,true,true,false,false,false] rfl rfl (any_of HT_.out (by kernel_rfl)) (fun _ _ _ h=>h) (Or.inr ⟨by rfl,rfl⟩) ?_ ?_;rotate_left
                 ·simp only [Act.put,List.setIfInBounds_toArray,List.set_cons_zero,List.set_cons_succ,i64_w,i32_w];rfl
                 refine pure_ (i:=8) (N:=some 154) (v:=undef) (a':=?_) #[true,true,true,true,true,true,true,true,true,false,false] rfl rfl (any_of HT_.out (by kernel_rfl)) (fun _ _ _ h=>h) (Or.inr ⟨by rfl,rfl⟩) ?_ ?_;rotate_left
                 ·simp only [Act.put,List.setIfInBounds_toArray,List.set_cons_zero,List.set_cons_succ,i64_w,i32_w];rfl
                 refine pure_ (i:=9) (N:=some 155) (v:=?_) (a':=?_) #[true,true,true,true,true,true,true,true,true,true,false] rfl rfl (any_of HT_.out (by kernel_rfl)) (fun _ _ _ h=>h) (Or.inl ⟨by rfl,?_⟩) ?_ ?_;rotate_left
                 ·intro w';go_simp;with_reducible rfl
                 rotate_left
                 ·simp only [Act.put,List.setIfInBounds_toArray,List.set_cons_zero,List.set_cons_succ,i64_w,i32_w];rfl
                 refine pure_ (i:=10) (N:=some 16) (v:=?_) (a':=?_) #[true,true,true,true,true,true,true,true,true,true,true] rfl rfl (any_of HT_.out (by kernel_rfl)) (fun _ _ _ h=>h) (Or.inl ⟨by rfl,?_⟩) ?_ ?_;rotate_left
                 ·intro w';go_simp;with_reducible rfl
                 rotate_left
                 ·simp only [Act.put,List.setIfInBounds_toArray,List.set_cons_zero,List.set_cons_succ,i64_w,i32_w];rfl
                 refine done_ (done_of HT_.out (by kernel_rfl)) ?_
                 try go_wp2
                 go_roundg k3
                 case measure=>have:=HK1.out;have:=HJ48.out;have:=HK3.out;omega
                 case rel=>exact ⟨(true),(true),(wrap64 (x17_3 + 1)),rr_,rr_,rr_,(by first|exact H'|(subst_vars;exact H')),⟨by have:=HK1.out;have:=HJ48.out;have:=HK3.out;omega⟩,⟨(rk_ HO_7)⟩,⟨(bk_ BK149)⟩,⟨(bk_ BK164)⟩,⟨(bk_ BK182)⟩,⟨(hb_ HB)⟩⟩
               as_aux_lemma =>
                replace c65:=Bool.eq_false_iff.mpr c65;subst c65
                have H1 : (quarrylaw31_TallySteps.l1 k3 y153 x11_1 true (FloatKind.f64.format.order (rdOf (0 : Nat) y153 x17_3) t158 == some .eq) (wrap64 (x17_3 + 1)) t156 t157 t158 t159 t160 t161 t162) = some r:=by rw [if_neg (show ¬ (false = true) by decide)] at H;exact H
                clear H;have H:=H1;clear H1;have H':=Aside0.mk H;clear H
                try go_wp2
                have n0_:=Aside0.mk (Kd.R_drew HO_7.out);have n1_:=Aside0.mk (blk_drew BK149.out);have n2_:=Aside0.mk (blk_drew BK164.out);have n3_:=Aside0.mk (blk_drew BK182.out);have n4_:=Aside0.mk (below_drew1 HB.out);clear HO_7;clear BK149;clear BK164;clear BK182;clear HB;have HO_7:=n0_;have BK149:=n1_;have BK164:=n2_;have BK182:=n3_;have HB:=n4_;clear n0_ n1_ n2_ n3_ n4_;have p184 : 0 ≤ (x17_3 : Int):=of_decide_eq_true aa_;have q184 : x17_3 < (y153.length : Int):=of_decide_eq_true aa_;obtain ⟨ad184,e184,hx184_0⟩:=Kd.at_f64 (Kd.R_reads' HO_7.out).2.2 x17_3 p184 q184;cases e184;replace p184:=eq_true p184;replace q184:=eq_true q184;have p185 : 0 ≤ (x17_3 : Int):=of_decide_eq_true aa_;have q185 : x17_3 < (y153.length : Int):=of_decide_eq_true aa_;obtain ⟨ad185,e185,hx185_0⟩:=Kd.at_f64 (Kd.R_reads' HO_7.out).2.2 x17_3 p185 q185;obtain rfl : ad184 = ad185:=(by injection e185);replace p185:=eq_true p185;replace q185:=eq_true q185;refine start_ (n:=16) (S:=fun w'=>w'.cell? ⟨gb164,0,none⟩ = some (.int .i64 t156) ∧ w'.cell? ⟨gb164,1,none⟩ = some (.float .f64 t157) ∧ w'.cell? ⟨gb164,2,none⟩ = some (.float .f64 t158) ∧ w'.cell? ⟨gb164,3,none⟩ = some (.float .f64 t159) ∧ w'.cell? ⟨gb164,4,none⟩ = some (.float .f64 t160) ∧ w'.cell? ⟨gb164,5,none⟩ = some (.float .f64 t161) ∧ w'.cell? ⟨gb164,6,none⟩ = some (.float .f64 t162) ∧ w'.cell? (ad184.add (x17_3).toNat) = some (.float .f64 (rdOf (0 : Nat) y153 x17_3)) ∧ w'.cell? (ad184.add (x17_3).toNat) = some (.float .f64 (rdOf (0 : Nat) y153 x17_3))) (ds:=[]) #[false,false,false,false,false,false,false,false,false,false,false,false,false,false,false,false] (by kernel_rfl) rfl rfl ⟨(blk_cell BK164.out 0).trans rfl,(blk_cell BK164.out 1).trans rfl,(blk_cell BK164.out 2).trans rfl,(blk_cell BK164.out 3).trans rfl,(blk_cell BK164.out 4).trans rfl,(blk_cell BK164.out 5).trans rfl,(blk_cell BK164.out 6).trans rfl,hx184_0,hx185_0⟩ (fun hHeld=>?_);refine with_tabW quarrylaw31_TallySteps.tab28 quarrylaw31_TallySteps.bits28 (fun HT_ HW_=>?_)
                generalize wr.drew = w69 at HO_7 BK149 BK164 BK182 HB hx184_0 hx185_0 hHeld ⊢
                refine pure_ (i:=0) (N:=some 120) (v:=?_) (a':=?_) #[true,false,false,false,false,false,false,false,false,false,false,false,false,false,false,false] rfl rfl (any_of HT_.out (by kernel_rfl)) (fun _ _ _ h=>h) (Or.inl ⟨by rfl,?_⟩) ?_ ?_;rotate_left
                ·intro w';go_simp;with_reducible rfl
                rotate_left
                ·simp only [Act.put,List.setIfInBounds_toArray,List.set_cons_zero,List.set_cons_succ,i64_w,i32_w];rfl
                refine pure_ (i:=1) (N:=some 121) (v:=?_) (a':=?_) #[true,true,false,false,false,false,false,false,false,false,false,false,false,false,false,false] rfl rfl (any_of HT_.out (by kernel_rfl)) (fun _ _ _ h=>h) (Or.inl ⟨by rfl,?_⟩) ?_ ?_;rotate_left
                ·intro w';go_simp;with_reducible rfl
                rotate_left
                ·simp only [Act.put,List.setIfInBounds_toArray,List.set_cons_zero,List.set_cons_succ,i64_w,i32_w];rfl
                refine pure_ (i:=2) (N:=some 122) (v:=?_) (a':=?_) #[true,true,true,false,false,false,false,false,false,false,false,false,false,false,false,false] rfl rfl (any_of HT_.out (by kernel_rfl)) (fun _ _ _ h=>h) (Or.inl ⟨by rfl,?_⟩) ?_ ?_;rotate_left
                ·intro w';go_simp;with_reducible rfl
                rotate_left
                ·simp only [Act.put,List.setIfInBounds_toArray,List.set_cons_zero,List.set_cons_succ,i64_w,i32_w];rfl
                refine pure_ (i:=4) (N:=some 124) (v:=?_) (a':=?_) #[true,true,true,false,true,false,false,false,false,false,false,false,false,false,false,false] rfl rfl (any_of HT_.out (by kernel_rfl)) (fun _ _ _ h=>h) (Or.inl ⟨by rfl,?_⟩) ?_ ?_;rotate_left
                ·intro w';go_simp;with_reducible rfl
                rotate_left
                ·simp only [Act.put,List.setIfInBounds_toArray,List.set_cons_zero,List.set_cons_succ,i64_w,i32_w];rfl
                refine take_ (i:=3) (N:=some 123) (v:=?_) (a':=?_) #[true,true,true,true,true,false,false,false,false,false,false,false,false,false,false,false] rfl rfl (take_ofW HT_.out HW_.out (by kernel_rfl)) (fun _ _ _ h=>h) (Or.inl ⟨by rfl,?_⟩) hHeld ?_ ?_;rotate_left
                ·rintro w' ⟨s0,s1,s2,s3,s4,s5,s6,s7,s8⟩;go_simp;with_reducible rfl
                rotate_left
                ·simp only [Act.put,List.setIfInBounds_toArray,List.set_cons_zero,List.set_cons_succ,i64_w,i32_w];rfl
                refine take_ (i:=5) (N:=some 125) (v:=?_) (a':=?_) #[true,true,true,true,true,true,false,false,false,false,false,false,false,false,false,false] rfl rfl (take_ofW HT_.out HW_.out (by kernel_rfl)) (fun _ _ _ h=>h) (Or.inl ⟨by rfl,?_⟩) hHeld ?_ ?_;rotate_left
                ·rintro w' ⟨s0,s1,s2,s3,s4,s5,s6,s7,s8⟩;go_simp;with_reducible rfl
                rotate_left
                ·simp only [Act.put,List.setIfInBounds_toArray,List.set_cons_zero,List.set_cons_succ,i64_w,i32_w];rfl
                refine pure_ (i:=6) (N:=some 126) (v:=?_) (a':=?_) #[true,true,true,true,true,true,true,false,false,false,false,false,false,false,false,false] rfl rfl (any_of HT_.out (by kernel_rfl)) (fun _ _ _ h=>h) (Or.inl ⟨by rfl,?_⟩) ?_ ?_;rotate_left
                ·intro w';go_simp;with_reducible rfl
                rotate_left
                ·simp only [Act.put,List.setIfInBounds_toArray,List.set_cons_zero,List.set_cons_succ,i64_w,i32_w];rfl
                refine pure_ (i:=7) (N:=some 127) (v:=?_) (a':=?_) #[true,true,true,true,true,true,true,true,false,false,false,false,false,false,false,false] rfl rfl (any_of HT_.out (by kernel_rfl)) (fun _ _ _ h=>h) (Or.inl ⟨by rfl,?_⟩) ?_ ?_;rotate_left
                ·intro w';go_simp;with_reducible rfl
                rotate_left
                ·simp only [Act.put,List.setIfInBounds_toArray,List.set_cons_zero,List.set_cons_succ,i64_w,i32_w];rfl
                refine pure_ (i:=8) (N:=some 128) (v:=?_) (a':=?_) #[true,true,true,true,true,true,true,true,true,false,false,false,false,false,false,false] rfl rfl (any_of HT_.out (by kernel_rfl)) (fun _ _ _ h=>h) (Or.inl ⟨by rfl,?_⟩) ?_ ?_;rotate_left
                ·intro w';go_simp;with_reducible rfl
                rotate_left
                ·simp only [Act.put,List.setIfInBounds_toArray,List.set_cons_zero,List.set_cons_succ,i64_w,i32_w];rfl
                refine pure_ (i:=9) (N:=some 129) (v:=?_) (a':=?_) #[true,true,true,true,true,true,true,true,true,true,false,false,false,false,false,false] rfl rfl (any_of HT_.out (by kernel_rfl)) (fun _ _ _ h=>h) (Or.inl ⟨by rfl,?_⟩) ?_ ?_;rotate_left
                ·intro w';go_simp;with_reducible rfl
                rotate_left
                ·simp only [Act.put,List.setIfInBounds_toArray,List.set_cons_zero,List.set_cons_succ,i64_w,i32_w];rfl
                refine pure_ (i:=10) (N:=some 130) (v:=?_) (a':=?_) #[true,true,true,true,true,true,true,true,true,true,true,false,false,false,false,false] rfl rfl (any_of HT_.out (by kernel_rfl)) (fun _ _ _ h=>h) (Or.inl ⟨by rfl,?_⟩) ?_ ?_;rotate_left
                ·intro w';go_simp;with_reducible rfl
                rotate_left
                ·simp only [Act.put,List.setIfInBounds_toArray,List.set_cons_zero,List.set_cons_succ,i64_w,i32_w];rfl
                refine pure_ (i:=12) (N:=some 132) (v:=?_) (a':=?_) #[true,true,true,true,true,true,true,true,true,true,true,false,true,false,false,false] rfl rfl (any_of HT_.out (by kernel_rfl)) (fun _ _ _ h=>h) (Or.inl ⟨by rfl,?_⟩) ?_ ?_;rotate_left
                ·intro w';go_simp;with_reducible rfl
                rotate_left
                ·simp only [Act.put,List.setIfInBounds_toArray,List.set_cons_zero,List.set_cons_succ,i64_w,i32_w];rfl
                refine take_ (i:=11) (N:=some 131) (v:=?_) (a':=?_) #[true,true,true,true,true,true,true,true,true,true,true,true,true,false,false,false] rfl rfl (take_ofW HT_.out HW_.out (by kernel_rfl)) (fun _ _ _ h=>h) (Or.inl ⟨by rfl,?_⟩) hHeld ?_ ?_;rotate_left
                ·rintro w' ⟨s0,s1,s2,s3,s4,s5,s6,s7,s8⟩;go_simp;with_reducible rfl
                rotate_left
                ·simp only [Act.put,List.setIfInBounds_toArray,List.set_cons_zero,List.set_cons_succ,i64_w,i32_w];rfl
                refine take_ (i:=13) (N:=some 133) (v:=?_) (a':=?_) #[true,true,true,true,true,true,true,true,true,true,true,true,true,true,false,false] rfl rfl (take_ofW HT_.out HW_.out (by kernel_rfl)) (fun _ _ _ h=>h) (Or.inl ⟨by rfl,?_⟩) hHeld ?_ ?_;rotate_left
                ·rintro w' ⟨s0,s1,s2,s3,s4,s5,s6,s7,s8⟩;go_simp;with_reducible rfl
                rotate_left
                ·simp only [Act.put,List.setIfInBounds_toArray,List.set_cons_zero,List.set_cons_succ,i64_w,i32_w];rfl
                refine pure_ (i:=14) (N:=some 134) (v:=?_) (a':=?_) #[true,true,true,true,true,true,true,true,true,true,true,true,true,true,true,false] rfl rfl (any_of HT_.out (by kernel_rfl)) (fun _ _ _ h=>h) (Or.inl ⟨by rfl,?_⟩) ?_ ?_;rotate_left
                ·intro w';go_simp;with_reducible rfl
                rotate_left
                ·simp only [Act.put,List.setIfInBounds_toArray,List.set_cons_zero,List.set_cons_succ,i64_w,i32_w];rfl
                refine pure_ (i:=15) (N:=some 135) (v:=?_) (a':=?_) #[true,true,true,true,true,true,true,true,true,true,true,true,true,true,true,true] rfl rfl (any_of HT_.out (by kernel_rfl)) (fun _ _ _ h=>h) (Or.inl ⟨by rfl,?_⟩) ?_ ?_;rotate_left
                ·intro w';go_simp;with_reducible rfl
                rotate_left
                ·simp only [Act.put,List.setIfInBounds_toArray,List.set_cons_zero,List.set_cons_succ,i64_w,i32_w];rfl
                refine done_ (done_of HT_.out (by kernel_rfl)) ?_
                try go_wp2
                have n0_:=Aside0.mk (Kd.R_drew HO_7.out);have n1_:=Aside0.mk (blk_drew BK149.out);have n2_:=Aside0.mk (blk_drew BK164.out);have n3_:=Aside0.mk (blk_drew BK182.out);have n4_:=Aside0.mk (below_drew1 HB.out);clear HO_7;clear BK149;clear BK164;clear BK182;clear HB;have HO_7:=n0_;have BK149:=n1_;have BK164:=n2_;have BK182:=n3_;have HB:=n4_;clear n0_ n1_ n2_ n3_ n4_;refine start_ (n:=11) (S:=fun w'=>True) (ds:=[]) #[false,false,false,false,false,false,false,false,false,false,false] (by kernel_rfl) rfl rfl trivial (fun hHeld=>?_);refine with_tabW quarrylaw31_TallySteps.tab30 quarrylaw31_TallySteps.bits30 (fun HT_ HW_=>?_)
                generalize w69.drew = w70 at HO_7 BK149 BK164 BK182 HB hHeld ⊢
                refine pure_ (i:=0) (N:=some 136) (v:=?_) (a':=?_) #[true,false,false,false,false,false,false,false,false,false,false] rfl rfl (any_of HT_.out (by kernel_rfl)) (fun _ _ _ h=>h) (Or.inl ⟨by rfl,?_⟩) ?_ ?_;rotate_left
                ·intro w';go_simp;with_reducible rfl
                rotate_left
                ·simp only [Act.put,List.setIfInBounds_toArray,List.set_cons_zero,List.set_cons_succ,i64_w,i32_w];rfl
                refine pure_ (i:=1) (N:=some 137) (v:=?_) (a':=?_) #[true,true,false,false,false,false,false,false,false,false,false] rfl rfl (any_of HT_.out (by kernel_rfl)) (fun _ _ _ h=>h) (Or.inl ⟨by rfl,?_⟩) ?_ ?_;rotate_left
                ·intro w';go_simp;with_reducible rfl
                rotate_left
                ·simp only [Act.put,List.setIfInBounds_toArray,List.set_cons_zero,List.set_cons_succ,i64_w,i32_w];rfl
                refine pure_ (i:=2) (N:=some 138) (v:=undef) (a':=?_) #[true,true,true,false,false,false,false,false,false,false,false] rfl rfl (any_of HT_.out (by kernel_rfl)) (fun _ _ _ h=>h) (Or.inr ⟨by rfl,rfl⟩) ?_ ?_;rotate_left
                ·simp only [Act.put,List.setIfInBounds_toArray,List.set_cons_zero,List.set_cons_succ,i64_w,i32_w];rfl
                refine pure_ (i:=3) (N:=some 139) (v:=undef) (a':=?_) #[true,true,true,true,false,false,false,false,false,false,false] rfl rfl (any_of HT_.out (by kernel_rfl)) (fun _ _ _ h=>h) (Or.inr ⟨by rfl,rfl⟩) ?_ ?_;rotate_left
                ·simp only [Act.put,List.setIfInBounds_toArray,List.set_cons_zero,List.set_cons_succ,i64_w,i32_w];rfl
                refine pure_ (i:=4) (N:=some 140) (v:=undef) (a':=?_) #[true,true,true,true,true,false,false,false,false,false,false] rfl rfl (any_of HT_.out (by kernel_rfl)) (fun _ _ _ h=>h) (Or.inr ⟨by rfl,rfl⟩) ?_ ?_;rotate_left
                ·simp only [Act.put,List.setIfInBounds_toArray,List.set_cons_zero,List.set_cons_succ,i64_w,i32_w];rfl
                refine pure_ (i:=5) (N:=some 141) (v:=undef) (a':=?_) #[true,true,true,true,true,true,false,false,false,false,false] rfl rfl (any_of HT_.out (by kernel_rfl)) (fun _ _ _ h=>h) (Or.inr ⟨by rfl,rfl⟩) ?_ ?_;rotate_left
                ·simp only [Act.put,List.setIfInBounds_toArray,List.set_cons_zero,List.set_cons_succ,i64_w,i32_w];rfl
                refine pure_ (i:=6) (N:=some 142) (v:=undef) (a':=?_) #[true,true,true,true,true,true,true,false,false,false,false] rfl rfl (any_of HT_.out (by kernel_rfl)) (fun _ _ _ h=>h) (Or.inr ⟨by rfl,rfl⟩) ?_ ?_;rotate_left
                ·simp only [Act.put,List.setIfInBounds_toArray,List.set_cons_zero,List.set_cons_succ,i64_w,i32_w];rfl
                refine pure_ (i:=7) (N:=some 143) (v:=undef) (a':=?_) #[true,true,true,true,true,true,true,true,false,false,false] rfl rfl (any_of HT_.out (by kernel_rfl)) (fun _ _ _ h=>h) (Or.inr ⟨by rfl,rfl⟩) ?_ ?_;rotate_left
                ·simp only [Act.put,List.setIfInBounds_toArray,List.set_cons_zero,List.set_cons_succ,i64_w,i32_w];rfl
                refine pure_ (i:=8) (N:=some 144) (v:=undef) (a':=?_) #[true,true,true,true,true,true,true,true,true,false,false] rfl rfl (any_of HT_.out (by kernel_rfl)) (fun _ _ _ h=>h) (Or.inr ⟨by rfl,rfl⟩) ?_ ?_;rotate_left
                ·simp only [Act.put,List.setIfInBounds_toArray,List.set_cons_zero,List.set_cons_succ,i64_w,i32_w];rfl
                refine pure_ (i:=9) (N:=some 145) (v:=?_) (a':=?_) #[true,true,true,true,true,true,true,true,true,true,false] rfl rfl (any_of HT_.out (by kernel_rfl)) (fun _ _ _ h=>h) (Or.inl ⟨by rfl,?_⟩) ?_ ?_;rotate_left
                ·intro w';go_simp;with_reducible rfl
                rotate_left
                ·simp only [Act.put,List.setIfInBounds_toArray,List.set_cons_zero,List.set_cons_succ,i64_w,i32_w];rfl
                refine pure_ (i:=10) (N:=some 15) (v:=?_) (a':=?_) #[true,true,true,true,true,true,true,true,true,true,true] rfl rfl (any_of HT_.out (by kernel_rfl)) (fun _ _ _ h=>h) (Or.inl ⟨by rfl,?_⟩) ?_ ?_;rotate_left
                ·intro w';go_simp;with_reducible rfl
                rotate_left
                ·simp only [Act.put,List.setIfInBounds_toArray,List.set_cons_zero,List.set_cons_succ,i64_w,i32_w];rfl
                refine done_ (done_of HT_.out (by kernel_rfl)) ?_
                try go_wp2
                have n0_:=Aside0.mk (Kd.R_drew HO_7.out);have n1_:=Aside0.mk (blk_drew BK149.out);have n2_:=Aside0.mk (blk_drew BK164.out);have n3_:=Aside0.mk (blk_drew BK182.out);have n4_:=Aside0.mk (below_drew1 HB.out);clear HO_7;clear BK149;clear BK164;clear BK182;clear HB;have HO_7:=n0_;have BK149:=n1_;have BK164:=n2_;have BK182:=n3_;have HB:=n4_;clear n0_ n1_ n2_ n3_ n4_;have p186 : 0 ≤ (x17_3 : Int):=of_decide_eq_true aa_;have q186 : x17_3 < (y153.length : Int):=of_decide_eq_true aa_;obtain ⟨ad186,e186,hx186_0⟩:=Kd.at_f64 (Kd.R_reads' HO_7.out).2.2 x17_3 p186 q186;obtain rfl : ad184 = ad186:=(by injection e186);replace p186:=eq_true p186;replace q186:=eq_true q186;refine start_ (n:=11) (S:=fun w'=>w'.cell? ⟨gb164,0,none⟩ = some (.int .i64 t156) ∧ w'.cell? ⟨gb164,1,none⟩ = some (.float .f64 t157) ∧ w'.cell? ⟨gb164,2,none⟩ = some (.float .f64 t158) ∧ w'.cell? ⟨gb164,3,none⟩ = some (.float .f64 t159) ∧ w'.cell? ⟨gb164,4,none⟩ = some (.float .f64 t160) ∧ w'.cell? ⟨gb164,5,none⟩ = some (.float .f64 t161) ∧ w'.cell? ⟨gb164,6,none⟩ = some (.float .f64 t162) ∧ w'.cell? (ad184.add (x17_3).toNat) = some (.float .f64 (rdOf (0 : Nat) y153 x17_3))) (ds:=[]) #[false,false,false,false,false,false,false,false,false,false,false] (by kernel_rfl) rfl rfl ⟨(blk_cell BK164.out 0).trans rfl,(blk_cell BK164.out 1).trans rfl,(blk_cell BK164.out 2).trans rfl,(blk_cell BK164.out 3).trans rfl,(blk_cell BK164.out 4).trans rfl,(blk_cell BK164.out 5).trans rfl,(blk_cell BK164.out 6).trans rfl,hx186_0⟩ (fun hHeld=>?_);refine with_tabW quarrylaw31_TallySteps.tab31 quarrylaw31_TallySteps.bits31 (fun HT_ HW_=>?_)
                generalize w70.drew = w71 at HO_7 BK149 BK164 BK182 HB hx186_0 hHeld ⊢
                refine pure_ (i:=0) (N:=some 146) (v:=?_) (a':=?_) #[true,false,false,false,false,false,false,false,false,false,false] rfl rfl (any_of HT_.out (by kernel_rfl)) (fun _ _ _ h=>h) (Or.inl ⟨by rfl,?_⟩) ?_ ?_;rotate_left
                ·intro w';go_simp;with_reducible rfl
                rotate_left
                ·simp only [Act.put,List.setIfInBounds_toArray,List.set_cons_zero,List.set_cons_succ,i64_w,i32_w];rfl
                refine pure_ (i:=1) (N:=some 147) (v:=?_) (a':=?_) #[true,true,false,false,false,false,false,false,false,false,false] rfl rfl (any_of HT_.out (by kernel_rfl)) (fun _ _ _ h=>h) (Or.inl ⟨by rfl,?_⟩) ?_ ?_;rotate_left
                ·intro w';go_simp;with_reducible rfl
                rotate_left
                ·simp only [Act.put,List.setIfInBounds_toArray,List.set_cons_zero,List.set_cons_succ,i64_w,i32_w];rfl
                refine pure_ (i:=2) (N:=some 148) (v:=?_) (a':=?_) #[true,true,true,false,false,false,false,false,false,false,false] rfl rfl (any_of HT_.out (by kernel_rfl)) (fun _ _ _ h=>h) (Or.inl ⟨by rfl,?_⟩) ?_ ?_;rotate_left
                ·intro w';go_simp;with_reducible rfl
                rotate_left
                ·simp only [Act.put,List.setIfInBounds_toArray,List.set_cons_zero,List.set_cons_succ,i64_w,i32_w];rfl
                refine pure_ (i:=3) (N:=some 149) (v:=?_) (a':=?_) #[true,true,true,true,false,false,false,false,false,false,false] rfl rfl (any_of HT_.out (by kernel_rfl)) (fun _ _ _ h=>h) (Or.inl ⟨by rfl,?_⟩) ?_ ?_;rotate_left
                ·intro w';go_simp;with_reducible rfl
                rotate_left
                ·simp only [Act.put,List.setIfInBounds_toArray,List.set_cons_zero,List.set_cons_succ,i64_w,i32_w];rfl
                refine pure_ (i:=4) (N:=some 150) (v:=?_) (a':=?_) #[true,true,true,true,true,false,false,false,false,false,false] rfl rfl (any_of HT_.out (by kernel_rfl)) (fun _ _ _ h=>h) (Or.inl ⟨by rfl,?_⟩) ?_ ?_;rotate_left
                ·intro w';go_simp;with_reducible rfl
                rotate_left
                ·simp only [Act.put,List.setIfInBounds_toArray,List.set_cons_zero,List.set_cons_succ,i64_w,i32_w];rfl
                refine pure_ (i:=6) (N:=some 152) (v:=?_) (a':=?_) #[true,true,true,true,true,false,true,false,false,false,false] rfl rfl (any_of HT_.out (by kernel_rfl)) (fun _ _ _ h=>h) (Or.inl ⟨by rfl,?_⟩) ?_ ?_;rotate_left
                ·intro w';go_simp;with_reducible rfl
                rotate_left
                ·simp only [Act.put,List.setIfInBounds_toArray,List.set_cons_zero,List.set_cons_succ,i64_w,i32_w];rfl
                refine take_ (i:=5) (N:=some 151) (v:=?_) (a':=?_) #[true,true,true,true,true,true,true,false,false,false,false] rfl rfl (take_ofW HT_.out HW_.out (by kernel_rfl)) (fun _ _ _ h=>h) (Or.inl ⟨by rfl,?_⟩) hHeld ?_ ?_;rotate_left
                ·rintro w' ⟨s0,s1,s2,s3,s4,s5,s6,s7⟩;go_simp;with_reducible rfl
                rotate_left
                ·simp only [Act.put,List.setIfInBounds_toArray,List.set_cons_zero,List.set_cons_succ,i64_w,i32_w];rfl
                refine take_ (i:=7) (N:=some 153) (v:=?_) (a':=?_) #[true,true,true,true,true,true,true,true,false,false,false] rfl rfl (take_ofW HT_.out HW_.out (by kernel_rfl)) (fun _ _ _ h=>h) (Or.inl ⟨by rfl,?_⟩) hHeld ?_ ?_;rotate_left
                ·rintro w' ⟨s0,s1,s2,s3,s4,s5,s6,s7⟩;go_simp;with_reducible rfl
                rotate_left
                ·simp only [Act.put,List.setIfInBounds_toArray,List.set_cons_zero,List.set_cons_succ,i64_w,i32_w];rfl
                refine pure_ (i:=8) (N:=some 154) (v:=?_) (a':=?_) #[true,true,true,true,true,true,true,true,true,false,false] rfl rfl (any_of HT_.out (by kernel_rfl)) (fun _ _ _ h=>h) (Or.inl ⟨by rfl,?_⟩) ?_ ?_;rotate_left
                ·intro w';go_simp;with_reducible rfl
                rotate_left
                ·simp only [Act.put,List.setIfInBounds_toArray,List.set_cons_zero,List.set_cons_succ,i64_w,i32_w];rfl
                refine pure_ (i:=9) (N:=some 155) (v:=?_) (a':=?_) #[true,true,true,true,true,true,true,true,true,true,false] rfl rfl (any_of HT_.out (by kernel_rfl)) (fun _ _ _ h=>h) (Or.inl ⟨by rfl,?_⟩) ?_ ?_;rotate_left
                ·intro w';go_simp;with_reducible rfl
                rotate_left
                ·simp only [Act.put,List.setIfInBounds_toArray,List.set_cons_zero,List.set_cons_succ,i64_w,i32_w];rfl
                refine pure_ (i:=10) (N:=some 16) (v:=?_) (a':=?_) #[true,true,true,true,true,true,true,true,true,true,true] rfl rfl (any_of HT_.out (by kernel_rfl)) (fun _ _ _ h=>h) (Or.inl ⟨by rfl,?_⟩) ?_ ?_;rotate_left
                ·intro w';go_simp;with_reducible rfl
                rotate_left
                ·simp only [Act.put,List.setIfInBounds_toArray,List.set_cons_zero,List.set_cons_succ,i64_w,i32_w];rfl
                refine done_ (done_of HT_.out (by kernel_rfl)) ?_
                try go_wp2
                go_roundg k3
                case measure=>have:=HK1.out;have:=HJ48.out;have:=HK3.out;omega
                case rel=>exact ⟨(true),((FloatKind.f64.format.order (rdOf (0 : Nat) y153 x17_3) t158 == some .eq)),(wrap64 (x17_3 + 1)),rr_,rr_,rr_,(by first|exact H'|(subst_vars;exact H')),⟨by have:=HK1.out;have:=HJ48.out;have:=HK3.out;omega⟩,⟨(rk_ HO_7)⟩,⟨(bk_ BK149)⟩,⟨(bk_ BK164)⟩,⟨(bk_ BK182)⟩,⟨(hb_ HB)⟩⟩
              replace c64:=Bool.eq_false_iff.mpr c64;subst c64
              have H1 : (if x16_3 = true then (quarrylaw31_TallySteps.l1 k3 y153 x11_1 (FloatKind.f64.format.order (rdOf (0 : Nat) y153 x17_3) t157 == some .eq) true (wrap64 (x17_3 + 1)) t156 t157 t158 t159 t160 t161 t162) else (quarrylaw31_TallySteps.l1 k3 y153 x11_1 (FloatKind.f64.format.order (rdOf (0 : Nat) y153 x17_3) t157 == some .eq) (FloatKind.f64.format.order (rdOf (0 : Nat) y153 x17_3) t158 == some .eq) (wrap64 (x17_3 + 1)) t156 t157 t158 t159 t160 t161 t162)) = some r:=by rw [if_neg (show ¬ (false = true) by decide)] at H;exact H
              clear H;have H:=H1;clear H1
              by_cases c72 : x16_3 = true
              ·as_aux_lemma =>
                subst c72
                have H1 : (quarrylaw31_TallySteps.l1 k3 y153 x11_1 (FloatKind.f64.format.order (rdOf (0 : Nat) y153 x17_3) t157 == some .eq) true (wrap64 (x17_3 + 1)) t156 t157 t158 t159 t160 t161 t162) = some r:=by rw [if_pos rfl] at H;exact H
                clear H;have H:=H1;clear H1;have H':=Aside0.mk H;clear H
                try go_wp2
                have n0_:=Aside0.mk (Kd.R_drew HO_7.out);have n1_:=Aside0.mk (blk_drew BK149.out);have n2_:=Aside0.mk (blk_drew BK164.out);have n3_:=Aside0.mk (blk_drew BK182.out);have n4_:=Aside0.mk (below_drew1 HB.out);clear HO_7;clear BK149;clear BK164;clear BK182;clear HB;have HO_7:=n0_;have BK149:=n1_;have BK164:=n2_;have BK182:=n3_;have HB:=n4_;clear n0_ n1_ n2_ n3_ n4_;have p184 : 0 ≤ (x17_3 : Int):=of_decide_eq_true aa_;have q184 : x17_3 < (y153.length : Int):=of_decide_eq_true aa_;obtain ⟨ad184,e184,hx184_0⟩:=Kd.at_f64 (Kd.R_reads' HO_7.out).2.2 x17_3 p184 q184;cases e184;replace p184:=eq_true p184;replace q184:=eq_true q184;have p185 : 0 ≤ (x17_3 : Int):=of_decide_eq_true aa_;have q185 : x17_3 < (y153.length : Int):=of_decide_eq_true aa_;obtain ⟨ad185,e185,hx185_0⟩:=Kd.at_f64 (Kd.R_reads' HO_7.out).2.2 x17_3 p185 q185;obtain rfl : ad184 = ad185:=(by injection e185);replace p185:=eq_true p185;replace q185:=eq_true q185;refine start_ (n:=16) (S:=fun w'=>w'.cell? ⟨gb164,0,none⟩ = some (.int .i64 t156) ∧ w'.cell? ⟨gb164,1,none⟩ = some (.float .f64 t157) ∧ w'.cell? ⟨gb164,2,none⟩ = some (.float .f64 t158) ∧ w'.cell? ⟨gb164,3,none⟩ = some (.float .f64 t159) ∧ w'.cell? ⟨gb164,4,none⟩ = some (.float .f64 t160) ∧ w'.cell? ⟨gb164,5,none⟩ = some (.float .f64 t161) ∧ w'.cell? ⟨gb164,6,none⟩ = some (.float .f64 t162) ∧ w'.cell? (ad184.add (x17_3).toNat) = some (.float .f64 (rdOf (0 : Nat) y153 x17_3)) ∧ w'.cell? (ad184.add (x17_3).toNat) = some (.float .f64 (rdOf (0 : Nat) y153 x17_3))) (ds:=[]) #[false,false,false,false,false,false,false,false,false,false,false,false,false,false,false,false] (by kernel_rfl) rfl rfl ⟨(blk_cell BK164.out 0).trans rfl,(blk_cell BK164.out 1).trans rfl,(blk_cell BK164.out 2).trans rfl,(blk_cell BK164.out 3).trans rfl,(blk_cell BK164.out 4).trans rfl,(blk_cell BK164.out 5).trans rfl,(blk_cell BK164.out 6).trans rfl,hx184_0,hx185_0⟩ (fun hHeld=>?_);refine with_tabW quarrylaw31_TallySteps.tab28 quarrylaw31_TallySteps.bits28 (fun HT_ HW_=>?_)
                generalize wr.drew = w73 at HO_7 BK149 BK164 BK182 HB hx184_0 hx185_0 hHeld ⊢
                refine pure_ (i:=0) (N:=some 120) (v:=?_) (a':=?_) #[true,false,false,false,false,false,false,false,false,false,false,false,false,false,false,false] rfl rfl (any_of HT_.out (by kernel_rfl)) (fun _ _ _ h=>h) (Or.inl ⟨by rfl,?_⟩) ?_ ?_;rotate_left
                ·intro w';go_simp;with_reducible rfl
                rotate_left
                ·simp only [Act.put,List.setIfInBounds_toArray,List.set_cons_zero,List.set_cons_succ,i64_w,i32_w];rfl
                refine pure_ (i:=1) (N:=some 121) (v:=?_) (a':=?_) #[true,true,false,false,false,false,false,false,false,false,false,false,false,false,false,false] rfl rfl (any_of HT_.out (by kernel_rfl)) (fun _ _ _ h=>h) (Or.inl ⟨by rfl,?_⟩) ?_ ?_;rotate_left
                ·intro w';go_simp;with_reducible rfl
                rotate_left
                ·simp only [Act.put,List.setIfInBounds_toArray,List.set_cons_zero,List.set_cons_succ,i64_w,i32_w];rfl
                refine pure_ (i:=2) (N:=some 122) (v:=?_) (a':=?_) #[true,true,true,false,false,false,false,false,false,false,false,false,false,false,false,false] rfl rfl (any_of HT_.out (by kernel_rfl)) (fun _ _ _ h=>h) (Or.inl ⟨by rfl,?_⟩) ?_ ?_;rotate_left
                ·intro w';go_simp;with_reducible rfl
                rotate_left
                ·simp only [Act.put,List.setIfInBounds_toArray,List.set_cons_zero,List.set_cons_succ,i64_w,i32_w];rfl
                refine pure_ (i:=4) (N:=some 124) (v:=?_) (a':=?_) #[true,true,true,false,true,false,false,false,false,false,false,false,false,false,false,false] rfl rfl (any_of HT_.out (by kernel_rfl)) (fun _ _ _ h=>h) (Or.inl ⟨by rfl,?_⟩) ?_ ?_;rotate_left
                ·intro w';go_simp;with_reducible rfl
                rotate_left
                ·simp only [Act.put,List.setIfInBounds_toArray,List.set_cons_zero,List.set_cons_succ,i64_w,i32_w];rfl
                refine take_ (i:=3) (N:=some 123) (v:=?_) (a':=?_) #[true,true,true,true,true,false,false,false,false,false,false,false,false,false,false,false] rfl rfl (take_ofW HT_.out HW_.out (by kernel_rfl)) (fun _ _ _ h=>h) (Or.inl ⟨by rfl,?_⟩) hHeld ?_ ?_;rotate_left
                ·rintro w' ⟨s0,s1,s2,s3,s4,s5,s6,s7,s8⟩;go_simp;with_reducible rfl
                rotate_left
                ·simp only [Act.put,List.setIfInBounds_toArray,List.set_cons_zero,List.set_cons_succ,i64_w,i32_w];rfl
                refine take_ (i:=5) (N:=some 125) (v:=?_) (a':=?_) #[true,true,true,true,true,true,false,false,false,false,false,false,false,false,false,false] rfl rfl (take_ofW HT_.out HW_.out (by kernel_rfl)) (fun _ _ _ h=>h) (Or.inl ⟨by rfl,?_⟩) hHeld ?_ ?_;rotate_left
                ·rintro w' ⟨s0,s1,s2,s3,s4,s5,s6,s7,s8⟩;go_simp;with_reducible rfl
                rotate_left
                ·simp only [Act.put,List.setIfInBounds_toArray,List.set_cons_zero,List.set_cons_succ,i64_w,i32_w];rfl
                refine pure_ (i:=6) (N:=some 126) (v:=?_) (a':=?_) #[true,true,true,true,true,true,true,false,false,false,false,false,false,false,false,false] rfl rfl (any_of HT_.out (by kernel_rfl)) (fun _ _ _ h=>h) (Or.inl ⟨by rfl,?_⟩) ?_ ?_;rotate_left
                ·intro w';go_simp;with_reducible rfl
                rotate_left
                ·simp only [Act.put,List.setIfInBounds_toArray,List.set_cons_zero,List.set_cons_succ,i64_w,i32_w];rfl
                refine pure_ (i:=7) (N:=some 127) (v:=?_) (a':=?_) #[true,true,true,true,true,true,true,true,false,false,false,false,false,false,false,false] rfl rfl (any_of HT_.out (by kernel_rfl)) (fun _ _ _ h=>h) (Or.inl ⟨by rfl,?_⟩) ?_ ?_;rotate_left
                ·intro w';go_simp;with_reducible rfl
                rotate_left
                ·simp only [Act.put,List.setIfInBounds_toArray,List.set_cons_zero,List.set_cons_succ,i64_w,i32_w];rfl
                refine pure_ (i:=8) (N:=some 128) (v:=?_) (a':=?_) #[true,true,true,true,true,true,true,true,true,false,false,false,false,false,false,false] rfl rfl (any_of HT_.out (by kernel_rfl)) (fun _ _ _ h=>h) (Or.inl ⟨by rfl,?_⟩) ?_ ?_;rotate_left
                ·intro w';go_simp;with_reducible rfl
                rotate_left
                ·simp only [Act.put,List.setIfInBounds_toArray,List.set_cons_zero,List.set_cons_succ,i64_w,i32_w];rfl
                refine pure_ (i:=9) (N:=some 129) (v:=?_) (a':=?_) #[true,true,true,true,true,true,true,true,true,true,false,false,false,false,false,false] rfl rfl (any_of HT_.out (by kernel_rfl)) (fun _ _ _ h=>h) (Or.inl ⟨by rfl,?_⟩) ?_ ?_;rotate_left
                ·intro w';go_simp;with_reducible rfl
                rotate_left
                ·simp only [Act.put,List.setIfInBounds_toArray,List.set_cons_zero,List.set_cons_succ,i64_w,i32_w];rfl
                refine pure_ (i:=10) (N:=some 130) (v:=?_) (a':=?_) #[true,true,true,true,true,true,true,true,true,true,true,false,false,false,false,false] rfl rfl (any_of HT_.out (by kernel_rfl)) (fun _ _ _ h=>h) (Or.inl ⟨by rfl,?_⟩) ?_ ?_;rotate_left
                ·intro w';go_simp;with_reducible rfl
                rotate_left
                ·simp only [Act.put,List.setIfInBounds_toArray,List.set_cons_zero,List.set_cons_succ,i64_w,i32_w];rfl
                refine pure_ (i:=12) (N:=some 132) (v:=?_) (a':=?_) #[true,true,true,true,true,true,true,true,true,true,true,false,true,false,false,false] rfl rfl (any_of HT_.out (by kernel_rfl)) (fun _ _ _ h=>h) (Or.inl ⟨by rfl,?_⟩) ?_ ?_;rotate_left
                ·intro w';go_simp;with_reducible rfl
                rotate_left
                ·simp only [Act.put,List.setIfInBounds_toArray,List.set_cons_zero,List.set_cons_succ,i64_w,i32_w];rfl
                refine take_ (i:=11) (N:=some 131) (v:=?_) (a':=?_) #[true,true,true,true,true,true,true,true,true,true,true,true,true,false,false,false] rfl rfl (take_ofW HT_.out HW_.out (by kernel_rfl)) (fun _ _ _ h=>h) (Or.inl ⟨by rfl,?_⟩) hHeld ?_ ?_;rotate_left
                ·rintro w' ⟨s0,s1,s2,s3,s4,s5,s6,s7,s8⟩;go_simp;with_reducible rfl
                rotate_left
                ·simp only [Act.put,List.setIfInBounds_toArray,List.set_cons_zero,List.set_cons_succ,i64_w,i32_w];rfl
                refine take_ (i:=13) (N:=some 133) (v:=?_) (a':=?_) #[true,true,true,true,true,true,true,true,true,true,true,true,true,true,false,false] rfl rfl (take_ofW HT_.out HW_.out (by kernel_rfl)) (fun _ _ _ h=>h) (Or.inl ⟨by rfl,?_⟩) hHeld ?_ ?_;rotate_left
                ·rintro w' ⟨s0,s1,s2,s3,s4,s5,s6,s7,s8⟩;go_simp;with_reducible rfl
                rotate_left
                ·simp only [Act.put,List.setIfInBounds_toArray,List.set_cons_zero,List.set_cons_succ,i64_w,i32_w];rfl
                refine pure_ (i:=14) (N:=some 134) (v:=?_) (a':=?_) #[true,true,true,true,true,true,true,true,true,true,true,true,true,true,true,false] rfl rfl (any_of HT_.out (by kernel_rfl)) (fun _ _ _ h=>h) (Or.inl ⟨by rfl,?_⟩) ?_ ?_;rotate_left
                ·intro w';go_simp;with_reducible rfl
                rotate_left
                ·simp only [Act.put,List.setIfInBounds_toArray,List.set_cons_zero,List.set_cons_succ,i64_w,i32_w];rfl
                refine pure_ (i:=15) (N:=some 135) (v:=?_) (a':=?_) #[true,true,true,true,true,true,true,true,true,true,true,true,true,true,true,true] rfl rfl (any_of HT_.out (by kernel_rfl)) (fun _ _ _ h=>h) (Or.inl ⟨by rfl,?_⟩) ?_ ?_;rotate_left
                ·intro w';go_simp;with_reducible rfl
                rotate_left
                ·simp only [Act.put,List.setIfInBounds_toArray,List.set_cons_zero,List.set_cons_succ,i64_w,i32_w];rfl
                refine done_ (done_of HT_.out (by kernel_rfl)) ?_
                try go_wp2
                have n0_:=Aside0.mk (Kd.R_drew HO_7.out);have n1_:=Aside0.mk (blk_drew BK149.out);have n2_:=Aside0.mk (blk_drew BK164.out);have n3_:=Aside0.mk (blk_drew BK182.out);have n4_:=Aside0.mk (below_drew1 HB.out);clear HO_7;clear BK149;clear BK164;clear BK182;clear HB;have HO_7:=n0_;have BK149:=n1_;have BK164:=n2_;have BK182:=n3_;have HB:=n4_;clear n0_ n1_ n2_ n3_ n4_;have p187 : 0 ≤ (x17_3 : Int):=of_decide_eq_true aa_;have q187 : x17_3 < (y153.length : Int):=of_decide_eq_true aa_;obtain ⟨ad187,e187,hx187_0⟩:=Kd.at_f64 (Kd.R_reads' HO_7.out).2.2 x17_3 p187 q187;obtain rfl : ad184 = ad187:=(by injection e187);replace p187:=eq_true p187;replace q187:=eq_true q187;refine start_ (n:=11) (S:=fun w'=>w'.cell? ⟨gb164,0,none⟩ = some (.int .i64 t156) ∧ w'.cell? ⟨gb164,1,none⟩ = some (.float .f64 t157) ∧ w'.cell? ⟨gb164,2,none⟩ = some (.float .f64 t158) ∧ w'.cell? ⟨gb164,3,none⟩ = some (.float .f64 t159) ∧ w'.cell? ⟨gb164,4,none⟩ = some (.float .f64 t160) ∧ w'.cell? ⟨gb164,5,none⟩ = some (.float .f64 t161) ∧ w'.cell? ⟨gb164,6,none⟩ = some (.float .f64 t162) ∧ w'.cell? (ad184.add (x17_3).toNat) = some (.float .f64 (rdOf (0 : Nat) y153 x17_3))) (ds:=[]) #[false,false,false,false,false,false,false,false,false,false,false] (by kernel_rfl) rfl rfl ⟨(blk_cell BK164.out 0).trans rfl,(blk_cell BK164.out 1).trans rfl,(blk_cell BK164.out 2).trans rfl,(blk_cell BK164.out 3).trans rfl,(blk_cell BK164.out 4).trans rfl,(blk_cell BK164.out 5).trans rfl,(blk_cell BK164.out 6).trans rfl,hx187_0⟩ (fun hHeld=>?_);refine with_tabW quarrylaw31_TallySteps.tab30 quarrylaw31_TallySteps.bits30 (fun HT_ HW_=>?_)
                generalize w73.drew = w74 at HO_7 BK149 BK164 BK182 HB hx187_0 hHeld ⊢
                refine pure_ (i:=0) (N:=some 136) (v:=?_) (a':=?_) #[true,false,false,false,false,false,false,false,false,false,false] rfl rfl (any_of HT_.out (by kernel_rfl)) (fun _ _ _ h=>h) (Or.inl ⟨by rfl,?_⟩) ?_ ?_;rotate_left
                ·intro w';go_simp;with_reducible rfl
                rotate_left
                ·simp only [Act.put,List.setIfInBounds_toArray,List.set_cons_zero,List.set_cons_succ,i64_w,i32_w];rfl
                refine pure_ (i:=1) (N:=some 137) (v:=?_) (a':=?_) #[true,true,false,false,false,false,false,false,false,false,false] rfl rfl (any_of HT_.out (by kernel_rfl)) (fun _ _ _ h=>h) (Or.inl ⟨by rfl,?_⟩) ?_ ?_;rotate_left
                ·intro w';go_simp;with_reducible rfl
                rotate_left
                ·simp only [Act.put,List.setIfInBounds_toArray,List.set_cons_zero,List.set_cons_succ,i64_w,i32_w];rfl
                refine pure_ (i:=2) (N:=some 138) (v:=?_) (a':=?_) #[true,true,true,false,false,false,false,false,false,false,false] rfl rfl (any_of HT_.out (by kernel_rfl)) (fun _ _ _ h=>h) (Or.inl ⟨by rfl,?_⟩) ?_ ?_;rotate_left
                ·intro w';go_simp;with_reducible rfl
                rotate_left
                ·simp only [Act.put,List.setIfInBounds_toArray,List.set_cons_zero,List.set_cons_succ,i64_w,i32_w];rfl
                refine pure_ (i:=3) (N:=some 139) (v:=?_) (a':=?_) #[true,true,true,true,false,false,false,false,false,false,false] rfl rfl (any_of HT_.out (by kernel_rfl)) (fun _ _ _ h=>h) (Or.inl ⟨by rfl,?_⟩) ?_ ?_;rotate_left
                ·intro w';go_simp;with_reducible rfl
                rotate_left
                ·simp only [Act.put,List.setIfInBounds_toArray,List.set_cons_zero,List.set_cons_succ,i64_w,i32_w];rfl
                refine pure_ (i:=4) (N:=some 140) (v:=?_) (a':=?_) #[true,true,true,true,true,false,false,false,false,false,false] rfl rfl (any_of HT_.out (by kernel_rfl)) (fun _ _ _ h=>h) (Or.inl ⟨by rfl,?_⟩) ?_ ?_;rotate_left
                ·intro w';go_simp;with_reducible rfl
                rotate_left
                ·simp only [Act.put,List.setIfInBounds_toArray,List.set_cons_zero,List.set_cons_succ,i64_w,i32_w];rfl
                refine pure_ (i:=6) (N:=some 142) (v:=?_) (a':=?_) #[true,true,true,true,true,false,true,false,false,false,false] rfl rfl (any_of HT_.out (by kernel_rfl)) (fun _ _ _ h=>h) (Or.inl ⟨by rfl,?_⟩) ?_ ?_;rotate_left
                ·intro w';go_simp;with_reducible rfl
                rotate_left
                ·simp only [Act.put,List.setIfInBounds_toArray,List.set_cons_zero,List.set_cons_succ,i64_w,i32_w];rfl
                refine take_ (i:=5) (N:=some 141) (v:=?_) (a':=?_) #[true,true,true,true,true,true,true,false,false,false,false] rfl rfl (take_ofW HT_.out HW_.out (by kernel_rfl)) (fun _ _ _ h=>h) (Or.inl ⟨by rfl,?_⟩) hHeld ?_ ?_;rotate_left
                ·rintro w' ⟨s0,s1,s2,s3,s4,s5,s6,s7⟩;go_simp;with_reducible rfl
                rotate_left
                ·simp only [Act.put,List.setIfInBounds_toArray,List.set_cons_zero,List.set_cons_succ,i64_w,i32_w];rfl
                refine take_ (i:=7) (N:=some 143) (v:=?_) (a':=?_) #[true,true,true,true,true,true,true,true,false,false,false] rfl rfl (take_ofW HT_.out HW_.out (by kernel_rfl)) (fun _ _ _ h=>h) (Or.inl ⟨by rfl,?_⟩) hHeld ?_ ?_;rotate_left
                ·rintro w' ⟨s0,s1,s2,s3,s4,s5,s6,s7⟩;go_simp;with_reducible rfl
                rotate_left
                ·simp only [Act.put,List.setIfInBounds_toArray,List.set_cons_zero,List.set_cons_succ,i64_w,i32_w];rfl
                refine pure_ (i:=8) (N:=some 144) (v:=?_) (a':=?_) #[true,true,true,true,true,true,true,true,true,false,false] rfl rfl (any_of HT_.out (by kernel_rfl)) (fun _ _ _ h=>h) (Or.inl ⟨by rfl,?_⟩) ?_ ?_;rotate_left
                ·intro w';go_simp;with_reducible rfl
                rotate_left
                ·simp only [Act.put,List.setIfInBounds_toArray,List.set_cons_zero,List.set_cons_succ,i64_w,i32_w];rfl
                refine pure_ (i:=9) (N:=some 145) (v:=?_) (a':=?_) #[true,true,true,true,true,true,true,true,true,true,false] rfl rfl (any_of HT_.out (by kernel_rfl)) (fun _ _ _ h=>h) (Or.inl ⟨by rfl,?_⟩) ?_ ?_;rotate_left
                ·intro w';go_simp;with_reducible rfl
                rotate_left
                ·simp only [Act.put,List.setIfInBounds_toArray,List.set_cons_zero,List.set_cons_succ,i64_w,i32_w];rfl
                refine pure_ (i:=10) (N:=some 15) (v:=?_) (a':=?_) #[true,true,true,true,true,true,true,true,true,true,true] rfl rfl (any_of HT_.out (by kernel_rfl)) (fun _ _ _ h=>h) (Or.inl ⟨by rfl,?_⟩) ?_ ?_;rotate_left
                ·intro w';go_simp;with_reducible rfl
                rotate_left
                ·simp only [Act.put,List.setIfInBounds_toArray,List.set_cons_zero,List.set_cons_succ,i64_w,i32_w];rfl
                refine done_ (done_of HT_.out (by kernel_rfl)) ?_
                try go_wp2
                have n0_:=Aside0.mk (Kd.R_drew HO_7.out);have n1_:=Aside0.mk (blk_drew BK149.out);have n2_:=Aside0.mk (blk_drew BK164.out);have n3_:=Aside0.mk (blk_drew BK182.out);have n4_:=Aside0.mk (below_drew1 HB.out);clear HO_7;clear BK149;clear BK164;clear BK182;clear HB;have HO_7:=n0_;have BK149:=n1_;have BK164:=n2_;have BK182:=n3_;have HB:=n4_;clear n0_ n1_ n2_ n3_ n4_;refine start_ (n:=11) (S:=fun w'=>True) (ds:=[]) #[false,false,false,false,false,false,false,false,false,false,false] (by kernel_rfl) rfl rfl trivial (fun hHeld=>?_);refine with_tabW quarrylaw31_TallySteps.tab31 quarrylaw31_TallySteps.bits31 (fun HT_ HW_=>?_)
                generalize w74.drew = w75 at HO_7 BK149 BK164 BK182 HB hHeld ⊢
                refine pure_ (i:=0) (N:=some 146) (v:=?_) (a':=?_) #[true,false,false,false,false,false,false,false,false,false,false] rfl rfl (any_of HT_.out (by kernel_rfl)) (fun _ _ _ h=>h) (Or.inl ⟨by rfl,?_⟩) ?_ ?_;rotate_left
                ·intro w';go_simp;with_reducible rfl
                rotate_left
                ·simp only [Act.put,List.setIfInBounds_toArray,List.set_cons_zero,List.set_cons_succ,i64_w,i32_w];rfl
                refine pure_ (i:=1) (N:=some 147) (v:=?_) (a':=?_) #[true,true,false,false,false,false,false,false,false,false,false] rfl rfl (any_of HT_.out (by kernel_rfl)) (fun _ _ _ h=>h) (Or.inl ⟨by rfl,?_⟩) ?_ ?_;rotate_left
                ·intro w';go_simp;with_reducible rfl
                rotate_left
                ·simp only [Act.put,List.setIfInBounds_toArray,List.set_cons_zero,List.set_cons_succ,i64_w,i32_w];rfl
                refine pure_ (i:=2) (N:=some 148) (v:=undef) (a':=?_) #[true,true,true,false,false,false,false,false,false,false,false] rfl rfl (any_of HT_.out (by kernel_rfl)) (fun _ _ _ h=>h) (Or.inr ⟨by rfl,rfl⟩) ?_ ?_;rotate_left
                ·simp only [Act.put,List.setIfInBounds_toArray,List.set_cons_zero,List.set_cons_succ,i64_w,i32_w];rfl
                refine pure_ (i:=3) (N:=some 149) (v:=undef) (a':=?_) #[true,true,true,true,false,false,false,false,false,false,false] rfl rfl (any_of HT_.out (by kernel_rfl)) (fun _ _ _ h=>h) (Or.inr ⟨by rfl,rfl⟩) ?_ ?_;rotate_left
                ·simp only [Act.put,List.setIfInBounds_toArray,List.set_cons_zero,List.set_cons_succ,i64_w,i32_w];rfl
                refine pure_ (i:=4) (N:=some 150) (v:=undef) (a':=?_) #[true,true,true,true,true,false,false,false,false,false,false] rfl rfl (any_of HT_.out (by kernel_rfl)) (fun _ _ _ h=>h) (Or.inr ⟨by rfl,rfl⟩) ?_ ?_;rotate_left
                ·simp only [Act.put,List.setIfInBounds_toArray,List.set_cons_zero,List.set_cons_succ,i64_w,i32_w];rfl
                refine pure_ (i:=5) (N:=some 151) (v:=undef) (a':=?_) #[true,true,true,true,true,true,false,false,false,false,false] rfl rfl (any_of HT_.out (by kernel_rfl)) (fun _ _ _ h=>h) (Or.inr ⟨by rfl,rfl⟩) ?_ ?_;rotate_left
                ·simp only [Act.put,List.setIfInBounds_toArray,List.set_cons_zero,List.set_cons_succ,i64_w,i32_w];rfl
                refine pure_ (i:=6) (N:=some 152) (v:=undef) (a':=?_) #[true,true,true,true,true,true,true,false,false,false,false] rfl rfl (any_of HT_.out (by kernel_rfl)) (fun _ _ _ h=>h) (Or.inr ⟨by rfl,rfl⟩) ?_ ?_;rotate_left
                ·simp only [Act.put,List.setIfInBounds_toArray,List.set_cons_zero,List.set_cons_succ,i64_w,i32_w];rfl
                refine pure_ (i:=7) (N:=some 153) (v:=undef) (a':=?_) #[true,true,true,true,true,true,true,true,false,false,false] rfl rfl (any_of HT_.out (by kernel_rfl)) (fun _ _ _ h=>h) (Or.inr ⟨by rfl,rfl⟩) ?_ ?_;rotate_left
                ·simp only [Act.put,List.setIfInBounds_toArray,List.set_cons_zero,List.set_cons_succ,i64_w,i32_w];rfl
                refine pure_ (i:=8) (N:=some 154) (v:=undef) (a':=?_) #[true,true,true,true,true,true,true,true,true,false,false] rfl rfl (any_of HT_.out (by kernel_rfl)) (fun _ _ _ h=>h) (Or.inr ⟨by rfl,rfl⟩) ?_ ?_;rotate_left
                ·simp only [Act.put,List.setIfInBounds_toArray,List.set_cons_zero,List.set_cons_succ,i64_w,i32_w];rfl
                refine pure_ (i:=9) (N:=some 155) (v:=?_) (a':=?_) #[true,true,true,true,true,true,true,true,true,true,false] rfl rfl (any_of HT_.out (by kernel_rfl)) (fun _ _ _ h=>h) (Or.inl ⟨by rfl,?_⟩) ?_ ?_;rotate_left
                ·intro w';go_simp;with_reducible rfl
                rotate_left
                ·simp only [Act.put,List.setIfInBounds_toArray,List.set_cons_zero,List.set_cons_succ,i64_w,i32_w];rfl
                refine pure_ (i:=10) (N:=some 16) (v:=?_) (a':=?_) #[true,true,true,true,true,true,true,true,true,true,true] rfl rfl (any_of HT_.out (by kernel_rfl)) (fun _ _ _ h=>h) (Or.inl ⟨by rfl,?_⟩) ?_ ?_;rotate_left
                ·intro w';go_simp;with_reducible rfl
                rotate_left
                ·simp only [Act.put,List.setIfInBounds_toArray,List.set_cons_zero,List.set_cons_succ,i64_w,i32_w];rfl
                refine done_ (done_of HT_.out (by kernel_rfl)) ?_
                try go_wp2
                go_roundg k3
                case measure=>have:=HK1.out;have:=HJ48.out;have:=HK3.out;omega
                case rel=>exact ⟨((FloatKind.f64.format.order (rdOf (0 : Nat) y153 x17_3) t157 == some .eq)),(true),(wrap64 (x17_3 + 1)),rr_,rr_,rr_,(by first|exact H'|(subst_vars;exact H')),⟨by have:=HK1.out;have:=HJ48.out;have:=HK3.out;omega⟩,⟨(rk_ HO_7)⟩,⟨(bk_ BK149)⟩,⟨(bk_ BK164)⟩,⟨(bk_ BK182)⟩,⟨(hb_ HB)⟩⟩
              as_aux_lemma =>
               replace c72:=Bool.eq_false_iff.mpr c72;subst c72
               have H1 : (quarrylaw31_TallySteps.l1 k3 y153 x11_1 (FloatKind.f64.format.order (rdOf (0 : Nat) y153 x17_3) t157 == some .eq) (FloatKind.f64.format.order (rdOf (0 : Nat) y153 x17_3) t158 == some .eq) (wrap64 (x17_3 + 1)) t156 t157 t158 t159 t160 t161 t162) = some r:=by rw [if_neg (show ¬ (false = true) by decide)] at H;exact H
               clear H;have H:=H1;clear H1;have H':=Aside0.mk H;clear H
               try go_wp2
               have n0_:=Aside0.mk (Kd.R_drew HO_7.out);have n1_:=Aside0.mk (blk_drew BK149.out);have n2_:=Aside0.mk (blk_drew BK164.out);have n3_:=Aside0.mk (blk_drew BK182.out);have n4_:=Aside0.mk (below_drew1 HB.out);clear HO_7;clear BK149;clear BK164;clear BK182;clear HB;have HO_7:=n0_;have BK149:=n1_;have BK164:=n2_;have BK182:=n3_;have HB:=n4_;clear n0_ n1_ n2_ n3_ n4_;have p184 : 0 ≤ (x17_3 : Int):=of_decide_eq_true aa_;have q184 : x17_3 < (y153.length : Int):=of_decide_eq_true aa_;obtain ⟨ad184,e184,hx184_0⟩:=Kd.at_f64 (Kd.R_reads' HO_7.out).2.2 x17_3 p184 q184;cases e184;replace p184:=eq_true p184;replace q184:=eq_true q184;have p185 : 0 ≤ (x17_3 : Int):=of_decide_eq_true aa_;have q185 : x17_3 < (y153.length : Int):=of_decide_eq_true aa_;obtain ⟨ad185,e185,hx185_0⟩:=Kd.at_f64 (Kd.R_reads' HO_7.out).2.2 x17_3 p185 q185;obtain rfl : ad184 = ad185:=(by injection e185);replace p185:=eq_true p185;replace q185:=eq_true q185;refine start_ (n:=16) (S:=fun w'=>w'.cell? ⟨gb164,0,none⟩ = some (.int .i64 t156) ∧ w'.cell? ⟨gb164,1,none⟩ = some (.float .f64 t157) ∧ w'.cell? ⟨gb164,2,none⟩ = some (.float .f64 t158) ∧ w'.cell? ⟨gb164,3,none⟩ = some (.float .f64 t159) ∧ w'.cell? ⟨gb164,4,none⟩ = some (.float .f64 t160) ∧ w'.cell? ⟨gb164,5,none⟩ = some (.float .f64 t161) ∧ w'.cell? ⟨gb164,6,none⟩ = some (.float .f64 t162) ∧ w'.cell? (ad184.add (x17_3).toNat) = some (.float .f64 (rdOf (0 : Nat) y153 x17_3)) ∧ w'.cell? (ad184.add (x17_3).toNat) = some (.float .f64 (rdOf (0 : Nat) y153 x17_3))) (ds:=[]) #[false,false,false,false,false,false,false,false,false,false,false,false,false,false,false,false] (by kernel_rfl) rfl rfl ⟨(blk_cell BK164.out 0).trans rfl,(blk_cell BK164.out 1).trans rfl,(blk_cell BK164.out 2).trans rfl,(blk_cell BK164.out 3).trans rfl,(blk_cell BK164.out 4).trans rfl,(blk_cell BK164.out 5).trans rfl,(blk_cell BK164.out 6).trans rfl,hx184_0,hx185_0⟩ (fun hHeld=>?_);refine with_tabW quarrylaw31_TallySteps.tab28 quarrylaw31_TallySteps.bits28 (fun HT_ HW_=>?_)
               generalize wr.drew = w76 at HO_7 BK149 BK164 BK182 HB hx184_0 hx185_0 hHeld ⊢
               refine pure_ (i:=0) (N:=some 120) (v:=?_) (a':=?_) #[true,false,false,false,false,false,false,false,false,false,false,false,false,false,false,false] rfl rfl (any_of HT_.out (by kernel_rfl)) (fun _ _ _ h=>h) (Or.inl ⟨by rfl,?_⟩) ?_ ?_;rotate_left
               ·intro w';go_simp;with_reducible rfl
               rotate_left
               ·simp only [Act.put,List.setIfInBounds_toArray,List.set_cons_zero,List.set_cons_succ,i64_w,i32_w];rfl
               refine pure_ (i:=1) (N:=some 121) (v:=?_) (a':=?_) #[true,true,false,false,false,false,false,false,false,false,false,false,false,false,false,false] rfl rfl (any_of HT_.out (by kernel_rfl)) (fun _ _ _ h=>h) (Or.inl ⟨by rfl,?_⟩) ?_ ?_;rotate_left
               ·intro w';go_simp;with_reducible rfl
               rotate_left
               ·simp only [Act.put,List.setIfInBounds_toArray,List.set_cons_zero,List.set_cons_succ,i64_w,i32_w];rfl
               refine pure_ (i:=2) (N:=some 122) (v:=?_) (a':=?_) #[true,true,true,false,false,false,false,false,false,false,false,false,false,false,false,false] rfl rfl (any_of HT_.out (by kernel_rfl)) (fun _ _ _ h=>h) (Or.inl ⟨by rfl,?_⟩) ?_ ?_;rotate_left
               ·intro w';go_simp;with_reducible rfl
               rotate_left
               ·simp only [Act.put,List.setIfInBounds_toArray,List.set_cons_zero,List.set_cons_succ,i64_w,i32_w];rfl
               refine pure_ (i:=4) (N:=some 124) (v:=?_) (a':=?_) #[true,true,true,false,true,false,false,false,false,false,false,false,false,false,false,false] rfl rfl (any_of HT_.out (by kernel_rfl)) (fun _ _ _ h=>h) (Or.inl ⟨by rfl,?_⟩) ?_ ?_;rotate_left
               ·intro w';go_simp;with_reducible rfl
               rotate_left
               ·simp only [Act.put,List.setIfInBounds_toArray,List.set_cons_zero,List.set_cons_succ,i64_w,i32_w];rfl
               refine take_ (i:=3) (N:=some 123) (v:=?_) (a':=?_) #[true,true,true,true,true,false,false,false,false,false,false,false,false,false,false,false] rfl rfl (take_ofW HT_.out HW_.out (by kernel_rfl)) (fun _ _ _ h=>h) (Or.inl ⟨by rfl,?_⟩) hHeld ?_ ?_;rotate_left
               ·rintro w' ⟨s0,s1,s2,s3,s4,s5,s6,s7,s8⟩;go_simp;with_reducible rfl
               rotate_left
               ·simp only [Act.put,List.setIfInBounds_toArray,List.set_cons_zero,List.set_cons_succ,i64_w,i32_w];rfl
               refine take_ (i:=5) (N:=some 125) (v:=?_) (a':=?_) #[true,true,true,true,true,true,false,false,false,false,false,false,false,false,false,false] rfl rfl (take_ofW HT_.out HW_.out (by kernel_rfl)) (fun _ _ _ h=>h) (Or.inl ⟨by rfl,?_⟩) hHeld ?_ ?_;rotate_left
               ·rintro w' ⟨s0,s1,s2,s3,s4,s5,s6,s7,s8⟩;go_simp;with_reducible rfl
               rotate_left
               ·simp only [Act.put,List.setIfInBounds_toArray,List.set_cons_zero,List.set_cons_succ,i64_w,i32_w];rfl
               refine pure_ (i:=6) (N:=some 126) (v:=?_) (a':=?_) #[true,true,true,true,true,true,true,false,false,false,false,false,false,false,false,false] rfl rfl (any_of HT_.out (by kernel_rfl)) (fun _ _ _ h=>h) (Or.inl ⟨by rfl,?_⟩) ?_ ?_;rotate_left
               ·intro w';go_simp;with_reducible rfl
               rotate_left
               ·simp only [Act.put,List.setIfInBounds_toArray,List.set_cons_zero,List.set_cons_succ,i64_w,i32_w];rfl
               refine pure_ (i:=7) (N:=some 127) (v:=?_) (a':=?_) #[true,true,true,true,true,true,true,true,false,false,false,false,false,false,false,false] rfl rfl (any_of HT_.out (by kernel_rfl)) (fun _ _ _ h=>h) (Or.inl ⟨by rfl,?_⟩) ?_ ?_;rotate_left
               ·intro w';go_simp;with_reducible rfl
               rotate_left
               ·simp only [Act.put,List.setIfInBounds_toArray,List.set_cons_zero,List.set_cons_succ,i64_w,i32_w];rfl
               refine pure_ (i:=8) (N:=some 128) (v:=?_) (a':=?_) #[true,true,true,true,true,true,true,true,true,false,false,false,false,false,false,false] rfl rfl (any_of HT_.out (by kernel_rfl)) (fun _ _ _ h=>h) (Or.inl ⟨by rfl,?_⟩) ?_ ?_;rotate_left
               ·intro w';go_simp;with_reducible rfl
               rotate_left
               ·simp only [Act.put,List.setIfInBounds_toArray,List.set_cons_zero,List.set_cons_succ,i64_w,i32_w];rfl
               refine pure_ (i:=9) (N:=some 129) (v:=?_) (a':=?_) #[true,true,true,true,true,true,true,true,true,true,false,false,false,false,false,false] rfl rfl (any_of HT_.out (by kernel_rfl)) (fun _ _ _ h=>h) (Or.inl ⟨by rfl,?_⟩) ?_ ?_;rotate_left
               ·intro w';go_simp;with_reducible rfl
               rotate_left
               ·simp only [Act.put,List.setIfInBounds_toArray,List.set_cons_zero,List.set_cons_succ,i64_w,i32_w];rfl
               refine pure_ (i:=10) (N:=some 130) (v:=?_) (a':=?_) #[true,true,true,true,true,true,true,true,true,true,true,false,false,false,false,false] rfl rfl (any_of HT_.out (by kernel_rfl)) (fun _ _ _ h=>h) (Or.inl ⟨by rfl,?_⟩) ?_ ?_;rotate_left
               ·intro w';go_simp;with_reducible rfl
               rotate_left
               ·simp only [Act.put,List.setIfInBounds_toArray,List.set_cons_zero,List.set_cons_succ,i64_w,i32_w];rfl
               refine pure_ (i:=12) (N:=some 132) (v:=?_) (a':=?_) #[true,true,true,true,true,true,true,true,true,true,true,false,true,false,false,false] rfl rfl (any_of HT_.out (by kernel_rfl)) (fun _ _ _ h=>h) (Or.inl ⟨by rfl,?_⟩) ?_ ?_;rotate_left
               ·intro w';go_simp;with_reducible rfl
               rotate_left
               ·simp only [Act.put,List.setIfInBounds_toArray,List.set_cons_zero,List.set_cons_succ,i64_w,i32_w];rfl
               refine take_ (i:=11) (N:=some 131) (v:=?_) (a':=?_) #[true,true,true,true,true,true,true,true,true,true,true,true,true,false,false,false] rfl rfl (take_ofW HT_.out HW_.out (by kernel_rfl)) (fun _ _ _ h=>h) (Or.inl ⟨by rfl,?_⟩) hHeld ?_ ?_;rotate_left
               ·rintro w' ⟨s0,s1,s2,s3,s4,s5,s6,s7,s8⟩;go_simp;with_reducible rfl
               rotate_left
               ·simp only [Act.put,List.setIfInBounds_toArray,List.set_cons_zero,List.set_cons_succ,i64_w,i32_w];rfl
               refine take_ (i:=13) (N:=some 133) (v:=?_) (a':=?_) #[true,true,true,true,true,true,true,true,true,true,true,true,true,true,false,false] rfl rfl (take_ofW HT_.out HW_.out (by kernel_rfl)) (fun _ _ _ h=>h) (Or.inl ⟨by rfl,?_⟩) hHeld ?_ ?_;rotate_left
               ·rintro w' ⟨s0,s1,s2,s3,s4,s5,s6,s7,s8⟩;go_simp;with_reducible rfl
               rotate_left
               ·simp only [Act.put,List.setIfInBounds_toArray,List.set_cons_zero,List.set_cons_succ,i64_w,i32_w];rfl
               refine pure_ (i:=14) (N:=some 134) (v:=?_) (a':=?_) #[true,true,true,true,true,true,true,true,true,true,true,true,true,true,true,false] rfl rfl (any_of HT_.out (by kernel_rfl)) (fun _ _ _ h=>h) (Or.inl ⟨by rfl,?_⟩) ?_ ?_;rotate_left
               ·intro w';go_simp;with_reducible rfl
               rotate_left
               ·simp only [Act.put,List.setIfInBounds_toArray,List.set_cons_zero,List.set_cons_succ,i64_w,i32_w];rfl
               refine pure_ (i:=15) (N:=some 135) (v:=?_) (a':=?_) #[true,true,true,true,true,true,true,true,true,true,true,true,true,true,true,true] rfl rfl (any_of HT_.out (by kernel_rfl)) (fun _ _ _ h=>h) (Or.inl ⟨by rfl,?_⟩) ?_ ?_;rotate_left
               ·intro w';go_simp;with_reducible rfl
               rotate_left
               ·simp only [Act.put,List.setIfInBounds_toArray,List.set_cons_zero,List.set_cons_succ,i64_w,i32_w];rfl
               refine done_ (done_of HT_.out (by kernel_rfl)) ?_
               try go_wp2
               have n0_:=Aside0.mk (Kd.R_drew HO_7.out);have n1_:=Aside0.mk (blk_drew BK149.out);have n2_:=Aside0.mk (blk_drew BK164.out);have n3_:=Aside0.mk (blk_drew BK182.out);have n4_:=Aside0.mk (below_drew1 HB.out);clear HO_7;clear BK149;clear BK164;clear BK182;clear HB;have HO_7:=n0_;have BK149:=n1_;have BK164:=n2_;have BK182:=n3_;have HB:=n4_;clear n0_ n1_ n2_ n3_ n4_;have p187 : 0 ≤ (x17_3 : Int):=of_decide_eq_true aa_;have q187 : x17_3 < (y153.length : Int):=of_decide_eq_true aa_;obtain ⟨ad187,e187,hx187_0⟩:=Kd.at_f64 (Kd.R_reads' HO_7.out).2.2 x17_3 p187 q187;obtain rfl : ad184 = ad187:=(by injection e187);replace p187:=eq_true p187;replace q187:=eq_true q187;refine start_ (n:=11) (S:=fun w'=>w'.cell? ⟨gb164,0,none⟩ = some (.int .i64 t156) ∧ w'.cell? ⟨gb164,1,none⟩ = some (.float .f64 t157) ∧ w'.cell? ⟨gb164,2,none⟩ = some (.float .f64 t158) ∧ w'.cell? ⟨gb164,3,none⟩ = some (.float .f64 t159) ∧ w'.cell? ⟨gb164,4,none⟩ = some (.float .f64 t160) ∧ w'.cell? ⟨gb164,5,none⟩ = some (.float .f64 t161) ∧ w'.cell? ⟨gb164,6,none⟩ = some (.float .f64 t162) ∧ w'.cell? (ad184.add (x17_3).toNat) = some (.float .f64 (rdOf (0 : Nat) y153 x17_3))) (ds:=[]) #[false,false,false,false,false,false,false,false,false,false,false] (by kernel_rfl) rfl rfl ⟨(blk_cell BK164.out 0).trans rfl,(blk_cell BK164.out 1).trans rfl,(blk_cell BK164.out 2).trans rfl,(blk_cell BK164.out 3).trans rfl,(blk_cell BK164.out 4).trans rfl,(blk_cell BK164.out 5).trans rfl,(blk_cell BK164.out 6).trans rfl,hx187_0⟩ (fun hHeld=>?_);refine with_tabW quarrylaw31_TallySteps.tab30 quarrylaw31_TallySteps.bits30 (fun HT_ HW_=>?_)
               generalize w76.drew = w77 at HO_7 BK149 BK164 BK182 HB hx187_0 hHeld ⊢
               refine pure_ (i:=0) (N:=some 136) (v:=?_) (a':=?_) #[true,false,false,false,false,false,false,false,false,false,false] rfl rfl (any_of HT_.out (by kernel_rfl)) (fun _ _ _ h=>h) (Or.inl ⟨by rfl,?_⟩) ?_ ?_;rotate_left
               ·intro w';go_simp;with_reducible rfl
               rotate_left
               ·simp only [Act.put,List.setIfInBounds_toArray,List.set_cons_zero,List.set_cons_succ,i64_w,i32_w];rfl
               refine pure_ (i:=1) (N:=some 137) (v:=?_) (a':=?_) #[true,true,false,false,false,false,false,false,false,false,false] rfl rfl (any_of HT_.out (by kernel_rfl)) (fun _ _ _ h=>h) (Or.inl ⟨by rfl,?_⟩) ?_ ?_;rotate_left
               ·intro w';go_simp;with_reducible rfl
               rotate_left
               ·simp only [Act.put,List.setIfInBounds_toArray,List.set_cons_zero,List.set_cons_succ,i64_w,i32_w];rfl
               refine pure_ (i:=2) (N:=some 138) (v:=?_) (a':=?_) #[true,true,true,false,false,false,false,false,false,false,false] rfl rfl (any_of HT_.out (by kernel_rfl)) (fun _ _ _ h=>h) (Or.inl ⟨by rfl,?_⟩) ?_ ?_;rotate_left
               ·intro w';go_simp;with_reducible rfl
               rotate_left
               ·simp only [Act.put,List.setIfInBounds_toArray,List.set_cons_zero,List.set_cons_succ,i64_w,i32_w];rfl
               refine pure_ (i:=3) (N:=some 139) (v:=?_) (a':=?_) #[true,true,true,true,false,false,false,false,false,false,false] rfl rfl (any_of HT_.out (by kernel_rfl)) (fun _ _ _ h=>h) (Or.inl ⟨by rfl,?_⟩) ?_ ?_;rotate_left
               ·intro w';go_simp;with_reducible rfl
               rotate_left
               ·simp only [Act.put,List.setIfInBounds_toArray,List.set_cons_zero,List.set_cons_succ,i64_w,i32_w];rfl
               refine pure_ (i:=4) (N:=some 140) (v:=?_) (a':=?_) #[true,true,true,true,true,false,false,false,false,false,false] rfl rfl (any_of HT_.out (by kernel_rfl)) (fun _ _ _ h=>h) (Or.inl ⟨by rfl,?_⟩) ?_ ?_;rotate_left
               ·intro w';go_simp;with_reducible rfl
               rotate_left
               ·simp only [Act.put,List.setIfInBounds_toArray,List.set_cons_zero,List.set_cons_succ,i64_w,i32_w];rfl
               refine pure_ (i:=6) (N:=some 142) (v:=?_) (a':=?_) #[true,true,true,true,true,false,true,false,false,false,false] rfl rfl (any_of HT_.out (by kernel_rfl)) (fun _ _ _ h=>h) (Or.inl ⟨by rfl,?_⟩) ?_ ?_;rotate_left
               ·intro w';go_simp;with_reducible rfl
               rotate_left
               ·simp only [Act.put,List.setIfInBounds_toArray,List.set_cons_zero,List.set_cons_succ,i64_w,i32_w];rfl
               refine take_ (i:=5) (N:=some 141) (v:=?_) (a':=?_) #[true,true,true,true,true,true,true,false,false,false,false] rfl rfl (take_ofW HT_.out HW_.out (by kernel_rfl)) (fun _ _ _ h=>h) (Or.inl ⟨by rfl,?_⟩) hHeld ?_ ?_;rotate_left
               ·rintro w' ⟨s0,s1,s2,s3,s4,s5,s6,s7⟩;go_simp;with_reducible rfl
               rotate_left
               ·simp only [Act.put,List.setIfInBounds_toArray,List.set_cons_zero,List.set_cons_succ,i64_w,i32_w];rfl
               refine take_ (i:=7) (N:=some 143) (v:=?_) (a':=?_) #[true,true,true,true,true,true,true,true,false,false,false] rfl rfl (take_ofW HT_.out HW_.out (by kernel_rfl)) (fun _ _ _ h=>h) (Or.inl ⟨by rfl,?_⟩) hHeld ?_ ?_;rotate_left
               ·rintro w' ⟨s0,s1,s2,s3,s4,s5,s6,s7⟩;go_simp;with_reducible rfl
               rotate_left
               ·simp only [Act.put,List.setIfInBounds_toArray,List.set_cons_zero,List.set_cons_succ,i64_w,i32_w];rfl
               refine pure_ (i:=8) (N:=some 144) (v:=?_) (a':=?_) #[true,true,true,true,true,true,true,true,true,false,false] rfl rfl (any_of HT_.out (by kernel_rfl)) (fun _ _ _ h=>h) (Or.inl ⟨by rfl,?_⟩) ?_ ?_;rotate_left
               ·intro w';go_simp;with_reducible rfl
               rotate_left
               ·simp only [Act.put,List.setIfInBounds_toArray,List.set_cons_zero,List.set_cons_succ,i64_w,i32_w];rfl
               refine pure_ (i:=9) (N:=some 145) (v:=?_) (a':=?_) #[true,true,true,true,true,true,true,true,true,true,false] rfl rfl (any_of HT_.out (by kernel_rfl)) (fun _ _ _ h=>h) (Or.inl ⟨by rfl,?_⟩) ?_ ?_;rotate_left
               ·intro w';go_simp;with_reducible rfl
               rotate_left
               ·simp only [Act.put,List.setIfInBounds_toArray,List.set_cons_zero,List.set_cons_succ,i64_w,i32_w];rfl
               refine pure_ (i:=10) (N:=some 15) (v:=?_) (a':=?_) #[true,true,true,true,true,true,true,true,true,true,true] rfl rfl (any_of HT_.out (by kernel_rfl)) (fun _ _ _ h=>h) (Or.inl ⟨by rfl,?_⟩) ?_ ?_;rotate_left
               ·intro w';go_simp;with_reducible rfl
               rotate_left
               ·simp only [Act.put,List.setIfInBounds_toArray,List.set_cons_zero,List.set_cons_succ,i64_w,i32_w];rfl
               refine done_ (done_of HT_.out (by kernel_rfl)) ?_
               try go_wp2
               have n0_:=Aside0.mk (Kd.R_drew HO_7.out);have n1_:=Aside0.mk (blk_drew BK149.out);have n2_:=Aside0.mk (blk_drew BK164.out);have n3_:=Aside0.mk (blk_drew BK182.out);have n4_:=Aside0.mk (below_drew1 HB.out);clear HO_7;clear BK149;clear BK164;clear BK182;clear HB;have HO_7:=n0_;have BK149:=n1_;have BK164:=n2_;have BK182:=n3_;have HB:=n4_;clear n0_ n1_ n2_ n3_ n4_;have p188 : 0 ≤ (x17_3 : Int):=of_decide_eq_true aa_;have q188 : x17_3 < (y153.length : Int):=of_decide_eq_true aa_;obtain ⟨ad188,e188,hx188_0⟩:=Kd.at_f64 (Kd.R_reads' HO_7.out).2.2 x17_3 p188 q188;obtain rfl : ad184 = ad188:=(by injection e188);replace p188:=eq_true p188;replace q188:=eq_true q188;refine start_ (n:=11) (S:=fun w'=>w'.cell? ⟨gb164,0,none⟩ = some (.int .i64 t156) ∧ w'.cell? ⟨gb164,1,none⟩ = some (.float .f64 t157) ∧ w'.cell? ⟨gb164,2,none⟩ = some (.float .f64 t158) ∧ w'.cell? ⟨gb164,3,none⟩ = some (.float .f64 t159) ∧ w'.cell? ⟨gb164,4,none⟩ = some (.float .f64 t160) ∧ w'.cell? ⟨gb164,5,none⟩ = some (.float .f64 t161) ∧ w'.cell? ⟨gb164,6,none⟩ = some (.float .f64 t162) ∧ w'.cell? (ad184.add (x17_3).toNat) = some (.float .f64 (rdOf (0 : Nat) y153 x17_3))) (ds:=[]) #[false,false,false,false,false,false,false,false,false,false,false] (by kernel_rfl) rfl rfl ⟨(blk_cell BK164.out 0).trans rfl,(blk_cell BK164.out 1).trans rfl,(blk_cell BK164.out 2).trans rfl,(blk_cell BK164.out 3).trans rfl,(blk_cell BK164.out 4).trans rfl,(blk_cell BK164.out 5).trans rfl,(blk_cell BK164.out 6).trans rfl,hx188_0⟩ (fun hHeld=>?_);refine with_tabW quarrylaw31_TallySteps.tab31 quarrylaw31_TallySteps.bits31 (fun HT_ HW_=>?_)
               generalize w77.drew = w78 at HO_7 BK149 BK164 BK182 HB hx188_0 hHeld ⊢
               refine pure_ (i:=0) (N:=some 146) (v:=?_) (a':=?_) #[true,false,false,false,false,false,false,false,false,false,false] rfl rfl (any_of HT_.out (by kernel_rfl)) (fun _ _ _ h=>h) (Or.inl ⟨by rfl,?_⟩) ?_ ?_;rotate_left
               ·intro w';go_simp;with_reducible rfl
               rotate_left
               ·simp only [Act.put,List.setIfInBounds_toArray,List.set_cons_zero,List.set_cons_succ,i64_w,i32_w];rfl
               refine pure_ (i:=1) (N:=some 147) (v:=?_) (a':=?_) #[true,true,false,false,false,false,false,false,false,false,false] rfl rfl (any_of HT_.out (by kernel_rfl)) (fun _ _ _ h=>h) (Or.inl ⟨by rfl,?_⟩) ?_ ?_;rotate_left
               ·intro w';go_simp;with_reducible rfl
               rotate_left
               ·simp only [Act.put,List.setIfInBounds_toArray,List.set_cons_zero,List.set_cons_succ,i64_w,i32_w];rfl
               refine pure_ (i:=2) (N:=some 148) (v:=?_) (a':=?_) #[true,true,true,false,false,false,false,false,false,false,false] rfl rfl (any_of HT_.out (by kernel_rfl)) (fun _ _ _ h=>h) (Or.inl ⟨by rfl,?_⟩) ?_ ?_;rotate_left
               ·intro w';go_simp;with_reducible rfl
               rotate_left
               ·simp only [Act.put,List.setIfInBounds_toArray,List.set_cons_zero,List.set_cons_succ,i64_w,i32_w];rfl
               refine pure_ (i:=3) (N:=some 149) (v:=?_) (a':=?_) #[true,true,true,true,false,false,false,false,false,false,false] rfl rfl (any_of HT_.out (by kernel_rfl)) (fun _ _ _ h=>h) (Or.inl ⟨by rfl,?_⟩) ?_ ?_;rotate_left
               ·intro w';go_simp;with_reducible rfl
               rotate_left
               ·simp only [Act.put,List.setIfInBounds_toArray,List.set_cons_zero,List.set_cons_succ,i64_w,i32_w];rfl
               refine pure_ (i:=4) (N:=some 150) (v:=?_) (a':=?_) #[true,true,true,true,true,false,false,false,false,false,false] rfl rfl (any_of HT_.out (by kernel_rfl)) (fun _ _ _ h=>h) (Or.inl ⟨by rfl,?_⟩) ?_ ?_;rotate_left
               ·intro w';go_simp;with_reducible rfl
               rotate_left
               ·simp only [Act.put,List.setIfInBounds_toArray,List.set_cons_zero,List.set_cons_succ,i64_w,i32_w];rfl
               refine pure_ (i:=6) (N:=some 152) (v:=?_) (a':=?_) #[true,true,true,true,true,false,true,false,false,false,false] rfl rfl (any_of HT_.out (by kernel_rfl)) (fun _ _ _ h=>h) (Or.inl ⟨by rfl,?_⟩) ?_ ?_;rotate_left
               ·intro w';go_simp;with_reducible rfl
               rotate_left
               ·simp only [Act.put,List.setIfInBounds_toArray,List.set_cons_zero,List.set_cons_succ,i64_w,i32_w];rfl
               refine take_ (i:=5) (N:=some 151) (v:=?_) (a':=?_) #[true,true,true,true,true,true,true,false,false,false,false] rfl rfl (take_ofW HT_.out HW_.out (by kernel_rfl)) (fun _ _ _ h=>h) (Or.inl ⟨by rfl,?_⟩) hHeld ?_ ?_;rotate_left
               ·rintro w' ⟨s0,s1,s2,s3,s4,s5,s6,s7⟩;go_simp;with_reducible rfl
               rotate_left
               ·simp only [Act.put,List.setIfInBounds_toArray,List.set_cons_zero,List.set_cons_succ,i64_w,i32_w];rfl
               refine take_ (i:=7) (N:=some 153) (v:=?_) (a':=?_) #[true,true,true,true,true,true,true,true,false,false,false] rfl rfl (take_ofW HT_.out HW_.out (by kernel_rfl)) (fun _ _ _ h=>h) (Or.inl ⟨by rfl,?_⟩) hHeld ?_ ?_;rotate_left
               ·rintro w' ⟨s0,s1,s2,s3,s4,s5,s6,s7⟩;go_simp;with_reducible rfl
               rotate_left
               ·simp only [Act.put,List.setIfInBounds_toArray,List.set_cons_zero,List.set_cons_succ,i64_w,i32_w];rfl
               refine pure_ (i:=8) (N:=some 154) (v:=?_) (a':=?_) #[true,true,true,true,true,true,true,true,true,false,false] rfl rfl (any_of HT_.out (by kernel_rfl)) (fun _ _ _ h=>h) (Or.inl ⟨by rfl,?_⟩) ?_ ?_;rotate_left
               ·intro w';go_simp;with_reducible rfl
               rotate_left
               ·simp only [Act.put,List.setIfInBounds_toArray,List.set_cons_zero,List.set_cons_succ,i64_w,i32_w];rfl
               refine pure_ (i:=9) (N:=some 155) (v:=?_) (a':=?_) #[true,true,true,true,true,true,true,true,true,true,false] rfl rfl (any_of HT_.out (by kernel_rfl)) (fun _ _ _ h=>h) (Or.inl ⟨by rfl,?_⟩) ?_ ?_;rotate_left
               ·intro w';go_simp;with_reducible rfl
               rotate_left
               ·simp only [Act.put,List.setIfInBounds_toArray,List.set_cons_zero,List.set_cons_succ,i64_w,i32_w];rfl
               refine pure_ (i:=10) (N:=some 16) (v:=?_) (a':=?_) #[true,true,true,true,true,true,true,true,true,true,true] rfl rfl (any_of HT_.out (by kernel_rfl)) (fun _ _ _ h=>h) (Or.inl ⟨by rfl,?_⟩) ?_ ?_;rotate_left
               ·intro w';go_simp;with_reducible rfl
               rotate_left
               ·simp only [Act.put,List.setIfInBounds_toArray,List.set_cons_zero,List.set_cons_succ,i64_w,i32_w];rfl
               refine done_ (done_of HT_.out (by kernel_rfl)) ?_
               try go_wp2
               go_roundg k3
               case measure=>have:=HK1.out;have:=HJ48.out;have:=HK3.out;omega
               case rel=>exact ⟨((FloatKind.f64.format.order (rdOf (0 : Nat) y153 x17_3) t157 == some .eq)),((FloatKind.f64.format.order (rdOf (0 : Nat) y153 x17_3) t158 == some .eq)),(wrap64 (x17_3 + 1)),rr_,rr_,rr_,(by first|exact H'|(subst_vars;exact H')),⟨by have:=HK1.out;have:=HJ48.out;have:=HK3.out;omega⟩,⟨(rk_ HO_7)⟩,⟨(bk_ BK149)⟩,⟨(bk_ BK164)⟩,⟨(bk_ BK182)⟩,⟨(hb_ HB)⟩⟩
             rw [if_neg c61] at H
             exact absurd H (by simp)
            rw [if_neg c60] at H
            have c60b0 : decide (x17_3 < (y153.length : Int)) = false:=decide_eq_false c60;clear c60;replace H:=Option.bind_eq_some_iff.mp H;obtain ⟨⟨t189,t190⟩,A790,H⟩:=H;replace H : ((tally_Join.f k3 t156 t157 t158 t159 t160 t161 t162 0 0 0 0 0 0 0).bind fun bt191=>((tally_Join.f k3 0 0 0 0 0 0 0 t156 t157 t158 t159 t160 t161 t162).bind fun bt200=>(if x15_3 = true then (if x16_3 = true then (if t156 = (y153.length : Int) then (if t190 = 0 then (if bt191.2.2.2.2.2.2.2 = 0 then (if bt200.2.2.2.2.2.2.2 = 0 then ((quarrylaw31_same.f bt191.1 bt191.2.1 bt191.2.2.1 bt191.2.2.2.1 bt191.2.2.2.2.1 bt191.2.2.2.2.2.1 bt191.2.2.2.2.2.2.1 t156 t157 t158 t159 t160 t161 t162).bind fun t209=>(if t209 = true then ((quarrylaw31_same.f bt200.1 bt200.2.1 bt200.2.2.1 bt200.2.2.2.1 bt200.2.2.2.2.1 bt200.2.2.2.2.2.1 bt200.2.2.2.2.2.2.1 t156 t157 t158 t159 t160 t161 t162).bind fun t210=>(if t210 = true then (if x11_1 = true then (if (FloatKind.f64.format.order t162 0 == some .eq) = true then (if 0 < (y153.length : Int) then (some (FloatKind.f64.format.order t161 (rdOf (0 : Nat) y153 0) == some .eq)) else (none)) else (none)) else (some true)) else (none))) else (none))) else (none)) else (none)) else (none)) else (none)) else (none)) else (none)))) = some r:=H;have A79:=Aside0.mk A790;clear A790;have HC80:=Aside0.mk H;clear H;have hnb81:=NB164_149.out;have hnc81:=NB149_164.out;have hnb82:=NB164_182.out;have hnc82:=NB182_164.out;obtain ⟨hcz83_0,hcz83_1,hcz83_2,hcz83_3,hcz83_4,hcz83_5,hcz83_6,hfz83_0,hfz83_1,hfz83_2,hfz83_3,hfz83_4,hfz83_5,hfz83_6⟩:=cf7_ BK164
            go_upto_region 33 with (first|((with_reducible refine gate_callee (f:=20) rfl ?_);refine goesL_ (some 158) rfl rfl Try.func20 (by kernel_rfl) rfl #[.agg #[.int .i64 t156,.float .f64 t157,.float .f64 t158,.float .f64 t159,.float .f64 t160,.float .f64 t161,.float .f64 t162]] rfl am_ ?_;(with_reducible refine (tally_Spread.calls k3 t156 t157 t158 t159 t160 t161 t162 t189 t190 _ A79.out).mono ?_);rintro e w84 ⟨rfl,hb⟩;refine ⟨_,rfl,?_⟩;have n_:=J_ (Kd.R_below (rk_ HO_7) hb) (J_ (bkb_ BK149 hb) (J_ (bkb_ BK164 hb) (J_ (bkb_ BK182 hb) (Aside0.mk (below_step (hb_ HB) hb)))));clear HO_7 BK149 BK164 BK182 HB;obtain ⟨HO_7,BK149,BK164,BK182,HB⟩:=n_;(try clear hb);(try clear hb2);(try clear hk);(try clear hi)))
            (try simp only [Act.put,List.setIfInBounds_toArray,List.set_cons_zero,List.set_cons_succ])
            have H:=HC80.out;clear HC80;replace H:=Option.bind_eq_some_iff.mp H;obtain ⟨⟨t191,t192,t193,t194,t195,t196,t197,t198⟩,A850,H⟩:=H;replace H : ((tally_Join.f k3 0 0 0 0 0 0 0 t156 t157 t158 t159 t160 t161 t162).bind fun bt200=>(if x15_3 = true then (if x16_3 = true then (if t156 = (y153.length : Int) then (if t190 = 0 then (if t198 = 0 then (if bt200.2.2.2.2.2.2.2 = 0 then ((quarrylaw31_same.f t191 t192 t193 t194 t195 t196 t197 t156 t157 t158 t159 t160 t161 t162).bind fun t209=>(if t209 = true then ((quarrylaw31_same.f bt200.1 bt200.2.1 bt200.2.2.1 bt200.2.2.2.1 bt200.2.2.2.2.1 bt200.2.2.2.2.2.1 bt200.2.2.2.2.2.2.1 t156 t157 t158 t159 t160 t161 t162).bind fun t210=>(if t210 = true then (if x11_1 = true then (if (FloatKind.f64.format.order t162 0 == some .eq) = true then (if 0 < (y153.length : Int) then (some (FloatKind.f64.format.order t161 (rdOf (0 : Nat) y153 0) == some .eq)) else (none)) else (none)) else (some true)) else (none))) else (none))) else (none)) else (none)) else (none)) else (none)) else (none)) else (none))) = some r:=H;have A85:=Aside0.mk A850;clear A850;have HC86:=Aside0.mk H;clear H;have hnb87:=NB164_149.out;have hnc87:=NB149_164.out;have hnb88:=NB164_182.out;have hnc88:=NB182_164.out;obtain ⟨hcz89_0,hcz89_1,hcz89_2,hcz89_3,hcz89_4,hcz89_5,hcz89_6,hfz89_0,hfz89_1,hfz89_2,hfz89_3,hfz89_4,hfz89_5,hfz89_6⟩:=cf7_ BK164
            go_upto_region 34 with (first|((with_reducible refine gate_callee (f:=25) rfl ?_);refine goesL_ (some 164) rfl rfl Try.func25 (by kernel_rfl) rfl #[.agg #[.int .i64 t156,.float .f64 t157,.float .f64 t158,.float .f64 t159,.float .f64 t160,.float .f64 t161,.float .f64 t162],.agg #[.int .i64 0,.float .f64 0,.float .f64 0,.float .f64 0,.float .f64 0,.float .f64 0,.float .f64 0]] rfl am_ ?_;(with_reducible refine (tally_Join.calls k3 t156 t157 t158 t159 t160 t161 t162 0 0 0 0 0 0 0 t191 t192 t193 t194 t195 t196 t197 t198 _ A85.out).mono ?_);rintro e w90 ⟨rfl,hb⟩;refine ⟨_,rfl,?_⟩;have n_:=J_ (Kd.R_below (rk_ HO_7) hb) (J_ (bkb_ BK149 hb) (J_ (bkb_ BK164 hb) (J_ (bkb_ BK182 hb) (Aside0.mk (below_step (hb_ HB) hb)))));clear HO_7 BK149 BK164 BK182 HB;obtain ⟨HO_7,BK149,BK164,BK182,HB⟩:=n_;(try clear hb);(try clear hb2);(try clear hk);(try clear hi))|((with_reducible refine gate_dst (N:=20) rfl ?_);(try (refine gate_guard (by rfl) ?_;dsimp only));refine box_event ?hg (N:=20) ?hd (cs:=#[.int .i64 0,.float .f64 0,.float .f64 0,.float .f64 0,.float .f64 0,.float .f64 0,.float .f64 0]) (t:=26) ?hr ?_;(case hd=>rfl);(case hg=>rfl);(case hr=>first|(go_simp;done)|(go_simp;rfl));intro gb199 hg w91 hbox hb;have n_:=J_ (Kd.R_below (rk_ HO_7) hb) (J_ (bkb_ BK149 hb) (J_ (bkb_ BK164 hb) (J_ (bkb_ BK182 hb) (J_ (below_step (hb_ HB) hb) (J_ (hbox) (J_ (bs_ hg HB) (J_ (bs_ hg HB) (J_ ((by rw [hg];exact Nat.ne_of_lt (bkl_ BK149) : gb149 ≠ gb199)) (J_ ((by rw [hg];exact Nat.ne_of_gt (bkl_ BK149) : gb199 ≠ gb149)) (J_ ((by rw [hg];exact Nat.ne_of_lt (bkl_ BK164) : gb164 ≠ gb199)) (J_ ((by rw [hg];exact Nat.ne_of_gt (bkl_ BK164) : gb199 ≠ gb164)) (J_ ((by rw [hg];exact Nat.ne_of_lt (bkl_ BK182) : gb182 ≠ gb199)) (Aside0.mk ((by rw [hg];exact Nat.ne_of_gt (bkl_ BK182) : gb199 ≠ gb182)))))))))))))));clear HO_7 BK149 BK164 BK182 HB;obtain ⟨HO_7,BK149,BK164,BK182,HB,BK199,GW199,GE199,NB149_199,NB199_149,NB164_199,NB199_164,NB182_199,NB199_182⟩:=n_;clear hb hbox hg;have hnb92:=NB199_149.out;have hnc92:=NB149_199.out;have hnb93:=NB199_164.out;have hnc93:=NB164_199.out;have hnb94:=NB199_182.out;have hnc94:=NB182_199.out;obtain ⟨hcz95_0,hcz95_1,hcz95_2,hcz95_3,hcz95_4,hcz95_5,hcz95_6,hfz95_0,hfz95_1,hfz95_2,hfz95_3,hfz95_4,hfz95_5,hfz95_6⟩:=cf7_ BK199))
            (try simp only [Act.put,List.setIfInBounds_toArray,List.set_cons_zero,List.set_cons_succ])
            have H:=HC86.out;clear HC86;replace H:=Option.bind_eq_some_iff.mp H;obtain ⟨⟨t200,t201,t202,t203,t204,t205,t206,t207⟩,A960,H⟩:=H;replace H : (if x15_3 = true then (if x16_3 = true then (if t156 = (y153.length : Int) then (if t190 = 0 then (if t198 = 0 then (if t207 = 0 then ((quarrylaw31_same.f t191 t192 t193 t194 t195 t196 t197 t156 t157 t158 t159 t160 t161 t162).bind fun t209=>(if t209 = true then ((quarrylaw31_same.f t200 t201 t202 t203 t204 t205 t206 t156 t157 t158 t159 t160 t161 t162).bind fun t210=>(if t210 = true then (if x11_1 = true then (if (FloatKind.f64.format.order t162 0 == some .eq) = true then (if 0 < (y153.length : Int) then (some (FloatKind.f64.format.order t161 (rdOf (0 : Nat) y153 0) == some .eq)) else (none)) else (none)) else (some true)) else (none))) else (none))) else (none)) else (none)) else (none)) else (none)) else (none)) else (none)) = some r:=H;have A96:=Aside0.mk A960;clear A960;have HC97:=Aside0.mk H;clear H;have hnb98:=NB164_149.out;have hnc98:=NB149_164.out;have hnb99:=NB164_182.out;have hnc99:=NB182_164.out;have hnb100:=NB164_199.out;have hnc100:=NB199_164.out;obtain ⟨hcz101_0,hcz101_1,hcz101_2,hcz101_3,hcz101_4,hcz101_5,hcz101_6,hfz101_0,hfz101_1,hfz101_2,hfz101_3,hfz101_4,hfz101_5,hfz101_6⟩:=cf7_ BK164
            go_upto_region 35 with (first|((with_reducible refine gate_callee (f:=25) rfl ?_);refine goesL_ (some 170) rfl rfl Try.func25 (by kernel_rfl) rfl #[.agg #[.int .i64 0,.float .f64 0,.float .f64 0,.float .f64 0,.float .f64 0,.float .f64 0,.float .f64 0],.agg #[.int .i64 t156,.float .f64 t157,.float .f64 t158,.float .f64 t159,.float .f64 t160,.float .f64 t161,.float .f64 t162]] rfl am_ ?_;(with_reducible refine (tally_Join.calls k3 0 0 0 0 0 0 0 t156 t157 t158 t159 t160 t161 t162 t200 t201 t202 t203 t204 t205 t206 t207 _ A96.out).mono ?_);rintro e w102 ⟨rfl,hb⟩;refine ⟨_,rfl,?_⟩;have n_:=J_ (Kd.R_below (by (with_reducible repeat (first|apply Kd.R_alloc|apply Kd.R_drewN|apply Kd.R_drew));exact (Kd.R_mono (Kd.R_far (p:=⟨gb199,6,none⟩) (Kd.R_far (p:=⟨gb199,5,none⟩) (Kd.R_far (p:=⟨gb199,4,none⟩) (Kd.R_far (p:=⟨gb199,3,none⟩) (Kd.R_far (p:=⟨gb199,2,none⟩) (Kd.R_far (p:=⟨gb199,1,none⟩) (Kd.R_far (p:=⟨gb199,0,none⟩) (Kd.R_types HO_7.out BK199.out (by decide)) (fun _ hk=>hk.2) (.int .i64 t191)) (fun _ hk=>hk.2) (.float .f64 t192)) (fun _ hk=>hk.2) (.float .f64 t193)) (fun _ hk=>hk.2) (.float .f64 t194)) (fun _ hk=>hk.2) (.float .f64 t195)) (fun _ hk=>hk.2) (.float .f64 t196)) (fun _ hk=>hk.2) (.float .f64 t197)) (fun _ h_=>h_.1))) hb) (J_ (blk_below (g:=gb149) (o:=.cells #[.int .i64 t141,.float .f64 t142,.float .f64 t143,.float .f64 t144,.float .f64 t145,.float .f64 t146,.float .f64 t147] 26 (0,0)) ((bf_ NB149_199 BK149)) hb) (J_ (blk_below (g:=gb164) (o:=.cells #[.int .i64 t156,.float .f64 t157,.float .f64 t158,.float .f64 t159,.float .f64 t160,.float .f64 t161,.float .f64 t162] 26 (0,0)) ((bf_ NB164_199 BK164)) hb) (J_ (blk_below (g:=gb182) (o:=.cells #[.int .i64 t174,.float .f64 t175,.float .f64 t176,.float .f64 t177,.float .f64 t178,.float .f64 t179,.float .f64 t180] 26 (0,0)) ((bf_ NB182_199 BK182)) hb) (J_ (blk_below (g:=gb199) (o:=.cells #[.int .i64 t191,.float .f64 t192,.float .f64 t193,.float .f64 t194,.float .f64 t195,.float .f64 t196,.float .f64 t197] 26 (0,0)) (by (with_reducible repeat (first|refine blk_drewN ?_ _|refine blk_drew ?_|refine blk_alloc ?_ _));refine bp_ (cs:=#[.int .i64 t191,.float .f64 t192,.float .f64 t193,.float .f64 t194,.float .f64 t195,.float .f64 t196,.float .f64 0]) ?_ 6 _;refine bp_ (cs:=#[.int .i64 t191,.float .f64 t192,.float .f64 t193,.float .f64 t194,.float .f64 t195,.float .f64 0,.float .f64 0]) ?_ 5 _;refine bp_ (cs:=#[.int .i64 t191,.float .f64 t192,.float .f64 t193,.float .f64 t194,.float .f64 0,.float .f64 0,.float .f64 0]) ?_ 4 _;refine bp_ (cs:=#[.int .i64 t191,.float .f64 t192,.float .f64 t193,.float .f64 0,.float .f64 0,.float .f64 0,.float .f64 0]) ?_ 3 _;refine bp_ (cs:=#[.int .i64 t191,.float .f64 t192,.float .f64 0,.float .f64 0,.float .f64 0,.float .f64 0,.float .f64 0]) ?_ 2 _;refine bp_ (cs:=#[.int .i64 t191,.float .f64 0,.float .f64 0,.float .f64 0,.float .f64 0,.float .f64 0,.float .f64 0]) ?_ 1 _;refine bp_ (cs:=#[.int .i64 0,.float .f64 0,.float .f64 0,.float .f64 0,.float .f64 0,.float .f64 0,.float .f64 0]) ?_ 0 _;(with_reducible repeat (first|refine blk_drewN ?_ _|refine blk_drew ?_|refine blk_alloc ?_ _));exact BK199.out) hb) (Aside0.mk (below_step (hb_ HB) hb))))));clear HO_7 BK149 BK164 BK182 BK199 HB;obtain ⟨HO_7,BK149,BK164,BK182,BK199,HB⟩:=n_;(try clear hb);(try clear hb2);(try clear hk);(try clear hi))|((with_reducible refine gate_dst (N:=22) rfl ?_);(try (refine gate_guard (by rfl) ?_;dsimp only));refine box_event ?hg (N:=22) ?hd (cs:=#[.int .i64 0,.float .f64 0,.float .f64 0,.float .f64 0,.float .f64 0,.float .f64 0,.float .f64 0]) (t:=26) ?hr ?_;(case hd=>rfl);(case hg=>rfl);(case hr=>first|(go_simp;done)|(go_simp;rfl));intro gb208 hg w103 hbox hb;have n_:=J_ (Kd.R_below (rk_ HO_7) hb) (J_ (bkb_ BK149 hb) (J_ (bkb_ BK164 hb) (J_ (bkb_ BK182 hb) (J_ (bkb_ BK199 hb) (J_ (below_step (hb_ HB) hb) (J_ (hbox) (J_ (bs_ hg HB) (J_ (bs_ hg HB) (J_ ((by rw [hg];exact Nat.ne_of_lt (bkl_ BK149) : gb149 ≠ gb208)) (J_ ((by rw [hg];exact Nat.ne_of_gt (bkl_ BK149) : gb208 ≠ gb149)) (J_ ((by rw [hg];exact Nat.ne_of_lt (bkl_ BK164) : gb164 ≠ gb208)) (J_ ((by rw [hg];exact Nat.ne_of_gt (bkl_ BK164) : gb208 ≠ gb164)) (J_ ((by rw [hg];exact Nat.ne_of_lt (bkl_ BK182) : gb182 ≠ gb208)) (J_ ((by rw [hg];exact Nat.ne_of_gt (bkl_ BK182) : gb208 ≠ gb182)) (J_ ((by rw [hg];exact Nat.ne_of_lt (bkl_ BK199) : gb199 ≠ gb208)) (Aside0.mk ((by rw [hg];exact Nat.ne_of_gt (bkl_ BK199) : gb208 ≠ gb199))))))))))))))))));clear HO_7 BK149 BK164 BK182 BK199 HB;obtain ⟨HO_7,BK149,BK164,BK182,BK199,HB,BK208,GW208,GE208,NB149_208,NB208_149,NB164_208,NB208_164,NB182_208,NB208_182,NB199_208,NB208_199⟩:=n_;clear hb hbox hg;have hnb104:=NB208_149.out;have hnc104:=NB149_208.out;have hnb105:=NB208_164.out;have hnc105:=NB164_208.out;have hnb106:=NB208_182.out;have hnc106:=NB182_208.out;have hnb107:=NB208_199.out;have hnc107:=NB199_208.out;obtain ⟨hcz108_0,hcz108_1,hcz108_2,hcz108_3,hcz108_4,hcz108_5,hcz108_6,hfz108_0,hfz108_1,hfz108_2,hfz108_3,hfz108_4,hfz108_5,hfz108_6⟩:=cf7_ BK208))
            (try simp only [Act.put,List.setIfInBounds_toArray,List.set_cons_zero,List.set_cons_succ])
            have H:=HC97.out;clear HC97
            by_cases c109 : x15_3 = true
            ·subst c109
             have H1 : (if x16_3 = true then (if t156 = (y153.length : Int) then (if t190 = 0 then (if t198 = 0 then (if t207 = 0 then ((quarrylaw31_same.f t191 t192 t193 t194 t195 t196 t197 t156 t157 t158 t159 t160 t161 t162).bind fun t209=>(if t209 = true then ((quarrylaw31_same.f t200 t201 t202 t203 t204 t205 t206 t156 t157 t158 t159 t160 t161 t162).bind fun t210=>(if t210 = true then (if x11_1 = true then (if (FloatKind.f64.format.order t162 0 == some .eq) = true then (if 0 < (y153.length : Int) then (some (FloatKind.f64.format.order t161 (rdOf (0 : Nat) y153 0) == some .eq)) else (none)) else (none)) else (some true)) else (none))) else (none))) else (none)) else (none)) else (none)) else (none)) else (none)) = some r:=by rw [if_pos rfl] at H;exact H
             clear H;have H:=H1;clear H1
             by_cases c110 : x16_3 = true
             ·subst c110
              have H1 : (if t156 = (y153.length : Int) then (if t190 = 0 then (if t198 = 0 then (if t207 = 0 then ((quarrylaw31_same.f t191 t192 t193 t194 t195 t196 t197 t156 t157 t158 t159 t160 t161 t162).bind fun t209=>(if t209 = true then ((quarrylaw31_same.f t200 t201 t202 t203 t204 t205 t206 t156 t157 t158 t159 t160 t161 t162).bind fun t210=>(if t210 = true then (if x11_1 = true then (if (FloatKind.f64.format.order t162 0 == some .eq) = true then (if 0 < (y153.length : Int) then (some (FloatKind.f64.format.order t161 (rdOf (0 : Nat) y153 0) == some .eq)) else (none)) else (none)) else (some true)) else (none))) else (none))) else (none)) else (none)) else (none)) else (none)) = some r:=by rw [if_pos rfl] at H;exact H
              clear H;have H:=H1;clear H1
              by_cases c111 : t156 = (y153.length : Int)
              ·rw [if_pos c111] at H
               have c111b0 : (t156 == (y153.length : Int)) = true:=beq_iff_eq.mpr c111;have c111b1 : (t156 != (y153.length : Int)) = false:=bne_eq_false_iff_eq.mpr c111;clear c111
               by_cases c112 : t190 = 0
               ·rw [if_pos c112] at H
                have c112b0 : (t190 == 0) = true:=beq_iff_eq.mpr c112;have c112b1 : (t190 != 0) = false:=bne_eq_false_iff_eq.mpr c112;clear c112
                by_cases c113 : t198 = 0
                ·rw [if_pos c113] at H
                 have c113b0 : (t198 == 0) = true:=beq_iff_eq.mpr c113;have c113b1 : (t198 != 0) = false:=bne_eq_false_iff_eq.mpr c113;clear c113
                 by_cases c114 : t207 = 0
                 ·rw [if_pos c114] at H
                  have c114b0 : (t207 == 0) = true:=beq_iff_eq.mpr c114;have c114b1 : (t207 != 0) = false:=bne_eq_false_iff_eq.mpr c114;clear c114;replace H:=Option.bind_eq_some_iff.mp H;obtain ⟨t209,A1150,H⟩:=H;replace H : (if t209 = true then ((quarrylaw31_same.f t200 t201 t202 t203 t204 t205 t206 t156 t157 t158 t159 t160 t161 t162).bind fun t210=>(if t210 = true then (if x11_1 = true then (if (FloatKind.f64.format.order t162 0 == some .eq) = true then (if 0 < (y153.length : Int) then (some (FloatKind.f64.format.order t161 (rdOf (0 : Nat) y153 0) == some .eq)) else (none)) else (none)) else (some true)) else (none))) else (none)) = some r:=H;have A115:=Aside0.mk A1150;clear A1150
                  by_cases c116 : t209 = true
                  ·subst c116
                   have H1 : ((quarrylaw31_same.f t200 t201 t202 t203 t204 t205 t206 t156 t157 t158 t159 t160 t161 t162).bind fun t210=>(if t210 = true then (if x11_1 = true then (if (FloatKind.f64.format.order t162 0 == some .eq) = true then (if 0 < (y153.length : Int) then (some (FloatKind.f64.format.order t161 (rdOf (0 : Nat) y153 0) == some .eq)) else (none)) else (none)) else (some true)) else (none))) = some r:=by rw [if_pos rfl] at H;exact H
                   clear H;have H:=H1;clear H1;replace H:=Option.bind_eq_some_iff.mp H;obtain ⟨t210,A1170,H⟩:=H;replace H : (if t210 = true then (if x11_1 = true then (if (FloatKind.f64.format.order t162 0 == some .eq) = true then (if 0 < (y153.length : Int) then (some (FloatKind.f64.format.order t161 (rdOf (0 : Nat) y153 0) == some .eq)) else (none)) else (none)) else (some true)) else (none)) = some r:=H;have A117:=Aside0.mk A1170;clear A1170
                   by_cases c118 : t210 = true
                   ·subst c118
                    have H1 : (if x11_1 = true then (if (FloatKind.f64.format.order t162 0 == some .eq) = true then (if 0 < (y153.length : Int) then (some (FloatKind.f64.format.order t161 (rdOf (0 : Nat) y153 0) == some .eq)) else (none)) else (none)) else (some true)) = some r:=by rw [if_pos rfl] at H;exact H
                    clear H;have H:=H1;clear H1
                    by_cases c119 : x11_1 = true
                    ·subst c119
                     have H1 : (if (FloatKind.f64.format.order t162 0 == some .eq) = true then (if 0 < (y153.length : Int) then (some (FloatKind.f64.format.order t161 (rdOf (0 : Nat) y153 0) == some .eq)) else (none)) else (none)) = some r:=by rw [if_pos rfl] at H;exact H
                     clear H;have H:=H1;clear H1
                     by_cases c120 : (FloatKind.f64.format.order t162 0 == some .eq) = true
                     ·rw [if_pos c120] at H
                      have c120b0 : (FloatKind.f64.format.order t162 0 == some .eq) = true:=c120
                      (try (have c120b1 : decide (FloatKind.f64.format.order t162 0 = some .eq) = true:=by simpa using c120))
                      (try (have c120b2 : (FloatKind.f64.format.order t162 0 == some .eq) = true:=by simpa using c120))
                      clear c120
                      by_cases c121 : 0 < (y153.length : Int)
                      ·as_aux_lemma =>
                        rw [if_pos c121] at H
                        have c121b0 : decide (0 < (y153.length : Int)) = true:=decide_eq_true c121;have c121b1 : decide (0 < y153.length) = true:=decide_eq_true (by omega);clear c121;obtain rfl:=Option.some.inj H
                        try go_wp2
                        have n0_ : Aside0 (Kd.R Kd.f64 24 (((((((w103.setCell ⟨gb208,0,none⟩ (.int .i64 t200)).setCell ⟨gb208,1,none⟩ (.float .f64 t201)).setCell ⟨gb208,2,none⟩ (.float .f64 t202)).setCell ⟨gb208,3,none⟩ (.float .f64 t203)).setCell ⟨gb208,4,none⟩ (.float .f64 t204)).setCell ⟨gb208,5,none⟩ (.float .f64 t205)).setCell ⟨gb208,6,none⟩ (.float .f64 t206)) w.heap.size (fun _=>True) (.slice Ao15 y153.length co15) y153):=⟨by (with_reducible repeat (first|apply Kd.R_alloc|apply Kd.R_drewN|apply Kd.R_drew));exact Kd.R_mono (Kd.R_far (p:=⟨gb208,6,none⟩) (Kd.R_far (p:=⟨gb208,5,none⟩) (Kd.R_far (p:=⟨gb208,4,none⟩) (Kd.R_far (p:=⟨gb208,3,none⟩) (Kd.R_far (p:=⟨gb208,2,none⟩) (Kd.R_far (p:=⟨gb208,1,none⟩) (Kd.R_far (p:=⟨gb208,0,none⟩) (Kd.R_types HO_7.out BK208.out (by decide)) (fun _ hk=>hk.2) (.int .i64 t200)) (fun _ hk=>hk.2) (.float .f64 t201)) (fun _ hk=>hk.2) (.float .f64 t202)) (fun _ hk=>hk.2) (.float .f64 t203)) (fun _ hk=>hk.2) (.float .f64 t204)) (fun _ hk=>hk.2) (.float .f64 t205)) (fun _ hk=>hk.2) (.float .f64 t206)) (fun _ hk=>trivial)⟩;have n1_ : Aside0 ((((((((w103.setCell ⟨gb208,0,none⟩ (.int .i64 t200)).setCell ⟨gb208,1,none⟩ (.float .f64 t201)).setCell ⟨gb208,2,none⟩ (.float .f64 t202)).setCell ⟨gb208,3,none⟩ (.float .f64 t203)).setCell ⟨gb208,4,none⟩ (.float .f64 t204)).setCell ⟨gb208,5,none⟩ (.float .f64 t205)).setCell ⟨gb208,6,none⟩ (.float .f64 t206)).heap[gb149]? = some (.cells #[.int .i64 t141,.float .f64 t142,.float .f64 t143,.float .f64 t144,.float .f64 t145,.float .f64 t146,.float .f64 t147] 26 (0,0))):=⟨(bf_ NB149_208 BK149)⟩
                        have n2_ : Aside0 ((((((((w103.setCell ⟨gb208,0,none⟩ (.int .i64 t200)).setCell ⟨gb208,1,none⟩ (.float .f64 t201)).setCell ⟨gb208,2,none⟩ (.float .f64 t202)).setCell ⟨gb208,3,none⟩ (.float .f64 t203)).setCell ⟨gb208,4,none⟩ (.float .f64 t204)).setCell ⟨gb208,5,none⟩ (.float .f64 t205)).setCell ⟨gb208,6,none⟩ (.float .f64 t206)).heap[gb164]? = some (.cells #[.int .i64 t156,.float .f64 t157,.float .f64 t158,.float .f64 t159,.float .f64 t160,.float .f64 t161,.float .f64 t162] 26 (0,0))):=⟨(bf_ NB164_208 BK164)⟩;have n3_ : Aside0 ((((((((w103.setCell ⟨gb208,0,none⟩ (.int .i64 t200)).setCell ⟨gb208,1,none⟩ (.float .f64 t201)).setCell ⟨gb208,2,none⟩ (.float .f64 t202)).setCell ⟨gb208,3,none⟩ (.float .f64 t203)).setCell ⟨gb208,4,none⟩ (.float .f64 t204)).setCell ⟨gb208,5,none⟩ (.float .f64 t205)).setCell ⟨gb208,6,none⟩ (.float .f64 t206)).heap[gb182]? = some (.cells #[.int .i64 t174,.float .f64 t175,.float .f64 t176,.float .f64 t177,.float .f64 t178,.float .f64 t179,.float .f64 t180] 26 (0,0))):=⟨(bf_ NB182_208 BK182)⟩;have n4_ : Aside0 ((((((((w103.setCell ⟨gb208,0,none⟩ (.int .i64 t200)).setCell ⟨gb208,1,none⟩ (.float .f64 t201)).setCell ⟨gb208,2,none⟩ (.float .f64 t202)).setCell ⟨gb208,3,none⟩ (.float .f64 t203)).setCell ⟨gb208,4,none⟩ (.float .f64 t204)).setCell ⟨gb208,5,none⟩ (.float .f64 t205)).setCell ⟨gb208,6,none⟩ (.float .f64 t206)).heap[gb199]? = some (.cells #[.int .i64 t191,.float .f64 t192,.float .f64 t193,.float .f64 t194,.float .f64 t195,.float .f64 t196,.float .f64 t197] 26 (0,0))):=⟨(bf_ NB199_208 BK199)⟩
                        have n5_ : Aside0 ((((((((w103.setCell ⟨gb208,0,none⟩ (.int .i64 t200)).setCell ⟨gb208,1,none⟩ (.float .f64 t201)).setCell ⟨gb208,2,none⟩ (.float .f64 t202)).setCell ⟨gb208,3,none⟩ (.float .f64 t203)).setCell ⟨gb208,4,none⟩ (.float .f64 t204)).setCell ⟨gb208,5,none⟩ (.float .f64 t205)).setCell ⟨gb208,6,none⟩ (.float .f64 t206)).heap[gb208]? = some (.cells #[.int .i64 t200,.float .f64 t201,.float .f64 t202,.float .f64 t203,.float .f64 t204,.float .f64 t205,.float .f64 t206] 26 (0,0))):=⟨by (with_reducible repeat (first|refine blk_drewN ?_ _|refine blk_drew ?_|refine blk_alloc ?_ _));refine bp_ (cs:=#[.int .i64 t200,.float .f64 t201,.float .f64 t202,.float .f64 t203,.float .f64 t204,.float .f64 t205,.float .f64 0]) ?_ 6 _;refine bp_ (cs:=#[.int .i64 t200,.float .f64 t201,.float .f64 t202,.float .f64 t203,.float .f64 t204,.float .f64 0,.float .f64 0]) ?_ 5 _;refine bp_ (cs:=#[.int .i64 t200,.float .f64 t201,.float .f64 t202,.float .f64 t203,.float .f64 0,.float .f64 0,.float .f64 0]) ?_ 4 _;refine bp_ (cs:=#[.int .i64 t200,.float .f64 t201,.float .f64 t202,.float .f64 0,.float .f64 0,.float .f64 0,.float .f64 0]) ?_ 3 _;refine bp_ (cs:=#[.int .i64 t200,.float .f64 t201,.float .f64 0,.float .f64 0,.float .f64 0,.float .f64 0,.float .f64 0]) ?_ 2 _;refine bp_ (cs:=#[.int .i64 t200,.float .f64 0,.float .f64 0,.float .f64 0,.float .f64 0,.float .f64 0,.float .f64 0]) ?_ 1 _;refine bp_ (cs:=#[.int .i64 0,.float .f64 0,.float .f64 0,.float .f64 0,.float .f64 0,.float .f64 0,.float .f64 0]) ?_ 0 _;(with_reducible repeat (first|refine blk_drewN ?_ _|refine blk_drew ?_|refine blk_alloc ?_ _));exact BK208.out⟩
                        have n6_ : Aside0 (Below w.heap.size w (((((((w103.setCell ⟨gb208,0,none⟩ (.int .i64 t200)).setCell ⟨gb208,1,none⟩ (.float .f64 t201)).setCell ⟨gb208,2,none⟩ (.float .f64 t202)).setCell ⟨gb208,3,none⟩ (.float .f64 t203)).setCell ⟨gb208,4,none⟩ (.float .f64 t204)).setCell ⟨gb208,5,none⟩ (.float .f64 t205)).setCell ⟨gb208,6,none⟩ (.float .f64 t206))):=⟨(hb_ HB)⟩
                        (try clear HO_7)
                        (try clear BK149)
                        (try clear BK164)
                        (try clear BK182)
                        (try clear BK199)
                        (try clear BK208)
                        (try clear HB)
                        generalize (((((((w103.setCell ⟨gb208,0,none⟩ (.int .i64 t200)).setCell ⟨gb208,1,none⟩ (.float .f64 t201)).setCell ⟨gb208,2,none⟩ (.float .f64 t202)).setCell ⟨gb208,3,none⟩ (.float .f64 t203)).setCell ⟨gb208,4,none⟩ (.float .f64 t204)).setCell ⟨gb208,5,none⟩ (.float .f64 t205)).setCell ⟨gb208,6,none⟩ (.float .f64 t206)) = w122 at n0_ n1_ n2_ n3_ n4_ n5_ n6_ ⊢
                        have HO_7:=n0_;have BK149:=n1_;have BK164:=n2_;have BK182:=n3_;have BK199:=n4_;have BK208:=n5_;have HB:=n6_;clear n0_ n1_ n2_ n3_ n4_ n5_ n6_;have n0_:=Aside0.mk (Kd.R_drew HO_7.out);have n1_:=Aside0.mk (blk_drew BK149.out);have n2_:=Aside0.mk (blk_drew BK164.out);have n3_:=Aside0.mk (blk_drew BK182.out);have n4_:=Aside0.mk (blk_drew BK199.out);have n5_:=Aside0.mk (blk_drew BK208.out);have n6_:=Aside0.mk (below_drew1 HB.out);clear HO_7;clear BK149;clear BK164;clear BK182;clear BK199;clear BK208;clear HB;have HO_7:=n0_;have BK149:=n1_;have BK164:=n2_;have BK182:=n3_;have BK199:=n4_;have BK208:=n5_;have HB:=n6_;clear n0_ n1_ n2_ n3_ n4_ n5_ n6_;have p211 : 0 ≤ (0 : Int):=(by omega);have q211 : 0 < (y153.length : Int):=of_decide_eq_true aa_;obtain ⟨ad211,e211,hx211_0⟩:=Kd.at_f64 (Kd.R_reads' HO_7.out).2.2 0 p211 q211;cases e211;have qi211 : (0 < y153.length) = True:=eq_true (by omega)
                        (try rw [show ((0 : Int)).toNat = 0 from rfl] at hx211_0)
                        (try rw [Addr.add_zero'] at hx211_0)
                        replace p211:=eq_true p211;replace q211:=eq_true q211;refine start_ (n:=51) (S:=fun w'=>w'.cell? ⟨gb164,0,none⟩ = some (.int .i64 t156) ∧ w'.cell? ⟨gb164,1,none⟩ = some (.float .f64 t157) ∧ w'.cell? ⟨gb164,2,none⟩ = some (.float .f64 t158) ∧ w'.cell? ⟨gb164,3,none⟩ = some (.float .f64 t159) ∧ w'.cell? ⟨gb164,4,none⟩ = some (.float .f64 t160) ∧ w'.cell? ⟨gb164,5,none⟩ = some (.float .f64 t161) ∧ w'.cell? ⟨gb164,6,none⟩ = some (.float .f64 t162) ∧ w'.cell? ⟨gb199,0,none⟩ = some (.int .i64 t191) ∧ w'.cell? ⟨gb199,1,none⟩ = some (.float .f64 t192) ∧ w'.cell? ⟨gb199,2,none⟩ = some (.float .f64 t193) ∧ w'.cell? ⟨gb199,3,none⟩ = some (.float .f64 t194) ∧ w'.cell? ⟨gb199,4,none⟩ = some (.float .f64 t195) ∧ w'.cell? ⟨gb199,5,none⟩ = some (.float .f64 t196) ∧ w'.cell? ⟨gb199,6,none⟩ = some (.float .f64 t197) ∧ w'.cell? ⟨gb208,0,none⟩ = some (.int .i64 t200) ∧ w'.cell? ⟨gb208,1,none⟩ = some (.float .f64 t201) ∧ w'.cell? ⟨gb208,2,none⟩ = some (.float .f64 t202) ∧ w'.cell? ⟨gb208,3,none⟩ = some (.float .f64 t203) ∧ w'.cell? ⟨gb208,4,none⟩ = some (.float .f64 t204) ∧ w'.cell? ⟨gb208,5,none⟩ = some (.float .f64 t205) ∧ w'.cell? ⟨gb208,6,none⟩ = some (.float .f64 t206) ∧ w'.cell? ad211 = some (.float .f64 (rdOf (0 : Nat) y153 0))) (ds:=[]) #[false,false,false,false,false,false,false,false,false,false,false,false,false,false,false,false,false,false,false,false,false,false,false,false,false,false,false,false,false,false,false,false,false,false,false,false,false,false,false,false,false,false,false,false,false,false,false,false,false,false,false] (by kernel_rfl) rfl rfl ⟨(blk_cell BK164.out 0).trans rfl,(blk_cell BK164.out 1).trans rfl,(blk_cell BK164.out 2).trans rfl,(blk_cell BK164.out 3).trans rfl,(blk_cell BK164.out 4).trans rfl,(blk_cell BK164.out 5).trans rfl,(blk_cell BK164.out 6).trans rfl,(blk_cell BK199.out 0).trans rfl,(blk_cell BK199.out 1).trans rfl,(blk_cell BK199.out 2).trans rfl,(blk_cell BK199.out 3).trans rfl,(blk_cell BK199.out 4).trans rfl,(blk_cell BK199.out 5).trans rfl,(blk_cell BK199.out 6).trans rfl,(blk_cell BK208.out 0).trans rfl,(blk_cell BK208.out 1).trans rfl,(blk_cell BK208.out 2).trans rfl,(blk_cell BK208.out 3).trans rfl,(blk_cell BK208.out 4).trans rfl,(blk_cell BK208.out 5).trans rfl,(blk_cell BK208.out 6).trans rfl,hx211_0⟩ (fun hHeld=>?_);refine with_tabW quarrylaw31_TallySteps.tab35 quarrylaw31_TallySteps.bits35 (fun HT_ HW_=>?_)
                        generalize w122.drew = w123 at HO_7 BK149 BK164 BK182 BK199 BK208 HB hx211_0 hHeld ⊢
                        refine pure_ (i:=0) (N:=some 173) (v:=?_) (a':=?_) #[true,false,false,false,false,false,false,false,false,false,false,false,false,false,false,false,false,false,false,false,false,false,false,false,false,false,false,false,false,false,false,false,false,false,false,false,false,false,false,false,false,false,false,false,false,false,false,false,false,false,false] rfl rfl (any_of HT_.out (by kernel_rfl)) (fun _ _ _ h=>h) (Or.inl ⟨by rfl,?_⟩) ?_ ?_;rotate_left
                        ·intro w';go_simp;with_reducible rfl
                        rotate_left
                        ·simp only [Act.put,List.setIfInBounds_toArray,List.set_cons_zero,List.set_cons_succ,i64_w,i32_w];rfl
                        refine pure_ (i:=1) (N:=some 174) (v:=?_) (a':=?_) #[true,true,false,false,false,false,false,false,false,false,false,false,false,false,false,false,false,false,false,false,false,false,false,false,false,false,false,false,false,false,false,false,false,false,false,false,false,false,false,false,false,false,false,false,false,false,false,false,false,false,false] rfl rfl (any_of HT_.out (by kernel_rfl)) (fun _ _ _ h=>h) (Or.inl ⟨by rfl,?_⟩) ?_ ?_;rotate_left
                        ·intro w';go_simp;with_reducible rfl
                        rotate_left
                        ·simp only [Act.put,List.setIfInBounds_toArray,List.set_cons_zero,List.set_cons_succ,i64_w,i32_w];rfl
                        refine pure_ (i:=2) (N:=some 175) (v:=?_) (a':=?_) #[true,true,true,false,false,false,false,false,false,false,false,false,false,false,false,false,false,false,false,false,false,false,false,false,false,false,false,false,false,false,false,false,false,false,false,false,false,false,false,false,false,false,false,false,false,false,false,false,false,false,false] rfl rfl (any_of HT_.out (by kernel_rfl)) (fun _ _ _ h=>h) (Or.inl ⟨by rfl,?_⟩) ?_ ?_;rotate_left
                        ·intro w';go_simp;with_reducible rfl
                        rotate_left
                        ·simp only [Act.put,List.setIfInBounds_toArray,List.set_cons_zero,List.set_cons_succ,i64_w,i32_w];rfl
                        refine pure_ (i:=3) (N:=some 176) (v:=?_) (a':=?_) #[true,true,true,true,false,false,false,false,false,false,false,false,false,false,false,false,false,false,false,false,false,false,false,false,false,false,false,false,false,false,false,false,false,false,false,false,false,false,false,false,false,false,false,false,false,false,false,false,false,false,false] rfl rfl (any_of HT_.out (by kernel_rfl)) (fun _ _ _ h=>h) (Or.inl ⟨by rfl,?_⟩) ?_ ?_;rotate_left
                        ·intro w';go_simp;with_reducible rfl
                        rotate_left
                        ·simp only [Act.put,List.setIfInBounds_toArray,List.set_cons_zero,List.set_cons_succ,i64_w,i32_w];rfl
                        refine pure_ (i:=4) (N:=some 177) (v:=?_) (a':=?_) #[true,true,true,true,true,false,false,false,false,false,false,false,false,false,false,false,false,false,false,false,false,false,false,false,false,false,false,false,false,false,false,false,false,false,false,false,false,false,false,false,false,false,false,false,false,false,false,false,false,false,false] rfl rfl (any_of HT_.out (by kernel_rfl)) (fun _ _ _ h=>h) (Or.inl ⟨by rfl,?_⟩) ?_ ?_;rotate_left
                        ·intro w';go_simp;with_reducible rfl
                        rotate_left
                        ·simp only [Act.put,List.setIfInBounds_toArray,List.set_cons_zero,List.set_cons_succ,i64_w,i32_w];rfl
                        refine pure_ (i:=5) (N:=some 178) (v:=?_) (a':=?_) #[true,true,true,true,true,true,false,false,false,false,false,false,false,false,false,false,false,false,false,false,false,false,false,false,false,false,false,false,false,false,false,false,false,false,false,false,false,false,false,false,false,false,false,false,false,false,false,false,false,false,false] rfl rfl (any_of HT_.out (by kernel_rfl)) (fun _ _ _ h=>h) (Or.inl ⟨by rfl,?_⟩) ?_ ?_;rotate_left
                        ·intro w';go_simp;with_reducible rfl
                        rotate_left
                        ·simp only [Act.put,List.setIfInBounds_toArray,List.set_cons_zero,List.set_cons_succ,i64_w,i32_w];rfl
                        refine pure_ (i:=7) (N:=some 180) (v:=?_) (a':=?_) #[true,true,true,true,true,true,false,true,false,false,false,false,false,false,false,false,false,false,false,false,false,false,false,false,false,false,false,false,false,false,false,false,false,false,false,false,false,false,false,false,false,false,false,false,false,false,false,false,false,false,false] rfl rfl (any_of HT_.out (by kernel_rfl)) (fun _ _ _ h=>h) (Or.inl ⟨by rfl,?_⟩) ?_ ?_;rotate_left
                        ·intro w';go_simp;with_reducible rfl
                        rotate_left
                        ·simp only [Act.put,List.setIfInBounds_toArray,List.set_cons_zero,List.set_cons_succ,i64_w,i32_w];rfl
                        refine pure_ (i:=8) (N:=some 181) (v:=?_) (a':=?_) #[true,true,true,true,true,true,false,true,true,false,false,false,false,false,false,false,false,false,false,false,false,false,false,false,false,false,false,false,false,false,false,false,false,false,false,false,false,false,false,false,false,false,false,false,false,false,false,false,false,false,false] rfl rfl (any_of HT_.out (by kernel_rfl)) (fun _ _ _ h=>h) (Or.inl ⟨by rfl,?_⟩) ?_ ?_;rotate_left
                        ·intro w';go_simp;with_reducible rfl
                        rotate_left
                        ·simp only [Act.put,List.setIfInBounds_toArray,List.set_cons_zero,List.set_cons_succ,i64_w,i32_w];rfl
                        refine take_ (i:=6) (N:=some 179) (v:=?_) (a':=?_) #[true,true,true,true,true,true,true,true,true,false,false,false,false,false,false,false,false,false,false,false,false,false,false,false,false,false,false,false,false,false,false,false,false,false,false,false,false,false,false,false,false,false,false,false,false,false,false,false,false,false,false] rfl rfl (take_ofW HT_.out HW_.out (by kernel_rfl)) (fun _ _ _ h=>h) (Or.inl ⟨by rfl,?_⟩) hHeld ?_ ?_;rotate_left
                        ·rintro w' ⟨s0,s1,s2,s3,s4,s5,s6,s7,s8,s9,s10,s11,s12,s13,s14,s15,s16,s17,s18,s19,s20,s21⟩;go_simp;with_reducible rfl
                        rotate_left
                        ·simp only [Act.put,List.setIfInBounds_toArray,List.set_cons_zero,List.set_cons_succ,i64_w,i32_w];rfl
                        refine pure_ (i:=9) (N:=some 182) (v:=?_) (a':=?_) #[true,true,true,true,true,true,true,true,true,true,false,false,false,false,false,false,false,false,false,false,false,false,false,false,false,false,false,false,false,false,false,false,false,false,false,false,false,false,false,false,false,false,false,false,false,false,false,false,false,false,false] rfl rfl (any_of HT_.out (by kernel_rfl)) (fun _ _ _ h=>h) (Or.inl ⟨by rfl,?_⟩) ?_ ?_;rotate_left
                        ·intro w';go_simp;with_reducible rfl
                        rotate_left
                        ·simp only [Act.put,List.setIfInBounds_toArray,List.set_cons_zero,List.set_cons_succ,i64_w,i32_w];rfl
                        refine pure_ (i:=10) (N:=some 183) (v:=?_) (a':=?_) #[true,true,true,true,true,true,true,true,true,true,true,false,false,false,false,false,false,false,false,false,false,false,false,false,false,false,false,false,false,false,false,false,false,false,false,false,false,false,false,false,false,false,false,false,false,false,false,false,false,false,false] rfl rfl (any_of HT_.out (by kernel_rfl)) (fun _ _ _ h=>h) (Or.inl ⟨by rfl,?_⟩) ?_ ?_;rotate_left
                        ·intro w';go_simp;with_reducible rfl
                        rotate_left
                        ·simp only [Act.put,List.setIfInBounds_toArray,List.set_cons_zero,List.set_cons_succ,i64_w,i32_w];rfl
                        refine pure_ (i:=11) (N:=some 184) (v:=?_) (a':=?_) #[true,true,true,true,true,true,true,true,true,true,true,true,false,false,false,false,false,false,false,false,false,false,false,false,false,false,false,false,false,false,false,false,false,false,false,false,false,false,false,false,false,false,false,false,false,false,false,false,false,false,false] rfl rfl (any_of HT_.out (by kernel_rfl)) (fun _ _ _ h=>h) (Or.inl ⟨by rfl,?_⟩) ?_ ?_;rotate_left
                        ·intro w';go_simp;with_reducible rfl
                        rotate_left
                        ·simp only [Act.put,List.setIfInBounds_toArray,List.set_cons_zero,List.set_cons_succ,i64_w,i32_w];rfl
                        refine pure_ (i:=12) (N:=some 185) (v:=?_) (a':=?_) #[true,true,true,true,true,true,true,true,true,true,true,true,true,false,false,false,false,false,false,false,false,false,false,false,false,false,false,false,false,false,false,false,false,false,false,false,false,false,false,false,false,false,false,false,false,false,false,false,false,false,false] rfl rfl (any_of HT_.out (by kernel_rfl)) (fun _ _ _ h=>h) (Or.inl ⟨by rfl,?_⟩) ?_ ?_;rotate_left
                        ·intro w';go_simp;with_reducible rfl
                        rotate_left
                        ·simp only [Act.put,List.setIfInBounds_toArray,List.set_cons_zero,List.set_cons_succ,i64_w,i32_w];rfl
                        refine pure_ (i:=13) (N:=some 186) (v:=?_) (a':=?_) #[true,true,true,true,true,true,true,true,true,true,true,true,true,true,false,false,false,false,false,false,false,false,false,false,false,false,false,false,false,false,false,false,false,false,false,false,false,false,false,false,false,false,false,false,false,false,false,false,false,false,false] rfl rfl (any_of HT_.out (by kernel_rfl)) (fun _ _ _ h=>h) (Or.inl ⟨by rfl,?_⟩) ?_ ?_;rotate_left
                        ·intro w';go_simp;with_reducible rfl
                        rotate_left
                        ·simp only [Act.put,List.setIfInBounds_toArray,List.set_cons_zero,List.set_cons_succ,i64_w,i32_w];rfl
                        refine pure_ (i:=14) (N:=some 187) (v:=?_) (a':=?_) #[true,true,true,true,true,true,true,true,true,true,true,true,true,true,true,false,false,false,false,false,false,false,false,false,false,false,false,false,false,false,false,false,false,false,false,false,false,false,false,false,false,false,false,false,false,false,false,false,false,false,false] rfl rfl (any_of HT_.out (by kernel_rfl)) (fun _ _ _ h=>h) (Or.inl ⟨by rfl,?_⟩) ?_ ?_;rotate_left
                        ·intro w';go_simp;with_reducible rfl
                        rotate_left
                        ·simp only [Act.put,List.setIfInBounds_toArray,List.set_cons_zero,List.set_cons_succ,i64_w,i32_w];rfl
                        refine pure_ (i:=15) (N:=some 188) (v:=?_) (a':=?_) #[true,true,true,true,true,true,true,true,true,true,true,true,true,true,true,true,false,false,false,false,false,false,false,false,false,false,false,false,false,false,false,false,false,false,false,false,false,false,false,false,false,false,false,false,false,false,false,false,false,false,false] rfl rfl (any_of HT_.out (by kernel_rfl)) (fun _ _ _ h=>h) (Or.inl ⟨by rfl,?_⟩) ?_ ?_;rotate_left
                        ·intro w';go_simp;with_reducible rfl
                        rotate_left
                        ·simp only [Act.put,List.setIfInBounds_toArray,List.set_cons_zero,List.set_cons_succ,i64_w,i32_w];rfl
                        refine pure_ (i:=16) (N:=some 189) (v:=?_) (a':=?_) #[true,true,true,true,true,true,true,true,true,true,true,true,true,true,true,true,true,false,false,false,false,false,false,false,false,false,false,false,false,false,false,false,false,false,false,false,false,false,false,false,false,false,false,false,false,false,false,false,false,false,false] rfl rfl (any_of HT_.out (by kernel_rfl)) (fun _ _ _ h=>h) (Or.inl ⟨by rfl,?_⟩) ?_ ?_;rotate_left
                        ·intro w';go_simp;with_reducible rfl
                        rotate_left
                        ·simp only [Act.put,List.setIfInBounds_toArray,List.set_cons_zero,List.set_cons_succ,i64_w,i32_w];rfl
                        refine pure_ (i:=17) (N:=some 190) (v:=?_) (a':=?_) #[true,true,true,true,true,true,true,true,true,true,true,true,true,true,true,true,true,true,false,false,false,false,false,false,false,false,false,false,false,false,false,false,false,false,false,false,false,false,false,false,false,false,false,false,false,false,false,false,false,false,false] rfl rfl (any_of HT_.out (by kernel_rfl)) (fun _ _ _ h=>h) (Or.inl ⟨by rfl,?_⟩) ?_ ?_;rotate_left
                        ·intro w';go_simp;with_reducible rfl
                        rotate_left
                        ·simp only [Act.put,List.setIfInBounds_toArray,List.set_cons_zero,List.set_cons_succ,i64_w,i32_w];rfl
                        refine pure_ (i:=18) (N:=some 191) (v:=?_) (a':=?_) #[true,true,true,true,true,true,true,true,true,true,true,true,true,true,true,true,true,true,true,false,false,false,false,false,false,false,false,false,false,false,false,false,false,false,false,false,false,false,false,false,false,false,false,false,false,false,false,false,false,false,false] rfl rfl (any_of HT_.out (by kernel_rfl)) (fun _ _ _ h=>h) (Or.inl ⟨by rfl,?_⟩) ?_ ?_;rotate_left
                        ·intro w';go_simp;with_reducible rfl
                        rotate_left
                        ·simp only [Act.put,List.setIfInBounds_toArray,List.set_cons_zero,List.set_cons_succ,i64_w,i32_w];rfl
                        refine pure_ (i:=19) (N:=some 192) (v:=?_) (a':=?_) #[true,true,true,true,true,true,true,true,true,true,true,true,true,true,true,true,true,true,true,true,false,false,false,false,false,false,false,false,false,false,false,false,false,false,false,false,false,false,false,false,false,false,false,false,false,false,false,false,false,false,false] rfl rfl (any_of HT_.out (by kernel_rfl)) (fun _ _ _ h=>h) (Or.inl ⟨by rfl,?_⟩) ?_ ?_;rotate_left
                        ·intro w';go_simp;with_reducible rfl
                        rotate_left
                        ·simp only [Act.put,List.setIfInBounds_toArray,List.set_cons_zero,List.set_cons_succ,i64_w,i32_w];rfl
                        refine pure_ (i:=20) (N:=some 193) (v:=?_) (a':=?_) #[true,true,true,true,true,true,true,true,true,true,true,true,true,true,true,true,true,true,true,true,true,false,false,false,false,false,false,false,false,false,false,false,false,false,false,false,false,false,false,false,false,false,false,false,false,false,false,false,false,false,false] rfl rfl (any_of HT_.out (by kernel_rfl)) (fun _ _ _ h=>h) (Or.inl ⟨by rfl,?_⟩) ?_ ?_;rotate_left
                        ·intro w';go_simp;with_reducible rfl
                        rotate_left
                        ·simp only [Act.put,List.setIfInBounds_toArray,List.set_cons_zero,List.set_cons_succ,i64_w,i32_w];rfl
                        refine pure_ (i:=21) (N:=some 194) (v:=?_) (a':=?_) #[true,true,true,true,true,true,true,true,true,true,true,true,true,true,true,true,true,true,true,true,true,true,false,false,false,false,false,false,false,false,false,false,false,false,false,false,false,false,false,false,false,false,false,false,false,false,false,false,false,false,false] rfl rfl (any_of HT_.out (by kernel_rfl)) (fun _ _ _ h=>h) (Or.inl ⟨by rfl,?_⟩) ?_ ?_;rotate_left
                        ·intro w';go_simp;with_reducible rfl
                        rotate_left
                        ·simp only [Act.put,List.setIfInBounds_toArray,List.set_cons_zero,List.set_cons_succ,i64_w,i32_w];rfl
                        refine pure_ (i:=22) (N:=some 195) (v:=?_) (a':=?_) #[true,true,true,true,true,true,true,true,true,true,true,true,true,true,true,true,true,true,true,true,true,true,true,false,false,false,false,false,false,false,false,false,false,false,false,false,false,false,false,false,false,false,false,false,false,false,false,false,false,false,false] rfl rfl (any_of HT_.out (by kernel_rfl)) (fun _ _ _ h=>h) (Or.inl ⟨by rfl,?_⟩) ?_ ?_;rotate_left
                        ·intro w';go_simp;with_reducible rfl
                        rotate_left
                        ·simp only [Act.put,List.setIfInBounds_toArray,List.set_cons_zero,List.set_cons_succ,i64_w,i32_w];rfl
                        refine pure_ (i:=23) (N:=some 196) (v:=?_) (a':=?_) #[true,true,true,true,true,true,true,true,true,true,true,true,true,true,true,true,true,true,true,true,true,true,true,true,false,false,false,false,false,false,false,false,false,false,false,false,false,false,false,false,false,false,false,false,false,false,false,false,false,false,false] rfl rfl (any_of HT_.out (by kernel_rfl)) (fun _ _ _ h=>h) (Or.inl ⟨by rfl,?_⟩) ?_ ?_;rotate_left
                        ·intro w';go_simp;with_reducible rfl
                        rotate_left
                        ·simp only [Act.put,List.setIfInBounds_toArray,List.set_cons_zero,List.set_cons_succ,i64_w,i32_w];rfl
                        refine take_ (i:=24) (N:=some 197) (v:=?_) (a':=?_) #[true,true,true,true,true,true,true,true,true,true,true,true,true,true,true,true,true,true,true,true,true,true,true,true,true,false,false,false,false,false,false,false,false,false,false,false,false,false,false,false,false,false,false,false,false,false,false,false,false,false,false] rfl rfl (take_ofW HT_.out HW_.out (by kernel_rfl)) (fun _ _ _ h=>h) (Or.inl ⟨by rfl,?_⟩) hHeld ?_ ?_;rotate_left
                        ·rintro w' ⟨s0,s1,s2,s3,s4,s5,s6,s7,s8,s9,s10,s11,s12,s13,s14,s15,s16,s17,s18,s19,s20,s21⟩;go_simp;with_reducible rfl
                        rotate_left
                        ·simp only [Act.put,List.setIfInBounds_toArray,List.set_cons_zero,List.set_cons_succ,i64_w,i32_w];rfl
                        refine take_ (i:=25) (N:=some 198) (v:=?_) (a':=?_) #[true,true,true,true,true,true,true,true,true,true,true,true,true,true,true,true,true,true,true,true,true,true,true,true,true,true,false,false,false,false,false,false,false,false,false,false,false,false,false,false,false,false,false,false,false,false,false,false,false,false,false] rfl rfl (take_ofW HT_.out HW_.out (by kernel_rfl)) (fun _ _ _ h=>h) (Or.inl ⟨by rfl,?_⟩) hHeld ?_ ?_;rotate_left
                        ·rintro w' ⟨s0,s1,s2,s3,s4,s5,s6,s7,s8,s9,s10,s11,s12,s13,s14,s15,s16,s17,s18,s19,s20,s21⟩;go_simp;with_reducible rfl
                        rotate_left
                        ·simp only [Act.put,List.setIfInBounds_toArray,List.set_cons_zero,List.set_cons_succ,i64_w,i32_w];rfl
                        refine one_ (i:=26) (N:=some 199) #[true,true,true,true,true,true,true,true,true,true,true,true,true,true,true,true,true,true,true,true,true,true,true,true,true,true,true,false,false,false,false,false,false,false,false,false,false,false,false,false,false,false,false,false,false,false,false,false,false,false,false] rfl rfl (one_of HT_.out (by kernel_rfl)) (by decide) (fun K hK=>?_);refine goes_ Try.func15 (by kernel_rfl) rfl #[.agg #[.int .i64 t191,.float .f64 t192,.float .f64 t193,.float .f64 t194,.float .f64 t195,.float .f64 t196,.float .f64 t197],.agg #[.int .i64 t156,.float .f64 t157,.float .f64 t158,.float .f64 t159,.float .f64 t160,.float .f64 t161,.float .f64 t162]] (by rfl) rfl rfl am_ ?_
                        with_reducible refine (quarrylaw31_same.calls t191 t192 t193 t194 t195 t196 t197 t156 t157 t158 t159 t160 t161 t162 true _ A115.out).mono ?_
                        rintro e w124 ⟨rfl,hb⟩;have HS21_:=(hb.cell (World.block_lt_of_cell? _ _ (hHeld.2.2.2.2.2.2.2.2.2.2.2.2.2.2.2.2.2.2.2.2.2))).trans (hHeld.2.2.2.2.2.2.2.2.2.2.2.2.2.2.2.2.2.2.2.2.2);refine ⟨_,rfl,?_⟩;have n0_:=Aside0.mk (Kd.R_below (rk_ HO_7) hb);have n1_:=Aside0.mk (bkb_ BK149 hb);have n2_:=Aside0.mk (bkb_ BK164 hb);have n3_:=Aside0.mk (bkb_ BK182 hb);have n4_:=Aside0.mk (bkb_ BK199 hb);have n5_:=Aside0.mk (bkb_ BK208 hb);have n6_:=Aside0.mk (below_step (hb_ HB) hb);clear HO_7;clear BK149;clear BK164;clear BK182;clear BK199;clear BK208;clear HB;have HO_7:=n0_;have BK149:=n1_;have BK164:=n2_;have BK182:=n3_;have BK199:=n4_;have BK208:=n5_;have HB:=n6_;clear n0_ n1_ n2_ n3_ n4_ n5_ n6_
                        (try clear hb)
                        (try clear hb2)
                        (try clear hk)
                        (try clear hi)
                        refine hK.out _ _ ⟨(blk_cell BK164.out 0).trans rfl,(blk_cell BK164.out 1).trans rfl,(blk_cell BK164.out 2).trans rfl,(blk_cell BK164.out 3).trans rfl,(blk_cell BK164.out 4).trans rfl,(blk_cell BK164.out 5).trans rfl,(blk_cell BK164.out 6).trans rfl,(blk_cell BK199.out 0).trans rfl,(blk_cell BK199.out 1).trans rfl,(blk_cell BK199.out 2).trans rfl,(blk_cell BK199.out 3).trans rfl,(blk_cell BK199.out 4).trans rfl,(blk_cell BK199.out 5).trans rfl,(blk_cell BK199.out 6).trans rfl,(blk_cell BK208.out 0).trans rfl,(blk_cell BK208.out 1).trans rfl,(blk_cell BK208.out 2).trans rfl,(blk_cell BK208.out 3).trans rfl,(blk_cell BK208.out 4).trans rfl,(blk_cell BK208.out 5).trans rfl,(blk_cell BK208.out 6).trans rfl,HS21_⟩ (fun hHeld=>?_);clear hK K;refine norm_ (a':=?_) ?_ ?_;rotate_left
                        ·show Act.put _ (some 199) _ = _
                         simp only [Act.put,List.setIfInBounds_toArray,List.set_cons_zero,List.set_cons_succ,i64_w,i32_w];rfl
                        refine pure_ (i:=27) (N:=some 200) (v:=?_) (a':=?_) #[true,true,true,true,true,true,true,true,true,true,true,true,true,true,true,true,true,true,true,true,true,true,true,true,true,true,true,true,false,false,false,false,false,false,false,false,false,false,false,false,false,false,false,false,false,false,false,false,false,false,false] rfl rfl (any_of HT_.out (by kernel_rfl)) (fun _ _ _ h=>h) (Or.inl ⟨by rfl,?_⟩) ?_ ?_;rotate_left
                        ·intro w';go_simp;with_reducible rfl
                        rotate_left
                        ·simp only [Act.put,List.setIfInBounds_toArray,List.set_cons_zero,List.set_cons_succ,i64_w,i32_w];rfl
                        refine pure_ (i:=28) (N:=some 201) (v:=?_) (a':=?_) #[true,true,true,true,true,true,true,true,true,true,true,true,true,true,true,true,true,true,true,true,true,true,true,true,true,true,true,true,true,false,false,false,false,false,false,false,false,false,false,false,false,false,false,false,false,false,false,false,false,false,false] rfl rfl (any_of HT_.out (by kernel_rfl)) (fun _ _ _ h=>h) (Or.inl ⟨by rfl,?_⟩) ?_ ?_;rotate_left
                        ·intro w';go_simp;with_reducible rfl
                        rotate_left
                        ·simp only [Act.put,List.setIfInBounds_toArray,List.set_cons_zero,List.set_cons_succ,i64_w,i32_w];rfl
                        refine take_ (i:=29) (N:=some 202) (v:=?_) (a':=?_) #[true,true,true,true,true,true,true,true,true,true,true,true,true,true,true,true,true,true,true,true,true,true,true,true,true,true,true,true,true,true,false,false,false,false,false,false,false,false,false,false,false,false,false,false,false,false,false,false,false,false,false] rfl rfl (take_ofW HT_.out HW_.out (by kernel_rfl)) (fun _ _ _ h=>h) (Or.inl ⟨by rfl,?_⟩) hHeld ?_ ?_;rotate_left
                        ·rintro w' ⟨s0,s1,s2,s3,s4,s5,s6,s7,s8,s9,s10,s11,s12,s13,s14,s15,s16,s17,s18,s19,s20,s21⟩;go_simp;with_reducible rfl
                        rotate_left
                        ·simp only [Act.put,List.setIfInBounds_toArray,List.set_cons_zero,List.set_cons_succ,i64_w,i32_w];rfl
                        refine take_ (i:=30) (N:=some 203) (v:=?_) (a':=?_) #[true,true,true,true,true,true,true,true,true,true,true,true,true,true,true,true,true,true,true,true,true,true,true,true,true,true,true,true,true,true,true,false,false,false,false,false,false,false,false,false,false,false,false,false,false,false,false,false,false,false,false] rfl rfl (take_ofW HT_.out HW_.out (by kernel_rfl)) (fun _ _ _ h=>h) (Or.inl ⟨by rfl,?_⟩) hHeld ?_ ?_;rotate_left
                        ·rintro w' ⟨s0,s1,s2,s3,s4,s5,s6,s7,s8,s9,s10,s11,s12,s13,s14,s15,s16,s17,s18,s19,s20,s21⟩;go_simp;with_reducible rfl
                        rotate_left
                        ·simp only [Act.put,List.setIfInBounds_toArray,List.set_cons_zero,List.set_cons_succ,i64_w,i32_w];rfl
                        refine one_ (i:=31) (N:=some 204) #[true,true,true,true,true,true,true,true,true,true,true,true,true,true,true,true,true,true,true,true,true,true,true,true,true,true,true,true,true,true,true,true,false,false,false,false,false,false,false,false,false,false,false,false,false,false,false,false,false,false,false] rfl rfl (one_of HT_.out (by kernel_rfl)) (by decide) (fun K hK=>?_);refine goes_ Try.func15 (by kernel_rfl) rfl #[.agg #[.int .i64 t200,.float .f64 t201,.float .f64 t202,.float .f64 t203,.float .f64 t204,.float .f64 t205,.float .f64 t206],.agg #[.int .i64 t156,.float .f64 t157,.float .f64 t158,.float .f64 t159,.float .f64 t160,.float .f64 t161,.float .f64 t162]] (by rfl) rfl rfl am_ ?_
                        with_reducible refine (quarrylaw31_same.calls t200 t201 t202 t203 t204 t205 t206 t156 t157 t158 t159 t160 t161 t162 true _ A117.out).mono ?_
                        rintro e w125 ⟨rfl,hb⟩;have HS21_:=(hb.cell (World.block_lt_of_cell? _ _ (hHeld.2.2.2.2.2.2.2.2.2.2.2.2.2.2.2.2.2.2.2.2.2))).trans (hHeld.2.2.2.2.2.2.2.2.2.2.2.2.2.2.2.2.2.2.2.2.2);refine ⟨_,rfl,?_⟩;have n0_:=Aside0.mk (Kd.R_below (rk_ HO_7) hb);have n1_:=Aside0.mk (bkb_ BK149 hb);have n2_:=Aside0.mk (bkb_ BK164 hb);have n3_:=Aside0.mk (bkb_ BK182 hb);have n4_:=Aside0.mk (bkb_ BK199 hb);have n5_:=Aside0.mk (bkb_ BK208 hb);have n6_:=Aside0.mk (below_step (hb_ HB) hb);clear HO_7;clear BK149;clear BK164;clear BK182;clear BK199;clear BK208;clear HB;have HO_7:=n0_;have BK149:=n1_;have BK164:=n2_;have BK182:=n3_;have BK199:=n4_;have BK208:=n5_;have HB:=n6_;clear n0_ n1_ n2_ n3_ n4_ n5_ n6_
                        (try clear hb)
                        (try clear hb2)
                        (try clear hk)
                        (try clear hi)
                        refine hK.out _ _ ⟨(blk_cell BK164.out 0).trans rfl,(blk_cell BK164.out 1).trans rfl,(blk_cell BK164.out 2).trans rfl,(blk_cell BK164.out 3).trans rfl,(blk_cell BK164.out 4).trans rfl,(blk_cell BK164.out 5).trans rfl,(blk_cell BK164.out 6).trans rfl,(blk_cell BK199.out 0).trans rfl,(blk_cell BK199.out 1).trans rfl,(blk_cell BK199.out 2).trans rfl,(blk_cell BK199.out 3).trans rfl,(blk_cell BK199.out 4).trans rfl,(blk_cell BK199.out 5).trans rfl,(blk_cell BK199.out 6).trans rfl,(blk_cell BK208.out 0).trans rfl,(blk_cell BK208.out 1).trans rfl,(blk_cell BK208.out 2).trans rfl,(blk_cell BK208.out 3).trans rfl,(blk_cell BK208.out 4).trans rfl,(blk_cell BK208.out 5).trans rfl,(blk_cell BK208.out 6).trans rfl,HS21_⟩ (fun hHeld=>?_);clear hK K;refine norm_ (a':=?_) ?_ ?_;rotate_left
                        ·show Act.put _ (some 204) _ = _
                         simp only [Act.put,List.setIfInBounds_toArray,List.set_cons_zero,List.set_cons_succ,i64_w,i32_w];rfl
                        refine pure_ (i:=32) (N:=some 205) (v:=?_) (a':=?_) #[true,true,true,true,true,true,true,true,true,true,true,true,true,true,true,true,true,true,true,true,true,true,true,true,true,true,true,true,true,true,true,true,true,false,false,false,false,false,false,false,false,false,false,false,false,false,false,false,false,false,false] rfl rfl (any_of HT_.out (by kernel_rfl)) (fun _ _ _ h=>h) (Or.inl ⟨by rfl,?_⟩) ?_ ?_;rotate_left
                        ·intro w';go_simp;with_reducible rfl
                        rotate_left
                        ·simp only [Act.put,List.setIfInBounds_toArray,List.set_cons_zero,List.set_cons_succ,i64_w,i32_w];rfl
                        refine pure_ (i:=33) (N:=some 206) (v:=?_) (a':=?_) #[true,true,true,true,true,true,true,true,true,true,true,true,true,true,true,true,true,true,true,true,true,true,true,true,true,true,true,true,true,true,true,true,true,true,false,false,false,false,false,false,false,false,false,false,false,false,false,false,false,false,false] rfl rfl (any_of HT_.out (by kernel_rfl)) (fun _ _ _ h=>h) (Or.inl ⟨by rfl,?_⟩) ?_ ?_;rotate_left
                        ·intro w';go_simp;with_reducible rfl
                        rotate_left
                        ·simp only [Act.put,List.setIfInBounds_toArray,List.set_cons_zero,List.set_cons_succ,i64_w,i32_w];rfl
                        refine pure_ (i:=34) (N:=some 207) (v:=?_) (a':=?_) #[true,true,true,true,true,true,true,true,true,true,true,true,true,true,true,true,true,true,true,true,true,true,true,true,true,true,true,true,true,true,true,true,true,true,true,false,false,false,false,false,false,false,false,false,false,false,false,false,false,false,false] rfl rfl (any_of HT_.out (by kernel_rfl)) (fun _ _ _ h=>h) (Or.inl ⟨by rfl,?_⟩) ?_ ?_;rotate_left
                        ·intro w';go_simp;with_reducible rfl
                        rotate_left
                        ·simp only [Act.put,List.setIfInBounds_toArray,List.set_cons_zero,List.set_cons_succ,i64_w,i32_w];rfl
                        refine pure_ (i:=35) (N:=some 208) (v:=?_) (a':=?_) #[true,true,true,true,true,true,true,true,true,true,true,true,true,true,true,true,true,true,true,true,true,true,true,true,true,true,true,true,true,true,true,true,true,true,true,true,false,false,false,false,false,false,false,false,false,false,false,false,false,false,false] rfl rfl (any_of HT_.out (by kernel_rfl)) (fun _ _ _ h=>h) (Or.inl ⟨by rfl,?_⟩) ?_ ?_;rotate_left
                        ·intro w';go_simp;with_reducible rfl
                        rotate_left
                        ·simp only [Act.put,List.setIfInBounds_toArray,List.set_cons_zero,List.set_cons_succ,i64_w,i32_w];rfl
                        refine pure_ (i:=36) (N:=some 209) (v:=?_) (a':=?_) #[true,true,true,true,true,true,true,true,true,true,true,true,true,true,true,true,true,true,true,true,true,true,true,true,true,true,true,true,true,true,true,true,true,true,true,true,true,false,false,false,false,false,false,false,false,false,false,false,false,false,false] rfl rfl (any_of HT_.out (by kernel_rfl)) (fun _ _ _ h=>h) (Or.inl ⟨by rfl,?_⟩) ?_ ?_;rotate_left
                        ·intro w';go_simp;with_reducible rfl
                        rotate_left
                        ·simp only [Act.put,List.setIfInBounds_toArray,List.set_cons_zero,List.set_cons_succ,i64_w,i32_w];rfl
                        refine pure_ (i:=37) (N:=some 210) (v:=?_) (a':=?_) #[true,true,true,true,true,true,true,true,true,true,true,true,true,true,true,true,true,true,true,true,true,true,true,true,true,true,true,true,true,true,true,true,true,true,true,true,true,true,false,false,false,false,false,false,false,false,false,false,false,false,false] rfl rfl (any_of HT_.out (by kernel_rfl)) (fun _ _ _ h=>h) (Or.inl ⟨by rfl,?_⟩) ?_ ?_;rotate_left
                        ·intro w';go_simp;with_reducible rfl
                        rotate_left
                        ·simp only [Act.put,List.setIfInBounds_toArray,List.set_cons_zero,List.set_cons_succ,i64_w,i32_w];rfl
                        refine take_ (i:=38) (N:=some 211) (v:=?_) (a':=?_) #[true,true,true,true,true,true,true,true,true,true,true,true,true,true,true,true,true,true,true,true,true,true,true,true,true,true,true,true,true,true,true,true,true,true,true,true,true,true,true,false,false,false,false,false,false,false,false,false,false,false,false] rfl rfl (take_ofW HT_.out HW_.out (by kernel_rfl)) (fun _ _ _ h=>h) (Or.inl ⟨by rfl,?_⟩) hHeld ?_ ?_;rotate_left
                        ·rintro w' ⟨s0,s1,s2,s3,s4,s5,s6,s7,s8,s9,s10,s11,s12,s13,s14,s15,s16,s17,s18,s19,s20,s21⟩;go_simp;with_reducible rfl
                        rotate_left
                        ·simp only [Act.put,List.setIfInBounds_toArray,List.set_cons_zero,List.set_cons_succ,i64_w,i32_w];rfl
                        refine pure_ (i:=39) (N:=some 212) (v:=?_) (a':=?_) #[true,true,true,true,true,true,true,true,true,true,true,true,true,true,true,true,true,true,true,true,true,true,true,true,true,true,true,true,true,true,true,true,true,true,true,true,true,true,true,true,false,false,false,false,false,false,false,false,false,false,false] rfl rfl (any_of HT_.out (by kernel_rfl)) (fun _ _ _ h=>h) (Or.inl ⟨by rfl,?_⟩) ?_ ?_;rotate_left
                        ·intro w';go_simp;with_reducible rfl
                        rotate_left
                        ·simp only [Act.put,List.setIfInBounds_toArray,List.set_cons_zero,List.set_cons_succ,i64_w,i32_w];rfl
                        refine pure_ (i:=40) (N:=some 213) (v:=?_) (a':=?_) #[true,true,true,true,true,true,true,true,true,true,true,true,true,true,true,true,true,true,true,true,true,true,true,true,true,true,true,true,true,true,true,true,true,true,true,true,true,true,true,true,true,false,false,false,false,false,false,false,false,false,false] rfl rfl (any_of HT_.out (by kernel_rfl)) (fun _ _ _ h=>h) (Or.inl ⟨by rfl,?_⟩) ?_ ?_;rotate_left
                        ·intro w';go_simp;with_reducible rfl
                        rotate_left
                        ·simp only [Act.put,List.setIfInBounds_toArray,List.set_cons_zero,List.set_cons_succ,i64_w,i32_w];rfl
                        refine pure_ (i:=41) (N:=some 214) (v:=?_) (a':=?_) #[true,true,true,true,true,true,true,true,true,true,true,true,true,true,true,true,true,true,true,true,true,true,true,true,true,true,true,true,true,true,true,true,true,true,true,true,true,true,true,true,true,true,false,false,false,false,false,false,false,false,false] rfl rfl (any_of HT_.out (by kernel_rfl)) (fun _ _ _ h=>h) (Or.inl ⟨by rfl,?_⟩) ?_ ?_;rotate_left
                        ·intro w';go_simp;with_reducible rfl
                        rotate_left
                        ·simp only [Act.put,List.setIfInBounds_toArray,List.set_cons_zero,List.set_cons_succ,i64_w,i32_w];rfl
                        refine pure_ (i:=43) (N:=some 216) (v:=?_) (a':=?_) #[true,true,true,true,true,true,true,true,true,true,true,true,true,true,true,true,true,true,true,true,true,true,true,true,true,true,true,true,true,true,true,true,true,true,true,true,true,true,true,true,true,true,false,true,false,false,false,false,false,false,false] rfl rfl (any_of HT_.out (by kernel_rfl)) (fun _ _ _ h=>h) (Or.inl ⟨by rfl,?_⟩) ?_ ?_;rotate_left
                        ·intro w';go_simp;with_reducible rfl
                        rotate_left
                        ·simp only [Act.put,List.setIfInBounds_toArray,List.set_cons_zero,List.set_cons_succ,i64_w,i32_w];rfl
                        refine pure_ (i:=44) (N:=some 217) (v:=?_) (a':=?_) #[true,true,true,true,true,true,true,true,true,true,true,true,true,true,true,true,true,true,true,true,true,true,true,true,true,true,true,true,true,true,true,true,true,true,true,true,true,true,true,true,true,true,false,true,true,false,false,false,false,false,false] rfl rfl (any_of HT_.out (by kernel_rfl)) (fun _ _ _ h=>h) (Or.inl ⟨by rfl,?_⟩) ?_ ?_;rotate_left
                        ·intro w';go_simp;with_reducible rfl
                        rotate_left
                        ·simp only [Act.put,List.setIfInBounds_toArray,List.set_cons_zero,List.set_cons_succ,i64_w,i32_w];rfl
                        refine take_ (i:=42) (N:=some 215) (v:=?_) (a':=?_) #[true,true,true,true,true,true,true,true,true,true,true,true,true,true,true,true,true,true,true,true,true,true,true,true,true,true,true,true,true,true,true,true,true,true,true,true,true,true,true,true,true,true,true,true,true,false,false,false,false,false,false] rfl rfl (take_ofW HT_.out HW_.out (by kernel_rfl)) (fun _ _ _ h=>h) (Or.inl ⟨by rfl,?_⟩) hHeld ?_ ?_;rotate_left
                        ·rintro w' ⟨s0,s1,s2,s3,s4,s5,s6,s7,s8,s9,s10,s11,s12,s13,s14,s15,s16,s17,s18,s19,s20,s21⟩;go_simp;with_reducible rfl
                        rotate_left
                        ·simp only [Act.put,List.setIfInBounds_toArray,List.set_cons_zero,List.set_cons_succ,i64_w,i32_w];rfl
                        refine take_ (i:=45) (N:=some 218) (v:=?_) (a':=?_) #[true,true,true,true,true,true,true,true,true,true,true,true,true,true,true,true,true,true,true,true,true,true,true,true,true,true,true,true,true,true,true,true,true,true,true,true,true,true,true,true,true,true,true,true,true,true,false,false,false,false,false] rfl rfl (take_ofW HT_.out HW_.out (by kernel_rfl)) (fun _ _ _ h=>h) (Or.inl ⟨by rfl,?_⟩) hHeld ?_ ?_;rotate_left
                        ·rintro w' ⟨s0,s1,s2,s3,s4,s5,s6,s7,s8,s9,s10,s11,s12,s13,s14,s15,s16,s17,s18,s19,s20,s21⟩;go_simp;with_reducible rfl
                        rotate_left
                        ·simp only [Act.put,List.setIfInBounds_toArray,List.set_cons_zero,List.set_cons_succ,i64_w,i32_w];rfl
                        refine pure_ (i:=46) (N:=some 219) (v:=?_) (a':=?_) #[true,true,true,true,true,true,true,true,true,true,true,true,true,true,true,true,true,true,true,true,true,true,true,true,true,true,true,true,true,true,true,true,true,true,true,true,true,true,true,true,true,true,true,true,true,true,true,false,false,false,false] rfl rfl (any_of HT_.out (by kernel_rfl)) (fun _ _ _ h=>h) (Or.inl ⟨by rfl,?_⟩) ?_ ?_;rotate_left
                        ·intro w';go_simp;with_reducible rfl
                        rotate_left
                        ·simp only [Act.put,List.setIfInBounds_toArray,List.set_cons_zero,List.set_cons_succ,i64_w,i32_w];rfl
                        refine pure_ (i:=47) (N:=some 220) (v:=?_) (a':=?_) #[true,true,true,true,true,true,true,true,true,true,true,true,true,true,true,true,true,true,true,true,true,true,true,true,true,true,true,true,true,true,true,true,true,true,true,true,true,true,true,true,true,true,true,true,true,true,true,true,false,false,false] rfl rfl (any_of HT_.out (by kernel_rfl)) (fun _ _ _ h=>h) (Or.inl ⟨by rfl,?_⟩) ?_ ?_;rotate_left
                        ·intro w';go_simp;with_reducible rfl
                        rotate_left
                        ·simp only [Act.put,List.setIfInBounds_toArray,List.set_cons_zero,List.set_cons_succ,i64_w,i32_w];rfl
                        refine pure_ (i:=48) (N:=some 221) (v:=?_) (a':=?_) #[true,true,true,true,true,true,true,true,true,true,true,true,true,true,true,true,true,true,true,true,true,true,true,true,true,true,true,true,true,true,true,true,true,true,true,true,true,true,true,true,true,true,true,true,true,true,true,true,true,false,false] rfl rfl (any_of HT_.out (by kernel_rfl)) (fun _ _ _ h=>h) (Or.inl ⟨by rfl,?_⟩) ?_ ?_;rotate_left
                        ·intro w';go_simp;with_reducible rfl
                        rotate_left
                        ·simp only [Act.put,List.setIfInBounds_toArray,List.set_cons_zero,List.set_cons_succ,i64_w,i32_w];rfl
                        refine pure_ (i:=49) (N:=some 222) (v:=?_) (a':=?_) #[true,true,true,true,true,true,true,true,true,true,true,true,true,true,true,true,true,true,true,true,true,true,true,true,true,true,true,true,true,true,true,true,true,true,true,true,true,true,true,true,true,true,true,true,true,true,true,true,true,true,false] rfl rfl (any_of HT_.out (by kernel_rfl)) (fun _ _ _ h=>h) (Or.inl ⟨by rfl,?_⟩) ?_ ?_;rotate_left
                        ·intro w';go_simp;with_reducible rfl
                        rotate_left
                        ·simp only [Act.put,List.setIfInBounds_toArray,List.set_cons_zero,List.set_cons_succ,i64_w,i32_w];rfl
                        refine pure_ (i:=50) (N:=some 4) (v:=?_) (a':=?_) #[true,true,true,true,true,true,true,true,true,true,true,true,true,true,true,true,true,true,true,true,true,true,true,true,true,true,true,true,true,true,true,true,true,true,true,true,true,true,true,true,true,true,true,true,true,true,true,true,true,true,true] rfl rfl (any_of HT_.out (by kernel_rfl)) (fun _ _ _ h=>h) (Or.inl ⟨by rfl,?_⟩) ?_ ?_;rotate_left
                        ·intro w';go_simp;with_reducible rfl
                        rotate_left
                        ·simp only [Act.put,List.setIfInBounds_toArray,List.set_cons_zero,List.set_cons_succ,i64_w,i32_w];rfl
                        refine done_ (done_of HT_.out (by kernel_rfl)) ?_
                        try go_wp2
                        go_ret;exact ⟨er_,(hb_ HB)⟩
                      rw [if_neg c121] at H
                      exact absurd H (by simp)
                     rw [if_neg c120] at H
                     have c120b0 : (FloatKind.f64.format.order t162 0 == some .eq) = false:=by simpa using c120
                     (try (have c120b1 : decide (FloatKind.f64.format.order t162 0 = some .eq) = false:=by simpa using c120))
                     (try (have c120b2 : (FloatKind.f64.format.order t162 0 == some .eq) = false:=by simpa using c120))
                     (try (have c120b3 : ¬ (FloatKind.f64.format.order t162 0 = some .eq):=by simpa using c120))
                     clear c120;exact absurd H (by simp)
                    as_aux_lemma =>
                     replace c119:=Bool.eq_false_iff.mpr c119;subst c119
                     have H1 : (some true) = some r:=by rw [if_neg (show ¬ (false = true) by decide)] at H;exact H
                     clear H;have H:=H1;clear H1;obtain rfl:=Option.some.inj H
                     try go_wp2
                     have n0_ : Aside0 (Kd.R Kd.f64 24 (((((((w103.setCell ⟨gb208,0,none⟩ (.int .i64 t200)).setCell ⟨gb208,1,none⟩ (.float .f64 t201)).setCell ⟨gb208,2,none⟩ (.float .f64 t202)).setCell ⟨gb208,3,none⟩ (.float .f64 t203)).setCell ⟨gb208,4,none⟩ (.float .f64 t204)).setCell ⟨gb208,5,none⟩ (.float .f64 t205)).setCell ⟨gb208,6,none⟩ (.float .f64 t206)) w.heap.size (fun _=>True) (.slice Ao15 y153.length co15) y153):=⟨by (with_reducible repeat (first|apply Kd.R_alloc|apply Kd.R_drewN|apply Kd.R_drew));exact Kd.R_mono (Kd.R_far (p:=⟨gb208,6,none⟩) (Kd.R_far (p:=⟨gb208,5,none⟩) (Kd.R_far (p:=⟨gb208,4,none⟩) (Kd.R_far (p:=⟨gb208,3,none⟩) (Kd.R_far (p:=⟨gb208,2,none⟩) (Kd.R_far (p:=⟨gb208,1,none⟩) (Kd.R_far (p:=⟨gb208,0,none⟩) (Kd.R_types HO_7.out BK208.out (by decide)) (fun _ hk=>hk.2) (.int .i64 t200)) (fun _ hk=>hk.2) (.float .f64 t201)) (fun _ hk=>hk.2) (.float .f64 t202)) (fun _ hk=>hk.2) (.float .f64 t203)) (fun _ hk=>hk.2) (.float .f64 t204)) (fun _ hk=>hk.2) (.float .f64 t205)) (fun _ hk=>hk.2) (.float .f64 t206)) (fun _ hk=>trivial)⟩;have n1_ : Aside0 ((((((((w103.setCell ⟨gb208,0,none⟩ (.int .i64 t200)).setCell ⟨gb208,1,none⟩ (.float .f64 t201)).setCell ⟨gb208,2,none⟩ (.float .f64 t202)).setCell ⟨gb208,3,none⟩ (.float .f64 t203)).setCell ⟨gb208,4,none⟩ (.float .f64 t204)).setCell ⟨gb208,5,none⟩ (.float .f64 t205)).setCell ⟨gb208,6,none⟩ (.float .f64 t206)).heap[gb149]? = some (.cells #[.int .i64 t141,.float .f64 t142,.float .f64 t143,.float .f64 t144,.float .f64 t145,.float .f64 t146,.float .f64 t147] 26 (0,0))):=⟨(bf_ NB149_208 BK149)⟩
                     have n2_ : Aside0 ((((((((w103.setCell ⟨gb208,0,none⟩ (.int .i64 t200)).setCell ⟨gb208,1,none⟩ (.float .f64 t201)).setCell ⟨gb208,2,none⟩ (.float .f64 t202)).setCell ⟨gb208,3,none⟩ (.float .f64 t203)).setCell ⟨gb208,4,none⟩ (.float .f64 t204)).setCell ⟨gb208,5,none⟩ (.float .f64 t205)).setCell ⟨gb208,6,none⟩ (.float .f64 t206)).heap[gb164]? = some (.cells #[.int .i64 t156,.float .f64 t157,.float .f64 t158,.float .f64 t159,.float .f64 t160,.float .f64 t161,.float .f64 t162] 26 (0,0))):=⟨(bf_ NB164_208 BK164)⟩;have n3_ : Aside0 ((((((((w103.setCell ⟨gb208,0,none⟩ (.int .i64 t200)).setCell ⟨gb208,1,none⟩ (.float .f64 t201)).setCell ⟨gb208,2,none⟩ (.float .f64 t202)).setCell ⟨gb208,3,none⟩ (.float .f64 t203)).setCell ⟨gb208,4,none⟩ (.float .f64 t204)).setCell ⟨gb208,5,none⟩ (.float .f64 t205)).setCell ⟨gb208,6,none⟩ (.float .f64 t206)).heap[gb182]? = some (.cells #[.int .i64 t174,.float .f64 t175,.float .f64 t176,.float .f64 t177,.float .f64 t178,.float .f64 t179,.float .f64 t180] 26 (0,0))):=⟨(bf_ NB182_208 BK182)⟩;have n4_ : Aside0 ((((((((w103.setCell ⟨gb208,0,none⟩ (.int .i64 t200)).setCell ⟨gb208,1,none⟩ (.float .f64 t201)).setCell ⟨gb208,2,none⟩ (.float .f64 t202)).setCell ⟨gb208,3,none⟩ (.float .f64 t203)).setCell ⟨gb208,4,none⟩ (.float .f64 t204)).setCell ⟨gb208,5,none⟩ (.float .f64 t205)).setCell ⟨gb208,6,none⟩ (.float .f64 t206)).heap[gb199]? = some (.cells #[.int .i64 t191,.float .f64 t192,.float .f64 t193,.float .f64 t194,.float .f64 t195,.float .f64 t196,.float .f64 t197] 26 (0,0))):=⟨(bf_ NB199_208 BK199)⟩
                     have n5_ : Aside0 ((((((((w103.setCell ⟨gb208,0,none⟩ (.int .i64 t200)).setCell ⟨gb208,1,none⟩ (.float .f64 t201)).setCell ⟨gb208,2,none⟩ (.float .f64 t202)).setCell ⟨gb208,3,none⟩ (.float .f64 t203)).setCell ⟨gb208,4,none⟩ (.float .f64 t204)).setCell ⟨gb208,5,none⟩ (.float .f64 t205)).setCell ⟨gb208,6,none⟩ (.float .f64 t206)).heap[gb208]? = some (.cells #[.int .i64 t200,.float .f64 t201,.float .f64 t202,.float .f64 t203,.float .f64 t204,.float .f64 t205,.float .f64 t206] 26 (0,0))):=⟨by (with_reducible repeat (first|refine blk_drewN ?_ _|refine blk_drew ?_|refine blk_alloc ?_ _));refine bp_ (cs:=#[.int .i64 t200,.float .f64 t201,.float .f64 t202,.float .f64 t203,.float .f64 t204,.float .f64 t205,.float .f64 0]) ?_ 6 _;refine bp_ (cs:=#[.int .i64 t200,.float .f64 t201,.float .f64 t202,.float .f64 t203,.float .f64 t204,.float .f64 0,.float .f64 0]) ?_ 5 _;refine bp_ (cs:=#[.int .i64 t200,.float .f64 t201,.float .f64 t202,.float .f64 t203,.float .f64 0,.float .f64 0,.float .f64 0]) ?_ 4 _;refine bp_ (cs:=#[.int .i64 t200,.float .f64 t201,.float .f64 t202,.float .f64 0,.float .f64 0,.float .f64 0,.float .f64 0]) ?_ 3 _;refine bp_ (cs:=#[.int .i64 t200,.float .f64 t201,.float .f64 0,.float .f64 0,.float .f64 0,.float .f64 0,.float .f64 0]) ?_ 2 _;refine bp_ (cs:=#[.int .i64 t200,.float .f64 0,.float .f64 0,.float .f64 0,.float .f64 0,.float .f64 0,.float .f64 0]) ?_ 1 _;refine bp_ (cs:=#[.int .i64 0,.float .f64 0,.float .f64 0,.float .f64 0,.float .f64 0,.float .f64 0,.float .f64 0]) ?_ 0 _;(with_reducible repeat (first|refine blk_drewN ?_ _|refine blk_drew ?_|refine blk_alloc ?_ _));exact BK208.out⟩
                     have n6_ : Aside0 (Below w.heap.size w (((((((w103.setCell ⟨gb208,0,none⟩ (.int .i64 t200)).setCell ⟨gb208,1,none⟩ (.float .f64 t201)).setCell ⟨gb208,2,none⟩ (.float .f64 t202)).setCell ⟨gb208,3,none⟩ (.float .f64 t203)).setCell ⟨gb208,4,none⟩ (.float .f64 t204)).setCell ⟨gb208,5,none⟩ (.float .f64 t205)).setCell ⟨gb208,6,none⟩ (.float .f64 t206))):=⟨(hb_ HB)⟩
                     (try clear HO_7)
                     (try clear BK149)
                     (try clear BK164)
                     (try clear BK182)
                     (try clear BK199)
                     (try clear BK208)
                     (try clear HB)
                     generalize (((((((w103.setCell ⟨gb208,0,none⟩ (.int .i64 t200)).setCell ⟨gb208,1,none⟩ (.float .f64 t201)).setCell ⟨gb208,2,none⟩ (.float .f64 t202)).setCell ⟨gb208,3,none⟩ (.float .f64 t203)).setCell ⟨gb208,4,none⟩ (.float .f64 t204)).setCell ⟨gb208,5,none⟩ (.float .f64 t205)).setCell ⟨gb208,6,none⟩ (.float .f64 t206)) = w126 at n0_ n1_ n2_ n3_ n4_ n5_ n6_ ⊢
                     have HO_7:=n0_;have BK149:=n1_;have BK164:=n2_;have BK182:=n3_;have BK199:=n4_;have BK208:=n5_;have HB:=n6_;clear n0_ n1_ n2_ n3_ n4_ n5_ n6_;have n0_:=Aside0.mk (Kd.R_drew HO_7.out);have n1_:=Aside0.mk (blk_drew BK149.out);have n2_:=Aside0.mk (blk_drew BK164.out);have n3_:=Aside0.mk (blk_drew BK182.out);have n4_:=Aside0.mk (blk_drew BK199.out);have n5_:=Aside0.mk (blk_drew BK208.out);have n6_:=Aside0.mk (below_drew1 HB.out);clear HO_7;clear BK149;clear BK164;clear BK182;clear BK199;clear BK208;clear HB;have HO_7:=n0_;have BK149:=n1_;have BK164:=n2_;have BK182:=n3_;have BK199:=n4_;have BK208:=n5_;have HB:=n6_;clear n0_ n1_ n2_ n3_ n4_ n5_ n6_;refine start_ (n:=51) (S:=fun w'=>w'.cell? ⟨gb164,0,none⟩ = some (.int .i64 t156) ∧ w'.cell? ⟨gb164,1,none⟩ = some (.float .f64 t157) ∧ w'.cell? ⟨gb164,2,none⟩ = some (.float .f64 t158) ∧ w'.cell? ⟨gb164,3,none⟩ = some (.float .f64 t159) ∧ w'.cell? ⟨gb164,4,none⟩ = some (.float .f64 t160) ∧ w'.cell? ⟨gb164,5,none⟩ = some (.float .f64 t161) ∧ w'.cell? ⟨gb164,6,none⟩ = some (.float .f64 t162) ∧ w'.cell? ⟨gb199,0,none⟩ = some (.int .i64 t191) ∧ w'.cell? ⟨gb199,1,none⟩ = some (.float .f64 t192) ∧ w'.cell? ⟨gb199,2,none⟩ = some (.float .f64 t193) ∧ w'.cell? ⟨gb199,3,none⟩ = some (.float .f64 t194) ∧ w'.cell? ⟨gb199,4,none⟩ = some (.float .f64 t195) ∧ w'.cell? ⟨gb199,5,none⟩ = some (.float .f64 t196) ∧ w'.cell? ⟨gb199,6,none⟩ = some (.float .f64 t197) ∧ w'.cell? ⟨gb208,0,none⟩ = some (.int .i64 t200) ∧ w'.cell? ⟨gb208,1,none⟩ = some (.float .f64 t201) ∧ w'.cell? ⟨gb208,2,none⟩ = some (.float .f64 t202) ∧ w'.cell? ⟨gb208,3,none⟩ = some (.float .f64 t203) ∧ w'.cell? ⟨gb208,4,none⟩ = some (.float .f64 t204) ∧ w'.cell? ⟨gb208,5,none⟩ = some (.float .f64 t205) ∧ w'.cell? ⟨gb208,6,none⟩ = some (.float .f64 t206)) (ds:=[]) #[false,false,false,false,false,false,false,false,false,false,false,false,false,false,false,false,false,false,false,false,false,false,false,false,false,false,false,false,false,false,false,false,false,false,false,false,false,false,false,false,false,false,false,false,false,false,false,false,false,false,false] (by kernel_rfl) rfl rfl ⟨(blk_cell BK164.out 0).trans rfl,(blk_cell BK164.out 1).trans rfl,(blk_cell BK164.out 2).trans rfl,(blk_cell BK164.out 3).trans rfl,(blk_cell BK164.out 4).trans rfl,(blk_cell BK164.out 5).trans rfl,(blk_cell BK164.out 6).trans rfl,(blk_cell BK199.out 0).trans rfl,(blk_cell BK199.out 1).trans rfl,(blk_cell BK199.out 2).trans rfl,(blk_cell BK199.out 3).trans rfl,(blk_cell BK199.out 4).trans rfl,(blk_cell BK199.out 5).trans rfl,(blk_cell BK199.out 6).trans rfl,(blk_cell BK208.out 0).trans rfl,(blk_cell BK208.out 1).trans rfl,(blk_cell BK208.out 2).trans rfl,(blk_cell BK208.out 3).trans rfl,(blk_cell BK208.out 4).trans rfl,(blk_cell BK208.out 5).trans rfl,(blk_cell BK208.out 6).trans rfl⟩ (fun hHeld=>?_);refine with_tabW quarrylaw31_TallySteps.tab35 quarrylaw31_TallySteps.bits35 (fun HT_ HW_=>?_)
                     generalize w126.drew = w127 at HO_7 BK149 BK164 BK182 BK199 BK208 HB hHeld ⊢
                     refine pure_ (i:=0) (N:=some 173) (v:=?_) (a':=?_) #[true,false,false,false,false,false,false,false,false,false,false,false,false,false,false,false,false,false,false,false,false,false,false,false,false,false,false,false,false,false,false,false,false,false,false,false,false,false,false,false,false,false,false,false,false,false,false,false,false,false,false] rfl rfl (any_of HT_.out (by kernel_rfl)) (fun _ _ _ h=>h) (Or.inl ⟨by rfl,?_⟩) ?_ ?_;rotate_left
                     ·intro w';go_simp;with_reducible rfl
                     rotate_left
                     ·simp only [Act.put,List.setIfInBounds_toArray,List.set_cons_zero,List.set_cons_succ,i64_w,i32_w];rfl
                     refine pure_ (i:=1) (N:=some 174) (v:=?_) (a':=?_) #[true,true,false,false,false,false,false,false,false,false,false,false,false,false,false,false,false,false,false,false,false,false,false,false,false,false,false,false,false,false,false,false,false,false,false,false,false,false,false,false,false,false,false,false,false,false,false,false,false,false,false] rfl rfl (any_of HT_.out (by kernel_rfl)) (fun _ _ _ h=>h) (Or.inl ⟨by rfl,?_⟩) ?_ ?_;rotate_left
                     ·intro w';go_simp;with_reducible rfl
                     rotate_left
                     ·simp only [Act.put,List.setIfInBounds_toArray,List.set_cons_zero,List.set_cons_succ,i64_w,i32_w];rfl
                     refine pure_ (i:=2) (N:=some 175) (v:=?_) (a':=?_) #[true,true,true,false,false,false,false,false,false,false,false,false,false,false,false,false,false,false,false,false,false,false,false,false,false,false,false,false,false,false,false,false,false,false,false,false,false,false,false,false,false,false,false,false,false,false,false,false,false,false,false] rfl rfl (any_of HT_.out (by kernel_rfl)) (fun _ _ _ h=>h) (Or.inl ⟨by rfl,?_⟩) ?_ ?_;rotate_left
                     ·intro w';go_simp;with_reducible rfl
                     rotate_left
                     ·simp only [Act.put,List.setIfInBounds_toArray,List.set_cons_zero,List.set_cons_succ,i64_w,i32_w];rfl
                     refine pure_ (i:=3) (N:=some 176) (v:=?_) (a':=?_) #[true,true,true,true,false,false,false,false,false,false,false,false,false,false,false,false,false,false,false,false,false,false,false,false,false,false,false,false,false,false,false,false,false,false,false,false,false,false,false,false,false,false,false,false,false,false,false,false,false,false,false] rfl rfl (any_of HT_.out (by kernel_rfl)) (fun _ _ _ h=>h) (Or.inl ⟨by rfl,?_⟩) ?_ ?_;rotate_left
                     ·intro w';go_simp;with_reducible rfl
                     rotate_left
                     ·simp only [Act.put,List.setIfInBounds_toArray,List.set_cons_zero,List.set_cons_succ,i64_w,i32_w];rfl
                     refine pure_ (i:=4) (N:=some 177) (v:=?_) (a':=?_) #[true,true,true,true,true,false,false,false,false,false,false,false,false,false,false,false,false,false,false,false,false,false,false,false,false,false,false,false,false,false,false,false,false,false,false,false,false,false,false,false,false,false,false,false,false,false,false,false,false,false,false] rfl rfl (any_of HT_.out (by kernel_rfl)) (fun _ _ _ h=>h) (Or.inl ⟨by rfl,?_⟩) ?_ ?_;rotate_left
                     ·intro w';go_simp;with_reducible rfl
                     rotate_left
                     ·simp only [Act.put,List.setIfInBounds_toArray,List.set_cons_zero,List.set_cons_succ,i64_w,i32_w];rfl
                     refine pure_ (i:=5) (N:=some 178) (v:=?_) (a':=?_) #[true,true,true,true,true,true,false,false,false,false,false,false,false,false,false,false,false,false,false,false,false,false,false,false,false,false,false,false,false,false,false,false,false,false,false,false,false,false,false,false,false,false,false,false,false,false,false,false,false,false,false] rfl rfl (any_of HT_.out (by kernel_rfl)) (fun _ _ _ h=>h) (Or.inl ⟨by rfl,?_⟩) ?_ ?_;rotate_left
                     ·intro w';go_simp;with_reducible rfl
                     rotate_left
                     ·simp only [Act.put,List.setIfInBounds_toArray,List.set_cons_zero,List.set_cons_succ,i64_w,i32_w];rfl
                     refine pure_ (i:=7) (N:=some 180) (v:=?_) (a':=?_) #[true,true,true,true,true,true,false,true,false,false,false,false,false,false,false,false,false,false,false,false,false,false,false,false,false,false,false,false,false,false,false,false,false,false,false,false,false,false,false,false,false,false,false,false,false,false,false,false,false,false,false] rfl rfl (any_of HT_.out (by kernel_rfl)) (fun _ _ _ h=>h) (Or.inl ⟨by rfl,?_⟩) ?_ ?_;rotate_left
                     ·intro w';go_simp;with_reducible rfl
                     rotate_left
                     ·simp only [Act.put,List.setIfInBounds_toArray,List.set_cons_zero,List.set_cons_succ,i64_w,i32_w];rfl
                     refine pure_ (i:=8) (N:=some 181) (v:=?_) (a':=?_) #[true,true,true,true,true,true,false,true,true,false,false,false,false,false,false,false,false,false,false,false,false,false,false,false,false,false,false,false,false,false,false,false,false,false,false,false,false,false,false,false,false,false,false,false,false,false,false,false,false,false,false] rfl rfl (any_of HT_.out (by kernel_rfl)) (fun _ _ _ h=>h) (Or.inl ⟨by rfl,?_⟩) ?_ ?_;rotate_left
                     ·intro w';go_simp;with_reducible rfl
                     rotate_left
                     ·simp only [Act.put,List.setIfInBounds_toArray,List.set_cons_zero,List.set_cons_succ,i64_w,i32_w];rfl
                     refine take_ (i:=6) (N:=some 179) (v:=?_) (a':=?_) #[true,true,true,true,true,true,true,true,true,false,false,false,false,false,false,false,false,false,false,false,false,false,false,false,false,false,false,false,false,false,false,false,false,false,false,false,false,false,false,false,false,false,false,false,false,false,false,false,false,false,false] rfl rfl (take_ofW HT_.out HW_.out (by kernel_rfl)) (fun _ _ _ h=>h) (Or.inl ⟨by rfl,?_⟩) hHeld ?_ ?_;rotate_left
                     ·rintro w' ⟨s0,s1,s2,s3,s4,s5,s6,s7,s8,s9,s10,s11,s12,s13,s14,s15,s16,s17,s18,s19,s20⟩;go_simp;with_reducible rfl
                     rotate_left
                     ·simp only [Act.put,List.setIfInBounds_toArray,List.set_cons_zero,List.set_cons_succ,i64_w,i32_w];rfl
                     refine pure_ (i:=9) (N:=some 182) (v:=?_) (a':=?_) #[true,true,true,true,true,true,true,true,true,true,false,false,false,false,false,false,false,false,false,false,false,false,false,false,false,false,false,false,false,false,false,false,false,false,false,false,false,false,false,false,false,false,false,false,false,false,false,false,false,false,false] rfl rfl (any_of HT_.out (by kernel_rfl)) (fun _ _ _ h=>h) (Or.inl ⟨by rfl,?_⟩) ?_ ?_;rotate_left
                     ·intro w';go_simp;with_reducible rfl
                     rotate_left
                     ·simp only [Act.put,List.setIfInBounds_toArray,List.set_cons_zero,List.set_cons_succ,i64_w,i32_w];rfl
                     refine pure_ (i:=10) (N:=some 183) (v:=?_) (a':=?_) #[true,true,true,true,true,true,true,true,true,true,true,false,false,false,false,false,false,false,false,false,false,false,false,false,false,false,false,false,false,false,false,false,false,false,false,false,false,false,false,false,false,false,false,false,false,false,false,false,false,false,false] rfl rfl (any_of HT_.out (by kernel_rfl)) (fun _ _ _ h=>h) (Or.inl ⟨by rfl,?_⟩) ?_ ?_;rotate_left
                     ·intro w';go_simp;with_reducible rfl
                     rotate_left
                     ·simp only [Act.put,List.setIfInBounds_toArray,List.set_cons_zero,List.set_cons_succ,i64_w,i32_w];rfl
                     refine pure_ (i:=11) (N:=some 184) (v:=?_) (a':=?_) #[true,true,true,true,true,true,true,true,true,true,true,true,false,false,false,false,false,false,false,false,false,false,false,false,false,false,false,false,false,false,false,false,false,false,false,false,false,false,false,false,false,false,false,false,false,false,false,false,false,false,false] rfl rfl (any_of HT_.out (by kernel_rfl)) (fun _ _ _ h=>h) (Or.inl ⟨by rfl,?_⟩) ?_ ?_;rotate_left
                     ·intro w';go_simp;with_reducible rfl
                     rotate_left
                     ·simp only [Act.put,List.setIfInBounds_toArray,List.set_cons_zero,List.set_cons_succ,i64_w,i32_w];rfl
                     refine pure_ (i:=12) (N:=some 185) (v:=?_) (a':=?_) #[true,true,true,true,true,true,true,true,true,true,true,true,true,false,false,false,false,false,false,false,false,false,false,false,false,false,false,false,false,false,false,false,false,false,false,false,false,false,false,false,false,false,false,false,false,false,false,false,false,false,false] rfl rfl (any_of HT_.out (by kernel_rfl)) (fun _ _ _ h=>h) (Or.inl ⟨by rfl,?_⟩) ?_ ?_;rotate_left
                     ·intro w';go_simp;with_reducible rfl
                     rotate_left
                     ·simp only [Act.put,List.setIfInBounds_toArray,List.set_cons_zero,List.set_cons_succ,i64_w,i32_w];rfl
                     refine pure_ (i:=13) (N:=some 186) (v:=?_) (a':=?_) #[true,true,true,true,true,true,true,true,true,true,true,true,true,true,false,false,false,false,false,false,false,false,false,false,false,false,false,false,false,false,false,false,false,false,false,false,false,false,false,false,false,false,false,false,false,false,false,false,false,false,false] rfl rfl (any_of HT_.out (by kernel_rfl)) (fun _ _ _ h=>h) (Or.inl ⟨by rfl,?_⟩) ?_ ?_;rotate_left
                     ·intro w';go_simp;with_reducible rfl
                     rotate_left
                     ·simp only [Act.put,List.setIfInBounds_toArray,List.set_cons_zero,List.set_cons_succ,i64_w,i32_w];rfl
                     refine pure_ (i:=14) (N:=some 187) (v:=?_) (a':=?_) #[true,true,true,true,true,true,true,true,true,true,true,true,true,true,true,false,false,false,false,false,false,false,false,false,false,false,false,false,false,false,false,false,false,false,false,false,false,false,false,false,false,false,false,false,false,false,false,false,false,false,false] rfl rfl (any_of HT_.out (by kernel_rfl)) (fun _ _ _ h=>h) (Or.inl ⟨by rfl,?_⟩) ?_ ?_;rotate_left
                     ·intro w';go_simp;with_reducible rfl
                     rotate_left
                     ·simp only [Act.put,List.setIfInBounds_toArray,List.set_cons_zero,List.set_cons_succ,i64_w,i32_w];rfl
                     refine pure_ (i:=15) (N:=some 188) (v:=?_) (a':=?_) #[true,true,true,true,true,true,true,true,true,true,true,true,true,true,true,true,false,false,false,false,false,false,false,false,false,false,false,false,false,false,false,false,false,false,false,false,false,false,false,false,false,false,false,false,false,false,false,false,false,false,false] rfl rfl (any_of HT_.out (by kernel_rfl)) (fun _ _ _ h=>h) (Or.inl ⟨by rfl,?_⟩) ?_ ?_;rotate_left
                     ·intro w';go_simp;with_reducible rfl
                     rotate_left
                     ·simp only [Act.put,List.setIfInBounds_toArray,List.set_cons_zero,List.set_cons_succ,i64_w,i32_w];rfl
                     refine pure_ (i:=16) (N:=some 189) (v:=?_) (a':=?_) #[true,true,true,true,true,true,true,true,true,true,true,true,true,true,true,true,true,false,false,false,false,false,false,false,false,false,false,false,false,false,false,false,false,false,false,false,false,false,false,false,false,false,false,false,false,false,false,false,false,false,false] rfl rfl (any_of HT_.out (by kernel_rfl)) (fun _ _ _ h=>h) (Or.inl ⟨by rfl,?_⟩) ?_ ?_;rotate_left
                     ·intro w';go_simp;with_reducible rfl
                     rotate_left
                     ·simp only [Act.put,List.setIfInBounds_toArray,List.set_cons_zero,List.set_cons_succ,i64_w,i32_w];rfl
                     refine pure_ (i:=17) (N:=some 190) (v:=?_) (a':=?_) #[true,true,true,true,true,true,true,true,true,true,true,true,true,true,true,true,true,true,false,false,false,false,false,false,false,false,false,false,false,false,false,false,false,false,false,false,false,false,false,false,false,false,false,false,false,false,false,false,false,false,false] rfl rfl (any_of HT_.out (by kernel_rfl)) (fun _ _ _ h=>h) (Or.inl ⟨by rfl,?_⟩) ?_ ?_;rotate_left
                     ·intro w';go_simp;with_reducible rfl
                     rotate_left
                     ·simp only [Act.put,List.setIfInBounds_toArray,List.set_cons_zero,List.set_cons_succ,i64_w,i32_w];rfl
                     refine pure_ (i:=18) (N:=some 191) (v:=?_) (a':=?_) #[true,true,true,true,true,true,true,true,true,true,true,true,true,true,true,true,true,true,true,false,false,false,false,false,false,false,false,false,false,false,false,false,false,false,false,false,false,false,false,false,false,false,false,false,false,false,false,false,false,false,false] rfl rfl (any_of HT_.out (by kernel_rfl)) (fun _ _ _ h=>h) (Or.inl ⟨by rfl,?_⟩) ?_ ?_;rotate_left
                     ·intro w';go_simp;with_reducible rfl
                     rotate_left
                     ·simp only [Act.put,List.setIfInBounds_toArray,List.set_cons_zero,List.set_cons_succ,i64_w,i32_w];rfl
                     refine pure_ (i:=19) (N:=some 192) (v:=?_) (a':=?_) #[true,true,true,true,true,true,true,true,true,true,true,true,true,true,true,true,true,true,true,true,false,false,false,false,false,false,false,false,false,false,false,false,false,false,false,false,false,false,false,false,false,false,false,false,false,false,false,false,false,false,false] rfl rfl (any_of HT_.out (by kernel_rfl)) (fun _ _ _ h=>h) (Or.inl ⟨by rfl,?_⟩) ?_ ?_;rotate_left
                     ·intro w';go_simp;with_reducible rfl
                     rotate_left
                     ·simp only [Act.put,List.setIfInBounds_toArray,List.set_cons_zero,List.set_cons_succ,i64_w,i32_w];rfl
                     refine pure_ (i:=20) (N:=some 193) (v:=?_) (a':=?_) #[true,true,true,true,true,true,true,true,true,true,true,true,true,true,true,true,true,true,true,true,true,false,false,false,false,false,false,false,false,false,false,false,false,false,false,false,false,false,false,false,false,false,false,false,false,false,false,false,false,false,false] rfl rfl (any_of HT_.out (by kernel_rfl)) (fun _ _ _ h=>h) (Or.inl ⟨by rfl,?_⟩) ?_ ?_;rotate_left
                     ·intro w';go_simp;with_reducible rfl
                     rotate_left
                     ·simp only [Act.put,List.setIfInBounds_toArray,List.set_cons_zero,List.set_cons_succ,i64_w,i32_w];rfl
                     refine pure_ (i:=21) (N:=some 194) (v:=?_) (a':=?_) #[true,true,true,true,true,true,true,true,true,true,true,true,true,true,true,true,true,true,true,true,true,true,false,false,false,false,false,false,false,false,false,false,false,false,false,false,false,false,false,false,false,false,false,false,false,false,false,false,false,false,false] rfl rfl (any_of HT_.out (by kernel_rfl)) (fun _ _ _ h=>h) (Or.inl ⟨by rfl,?_⟩) ?_ ?_;rotate_left
                     ·intro w';go_simp;with_reducible rfl
                     rotate_left
                     ·simp only [Act.put,List.setIfInBounds_toArray,List.set_cons_zero,List.set_cons_succ,i64_w,i32_w];rfl
                     refine pure_ (i:=22) (N:=some 195) (v:=?_) (a':=?_) #[true,true,true,true,true,true,true,true,true,true,true,true,true,true,true,true,true,true,true,true,true,true,true,false,false,false,false,false,false,false,false,false,false,false,false,false,false,false,false,false,false,false,false,false,false,false,false,false,false,false,false] rfl rfl (any_of HT_.out (by kernel_rfl)) (fun _ _ _ h=>h) (Or.inl ⟨by rfl,?_⟩) ?_ ?_;rotate_left
                     ·intro w';go_simp;with_reducible rfl
                     rotate_left
                     ·simp only [Act.put,List.setIfInBounds_toArray,List.set_cons_zero,List.set_cons_succ,i64_w,i32_w];rfl
                     refine pure_ (i:=23) (N:=some 196) (v:=?_) (a':=?_) #[true,true,true,true,true,true,true,true,true,true,true,true,true,true,true,true,true,true,true,true,true,true,true,true,false,false,false,false,false,false,false,false,false,false,false,false,false,false,false,false,false,false,false,false,false,false,false,false,false,false,false] rfl rfl (any_of HT_.out (by kernel_rfl)) (fun _ _ _ h=>h) (Or.inl ⟨by rfl,?_⟩) ?_ ?_;rotate_left
                     ·intro w';go_simp;with_reducible rfl
                     rotate_left
                     ·simp only [Act.put,List.setIfInBounds_toArray,List.set_cons_zero,List.set_cons_succ,i64_w,i32_w];rfl
                     refine take_ (i:=24) (N:=some 197) (v:=?_) (a':=?_) #[true,true,true,true,true,true,true,true,true,true,true,true,true,true,true,true,true,true,true,true,true,true,true,true,true,false,false,false,false,false,false,false,false,false,false,false,false,false,false,false,false,false,false,false,false,false,false,false,false,false,false] rfl rfl (take_ofW HT_.out HW_.out (by kernel_rfl)) (fun _ _ _ h=>h) (Or.inl ⟨by rfl,?_⟩) hHeld ?_ ?_;rotate_left
                     ·rintro w' ⟨s0,s1,s2,s3,s4,s5,s6,s7,s8,s9,s10,s11,s12,s13,s14,s15,s16,s17,s18,s19,s20⟩;go_simp;with_reducible rfl
                     rotate_left
                     ·simp only [Act.put,List.setIfInBounds_toArray,List.set_cons_zero,List.set_cons_succ,i64_w,i32_w];rfl
                     refine take_ (i:=25) (N:=some 198) (v:=?_) (a':=?_) #[true,true,true,true,true,true,true,true,true,true,true,true,true,true,true,true,true,true,true,true,true,true,true,true,true,true,false,false,false,false,false,false,false,false,false,false,false,false,false,false,false,false,false,false,false,false,false,false,false,false,false] rfl rfl (take_ofW HT_.out HW_.out (by kernel_rfl)) (fun _ _ _ h=>h) (Or.inl ⟨by rfl,?_⟩) hHeld ?_ ?_;rotate_left
                     ·rintro w' ⟨s0,s1,s2,s3,s4,s5,s6,s7,s8,s9,s10,s11,s12,s13,s14,s15,s16,s17,s18,s19,s20⟩;go_simp;with_reducible rfl
                     rotate_left
                     ·simp only [Act.put,List.setIfInBounds_toArray,List.set_cons_zero,List.set_cons_succ,i64_w,i32_w];rfl
                     refine one_ (i:=26) (N:=some 199) #[true,true,true,true,true,true,true,true,true,true,true,true,true,true,true,true,true,true,true,true,true,true,true,true,true,true,true,false,false,false,false,false,false,false,false,false,false,false,false,false,false,false,false,false,false,false,false,false,false,false,false] rfl rfl (one_of HT_.out (by kernel_rfl)) (by decide) (fun K hK=>?_);refine goes_ Try.func15 (by kernel_rfl) rfl #[.agg #[.int .i64 t191,.float .f64 t192,.float .f64 t193,.float .f64 t194,.float .f64 t195,.float .f64 t196,.float .f64 t197],.agg #[.int .i64 t156,.float .f64 t157,.float .f64 t158,.float .f64 t159,.float .f64 t160,.float .f64 t161,.float .f64 t162]] (by rfl) rfl rfl am_ ?_
                     with_reducible refine (quarrylaw31_same.calls t191 t192 t193 t194 t195 t196 t197 t156 t157 t158 t159 t160 t161 t162 true _ A115.out).mono ?_
                     rintro e w128 ⟨rfl,hb⟩;refine ⟨_,rfl,?_⟩;have n0_:=Aside0.mk (Kd.R_below (rk_ HO_7) hb);have n1_:=Aside0.mk (bkb_ BK149 hb);have n2_:=Aside0.mk (bkb_ BK164 hb);have n3_:=Aside0.mk (bkb_ BK182 hb);have n4_:=Aside0.mk (bkb_ BK199 hb);have n5_:=Aside0.mk (bkb_ BK208 hb);have n6_:=Aside0.mk (below_step (hb_ HB) hb);clear HO_7;clear BK149;clear BK164;clear BK182;clear BK199;clear BK208;clear HB;have HO_7:=n0_;have BK149:=n1_;have BK164:=n2_;have BK182:=n3_;have BK199:=n4_;have BK208:=n5_;have HB:=n6_;clear n0_ n1_ n2_ n3_ n4_ n5_ n6_
                     (try clear hb)
                     (try clear hb2)
                     (try clear hk)
                     (try clear hi)
                     refine hK.out _ _ ⟨(blk_cell BK164.out 0).trans rfl,(blk_cell BK164.out 1).trans rfl,(blk_cell BK164.out 2).trans rfl,(blk_cell BK164.out 3).trans rfl,(blk_cell BK164.out 4).trans rfl,(blk_cell BK164.out 5).trans rfl,(blk_cell BK164.out 6).trans rfl,(blk_cell BK199.out 0).trans rfl,(blk_cell BK199.out 1).trans rfl,(blk_cell BK199.out 2).trans rfl,(blk_cell BK199.out 3).trans rfl,(blk_cell BK199.out 4).trans rfl,(blk_cell BK199.out 5).trans rfl,(blk_cell BK199.out 6).trans rfl,(blk_cell BK208.out 0).trans rfl,(blk_cell BK208.out 1).trans rfl,(blk_cell BK208.out 2).trans rfl,(blk_cell BK208.out 3).trans rfl,(blk_cell BK208.out 4).trans rfl,(blk_cell BK208.out 5).trans rfl,(blk_cell BK208.out 6).trans rfl⟩ (fun hHeld=>?_);clear hK K;refine norm_ (a':=?_) ?_ ?_;rotate_left
                     ·show Act.put _ (some 199) _ = _
                      simp only [Act.put,List.setIfInBounds_toArray,List.set_cons_zero,List.set_cons_succ,i64_w,i32_w];rfl
                     refine pure_ (i:=27) (N:=some 200) (v:=?_) (a':=?_) #[true,true,true,true,true,true,true,true,true,true,true,true,true,true,true,true,true,true,true,true,true,true,true,true,true,true,true,true,false,false,false,false,false,false,false,false,false,false,false,false,false,false,false,false,false,false,false,false,false,false,false] rfl rfl (any_of HT_.out (by kernel_rfl)) (fun _ _ _ h=>h) (Or.inl ⟨by rfl,?_⟩) ?_ ?_;rotate_left
                     ·intro w';go_simp;with_reducible rfl
                     rotate_left
                     ·simp only [Act.put,List.setIfInBounds_toArray,List.set_cons_zero,List.set_cons_succ,i64_w,i32_w];rfl
                     refine pure_ (i:=28) (N:=some 201) (v:=?_) (a':=?_) #[true,true,true,true,true,true,true,true,true,true,true,true,true,true,true,true,true,true,true,true,true,true,true,true,true,true,true,true,true,false,false,false,false,false,false,false,false,false,false,false,false,false,false,false,false,false,false,false,false,false,false] rfl rfl (any_of HT_.out (by kernel_rfl)) (fun _ _ _ h=>h) (Or.inl ⟨by rfl,?_⟩) ?_ ?_;rotate_left
                     ·intro w';go_simp;with_reducible rfl
                     rotate_left
                     ·simp only [Act.put,List.setIfInBounds_toArray,List.set_cons_zero,List.set_cons_succ,i64_w,i32_w];rfl
                     refine take_ (i:=29) (N:=some 202) (v:=?_) (a':=?_) #[true,true,true,true,true,true,true,true,true,true,true,true,true,true,true,true,true,true,true,true,true,true,true,true,true,true,true,true,true,true,false,false,false,false,false,false,false,false,false,false,false,false,false,false,false,false,false,false,false,false,false] rfl rfl (take_ofW HT_.out HW_.out (by kernel_rfl)) (fun _ _ _ h=>h) (Or.inl ⟨by rfl,?_⟩) hHeld ?_ ?_;rotate_left
                     ·rintro w' ⟨s0,s1,s2,s3,s4,s5,s6,s7,s8,s9,s10,s11,s12,s13,s14,s15,s16,s17,s18,s19,s20⟩;go_simp;with_reducible rfl
                     rotate_left
                     ·simp only [Act.put,List.setIfInBounds_toArray,List.set_cons_zero,List.set_cons_succ,i64_w,i32_w];rfl
                     refine take_ (i:=30) (N:=some 203) (v:=?_) (a':=?_) #[true,true,true,true,true,true,true,true,true,true,true,true,true,true,true,true,true,true,true,true,true,true,true,true,true,true,true,true,true,true,true,false,false,false,false,false,false,false,false,false,false,false,false,false,false,false,false,false,false,false,false] rfl rfl (take_ofW HT_.out HW_.out (by kernel_rfl)) (fun _ _ _ h=>h) (Or.inl ⟨by rfl,?_⟩) hHeld ?_ ?_;rotate_left
                     ·rintro w' ⟨s0,s1,s2,s3,s4,s5,s6,s7,s8,s9,s10,s11,s12,s13,s14,s15,s16,s17,s18,s19,s20⟩;go_simp;with_reducible rfl
                     rotate_left
                     ·simp only [Act.put,List.setIfInBounds_toArray,List.set_cons_zero,List.set_cons_succ,i64_w,i32_w];rfl
                     refine one_ (i:=31) (N:=some 204) #[true,true,true,true,true,true,true,true,true,true,true,true,true,true,true,true,true,true,true,true,true,true,true,true,true,true,true,true,true,true,true,true,false,false,false,false,false,false,false,false,false,false,false,false,false,false,false,false,false,false,false] rfl rfl (one_of HT_.out (by kernel_rfl)) (by decide) (fun K hK=>?_);refine goes_ Try.func15 (by kernel_rfl) rfl #[.agg #[.int .i64 t200,.float .f64 t201,.float .f64 t202,.float .f64 t203,.float .f64 t204,.float .f64 t205,.float .f64 t206],.agg #[.int .i64 t156,.float .f64 t157,.float .f64 t158,.float .f64 t159,.float .f64 t160,.float .f64 t161,.float .f64 t162]] (by rfl) rfl rfl am_ ?_
                     with_reducible refine (quarrylaw31_same.calls t200 t201 t202 t203 t204 t205 t206 t156 t157 t158 t159 t160 t161 t162 true _ A117.out).mono ?_
                     rintro e w129 ⟨rfl,hb⟩;refine ⟨_,rfl,?_⟩;have n0_:=Aside0.mk (Kd.R_below (rk_ HO_7) hb);have n1_:=Aside0.mk (bkb_ BK149 hb);have n2_:=Aside0.mk (bkb_ BK164 hb);have n3_:=Aside0.mk (bkb_ BK182 hb);have n4_:=Aside0.mk (bkb_ BK199 hb);have n5_:=Aside0.mk (bkb_ BK208 hb);have n6_:=Aside0.mk (below_step (hb_ HB) hb);clear HO_7;clear BK149;clear BK164;clear BK182;clear BK199;clear BK208;clear HB;have HO_7:=n0_;have BK149:=n1_;have BK164:=n2_;have BK182:=n3_;have BK199:=n4_;have BK208:=n5_;have HB:=n6_;clear n0_ n1_ n2_ n3_ n4_ n5_ n6_
                     (try clear hb)
                     (try clear hb2)
                     (try clear hk)
                     (try clear hi)
                     refine hK.out _ _ ⟨(blk_cell BK164.out 0).trans rfl,(blk_cell BK164.out 1).trans rfl,(blk_cell BK164.out 2).trans rfl,(blk_cell BK164.out 3).trans rfl,(blk_cell BK164.out 4).trans rfl,(blk_cell BK164.out 5).trans rfl,(blk_cell BK164.out 6).trans rfl,(blk_cell BK199.out 0).trans rfl,(blk_cell BK199.out 1).trans rfl,(blk_cell BK199.out 2).trans rfl,(blk_cell BK199.out 3).trans rfl,(blk_cell BK199.out 4).trans rfl,(blk_cell BK199.out 5).trans rfl,(blk_cell BK199.out 6).trans rfl,(blk_cell BK208.out 0).trans rfl,(blk_cell BK208.out 1).trans rfl,(blk_cell BK208.out 2).trans rfl,(blk_cell BK208.out 3).trans rfl,(blk_cell BK208.out 4).trans rfl,(blk_cell BK208.out 5).trans rfl,(blk_cell BK208.out 6).trans rfl⟩ (fun hHeld=>?_);clear hK K;refine norm_ (a':=?_) ?_ ?_;rotate_left
                     ·show Act.put _ (some 204) _ = _
                      simp only [Act.put,List.setIfInBounds_toArray,List.set_cons_zero,List.set_cons_succ,i64_w,i32_w];rfl
                     refine pure_ (i:=32) (N:=some 205) (v:=?_) (a':=?_) #[true,true,true,true,true,true,true,true,true,true,true,true,true,true,true,true,true,true,true,true,true,true,true,true,true,true,true,true,true,true,true,true,true,false,false,false,false,false,false,false,false,false,false,false,false,false,false,false,false,false,false] rfl rfl (any_of HT_.out (by kernel_rfl)) (fun _ _ _ h=>h) (Or.inl ⟨by rfl,?_⟩) ?_ ?_;rotate_left
                     ·intro w';go_simp;with_reducible rfl
                     rotate_left
                     ·simp only [Act.put,List.setIfInBounds_toArray,List.set_cons_zero,List.set_cons_succ,i64_w,i32_w];rfl
                     refine pure_ (i:=33) (N:=some 206) (v:=?_) (a':=?_) #[true,true,true,true,true,true,true,true,true,true,true,true,true,true,true,true,true,true,true,true,true,true,true,true,true,true,true,true,true,true,true,true,true,true,false,false,false,false,false,false,false,false,false,false,false,false,false,false,false,false,false] rfl rfl (any_of HT_.out (by kernel_rfl)) (fun _ _ _ h=>h) (Or.inl ⟨by rfl,?_⟩) ?_ ?_;rotate_left
                     ·intro w';go_simp;with_reducible rfl
                     rotate_left
                     ·simp only [Act.put,List.setIfInBounds_toArray,List.set_cons_zero,List.set_cons_succ,i64_w,i32_w];rfl
                     refine pure_ (i:=34) (N:=some 207) (v:=?_) (a':=?_) #[true,true,true,true,true,true,true,true,true,true,true,true,true,true,true,true,true,true,true,true,true,true,true,true,true,true,true,true,true,true,true,true,true,true,true,false,false,false,false,false,false,false,false,false,false,false,false,false,false,false,false] rfl rfl (any_of HT_.out (by kernel_rfl)) (fun _ _ _ h=>h) (Or.inl ⟨by rfl,?_⟩) ?_ ?_;rotate_left
                     ·intro w';go_simp;with_reducible rfl
                     rotate_left
                     ·simp only [Act.put,List.setIfInBounds_toArray,List.set_cons_zero,List.set_cons_succ,i64_w,i32_w];rfl
                     refine pure_ (i:=35) (N:=some 208) (v:=?_) (a':=?_) #[true,true,true,true,true,true,true,true,true,true,true,true,true,true,true,true,true,true,true,true,true,true,true,true,true,true,true,true,true,true,true,true,true,true,true,true,false,false,false,false,false,false,false,false,false,false,false,false,false,false,false] rfl rfl (any_of HT_.out (by kernel_rfl)) (fun _ _ _ h=>h) (Or.inl ⟨by rfl,?_⟩) ?_ ?_;rotate_left
                     ·intro w';go_simp;with_reducible rfl
                     rotate_left
                     ·simp only [Act.put,List.setIfInBounds_toArray,List.set_cons_zero,List.set_cons_succ,i64_w,i32_w];rfl
                     refine pure_ (i:=36) (N:=some 209) (v:=?_) (a':=?_) #[true,true,true,true,true,true,true,true,true,true,true,true,true,true,true,true,true,true,true,true,true,true,true,true,true,true,true,true,true,true,true,true,true,true,true,true,true,false,false,false,false,false,false,false,false,false,false,false,false,false,false] rfl rfl (any_of HT_.out (by kernel_rfl)) (fun _ _ _ h=>h) (Or.inl ⟨by rfl,?_⟩) ?_ ?_;rotate_left
                     ·intro w';go_simp;with_reducible rfl
                     rotate_left
                     ·simp only [Act.put,List.setIfInBounds_toArray,List.set_cons_zero,List.set_cons_succ,i64_w,i32_w];rfl
                     refine pure_ (i:=37) (N:=some 210) (v:=undef) (a':=?_) #[true,true,true,true,true,true,true,true,true,true,true,true,true,true,true,true,true,true,true,true,true,true,true,true,true,true,true,true,true,true,true,true,true,true,true,true,true,true,false,false,false,false,false,false,false,false,false,false,false,false,false] rfl rfl (any_of HT_.out (by kernel_rfl)) (fun _ _ _ h=>h) (Or.inr ⟨by rfl,rfl⟩) ?_ ?_;rotate_left
                     ·simp only [Act.put,List.setIfInBounds_toArray,List.set_cons_zero,List.set_cons_succ,i64_w,i32_w];rfl
                     refine pure_ (i:=38) (N:=some 211) (v:=undef) (a':=?_) #[true,true,true,true,true,true,true,true,true,true,true,true,true,true,true,true,true,true,true,true,true,true,true,true,true,true,true,true,true,true,true,true,true,true,true,true,true,true,true,false,false,false,false,false,false,false,false,false,false,false,false] rfl rfl (any_of HT_.out (by kernel_rfl)) (fun _ _ _ h=>h) (Or.inr ⟨by rfl,rfl⟩) ?_ ?_;rotate_left
                     ·simp only [Act.put,List.setIfInBounds_toArray,List.set_cons_zero,List.set_cons_succ,i64_w,i32_w];rfl
                     refine pure_ (i:=39) (N:=some 212) (v:=undef) (a':=?_) #[true,true,true,true,true,true,true,true,true,true,true,true,true,true,true,true,true,true,true,true,true,true,true,true,true,true,true,true,true,true,true,true,true,true,true,true,true,true,true,true,false,false,false,false,false,false,false,false,false,false,false] rfl rfl (any_of HT_.out (by kernel_rfl)) (fun _ _ _ h=>h) (Or.inr ⟨by rfl,rfl⟩) ?_ ?_;rotate_left
                     ·simp only [Act.put,List.setIfInBounds_toArray,List.set_cons_zero,List.set_cons_succ,i64_w,i32_w];rfl
                     refine pure_ (i:=40) (N:=some 213) (v:=undef) (a':=?_) #[true,true,true,true,true,true,true,true,true,true,true,true,true,true,true,true,true,true,true,true,true,true,true,true,true,true,true,true,true,true,true,true,true,true,true,true,true,true,true,true,true,false,false,false,false,false,false,false,false,false,false] rfl rfl (any_of HT_.out (by kernel_rfl)) (fun _ _ _ h=>h) (Or.inr ⟨by rfl,rfl⟩) ?_ ?_;rotate_left
                     ·simp only [Act.put,List.setIfInBounds_toArray,List.set_cons_zero,List.set_cons_succ,i64_w,i32_w];rfl
                     refine pure_ (i:=41) (N:=some 214) (v:=undef) (a':=?_) #[true,true,true,true,true,true,true,true,true,true,true,true,true,true,true,true,true,true,true,true,true,true,true,true,true,true,true,true,true,true,true,true,true,true,true,true,true,true,true,true,true,true,false,false,false,false,false,false,false,false,false] rfl rfl (any_of HT_.out (by kernel_rfl)) (fun _ _ _ h=>h) (Or.inr ⟨by rfl,rfl⟩) ?_ ?_;rotate_left
                     ·simp only [Act.put,List.setIfInBounds_toArray,List.set_cons_zero,List.set_cons_succ,i64_w,i32_w];rfl
                     refine pure_ (i:=42) (N:=some 215) (v:=undef) (a':=?_) #[true,true,true,true,true,true,true,true,true,true,true,true,true,true,true,true,true,true,true,true,true,true,true,true,true,true,true,true,true,true,true,true,true,true,true,true,true,true,true,true,true,true,true,false,false,false,false,false,false,false,false] rfl rfl (any_of HT_.out (by kernel_rfl)) (fun _ _ _ h=>h) (Or.inr ⟨by rfl,rfl⟩) ?_ ?_;rotate_left
                     ·simp only [Act.put,List.setIfInBounds_toArray,List.set_cons_zero,List.set_cons_succ,i64_w,i32_w];rfl
                     refine pure_ (i:=43) (N:=some 216) (v:=undef) (a':=?_) #[true,true,true,true,true,true,true,true,true,true,true,true,true,true,true,true,true,true,true,true,true,true,true,true,true,true,true,true,true,true,true,true,true,true,true,true,true,true,true,true,true,true,true,true,false,false,false,false,false,false,false] rfl rfl (any_of HT_.out (by kernel_rfl)) (fun _ _ _ h=>h) (Or.inr ⟨by rfl,rfl⟩) ?_ ?_;rotate_left
                     ·simp only [Act.put,List.setIfInBounds_toArray,List.set_cons_zero,List.set_cons_succ,i64_w,i32_w];rfl
                     refine pure_ (i:=44) (N:=some 217) (v:=undef) (a':=?_) #[true,true,true,true,true,true,true,true,true,true,true,true,true,true,true,true,true,true,true,true,true,true,true,true,true,true,true,true,true,true,true,true,true,true,true,true,true,true,true,true,true,true,true,true,true,false,false,false,false,false,false] rfl rfl (any_of HT_.out (by kernel_rfl)) (fun _ _ _ h=>h) (Or.inr ⟨by rfl,rfl⟩) ?_ ?_;rotate_left
                     ·simp only [Act.put,List.setIfInBounds_toArray,List.set_cons_zero,List.set_cons_succ,i64_w,i32_w];rfl
                     refine pure_ (i:=45) (N:=some 218) (v:=undef) (a':=?_) #[true,true,true,true,true,true,true,true,true,true,true,true,true,true,true,true,true,true,true,true,true,true,true,true,true,true,true,true,true,true,true,true,true,true,true,true,true,true,true,true,true,true,true,true,true,true,false,false,false,false,false] rfl rfl (any_of HT_.out (by kernel_rfl)) (fun _ _ _ h=>h) (Or.inr ⟨by rfl,rfl⟩) ?_ ?_;rotate_left
                     ·simp only [Act.put,List.setIfInBounds_toArray,List.set_cons_zero,List.set_cons_succ,i64_w,i32_w];rfl
                     refine pure_ (i:=46) (N:=some 219) (v:=undef) (a':=?_) #[true,true,true,true,true,true,true,true,true,true,true,true,true,true,true,true,true,true,true,true,true,true,true,true,true,true,true,true,true,true,true,true,true,true,true,true,true,true,true,true,true,true,true,true,true,true,true,false,false,false,false] rfl rfl (any_of HT_.out (by kernel_rfl)) (fun _ _ _ h=>h) (Or.inr ⟨by rfl,rfl⟩) ?_ ?_;rotate_left
                     ·simp only [Act.put,List.setIfInBounds_toArray,List.set_cons_zero,List.set_cons_succ,i64_w,i32_w];rfl
                     refine pure_ (i:=47) (N:=some 220) (v:=undef) (a':=?_) #[true,true,true,true,true,true,true,true,true,true,true,true,true,true,true,true,true,true,true,true,true,true,true,true,true,true,true,true,true,true,true,true,true,true,true,true,true,true,true,true,true,true,true,true,true,true,true,true,false,false,false] rfl rfl (any_of HT_.out (by kernel_rfl)) (fun _ _ _ h=>h) (Or.inr ⟨by rfl,rfl⟩) ?_ ?_;rotate_left
                     ·simp only [Act.put,List.setIfInBounds_toArray,List.set_cons_zero,List.set_cons_succ,i64_w,i32_w];rfl
                     refine pure_ (i:=48) (N:=some 221) (v:=?_) (a':=?_) #[true,true,true,true,true,true,true,true,true,true,true,true,true,true,true,true,true,true,true,true,true,true,true,true,true,true,true,true,true,true,true,true,true,true,true,true,true,true,true,true,true,true,true,true,true,true,true,true,true,false,false] rfl rfl (any_of HT_.out (by kernel_rfl)) (fun _ _ _ h=>h) (Or.inl ⟨by rfl,?_⟩) ?_ ?_;rotate_left
                     ·intro w';go_simp;with_reducible rfl
                     rotate_left
                     ·simp only [Act.put,List.setIfInBounds_toArray,List.set_cons_zero,List.set_cons_succ,i64_w,i32_w];rfl
                     refine pure_ (i:=49) (N:=some 222) (v:=?_) (a':=?_) #[true,true,true,true,true,true,true,true,true,true,true,true,true,true,true,true,true,true,true,true,true,true,true,true,true,true,true,true,true,true,true,true,true,true,true,true,true,true,true,true,true,true,true,true,true,true,true,true,true,true,false] rfl rfl (any_of HT_.out (by kernel_rfl)) (fun _ _ _ h=>h) (Or.inl ⟨by rfl,?_⟩) ?_ ?_;rotate_left
                     ·intro w';go_simp;with_reducible rfl
                     rotate_left
                     ·simp only [Act.put,List.setIfInBounds_toArray,List.set_cons_zero,List.set_cons_succ,i64_w,i32_w];rfl
                     refine pure_ (i:=50) (N:=some 4) (v:=?_) (a':=?_) #[true,true,true,true,true,true,true,true,true,true,true,true,true,true,true,true,true,true,true,true,true,true,true,true,true,true,true,true,true,true,true,true,true,true,true,true,true,true,true,true,true,true,true,true,true,true,true,true,true,true,true] rfl rfl (any_of HT_.out (by kernel_rfl)) (fun _ _ _ h=>h) (Or.inl ⟨by rfl,?_⟩) ?_ ?_;rotate_left
                     ·intro w';go_simp;with_reducible rfl
                     rotate_left
                     ·simp only [Act.put,List.setIfInBounds_toArray,List.set_cons_zero,List.set_cons_succ,i64_w,i32_w];rfl
                     refine done_ (done_of HT_.out (by kernel_rfl)) ?_
                     try go_wp2
                     go_ret;exact ⟨er_,(hb_ HB)⟩
                   replace c118:=Bool.eq_false_iff.mpr c118;subst c118
                   have H1 : (none) = some r:=by rw [if_neg (show ¬ (false = true) by decide)] at H;exact H
                   clear H;have H:=H1;clear H1;exact absurd H (by simp)
                  replace c116:=Bool.eq_false_iff.mpr c116;subst c116
                  have H1 : (none) = some r:=by rw [if_neg (show ¬ (false = true) by decide)] at H;exact H
                  clear H;have H:=H1;clear H1;exact absurd H (by simp)
                 rw [if_neg c114] at H
                 have c114b0 : (t207 == 0) = false:=beq_eq_false_iff_ne.mpr c114;have c114b1 : (t207 != 0) = true:=bne_iff_ne.mpr c114;exact absurd H (by simp)
                rw [if_neg c113] at H
                have c113b0 : (t198 == 0) = false:=beq_eq_false_iff_ne.mpr c113;have c113b1 : (t198 != 0) = true:=bne_iff_ne.mpr c113;exact absurd H (by simp)
               rw [if_neg c112] at H
               have c112b0 : (t190 == 0) = false:=beq_eq_false_iff_ne.mpr c112;have c112b1 : (t190 != 0) = true:=bne_iff_ne.mpr c112;exact absurd H (by simp)
              rw [if_neg c111] at H
              have c111b0 : (t156 == (y153.length : Int)) = false:=beq_eq_false_iff_ne.mpr c111;have c111b1 : (t156 != (y153.length : Int)) = true:=bne_iff_ne.mpr c111;exact absurd H (by simp)
             replace c110:=Bool.eq_false_iff.mpr c110;subst c110
             have H1 : (none) = some r:=by rw [if_neg (show ¬ (false = true) by decide)] at H;exact H
             clear H;have H:=H1;clear H1;exact absurd H (by simp)
            replace c109:=Bool.eq_false_iff.mpr c109;subst c109
            have H1 : (none) = some r:=by rw [if_neg (show ¬ (false = true) by decide)] at H;exact H
            clear H;have H:=H1;clear H1;exact absurd H (by simp)
         rw [if_neg c59] at H
         have c59b0 : (t163 == 0) = false:=beq_eq_false_iff_ne.mpr c59;have c59b1 : (t163 != 0) = true:=bne_iff_ne.mpr c59;obtain rfl:=Option.some.inj H;go_wp2
         go_ret;exact ⟨er_,(hb_ HB)⟩
      rw [if_neg c39] at H
      have c39b0 : (t148 == 0) = false:=beq_eq_false_iff_ne.mpr c39;have c39b1 : (t148 != 0) = true:=bne_iff_ne.mpr c39
      by_cases c130 : t148 = 121
      ·rw [if_pos c130] at H
       have c130b0 : (t148 == 121) = true:=beq_iff_eq.mpr c130;have c130b1 : (t148 != 121) = false:=bne_eq_false_iff_eq.mpr c130;clear c130
       by_cases c131 : t163 = 121
       ·rw [if_pos c131] at H
        have c131b0 : (t163 == 121) = true:=beq_iff_eq.mpr c131;have c131b1 : (t163 != 121) = false:=bne_eq_false_iff_eq.mpr c131;clear c131;replace H:=Option.bind_eq_some_iff.mp H;obtain ⟨t172,A1320,H⟩:=H;replace H : (if t172 = true then ((quarrylaw31_same.f t156 t157 t158 t159 t160 t161 t162 0 0 0 0 0 0 0).bind fun t173=>(some t173)) else (none)) = some r:=H;have A132:=Aside0.mk A1320;clear A1320
        by_cases c133 : t172 = true
        ·subst c133
         have H1 : ((quarrylaw31_same.f t156 t157 t158 t159 t160 t161 t162 0 0 0 0 0 0 0).bind fun t173=>(some t173)) = some r:=by rw [if_pos rfl] at H;exact H
         clear H;have H:=H1;clear H1;replace H:=Option.bind_eq_some_iff.mp H;obtain ⟨t173,A1340,H⟩:=H;replace H : (some t173) = some r:=H;have A134:=Aside0.mk A1340;clear A1340;obtain rfl:=Option.some.inj H;have hnb135:=NB149_164.out;have hnc135:=NB164_149.out;obtain ⟨hcz136_0,hcz136_1,hcz136_2,hcz136_3,hcz136_4,hcz136_5,hcz136_6,hfz136_0,hfz136_1,hfz136_2,hfz136_3,hfz136_4,hfz136_5,hfz136_6⟩:=cf7_ BK149
         go_wp2_with (first|(go_at_call 15;(with_reducible refine (quarrylaw31_same.calls t141 t142 t143 t144 t145 t146 t147 0 0 0 0 0 0 0 true _ A132.out).mono ?_);rintro e w137 ⟨rfl,hb⟩;have n_:=J_ (Kd.R_below (rk_ HO_7) hb) (J_ (bkb_ BK149 hb) (J_ (bkb_ BK164 hb) (Aside0.mk (below_step (hb_ HB) hb))));clear HO_7 BK149 BK164 HB;obtain ⟨HO_7,BK149,BK164,HB⟩:=n_;(try clear hb);(try clear hb2);(try clear hk);(try clear hi);obtain ⟨hcz138_0,hcz138_1,hcz138_2,hcz138_3,hcz138_4,hcz138_5,hcz138_6,hfz138_0,hfz138_1,hfz138_2,hfz138_3,hfz138_4,hfz138_5,hfz138_6⟩:=cf7_ BK164)|(go_at_call 15;(with_reducible refine (quarrylaw31_same.calls t156 t157 t158 t159 t160 t161 t162 0 0 0 0 0 0 0 t173 _ A134.out).mono ?_);rintro e w139 ⟨rfl,hb⟩;have n_:=J_ (Kd.R_below (rk_ HO_7) hb) (J_ (bkb_ BK149 hb) (J_ (bkb_ BK164 hb) (Aside0.mk (below_step (hb_ HB) hb))));clear HO_7 BK149 BK164 HB;obtain ⟨HO_7,BK149,BK164,HB⟩:=n_;(try clear hb);(try clear hb2);(try clear hk);(try clear hi)))
         go_ret;exact ⟨er_,(hb_ HB)⟩
        replace c133:=Bool.eq_false_iff.mpr c133;subst c133
        have H1 : (none) = some r:=by rw [if_neg (show ¬ (false = true) by decide)] at H;exact H
        clear H;have H:=H1;clear H1;exact absurd H (by simp)
       rw [if_neg c131] at H
       exact absurd H (by simp)
      rw [if_neg c130] at H
      exact absurd H (by simp)
   rw [if_neg c7] at H
   exact absurd H (by simp)
  rw [if_neg c6] at H
  exact absurd H (by simp)
 replace c4:=Bool.eq_false_iff.mpr c4;subst c4
 have H1 : (none) = some r:=by rw [if_neg (show ¬ (false = true) by decide)] at H;exact H
 clear H;have H:=H1;clear H1;exact absurd H (by simp)
end Go.Proofs.Ytijmdmnhbbcahaa.PTallySteps
