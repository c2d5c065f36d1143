-- Written by shrink.py, a program of this session: what the law needs of the print and its words. Lean checks it.
import Derived.Test.YtgbiobbhaejjlaaDoorZPTreeShapesx0
import Derived.Test.YtgbiobbhaejjlaaDoorZPTreeShapesx14
namespace Go.Proofs.YtgbiobbhaejjlaaDoor.PTreeShapes
open Go.RowKit Go.Proofs.YtgbiobbhaejjlaaDoorW.PrintWords Go.Proofs.YtgbiobbhaejjlaaDoorW.PrintLast Go.Proofs.YtgbiobbhaejjlaaDoorW.PrintMore
attribute [local go_sem] max2_int min2_int max_two min_two max_three min_three max_four min_four
set_option linter.unusedVariables false
set_option linter.unusedSimpArgs false
def quarryref11_is.f (a0 : ByteArray) (a1 : Int) (a2 : Int) (a3 : Int) : Option (Bool):=if a1 < (a0.size : Int) then (if 0 ≤ a1 then (if (bt a0 a1) = a2 then (some true) else (some ((bt a0 a1) == a3))) else (none)) else (some false)
set_option maxHeartbeats 8000000 in
set_option maxRecDepth 100000 in
theorem quarryref11_is.calls (a0 : ByteArray) (a1 : Int) (a2 : Int) (a3 : Int) (r : Bool) (w : World) (h : quarryref11_is.f a0 a1 a2 a3 = some r) :
  Calls Tryd.prog 69 #[.string a0,.int .i64 a1,.int .u8 a2,.int .u8 a3] w fun e w'=>e = .returned (.bool r) ∧ Drawn0 w w':=by
 have H : (if a1 < (a0.size : Int) then (if 0 ≤ a1 then (if (bt a0 a1) = a2 then (some true) else (some ((bt a0 a1) == a3))) else (none)) else (some false)) = some r:=h
 clear h
 by_cases c5 : a1 < (a0.size : Int)
 ·rw [if_pos c5] at H
  have c5b0 : decide (a1 < (a0.size : Int)) = true:=decide_eq_true c5
  clear c5
  by_cases c6 : 0 ≤ a1
  ·rw [if_pos c6] at H
   have c6b0 : decide (0 ≤ a1) = true:=decide_eq_true c6
   clear c6
   by_cases c8 : (bt a0 a1) = a2
   ·rw [if_pos c8] at H
    have c8b0 : ((bt a0 a1) == a2) = true:=beq_iff_eq.mpr c8
    have c8b1 : ((bt a0 a1) != a2) = false:=bne_eq_false_iff_eq.mpr c8
    clear c8
    obtain rfl:=Option.some.inj H
    have p7 : 0 ≤ (a1 : Int):=of_decide_eq_true (by first|(with_reducible assumption)|assumption)
    have q7 : a1 < (a0.size : Int):=of_decide_eq_true (by first|(with_reducible assumption)|assumption)
    have hx7:=bt_at a0 a1
    replace p7:=eq_true p7
    replace q7:=eq_true q7
    go_enter Tryd.func69,Tryd.ntmps69
    go_wp2
    go_ret
    exact ⟨by first|rfl|(simp;done)|(simp [*];done),by repeat (first|exact Drawn0.refl _|apply Drawn0.step)⟩
   ·rw [if_neg c8] at H
    have c8b0 : ((bt a0 a1) == a2) = false:=beq_eq_false_iff_ne.mpr c8
    have c8b1 : ((bt a0 a1) != a2) = true:=bne_iff_ne.mpr c8
    obtain rfl:=Option.some.inj H
    have p7 : 0 ≤ (a1 : Int):=of_decide_eq_true (by first|(with_reducible assumption)|assumption)
    have q7 : a1 < (a0.size : Int):=of_decide_eq_true (by first|(with_reducible assumption)|assumption)
    have hx7:=bt_at a0 a1
    replace p7:=eq_true p7
    replace q7:=eq_true q7
    have p9 : 0 ≤ (a1 : Int):=of_decide_eq_true (by first|(with_reducible assumption)|assumption)
    have q9 : a1 < (a0.size : Int):=of_decide_eq_true (by first|(with_reducible assumption)|assumption)
    have hx9:=bt_at a0 a1
    replace p9:=eq_true p9
    replace q9:=eq_true q9
    go_enter Tryd.func69,Tryd.ntmps69
    go_wp2
    go_ret
    exact ⟨by first|rfl|(simp;done)|(simp [*];done),by repeat (first|exact Drawn0.refl _|apply Drawn0.step)⟩
  ·rw [if_neg c6] at H
   exact absurd H (by simp)
 ·rw [if_neg c5] at H
  have c5b0 : decide (a1 < (a0.size : Int)) = false:=decide_eq_false c5
  clear c5
  obtain rfl:=Option.some.inj H
  go_enter Tryd.func69,Tryd.ntmps69
  go_wp2
  go_ret
  exact ⟨by first|rfl|(simp;done)|(simp [*];done),by repeat (first|exact Drawn0.refl _|apply Drawn0.step)⟩
def quarryref11_digits.l0 : Nat → ByteArray → Int → Option (Int)
 | 0,_,_=>none
 | k + 1,x0,x1=>(quarryref11_digit.f x0 x1).bind fun t155=>(if t155 = true then (quarryref11_digits.l0 k x0 (wrap64 (x1 + 1))) else (some x1))
def quarryref11_digits.f (k : Nat) (a0 : ByteArray) (a1 : Int) : Option (Int):=quarryref11_digits.l0 k a0 a1
set_option maxHeartbeats 8000000 in
set_option maxRecDepth 100000 in
theorem quarryref11_digits.calls (k : Nat) (a0 : ByteArray) (a1 : Int) (r : Int) (w : World) (h : quarryref11_digits.f k a0 a1 = some r) :
  Calls Tryd.prog 70 #[.string a0,.int .i64 a1] w fun e w'=>e = .returned (.int .i64 r) ∧ Drawn0 w w':=by
 have H : (quarryref11_digits.l0 k a0 a1) = some r:=h
 clear h
 have H':=Aside0.mk H
 clear H
 go_enter Tryd.func70,Tryd.ntmps70
 go_wp2
 go_loopg [1] k (fun kq v1 w'=>∃ (x1_1 : Int),v1 = .int .i64 x1_1 ∧ Aside0 (quarryref11_digits.l0 kq a0 x1_1 = some r) ∧ Aside0 (kq ≤ k) ∧ Drawn0 w w')
 case atStart=>exact ⟨(a1),(by first|rfl|(simp;done)|(simp [*];done)),H',⟨Nat.le_refl _⟩,by repeat (first|exact Drawn0.refl _|apply Drawn0.step)⟩
 case round =>
  clear H'
  try clear p2
  try clear HK1
  obtain ⟨x1_1,rfl,HA,HK1,⟨m1,rfl⟩⟩:=hrel
  cases gk with
  | zero=>exact absurd HA.out (by simp [quarryref11_digits.l0])
  | succ k1 =>
   have H:=HA.out
   clear HA
   simp only [quarryref11_digits.l0] at H
   replace H:=Option.bind_eq_some_iff.mp H
   obtain ⟨t155,A30,H⟩:=H
   replace H : (if t155 = true then (quarryref11_digits.l0 k1 a0 (wrap64 (x1_1 + 1))) else (some x1_1)) = some r:=H
   have A3:=Aside0.mk A30
   clear A30
   by_cases c4 : t155 = true
   ·subst c4
    have H1 : (quarryref11_digits.l0 k1 a0 (wrap64 (x1_1 + 1))) = some r:=by rw [if_pos rfl] at H;exact H
    clear H
    have H:=H1
    clear H1
    have H':=Aside0.mk H
    clear H
    go_wp2_with (first|((with_reducible refine gate_callee (f:=62) rfl ?_);refine goesL_ (some 7) rfl rfl Tryd.func62 (by kernel_rfl) rfl #[.string a0,.int .i64 x1_1] rfl (by (try simp only [List.map_toArray,List.map_cons,List.map_nil]);first|done|rfl|(simp only [List.length_drop,List.length_take];rfl)) ?_;(with_reducible refine (quarryref11_digit.calls a0 x1_1 true _ A3.out).mono ?_);rintro e w' ⟨rfl,⟨nd,rfl⟩⟩;refine ⟨_,rfl,?_⟩))
    go_roundg k1
    case measure=>have:=HK1.out;omega
    case rel=>exact ⟨(wrap64 (x1_1 + 1)),(by first|rfl|(simp;done)|(simp [*];done)),(by first|exact H'|(subst_vars;exact H')),⟨by have:=HK1.out;omega⟩,by repeat (first|exact Drawn0.refl _|apply Drawn0.step)⟩
   ·replace c4:=Bool.eq_false_iff.mpr c4
    subst c4
    have H1 : (some x1_1) = some r:=by rw [if_neg (show ¬ (false = true) by decide)] at H;exact H
    clear H
    have H:=H1
    clear H1
    obtain rfl:=Option.some.inj H
    go_wp2_with (first|((with_reducible refine gate_callee (f:=62) rfl ?_);refine goesL_ (some 7) rfl rfl Tryd.func62 (by kernel_rfl) rfl #[.string a0,.int .i64 x1_1] rfl (by (try simp only [List.map_toArray,List.map_cons,List.map_nil]);first|done|rfl|(simp only [List.length_drop,List.length_take];rfl)) ?_;(with_reducible refine (quarryref11_digit.calls a0 x1_1 false _ A3.out).mono ?_);rintro e w' ⟨rfl,⟨nd,rfl⟩⟩;refine ⟨_,rfl,?_⟩))
    go_ret
    exact ⟨by first|rfl|(simp;done)|(simp [*];done),by repeat (first|exact Drawn0.refl _|apply Drawn0.step)⟩
mutual
def quarryref11_scan.j0 : Nat → ByteArray → Int → Bool → ByteArray → ByteArray → ByteArray → Option (Bool × ByteArray × ByteArray × ByteArray × Int × Bool)
 | 0,_,_,_,_,_,_=>none
 | k + 1,x0,x1,x158000,x158001,x158002,x158003=>(quarryref11_digit.f x0 x1).bind fun t159=>(if t159 = true then ((quarryref11_digits.f k x0 x1).bind fun t160=>(if 0 ≤ x1 then (if x1 < (x0.size : Int) then (if (bt x0 x1) = 48 then (quarryref11_scan.j1 k x0 x1 (wrap64 (x1 + 1)) x158000 x158001 x158002 x158003) else (quarryref11_scan.j1 k x0 x1 t160 x158000 x158001 x158002 x158003)) else (none)) else (none))) else (some (x158000,x158001,x158002,x158003,x1,false)))
def quarryref11_scan.j1 : Nat → ByteArray → Int → Int → Bool → ByteArray → ByteArray → ByteArray → Option (Bool × ByteArray × ByteArray × ByteArray × Int × Bool)
 | 0,_,_,_,_,_,_,_=>none
 | k + 1,x0,x1,x8,x158000,x158001,x158002,x158003=>if 0 ≤ x1 then (if x1 ≤ x8 then (if x8 ≤ (x0.size : Int) then ((quarryref11_is.f x0 x8 46 46).bind fun t161=>(if t161 = true then ((quarryref11_digits.f k x0 (wrap64 (x8 + 1))).bind fun t162=>(if t162 = (wrap64 (x8 + 1)) then (some (x158000,x0.extract (x1 : Int).toNat (x8 : Int).toNat,x158002,x158003,t162,false)) else (if 0 ≤ (wrap64 (x8 + 1)) then (if (wrap64 (x8 + 1)) ≤ t162 then (if t162 ≤ (x0.size : Int) then (quarryref11_scan.j2 k x0 t162 x158000 (x0.extract (x1 : Int).toNat (x8 : Int).toNat) (x0.extract ((wrap64 (x8 + 1)) : Int).toNat (t162 : Int).toNat) x158003) else (none)) else (none)) else (none)))) else (quarryref11_scan.j2 k x0 x8 x158000 (x0.extract (x1 : Int).toNat (x8 : Int).toNat) x158002 x158003))) else (none)) else (none)) else (none)
def quarryref11_scan.j2 : Nat → ByteArray → Int → Bool → ByteArray → ByteArray → ByteArray → Option (Bool × ByteArray × ByteArray × ByteArray × Int × Bool)
 | 0,_,_,_,_,_,_=>none
 | k + 1,x0,x1,x158000,x158001,x158002,x158003=>(quarryref11_is.f x0 x1 101 69).bind fun t163=>(if t163 = true then ((quarryref11_is.f x0 (wrap64 (x1 + 1)) 43 45).bind fun t164=>(if t164 = true then ((quarryref11_digits.f k x0 (wrap64 ((wrap64 (x1 + 1)) + 1))).bind fun t165=>(if t165 = (wrap64 ((wrap64 (x1 + 1)) + 1)) then (some (x158000,x158001,x158002,x158003,t165,false)) else (if 0 ≤ (wrap64 (x1 + 1)) then (if (wrap64 (x1 + 1)) ≤ t165 then (if t165 ≤ (x0.size : Int) then (some (x158000,x158001,x158002,x0.extract ((wrap64 (x1 + 1)) : Int).toNat (t165 : Int).toNat,t165,true)) else (none)) else (none)) else (none)))) else ((quarryref11_digits.f k x0 (wrap64 (x1 + 1))).bind fun t166=>(if t166 = (wrap64 (x1 + 1)) then (some (x158000,x158001,x158002,x158003,t166,false)) else (if 0 ≤ (wrap64 (x1 + 1)) then (if (wrap64 (x1 + 1)) ≤ t166 then (if t166 ≤ (x0.size : Int) then (some (x158000,x158001,x158002,x0.extract ((wrap64 (x1 + 1)) : Int).toNat (t166 : Int).toNat,t166,true)) else (none)) else (none)) else (none)))))) else (some (x158000,x158001,x158002,x158003,x1,true)))
end
def quarryref11_scan.f (k : Nat) (a0 : ByteArray) (a1 : Int) : Option (Bool × ByteArray × ByteArray × ByteArray × Int × Bool):=(quarryref11_is.f a0 a1 45 45).bind fun t158=>(if t158 = true then (quarryref11_scan.j0 k a0 (wrap64 (a1 + 1)) true (⟨#[]⟩ : ByteArray) (⟨#[]⟩ : ByteArray) (⟨#[]⟩ : ByteArray)) else (quarryref11_scan.j0 k a0 a1 false (⟨#[]⟩ : ByteArray) (⟨#[]⟩ : ByteArray) (⟨#[]⟩ : ByteArray)))
set_option maxHeartbeats 8000000 in
set_option maxRecDepth 100000 in
theorem quarryref11_scan.calls (k : Nat) (a0 : ByteArray) (a1 : Int) (r1 : Bool) (r2 : ByteArray) (r3 : ByteArray) (r4 : ByteArray) (r5 : Int) (r6 : Bool) (w : World) (h : quarryref11_scan.f k a0 a1 = some (r1,r2,r3,r4,r5,r6)) :
  Calls Tryd.prog 59 #[.string a0,.int .i64 a1] w fun e w'=>e = .returned (.tuple #[.agg #[.bool r1,.string r2,.string r3,.string r4],.int .i64 r5,.bool r6]) ∧ Below w.heap.size w w':=by
 have hu73:=Tryd.underlying73
 have HB:=Aside0.mk (Below.refl w.heap.size w)
 have H : ((quarryref11_is.f a0 a1 45 45).bind fun t158=>(if t158 = true then (quarryref11_scan.j0 k a0 (wrap64 (a1 + 1)) true (⟨#[]⟩ : ByteArray) (⟨#[]⟩ : ByteArray) (⟨#[]⟩ : ByteArray)) else (quarryref11_scan.j0 k a0 a1 false (⟨#[]⟩ : ByteArray) (⟨#[]⟩ : ByteArray) (⟨#[]⟩ : ByteArray)))) = some (r1,r2,r3,r4,r5,r6):=h
 clear h
 replace H:=Option.bind_eq_some_iff.mp H
 obtain ⟨t158,A30,H⟩:=H
 replace H : (if t158 = true then (quarryref11_scan.j0 k a0 (wrap64 (a1 + 1)) true (⟨#[]⟩ : ByteArray) (⟨#[]⟩ : ByteArray) (⟨#[]⟩ : ByteArray)) else (quarryref11_scan.j0 k a0 a1 false (⟨#[]⟩ : ByteArray) (⟨#[]⟩ : ByteArray) (⟨#[]⟩ : ByteArray))) = some (r1,r2,r3,r4,r5,r6):=H
 have A3:=Aside0.mk A30
 clear A30
 have HC4:=Aside0.mk H
 clear H
 go_enter Tryd.func59,Tryd.ntmps59
 go_upto_if 13 with (first|((with_reducible refine gate_dst (N:=4) rfl ?_);refine box_event ?hg (N:=4) ?hd (cs:=#[.bool false,.string (⟨#[]⟩ : ByteArray),.string (⟨#[]⟩ : ByteArray),.string (⟨#[]⟩ : ByteArray)]) (t:=73) ?hr ?_;(case hd=>rfl);(case hg=>rfl);(case hr=>first|(go_simp;done)|(go_simp;rfl));intro gb156 hg w5 hbox hb;have n0_:=Aside0.mk (below_step (by repeat (first|(with_reducible first|exact HB.out|apply below_alloc|apply pw_below_drewN|apply below_drew1)|exact HB.out)) hb);have n1_:=Aside0.mk (hbox);have n2_:=Aside0.mk ((by rw [hg];exact (below_size (by repeat (first|(with_reducible first|exact HB.out|apply below_alloc|apply pw_below_drewN|apply below_drew1)|exact HB.out))) : w.heap.size ≤ gb156));have n3_:=Aside0.mk ((by rw [hg];exact (below_size (by repeat (first|(with_reducible first|exact HB.out|apply below_alloc|apply pw_below_drewN|apply below_drew1)|exact HB.out))) : w.heap.size ≤ gb156));clear HB;have HB:=n0_;have BK156:=n1_;have GW156:=n2_;have GE156:=n3_;clear n0_ n1_ n2_ n3_;clear hb hbox hg)|((with_reducible refine gate_dst (N:=7) rfl ?_);refine box_event ?hg (N:=7) ?hd (cs:=#[.bool false,.string (⟨#[]⟩ : ByteArray),.string (⟨#[]⟩ : ByteArray),.string (⟨#[]⟩ : ByteArray)]) (t:=73) ?hr ?_;(case hd=>rfl);(case hg=>rfl);(case hr=>first|(go_simp;done)|(go_simp;rfl));intro gb157 hg w6 hbox hb;have n0_:=Aside0.mk (blk_below (g:=gb156) (o:=.cells #[.bool false,.string (⟨#[]⟩ : ByteArray),.string (⟨#[]⟩ : ByteArray),.string (⟨#[]⟩ : ByteArray)] 73 (0,0)) (by (with_reducible repeat (first|refine blk_drewN ?_ _|refine blk_drew ?_|refine blk_alloc ?_ _));exact BK156.out) hb);have n1_:=Aside0.mk (below_step (by repeat (first|(with_reducible first|exact HB.out|apply below_alloc|apply pw_below_drewN|apply below_drew1|refine below_set ?_ GE156.out)|exact HB.out)) hb);have n2_:=Aside0.mk (hbox);have n3_:=Aside0.mk ((by rw [hg];exact (below_size (by repeat (first|(with_reducible first|exact HB.out|apply below_alloc|apply pw_below_drewN|apply below_drew1|refine below_set ?_ GE156.out)|exact HB.out))) : w.heap.size ≤ gb157));have n4_:=Aside0.mk ((by rw [hg];exact (below_size (by repeat (first|(with_reducible first|exact HB.out|apply below_alloc|apply pw_below_drewN|apply below_drew1|refine below_set ?_ GE156.out)|exact HB.out))) : w.heap.size ≤ gb157));have n5_:=Aside0.mk ((by rw [hg];exact Nat.ne_of_lt (blk_lt (g:=gb156) (o:=.cells #[.bool false,.string (⟨#[]⟩ : ByteArray),.string (⟨#[]⟩ : ByteArray),.string (⟨#[]⟩ : ByteArray)] 73 (0,0)) (by (with_reducible repeat (first|refine blk_drewN ?_ _|refine blk_drew ?_|refine blk_alloc ?_ _));exact BK156.out)) : gb156 ≠ gb157));have n6_:=Aside0.mk ((by rw [hg];exact Nat.ne_of_gt (blk_lt (g:=gb156) (o:=.cells #[.bool false,.string (⟨#[]⟩ : ByteArray),.string (⟨#[]⟩ : ByteArray),.string (⟨#[]⟩ : ByteArray)] 73 (0,0)) (by (with_reducible repeat (first|refine blk_drewN ?_ _|refine blk_drew ?_|refine blk_alloc ?_ _));exact BK156.out)) : gb157 ≠ gb156));clear BK156;clear HB;have BK156:=n0_;have HB:=n1_;have BK157:=n2_;have GW157:=n3_;have GE157:=n4_;have NB156_157:=n5_;have NB157_156:=n6_;clear n0_ n1_ n2_ n3_ n4_ n5_ n6_;clear hb hbox hg)|((with_reducible refine gate_callee (f:=69) rfl ?_);refine goesL_ (some 13) rfl rfl Tryd.func69 (by kernel_rfl) rfl #[.string a0,.int .i64 a1,.int .u8 45,.int .u8 45] rfl (by (try simp only [List.map_toArray,List.map_cons,List.map_nil]);first|done|rfl|(simp only [List.length_drop,List.length_take];rfl)) ?_;(with_reducible refine (quarryref11_is.calls a0 a1 45 45 t158 _ A3.out).mono ?_);rintro e w' ⟨rfl,⟨nd,rfl⟩⟩;refine ⟨_,rfl,?_⟩))
 (try simp only [Act.put,List.setIfInBounds_toArray,List.set_cons_zero,List.set_cons_succ])
 go_cut [1] (fun v1 wc=>∃ (kq : Nat) (x1_3 : Int) (x158000_3 : Bool),v1 = .int .i64 x1_3 ∧ Aside0 (quarryref11_scan.j0 kq a0 x1_3 x158000_3 (⟨#[]⟩ : ByteArray) (⟨#[]⟩ : ByteArray) (⟨#[]⟩ : ByteArray) = some (r1,r2,r3,r4,r5,r6)) ∧ Aside0 (kq ≤ k) ∧ Aside0 (wc.heap[gb156]? = some (.cells #[.bool false,.string (⟨#[]⟩ : ByteArray),.string (⟨#[]⟩ : ByteArray),.string (⟨#[]⟩ : ByteArray)] 73 (0,0))) ∧ Aside0 (wc.heap[gb157]? = some (.cells #[.bool x158000_3,.string (⟨#[]⟩ : ByteArray),.string (⟨#[]⟩ : ByteArray),.string (⟨#[]⟩ : ByteArray)] 73 (0,0))) ∧ Aside0 (Below w.heap.size w wc))
 case first =>
  have H:=HC4.out
  clear HC4
  by_cases c7 : t158 = true
  ·subst c7
   have H1 : (quarryref11_scan.j0 k a0 (wrap64 (a1 + 1)) true (⟨#[]⟩ : ByteArray) (⟨#[]⟩ : ByteArray) (⟨#[]⟩ : ByteArray)) = some (r1,r2,r3,r4,r5,r6):=by rw [if_pos rfl] at H;exact H
   clear H
   have H:=H1
   clear H1
   have H':=Aside0.mk H
   clear H
   have hnb8:=NB157_156.out
   have hnc8:=NB156_157.out
   have hcz9_0 : w6.cell? ⟨gb157,0,none⟩ = some (.bool false):=(blk_cell BK157.out 0).trans rfl
   have hcz9_1 : w6.cell? ⟨gb157,1,none⟩ = some (.string (⟨#[]⟩ : ByteArray)):=(blk_cell BK157.out 1).trans rfl
   have hcz9_2 : w6.cell? ⟨gb157,2,none⟩ = some (.string (⟨#[]⟩ : ByteArray)):=(blk_cell BK157.out 2).trans rfl
   have hcz9_3 : w6.cell? ⟨gb157,3,none⟩ = some (.string (⟨#[]⟩ : ByteArray)):=(blk_cell BK157.out 3).trans rfl
   have hfz9_0:=blk_frozen BK157.out 0
   have hfz9_1:=blk_frozen BK157.out 1
   have hfz9_2:=blk_frozen BK157.out 2
   have hfz9_3:=blk_frozen BK157.out 3
   go_wp2
   go_meet
   case rel=>exact ⟨_,(wrap64 (a1 + 1)),(true),(by first|rfl|(simp;done)|(simp [*];done)),(by first|exact H'|(subst_vars;exact H')),⟨by first|omega|exact Nat.le_refl _⟩,⟨by (with_reducible repeat (first|refine blk_drewN ?_ _|refine blk_drew ?_|refine blk_alloc ?_ _));refine blk_far ?_ NB156_157.out _;(with_reducible repeat (first|refine blk_drewN ?_ _|refine blk_drew ?_|refine blk_alloc ?_ _));exact BK156.out⟩,⟨by (with_reducible repeat (first|refine blk_drewN ?_ _|refine blk_drew ?_|refine blk_alloc ?_ _));refine blk_put (cs:=#[.bool false,.string (⟨#[]⟩ : ByteArray),.string (⟨#[]⟩ : ByteArray),.string (⟨#[]⟩ : ByteArray)]) ?_ 0 _ (by first|rfl|(simp only [px_pos,px_ne];rfl)|simp [px_pos,px_ne]);(with_reducible repeat (first|refine blk_drewN ?_ _|refine blk_drew ?_|refine blk_alloc ?_ _));exact BK157.out⟩,⟨by repeat (first|(with_reducible first|exact HB.out|apply below_alloc|apply pw_below_drewN|apply below_drew1|refine below_set ?_ GE156.out|refine below_set ?_ GE157.out)|exact HB.out)⟩⟩
  ·replace c7:=Bool.eq_false_iff.mpr c7
   subst c7
   have H1 : (quarryref11_scan.j0 k a0 a1 false (⟨#[]⟩ : ByteArray) (⟨#[]⟩ : ByteArray) (⟨#[]⟩ : ByteArray)) = some (r1,r2,r3,r4,r5,r6):=by rw [if_neg (show ¬ (false = true) by decide)] at H;exact H
   clear H
   have H:=H1
   clear H1
   have H':=Aside0.mk H
   clear H
   go_wp2
   go_meet
   case rel=>exact ⟨_,(a1),(false),(by first|rfl|(simp;done)|(simp [*];done)),(by first|exact H'|(subst_vars;exact H')),⟨by first|omega|exact Nat.le_refl _⟩,⟨by (with_reducible repeat (first|refine blk_drewN ?_ _|refine blk_drew ?_|refine blk_alloc ?_ _));exact BK156.out⟩,⟨by (with_reducible repeat (first|refine blk_drewN ?_ _|refine blk_drew ?_|refine blk_alloc ?_ _));exact BK157.out⟩,⟨by repeat (first|(with_reducible first|exact HB.out|apply below_alloc|apply pw_below_drewN|apply below_drew1|refine below_set ?_ GE156.out|refine below_set ?_ GE157.out)|exact HB.out)⟩⟩
 case rest =>
  clear HC4
  try clear p2
  try clear c5
  try clear c6
  try clear p6
  try clear c7
  try clear c8
  try clear hcz9_0
  try clear hcz9_1
  try clear hcz9_2
  try clear hcz9_3
  try clear hfz9_0
  try clear hfz9_1
  try clear hfz9_2
  try clear hfz9_3
  obtain ⟨kq,x1_3,x158000_3,rfl,HA,HJ3,BK156,BK157,HB⟩:=hcut
  cases kq with
  | zero=>exact absurd HA.out (by simp [quarryref11_scan.j0])
  | succ kj3 =>
   have H:=HA.out
   clear HA
   simp only [quarryref11_scan.j0] at H
   replace H:=Option.bind_eq_some_iff.mp H
   obtain ⟨t159,A100,H⟩:=H
   replace H : (if t159 = true then ((quarryref11_digits.f kj3 a0 x1_3).bind fun t160=>(if 0 ≤ x1_3 then (if x1_3 < (a0.size : Int) then (if (bt a0 x1_3) = 48 then (quarryref11_scan.j1 kj3 a0 x1_3 (wrap64 (x1_3 + 1)) x158000_3 (⟨#[]⟩ : ByteArray) (⟨#[]⟩ : ByteArray) (⟨#[]⟩ : ByteArray)) else (quarryref11_scan.j1 kj3 a0 x1_3 t160 x158000_3 (⟨#[]⟩ : ByteArray) (⟨#[]⟩ : ByteArray) (⟨#[]⟩ : ByteArray))) else (none)) else (none))) else (some (x158000_3,(⟨#[]⟩ : ByteArray),(⟨#[]⟩ : ByteArray),(⟨#[]⟩ : ByteArray),x1_3,false))) = some (r1,r2,r3,r4,r5,r6):=H
   have A10:=Aside0.mk A100
   clear A100
   by_cases c11 : t159 = true
   ·subst c11
    have H1 : ((quarryref11_digits.f kj3 a0 x1_3).bind fun t160=>(if 0 ≤ x1_3 then (if x1_3 < (a0.size : Int) then (if (bt a0 x1_3) = 48 then (quarryref11_scan.j1 kj3 a0 x1_3 (wrap64 (x1_3 + 1)) x158000_3 (⟨#[]⟩ : ByteArray) (⟨#[]⟩ : ByteArray) (⟨#[]⟩ : ByteArray)) else (quarryref11_scan.j1 kj3 a0 x1_3 t160 x158000_3 (⟨#[]⟩ : ByteArray) (⟨#[]⟩ : ByteArray) (⟨#[]⟩ : ByteArray))) else (none)) else (none))) = some (r1,r2,r3,r4,r5,r6):=by rw [if_pos rfl] at H;exact H
    clear H
    have H:=H1
    clear H1
    replace H:=Option.bind_eq_some_iff.mp H
    obtain ⟨t160,A120,H⟩:=H
    replace H : (if 0 ≤ x1_3 then (if x1_3 < (a0.size : Int) then (if (bt a0 x1_3) = 48 then (quarryref11_scan.j1 kj3 a0 x1_3 (wrap64 (x1_3 + 1)) x158000_3 (⟨#[]⟩ : ByteArray) (⟨#[]⟩ : ByteArray) (⟨#[]⟩ : ByteArray)) else (quarryref11_scan.j1 kj3 a0 x1_3 t160 x158000_3 (⟨#[]⟩ : ByteArray) (⟨#[]⟩ : ByteArray) (⟨#[]⟩ : ByteArray))) else (none)) else (none)) = some (r1,r2,r3,r4,r5,r6):=H
    have A12:=Aside0.mk A120
    clear A120
    by_cases c13 : 0 ≤ x1_3
    ·rw [if_pos c13] at H
     have c13b0 : decide (0 ≤ x1_3) = true:=decide_eq_true c13
     clear c13
     by_cases c14 : x1_3 < (a0.size : Int)
     ·rw [if_pos c14] at H
      have c14b0 : decide (x1_3 < (a0.size : Int)) = true:=decide_eq_true c14
      clear c14
      have HC16:=Aside0.mk H
      clear H
      go_upto_if 29 with (first|((with_reducible refine gate_callee (f:=62) rfl ?_);refine goesL_ (some 19) rfl rfl Tryd.func62 (by kernel_rfl) rfl #[.string a0,.int .i64 x1_3] rfl (by (try simp only [List.map_toArray,List.map_cons,List.map_nil]);first|done|rfl|(simp only [List.length_drop,List.length_take];rfl)) ?_;(with_reducible refine (quarryref11_digit.calls a0 x1_3 true _ A10.out).mono ?_);rintro e w' ⟨rfl,⟨nd,rfl⟩⟩;refine ⟨_,rfl,?_⟩)|((with_reducible refine gate_callee (f:=70) rfl ?_);refine goesL_ (some 25) rfl rfl Tryd.func70 (by kernel_rfl) rfl #[.string a0,.int .i64 x1_3] rfl (by (try simp only [List.map_toArray,List.map_cons,List.map_nil]);first|done|rfl|(simp only [List.length_drop,List.length_take];rfl)) ?_;(with_reducible refine (quarryref11_digits.calls kj3 a0 x1_3 t160 _ A12.out).mono ?_);rintro e w' ⟨rfl,⟨nd,rfl⟩⟩;refine ⟨_,rfl,?_⟩;have p15 : 0 ≤ (x1_3 : Int):=of_decide_eq_true (by first|(with_reducible assumption)|assumption);have q15 : x1_3 < (a0.size : Int):=of_decide_eq_true (by first|(with_reducible assumption)|assumption);have hx15:=bt_at a0 x1_3;replace p15:=eq_true p15;replace q15:=eq_true q15))
      (try simp only [Act.put,List.setIfInBounds_toArray,List.set_cons_zero,List.set_cons_succ])
      go_cut [8] (fun v8 wc=>∃ (kq : Nat) (x8_15 : Int),v8 = .int .i64 x8_15 ∧ Aside0 (quarryref11_scan.j1 kq a0 x1_3 x8_15 x158000_3 (⟨#[]⟩ : ByteArray) (⟨#[]⟩ : ByteArray) (⟨#[]⟩ : ByteArray) = some (r1,r2,r3,r4,r5,r6)) ∧ Aside0 (kq ≤ kj3) ∧ Aside0 (wc.heap[gb156]? = some (.cells #[.bool false,.string (⟨#[]⟩ : ByteArray),.string (⟨#[]⟩ : ByteArray),.string (⟨#[]⟩ : ByteArray)] 73 (0,0))) ∧ Aside0 (wc.heap[gb157]? = some (.cells #[.bool x158000_3,.string (⟨#[]⟩ : ByteArray),.string (⟨#[]⟩ : ByteArray),.string (⟨#[]⟩ : ByteArray)] 73 (0,0))) ∧ Aside0 (Below w.heap.size w wc))
      case first =>
       have H:=HC16.out
       clear HC16
       by_cases c17 : (bt a0 x1_3) = 48
       ·rw [if_pos c17] at H
        have c17b0 : ((bt a0 x1_3) == 48) = true:=beq_iff_eq.mpr c17
        have c17b1 : ((bt a0 x1_3) != 48) = false:=bne_eq_false_iff_eq.mpr c17
        clear c17
        (first|rw [c17b0]|(simp only [i64_w,i32_w];rw [c17b0])|skip)
        have H':=Aside0.mk H
        clear H
        go_wp2
        go_meet
        case rel=>exact ⟨_,(wrap64 (x1_3 + 1)),(by first|rfl|(simp;done)|(simp [*];done)),(by first|exact H'|(subst_vars;exact H')),⟨by have:=HJ3.out;first|omega|exact Nat.le_refl _⟩,⟨by (with_reducible repeat (first|refine blk_drewN ?_ _|refine blk_drew ?_|refine blk_alloc ?_ _));exact BK156.out⟩,⟨by (with_reducible repeat (first|refine blk_drewN ?_ _|refine blk_drew ?_|refine blk_alloc ?_ _));exact BK157.out⟩,⟨by repeat (first|(with_reducible first|exact HB.out|apply below_alloc|apply pw_below_drewN|apply below_drew1|refine below_set ?_ GE156.out|refine below_set ?_ GE157.out)|exact HB.out)⟩⟩
       ·rw [if_neg c17] at H
        have c17b0 : ((bt a0 x1_3) == 48) = false:=beq_eq_false_iff_ne.mpr c17
        have c17b1 : ((bt a0 x1_3) != 48) = true:=bne_iff_ne.mpr c17
        (first|rw [c17b0]|(simp only [i64_w,i32_w];rw [c17b0])|skip)
        have H':=Aside0.mk H
        clear H
        go_wp2
        go_meet
        case rel=>exact ⟨_,(t160),(by first|rfl|(simp;done)|(simp [*];done)),(by first|exact H'|(subst_vars;exact H')),⟨by have:=HJ3.out;first|omega|exact Nat.le_refl _⟩,⟨by (with_reducible repeat (first|refine blk_drewN ?_ _|refine blk_drew ?_|refine blk_alloc ?_ _));exact BK156.out⟩,⟨by (with_reducible repeat (first|refine blk_drewN ?_ _|refine blk_drew ?_|refine blk_alloc ?_ _));exact BK157.out⟩,⟨by repeat (first|(with_reducible first|exact HB.out|apply below_alloc|apply pw_below_drewN|apply below_drew1|refine below_set ?_ GE156.out|refine below_set ?_ GE157.out)|exact HB.out)⟩⟩
      case rest =>
       clear HC16
       try clear c1
       try clear p1
       try clear q1
       try clear hx1
       try clear p2
       try clear c5
       try clear c6
       try clear p6
       try clear c7
       try clear c8
       try clear c11
       try clear c13
       try clear c13b0
       try clear c14
       try clear c14b0
       try clear p15
       try clear q15
       try clear hx15
       try clear c17
       try clear c17b0
       try clear c17b1
       try clear hcz9_0
       try clear hcz9_1
       try clear hcz9_2
       try clear hcz9_3
       try clear hfz9_0
       try clear hfz9_1
       try clear hfz9_2
       try clear hfz9_3
       try clear p15
       try clear p2
       try clear p6
       try clear q15
       obtain ⟨kq,x8_15,rfl,HA,HJ15,BK156,BK157,HB⟩:=hcut
       cases kq with
       | zero=>exact absurd HA.out (by simp [quarryref11_scan.j1])
       | succ kj15 =>
        have H:=HA.out
        clear HA
        simp only [quarryref11_scan.j1] at H
        by_cases c18 : 0 ≤ x1_3
        ·rw [if_pos c18] at H
         have c18b0:=eq_true c18
         have c18b1 : decide (0 ≤ x1_3) = true:=decide_eq_true c18
         clear c18
         by_cases c19 : x1_3 ≤ x8_15
         ·rw [if_pos c19] at H
          have c19b0:=eq_true c19
          have c19b1 : decide (x1_3 ≤ x8_15) = true:=decide_eq_true c19
          clear c19
          by_cases c20 : x8_15 ≤ (a0.size : Int)
          ·rw [if_pos c20] at H
           have c20b0:=eq_true c20
           have c20b1 : decide (x8_15 ≤ (a0.size : Int)) = true:=decide_eq_true c20
           clear c20
           replace H:=Option.bind_eq_some_iff.mp H
           obtain ⟨t161,A210,H⟩:=H
           replace H : (if t161 = true then ((quarryref11_digits.f kj15 a0 (wrap64 (x8_15 + 1))).bind fun t162=>(if t162 = (wrap64 (x8_15 + 1)) then (some (x158000_3,a0.extract (x1_3 : Int).toNat (x8_15 : Int).toNat,(⟨#[]⟩ : ByteArray),(⟨#[]⟩ : ByteArray),t162,false)) else (if 0 ≤ (wrap64 (x8_15 + 1)) then (if (wrap64 (x8_15 + 1)) ≤ t162 then (if t162 ≤ (a0.size : Int) then (quarryref11_scan.j2 kj15 a0 t162 x158000_3 (a0.extract (x1_3 : Int).toNat (x8_15 : Int).toNat) (a0.extract ((wrap64 (x8_15 + 1)) : Int).toNat (t162 : Int).toNat) (⟨#[]⟩ : ByteArray)) else (none)) else (none)) else (none)))) else (quarryref11_scan.j2 kj15 a0 x8_15 x158000_3 (a0.extract (x1_3 : Int).toNat (x8_15 : Int).toNat) (⟨#[]⟩ : ByteArray) (⟨#[]⟩ : ByteArray))) = some (r1,r2,r3,r4,r5,r6):=H
           have A21:=Aside0.mk A210
           clear A210
           have HC22:=Aside0.mk H
           clear H
           have hnb23:=NB157_156.out
           have hnc23:=NB156_157.out
           have hcz24_0 : wc.cell? ⟨gb157,0,none⟩ = some (.bool x158000_3):=(blk_cell BK157.out 0).trans rfl
           have hcz24_1 : wc.cell? ⟨gb157,1,none⟩ = some (.string (⟨#[]⟩ : ByteArray)):=(blk_cell BK157.out 1).trans rfl
           have hcz24_2 : wc.cell? ⟨gb157,2,none⟩ = some (.string (⟨#[]⟩ : ByteArray)):=(blk_cell BK157.out 2).trans rfl
           have hcz24_3 : wc.cell? ⟨gb157,3,none⟩ = some (.string (⟨#[]⟩ : ByteArray)):=(blk_cell BK157.out 3).trans rfl
           have hfz24_0:=blk_frozen BK157.out 0
           have hfz24_1:=blk_frozen BK157.out 1
           have hfz24_2:=blk_frozen BK157.out 2
           have hfz24_3:=blk_frozen BK157.out 3
           go_upto_if 40 with (first|((with_reducible refine gate_callee (f:=69) rfl ?_);refine goesL_ (some 40) rfl rfl Tryd.func69 (by kernel_rfl) rfl #[.string a0,.int .i64 x8_15,.int .u8 46,.int .u8 46] rfl (by (try simp only [List.map_toArray,List.map_cons,List.map_nil]);first|done|rfl|(simp only [List.length_drop,List.length_take];rfl)) ?_;(with_reducible refine (quarryref11_is.calls a0 x8_15 46 46 t161 _ A21.out).mono ?_);rintro e w' ⟨rfl,⟨nd,rfl⟩⟩;refine ⟨_,rfl,?_⟩))
           (try simp only [Act.put,List.setIfInBounds_toArray,List.set_cons_zero,List.set_cons_succ])
           go_cut [1] (fun v1 wc=>∃ (kq : Nat) (x1_21 : Int) (x157000_21 : Bool) (x157001_21 : ByteArray) (x157002_21 : ByteArray) (x157003_21 : ByteArray) (x158002_21 : ByteArray),v1 = .int .i64 x1_21 ∧ Aside0 (quarryref11_scan.j2 kq a0 x1_21 x158000_3 (a0.extract (x1_3 : Int).toNat (x8_15 : Int).toNat) x158002_21 (⟨#[]⟩ : ByteArray) = some (r1,r2,r3,r4,r5,r6)) ∧ Aside0 (kq ≤ kj15) ∧ Aside0 (wc.heap[gb156]? = some (.cells #[.bool x157000_21,.string x157001_21,.string x157002_21,.string x157003_21] 73 (0,0))) ∧ Aside0 (wc.heap[gb157]? = some (.cells #[.bool x158000_3,.string (a0.extract (x1_3 : Int).toNat (x8_15 : Int).toNat),.string x158002_21,.string (⟨#[]⟩ : ByteArray)] 73 (0,0))) ∧ Aside0 (Below w.heap.size w wc))
           case first =>
            have H:=HC22.out
            clear HC22
            by_cases c25 : t161 = true
            ·subst c25
             have H1 : ((quarryref11_digits.f kj15 a0 (wrap64 (x8_15 + 1))).bind fun t162=>(if t162 = (wrap64 (x8_15 + 1)) then (some (x158000_3,a0.extract (x1_3 : Int).toNat (x8_15 : Int).toNat,(⟨#[]⟩ : ByteArray),(⟨#[]⟩ : ByteArray),t162,false)) else (if 0 ≤ (wrap64 (x8_15 + 1)) then (if (wrap64 (x8_15 + 1)) ≤ t162 then (if t162 ≤ (a0.size : Int) then (quarryref11_scan.j2 kj15 a0 t162 x158000_3 (a0.extract (x1_3 : Int).toNat (x8_15 : Int).toNat) (a0.extract ((wrap64 (x8_15 + 1)) : Int).toNat (t162 : Int).toNat) (⟨#[]⟩ : ByteArray)) else (none)) else (none)) else (none)))) = some (r1,r2,r3,r4,r5,r6):=by rw [if_pos rfl] at H;exact H
             clear H
             have H:=H1
             clear H1
             replace H:=Option.bind_eq_some_iff.mp H
             obtain ⟨t162,A260,H⟩:=H
             replace H : (if t162 = (wrap64 (x8_15 + 1)) then (some (x158000_3,a0.extract (x1_3 : Int).toNat (x8_15 : Int).toNat,(⟨#[]⟩ : ByteArray),(⟨#[]⟩ : ByteArray),t162,false)) else (if 0 ≤ (wrap64 (x8_15 + 1)) then (if (wrap64 (x8_15 + 1)) ≤ t162 then (if t162 ≤ (a0.size : Int) then (quarryref11_scan.j2 kj15 a0 t162 x158000_3 (a0.extract (x1_3 : Int).toNat (x8_15 : Int).toNat) (a0.extract ((wrap64 (x8_15 + 1)) : Int).toNat (t162 : Int).toNat) (⟨#[]⟩ : ByteArray)) else (none)) else (none)) else (none))) = some (r1,r2,r3,r4,r5,r6):=H
             have A26:=Aside0.mk A260
             clear A260
             by_cases c27 : t162 = (wrap64 (x8_15 + 1))
             ·rw [if_pos c27] at H
              have c27b0 : (t162 == (wrap64 (x8_15 + 1))) = true:=beq_iff_eq.mpr c27
              have c27b1 : (t162 != (wrap64 (x8_15 + 1))) = false:=bne_eq_false_iff_eq.mpr c27
              clear c27
              (first|rw [c27b0]|(simp only [i64_w,i32_w];rw [c27b0])|skip)
              simp only [Option.some.injEq,Prod.mk.injEq] at H
              obtain ⟨rfl,rfl,rfl,rfl,rfl,rfl⟩:=H
              go_wp2_with (first|((with_reducible refine gate_callee (f:=70) rfl ?_);refine goesL_ (some 44) rfl rfl Tryd.func70 (by kernel_rfl) rfl #[.string a0,.int .i64 (wrap64 (x8_15 + 1))] rfl (by (try simp only [List.map_toArray,List.map_cons,List.map_nil]);first|done|rfl|(simp only [List.length_drop,List.length_take];rfl)) ?_;(with_reducible refine (quarryref11_digits.calls kj15 a0 (wrap64 (x8_15 + 1)) t162 _ A26.out).mono ?_);rintro e w' ⟨rfl,⟨nd,rfl⟩⟩;refine ⟨_,rfl,?_⟩;have hnb28:=NB157_156.out;have hnc28:=NB156_157.out;have hcz29_0 : wc.cell? ⟨gb157,0,none⟩ = some (.bool x158000_3):=(blk_cell BK157.out 0).trans rfl;have hcz29_1 : wc.cell? ⟨gb157,1,none⟩ = some (.string (⟨#[]⟩ : ByteArray)):=(blk_cell BK157.out 1).trans rfl;have hcz29_2 : wc.cell? ⟨gb157,2,none⟩ = some (.string (⟨#[]⟩ : ByteArray)):=(blk_cell BK157.out 2).trans rfl;have hcz29_3 : wc.cell? ⟨gb157,3,none⟩ = some (.string (⟨#[]⟩ : ByteArray)):=(blk_cell BK157.out 3).trans rfl;have hfz29_0:=blk_frozen BK157.out 0;have hfz29_1:=blk_frozen BK157.out 1;have hfz29_2:=blk_frozen BK157.out 2;have hfz29_3:=blk_frozen BK157.out 3;have hcz30_0 : wc.cell? ⟨gb156,0,none⟩ = some (.bool false):=(blk_cell BK156.out 0).trans rfl;have hcz30_1 : wc.cell? ⟨gb156,1,none⟩ = some (.string (⟨#[]⟩ : ByteArray)):=(blk_cell BK156.out 1).trans rfl;have hcz30_2 : wc.cell? ⟨gb156,2,none⟩ = some (.string (⟨#[]⟩ : ByteArray)):=(blk_cell BK156.out 2).trans rfl;have hcz30_3 : wc.cell? ⟨gb156,3,none⟩ = some (.string (⟨#[]⟩ : ByteArray)):=(blk_cell BK156.out 3).trans rfl;have hfz30_0:=blk_frozen BK156.out 0;have hfz30_1:=blk_frozen BK156.out 1;have hfz30_2:=blk_frozen BK156.out 2;have hfz30_3:=blk_frozen BK156.out 3))
              refine bodyPost_ret (results_ctt rfl _ _ gb156 73 #[.bool x158000_3,.string (a0.extract (x1_3 : Int).toNat (x8_15 : Int).toNat),.string (⟨#[]⟩ : ByteArray),.string (⟨#[]⟩ : ByteArray)] (0,0) _ rfl (by (with_reducible repeat (first|refine blk_drewN ?_ _|refine blk_drew ?_|refine blk_alloc ?_ _));refine blk_put (cs:=#[.bool x158000_3,.string (a0.extract (x1_3 : Int).toNat (x8_15 : Int).toNat),.string (⟨#[]⟩ : ByteArray),.string (⟨#[]⟩ : ByteArray)]) ?_ 3 _ (by first|rfl|(simp only [px_pos,px_ne];rfl)|simp [px_pos,px_ne]);(with_reducible repeat (first|refine blk_drewN ?_ _|refine blk_drew ?_|refine blk_alloc ?_ _));refine blk_put (cs:=#[.bool x158000_3,.string (a0.extract (x1_3 : Int).toNat (x8_15 : Int).toNat),.string (⟨#[]⟩ : ByteArray),.string (⟨#[]⟩ : ByteArray)]) ?_ 2 _ (by first|rfl|(simp only [px_pos,px_ne];rfl)|simp [px_pos,px_ne]);(with_reducible repeat (first|refine blk_drewN ?_ _|refine blk_drew ?_|refine blk_alloc ?_ _));refine blk_put (cs:=#[.bool x158000_3,.string (⟨#[]⟩ : ByteArray),.string (⟨#[]⟩ : ByteArray),.string (⟨#[]⟩ : ByteArray)]) ?_ 1 _ (by first|rfl|(simp only [px_pos,px_ne];rfl)|simp [px_pos,px_ne]);(with_reducible repeat (first|refine blk_drewN ?_ _|refine blk_drew ?_|refine blk_alloc ?_ _));refine blk_put (cs:=#[.bool false,.string (⟨#[]⟩ : ByteArray),.string (⟨#[]⟩ : ByteArray),.string (⟨#[]⟩ : ByteArray)]) ?_ 0 _ (by first|rfl|(simp only [px_pos,px_ne];rfl)|simp [px_pos,px_ne]);(with_reducible repeat (first|refine blk_drewN ?_ _|refine blk_drew ?_|refine blk_alloc ?_ _));refine blk_far ?_ NB156_157.out _;(with_reducible repeat (first|refine blk_drewN ?_ _|refine blk_drew ?_|refine blk_alloc ?_ _));exact BK156.out) Tryd.underlying73 rfl (by kernel_rfl)) rfl ?_
              exact ⟨by first|rfl|(simp [errW_none,errW_some] <;> rfl)|(simp [*,errW_none,errW_some] <;> rfl),by repeat (first|(with_reducible first|exact HB.out|apply below_alloc|apply pw_below_drewN|apply below_drew1|refine below_set ?_ GE156.out|refine below_set ?_ GE157.out)|exact HB.out)⟩
             ·rw [if_neg c27] at H
              have c27b0 : (t162 == (wrap64 (x8_15 + 1))) = false:=beq_eq_false_iff_ne.mpr c27
              have c27b1 : (t162 != (wrap64 (x8_15 + 1))) = true:=bne_iff_ne.mpr c27
              (first|rw [c27b0]|(simp only [i64_w,i32_w];rw [c27b0])|skip)
              obtain ⟨ji31,hji31⟩ : ∃ j_ : Int,(wrap64 (x8_15 + 1)) = j_:=⟨_,rfl⟩
              replace H : (if 0 ≤ (ji31) then (if (ji31) ≤ t162 then (if t162 ≤ (a0.size : Int) then (quarryref11_scan.j2 kj15 a0 t162 x158000_3 (a0.extract (x1_3 : Int).toNat (x8_15 : Int).toNat) (a0.extract ((ji31) : Int).toNat (t162 : Int).toNat) (⟨#[]⟩ : ByteArray)) else (none)) else (none)) else (none)) = some (r1,r2,r3,r4,r5,r6):=by first|(rw [hji31] at H;exact H)|(simp only [hji31] at H ⊢;exact H)
              (try rw [hji31] at c27b0)
              (try rw [hji31] at c27b1)
              (try rw [hji31] at A26)
              have hji31w : (IntKind.i64.wrap (x8_15 + 1)) = ji31:=(i64_w _).trans hji31
              by_cases c32 : 0 ≤ (ji31)
              ·rw [if_pos c32] at H
               have c32b0:=eq_true c32
               have c32b1 : decide (0 ≤ (ji31)) = true:=decide_eq_true c32
               clear c32
               by_cases c33 : (ji31) ≤ t162
               ·rw [if_pos c33] at H
                have c33b0:=eq_true c33
                have c33b1 : decide ((ji31) ≤ t162) = true:=decide_eq_true c33
                clear c33
                by_cases c34 : t162 ≤ (a0.size : Int)
                ·rw [if_pos c34] at H
                 have c34b0:=eq_true c34
                 have c34b1 : decide (t162 ≤ (a0.size : Int)) = true:=decide_eq_true c34
                 clear c34
                 have H':=Aside0.mk H
                 clear H
                 go_wp2_with (first|((with_reducible refine gate_callee (f:=70) rfl ?_);refine goesL_ (some 44) rfl rfl Tryd.func70 (by kernel_rfl) rfl #[.string a0,.int .i64 ji31] rfl (by (try simp only [List.map_toArray,List.map_cons,List.map_nil]);first|done|(simp only [hji31];rfl)|rfl|(simp only [List.length_drop,List.length_take];rfl)) ?_;(with_reducible refine (quarryref11_digits.calls kj15 a0 ji31 t162 _ A26.out).mono ?_);rintro e w' ⟨rfl,⟨nd,rfl⟩⟩;refine ⟨_,rfl,?_⟩;have hnb35:=NB157_156.out;have hnc35:=NB156_157.out;have hcz36_0 : wc.cell? ⟨gb157,0,none⟩ = some (.bool x158000_3):=(blk_cell BK157.out 0).trans rfl;have hcz36_1 : wc.cell? ⟨gb157,1,none⟩ = some (.string (⟨#[]⟩ : ByteArray)):=(blk_cell BK157.out 1).trans rfl;have hcz36_2 : wc.cell? ⟨gb157,2,none⟩ = some (.string (⟨#[]⟩ : ByteArray)):=(blk_cell BK157.out 2).trans rfl;have hcz36_3 : wc.cell? ⟨gb157,3,none⟩ = some (.string (⟨#[]⟩ : ByteArray)):=(blk_cell BK157.out 3).trans rfl;have hfz36_0:=blk_frozen BK157.out 0;have hfz36_1:=blk_frozen BK157.out 1;have hfz36_2:=blk_frozen BK157.out 2;have hfz36_3:=blk_frozen BK157.out 3))
                 go_meet
                 case rel=>exact ⟨_,(t162),(false),((⟨#[]⟩ : ByteArray)),((⟨#[]⟩ : ByteArray)),((⟨#[]⟩ : ByteArray)),(a0.extract ((ji31) : Int).toNat (t162 : Int).toNat),(by first|rfl|(simp;done)|(simp [*];done)),(by first|exact H'|(subst_vars;exact H')),⟨by have:=HJ3.out;have:=HJ15.out;first|omega|exact Nat.le_refl _⟩,⟨by (with_reducible repeat (first|refine blk_drewN ?_ _|refine blk_drew ?_|refine blk_alloc ?_ _));refine blk_far ?_ NB156_157.out _;(with_reducible repeat (first|refine blk_drewN ?_ _|refine blk_drew ?_|refine blk_alloc ?_ _));refine blk_far ?_ NB156_157.out _;(with_reducible repeat (first|refine blk_drewN ?_ _|refine blk_drew ?_|refine blk_alloc ?_ _));exact BK156.out⟩,⟨by (with_reducible repeat (first|refine blk_drewN ?_ _|refine blk_drew ?_|refine blk_alloc ?_ _));refine blk_put (cs:=#[.bool x158000_3,.string (a0.extract (x1_3 : Int).toNat (x8_15 : Int).toNat),.string (⟨#[]⟩ : ByteArray),.string (⟨#[]⟩ : ByteArray)]) ?_ 2 _ (by first|rfl|(simp only [px_pos,px_ne];rfl)|simp [px_pos,px_ne]);(with_reducible repeat (first|refine blk_drewN ?_ _|refine blk_drew ?_|refine blk_alloc ?_ _));refine blk_put (cs:=#[.bool x158000_3,.string (⟨#[]⟩ : ByteArray),.string (⟨#[]⟩ : ByteArray),.string (⟨#[]⟩ : ByteArray)]) ?_ 1 _ (by first|rfl|(simp only [px_pos,px_ne];rfl)|simp [px_pos,px_ne]);(with_reducible repeat (first|refine blk_drewN ?_ _|refine blk_drew ?_|refine blk_alloc ?_ _));exact BK157.out⟩,⟨by repeat (first|(with_reducible first|exact HB.out|apply below_alloc|apply pw_below_drewN|apply below_drew1|refine below_set ?_ GE156.out|refine below_set ?_ GE157.out)|exact HB.out)⟩⟩
                ·rw [if_neg c34] at H
                 exact absurd H (by simp)
               ·rw [if_neg c33] at H
                exact absurd H (by simp)
              ·rw [if_neg c32] at H
               exact absurd H (by simp)
            ·replace c25:=Bool.eq_false_iff.mpr c25
             subst c25
             have H1 : (quarryref11_scan.j2 kj15 a0 x8_15 x158000_3 (a0.extract (x1_3 : Int).toNat (x8_15 : Int).toNat) (⟨#[]⟩ : ByteArray) (⟨#[]⟩ : ByteArray)) = some (r1,r2,r3,r4,r5,r6):=by rw [if_neg (show ¬ (false = true) by decide)] at H;exact H
             clear H
             have H:=H1
             clear H1
             have H':=Aside0.mk H
             clear H
             go_wp2
             go_meet
             case rel=>exact ⟨_,(x8_15),(false),((⟨#[]⟩ : ByteArray)),((⟨#[]⟩ : ByteArray)),((⟨#[]⟩ : ByteArray)),((⟨#[]⟩ : ByteArray)),(by first|rfl|(simp;done)|(simp [*];done)),(by first|exact H'|(subst_vars;exact H')),⟨by have:=HJ3.out;have:=HJ15.out;first|omega|exact Nat.le_refl _⟩,⟨by (with_reducible repeat (first|refine blk_drewN ?_ _|refine blk_drew ?_|refine blk_alloc ?_ _));refine blk_far ?_ NB156_157.out _;(with_reducible repeat (first|refine blk_drewN ?_ _|refine blk_drew ?_|refine blk_alloc ?_ _));exact BK156.out⟩,⟨by (with_reducible repeat (first|refine blk_drewN ?_ _|refine blk_drew ?_|refine blk_alloc ?_ _));refine blk_put (cs:=#[.bool x158000_3,.string (⟨#[]⟩ : ByteArray),.string (⟨#[]⟩ : ByteArray),.string (⟨#[]⟩ : ByteArray)]) ?_ 1 _ (by first|rfl|(simp only [px_pos,px_ne];rfl)|simp [px_pos,px_ne]);(with_reducible repeat (first|refine blk_drewN ?_ _|refine blk_drew ?_|refine blk_alloc ?_ _));exact BK157.out⟩,⟨by repeat (first|(with_reducible first|exact HB.out|apply below_alloc|apply pw_below_drewN|apply below_drew1|refine below_set ?_ GE156.out|refine below_set ?_ GE157.out)|exact HB.out)⟩⟩
           case rest =>
            clear HC22
            try clear c1
            try clear p1
            try clear q1
            try clear hx1
            try clear c2
            try clear p2
            try clear c3
            try clear c5
            try clear c6
            try clear p6
            try clear c7
            try clear c8
            try clear c11
            try clear c13
            try clear c13b0
            try clear c14
            try clear c14b0
            try clear p15
            try clear q15
            try clear hx15
            try clear c17
            try clear c17b0
            try clear c17b1
            try clear c18
            try clear c18b0
            try clear c18b1
            try clear c19
            try clear c19b0
            try clear c19b1
            try clear c20
            try clear c20b0
            try clear c20b1
            try clear c23
            try clear c25
            try clear c27
            try clear c27b0
            try clear c27b1
            try clear c28
            try clear c32
            try clear c32b0
            try clear c32b1
            try clear c33
            try clear c33b0
            try clear c33b1
            try clear c34
            try clear c34b0
            try clear c34b1
            try clear c35
            try clear hcz24_0
            try clear hcz24_1
            try clear hcz24_2
            try clear hcz24_3
            try clear hcz29_0
            try clear hcz29_1
            try clear hcz29_2
            try clear hcz29_3
            try clear hcz30_0
            try clear hcz30_1
            try clear hcz30_2
            try clear hcz30_3
            try clear hcz36_0
            try clear hcz36_1
            try clear hcz36_2
            try clear hcz36_3
            try clear hcz9_0
            try clear hcz9_1
            try clear hcz9_2
            try clear hcz9_3
            try clear hfz24_0
            try clear hfz24_1
            try clear hfz24_2
            try clear hfz24_3
            try clear hfz29_0
            try clear hfz29_1
            try clear hfz29_2
            try clear hfz29_3
            try clear hfz30_0
            try clear hfz30_1
            try clear hfz30_2
            try clear hfz30_3
            try clear hfz36_0
            try clear hfz36_1
            try clear hfz36_2
            try clear hfz36_3
            try clear hfz9_0
            try clear hfz9_1
            try clear hfz9_2
            try clear hfz9_3
            try clear p1
            try clear p15
            try clear p2
            try clear p6
            try clear q1
            try clear q15
            obtain ⟨kq,x1_21,x157000_21,x157001_21,x157002_21,x157003_21,x158002_21,rfl,HA,HJ21,BK156,BK157,HB⟩:=hcut
            cases kq with
            | zero=>exact absurd HA.out (by simp [quarryref11_scan.j2])
            | succ kj21 =>
             have H:=HA.out
             clear HA
             simp only [quarryref11_scan.j2] at H
             replace H:=Option.bind_eq_some_iff.mp H
             obtain ⟨t163,A370,H⟩:=H
             replace H : (if t163 = true then ((quarryref11_is.f a0 (wrap64 (x1_21 + 1)) 43 45).bind fun t164=>(if t164 = true then ((quarryref11_digits.f kj21 a0 (wrap64 ((wrap64 (x1_21 + 1)) + 1))).bind fun t165=>(if t165 = (wrap64 ((wrap64 (x1_21 + 1)) + 1)) then (some (x158000_3,(a0.extract (x1_3 : Int).toNat (x8_15 : Int).toNat),x158002_21,(⟨#[]⟩ : ByteArray),t165,false)) else (if 0 ≤ (wrap64 (x1_21 + 1)) then (if (wrap64 (x1_21 + 1)) ≤ t165 then (if t165 ≤ (a0.size : Int) then (some (x158000_3,(a0.extract (x1_3 : Int).toNat (x8_15 : Int).toNat),x158002_21,a0.extract ((wrap64 (x1_21 + 1)) : Int).toNat (t165 : Int).toNat,t165,true)) else (none)) else (none)) else (none)))) else ((quarryref11_digits.f kj21 a0 (wrap64 (x1_21 + 1))).bind fun t166=>(if t166 = (wrap64 (x1_21 + 1)) then (some (x158000_3,(a0.extract (x1_3 : Int).toNat (x8_15 : Int).toNat),x158002_21,(⟨#[]⟩ : ByteArray),t166,false)) else (if 0 ≤ (wrap64 (x1_21 + 1)) then (if (wrap64 (x1_21 + 1)) ≤ t166 then (if t166 ≤ (a0.size : Int) then (some (x158000_3,(a0.extract (x1_3 : Int).toNat (x8_15 : Int).toNat),x158002_21,a0.extract ((wrap64 (x1_21 + 1)) : Int).toNat (t166 : Int).toNat,t166,true)) else (none)) else (none)) else (none)))))) else (some (x158000_3,(a0.extract (x1_3 : Int).toNat (x8_15 : Int).toNat),x158002_21,(⟨#[]⟩ : ByteArray),x1_21,true))) = some (r1,r2,r3,r4,r5,r6):=H
             have A37:=Aside0.mk A370
             clear A370
             by_cases c38 : t163 = true
             ·subst c38
              have H1 : ((quarryref11_is.f a0 (wrap64 (x1_21 + 1)) 43 45).bind fun t164=>(if t164 = true then ((quarryref11_digits.f kj21 a0 (wrap64 ((wrap64 (x1_21 + 1)) + 1))).bind fun t165=>(if t165 = (wrap64 ((wrap64 (x1_21 + 1)) + 1)) then (some (x158000_3,(a0.extract (x1_3 : Int).toNat (x8_15 : Int).toNat),x158002_21,(⟨#[]⟩ : ByteArray),t165,false)) else (if 0 ≤ (wrap64 (x1_21 + 1)) then (if (wrap64 (x1_21 + 1)) ≤ t165 then (if t165 ≤ (a0.size : Int) then (some (x158000_3,(a0.extract (x1_3 : Int).toNat (x8_15 : Int).toNat),x158002_21,a0.extract ((wrap64 (x1_21 + 1)) : Int).toNat (t165 : Int).toNat,t165,true)) else (none)) else (none)) else (none)))) else ((quarryref11_digits.f kj21 a0 (wrap64 (x1_21 + 1))).bind fun t166=>(if t166 = (wrap64 (x1_21 + 1)) then (some (x158000_3,(a0.extract (x1_3 : Int).toNat (x8_15 : Int).toNat),x158002_21,(⟨#[]⟩ : ByteArray),t166,false)) else (if 0 ≤ (wrap64 (x1_21 + 1)) then (if (wrap64 (x1_21 + 1)) ≤ t166 then (if t166 ≤ (a0.size : Int) then (some (x158000_3,(a0.extract (x1_3 : Int).toNat (x8_15 : Int).toNat),x158002_21,a0.extract ((wrap64 (x1_21 + 1)) : Int).toNat (t166 : Int).toNat,t166,true)) else (none)) else (none)) else (none)))))) = some (r1,r2,r3,r4,r5,r6):=by rw [if_pos rfl] at H;exact H
              clear H
              have H:=H1
              clear H1
              replace H:=Option.bind_eq_some_iff.mp H
              obtain ⟨t164,A390,H⟩:=H
              replace H : (if t164 = true then ((quarryref11_digits.f kj21 a0 (wrap64 ((wrap64 (x1_21 + 1)) + 1))).bind fun t165=>(if t165 = (wrap64 ((wrap64 (x1_21 + 1)) + 1)) then (some (x158000_3,(a0.extract (x1_3 : Int).toNat (x8_15 : Int).toNat),x158002_21,(⟨#[]⟩ : ByteArray),t165,false)) else (if 0 ≤ (wrap64 (x1_21 + 1)) then (if (wrap64 (x1_21 + 1)) ≤ t165 then (if t165 ≤ (a0.size : Int) then (some (x158000_3,(a0.extract (x1_3 : Int).toNat (x8_15 : Int).toNat),x158002_21,a0.extract ((wrap64 (x1_21 + 1)) : Int).toNat (t165 : Int).toNat,t165,true)) else (none)) else (none)) else (none)))) else ((quarryref11_digits.f kj21 a0 (wrap64 (x1_21 + 1))).bind fun t166=>(if t166 = (wrap64 (x1_21 + 1)) then (some (x158000_3,(a0.extract (x1_3 : Int).toNat (x8_15 : Int).toNat),x158002_21,(⟨#[]⟩ : ByteArray),t166,false)) else (if 0 ≤ (wrap64 (x1_21 + 1)) then (if (wrap64 (x1_21 + 1)) ≤ t166 then (if t166 ≤ (a0.size : Int) then (some (x158000_3,(a0.extract (x1_3 : Int).toNat (x8_15 : Int).toNat),x158002_21,a0.extract ((wrap64 (x1_21 + 1)) : Int).toNat (t166 : Int).toNat,t166,true)) else (none)) else (none)) else (none))))) = some (r1,r2,r3,r4,r5,r6):=H
              have A39:=Aside0.mk A390
              clear A390
              by_cases c40 : t164 = true
              ·subst c40
               have H1 : ((quarryref11_digits.f kj21 a0 (wrap64 ((wrap64 (x1_21 + 1)) + 1))).bind fun t165=>(if t165 = (wrap64 ((wrap64 (x1_21 + 1)) + 1)) then (some (x158000_3,(a0.extract (x1_3 : Int).toNat (x8_15 : Int).toNat),x158002_21,(⟨#[]⟩ : ByteArray),t165,false)) else (if 0 ≤ (wrap64 (x1_21 + 1)) then (if (wrap64 (x1_21 + 1)) ≤ t165 then (if t165 ≤ (a0.size : Int) then (some (x158000_3,(a0.extract (x1_3 : Int).toNat (x8_15 : Int).toNat),x158002_21,a0.extract ((wrap64 (x1_21 + 1)) : Int).toNat (t165 : Int).toNat,t165,true)) else (none)) else (none)) else (none)))) = some (r1,r2,r3,r4,r5,r6):=by rw [if_pos rfl] at H;exact H
               clear H
               have H:=H1
               clear H1
               replace H:=Option.bind_eq_some_iff.mp H
               obtain ⟨t165,A410,H⟩:=H
               replace H : (if t165 = (wrap64 ((wrap64 (x1_21 + 1)) + 1)) then (some (x158000_3,(a0.extract (x1_3 : Int).toNat (x8_15 : Int).toNat),x158002_21,(⟨#[]⟩ : ByteArray),t165,false)) else (if 0 ≤ (wrap64 (x1_21 + 1)) then (if (wrap64 (x1_21 + 1)) ≤ t165 then (if t165 ≤ (a0.size : Int) then (some (x158000_3,(a0.extract (x1_3 : Int).toNat (x8_15 : Int).toNat),x158002_21,a0.extract ((wrap64 (x1_21 + 1)) : Int).toNat (t165 : Int).toNat,t165,true)) else (none)) else (none)) else (none))) = some (r1,r2,r3,r4,r5,r6):=H
               have A41:=Aside0.mk A410
               clear A410
               by_cases c42 : t165 = (wrap64 ((wrap64 (x1_21 + 1)) + 1))
               ·rw [if_pos c42] at H
                have c42b0 : (t165 == (wrap64 ((wrap64 (x1_21 + 1)) + 1))) = true:=beq_iff_eq.mpr c42
                have c42b1 : (t165 != (wrap64 ((wrap64 (x1_21 + 1)) + 1))) = false:=bne_eq_false_iff_eq.mpr c42
                clear c42
                simp only [Option.some.injEq,Prod.mk.injEq] at H
                obtain ⟨rfl,rfl,rfl,rfl,rfl,rfl⟩:=H
                go_wp2_with (first|((with_reducible refine gate_callee (f:=69) rfl ?_);refine goesL_ (some 60) rfl rfl Tryd.func69 (by kernel_rfl) rfl #[.string a0,.int .i64 x1_21,.int .u8 101,.int .u8 69] rfl (by (try simp only [List.map_toArray,List.map_cons,List.map_nil]);first|done|rfl|(simp only [List.length_drop,List.length_take];rfl)) ?_;(with_reducible refine (quarryref11_is.calls a0 x1_21 101 69 true _ A37.out).mono ?_);rintro e w' ⟨rfl,⟨nd,rfl⟩⟩;refine ⟨_,rfl,?_⟩;(try (rw [drewN_self wc];generalize hq_ : World.drewN wc _ = wc;have n0_ : Aside0 (wc.heap[gb156]? = some (.cells #[.bool x157000_21,.string x157001_21,.string x157002_21,.string x157003_21] 73 (0,0))):=⟨by rw [← hq_];exact (by (with_reducible repeat (first|refine blk_drewN ?_ _|refine blk_drew ?_|refine blk_alloc ?_ _));exact BK156.out)⟩;have n1_ : Aside0 (wc.heap[gb157]? = some (.cells #[.bool x158000_3,.string (a0.extract (x1_3 : Int).toNat (x8_15 : Int).toNat),.string x158002_21,.string (⟨#[]⟩ : ByteArray)] 73 (0,0))):=⟨by rw [← hq_];exact (by (with_reducible repeat (first|refine blk_drewN ?_ _|refine blk_drew ?_|refine blk_alloc ?_ _));exact BK157.out)⟩;have n2_ : Aside0 (Below w.heap.size w wc):=⟨by rw [← hq_];exact (by repeat (first|(with_reducible first|exact HB.out|apply below_alloc|apply pw_below_drewN|apply below_drew1|refine below_set ?_ GE156.out|refine below_set ?_ GE157.out)|exact HB.out))⟩;clear BK156 BK157 HB hq_;have BK156:=n0_;have BK157:=n1_;have HB:=n2_;clear n0_ n1_ n2_)))|((with_reducible refine gate_callee (f:=69) rfl ?_);refine goesL_ (some 66) rfl rfl Tryd.func69 (by kernel_rfl) rfl #[.string a0,.int .i64 (wrap64 (x1_21 + 1)),.int .u8 43,.int .u8 45] rfl (by (try simp only [List.map_toArray,List.map_cons,List.map_nil]);first|done|rfl|(simp only [List.length_drop,List.length_take];rfl)) ?_;(with_reducible refine (quarryref11_is.calls a0 (wrap64 (x1_21 + 1)) 43 45 true _ A39.out).mono ?_);rintro e w' ⟨rfl,⟨nd,rfl⟩⟩;refine ⟨_,rfl,?_⟩;(try (rw [drewN_self wc];generalize hq_ : World.drewN wc _ = wc;have n0_ : Aside0 (wc.heap[gb156]? = some (.cells #[.bool x157000_21,.string x157001_21,.string x157002_21,.string x157003_21] 73 (0,0))):=⟨by rw [← hq_];exact (by (with_reducible repeat (first|refine blk_drewN ?_ _|refine blk_drew ?_|refine blk_alloc ?_ _));exact BK156.out)⟩;have n1_ : Aside0 (wc.heap[gb157]? = some (.cells #[.bool x158000_3,.string (a0.extract (x1_3 : Int).toNat (x8_15 : Int).toNat),.string x158002_21,.string (⟨#[]⟩ : ByteArray)] 73 (0,0))):=⟨by rw [← hq_];exact (by (with_reducible repeat (first|refine blk_drewN ?_ _|refine blk_drew ?_|refine blk_alloc ?_ _));exact BK157.out)⟩;have n2_ : Aside0 (Below w.heap.size w wc):=⟨by rw [← hq_];exact (by repeat (first|(with_reducible first|exact HB.out|apply below_alloc|apply pw_below_drewN|apply below_drew1|refine below_set ?_ GE156.out|refine below_set ?_ GE157.out)|exact HB.out))⟩;clear BK156 BK157 HB hq_;have BK156:=n0_;have BK157:=n1_;have HB:=n2_;clear n0_ n1_ n2_)))|((with_reducible refine gate_callee (f:=70) rfl ?_);refine goesL_ (some 71) rfl rfl Tryd.func70 (by kernel_rfl) rfl #[.string a0,.int .i64 (wrap64 ((wrap64 (x1_21 + 1)) + 1))] rfl (by (try simp only [List.map_toArray,List.map_cons,List.map_nil]);first|done|rfl|(simp only [List.length_drop,List.length_take];rfl)) ?_;(with_reducible refine (quarryref11_digits.calls kj21 a0 (wrap64 ((wrap64 (x1_21 + 1)) + 1)) t165 _ A41.out).mono ?_);rintro e w' ⟨rfl,⟨nd,rfl⟩⟩;refine ⟨_,rfl,?_⟩;(try (rw [drewN_self wc];generalize hq_ : World.drewN wc _ = wc;have n0_ : Aside0 (wc.heap[gb156]? = some (.cells #[.bool x157000_21,.string x157001_21,.string x157002_21,.string x157003_21] 73 (0,0))):=⟨by rw [← hq_];exact (by (with_reducible repeat (first|refine blk_drewN ?_ _|refine blk_drew ?_|refine blk_alloc ?_ _));exact BK156.out)⟩;have n1_ : Aside0 (wc.heap[gb157]? = some (.cells #[.bool x158000_3,.string (a0.extract (x1_3 : Int).toNat (x8_15 : Int).toNat),.string x158002_21,.string (⟨#[]⟩ : ByteArray)] 73 (0,0))):=⟨by rw [← hq_];exact (by (with_reducible repeat (first|refine blk_drewN ?_ _|refine blk_drew ?_|refine blk_alloc ?_ _));exact BK157.out)⟩;have n2_ : Aside0 (Below w.heap.size w wc):=⟨by rw [← hq_];exact (by repeat (first|(with_reducible first|exact HB.out|apply below_alloc|apply pw_below_drewN|apply below_drew1|refine below_set ?_ GE156.out|refine below_set ?_ GE157.out)|exact HB.out))⟩;clear BK156 BK157 HB hq_;have BK156:=n0_;have BK157:=n1_;have HB:=n2_;clear n0_ n1_ n2_));have hnb43:=NB157_156.out;have hnc43:=NB156_157.out;have hcz44_0 : wc.cell? ⟨gb157,0,none⟩ = some (.bool x158000_3):=(blk_cell BK157.out 0).trans rfl;have hcz44_1 : wc.cell? ⟨gb157,1,none⟩ = some (.string (a0.extract (x1_3 : Int).toNat (x8_15 : Int).toNat)):=(blk_cell BK157.out 1).trans rfl;have hcz44_2 : wc.cell? ⟨gb157,2,none⟩ = some (.string x158002_21):=(blk_cell BK157.out 2).trans rfl;have hcz44_3 : wc.cell? ⟨gb157,3,none⟩ = some (.string (⟨#[]⟩ : ByteArray)):=(blk_cell BK157.out 3).trans rfl;have hfz44_0:=blk_frozen BK157.out 0;have hfz44_1:=blk_frozen BK157.out 1;have hfz44_2:=blk_frozen BK157.out 2;have hfz44_3:=blk_frozen BK157.out 3;have hcz45_0 : wc.cell? ⟨gb156,0,none⟩ = some (.bool x157000_21):=(blk_cell BK156.out 0).trans rfl;have hcz45_1 : wc.cell? ⟨gb156,1,none⟩ = some (.string x157001_21):=(blk_cell BK156.out 1).trans rfl;have hcz45_2 : wc.cell? ⟨gb156,2,none⟩ = some (.string x157002_21):=(blk_cell BK156.out 2).trans rfl;have hcz45_3 : wc.cell? ⟨gb156,3,none⟩ = some (.string x157003_21):=(blk_cell BK156.out 3).trans rfl;have hfz45_0:=blk_frozen BK156.out 0;have hfz45_1:=blk_frozen BK156.out 1;have hfz45_2:=blk_frozen BK156.out 2;have hfz45_3:=blk_frozen BK156.out 3))
                refine bodyPost_ret (results_ctt rfl _ _ gb156 73 #[.bool x158000_3,.string (a0.extract (x1_3 : Int).toNat (x8_15 : Int).toNat),.string x158002_21,.string (⟨#[]⟩ : ByteArray)] (0,0) _ rfl (by (with_reducible repeat (first|refine blk_drewN ?_ _|refine blk_drew ?_|refine blk_alloc ?_ _));refine blk_put (cs:=#[.bool x158000_3,.string (a0.extract (x1_3 : Int).toNat (x8_15 : Int).toNat),.string x158002_21,.string x157003_21]) ?_ 3 _ (by first|rfl|(simp only [px_pos,px_ne];rfl)|simp [px_pos,px_ne]);(with_reducible repeat (first|refine blk_drewN ?_ _|refine blk_drew ?_|refine blk_alloc ?_ _));refine blk_put (cs:=#[.bool x158000_3,.string (a0.extract (x1_3 : Int).toNat (x8_15 : Int).toNat),.string x157002_21,.string x157003_21]) ?_ 2 _ (by first|rfl|(simp only [px_pos,px_ne];rfl)|simp [px_pos,px_ne]);(with_reducible repeat (first|refine blk_drewN ?_ _|refine blk_drew ?_|refine blk_alloc ?_ _));refine blk_put (cs:=#[.bool x158000_3,.string x157001_21,.string x157002_21,.string x157003_21]) ?_ 1 _ (by first|rfl|(simp only [px_pos,px_ne];rfl)|simp [px_pos,px_ne]);(with_reducible repeat (first|refine blk_drewN ?_ _|refine blk_drew ?_|refine blk_alloc ?_ _));refine blk_put (cs:=#[.bool x157000_21,.string x157001_21,.string x157002_21,.string x157003_21]) ?_ 0 _ (by first|rfl|(simp only [px_pos,px_ne];rfl)|simp [px_pos,px_ne]);(with_reducible repeat (first|refine blk_drewN ?_ _|refine blk_drew ?_|refine blk_alloc ?_ _));exact BK156.out) Tryd.underlying73 rfl (by kernel_rfl)) rfl ?_
                exact ⟨by first|rfl|(simp [errW_none,errW_some] <;> rfl)|(simp [*,errW_none,errW_some] <;> rfl),by repeat (first|(with_reducible first|exact HB.out|apply below_alloc|apply pw_below_drewN|apply below_drew1|refine below_set ?_ GE156.out|refine below_set ?_ GE157.out)|exact HB.out)⟩
               ·rw [if_neg c42] at H
                have c42b0 : (t165 == (wrap64 ((wrap64 (x1_21 + 1)) + 1))) = false:=beq_eq_false_iff_ne.mpr c42
                have c42b1 : (t165 != (wrap64 ((wrap64 (x1_21 + 1)) + 1))) = true:=bne_iff_ne.mpr c42
                obtain ⟨ji46,hji46⟩ : ∃ j_ : Int,(wrap64 (x1_21 + 1)) = j_:=⟨_,rfl⟩
                replace H : (if 0 ≤ (ji46) then (if (ji46) ≤ t165 then (if t165 ≤ (a0.size : Int) then (some (x158000_3,(a0.extract (x1_3 : Int).toNat (x8_15 : Int).toNat),x158002_21,a0.extract ((ji46) : Int).toNat (t165 : Int).toNat,t165,true)) else (none)) else (none)) else (none)) = some (r1,r2,r3,r4,r5,r6):=by first|(rw [hji46] at H;exact H)|(simp only [hji46] at H ⊢;exact H)
                (try rw [hji46] at c42b0)
                (try rw [hji46] at c42b1)
                (try rw [hji46] at A37)
                (try rw [hji46] at A39)
                (try rw [hji46] at A41)
                have hji46w : (IntKind.i64.wrap (x1_21 + 1)) = ji46:=(i64_w _).trans hji46
                by_cases c47 : 0 ≤ (ji46)
                ·rw [if_pos c47] at H
                 have c47b0:=eq_true c47
                 have c47b1 : decide (0 ≤ (ji46)) = true:=decide_eq_true c47
                 clear c47
                 by_cases c48 : (ji46) ≤ t165
                 ·rw [if_pos c48] at H
                  have c48b0:=eq_true c48
                  have c48b1 : decide ((ji46) ≤ t165) = true:=decide_eq_true c48
                  clear c48
                  by_cases c49 : t165 ≤ (a0.size : Int)
                  ·rw [if_pos c49] at H
                   have c49b0:=eq_true c49
                   have c49b1 : decide (t165 ≤ (a0.size : Int)) = true:=decide_eq_true c49
                   clear c49
                   simp only [Option.some.injEq,Prod.mk.injEq] at H
                   obtain ⟨rfl,rfl,rfl,rfl,rfl,rfl⟩:=H
                   go_wp2_with (first|((with_reducible refine gate_callee (f:=69) rfl ?_);refine goesL_ (some 60) rfl rfl Tryd.func69 (by kernel_rfl) rfl #[.string a0,.int .i64 x1_21,.int .u8 101,.int .u8 69] rfl (by (try simp only [List.map_toArray,List.map_cons,List.map_nil]);first|done|rfl|(simp only [List.length_drop,List.length_take];rfl)) ?_;(with_reducible refine (quarryref11_is.calls a0 x1_21 101 69 true _ A37.out).mono ?_);rintro e w' ⟨rfl,⟨nd,rfl⟩⟩;refine ⟨_,rfl,?_⟩;(try (rw [drewN_self wc];generalize hq_ : World.drewN wc _ = wc;have n0_ : Aside0 (wc.heap[gb156]? = some (.cells #[.bool x157000_21,.string x157001_21,.string x157002_21,.string x157003_21] 73 (0,0))):=⟨by rw [← hq_];exact (by (with_reducible repeat (first|refine blk_drewN ?_ _|refine blk_drew ?_|refine blk_alloc ?_ _));exact BK156.out)⟩;have n1_ : Aside0 (wc.heap[gb157]? = some (.cells #[.bool x158000_3,.string (a0.extract (x1_3 : Int).toNat (x8_15 : Int).toNat),.string x158002_21,.string (⟨#[]⟩ : ByteArray)] 73 (0,0))):=⟨by rw [← hq_];exact (by (with_reducible repeat (first|refine blk_drewN ?_ _|refine blk_drew ?_|refine blk_alloc ?_ _));exact BK157.out)⟩;have n2_ : Aside0 (Below w.heap.size w wc):=⟨by rw [← hq_];exact (by repeat (first|(with_reducible first|exact HB.out|apply below_alloc|apply pw_below_drewN|apply below_drew1|refine below_set ?_ GE156.out|refine below_set ?_ GE157.out)|exact HB.out))⟩;clear BK156 BK157 HB hq_;have BK156:=n0_;have BK157:=n1_;have HB:=n2_;clear n0_ n1_ n2_)))|((with_reducible refine gate_callee (f:=69) rfl ?_);refine goesL_ (some 66) rfl rfl Tryd.func69 (by kernel_rfl) rfl #[.string a0,.int .i64 ji46,.int .u8 43,.int .u8 45] rfl (by (try simp only [List.map_toArray,List.map_cons,List.map_nil]);first|done|(simp only [hji46];rfl)|rfl|(simp only [List.length_drop,List.length_take];rfl)) ?_;(with_reducible refine (quarryref11_is.calls a0 ji46 43 45 true _ A39.out).mono ?_);rintro e w' ⟨rfl,⟨nd,rfl⟩⟩;refine ⟨_,rfl,?_⟩;(try (rw [drewN_self wc];generalize hq_ : World.drewN wc _ = wc;have n0_ : Aside0 (wc.heap[gb156]? = some (.cells #[.bool x157000_21,.string x157001_21,.string x157002_21,.string x157003_21] 73 (0,0))):=⟨by rw [← hq_];exact (by (with_reducible repeat (first|refine blk_drewN ?_ _|refine blk_drew ?_|refine blk_alloc ?_ _));exact BK156.out)⟩;have n1_ : Aside0 (wc.heap[gb157]? = some (.cells #[.bool x158000_3,.string (a0.extract (x1_3 : Int).toNat (x8_15 : Int).toNat),.string x158002_21,.string (⟨#[]⟩ : ByteArray)] 73 (0,0))):=⟨by rw [← hq_];exact (by (with_reducible repeat (first|refine blk_drewN ?_ _|refine blk_drew ?_|refine blk_alloc ?_ _));exact BK157.out)⟩;have n2_ : Aside0 (Below w.heap.size w wc):=⟨by rw [← hq_];exact (by repeat (first|(with_reducible first|exact HB.out|apply below_alloc|apply pw_below_drewN|apply below_drew1|refine below_set ?_ GE156.out|refine below_set ?_ GE157.out)|exact HB.out))⟩;clear BK156 BK157 HB hq_;have BK156:=n0_;have BK157:=n1_;have HB:=n2_;clear n0_ n1_ n2_)))|((with_reducible refine gate_callee (f:=70) rfl ?_);refine goesL_ (some 71) rfl rfl Tryd.func70 (by kernel_rfl) rfl #[.string a0,.int .i64 (wrap64 ((ji46) + 1))] rfl (by (try simp only [List.map_toArray,List.map_cons,List.map_nil]);first|done|(simp only [hji46];rfl)|rfl|(simp only [List.length_drop,List.length_take];rfl)) ?_;(with_reducible refine (quarryref11_digits.calls kj21 a0 (wrap64 ((ji46) + 1)) t165 _ A41.out).mono ?_);rintro e w' ⟨rfl,⟨nd,rfl⟩⟩;refine ⟨_,rfl,?_⟩;(try (rw [drewN_self wc];generalize hq_ : World.drewN wc _ = wc;have n0_ : Aside0 (wc.heap[gb156]? = some (.cells #[.bool x157000_21,.string x157001_21,.string x157002_21,.string x157003_21] 73 (0,0))):=⟨by rw [← hq_];exact (by (with_reducible repeat (first|refine blk_drewN ?_ _|refine blk_drew ?_|refine blk_alloc ?_ _));exact BK156.out)⟩;have n1_ : Aside0 (wc.heap[gb157]? = some (.cells #[.bool x158000_3,.string (a0.extract (x1_3 : Int).toNat (x8_15 : Int).toNat),.string x158002_21,.string (⟨#[]⟩ : ByteArray)] 73 (0,0))):=⟨by rw [← hq_];exact (by (with_reducible repeat (first|refine blk_drewN ?_ _|refine blk_drew ?_|refine blk_alloc ?_ _));exact BK157.out)⟩;have n2_ : Aside0 (Below w.heap.size w wc):=⟨by rw [← hq_];exact (by repeat (first|(with_reducible first|exact HB.out|apply below_alloc|apply pw_below_drewN|apply below_drew1|refine below_set ?_ GE156.out|refine below_set ?_ GE157.out)|exact HB.out))⟩;clear BK156 BK157 HB hq_;have BK156:=n0_;have BK157:=n1_;have HB:=n2_;clear n0_ n1_ n2_));have hnb50:=NB157_156.out;have hnc50:=NB156_157.out;have hcz51_0 : wc.cell? ⟨gb157,0,none⟩ = some (.bool x158000_3):=(blk_cell BK157.out 0).trans rfl;have hcz51_1 : wc.cell? ⟨gb157,1,none⟩ = some (.string (a0.extract (x1_3 : Int).toNat (x8_15 : Int).toNat)):=(blk_cell BK157.out 1).trans rfl;have hcz51_2 : wc.cell? ⟨gb157,2,none⟩ = some (.string x158002_21):=(blk_cell BK157.out 2).trans rfl;have hcz51_3 : wc.cell? ⟨gb157,3,none⟩ = some (.string (⟨#[]⟩ : ByteArray)):=(blk_cell BK157.out 3).trans rfl;have hfz51_0:=blk_frozen BK157.out 0;have hfz51_1:=blk_frozen BK157.out 1;have hfz51_2:=blk_frozen BK157.out 2;have hfz51_3:=blk_frozen BK157.out 3;have hcz52_0 : wc.cell? ⟨gb156,0,none⟩ = some (.bool x157000_21):=(blk_cell BK156.out 0).trans rfl;have hcz52_1 : wc.cell? ⟨gb156,1,none⟩ = some (.string x157001_21):=(blk_cell BK156.out 1).trans rfl;have hcz52_2 : wc.cell? ⟨gb156,2,none⟩ = some (.string x157002_21):=(blk_cell BK156.out 2).trans rfl;have hcz52_3 : wc.cell? ⟨gb156,3,none⟩ = some (.string x157003_21):=(blk_cell BK156.out 3).trans rfl;have hfz52_0:=blk_frozen BK156.out 0;have hfz52_1:=blk_frozen BK156.out 1;have hfz52_2:=blk_frozen BK156.out 2;have hfz52_3:=blk_frozen BK156.out 3))
                   refine bodyPost_ret (results_ctt rfl _ _ gb156 73 #[.bool x158000_3,.string (a0.extract (x1_3 : Int).toNat (x8_15 : Int).toNat),.string x158002_21,.string (a0.extract ((ji46) : Int).toNat (t165 : Int).toNat)] (0,0) _ rfl (by (with_reducible repeat (first|refine blk_drewN ?_ _|refine blk_drew ?_|refine blk_alloc ?_ _));refine blk_put (cs:=#[.bool x158000_3,.string (a0.extract (x1_3 : Int).toNat (x8_15 : Int).toNat),.string x158002_21,.string x157003_21]) ?_ 3 _ (by first|rfl|(simp only [px_pos,px_ne];rfl)|simp [px_pos,px_ne]);(with_reducible repeat (first|refine blk_drewN ?_ _|refine blk_drew ?_|refine blk_alloc ?_ _));refine blk_put (cs:=#[.bool x158000_3,.string (a0.extract (x1_3 : Int).toNat (x8_15 : Int).toNat),.string x157002_21,.string x157003_21]) ?_ 2 _ (by first|rfl|(simp only [px_pos,px_ne];rfl)|simp [px_pos,px_ne]);(with_reducible repeat (first|refine blk_drewN ?_ _|refine blk_drew ?_|refine blk_alloc ?_ _));refine blk_put (cs:=#[.bool x158000_3,.string x157001_21,.string x157002_21,.string x157003_21]) ?_ 1 _ (by first|rfl|(simp only [px_pos,px_ne];rfl)|simp [px_pos,px_ne]);(with_reducible repeat (first|refine blk_drewN ?_ _|refine blk_drew ?_|refine blk_alloc ?_ _));refine blk_put (cs:=#[.bool x157000_21,.string x157001_21,.string x157002_21,.string x157003_21]) ?_ 0 _ (by first|rfl|(simp only [px_pos,px_ne];rfl)|simp [px_pos,px_ne]);(with_reducible repeat (first|refine blk_drewN ?_ _|refine blk_drew ?_|refine blk_alloc ?_ _));refine blk_far ?_ NB156_157.out _;(with_reducible repeat (first|refine blk_drewN ?_ _|refine blk_drew ?_|refine blk_alloc ?_ _));exact BK156.out) Tryd.underlying73 rfl (by kernel_rfl)) rfl ?_
                   exact ⟨by first|rfl|(simp [errW_none,errW_some] <;> rfl)|(simp only [← hji46];first|rfl|(simp [errW_none,errW_some] <;> rfl))|(simp [*,errW_none,errW_some] <;> rfl),by repeat (first|(with_reducible first|exact HB.out|apply below_alloc|apply pw_below_drewN|apply below_drew1|refine below_set ?_ GE156.out|refine below_set ?_ GE157.out)|exact HB.out)⟩
                  ·rw [if_neg c49] at H
                   exact absurd H (by simp)
                 ·rw [if_neg c48] at H
                  exact absurd H (by simp)
                ·rw [if_neg c47] at H
                 exact absurd H (by simp)
              ·replace c40:=Bool.eq_false_iff.mpr c40
               subst c40
               have H1 : ((quarryref11_digits.f kj21 a0 (wrap64 (x1_21 + 1))).bind fun t166=>(if t166 = (wrap64 (x1_21 + 1)) then (some (x158000_3,(a0.extract (x1_3 : Int).toNat (x8_15 : Int).toNat),x158002_21,(⟨#[]⟩ : ByteArray),t166,false)) else (if 0 ≤ (wrap64 (x1_21 + 1)) then (if (wrap64 (x1_21 + 1)) ≤ t166 then (if t166 ≤ (a0.size : Int) then (some (x158000_3,(a0.extract (x1_3 : Int).toNat (x8_15 : Int).toNat),x158002_21,a0.extract ((wrap64 (x1_21 + 1)) : Int).toNat (t166 : Int).toNat,t166,true)) else (none)) else (none)) else (none)))) = some (r1,r2,r3,r4,r5,r6):=by rw [if_neg (show ¬ (false = true) by decide)] at H;exact H
               clear H
               have H:=H1
               clear H1
               replace H:=Option.bind_eq_some_iff.mp H
               obtain ⟨t166,A530,H⟩:=H
               replace H : (if t166 = (wrap64 (x1_21 + 1)) then (some (x158000_3,(a0.extract (x1_3 : Int).toNat (x8_15 : Int).toNat),x158002_21,(⟨#[]⟩ : ByteArray),t166,false)) else (if 0 ≤ (wrap64 (x1_21 + 1)) then (if (wrap64 (x1_21 + 1)) ≤ t166 then (if t166 ≤ (a0.size : Int) then (some (x158000_3,(a0.extract (x1_3 : Int).toNat (x8_15 : Int).toNat),x158002_21,a0.extract ((wrap64 (x1_21 + 1)) : Int).toNat (t166 : Int).toNat,t166,true)) else (none)) else (none)) else (none))) = some (r1,r2,r3,r4,r5,r6):=H
               have A53:=Aside0.mk A530
               clear A530
               by_cases c54 : t166 = (wrap64 (x1_21 + 1))
               ·rw [if_pos c54] at H
                have c54b0 : (t166 == (wrap64 (x1_21 + 1))) = true:=beq_iff_eq.mpr c54
                have c54b1 : (t166 != (wrap64 (x1_21 + 1))) = false:=bne_eq_false_iff_eq.mpr c54
                clear c54
                simp only [Option.some.injEq,Prod.mk.injEq] at H
                obtain ⟨rfl,rfl,rfl,rfl,rfl,rfl⟩:=H
                go_wp2_with (first|((with_reducible refine gate_callee (f:=69) rfl ?_);refine goesL_ (some 60) rfl rfl Tryd.func69 (by kernel_rfl) rfl #[.string a0,.int .i64 x1_21,.int .u8 101,.int .u8 69] rfl (by (try simp only [List.map_toArray,List.map_cons,List.map_nil]);first|done|rfl|(simp only [List.length_drop,List.length_take];rfl)) ?_;(with_reducible refine (quarryref11_is.calls a0 x1_21 101 69 true _ A37.out).mono ?_);rintro e w' ⟨rfl,⟨nd,rfl⟩⟩;refine ⟨_,rfl,?_⟩;(try (rw [drewN_self wc];generalize hq_ : World.drewN wc _ = wc;have n0_ : Aside0 (wc.heap[gb156]? = some (.cells #[.bool x157000_21,.string x157001_21,.string x157002_21,.string x157003_21] 73 (0,0))):=⟨by rw [← hq_];exact (by (with_reducible repeat (first|refine blk_drewN ?_ _|refine blk_drew ?_|refine blk_alloc ?_ _));exact BK156.out)⟩;have n1_ : Aside0 (wc.heap[gb157]? = some (.cells #[.bool x158000_3,.string (a0.extract (x1_3 : Int).toNat (x8_15 : Int).toNat),.string x158002_21,.string (⟨#[]⟩ : ByteArray)] 73 (0,0))):=⟨by rw [← hq_];exact (by (with_reducible repeat (first|refine blk_drewN ?_ _|refine blk_drew ?_|refine blk_alloc ?_ _));exact BK157.out)⟩;have n2_ : Aside0 (Below w.heap.size w wc):=⟨by rw [← hq_];exact (by repeat (first|(with_reducible first|exact HB.out|apply below_alloc|apply pw_below_drewN|apply below_drew1|refine below_set ?_ GE156.out|refine below_set ?_ GE157.out)|exact HB.out))⟩;clear BK156 BK157 HB hq_;have BK156:=n0_;have BK157:=n1_;have HB:=n2_;clear n0_ n1_ n2_)))|((with_reducible refine gate_callee (f:=69) rfl ?_);refine goesL_ (some 66) rfl rfl Tryd.func69 (by kernel_rfl) rfl #[.string a0,.int .i64 (wrap64 (x1_21 + 1)),.int .u8 43,.int .u8 45] rfl (by (try simp only [List.map_toArray,List.map_cons,List.map_nil]);first|done|rfl|(simp only [List.length_drop,List.length_take];rfl)) ?_;(with_reducible refine (quarryref11_is.calls a0 (wrap64 (x1_21 + 1)) 43 45 false _ A39.out).mono ?_);rintro e w' ⟨rfl,⟨nd,rfl⟩⟩;refine ⟨_,rfl,?_⟩;(try (rw [drewN_self wc];generalize hq_ : World.drewN wc _ = wc;have n0_ : Aside0 (wc.heap[gb156]? = some (.cells #[.bool x157000_21,.string x157001_21,.string x157002_21,.string x157003_21] 73 (0,0))):=⟨by rw [← hq_];exact (by (with_reducible repeat (first|refine blk_drewN ?_ _|refine blk_drew ?_|refine blk_alloc ?_ _));exact BK156.out)⟩;have n1_ : Aside0 (wc.heap[gb157]? = some (.cells #[.bool x158000_3,.string (a0.extract (x1_3 : Int).toNat (x8_15 : Int).toNat),.string x158002_21,.string (⟨#[]⟩ : ByteArray)] 73 (0,0))):=⟨by rw [← hq_];exact (by (with_reducible repeat (first|refine blk_drewN ?_ _|refine blk_drew ?_|refine blk_alloc ?_ _));exact BK157.out)⟩;have n2_ : Aside0 (Below w.heap.size w wc):=⟨by rw [← hq_];exact (by repeat (first|(with_reducible first|exact HB.out|apply below_alloc|apply pw_below_drewN|apply below_drew1|refine below_set ?_ GE156.out|refine below_set ?_ GE157.out)|exact HB.out))⟩;clear BK156 BK157 HB hq_;have BK156:=n0_;have BK157:=n1_;have HB:=n2_;clear n0_ n1_ n2_)))|((with_reducible refine gate_callee (f:=70) rfl ?_);refine goesL_ (some 71) rfl rfl Tryd.func70 (by kernel_rfl) rfl #[.string a0,.int .i64 (wrap64 (x1_21 + 1))] rfl (by (try simp only [List.map_toArray,List.map_cons,List.map_nil]);first|done|rfl|(simp only [List.length_drop,List.length_take];rfl)) ?_;(with_reducible refine (quarryref11_digits.calls kj21 a0 (wrap64 (x1_21 + 1)) t166 _ A53.out).mono ?_);rintro e w' ⟨rfl,⟨nd,rfl⟩⟩;refine ⟨_,rfl,?_⟩;(try (rw [drewN_self wc];generalize hq_ : World.drewN wc _ = wc;have n0_ : Aside0 (wc.heap[gb156]? = some (.cells #[.bool x157000_21,.string x157001_21,.string x157002_21,.string x157003_21] 73 (0,0))):=⟨by rw [← hq_];exact (by (with_reducible repeat (first|refine blk_drewN ?_ _|refine blk_drew ?_|refine blk_alloc ?_ _));exact BK156.out)⟩;have n1_ : Aside0 (wc.heap[gb157]? = some (.cells #[.bool x158000_3,.string (a0.extract (x1_3 : Int).toNat (x8_15 : Int).toNat),.string x158002_21,.string (⟨#[]⟩ : ByteArray)] 73 (0,0))):=⟨by rw [← hq_];exact (by (with_reducible repeat (first|refine blk_drewN ?_ _|refine blk_drew ?_|refine blk_alloc ?_ _));exact BK157.out)⟩;have n2_ : Aside0 (Below w.heap.size w wc):=⟨by rw [← hq_];exact (by repeat (first|(with_reducible first|exact HB.out|apply below_alloc|apply pw_below_drewN|apply below_drew1|refine below_set ?_ GE156.out|refine below_set ?_ GE157.out)|exact HB.out))⟩;clear BK156 BK157 HB hq_;have BK156:=n0_;have BK157:=n1_;have HB:=n2_;clear n0_ n1_ n2_));have hnb55:=NB157_156.out;have hnc55:=NB156_157.out;have hcz56_0 : wc.cell? ⟨gb157,0,none⟩ = some (.bool x158000_3):=(blk_cell BK157.out 0).trans rfl;have hcz56_1 : wc.cell? ⟨gb157,1,none⟩ = some (.string (a0.extract (x1_3 : Int).toNat (x8_15 : Int).toNat)):=(blk_cell BK157.out 1).trans rfl;have hcz56_2 : wc.cell? ⟨gb157,2,none⟩ = some (.string x158002_21):=(blk_cell BK157.out 2).trans rfl;have hcz56_3 : wc.cell? ⟨gb157,3,none⟩ = some (.string (⟨#[]⟩ : ByteArray)):=(blk_cell BK157.out 3).trans rfl;have hfz56_0:=blk_frozen BK157.out 0;have hfz56_1:=blk_frozen BK157.out 1;have hfz56_2:=blk_frozen BK157.out 2;have hfz56_3:=blk_frozen BK157.out 3;have hcz57_0 : wc.cell? ⟨gb156,0,none⟩ = some (.bool x157000_21):=(blk_cell BK156.out 0).trans rfl;have hcz57_1 : wc.cell? ⟨gb156,1,none⟩ = some (.string x157001_21):=(blk_cell BK156.out 1).trans rfl;have hcz57_2 : wc.cell? ⟨gb156,2,none⟩ = some (.string x157002_21):=(blk_cell BK156.out 2).trans rfl;have hcz57_3 : wc.cell? ⟨gb156,3,none⟩ = some (.string x157003_21):=(blk_cell BK156.out 3).trans rfl;have hfz57_0:=blk_frozen BK156.out 0;have hfz57_1:=blk_frozen BK156.out 1;have hfz57_2:=blk_frozen BK156.out 2;have hfz57_3:=blk_frozen BK156.out 3))
                refine bodyPost_ret (results_ctt rfl _ _ gb156 73 #[.bool x158000_3,.string (a0.extract (x1_3 : Int).toNat (x8_15 : Int).toNat),.string x158002_21,.string (⟨#[]⟩ : ByteArray)] (0,0) _ rfl (by (with_reducible repeat (first|refine blk_drewN ?_ _|refine blk_drew ?_|refine blk_alloc ?_ _));refine blk_put (cs:=#[.bool x158000_3,.string (a0.extract (x1_3 : Int).toNat (x8_15 : Int).toNat),.string x158002_21,.string x157003_21]) ?_ 3 _ (by first|rfl|(simp only [px_pos,px_ne];rfl)|simp [px_pos,px_ne]);(with_reducible repeat (first|refine blk_drewN ?_ _|refine blk_drew ?_|refine blk_alloc ?_ _));refine blk_put (cs:=#[.bool x158000_3,.string (a0.extract (x1_3 : Int).toNat (x8_15 : Int).toNat),.string x157002_21,.string x157003_21]) ?_ 2 _ (by first|rfl|(simp only [px_pos,px_ne];rfl)|simp [px_pos,px_ne]);(with_reducible repeat (first|refine blk_drewN ?_ _|refine blk_drew ?_|refine blk_alloc ?_ _));refine blk_put (cs:=#[.bool x158000_3,.string x157001_21,.string x157002_21,.string x157003_21]) ?_ 1 _ (by first|rfl|(simp only [px_pos,px_ne];rfl)|simp [px_pos,px_ne]);(with_reducible repeat (first|refine blk_drewN ?_ _|refine blk_drew ?_|refine blk_alloc ?_ _));refine blk_put (cs:=#[.bool x157000_21,.string x157001_21,.string x157002_21,.string x157003_21]) ?_ 0 _ (by first|rfl|(simp only [px_pos,px_ne];rfl)|simp [px_pos,px_ne]);(with_reducible repeat (first|refine blk_drewN ?_ _|refine blk_drew ?_|refine blk_alloc ?_ _));exact BK156.out) Tryd.underlying73 rfl (by kernel_rfl)) rfl ?_
                exact ⟨by first|rfl|(simp [errW_none,errW_some] <;> rfl)|(simp [*,errW_none,errW_some] <;> rfl),by repeat (first|(with_reducible first|exact HB.out|apply below_alloc|apply pw_below_drewN|apply below_drew1|refine below_set ?_ GE156.out|refine below_set ?_ GE157.out)|exact HB.out)⟩
               ·rw [if_neg c54] at H
                have c54b0 : (t166 == (wrap64 (x1_21 + 1))) = false:=beq_eq_false_iff_ne.mpr c54
                have c54b1 : (t166 != (wrap64 (x1_21 + 1))) = true:=bne_iff_ne.mpr c54
                obtain ⟨ji58,hji58⟩ : ∃ j_ : Int,(wrap64 (x1_21 + 1)) = j_:=⟨_,rfl⟩
                replace H : (if 0 ≤ (ji58) then (if (ji58) ≤ t166 then (if t166 ≤ (a0.size : Int) then (some (x158000_3,(a0.extract (x1_3 : Int).toNat (x8_15 : Int).toNat),x158002_21,a0.extract ((ji58) : Int).toNat (t166 : Int).toNat,t166,true)) else (none)) else (none)) else (none)) = some (r1,r2,r3,r4,r5,r6):=by first|(rw [hji58] at H;exact H)|(simp only [hji58] at H ⊢;exact H)
                (try rw [hji58] at c54b0)
                (try rw [hji58] at c54b1)
                (try rw [hji58] at A37)
                (try rw [hji58] at A39)
                (try rw [hji58] at A53)
                have hji58w : (IntKind.i64.wrap (x1_21 + 1)) = ji58:=(i64_w _).trans hji58
                by_cases c59 : 0 ≤ (ji58)
                ·rw [if_pos c59] at H
                 have c59b0:=eq_true c59
                 have c59b1 : decide (0 ≤ (ji58)) = true:=decide_eq_true c59
                 clear c59
                 by_cases c60 : (ji58) ≤ t166
                 ·rw [if_pos c60] at H
                  have c60b0:=eq_true c60
                  have c60b1 : decide ((ji58) ≤ t166) = true:=decide_eq_true c60
                  clear c60
                  by_cases c61 : t166 ≤ (a0.size : Int)
                  ·rw [if_pos c61] at H
                   have c61b0:=eq_true c61
                   have c61b1 : decide (t166 ≤ (a0.size : Int)) = true:=decide_eq_true c61
                   clear c61
                   simp only [Option.some.injEq,Prod.mk.injEq] at H
                   obtain ⟨rfl,rfl,rfl,rfl,rfl,rfl⟩:=H
                   go_wp2_with (first|((with_reducible refine gate_callee (f:=69) rfl ?_);refine goesL_ (some 60) rfl rfl Tryd.func69 (by kernel_rfl) rfl #[.string a0,.int .i64 x1_21,.int .u8 101,.int .u8 69] rfl (by (try simp only [List.map_toArray,List.map_cons,List.map_nil]);first|done|rfl|(simp only [List.length_drop,List.length_take];rfl)) ?_;(with_reducible refine (quarryref11_is.calls a0 x1_21 101 69 true _ A37.out).mono ?_);rintro e w' ⟨rfl,⟨nd,rfl⟩⟩;refine ⟨_,rfl,?_⟩;(try (rw [drewN_self wc];generalize hq_ : World.drewN wc _ = wc;have n0_ : Aside0 (wc.heap[gb156]? = some (.cells #[.bool x157000_21,.string x157001_21,.string x157002_21,.string x157003_21] 73 (0,0))):=⟨by rw [← hq_];exact (by (with_reducible repeat (first|refine blk_drewN ?_ _|refine blk_drew ?_|refine blk_alloc ?_ _));exact BK156.out)⟩;have n1_ : Aside0 (wc.heap[gb157]? = some (.cells #[.bool x158000_3,.string (a0.extract (x1_3 : Int).toNat (x8_15 : Int).toNat),.string x158002_21,.string (⟨#[]⟩ : ByteArray)] 73 (0,0))):=⟨by rw [← hq_];exact (by (with_reducible repeat (first|refine blk_drewN ?_ _|refine blk_drew ?_|refine blk_alloc ?_ _));exact BK157.out)⟩;have n2_ : Aside0 (Below w.heap.size w wc):=⟨by rw [← hq_];exact (by repeat (first|(with_reducible first|exact HB.out|apply below_alloc|apply pw_below_drewN|apply below_drew1|refine below_set ?_ GE156.out|refine below_set ?_ GE157.out)|exact HB.out))⟩;clear BK156 BK157 HB hq_;have BK156:=n0_;have BK157:=n1_;have HB:=n2_;clear n0_ n1_ n2_)))|((with_reducible refine gate_callee (f:=69) rfl ?_);refine goesL_ (some 66) rfl rfl Tryd.func69 (by kernel_rfl) rfl #[.string a0,.int .i64 ji58,.int .u8 43,.int .u8 45] rfl (by (try simp only [List.map_toArray,List.map_cons,List.map_nil]);first|done|(simp only [hji58];rfl)|rfl|(simp only [List.length_drop,List.length_take];rfl)) ?_;(with_reducible refine (quarryref11_is.calls a0 ji58 43 45 false _ A39.out).mono ?_);rintro e w' ⟨rfl,⟨nd,rfl⟩⟩;refine ⟨_,rfl,?_⟩;(try (rw [drewN_self wc];generalize hq_ : World.drewN wc _ = wc;have n0_ : Aside0 (wc.heap[gb156]? = some (.cells #[.bool x157000_21,.string x157001_21,.string x157002_21,.string x157003_21] 73 (0,0))):=⟨by rw [← hq_];exact (by (with_reducible repeat (first|refine blk_drewN ?_ _|refine blk_drew ?_|refine blk_alloc ?_ _));exact BK156.out)⟩;have n1_ : Aside0 (wc.heap[gb157]? = some (.cells #[.bool x158000_3,.string (a0.extract (x1_3 : Int).toNat (x8_15 : Int).toNat),.string x158002_21,.string (⟨#[]⟩ : ByteArray)] 73 (0,0))):=⟨by rw [← hq_];exact (by (with_reducible repeat (first|refine blk_drewN ?_ _|refine blk_drew ?_|refine blk_alloc ?_ _));exact BK157.out)⟩;have n2_ : Aside0 (Below w.heap.size w wc):=⟨by rw [← hq_];exact (by repeat (first|(with_reducible first|exact HB.out|apply below_alloc|apply pw_below_drewN|apply below_drew1|refine below_set ?_ GE156.out|refine below_set ?_ GE157.out)|exact HB.out))⟩;clear BK156 BK157 HB hq_;have BK156:=n0_;have BK157:=n1_;have HB:=n2_;clear n0_ n1_ n2_)))|((with_reducible refine gate_callee (f:=70) rfl ?_);refine goesL_ (some 71) rfl rfl Tryd.func70 (by kernel_rfl) rfl #[.string a0,.int .i64 ji58] rfl (by (try simp only [List.map_toArray,List.map_cons,List.map_nil]);first|done|(simp only [hji58];rfl)|rfl|(simp only [List.length_drop,List.length_take];rfl)) ?_;(with_reducible refine (quarryref11_digits.calls kj21 a0 ji58 t166 _ A53.out).mono ?_);rintro e w' ⟨rfl,⟨nd,rfl⟩⟩;refine ⟨_,rfl,?_⟩;(try (rw [drewN_self wc];generalize hq_ : World.drewN wc _ = wc;have n0_ : Aside0 (wc.heap[gb156]? = some (.cells #[.bool x157000_21,.string x157001_21,.string x157002_21,.string x157003_21] 73 (0,0))):=⟨by rw [← hq_];exact (by (with_reducible repeat (first|refine blk_drewN ?_ _|refine blk_drew ?_|refine blk_alloc ?_ _));exact BK156.out)⟩;have n1_ : Aside0 (wc.heap[gb157]? = some (.cells #[.bool x158000_3,.string (a0.extract (x1_3 : Int).toNat (x8_15 : Int).toNat),.string x158002_21,.string (⟨#[]⟩ : ByteArray)] 73 (0,0))):=⟨by rw [← hq_];exact (by (with_reducible repeat (first|refine blk_drewN ?_ _|refine blk_drew ?_|refine blk_alloc ?_ _));exact BK157.out)⟩;have n2_ : Aside0 (Below w.heap.size w wc):=⟨by rw [← hq_];exact (by repeat (first|(with_reducible first|exact HB.out|apply below_alloc|apply pw_below_drewN|apply below_drew1|refine below_set ?_ GE156.out|refine below_set ?_ GE157.out)|exact HB.out))⟩;clear BK156 BK157 HB hq_;have BK156:=n0_;have BK157:=n1_;have HB:=n2_;clear n0_ n1_ n2_));have hnb62:=NB157_156.out;have hnc62:=NB156_157.out;have hcz63_0 : wc.cell? ⟨gb157,0,none⟩ = some (.bool x158000_3):=(blk_cell BK157.out 0).trans rfl;have hcz63_1 : wc.cell? ⟨gb157,1,none⟩ = some (.string (a0.extract (x1_3 : Int).toNat (x8_15 : Int).toNat)):=(blk_cell BK157.out 1).trans rfl;have hcz63_2 : wc.cell? ⟨gb157,2,none⟩ = some (.string x158002_21):=(blk_cell BK157.out 2).trans rfl;have hcz63_3 : wc.cell? ⟨gb157,3,none⟩ = some (.string (⟨#[]⟩ : ByteArray)):=(blk_cell BK157.out 3).trans rfl;have hfz63_0:=blk_frozen BK157.out 0;have hfz63_1:=blk_frozen BK157.out 1;have hfz63_2:=blk_frozen BK157.out 2;have hfz63_3:=blk_frozen BK157.out 3;have hcz64_0 : wc.cell? ⟨gb156,0,none⟩ = some (.bool x157000_21):=(blk_cell BK156.out 0).trans rfl;have hcz64_1 : wc.cell? ⟨gb156,1,none⟩ = some (.string x157001_21):=(blk_cell BK156.out 1).trans rfl;have hcz64_2 : wc.cell? ⟨gb156,2,none⟩ = some (.string x157002_21):=(blk_cell BK156.out 2).trans rfl;have hcz64_3 : wc.cell? ⟨gb156,3,none⟩ = some (.string x157003_21):=(blk_cell BK156.out 3).trans rfl;have hfz64_0:=blk_frozen BK156.out 0;have hfz64_1:=blk_frozen BK156.out 1;have hfz64_2:=blk_frozen BK156.out 2;have hfz64_3:=blk_frozen BK156.out 3))
                   refine bodyPost_ret (results_ctt rfl _ _ gb156 73 #[.bool x158000_3,.string (a0.extract (x1_3 : Int).toNat (x8_15 : Int).toNat),.string x158002_21,.string (a0.extract ((ji58) : Int).toNat (t166 : Int).toNat)] (0,0) _ rfl (by (with_reducible repeat (first|refine blk_drewN ?_ _|refine blk_drew ?_|refine blk_alloc ?_ _));refine blk_put (cs:=#[.bool x158000_3,.string (a0.extract (x1_3 : Int).toNat (x8_15 : Int).toNat),.string x158002_21,.string x157003_21]) ?_ 3 _ (by first|rfl|(simp only [px_pos,px_ne];rfl)|simp [px_pos,px_ne]);(with_reducible repeat (first|refine blk_drewN ?_ _|refine blk_drew ?_|refine blk_alloc ?_ _));refine blk_put (cs:=#[.bool x158000_3,.string (a0.extract (x1_3 : Int).toNat (x8_15 : Int).toNat),.string x157002_21,.string x157003_21]) ?_ 2 _ (by first|rfl|(simp only [px_pos,px_ne];rfl)|simp [px_pos,px_ne]);(with_reducible repeat (first|refine blk_drewN ?_ _|refine blk_drew ?_|refine blk_alloc ?_ _));refine blk_put (cs:=#[.bool x158000_3,.string x157001_21,.string x157002_21,.string x157003_21]) ?_ 1 _ (by first|rfl|(simp only [px_pos,px_ne];rfl)|simp [px_pos,px_ne]);(with_reducible repeat (first|refine blk_drewN ?_ _|refine blk_drew ?_|refine blk_alloc ?_ _));refine blk_put (cs:=#[.bool x157000_21,.string x157001_21,.string x157002_21,.string x157003_21]) ?_ 0 _ (by first|rfl|(simp only [px_pos,px_ne];rfl)|simp [px_pos,px_ne]);(with_reducible repeat (first|refine blk_drewN ?_ _|refine blk_drew ?_|refine blk_alloc ?_ _));refine blk_far ?_ NB156_157.out _;(with_reducible repeat (first|refine blk_drewN ?_ _|refine blk_drew ?_|refine blk_alloc ?_ _));exact BK156.out) Tryd.underlying73 rfl (by kernel_rfl)) rfl ?_
                   exact ⟨by first|rfl|(simp [errW_none,errW_some] <;> rfl)|(simp only [← hji58];first|rfl|(simp [errW_none,errW_some] <;> rfl))|(simp [*,errW_none,errW_some] <;> rfl),by repeat (first|(with_reducible first|exact HB.out|apply below_alloc|apply pw_below_drewN|apply below_drew1|refine below_set ?_ GE156.out|refine below_set ?_ GE157.out)|exact HB.out)⟩
                  ·rw [if_neg c61] at H
                   exact absurd H (by simp)
                 ·rw [if_neg c60] at H
                  exact absurd H (by simp)
                ·rw [if_neg c59] at H
                 exact absurd H (by simp)
             ·replace c38:=Bool.eq_false_iff.mpr c38
              subst c38
              have H1 : (some (x158000_3,(a0.extract (x1_3 : Int).toNat (x8_15 : Int).toNat),x158002_21,(⟨#[]⟩ : ByteArray),x1_21,true)) = some (r1,r2,r3,r4,r5,r6):=by rw [if_neg (show ¬ (false = true) by decide)] at H;exact H
              clear H
              have H:=H1
              clear H1
              simp only [Option.some.injEq,Prod.mk.injEq] at H
              obtain ⟨rfl,rfl,rfl,rfl,rfl,rfl⟩:=H
              go_wp2_with (first|((with_reducible refine gate_callee (f:=69) rfl ?_);refine goesL_ (some 60) rfl rfl Tryd.func69 (by kernel_rfl) rfl #[.string a0,.int .i64 x1_21,.int .u8 101,.int .u8 69] rfl (by (try simp only [List.map_toArray,List.map_cons,List.map_nil]);first|done|rfl|(simp only [List.length_drop,List.length_take];rfl)) ?_;(with_reducible refine (quarryref11_is.calls a0 x1_21 101 69 false _ A37.out).mono ?_);rintro e w' ⟨rfl,⟨nd,rfl⟩⟩;refine ⟨_,rfl,?_⟩;(try (rw [drewN_self wc];generalize hq_ : World.drewN wc _ = wc;have n0_ : Aside0 (wc.heap[gb156]? = some (.cells #[.bool x157000_21,.string x157001_21,.string x157002_21,.string x157003_21] 73 (0,0))):=⟨by rw [← hq_];exact (by (with_reducible repeat (first|refine blk_drewN ?_ _|refine blk_drew ?_|refine blk_alloc ?_ _));exact BK156.out)⟩;have n1_ : Aside0 (wc.heap[gb157]? = some (.cells #[.bool x158000_3,.string (a0.extract (x1_3 : Int).toNat (x8_15 : Int).toNat),.string x158002_21,.string (⟨#[]⟩ : ByteArray)] 73 (0,0))):=⟨by rw [← hq_];exact (by (with_reducible repeat (first|refine blk_drewN ?_ _|refine blk_drew ?_|refine blk_alloc ?_ _));exact BK157.out)⟩;have n2_ : Aside0 (Below w.heap.size w wc):=⟨by rw [← hq_];exact (by repeat (first|(with_reducible first|exact HB.out|apply below_alloc|apply pw_below_drewN|apply below_drew1|refine below_set ?_ GE156.out|refine below_set ?_ GE157.out)|exact HB.out))⟩;clear BK156 BK157 HB hq_;have BK156:=n0_;have BK157:=n1_;have HB:=n2_;clear n0_ n1_ n2_));have hnb65:=NB157_156.out;have hnc65:=NB156_157.out;have hcz66_0 : wc.cell? ⟨gb157,0,none⟩ = some (.bool x158000_3):=(blk_cell BK157.out 0).trans rfl;have hcz66_1 : wc.cell? ⟨gb157,1,none⟩ = some (.string (a0.extract (x1_3 : Int).toNat (x8_15 : Int).toNat)):=(blk_cell BK157.out 1).trans rfl;have hcz66_2 : wc.cell? ⟨gb157,2,none⟩ = some (.string x158002_21):=(blk_cell BK157.out 2).trans rfl;have hcz66_3 : wc.cell? ⟨gb157,3,none⟩ = some (.string (⟨#[]⟩ : ByteArray)):=(blk_cell BK157.out 3).trans rfl;have hfz66_0:=blk_frozen BK157.out 0;have hfz66_1:=blk_frozen BK157.out 1;have hfz66_2:=blk_frozen BK157.out 2;have hfz66_3:=blk_frozen BK157.out 3;have hcz67_0 : wc.cell? ⟨gb156,0,none⟩ = some (.bool x157000_21):=(blk_cell BK156.out 0).trans rfl;have hcz67_1 : wc.cell? ⟨gb156,1,none⟩ = some (.string x157001_21):=(blk_cell BK156.out 1).trans rfl;have hcz67_2 : wc.cell? ⟨gb156,2,none⟩ = some (.string x157002_21):=(blk_cell BK156.out 2).trans rfl;have hcz67_3 : wc.cell? ⟨gb156,3,none⟩ = some (.string x157003_21):=(blk_cell BK156.out 3).trans rfl;have hfz67_0:=blk_frozen BK156.out 0;have hfz67_1:=blk_frozen BK156.out 1;have hfz67_2:=blk_frozen BK156.out 2;have hfz67_3:=blk_frozen BK156.out 3))
              refine bodyPost_ret (results_ctt rfl _ _ gb156 73 #[.bool x158000_3,.string (a0.extract (x1_3 : Int).toNat (x8_15 : Int).toNat),.string x158002_21,.string (⟨#[]⟩ : ByteArray)] (0,0) _ rfl (by (with_reducible repeat (first|refine blk_drewN ?_ _|refine blk_drew ?_|refine blk_alloc ?_ _));refine blk_put (cs:=#[.bool x158000_3,.string (a0.extract (x1_3 : Int).toNat (x8_15 : Int).toNat),.string x158002_21,.string x157003_21]) ?_ 3 _ (by first|rfl|(simp only [px_pos,px_ne];rfl)|simp [px_pos,px_ne]);(with_reducible repeat (first|refine blk_drewN ?_ _|refine blk_drew ?_|refine blk_alloc ?_ _));refine blk_put (cs:=#[.bool x158000_3,.string (a0.extract (x1_3 : Int).toNat (x8_15 : Int).toNat),.string x157002_21,.string x157003_21]) ?_ 2 _ (by first|rfl|(simp only [px_pos,px_ne];rfl)|simp [px_pos,px_ne]);(with_reducible repeat (first|refine blk_drewN ?_ _|refine blk_drew ?_|refine blk_alloc ?_ _));refine blk_put (cs:=#[.bool x158000_3,.string x157001_21,.string x157002_21,.string x157003_21]) ?_ 1 _ (by first|rfl|(simp only [px_pos,px_ne];rfl)|simp [px_pos,px_ne]);(with_reducible repeat (first|refine blk_drewN ?_ _|refine blk_drew ?_|refine blk_alloc ?_ _));refine blk_put (cs:=#[.bool x157000_21,.string x157001_21,.string x157002_21,.string x157003_21]) ?_ 0 _ (by first|rfl|(simp only [px_pos,px_ne];rfl)|simp [px_pos,px_ne]);(with_reducible repeat (first|refine blk_drewN ?_ _|refine blk_drew ?_|refine blk_alloc ?_ _));exact BK156.out) Tryd.underlying73 rfl (by kernel_rfl)) rfl ?_
              exact ⟨by first|rfl|(simp [errW_none,errW_some] <;> rfl)|(simp [*,errW_none,errW_some] <;> rfl),by repeat (first|(with_reducible first|exact HB.out|apply below_alloc|apply pw_below_drewN|apply below_drew1|refine below_set ?_ GE156.out|refine below_set ?_ GE157.out)|exact HB.out)⟩
          ·rw [if_neg c20] at H
           exact absurd H (by simp)
         ·rw [if_neg c19] at H
          exact absurd H (by simp)
        ·rw [if_neg c18] at H
         exact absurd H (by simp)
     ·rw [if_neg c14] at H
      exact absurd H (by simp)
    ·rw [if_neg c13] at H
     exact absurd H (by simp)
   ·replace c11:=Bool.eq_false_iff.mpr c11
    subst c11
    have H1 : (some (x158000_3,(⟨#[]⟩ : ByteArray),(⟨#[]⟩ : ByteArray),(⟨#[]⟩ : ByteArray),x1_3,false)) = some (r1,r2,r3,r4,r5,r6):=by rw [if_neg (show ¬ (false = true) by decide)] at H;exact H
    clear H
    have H:=H1
    clear H1
    simp only [Option.some.injEq,Prod.mk.injEq] at H
    obtain ⟨rfl,rfl,rfl,rfl,rfl,rfl⟩:=H
    go_wp2_with (first|((with_reducible refine gate_callee (f:=62) rfl ?_);refine goesL_ (some 19) rfl rfl Tryd.func62 (by kernel_rfl) rfl #[.string a0,.int .i64 x1_3] rfl (by (try simp only [List.map_toArray,List.map_cons,List.map_nil]);first|done|rfl|(simp only [List.length_drop,List.length_take];rfl)) ?_;(with_reducible refine (quarryref11_digit.calls a0 x1_3 false _ A10.out).mono ?_);rintro e w' ⟨rfl,⟨nd,rfl⟩⟩;refine ⟨_,rfl,?_⟩;(try (rw [drewN_self wc];generalize hq_ : World.drewN wc _ = wc;have n0_ : Aside0 (wc.heap[gb156]? = some (.cells #[.bool false,.string (⟨#[]⟩ : ByteArray),.string (⟨#[]⟩ : ByteArray),.string (⟨#[]⟩ : ByteArray)] 73 (0,0))):=⟨by rw [← hq_];exact (by (with_reducible repeat (first|refine blk_drewN ?_ _|refine blk_drew ?_|refine blk_alloc ?_ _));exact BK156.out)⟩;have n1_ : Aside0 (wc.heap[gb157]? = some (.cells #[.bool x158000_3,.string (⟨#[]⟩ : ByteArray),.string (⟨#[]⟩ : ByteArray),.string (⟨#[]⟩ : ByteArray)] 73 (0,0))):=⟨by rw [← hq_];exact (by (with_reducible repeat (first|refine blk_drewN ?_ _|refine blk_drew ?_|refine blk_alloc ?_ _));exact BK157.out)⟩;have n2_ : Aside0 (Below w.heap.size w wc):=⟨by rw [← hq_];exact (by repeat (first|(with_reducible first|exact HB.out|apply below_alloc|apply pw_below_drewN|apply below_drew1|refine below_set ?_ GE156.out|refine below_set ?_ GE157.out)|exact HB.out))⟩;clear BK156 BK157 HB hq_;have BK156:=n0_;have BK157:=n1_;have HB:=n2_;clear n0_ n1_ n2_));have hnb68:=NB157_156.out;have hnc68:=NB156_157.out;have hcz69_0 : wc.cell? ⟨gb157,0,none⟩ = some (.bool x158000_3):=(blk_cell BK157.out 0).trans rfl;have hcz69_1 : wc.cell? ⟨gb157,1,none⟩ = some (.string (⟨#[]⟩ : ByteArray)):=(blk_cell BK157.out 1).trans rfl;have hcz69_2 : wc.cell? ⟨gb157,2,none⟩ = some (.string (⟨#[]⟩ : ByteArray)):=(blk_cell BK157.out 2).trans rfl;have hcz69_3 : wc.cell? ⟨gb157,3,none⟩ = some (.string (⟨#[]⟩ : ByteArray)):=(blk_cell BK157.out 3).trans rfl;have hfz69_0:=blk_frozen BK157.out 0;have hfz69_1:=blk_frozen BK157.out 1;have hfz69_2:=blk_frozen BK157.out 2;have hfz69_3:=blk_frozen BK157.out 3;have hcz70_0 : wc.cell? ⟨gb156,0,none⟩ = some (.bool false):=(blk_cell BK156.out 0).trans rfl;have hcz70_1 : wc.cell? ⟨gb156,1,none⟩ = some (.string (⟨#[]⟩ : ByteArray)):=(blk_cell BK156.out 1).trans rfl;have hcz70_2 : wc.cell? ⟨gb156,2,none⟩ = some (.string (⟨#[]⟩ : ByteArray)):=(blk_cell BK156.out 2).trans rfl;have hcz70_3 : wc.cell? ⟨gb156,3,none⟩ = some (.string (⟨#[]⟩ : ByteArray)):=(blk_cell BK156.out 3).trans rfl;have hfz70_0:=blk_frozen BK156.out 0;have hfz70_1:=blk_frozen BK156.out 1;have hfz70_2:=blk_frozen BK156.out 2;have hfz70_3:=blk_frozen BK156.out 3))
    refine bodyPost_ret (results_ctt rfl _ _ gb156 73 #[.bool x158000_3,.string (⟨#[]⟩ : ByteArray),.string (⟨#[]⟩ : ByteArray),.string (⟨#[]⟩ : ByteArray)] (0,0) _ rfl (by (with_reducible repeat (first|refine blk_drewN ?_ _|refine blk_drew ?_|refine blk_alloc ?_ _));refine blk_put (cs:=#[.bool x158000_3,.string (⟨#[]⟩ : ByteArray),.string (⟨#[]⟩ : ByteArray),.string (⟨#[]⟩ : ByteArray)]) ?_ 3 _ (by first|rfl|(simp only [px_pos,px_ne];rfl)|simp [px_pos,px_ne]);(with_reducible repeat (first|refine blk_drewN ?_ _|refine blk_drew ?_|refine blk_alloc ?_ _));refine blk_put (cs:=#[.bool x158000_3,.string (⟨#[]⟩ : ByteArray),.string (⟨#[]⟩ : ByteArray),.string (⟨#[]⟩ : ByteArray)]) ?_ 2 _ (by first|rfl|(simp only [px_pos,px_ne];rfl)|simp [px_pos,px_ne]);(with_reducible repeat (first|refine blk_drewN ?_ _|refine blk_drew ?_|refine blk_alloc ?_ _));refine blk_put (cs:=#[.bool x158000_3,.string (⟨#[]⟩ : ByteArray),.string (⟨#[]⟩ : ByteArray),.string (⟨#[]⟩ : ByteArray)]) ?_ 1 _ (by first|rfl|(simp only [px_pos,px_ne];rfl)|simp [px_pos,px_ne]);(with_reducible repeat (first|refine blk_drewN ?_ _|refine blk_drew ?_|refine blk_alloc ?_ _));refine blk_put (cs:=#[.bool false,.string (⟨#[]⟩ : ByteArray),.string (⟨#[]⟩ : ByteArray),.string (⟨#[]⟩ : ByteArray)]) ?_ 0 _ (by first|rfl|(simp only [px_pos,px_ne];rfl)|simp [px_pos,px_ne]);(with_reducible repeat (first|refine blk_drewN ?_ _|refine blk_drew ?_|refine blk_alloc ?_ _));exact BK156.out) Tryd.underlying73 rfl (by kernel_rfl)) rfl ?_
    exact ⟨by first|rfl|(simp [errW_none,errW_some] <;> rfl)|(simp [*,errW_none,errW_some] <;> rfl),by repeat (first|(with_reducible first|exact HB.out|apply below_alloc|apply pw_below_drewN|apply below_drew1|refine below_set ?_ GE156.out|refine below_set ?_ GE157.out)|exact HB.out)⟩
end Go.Proofs.YtgbiobbhaejjlaaDoor.PTreeShapes
