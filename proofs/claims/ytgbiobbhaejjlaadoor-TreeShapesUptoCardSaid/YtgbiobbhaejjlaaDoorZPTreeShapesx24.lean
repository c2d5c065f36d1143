-- Written by shrink.py, a program of this session: what the law needs of the print and its words. Lean checks it.
import Derived.Test.YtgbiobbhaejjlaaDoorZPTreeShapesx0
import Derived.Test.YtgbiobbhaejjlaaDoorZPTreeShapesx13
import Derived.Test.YtgbiobbhaejjlaaDoorZPTreeShapesx14
import Derived.Test.YtgbiobbhaejjlaaDoorZPTreeShapesx22
import Derived.Test.YtgbiobbhaejjlaaDoorZPTreeShapesx23
namespace Go.Proofs.YtgbiobbhaejjlaaDoor.PTreeShapes
open Go.RowKit Go.Proofs.YtgbiobbhaejjlaaDoorW.PrintWords Go.Proofs.YtgbiobbhaejjlaaDoorW.PrintLast Go.Proofs.YtgbiobbhaejjlaaDoorW.PrintMore
attribute [local go_sem] max2_int min2_int max_two min_two max_three min_three max_four min_four
set_option linter.unusedVariables false
set_option linter.unusedSimpArgs false
def quarrylaw17_TreeShapes.j0 : Nat → Bool → Int → Bool → ByteArray → ByteArray → List ByteArray → List (S25) → Option (Bool)
 | 0,_,_,_,_,_,_,_=>none
 | k + 1,x15,x217000,x217001,x217002,x217003,x217004,x217005=>if x15 = true then (some false) else ((quarryref00_BeyondValue.f k x217000 x217001 x217002 x217003 x217004 x217005).bind fun t250=>(if t250 = true then (some true) else ((tree_Formed.f k x217000 x217001 x217002 x217003 x217004 x217005).bind fun t251=>((quarryref17_Formed.f k x217000 x217001 x217002 x217003 x217004 x217005).bind fun t252=>(if (t251 == t252) = true then ((tree_Depth.f k x217000 x217001 x217002 x217003 x217004 x217005).bind fun t253=>((quarryref17_Depth.f k x217000 x217001 x217002 x217003 x217004 x217005).bind fun t254=>(if t253 = t254 then ((tree_Count.f k x217000 x217001 x217002 x217003 x217004 x217005).bind fun t255=>((quarryref17_Count.f k x217000 x217001 x217002 x217003 x217004 x217005).bind fun t256=>(some (t255 == t256)))) else (some false)))) else (some false))))))
def quarrylaw17_TreeShapes.f (k : Nat) (a0_0 : Int) (a0_1 : Bool) (a0_2 : ByteArray) (a0_3 : ByteArray) (l0_4 : List ByteArray) (l0_5 : List (S25)) : Option (Bool):=(quarrylaw17_smallValue.f).bind fun bt217=>((tree_Formed.f k bt217.1 bt217.2.1 bt217.2.2.1 bt217.2.2.2.1 bt217.2.2.2.2.1 bt217.2.2.2.2.2).bind fun t227=>(if t227 = true then ((quarrylaw17_smallValue.f).bind fun bt228=>((tree_Depth.f k bt228.1 bt228.2.1 bt228.2.2.1 bt228.2.2.2.1 bt228.2.2.2.2.1 bt228.2.2.2.2.2).bind fun t238=>(if t238 = 2 then ((quarrylaw17_smallValue.f).bind fun bt239=>((tree_Count.f k bt239.1 bt239.2.1 bt239.2.2.1 bt239.2.2.2.1 bt239.2.2.2.2.1 bt239.2.2.2.2.2).bind fun t249=>(quarrylaw17_TreeShapes.j0 k (t249 != 5) a0_0 a0_1 a0_2 a0_3 l0_4 l0_5))) else (quarrylaw17_TreeShapes.j0 k true a0_0 a0_1 a0_2 a0_3 l0_4 l0_5)))) else (quarrylaw17_TreeShapes.j0 k true a0_0 a0_1 a0_2 a0_3 l0_4 l0_5)))
def quarrylaw17_TreeShapes.T5 : Bool × List (List Nat × List Nat):=(true,[([],[]),([0],[0]),([],[]),([2,1],[2]),([1,3],[1,3]),([4,3],[4]),([5],[5]),([6,5,5],[5,6]),([5],[5]),([8,7,5],[5,8]),([7,9,5],[5,7,9]),([5,10],[5,10]),([11,9],[11]),([12],[12]),([13,12,12],[12,13]),([12],[12]),([15,14,12],[12,15]),([14,16,12],[12,14,16]),([12,17],[12,17]),([18,16,0,1,2,3,4,5,6,7,8,9,10,11,12,13,14,15,16,17,18],[18])])
def quarrylaw17_TreeShapes.B5 : List Nat:=[0,1,0,7,15,31,63,127,63,511,1023,2047,4095,8191,16383,8191,65535,131071,262143,524287]
theorem quarrylaw17_TreeShapes.tab5 : rtab .any (opsOf Tryd.f3 5) = quarrylaw17_TreeShapes.T5:=by kernel_rfl
theorem quarrylaw17_TreeShapes.bits5 : waitsOk quarrylaw17_TreeShapes.T5.2 quarrylaw17_TreeShapes.B5 = true:=by kernel_rfl
set_option maxHeartbeats 8000000 in
set_option maxRecDepth 100000 in
theorem quarrylaw17_TreeShapes.calls (k : Nat) (a0_0 : Int) (a0_1 : Bool) (a0_2 : ByteArray) (a0_3 : ByteArray) (A0_4 : Option Addr) (c0_4 : Nat) (l0_4 : List ByteArray) (A0_5 : Option Addr) (c0_5 : Nat) (l0_5 : List (S25)) (r : Bool) (w : World) (hr0_4 : Kd.C Kd.string w A0_4 l0_4.length l0_4) (hc0_4 : l0_4.length ≤ c0_4) (hr0_5 : Kd.C k25 w A0_5 l0_5.length l0_5) (hc0_5 : l0_5.length ≤ c0_5) (h : quarrylaw17_TreeShapes.f k a0_0 a0_1 a0_2 a0_3 l0_4 l0_5 = some r) :
  Calls Tryd.prog 3 #[.agg #[.int .i64 a0_0,.bool a0_1,.string a0_2,.string a0_3,.slice A0_4 l0_4.length c0_4,.slice A0_5 l0_5.length c0_5]] w fun e w'=>e = .returned (.bool r) ∧ Below w.heap.size w w':=by
 have hu25:=Tryd.underlying25
 have HR0_4:=Aside0.mk hr0_4
 have HC0_4:=Aside0.mk hc0_4
 clear hr0_4 hc0_4
 have HR0_5:=Aside0.mk hr0_5
 have HC0_5:=Aside0.mk hc0_5
 clear hr0_5 hc0_5
 have HB:=Aside0.mk (Below.refl w.heap.size w)
 have H : ((quarrylaw17_smallValue.f).bind fun bt217=>((tree_Formed.f k bt217.1 bt217.2.1 bt217.2.2.1 bt217.2.2.2.1 bt217.2.2.2.2.1 bt217.2.2.2.2.2).bind fun t227=>(if t227 = true then ((quarrylaw17_smallValue.f).bind fun bt228=>((tree_Depth.f k bt228.1 bt228.2.1 bt228.2.2.1 bt228.2.2.2.1 bt228.2.2.2.2.1 bt228.2.2.2.2.2).bind fun t238=>(if t238 = 2 then ((quarrylaw17_smallValue.f).bind fun bt239=>((tree_Count.f k bt239.1 bt239.2.1 bt239.2.2.1 bt239.2.2.2.1 bt239.2.2.2.2.1 bt239.2.2.2.2.2).bind fun t249=>(quarrylaw17_TreeShapes.j0 k (t249 != 5) a0_0 a0_1 a0_2 a0_3 l0_4 l0_5))) else (quarrylaw17_TreeShapes.j0 k true a0_0 a0_1 a0_2 a0_3 l0_4 l0_5)))) else (quarrylaw17_TreeShapes.j0 k true a0_0 a0_1 a0_2 a0_3 l0_4 l0_5)))) = some r:=h
 clear h
 have HC2:=Aside0.mk H
 clear H
 go_enter Tryd.func3,Tryd.ntmps3
 go_upto_region 1 with (first|((with_reducible refine gate_dst (N:=1) rfl ?_);refine box_event ?hg (N:=1) ?hd (cs:=#[.int .i64 a0_0,.bool a0_1,.string a0_2,.string a0_3,.slice A0_4 l0_4.length c0_4,.slice A0_5 l0_5.length c0_5]) (t:=25) ?hr ?_;(case hd=>rfl);(case hg=>rfl);(case hr=>first|(go_simp;done)|(go_simp;rfl));intro gb216 hg w3 hbox hb;have n0_:=Aside0.mk (below_step (by repeat (first|(with_reducible first|exact HB.out|apply below_alloc|apply pw_below_drewN|apply below_drew1)|exact HB.out)) hb);have n1_:=Aside0.mk (hbox);have n2_:=Aside0.mk ((by rw [hg];exact (below_size (by repeat (first|(with_reducible first|exact HB.out|apply below_alloc|apply pw_below_drewN|apply below_drew1)|exact HB.out))) : w.heap.size ≤ gb216));have n3_:=Aside0.mk ((by rw [hg];exact (below_size (by repeat (first|(with_reducible first|exact HB.out|apply below_alloc|apply pw_below_drewN|apply below_drew1)|exact HB.out))) : w.heap.size ≤ gb216));clear HB;have HB:=n0_;have BK216:=n1_;have GW216:=n2_;have GE216:=n3_;clear n0_ n1_ n2_ n3_;clear hb hbox hg))
 (try simp only [Act.put,List.setIfInBounds_toArray,List.set_cons_zero,List.set_cons_succ])
 go_cut [15] (fun v15 wc=>∃ (kq : Nat) (x15_1 : Bool),v15 = .bool x15_1 ∧ Aside0 (quarrylaw17_TreeShapes.j0 kq x15_1 a0_0 a0_1 a0_2 a0_3 l0_4 l0_5 = some r) ∧ Aside0 (kq ≤ k) ∧ Aside0 (wc.heap[gb216]? = some (.cells #[.int .i64 a0_0,.bool a0_1,.string a0_2,.string a0_3,(.slice A0_4 l0_4.length c0_4),(.slice A0_5 l0_5.length c0_5)] 25 (0,0))) ∧ Aside0 (Below w.heap.size w wc))
 case first =>
  have H:=HC2.out
  clear HC2
  replace H:=Option.bind_eq_some_iff.mp H
  obtain ⟨⟨t217,t218,t219,t220,t221,t224⟩,A40,H⟩:=H
  replace H : ((tree_Formed.f k t217 t218 t219 t220 t221 t224).bind fun t227=>(if t227 = true then ((quarrylaw17_smallValue.f).bind fun bt228=>((tree_Depth.f k bt228.1 bt228.2.1 bt228.2.2.1 bt228.2.2.2.1 bt228.2.2.2.2.1 bt228.2.2.2.2.2).bind fun t238=>(if t238 = 2 then ((quarrylaw17_smallValue.f).bind fun bt239=>((tree_Count.f k bt239.1 bt239.2.1 bt239.2.2.1 bt239.2.2.2.1 bt239.2.2.2.2.1 bt239.2.2.2.2.2).bind fun t249=>(quarrylaw17_TreeShapes.j0 k (t249 != 5) a0_0 a0_1 a0_2 a0_3 l0_4 l0_5))) else (quarrylaw17_TreeShapes.j0 k true a0_0 a0_1 a0_2 a0_3 l0_4 l0_5)))) else (quarrylaw17_TreeShapes.j0 k true a0_0 a0_1 a0_2 a0_3 l0_4 l0_5))) = some r:=H
  have A4:=Aside0.mk A40
  clear A40
  replace H:=Option.bind_eq_some_iff.mp H
  obtain ⟨t227,A50,H⟩:=H
  replace H : (if t227 = true then ((quarrylaw17_smallValue.f).bind fun bt228=>((tree_Depth.f k bt228.1 bt228.2.1 bt228.2.2.1 bt228.2.2.2.1 bt228.2.2.2.2.1 bt228.2.2.2.2.2).bind fun t238=>(if t238 = 2 then ((quarrylaw17_smallValue.f).bind fun bt239=>((tree_Count.f k bt239.1 bt239.2.1 bt239.2.2.1 bt239.2.2.2.1 bt239.2.2.2.2.1 bt239.2.2.2.2.2).bind fun t249=>(quarrylaw17_TreeShapes.j0 k (t249 != 5) a0_0 a0_1 a0_2 a0_3 l0_4 l0_5))) else (quarrylaw17_TreeShapes.j0 k true a0_0 a0_1 a0_2 a0_3 l0_4 l0_5)))) else (quarrylaw17_TreeShapes.j0 k true a0_0 a0_1 a0_2 a0_3 l0_4 l0_5)) = some r:=H
  have A5:=Aside0.mk A50
  clear A50
  by_cases c6 : t227 = true
  ·subst c6
   have H1 : ((quarrylaw17_smallValue.f).bind fun bt228=>((tree_Depth.f k bt228.1 bt228.2.1 bt228.2.2.1 bt228.2.2.2.1 bt228.2.2.2.2.1 bt228.2.2.2.2.2).bind fun t238=>(if t238 = 2 then ((quarrylaw17_smallValue.f).bind fun bt239=>((tree_Count.f k bt239.1 bt239.2.1 bt239.2.2.1 bt239.2.2.2.1 bt239.2.2.2.2.1 bt239.2.2.2.2.2).bind fun t249=>(quarrylaw17_TreeShapes.j0 k (t249 != 5) a0_0 a0_1 a0_2 a0_3 l0_4 l0_5))) else (quarrylaw17_TreeShapes.j0 k true a0_0 a0_1 a0_2 a0_3 l0_4 l0_5)))) = some r:=by rw [if_pos rfl] at H;exact H
   clear H
   have H:=H1
   clear H1
   replace H:=Option.bind_eq_some_iff.mp H
   obtain ⟨⟨t228,t229,t230,t231,t232,t235⟩,A70,H⟩:=H
   replace H : ((tree_Depth.f k t228 t229 t230 t231 t232 t235).bind fun t238=>(if t238 = 2 then ((quarrylaw17_smallValue.f).bind fun bt239=>((tree_Count.f k bt239.1 bt239.2.1 bt239.2.2.1 bt239.2.2.2.1 bt239.2.2.2.2.1 bt239.2.2.2.2.2).bind fun t249=>(quarrylaw17_TreeShapes.j0 k (t249 != 5) a0_0 a0_1 a0_2 a0_3 l0_4 l0_5))) else (quarrylaw17_TreeShapes.j0 k true a0_0 a0_1 a0_2 a0_3 l0_4 l0_5))) = some r:=H
   have A7:=Aside0.mk A70
   clear A70
   replace H:=Option.bind_eq_some_iff.mp H
   obtain ⟨t238,A80,H⟩:=H
   replace H : (if t238 = 2 then ((quarrylaw17_smallValue.f).bind fun bt239=>((tree_Count.f k bt239.1 bt239.2.1 bt239.2.2.1 bt239.2.2.2.1 bt239.2.2.2.2.1 bt239.2.2.2.2.2).bind fun t249=>(quarrylaw17_TreeShapes.j0 k (t249 != 5) a0_0 a0_1 a0_2 a0_3 l0_4 l0_5))) else (quarrylaw17_TreeShapes.j0 k true a0_0 a0_1 a0_2 a0_3 l0_4 l0_5)) = some r:=H
   have A8:=Aside0.mk A80
   clear A80
   by_cases c9 : t238 = 2
   ·rw [if_pos c9] at H
    have c9b0 : (t238 == 2) = true:=beq_iff_eq.mpr c9
    have c9b1 : (t238 != 2) = false:=bne_eq_false_iff_eq.mpr c9
    clear c9
    (first|rw [c9b0]|(simp only [i64_w,i32_w];rw [c9b0])|skip)
    replace H:=Option.bind_eq_some_iff.mp H
    obtain ⟨⟨t239,t240,t241,t242,t243,t246⟩,A100,H⟩:=H
    replace H : ((tree_Count.f k t239 t240 t241 t242 t243 t246).bind fun t249=>(quarrylaw17_TreeShapes.j0 k (t249 != 5) a0_0 a0_1 a0_2 a0_3 l0_4 l0_5)) = some r:=H
    have A10:=Aside0.mk A100
    clear A100
    replace H:=Option.bind_eq_some_iff.mp H
    obtain ⟨t249,A110,H⟩:=H
    replace H : (quarrylaw17_TreeShapes.j0 k (t249 != 5) a0_0 a0_1 a0_2 a0_3 l0_4 l0_5) = some r:=H
    have A11:=Aside0.mk A110
    clear A110
    have H':=Aside0.mk H
    clear H
    have pxt1 : True:=trivial
    have pxt2 : True:=trivial
    go_wp2_with (first|((with_reducible refine gate_callee (f:=6) rfl ?_);refine goesL_ (some 3) rfl rfl Tryd.func6 (by kernel_rfl) rfl #[] rfl (by (try simp only [List.map_toArray,List.map_cons,List.map_nil]);first|done|rfl|(simp only [List.length_drop,List.length_take];rfl)) ?_;(with_reducible refine (quarrylaw17_smallValue.calls  t217 t218 t219 t220 t221 t224 _ A4.out).mono ?_);rintro e w12 ⟨v222,v225,rfl,ho0,ho1,hb⟩;refine ⟨_,rfl,?_⟩;have n0_:=Aside0.mk (Kd.R_lower (Kd.R_mono (ok':=fun k_=>True) ho0 (fun _ hk_=>trivial)) (below_size (by repeat (first|(with_reducible first|exact HB.out|apply below_alloc|apply pw_below_drewN|apply below_drew1|refine below_set ?_ GE216.out)|exact HB.out))));have n1_:=Aside0.mk (Kd.N_lower (Kd.N_mono (ok':=fun k_=>some k_ ≠ (v222 : Value).ownBlock ∧ k_ ≠ gb216) ho1 (fun k_ hk_=>⟨hk_.2,(Kd.freshB (g:=gb216) (o:=.cells #[.int .i64 a0_0,.bool a0_1,.string a0_2,.string a0_3,.slice A0_4 l0_4.length c0_4,.slice A0_5 l0_5.length c0_5] 25 (0,0)) (by (with_reducible repeat (first|refine blk_drewN ?_ _|refine blk_drew ?_|refine blk_alloc ?_ _));exact BK216.out) k_ hk_.1)⟩)) (below_size (by repeat (first|(with_reducible first|exact HB.out|apply below_alloc|apply pw_below_drewN|apply below_drew1|refine below_set ?_ GE216.out)|exact HB.out))));have n2_:=Aside0.mk (blk_below (g:=gb216) (o:=.cells #[.int .i64 a0_0,.bool a0_1,.string a0_2,.string a0_3,.slice A0_4 l0_4.length c0_4,.slice A0_5 l0_5.length c0_5] 25 (0,0)) (by (with_reducible repeat (first|refine blk_drewN ?_ _|refine blk_drew ?_|refine blk_alloc ?_ _));exact BK216.out) hb);have n3_:=Aside0.mk (below_step (by repeat (first|(with_reducible first|exact HB.out|apply below_alloc|apply pw_below_drewN|apply below_drew1|refine below_set ?_ GE216.out)|exact HB.out)) hb);clear BK216;clear HB;have HO223:=n0_;have HO226:=n1_;have BK216:=n2_;have HB:=n3_;clear n0_ n1_ n2_ n3_;(try clear hb);(try clear hb2);(try clear hk);(try clear hi);(try clear ho0);(try clear ho1);obtain ⟨Ao13,co13,eo13⟩:=Kd.R_slice HO223.out;subst eo13;obtain ⟨Ao14,co14,eo14⟩:=Kd.N_slice HO226.out;subst eo14)|((with_reducible refine gate_callee (f:=5) rfl ?_);refine goesL_ (some 4) rfl rfl Tryd.func5 (by kernel_rfl) rfl #[.agg #[.int .i64 t217,.bool t218,.string t219,.string t220,.slice Ao13 t221.length co13,.slice Ao14 t224.length co14]] rfl (by (try simp only [List.map_toArray,List.map_cons,List.map_nil]);first|done|rfl|(simp only [List.length_drop,List.length_take];rfl)) ?_;(with_reducible refine (tree_Formed.calls k t217 t218 t219 t220 _ _ t221 _ _ t224 true _ ?side1 ?side2 ?side3 ?side4 A5.out).mono ?_);(case side1=>repeat (first|exact (Kd.R_reads' HO223.out).2.2|(with_reducible refine Kd.C_alloc ?_ _)|(with_reducible refine Kd.C_drewN ?_ _)|(with_reducible refine Kd.C_drew ?_)));(case side2=>exact (Kd.R_reads' HO223.out).2.1);(case side3=>repeat (first|exact (Kd.N_reads' HO226.out).2.2|(with_reducible refine Kd.C_alloc ?_ _)|(with_reducible refine Kd.C_drewN ?_ _)|(with_reducible refine Kd.C_drew ?_)));(case side4=>exact (Kd.N_reads' HO226.out).2.1);rintro e w15 ⟨rfl,hb⟩;refine ⟨_,rfl,?_⟩;have n0_:=Aside0.mk (Kd.R_below (by (with_reducible repeat (first|apply Kd.R_alloc|apply Kd.R_drewN|apply Kd.R_drew));exact HO223.out) hb);have n1_:=Aside0.mk (Kd.N_below (by (with_reducible repeat (first|apply Kd.N_alloc|apply Kd.N_drewN|apply Kd.N_drew));exact HO226.out) hb);have n2_:=Aside0.mk (blk_below (g:=gb216) (o:=.cells #[.int .i64 a0_0,.bool a0_1,.string a0_2,.string a0_3,.slice A0_4 l0_4.length c0_4,.slice A0_5 l0_5.length c0_5] 25 (0,0)) (by (with_reducible repeat (first|refine blk_drewN ?_ _|refine blk_drew ?_|refine blk_alloc ?_ _));exact BK216.out) hb);have n3_:=Aside0.mk (below_step (by repeat (first|(with_reducible first|exact HB.out|apply below_alloc|apply pw_below_drewN|apply below_drew1|refine below_set ?_ GE216.out)|exact HB.out)) hb);clear HO223;clear HO226;clear BK216;clear HB;have HO223:=n0_;have HO226:=n1_;have BK216:=n2_;have HB:=n3_;clear n0_ n1_ n2_ n3_;(try clear hb);(try clear hb2);(try clear hk);(try clear hi))|(clear pxt1;go_at_call 6;(with_reducible refine (quarrylaw17_smallValue.calls  t228 t229 t230 t231 t232 t235 _ A7.out).mono ?_);rintro e w16 ⟨v233,v236,rfl,ho0,ho1,hb⟩;have n0_:=Aside0.mk (Kd.R_elder' (by (with_reducible repeat (first|apply Kd.R_alloc|apply Kd.R_drewN|apply Kd.R_drew));exact HO223.out) (Kd.R_base ho0) hb);have n1_:=Aside0.mk (Kd.N_mono (Kd.N_told (Kd.N_told (Kd.N_old (by (with_reducible repeat (first|apply Kd.N_alloc|apply Kd.N_drewN|apply Kd.N_drew));exact HO226.out) hb) (Kd.R_base ho0)) (Kd.N_base ho1)) (fun _ h_=>h_.1));have n2_:=Aside0.mk (Kd.R_lower (Kd.R_new' (Kd.R_mono (ok':=fun k_=>True) ho0 (fun _ hk_=>trivial)) (Kd.R_lt (by (with_reducible repeat (first|apply Kd.R_alloc|apply Kd.R_drewN|apply Kd.R_drew));exact HO223.out))) (below_size (by repeat (first|(with_reducible first|exact HB.out|apply below_alloc|apply pw_below_drewN|apply below_drew1|refine below_set ?_ GE216.out)|exact HB.out))));have n3_:=Aside0.mk (Kd.N_lower (Kd.N_mono (ok':=fun k_=>some k_ ≠ (v233 : Value).ownBlock ∧ some k_ ≠ (.slice Ao13 t221.length co13 : Value).ownBlock ∧ some k_ ≠ (.slice Ao14 t224.length co14 : Value).ownBlock ∧ k_ ≠ gb216) ho1 (fun k_ hk_=>⟨hk_.2,(Kd.fresh' (Kd.R_lt (by (with_reducible repeat (first|apply Kd.R_alloc|apply Kd.R_drewN|apply Kd.R_drew));exact HO223.out)) k_ hk_.1),(Kd.fresh' (Kd.N_lt (by (with_reducible repeat (first|apply Kd.N_alloc|apply Kd.N_drewN|apply Kd.N_drew));exact HO226.out)) k_ hk_.1),(Kd.freshB (g:=gb216) (o:=.cells #[.int .i64 a0_0,.bool a0_1,.string a0_2,.string a0_3,.slice A0_4 l0_4.length c0_4,.slice A0_5 l0_5.length c0_5] 25 (0,0)) (by (with_reducible repeat (first|refine blk_drewN ?_ _|refine blk_drew ?_|refine blk_alloc ?_ _));exact BK216.out) k_ hk_.1)⟩)) (below_size (by repeat (first|(with_reducible first|exact HB.out|apply below_alloc|apply pw_below_drewN|apply below_drew1|refine below_set ?_ GE216.out)|exact HB.out))));have n4_:=Aside0.mk (blk_below (g:=gb216) (o:=.cells #[.int .i64 a0_0,.bool a0_1,.string a0_2,.string a0_3,.slice A0_4 l0_4.length c0_4,.slice A0_5 l0_5.length c0_5] 25 (0,0)) (by (with_reducible repeat (first|refine blk_drewN ?_ _|refine blk_drew ?_|refine blk_alloc ?_ _));exact BK216.out) hb);have n5_:=Aside0.mk (below_step (by repeat (first|(with_reducible first|exact HB.out|apply below_alloc|apply pw_below_drewN|apply below_drew1|refine below_set ?_ GE216.out)|exact HB.out)) hb);clear HO223;clear HO226;clear BK216;clear HB;have HO223:=n0_;have HO226:=n1_;have HO234:=n2_;have HO237:=n3_;have BK216:=n4_;have HB:=n5_;clear n0_ n1_ n2_ n3_ n4_ n5_;(try clear hb);(try clear hb2);(try clear hk);(try clear hi);(try clear ho0);(try clear ho1);obtain ⟨Ao17,co17,eo17⟩:=Kd.R_slice HO234.out;subst eo17;obtain ⟨Ao18,co18,eo18⟩:=Kd.N_slice HO237.out;subst eo18)|(go_at_call 7;(with_reducible refine (tree_Depth.calls k t228 t229 t230 t231 _ _ t232 _ _ t235 t238 _ ?side1 ?side2 ?side3 ?side4 A8.out).mono ?_);(case side1=>repeat (first|exact (Kd.R_reads' HO234.out).2.2|(with_reducible refine Kd.C_alloc ?_ _)|(with_reducible refine Kd.C_drewN ?_ _)|(with_reducible refine Kd.C_drew ?_)));(case side2=>exact (Kd.R_reads' HO234.out).2.1);(case side3=>repeat (first|exact (Kd.N_reads' HO237.out).2.2|(with_reducible refine Kd.C_alloc ?_ _)|(with_reducible refine Kd.C_drewN ?_ _)|(with_reducible refine Kd.C_drew ?_)));(case side4=>exact (Kd.N_reads' HO237.out).2.1);rintro e w19 ⟨rfl,hb⟩;have n0_:=Aside0.mk (Kd.R_below (by (with_reducible repeat (first|apply Kd.R_alloc|apply Kd.R_drewN|apply Kd.R_drew));exact HO223.out) hb);have n1_:=Aside0.mk (Kd.N_below (by (with_reducible repeat (first|apply Kd.N_alloc|apply Kd.N_drewN|apply Kd.N_drew));exact HO226.out) hb);have n2_:=Aside0.mk (Kd.R_below (by (with_reducible repeat (first|apply Kd.R_alloc|apply Kd.R_drewN|apply Kd.R_drew));exact HO234.out) hb);have n3_:=Aside0.mk (Kd.N_below (by (with_reducible repeat (first|apply Kd.N_alloc|apply Kd.N_drewN|apply Kd.N_drew));exact HO237.out) hb);have n4_:=Aside0.mk (blk_below (g:=gb216) (o:=.cells #[.int .i64 a0_0,.bool a0_1,.string a0_2,.string a0_3,.slice A0_4 l0_4.length c0_4,.slice A0_5 l0_5.length c0_5] 25 (0,0)) (by (with_reducible repeat (first|refine blk_drewN ?_ _|refine blk_drew ?_|refine blk_alloc ?_ _));exact BK216.out) hb);have n5_:=Aside0.mk (below_step (by repeat (first|(with_reducible first|exact HB.out|apply below_alloc|apply pw_below_drewN|apply below_drew1|refine below_set ?_ GE216.out)|exact HB.out)) hb);clear HO223;clear HO226;clear HO234;clear HO237;clear BK216;clear HB;have HO223:=n0_;have HO226:=n1_;have HO234:=n2_;have HO237:=n3_;have BK216:=n4_;have HB:=n5_;clear n0_ n1_ n2_ n3_ n4_ n5_;(try clear hb);(try clear hb2);(try clear hk);(try clear hi))|(clear pxt2;go_at_call 6;(with_reducible refine (quarrylaw17_smallValue.calls  t239 t240 t241 t242 t243 t246 _ A10.out).mono ?_);rintro e w20 ⟨v244,v247,rfl,ho0,ho1,hb⟩;have n0_:=Aside0.mk (Kd.R_elder' (by (with_reducible repeat (first|apply Kd.R_alloc|apply Kd.R_drewN|apply Kd.R_drew));exact HO223.out) (Kd.R_base ho0) hb);have n1_:=Aside0.mk (Kd.N_mono (Kd.N_told (Kd.N_told (Kd.N_old (by (with_reducible repeat (first|apply Kd.N_alloc|apply Kd.N_drewN|apply Kd.N_drew));exact HO226.out) hb) (Kd.R_base ho0)) (Kd.N_base ho1)) (fun _ h_=>h_.1));have n2_:=Aside0.mk (Kd.R_elder' (by (with_reducible repeat (first|apply Kd.R_alloc|apply Kd.R_drewN|apply Kd.R_drew));exact HO234.out) (Kd.R_base ho0) hb);have n3_:=Aside0.mk (Kd.N_mono (Kd.N_told (Kd.N_told (Kd.N_old (by (with_reducible repeat (first|apply Kd.N_alloc|apply Kd.N_drewN|apply Kd.N_drew));exact HO237.out) hb) (Kd.R_base ho0)) (Kd.N_base ho1)) (fun _ h_=>h_.1));have n4_:=Aside0.mk (Kd.R_lower (Kd.R_new' (Kd.R_new' (Kd.R_mono (ok':=fun k_=>True) ho0 (fun _ hk_=>trivial)) (Kd.R_lt (by (with_reducible repeat (first|apply Kd.R_alloc|apply Kd.R_drewN|apply Kd.R_drew));exact HO223.out))) (Kd.R_lt (by (with_reducible repeat (first|apply Kd.R_alloc|apply Kd.R_drewN|apply Kd.R_drew));exact HO234.out))) (below_size (by repeat (first|(with_reducible first|exact HB.out|apply below_alloc|apply pw_below_drewN|apply below_drew1|refine below_set ?_ GE216.out)|exact HB.out))));have n5_:=Aside0.mk (Kd.N_lower (Kd.N_mono (ok':=fun k_=>some k_ ≠ (v244 : Value).ownBlock ∧ some k_ ≠ (.slice Ao13 t221.length co13 : Value).ownBlock ∧ some k_ ≠ (.slice Ao14 t224.length co14 : Value).ownBlock ∧ some k_ ≠ (.slice Ao17 t232.length co17 : Value).ownBlock ∧ some k_ ≠ (.slice Ao18 t235.length co18 : Value).ownBlock ∧ k_ ≠ gb216) ho1 (fun k_ hk_=>⟨hk_.2,(Kd.fresh' (Kd.R_lt (by (with_reducible repeat (first|apply Kd.R_alloc|apply Kd.R_drewN|apply Kd.R_drew));exact HO223.out)) k_ hk_.1),(Kd.fresh' (Kd.N_lt (by (with_reducible repeat (first|apply Kd.N_alloc|apply Kd.N_drewN|apply Kd.N_drew));exact HO226.out)) k_ hk_.1),(Kd.fresh' (Kd.R_lt (by (with_reducible repeat (first|apply Kd.R_alloc|apply Kd.R_drewN|apply Kd.R_drew));exact HO234.out)) k_ hk_.1),(Kd.fresh' (Kd.N_lt (by (with_reducible repeat (first|apply Kd.N_alloc|apply Kd.N_drewN|apply Kd.N_drew));exact HO237.out)) k_ hk_.1),(Kd.freshB (g:=gb216) (o:=.cells #[.int .i64 a0_0,.bool a0_1,.string a0_2,.string a0_3,.slice A0_4 l0_4.length c0_4,.slice A0_5 l0_5.length c0_5] 25 (0,0)) (by (with_reducible repeat (first|refine blk_drewN ?_ _|refine blk_drew ?_|refine blk_alloc ?_ _));exact BK216.out) k_ hk_.1)⟩)) (below_size (by repeat (first|(with_reducible first|exact HB.out|apply below_alloc|apply pw_below_drewN|apply below_drew1|refine below_set ?_ GE216.out)|exact HB.out))));have n6_:=Aside0.mk (blk_below (g:=gb216) (o:=.cells #[.int .i64 a0_0,.bool a0_1,.string a0_2,.string a0_3,.slice A0_4 l0_4.length c0_4,.slice A0_5 l0_5.length c0_5] 25 (0,0)) (by (with_reducible repeat (first|refine blk_drewN ?_ _|refine blk_drew ?_|refine blk_alloc ?_ _));exact BK216.out) hb);have n7_:=Aside0.mk (below_step (by repeat (first|(with_reducible first|exact HB.out|apply below_alloc|apply pw_below_drewN|apply below_drew1|refine below_set ?_ GE216.out)|exact HB.out)) hb);clear HO223;clear HO226;clear HO234;clear HO237;clear BK216;clear HB;have HO223:=n0_;have HO226:=n1_;have HO234:=n2_;have HO237:=n3_;have HO245:=n4_;have HO248:=n5_;have BK216:=n6_;have HB:=n7_;clear n0_ n1_ n2_ n3_ n4_ n5_ n6_ n7_;(try clear hb);(try clear hb2);(try clear hk);(try clear hi);(try clear ho0);(try clear ho1);obtain ⟨Ao21,co21,eo21⟩:=Kd.R_slice HO245.out;subst eo21;obtain ⟨Ao22,co22,eo22⟩:=Kd.N_slice HO248.out;subst eo22)|(go_at_call 8;(with_reducible refine (tree_Count.calls k t239 t240 t241 t242 _ _ t243 _ _ t246 t249 _ ?side1 ?side2 ?side3 ?side4 A11.out).mono ?_);(case side1=>repeat (first|exact (Kd.R_reads' HO245.out).2.2|(with_reducible refine Kd.C_alloc ?_ _)|(with_reducible refine Kd.C_drewN ?_ _)|(with_reducible refine Kd.C_drew ?_)));(case side2=>exact (Kd.R_reads' HO245.out).2.1);(case side3=>repeat (first|exact (Kd.N_reads' HO248.out).2.2|(with_reducible refine Kd.C_alloc ?_ _)|(with_reducible refine Kd.C_drewN ?_ _)|(with_reducible refine Kd.C_drew ?_)));(case side4=>exact (Kd.N_reads' HO248.out).2.1);rintro e w23 ⟨rfl,hb⟩;have n0_:=Aside0.mk (Kd.R_below (by (with_reducible repeat (first|apply Kd.R_alloc|apply Kd.R_drewN|apply Kd.R_drew));exact HO223.out) hb);have n1_:=Aside0.mk (Kd.N_below (by (with_reducible repeat (first|apply Kd.N_alloc|apply Kd.N_drewN|apply Kd.N_drew));exact HO226.out) hb);have n2_:=Aside0.mk (Kd.R_below (by (with_reducible repeat (first|apply Kd.R_alloc|apply Kd.R_drewN|apply Kd.R_drew));exact HO234.out) hb);have n3_:=Aside0.mk (Kd.N_below (by (with_reducible repeat (first|apply Kd.N_alloc|apply Kd.N_drewN|apply Kd.N_drew));exact HO237.out) hb);have n4_:=Aside0.mk (Kd.R_below (by (with_reducible repeat (first|apply Kd.R_alloc|apply Kd.R_drewN|apply Kd.R_drew));exact HO245.out) hb);have n5_:=Aside0.mk (Kd.N_below (by (with_reducible repeat (first|apply Kd.N_alloc|apply Kd.N_drewN|apply Kd.N_drew));exact HO248.out) hb);have n6_:=Aside0.mk (blk_below (g:=gb216) (o:=.cells #[.int .i64 a0_0,.bool a0_1,.string a0_2,.string a0_3,.slice A0_4 l0_4.length c0_4,.slice A0_5 l0_5.length c0_5] 25 (0,0)) (by (with_reducible repeat (first|refine blk_drewN ?_ _|refine blk_drew ?_|refine blk_alloc ?_ _));exact BK216.out) hb);have n7_:=Aside0.mk (below_step (by repeat (first|(with_reducible first|exact HB.out|apply below_alloc|apply pw_below_drewN|apply below_drew1|refine below_set ?_ GE216.out)|exact HB.out)) hb);clear HO223;clear HO226;clear HO234;clear HO237;clear HO245;clear HO248;clear BK216;clear HB;have HO223:=n0_;have HO226:=n1_;have HO234:=n2_;have HO237:=n3_;have HO245:=n4_;have HO248:=n5_;have BK216:=n6_;have HB:=n7_;clear n0_ n1_ n2_ n3_ n4_ n5_ n6_ n7_;(try clear hb);(try clear hb2);(try clear hk);(try clear hi)))
    go_meet
    case rel=>exact ⟨_,((t249 != 5)),(by first|rfl|(simp;done)|(simp [*];done)),(by first|exact H'|(subst_vars;exact H')),⟨by first|omega|exact Nat.le_refl _⟩,⟨by (with_reducible repeat (first|refine blk_drewN ?_ _|refine blk_drew ?_|refine blk_alloc ?_ _));exact BK216.out⟩,⟨by repeat (first|(with_reducible first|exact HB.out|apply below_alloc|apply pw_below_drewN|apply below_drew1|refine below_set ?_ GE216.out)|exact HB.out)⟩⟩
   ·rw [if_neg c9] at H
    have c9b0 : (t238 == 2) = false:=beq_eq_false_iff_ne.mpr c9
    have c9b1 : (t238 != 2) = true:=bne_iff_ne.mpr c9
    (first|rw [c9b0]|(simp only [i64_w,i32_w];rw [c9b0])|skip)
    have H':=Aside0.mk H
    clear H
    go_wp2_with (first|((with_reducible refine gate_callee (f:=6) rfl ?_);refine goesL_ (some 3) rfl rfl Tryd.func6 (by kernel_rfl) rfl #[] rfl (by (try simp only [List.map_toArray,List.map_cons,List.map_nil]);first|done|rfl|(simp only [List.length_drop,List.length_take];rfl)) ?_;(with_reducible refine (quarrylaw17_smallValue.calls  t217 t218 t219 t220 t221 t224 _ A4.out).mono ?_);rintro e w24 ⟨v222,v225,rfl,ho0,ho1,hb⟩;refine ⟨_,rfl,?_⟩;have n0_:=Aside0.mk (Kd.R_lower (Kd.R_mono (ok':=fun k_=>True) ho0 (fun _ hk_=>trivial)) (below_size (by repeat (first|(with_reducible first|exact HB.out|apply below_alloc|apply pw_below_drewN|apply below_drew1|refine below_set ?_ GE216.out)|exact HB.out))));have n1_:=Aside0.mk (Kd.N_lower (Kd.N_mono (ok':=fun k_=>some k_ ≠ (v222 : Value).ownBlock ∧ k_ ≠ gb216) ho1 (fun k_ hk_=>⟨hk_.2,(Kd.freshB (g:=gb216) (o:=.cells #[.int .i64 a0_0,.bool a0_1,.string a0_2,.string a0_3,.slice A0_4 l0_4.length c0_4,.slice A0_5 l0_5.length c0_5] 25 (0,0)) (by (with_reducible repeat (first|refine blk_drewN ?_ _|refine blk_drew ?_|refine blk_alloc ?_ _));exact BK216.out) k_ hk_.1)⟩)) (below_size (by repeat (first|(with_reducible first|exact HB.out|apply below_alloc|apply pw_below_drewN|apply below_drew1|refine below_set ?_ GE216.out)|exact HB.out))));have n2_:=Aside0.mk (blk_below (g:=gb216) (o:=.cells #[.int .i64 a0_0,.bool a0_1,.string a0_2,.string a0_3,.slice A0_4 l0_4.length c0_4,.slice A0_5 l0_5.length c0_5] 25 (0,0)) (by (with_reducible repeat (first|refine blk_drewN ?_ _|refine blk_drew ?_|refine blk_alloc ?_ _));exact BK216.out) hb);have n3_:=Aside0.mk (below_step (by repeat (first|(with_reducible first|exact HB.out|apply below_alloc|apply pw_below_drewN|apply below_drew1|refine below_set ?_ GE216.out)|exact HB.out)) hb);clear BK216;clear HB;have HO223:=n0_;have HO226:=n1_;have BK216:=n2_;have HB:=n3_;clear n0_ n1_ n2_ n3_;(try clear hb);(try clear hb2);(try clear hk);(try clear hi);(try clear ho0);(try clear ho1);obtain ⟨Ao25,co25,eo25⟩:=Kd.R_slice HO223.out;subst eo25;obtain ⟨Ao26,co26,eo26⟩:=Kd.N_slice HO226.out;subst eo26)|((with_reducible refine gate_callee (f:=5) rfl ?_);refine goesL_ (some 4) rfl rfl Tryd.func5 (by kernel_rfl) rfl #[.agg #[.int .i64 t217,.bool t218,.string t219,.string t220,.slice Ao25 t221.length co25,.slice Ao26 t224.length co26]] rfl (by (try simp only [List.map_toArray,List.map_cons,List.map_nil]);first|done|rfl|(simp only [List.length_drop,List.length_take];rfl)) ?_;(with_reducible refine (tree_Formed.calls k t217 t218 t219 t220 _ _ t221 _ _ t224 true _ ?side1 ?side2 ?side3 ?side4 A5.out).mono ?_);(case side1=>repeat (first|exact (Kd.R_reads' HO223.out).2.2|(with_reducible refine Kd.C_alloc ?_ _)|(with_reducible refine Kd.C_drewN ?_ _)|(with_reducible refine Kd.C_drew ?_)));(case side2=>exact (Kd.R_reads' HO223.out).2.1);(case side3=>repeat (first|exact (Kd.N_reads' HO226.out).2.2|(with_reducible refine Kd.C_alloc ?_ _)|(with_reducible refine Kd.C_drewN ?_ _)|(with_reducible refine Kd.C_drew ?_)));(case side4=>exact (Kd.N_reads' HO226.out).2.1);rintro e w27 ⟨rfl,hb⟩;refine ⟨_,rfl,?_⟩;have n0_:=Aside0.mk (Kd.R_below (by (with_reducible repeat (first|apply Kd.R_alloc|apply Kd.R_drewN|apply Kd.R_drew));exact HO223.out) hb);have n1_:=Aside0.mk (Kd.N_below (by (with_reducible repeat (first|apply Kd.N_alloc|apply Kd.N_drewN|apply Kd.N_drew));exact HO226.out) hb);have n2_:=Aside0.mk (blk_below (g:=gb216) (o:=.cells #[.int .i64 a0_0,.bool a0_1,.string a0_2,.string a0_3,.slice A0_4 l0_4.length c0_4,.slice A0_5 l0_5.length c0_5] 25 (0,0)) (by (with_reducible repeat (first|refine blk_drewN ?_ _|refine blk_drew ?_|refine blk_alloc ?_ _));exact BK216.out) hb);have n3_:=Aside0.mk (below_step (by repeat (first|(with_reducible first|exact HB.out|apply below_alloc|apply pw_below_drewN|apply below_drew1|refine below_set ?_ GE216.out)|exact HB.out)) hb);clear HO223;clear HO226;clear BK216;clear HB;have HO223:=n0_;have HO226:=n1_;have BK216:=n2_;have HB:=n3_;clear n0_ n1_ n2_ n3_;(try clear hb);(try clear hb2);(try clear hk);(try clear hi))|(go_at_call 6;(with_reducible refine (quarrylaw17_smallValue.calls  t228 t229 t230 t231 t232 t235 _ A7.out).mono ?_);rintro e w28 ⟨v233,v236,rfl,ho0,ho1,hb⟩;have n0_:=Aside0.mk (Kd.R_elder' (by (with_reducible repeat (first|apply Kd.R_alloc|apply Kd.R_drewN|apply Kd.R_drew));exact HO223.out) (Kd.R_base ho0) hb);have n1_:=Aside0.mk (Kd.N_mono (Kd.N_told (Kd.N_told (Kd.N_old (by (with_reducible repeat (first|apply Kd.N_alloc|apply Kd.N_drewN|apply Kd.N_drew));exact HO226.out) hb) (Kd.R_base ho0)) (Kd.N_base ho1)) (fun _ h_=>h_.1));have n2_:=Aside0.mk (Kd.R_lower (Kd.R_new' (Kd.R_mono (ok':=fun k_=>True) ho0 (fun _ hk_=>trivial)) (Kd.R_lt (by (with_reducible repeat (first|apply Kd.R_alloc|apply Kd.R_drewN|apply Kd.R_drew));exact HO223.out))) (below_size (by repeat (first|(with_reducible first|exact HB.out|apply below_alloc|apply pw_below_drewN|apply below_drew1|refine below_set ?_ GE216.out)|exact HB.out))));have n3_:=Aside0.mk (Kd.N_lower (Kd.N_mono (ok':=fun k_=>some k_ ≠ (v233 : Value).ownBlock ∧ some k_ ≠ (.slice Ao25 t221.length co25 : Value).ownBlock ∧ some k_ ≠ (.slice Ao26 t224.length co26 : Value).ownBlock ∧ k_ ≠ gb216) ho1 (fun k_ hk_=>⟨hk_.2,(Kd.fresh' (Kd.R_lt (by (with_reducible repeat (first|apply Kd.R_alloc|apply Kd.R_drewN|apply Kd.R_drew));exact HO223.out)) k_ hk_.1),(Kd.fresh' (Kd.N_lt (by (with_reducible repeat (first|apply Kd.N_alloc|apply Kd.N_drewN|apply Kd.N_drew));exact HO226.out)) k_ hk_.1),(Kd.freshB (g:=gb216) (o:=.cells #[.int .i64 a0_0,.bool a0_1,.string a0_2,.string a0_3,.slice A0_4 l0_4.length c0_4,.slice A0_5 l0_5.length c0_5] 25 (0,0)) (by (with_reducible repeat (first|refine blk_drewN ?_ _|refine blk_drew ?_|refine blk_alloc ?_ _));exact BK216.out) k_ hk_.1)⟩)) (below_size (by repeat (first|(with_reducible first|exact HB.out|apply below_alloc|apply pw_below_drewN|apply below_drew1|refine below_set ?_ GE216.out)|exact HB.out))));have n4_:=Aside0.mk (blk_below (g:=gb216) (o:=.cells #[.int .i64 a0_0,.bool a0_1,.string a0_2,.string a0_3,.slice A0_4 l0_4.length c0_4,.slice A0_5 l0_5.length c0_5] 25 (0,0)) (by (with_reducible repeat (first|refine blk_drewN ?_ _|refine blk_drew ?_|refine blk_alloc ?_ _));exact BK216.out) hb);have n5_:=Aside0.mk (below_step (by repeat (first|(with_reducible first|exact HB.out|apply below_alloc|apply pw_below_drewN|apply below_drew1|refine below_set ?_ GE216.out)|exact HB.out)) hb);clear HO223;clear HO226;clear BK216;clear HB;have HO223:=n0_;have HO226:=n1_;have HO234:=n2_;have HO237:=n3_;have BK216:=n4_;have HB:=n5_;clear n0_ n1_ n2_ n3_ n4_ n5_;(try clear hb);(try clear hb2);(try clear hk);(try clear hi);(try clear ho0);(try clear ho1);obtain ⟨Ao29,co29,eo29⟩:=Kd.R_slice HO234.out;subst eo29;obtain ⟨Ao30,co30,eo30⟩:=Kd.N_slice HO237.out;subst eo30)|(go_at_call 7;(with_reducible refine (tree_Depth.calls k t228 t229 t230 t231 _ _ t232 _ _ t235 t238 _ ?side1 ?side2 ?side3 ?side4 A8.out).mono ?_);(case side1=>repeat (first|exact (Kd.R_reads' HO234.out).2.2|(with_reducible refine Kd.C_alloc ?_ _)|(with_reducible refine Kd.C_drewN ?_ _)|(with_reducible refine Kd.C_drew ?_)));(case side2=>exact (Kd.R_reads' HO234.out).2.1);(case side3=>repeat (first|exact (Kd.N_reads' HO237.out).2.2|(with_reducible refine Kd.C_alloc ?_ _)|(with_reducible refine Kd.C_drewN ?_ _)|(with_reducible refine Kd.C_drew ?_)));(case side4=>exact (Kd.N_reads' HO237.out).2.1);rintro e w31 ⟨rfl,hb⟩;have n0_:=Aside0.mk (Kd.R_below (by (with_reducible repeat (first|apply Kd.R_alloc|apply Kd.R_drewN|apply Kd.R_drew));exact HO223.out) hb);have n1_:=Aside0.mk (Kd.N_below (by (with_reducible repeat (first|apply Kd.N_alloc|apply Kd.N_drewN|apply Kd.N_drew));exact HO226.out) hb);have n2_:=Aside0.mk (Kd.R_below (by (with_reducible repeat (first|apply Kd.R_alloc|apply Kd.R_drewN|apply Kd.R_drew));exact HO234.out) hb);have n3_:=Aside0.mk (Kd.N_below (by (with_reducible repeat (first|apply Kd.N_alloc|apply Kd.N_drewN|apply Kd.N_drew));exact HO237.out) hb);have n4_:=Aside0.mk (blk_below (g:=gb216) (o:=.cells #[.int .i64 a0_0,.bool a0_1,.string a0_2,.string a0_3,.slice A0_4 l0_4.length c0_4,.slice A0_5 l0_5.length c0_5] 25 (0,0)) (by (with_reducible repeat (first|refine blk_drewN ?_ _|refine blk_drew ?_|refine blk_alloc ?_ _));exact BK216.out) hb);have n5_:=Aside0.mk (below_step (by repeat (first|(with_reducible first|exact HB.out|apply below_alloc|apply pw_below_drewN|apply below_drew1|refine below_set ?_ GE216.out)|exact HB.out)) hb);clear HO223;clear HO226;clear HO234;clear HO237;clear BK216;clear HB;have HO223:=n0_;have HO226:=n1_;have HO234:=n2_;have HO237:=n3_;have BK216:=n4_;have HB:=n5_;clear n0_ n1_ n2_ n3_ n4_ n5_;(try clear hb);(try clear hb2);(try clear hk);(try clear hi)))
    go_meet
    case rel=>exact ⟨_,(true),(by first|rfl|(simp;done)|(simp [*];done)),(by first|exact H'|(subst_vars;exact H')),⟨by first|omega|exact Nat.le_refl _⟩,⟨by (with_reducible repeat (first|refine blk_drewN ?_ _|refine blk_drew ?_|refine blk_alloc ?_ _));exact BK216.out⟩,⟨by repeat (first|(with_reducible first|exact HB.out|apply below_alloc|apply pw_below_drewN|apply below_drew1|refine below_set ?_ GE216.out)|exact HB.out)⟩⟩
  ·replace c6:=Bool.eq_false_iff.mpr c6
   subst c6
   have H1 : (quarrylaw17_TreeShapes.j0 k true a0_0 a0_1 a0_2 a0_3 l0_4 l0_5) = some r:=by rw [if_neg (show ¬ (false = true) by decide)] at H;exact H
   clear H
   have H:=H1
   clear H1
   have H':=Aside0.mk H
   clear H
   go_wp2_with (first|((with_reducible refine gate_callee (f:=6) rfl ?_);refine goesL_ (some 3) rfl rfl Tryd.func6 (by kernel_rfl) rfl #[] rfl (by (try simp only [List.map_toArray,List.map_cons,List.map_nil]);first|done|rfl|(simp only [List.length_drop,List.length_take];rfl)) ?_;(with_reducible refine (quarrylaw17_smallValue.calls  t217 t218 t219 t220 t221 t224 _ A4.out).mono ?_);rintro e w32 ⟨v222,v225,rfl,ho0,ho1,hb⟩;refine ⟨_,rfl,?_⟩;have n0_:=Aside0.mk (Kd.R_lower (Kd.R_mono (ok':=fun k_=>True) ho0 (fun _ hk_=>trivial)) (below_size (by repeat (first|(with_reducible first|exact HB.out|apply below_alloc|apply pw_below_drewN|apply below_drew1|refine below_set ?_ GE216.out)|exact HB.out))));have n1_:=Aside0.mk (Kd.N_lower (Kd.N_mono (ok':=fun k_=>some k_ ≠ (v222 : Value).ownBlock ∧ k_ ≠ gb216) ho1 (fun k_ hk_=>⟨hk_.2,(Kd.freshB (g:=gb216) (o:=.cells #[.int .i64 a0_0,.bool a0_1,.string a0_2,.string a0_3,.slice A0_4 l0_4.length c0_4,.slice A0_5 l0_5.length c0_5] 25 (0,0)) (by (with_reducible repeat (first|refine blk_drewN ?_ _|refine blk_drew ?_|refine blk_alloc ?_ _));exact BK216.out) k_ hk_.1)⟩)) (below_size (by repeat (first|(with_reducible first|exact HB.out|apply below_alloc|apply pw_below_drewN|apply below_drew1|refine below_set ?_ GE216.out)|exact HB.out))));have n2_:=Aside0.mk (blk_below (g:=gb216) (o:=.cells #[.int .i64 a0_0,.bool a0_1,.string a0_2,.string a0_3,.slice A0_4 l0_4.length c0_4,.slice A0_5 l0_5.length c0_5] 25 (0,0)) (by (with_reducible repeat (first|refine blk_drewN ?_ _|refine blk_drew ?_|refine blk_alloc ?_ _));exact BK216.out) hb);have n3_:=Aside0.mk (below_step (by repeat (first|(with_reducible first|exact HB.out|apply below_alloc|apply pw_below_drewN|apply below_drew1|refine below_set ?_ GE216.out)|exact HB.out)) hb);clear BK216;clear HB;have HO223:=n0_;have HO226:=n1_;have BK216:=n2_;have HB:=n3_;clear n0_ n1_ n2_ n3_;(try clear hb);(try clear hb2);(try clear hk);(try clear hi);(try clear ho0);(try clear ho1);obtain ⟨Ao33,co33,eo33⟩:=Kd.R_slice HO223.out;subst eo33;obtain ⟨Ao34,co34,eo34⟩:=Kd.N_slice HO226.out;subst eo34)|((with_reducible refine gate_callee (f:=5) rfl ?_);refine goesL_ (some 4) rfl rfl Tryd.func5 (by kernel_rfl) rfl #[.agg #[.int .i64 t217,.bool t218,.string t219,.string t220,.slice Ao33 t221.length co33,.slice Ao34 t224.length co34]] rfl (by (try simp only [List.map_toArray,List.map_cons,List.map_nil]);first|done|rfl|(simp only [List.length_drop,List.length_take];rfl)) ?_;(with_reducible refine (tree_Formed.calls k t217 t218 t219 t220 _ _ t221 _ _ t224 false _ ?side1 ?side2 ?side3 ?side4 A5.out).mono ?_);(case side1=>repeat (first|exact (Kd.R_reads' HO223.out).2.2|(with_reducible refine Kd.C_alloc ?_ _)|(with_reducible refine Kd.C_drewN ?_ _)|(with_reducible refine Kd.C_drew ?_)));(case side2=>exact (Kd.R_reads' HO223.out).2.1);(case side3=>repeat (first|exact (Kd.N_reads' HO226.out).2.2|(with_reducible refine Kd.C_alloc ?_ _)|(with_reducible refine Kd.C_drewN ?_ _)|(with_reducible refine Kd.C_drew ?_)));(case side4=>exact (Kd.N_reads' HO226.out).2.1);rintro e w35 ⟨rfl,hb⟩;refine ⟨_,rfl,?_⟩;have n0_:=Aside0.mk (Kd.R_below (by (with_reducible repeat (first|apply Kd.R_alloc|apply Kd.R_drewN|apply Kd.R_drew));exact HO223.out) hb);have n1_:=Aside0.mk (Kd.N_below (by (with_reducible repeat (first|apply Kd.N_alloc|apply Kd.N_drewN|apply Kd.N_drew));exact HO226.out) hb);have n2_:=Aside0.mk (blk_below (g:=gb216) (o:=.cells #[.int .i64 a0_0,.bool a0_1,.string a0_2,.string a0_3,.slice A0_4 l0_4.length c0_4,.slice A0_5 l0_5.length c0_5] 25 (0,0)) (by (with_reducible repeat (first|refine blk_drewN ?_ _|refine blk_drew ?_|refine blk_alloc ?_ _));exact BK216.out) hb);have n3_:=Aside0.mk (below_step (by repeat (first|(with_reducible first|exact HB.out|apply below_alloc|apply pw_below_drewN|apply below_drew1|refine below_set ?_ GE216.out)|exact HB.out)) hb);clear HO223;clear HO226;clear BK216;clear HB;have HO223:=n0_;have HO226:=n1_;have BK216:=n2_;have HB:=n3_;clear n0_ n1_ n2_ n3_;(try clear hb);(try clear hb2);(try clear hk);(try clear hi)))
   go_meet
   case rel=>exact ⟨_,(true),(by first|rfl|(simp;done)|(simp [*];done)),(by first|exact H'|(subst_vars;exact H')),⟨by first|omega|exact Nat.le_refl _⟩,⟨by (with_reducible repeat (first|refine blk_drewN ?_ _|refine blk_drew ?_|refine blk_alloc ?_ _));exact BK216.out⟩,⟨by repeat (first|(with_reducible first|exact HB.out|apply below_alloc|apply pw_below_drewN|apply below_drew1|refine below_set ?_ GE216.out)|exact HB.out)⟩⟩
 case rest =>
  clear HC2
  try clear p2
  try clear c3
  try clear c5
  try clear c6
  try clear c9
  try clear c9b0
  try clear c9b1
  obtain ⟨kq,x15_1,rfl,HA,HJ1,BK216,HB⟩:=hcut
  cases kq with
  | zero=>exact absurd HA.out (by simp [quarrylaw17_TreeShapes.j0])
  | succ kj1 =>
   have H:=HA.out
   clear HA
   simp only [quarrylaw17_TreeShapes.j0] at H
   by_cases c36 : x15_1 = true
   ·subst c36
    have H1 : (some false) = some r:=by rw [if_pos rfl] at H;exact H
    clear H
    have H:=H1
    clear H1
    obtain rfl:=Option.some.inj H
    go_wp2
    go_ret
    exact ⟨by first|rfl|(simp [errW_none,errW_some] <;> rfl)|(simp [*,errW_none,errW_some] <;> rfl),by repeat (first|(with_reducible first|exact HB.out|apply below_alloc|apply pw_below_drewN|apply below_drew1|refine below_set ?_ GE216.out)|exact HB.out)⟩
   ·replace c36:=Bool.eq_false_iff.mpr c36
    subst c36
    have H1 : ((quarryref00_BeyondValue.f kj1 a0_0 a0_1 a0_2 a0_3 l0_4 l0_5).bind fun t250=>(if t250 = true then (some true) else ((tree_Formed.f kj1 a0_0 a0_1 a0_2 a0_3 l0_4 l0_5).bind fun t251=>((quarryref17_Formed.f kj1 a0_0 a0_1 a0_2 a0_3 l0_4 l0_5).bind fun t252=>(if (t251 == t252) = true then ((tree_Depth.f kj1 a0_0 a0_1 a0_2 a0_3 l0_4 l0_5).bind fun t253=>((quarryref17_Depth.f kj1 a0_0 a0_1 a0_2 a0_3 l0_4 l0_5).bind fun t254=>(if t253 = t254 then ((tree_Count.f kj1 a0_0 a0_1 a0_2 a0_3 l0_4 l0_5).bind fun t255=>((quarryref17_Count.f kj1 a0_0 a0_1 a0_2 a0_3 l0_4 l0_5).bind fun t256=>(some (t255 == t256)))) else (some false)))) else (some false)))))) = some r:=by rw [if_neg (show ¬ (false = true) by decide)] at H;exact H
    clear H
    have H:=H1
    clear H1
    replace H:=Option.bind_eq_some_iff.mp H
    obtain ⟨t250,A370,H⟩:=H
    replace H : (if t250 = true then (some true) else ((tree_Formed.f kj1 a0_0 a0_1 a0_2 a0_3 l0_4 l0_5).bind fun t251=>((quarryref17_Formed.f kj1 a0_0 a0_1 a0_2 a0_3 l0_4 l0_5).bind fun t252=>(if (t251 == t252) = true then ((tree_Depth.f kj1 a0_0 a0_1 a0_2 a0_3 l0_4 l0_5).bind fun t253=>((quarryref17_Depth.f kj1 a0_0 a0_1 a0_2 a0_3 l0_4 l0_5).bind fun t254=>(if t253 = t254 then ((tree_Count.f kj1 a0_0 a0_1 a0_2 a0_3 l0_4 l0_5).bind fun t255=>((quarryref17_Count.f kj1 a0_0 a0_1 a0_2 a0_3 l0_4 l0_5).bind fun t256=>(some (t255 == t256)))) else (some false)))) else (some false))))) = some r:=H
    have A37:=Aside0.mk A370
    clear A370
    by_cases c38 : t250 = true
    ·subst c38
     have H1 : (some true) = some r:=by rw [if_pos rfl] at H;exact H
     clear H
     have H:=H1
     clear H1
     obtain rfl:=Option.some.inj H
     have hcz39_0 : wc.cell? ⟨gb216,0,none⟩ = some (.int .i64 a0_0):=(blk_cell BK216.out 0).trans rfl
     have hcz39_1 : wc.cell? ⟨gb216,1,none⟩ = some (.bool a0_1):=(blk_cell BK216.out 1).trans rfl
     have hcz39_2 : wc.cell? ⟨gb216,2,none⟩ = some (.string a0_2):=(blk_cell BK216.out 2).trans rfl
     have hcz39_3 : wc.cell? ⟨gb216,3,none⟩ = some (.string a0_3):=(blk_cell BK216.out 3).trans rfl
     have hcz39_4 : wc.cell? ⟨gb216,4,none⟩ = some (.slice A0_4 l0_4.length c0_4):=(blk_cell BK216.out 4).trans rfl
     have hcz39_5 : wc.cell? ⟨gb216,5,none⟩ = some (.slice A0_5 l0_5.length c0_5):=(blk_cell BK216.out 5).trans rfl
     have hfz39_0:=blk_frozen BK216.out 0
     have hfz39_1:=blk_frozen BK216.out 1
     have hfz39_2:=blk_frozen BK216.out 2
     have hfz39_3:=blk_frozen BK216.out 3
     have hfz39_4:=blk_frozen BK216.out 4
     have hfz39_5:=blk_frozen BK216.out 5
     go_wp2_with (first|((with_reducible refine gate_callee (f:=9) rfl ?_);refine goesL_ (some 17) rfl rfl Tryd.func9 (by kernel_rfl) rfl #[.agg #[.int .i64 a0_0,.bool a0_1,.string a0_2,.string a0_3,.slice A0_4 l0_4.length c0_4,.slice A0_5 l0_5.length c0_5]] rfl (by (try simp only [List.map_toArray,List.map_cons,List.map_nil]);first|done|rfl|(simp only [List.length_drop,List.length_take];rfl)) ?_;(with_reducible refine (quarryref00_BeyondValue.calls kj1 a0_0 a0_1 a0_2 a0_3 _ _ l0_4 _ _ l0_5 true _ ?side1 ?side2 ?side3 ?side4 A37.out).mono ?_);(case side1=>repeat (first|exact (Kd.C_below HR0_4.out HB.out)|(with_reducible refine Kd.C_alloc ?_ _)|(with_reducible refine Kd.C_drewN ?_ _)|(with_reducible refine Kd.C_drew ?_)));(case side2=>exact HC0_4.out);(case side3=>repeat (first|exact (Kd.C_below HR0_5.out HB.out)|(with_reducible refine Kd.C_alloc ?_ _)|(with_reducible refine Kd.C_drewN ?_ _)|(with_reducible refine Kd.C_drew ?_)));(case side4=>exact HC0_5.out);rintro e w40 ⟨rfl,hb⟩;refine ⟨_,rfl,?_⟩;have n0_:=Aside0.mk (blk_below (g:=gb216) (o:=.cells #[.int .i64 a0_0,.bool a0_1,.string a0_2,.string a0_3,.slice A0_4 l0_4.length c0_4,.slice A0_5 l0_5.length c0_5] 25 (0,0)) (by (with_reducible repeat (first|refine blk_drewN ?_ _|refine blk_drew ?_|refine blk_alloc ?_ _));exact BK216.out) hb);have n1_:=Aside0.mk (below_step (by repeat (first|(with_reducible first|exact HB.out|apply below_alloc|apply pw_below_drewN|apply below_drew1|refine below_set ?_ GE216.out)|exact HB.out)) hb);clear BK216;clear HB;have BK216:=n0_;have HB:=n1_;clear n0_ n1_;(try clear hb);(try clear hb2);(try clear hk);(try clear hi)))
     go_ret
     exact ⟨by first|rfl|(simp [errW_none,errW_some] <;> rfl)|(simp [*,errW_none,errW_some] <;> rfl),by repeat (first|(with_reducible first|exact HB.out|apply below_alloc|apply pw_below_drewN|apply below_drew1|refine below_set ?_ GE216.out)|exact HB.out)⟩
    ·replace c38:=Bool.eq_false_iff.mpr c38
     subst c38
     have H1 : ((tree_Formed.f kj1 a0_0 a0_1 a0_2 a0_3 l0_4 l0_5).bind fun t251=>((quarryref17_Formed.f kj1 a0_0 a0_1 a0_2 a0_3 l0_4 l0_5).bind fun t252=>(if (t251 == t252) = true then ((tree_Depth.f kj1 a0_0 a0_1 a0_2 a0_3 l0_4 l0_5).bind fun t253=>((quarryref17_Depth.f kj1 a0_0 a0_1 a0_2 a0_3 l0_4 l0_5).bind fun t254=>(if t253 = t254 then ((tree_Count.f kj1 a0_0 a0_1 a0_2 a0_3 l0_4 l0_5).bind fun t255=>((quarryref17_Count.f kj1 a0_0 a0_1 a0_2 a0_3 l0_4 l0_5).bind fun t256=>(some (t255 == t256)))) else (some false)))) else (some false)))) = some r:=by rw [if_neg (show ¬ (false = true) by decide)] at H;exact H
     clear H
     have H:=H1
     clear H1
     replace H:=Option.bind_eq_some_iff.mp H
     obtain ⟨t251,A410,H⟩:=H
     replace H : ((quarryref17_Formed.f kj1 a0_0 a0_1 a0_2 a0_3 l0_4 l0_5).bind fun t252=>(if (t251 == t252) = true then ((tree_Depth.f kj1 a0_0 a0_1 a0_2 a0_3 l0_4 l0_5).bind fun t253=>((quarryref17_Depth.f kj1 a0_0 a0_1 a0_2 a0_3 l0_4 l0_5).bind fun t254=>(if t253 = t254 then ((tree_Count.f kj1 a0_0 a0_1 a0_2 a0_3 l0_4 l0_5).bind fun t255=>((quarryref17_Count.f kj1 a0_0 a0_1 a0_2 a0_3 l0_4 l0_5).bind fun t256=>(some (t255 == t256)))) else (some false)))) else (some false))) = some r:=H
     have A41:=Aside0.mk A410
     clear A410
     replace H:=Option.bind_eq_some_iff.mp H
     obtain ⟨t252,A420,H⟩:=H
     replace H : (if (t251 == t252) = true then ((tree_Depth.f kj1 a0_0 a0_1 a0_2 a0_3 l0_4 l0_5).bind fun t253=>((quarryref17_Depth.f kj1 a0_0 a0_1 a0_2 a0_3 l0_4 l0_5).bind fun t254=>(if t253 = t254 then ((tree_Count.f kj1 a0_0 a0_1 a0_2 a0_3 l0_4 l0_5).bind fun t255=>((quarryref17_Count.f kj1 a0_0 a0_1 a0_2 a0_3 l0_4 l0_5).bind fun t256=>(some (t255 == t256)))) else (some false)))) else (some false)) = some r:=H
     have A42:=Aside0.mk A420
     clear A420
     by_cases c43 : (t251 == t252) = true
     ·rw [if_pos c43] at H
      have c43b0 : (t251 == t252) = true:=c43
      (try (have c43b1 : decide (t251 = t252) = true:=by simpa using c43))
      (try (have c43b2 : (t251 == t252) = true:=by simpa using c43))
      clear c43
      replace H:=Option.bind_eq_some_iff.mp H
      obtain ⟨t253,A440,H⟩:=H
      replace H : ((quarryref17_Depth.f kj1 a0_0 a0_1 a0_2 a0_3 l0_4 l0_5).bind fun t254=>(if t253 = t254 then ((tree_Count.f kj1 a0_0 a0_1 a0_2 a0_3 l0_4 l0_5).bind fun t255=>((quarryref17_Count.f kj1 a0_0 a0_1 a0_2 a0_3 l0_4 l0_5).bind fun t256=>(some (t255 == t256)))) else (some false))) = some r:=H
      have A44:=Aside0.mk A440
      clear A440
      replace H:=Option.bind_eq_some_iff.mp H
      obtain ⟨t254,A450,H⟩:=H
      replace H : (if t253 = t254 then ((tree_Count.f kj1 a0_0 a0_1 a0_2 a0_3 l0_4 l0_5).bind fun t255=>((quarryref17_Count.f kj1 a0_0 a0_1 a0_2 a0_3 l0_4 l0_5).bind fun t256=>(some (t255 == t256)))) else (some false)) = some r:=H
      have A45:=Aside0.mk A450
      clear A450
      by_cases c46 : t253 = t254
      ·rw [if_pos c46] at H
       have c46b0 : (t253 == t254) = true:=beq_iff_eq.mpr c46
       have c46b1 : (t253 != t254) = false:=bne_eq_false_iff_eq.mpr c46
       clear c46
       replace H:=Option.bind_eq_some_iff.mp H
       obtain ⟨t255,A470,H⟩:=H
       replace H : ((quarryref17_Count.f kj1 a0_0 a0_1 a0_2 a0_3 l0_4 l0_5).bind fun t256=>(some (t255 == t256))) = some r:=H
       have A47:=Aside0.mk A470
       clear A470
       replace H:=Option.bind_eq_some_iff.mp H
       obtain ⟨t256,A480,H⟩:=H
       replace H : (some (t255 == t256)) = some r:=H
       have A48:=Aside0.mk A480
       clear A480
       obtain rfl:=Option.some.inj H
       have hcz49_0 : wc.cell? ⟨gb216,0,none⟩ = some (.int .i64 a0_0):=(blk_cell BK216.out 0).trans rfl
       have hcz49_1 : wc.cell? ⟨gb216,1,none⟩ = some (.bool a0_1):=(blk_cell BK216.out 1).trans rfl
       have hcz49_2 : wc.cell? ⟨gb216,2,none⟩ = some (.string a0_2):=(blk_cell BK216.out 2).trans rfl
       have hcz49_3 : wc.cell? ⟨gb216,3,none⟩ = some (.string a0_3):=(blk_cell BK216.out 3).trans rfl
       have hcz49_4 : wc.cell? ⟨gb216,4,none⟩ = some (.slice A0_4 l0_4.length c0_4):=(blk_cell BK216.out 4).trans rfl
       have hcz49_5 : wc.cell? ⟨gb216,5,none⟩ = some (.slice A0_5 l0_5.length c0_5):=(blk_cell BK216.out 5).trans rfl
       have hfz49_0:=blk_frozen BK216.out 0
       have hfz49_1:=blk_frozen BK216.out 1
       have hfz49_2:=blk_frozen BK216.out 2
       have hfz49_3:=blk_frozen BK216.out 3
       have hfz49_4:=blk_frozen BK216.out 4
       have hfz49_5:=blk_frozen BK216.out 5
       try go_wp2_with (first|((with_reducible refine gate_callee (f:=9) rfl ?_);refine goesL_ (some 17) rfl rfl Tryd.func9 (by kernel_rfl) rfl #[.agg #[.int .i64 a0_0,.bool a0_1,.string a0_2,.string a0_3,.slice A0_4 l0_4.length c0_4,.slice A0_5 l0_5.length c0_5]] rfl (by (try simp only [List.map_toArray,List.map_cons,List.map_nil]);first|done|rfl|(simp only [List.length_drop,List.length_take];rfl)) ?_;(with_reducible refine (quarryref00_BeyondValue.calls kj1 a0_0 a0_1 a0_2 a0_3 _ _ l0_4 _ _ l0_5 false _ ?side1 ?side2 ?side3 ?side4 A37.out).mono ?_);(case side1=>repeat (first|exact (Kd.C_below HR0_4.out HB.out)|(with_reducible refine Kd.C_alloc ?_ _)|(with_reducible refine Kd.C_drewN ?_ _)|(with_reducible refine Kd.C_drew ?_)));(case side2=>exact HC0_4.out);(case side3=>repeat (first|exact (Kd.C_below HR0_5.out HB.out)|(with_reducible refine Kd.C_alloc ?_ _)|(with_reducible refine Kd.C_drewN ?_ _)|(with_reducible refine Kd.C_drew ?_)));(case side4=>exact HC0_5.out);rintro e w50 ⟨rfl,hb⟩;refine ⟨_,rfl,?_⟩;have n0_:=Aside0.mk (blk_below (g:=gb216) (o:=.cells #[.int .i64 a0_0,.bool a0_1,.string a0_2,.string a0_3,.slice A0_4 l0_4.length c0_4,.slice A0_5 l0_5.length c0_5] 25 (0,0)) (by (with_reducible repeat (first|refine blk_drewN ?_ _|refine blk_drew ?_|refine blk_alloc ?_ _));exact BK216.out) hb);have n1_:=Aside0.mk (below_step (by repeat (first|(with_reducible first|exact HB.out|apply below_alloc|apply pw_below_drewN|apply below_drew1|refine below_set ?_ GE216.out)|exact HB.out)) hb);clear BK216;clear HB;have BK216:=n0_;have HB:=n1_;clear n0_ n1_;(try clear hb);(try clear hb2);(try clear hk);(try clear hi)))
       have n0_:=Aside0.mk (blk_drew BK216.out)
       have n1_:=Aside0.mk (below_drew1 HB.out)
       clear BK216
       clear HB
       have BK216:=n0_
       have HB:=n1_
       clear n0_ n1_
       refine start_ (n:=20) (S:=fun w'=>w'.cell? ⟨gb216,0,none⟩ = some (.int .i64 a0_0) ∧ w'.cell? ⟨gb216,1,none⟩ = some (.bool a0_1) ∧ w'.cell? ⟨gb216,2,none⟩ = some (.string a0_2) ∧ w'.cell? ⟨gb216,3,none⟩ = some (.string a0_3) ∧ w'.cell? ⟨gb216,4,none⟩ = some (.slice A0_4 l0_4.length c0_4) ∧ w'.cell? ⟨gb216,5,none⟩ = some (.slice A0_5 l0_5.length c0_5)) (ds:=[]) #[false,false,false,false,false,false,false,false,false,false,false,false,false,false,false,false,false,false,false,false] (by kernel_rfl) rfl rfl ⟨(blk_cell BK216.out 0).trans rfl,(blk_cell BK216.out 1).trans rfl,(blk_cell BK216.out 2).trans rfl,(blk_cell BK216.out 3).trans rfl,(blk_cell BK216.out 4).trans rfl,(blk_cell BK216.out 5).trans rfl⟩ (fun hHeld=>?_);refine with_tabW quarrylaw17_TreeShapes.tab5 quarrylaw17_TreeShapes.bits5 (fun HT_ HW_=>?_)
       generalize w50.drew = w51 at BK216 HB hHeld ⊢
       refine take_ (i:=0) (N:=some 18) (v:=?_) (a':=?_) #[true,false,false,false,false,false,false,false,false,false,false,false,false,false,false,false,false,false,false,false] rfl rfl (take_ofW HT_.out HW_.out (by kernel_rfl)) (fun _ _ _ h=>h) (Or.inl ⟨by rfl,?_⟩) hHeld ?_ ?_
       rotate_left
       ·rintro w' ⟨s0,s1,s2,s3,s4,s5⟩
        go_simp
        with_reducible rfl
       rotate_left
       ·simp only [Act.put,List.setIfInBounds_toArray,List.set_cons_zero,List.set_cons_succ,i64_w,i32_w]
        rfl
       refine take_ (i:=2) (N:=some 20) (v:=?_) (a':=?_) #[true,false,true,false,false,false,false,false,false,false,false,false,false,false,false,false,false,false,false,false] rfl rfl (take_ofW HT_.out HW_.out (by kernel_rfl)) (fun _ _ _ h=>h) (Or.inl ⟨by rfl,?_⟩) hHeld ?_ ?_
       rotate_left
       ·rintro w' ⟨s0,s1,s2,s3,s4,s5⟩
        go_simp
        with_reducible rfl
       rotate_left
       ·simp only [Act.put,List.setIfInBounds_toArray,List.set_cons_zero,List.set_cons_succ,i64_w,i32_w]
        rfl
       refine one_ (i:=1) (N:=some 19) #[true,true,true,false,false,false,false,false,false,false,false,false,false,false,false,false,false,false,false,false] rfl rfl (one_of HT_.out (by kernel_rfl)) (by decide) (fun K hK=>?_)
       refine goes_ Tryd.func5 (by kernel_rfl) rfl #[.agg #[.int .i64 a0_0,.bool a0_1,.string a0_2,.string a0_3,.slice A0_4 l0_4.length c0_4,.slice A0_5 l0_5.length c0_5]] (by rfl) rfl rfl (by (try simp only [List.map_toArray,List.map_cons,List.map_nil]);first|done|rfl|(simp only [List.length_drop,List.length_take];rfl)) ?_
       with_reducible refine (tree_Formed.calls kj1 a0_0 a0_1 a0_2 a0_3 _ _ l0_4 _ _ l0_5 t251 _ ?side1 ?side2 ?side3 ?side4 A41.out).mono ?_
       (case side1=>repeat (first|exact (Kd.C_below HR0_4.out HB.out)|(with_reducible refine Kd.C_alloc ?_ _)|(with_reducible refine Kd.C_drewN ?_ _)|(with_reducible refine Kd.C_drew ?_)))
       (case side2=>exact HC0_4.out)
       (case side3=>repeat (first|exact (Kd.C_below HR0_5.out HB.out)|(with_reducible refine Kd.C_alloc ?_ _)|(with_reducible refine Kd.C_drewN ?_ _)|(with_reducible refine Kd.C_drew ?_)))
       (case side4=>exact HC0_5.out)
       rintro e w52 ⟨rfl,hb⟩
       refine ⟨_,rfl,?_⟩
       have n0_:=Aside0.mk (blk_below (g:=gb216) (o:=.cells #[.int .i64 a0_0,.bool a0_1,.string a0_2,.string a0_3,.slice A0_4 l0_4.length c0_4,.slice A0_5 l0_5.length c0_5] 25 (0,0)) (by (with_reducible repeat (first|refine blk_drewN ?_ _|refine blk_drew ?_|refine blk_alloc ?_ _));exact BK216.out) hb)
       have n1_:=Aside0.mk (below_step (by repeat (first|(with_reducible first|exact HB.out|apply below_alloc|apply pw_below_drewN|apply below_drew1|refine below_set ?_ GE216.out)|exact HB.out)) hb)
       clear BK216
       clear HB
       have BK216:=n0_
       have HB:=n1_
       clear n0_ n1_
       (try clear hb)
       (try clear hb2)
       (try clear hk)
       (try clear hi)
       refine hK.out _ _ ⟨(blk_cell BK216.out 0).trans rfl,(blk_cell BK216.out 1).trans rfl,(blk_cell BK216.out 2).trans rfl,(blk_cell BK216.out 3).trans rfl,(blk_cell BK216.out 4).trans rfl,(blk_cell BK216.out 5).trans rfl⟩ (fun hHeld=>?_)
       clear hK K
       refine norm_ (a':=?_) ?_ ?_
       rotate_left
       ·show Act.put _ (some 19) _ = _
        simp only [Act.put,List.setIfInBounds_toArray,List.set_cons_zero,List.set_cons_succ,i64_w,i32_w]
        rfl
       refine one_ (i:=3) (N:=some 21) #[true,true,true,true,false,false,false,false,false,false,false,false,false,false,false,false,false,false,false,false] rfl rfl (one_of HT_.out (by kernel_rfl)) (by decide) (fun K hK=>?_)
       refine goes_ Tryd.func10 (by kernel_rfl) rfl #[.agg #[.int .i64 a0_0,.bool a0_1,.string a0_2,.string a0_3,.slice A0_4 l0_4.length c0_4,.slice A0_5 l0_5.length c0_5]] (by rfl) rfl rfl (by (try simp only [List.map_toArray,List.map_cons,List.map_nil]);first|done|rfl|(simp only [List.length_drop,List.length_take];rfl)) ?_
       with_reducible refine (quarryref17_Formed.calls kj1 a0_0 a0_1 a0_2 a0_3 _ _ l0_4 _ _ l0_5 t252 _ ?side1 ?side2 ?side3 ?side4 A42.out).mono ?_
       (case side1=>repeat (first|exact (Kd.C_below HR0_4.out HB.out)|(with_reducible refine Kd.C_alloc ?_ _)|(with_reducible refine Kd.C_drewN ?_ _)|(with_reducible refine Kd.C_drew ?_)))
       (case side2=>exact HC0_4.out)
       (case side3=>repeat (first|exact (Kd.C_below HR0_5.out HB.out)|(with_reducible refine Kd.C_alloc ?_ _)|(with_reducible refine Kd.C_drewN ?_ _)|(with_reducible refine Kd.C_drew ?_)))
       (case side4=>exact HC0_5.out)
       rintro e w53 ⟨rfl,hb⟩
       refine ⟨_,rfl,?_⟩
       have n0_:=Aside0.mk (blk_below (g:=gb216) (o:=.cells #[.int .i64 a0_0,.bool a0_1,.string a0_2,.string a0_3,.slice A0_4 l0_4.length c0_4,.slice A0_5 l0_5.length c0_5] 25 (0,0)) (by (with_reducible repeat (first|refine blk_drewN ?_ _|refine blk_drew ?_|refine blk_alloc ?_ _));exact BK216.out) hb)
       have n1_:=Aside0.mk (below_step (by repeat (first|(with_reducible first|exact HB.out|apply below_alloc|apply pw_below_drewN|apply below_drew1|refine below_set ?_ GE216.out)|exact HB.out)) hb)
       clear BK216
       clear HB
       have BK216:=n0_
       have HB:=n1_
       clear n0_ n1_
       (try clear hb)
       (try clear hb2)
       (try clear hk)
       (try clear hi)
       refine hK.out _ _ ⟨(blk_cell BK216.out 0).trans rfl,(blk_cell BK216.out 1).trans rfl,(blk_cell BK216.out 2).trans rfl,(blk_cell BK216.out 3).trans rfl,(blk_cell BK216.out 4).trans rfl,(blk_cell BK216.out 5).trans rfl⟩ (fun hHeld=>?_)
       clear hK K
       refine norm_ (a':=?_) ?_ ?_
       rotate_left
       ·show Act.put _ (some 21) _ = _
        simp only [Act.put,List.setIfInBounds_toArray,List.set_cons_zero,List.set_cons_succ,i64_w,i32_w]
        rfl
       refine pure_ (i:=4) (N:=some 22) (v:=?_) (a':=?_) #[true,true,true,true,true,false,false,false,false,false,false,false,false,false,false,false,false,false,false,false] rfl rfl (any_of HT_.out (by kernel_rfl)) (fun _ _ _ h=>h) (Or.inl ⟨by rfl,?_⟩) ?_ ?_
       rotate_left
       ·intro w'
        go_simp
        with_reducible rfl
       rotate_left
       ·simp only [Act.put,List.setIfInBounds_toArray,List.set_cons_zero,List.set_cons_succ,i64_w,i32_w]
        rfl
       refine pure_ (i:=5) (N:=some 23) (v:=?_) (a':=?_) #[true,true,true,true,true,true,false,false,false,false,false,false,false,false,false,false,false,false,false,false] rfl rfl (any_of HT_.out (by kernel_rfl)) (fun _ _ _ h=>h) (Or.inl ⟨by rfl,?_⟩) ?_ ?_
       rotate_left
       ·intro w'
        go_simp
        with_reducible rfl
       rotate_left
       ·simp only [Act.put,List.setIfInBounds_toArray,List.set_cons_zero,List.set_cons_succ,i64_w,i32_w]
        rfl
       refine take_ (i:=6) (N:=some 24) (v:=?_) (a':=?_) #[true,true,true,true,true,true,true,false,false,false,false,false,false,false,false,false,false,false,false,false] rfl rfl (take_ofW HT_.out HW_.out (by kernel_rfl)) (fun _ _ _ h=>h) (Or.inl ⟨by rfl,?_⟩) hHeld ?_ ?_
       rotate_left
       ·rintro w' ⟨s0,s1,s2,s3,s4,s5⟩
        go_simp
        with_reducible rfl
       rotate_left
       ·simp only [Act.put,List.setIfInBounds_toArray,List.set_cons_zero,List.set_cons_succ,i64_w,i32_w]
        rfl
       refine take_ (i:=8) (N:=some 26) (v:=?_) (a':=?_) #[true,true,true,true,true,true,true,false,true,false,false,false,false,false,false,false,false,false,false,false] rfl rfl (take_ofW HT_.out HW_.out (by kernel_rfl)) (fun _ _ _ h=>h) (Or.inl ⟨by rfl,?_⟩) hHeld ?_ ?_
       rotate_left
       ·rintro w' ⟨s0,s1,s2,s3,s4,s5⟩
        go_simp
        with_reducible rfl
       rotate_left
       ·simp only [Act.put,List.setIfInBounds_toArray,List.set_cons_zero,List.set_cons_succ,i64_w,i32_w]
        rfl
       refine one_ (i:=7) (N:=some 25) #[true,true,true,true,true,true,true,true,true,false,false,false,false,false,false,false,false,false,false,false] rfl rfl (one_of HT_.out (by kernel_rfl)) (by decide) (fun K hK=>?_)
       refine goes_ Tryd.func7 (by kernel_rfl) rfl #[.agg #[.int .i64 a0_0,.bool a0_1,.string a0_2,.string a0_3,.slice A0_4 l0_4.length c0_4,.slice A0_5 l0_5.length c0_5]] (by rfl) rfl rfl (by (try simp only [List.map_toArray,List.map_cons,List.map_nil]);first|done|rfl|(simp only [List.length_drop,List.length_take];rfl)) ?_
       with_reducible refine (tree_Depth.calls kj1 a0_0 a0_1 a0_2 a0_3 _ _ l0_4 _ _ l0_5 t253 _ ?side1 ?side2 ?side3 ?side4 A44.out).mono ?_
       (case side1=>repeat (first|exact (Kd.C_below HR0_4.out HB.out)|(with_reducible refine Kd.C_alloc ?_ _)|(with_reducible refine Kd.C_drewN ?_ _)|(with_reducible refine Kd.C_drew ?_)))
       (case side2=>exact HC0_4.out)
       (case side3=>repeat (first|exact (Kd.C_below HR0_5.out HB.out)|(with_reducible refine Kd.C_alloc ?_ _)|(with_reducible refine Kd.C_drewN ?_ _)|(with_reducible refine Kd.C_drew ?_)))
       (case side4=>exact HC0_5.out)
       rintro e w54 ⟨rfl,hb⟩
       refine ⟨_,rfl,?_⟩
       have n0_:=Aside0.mk (blk_below (g:=gb216) (o:=.cells #[.int .i64 a0_0,.bool a0_1,.string a0_2,.string a0_3,.slice A0_4 l0_4.length c0_4,.slice A0_5 l0_5.length c0_5] 25 (0,0)) (by (with_reducible repeat (first|refine blk_drewN ?_ _|refine blk_drew ?_|refine blk_alloc ?_ _));exact BK216.out) hb)
       have n1_:=Aside0.mk (below_step (by repeat (first|(with_reducible first|exact HB.out|apply below_alloc|apply pw_below_drewN|apply below_drew1|refine below_set ?_ GE216.out)|exact HB.out)) hb)
       clear BK216
       clear HB
       have BK216:=n0_
       have HB:=n1_
       clear n0_ n1_
       (try clear hb)
       (try clear hb2)
       (try clear hk)
       (try clear hi)
       refine hK.out _ _ ⟨(blk_cell BK216.out 0).trans rfl,(blk_cell BK216.out 1).trans rfl,(blk_cell BK216.out 2).trans rfl,(blk_cell BK216.out 3).trans rfl,(blk_cell BK216.out 4).trans rfl,(blk_cell BK216.out 5).trans rfl⟩ (fun hHeld=>?_)
       clear hK K
       refine norm_ (a':=?_) ?_ ?_
       rotate_left
       ·show Act.put _ (some 25) _ = _
        simp only [Act.put,List.setIfInBounds_toArray,List.set_cons_zero,List.set_cons_succ,i64_w,i32_w]
        rfl
       refine one_ (i:=9) (N:=some 27) #[true,true,true,true,true,true,true,true,true,true,false,false,false,false,false,false,false,false,false,false] rfl rfl (one_of HT_.out (by kernel_rfl)) (by decide) (fun K hK=>?_)
       refine goes_ Tryd.func11 (by kernel_rfl) rfl #[.agg #[.int .i64 a0_0,.bool a0_1,.string a0_2,.string a0_3,.slice A0_4 l0_4.length c0_4,.slice A0_5 l0_5.length c0_5]] (by rfl) rfl rfl (by (try simp only [List.map_toArray,List.map_cons,List.map_nil]);first|done|rfl|(simp only [List.length_drop,List.length_take];rfl)) ?_
       with_reducible refine (quarryref17_Depth.calls kj1 a0_0 a0_1 a0_2 a0_3 _ _ l0_4 _ _ l0_5 t254 _ ?side1 ?side2 ?side3 ?side4 A45.out).mono ?_
       (case side1=>repeat (first|exact (Kd.C_below HR0_4.out HB.out)|(with_reducible refine Kd.C_alloc ?_ _)|(with_reducible refine Kd.C_drewN ?_ _)|(with_reducible refine Kd.C_drew ?_)))
       (case side2=>exact HC0_4.out)
       (case side3=>repeat (first|exact (Kd.C_below HR0_5.out HB.out)|(with_reducible refine Kd.C_alloc ?_ _)|(with_reducible refine Kd.C_drewN ?_ _)|(with_reducible refine Kd.C_drew ?_)))
       (case side4=>exact HC0_5.out)
       rintro e w55 ⟨rfl,hb⟩
       refine ⟨_,rfl,?_⟩
       have n0_:=Aside0.mk (blk_below (g:=gb216) (o:=.cells #[.int .i64 a0_0,.bool a0_1,.string a0_2,.string a0_3,.slice A0_4 l0_4.length c0_4,.slice A0_5 l0_5.length c0_5] 25 (0,0)) (by (with_reducible repeat (first|refine blk_drewN ?_ _|refine blk_drew ?_|refine blk_alloc ?_ _));exact BK216.out) hb)
       have n1_:=Aside0.mk (below_step (by repeat (first|(with_reducible first|exact HB.out|apply below_alloc|apply pw_below_drewN|apply below_drew1|refine below_set ?_ GE216.out)|exact HB.out)) hb)
       clear BK216
       clear HB
       have BK216:=n0_
       have HB:=n1_
       clear n0_ n1_
       (try clear hb)
       (try clear hb2)
       (try clear hk)
       (try clear hi)
       refine hK.out _ _ ⟨(blk_cell BK216.out 0).trans rfl,(blk_cell BK216.out 1).trans rfl,(blk_cell BK216.out 2).trans rfl,(blk_cell BK216.out 3).trans rfl,(blk_cell BK216.out 4).trans rfl,(blk_cell BK216.out 5).trans rfl⟩ (fun hHeld=>?_)
       clear hK K
       refine norm_ (a':=?_) ?_ ?_
       rotate_left
       ·show Act.put _ (some 27) _ = _
        simp only [Act.put,List.setIfInBounds_toArray,List.set_cons_zero,List.set_cons_succ,i64_w,i32_w]
        rfl
       refine pure_ (i:=10) (N:=some 28) (v:=?_) (a':=?_) #[true,true,true,true,true,true,true,true,true,true,true,false,false,false,false,false,false,false,false,false] rfl rfl (any_of HT_.out (by kernel_rfl)) (fun _ _ _ h=>h) (Or.inl ⟨by rfl,?_⟩) ?_ ?_
       rotate_left
       ·intro w'
        go_simp
        with_reducible rfl
       rotate_left
       ·simp only [Act.put,List.setIfInBounds_toArray,List.set_cons_zero,List.set_cons_succ,i64_w,i32_w]
        rfl
       refine pure_ (i:=11) (N:=some 29) (v:=?_) (a':=?_) #[true,true,true,true,true,true,true,true,true,true,true,true,false,false,false,false,false,false,false,false] rfl rfl (any_of HT_.out (by kernel_rfl)) (fun _ _ _ h=>h) (Or.inl ⟨by rfl,?_⟩) ?_ ?_
       rotate_left
       ·intro w'
        go_simp
        with_reducible rfl
       rotate_left
       ·simp only [Act.put,List.setIfInBounds_toArray,List.set_cons_zero,List.set_cons_succ,i64_w,i32_w]
        rfl
       refine pure_ (i:=12) (N:=some 30) (v:=?_) (a':=?_) #[true,true,true,true,true,true,true,true,true,true,true,true,true,false,false,false,false,false,false,false] rfl rfl (any_of HT_.out (by kernel_rfl)) (fun _ _ _ h=>h) (Or.inl ⟨by rfl,?_⟩) ?_ ?_
       rotate_left
       ·intro w'
        go_simp
        with_reducible rfl
       rotate_left
       ·simp only [Act.put,List.setIfInBounds_toArray,List.set_cons_zero,List.set_cons_succ,i64_w,i32_w]
        rfl
       refine take_ (i:=13) (N:=some 31) (v:=?_) (a':=?_) #[true,true,true,true,true,true,true,true,true,true,true,true,true,true,false,false,false,false,false,false] rfl rfl (take_ofW HT_.out HW_.out (by kernel_rfl)) (fun _ _ _ h=>h) (Or.inl ⟨by rfl,?_⟩) hHeld ?_ ?_
       rotate_left
       ·rintro w' ⟨s0,s1,s2,s3,s4,s5⟩
        go_simp
        with_reducible rfl
       rotate_left
       ·simp only [Act.put,List.setIfInBounds_toArray,List.set_cons_zero,List.set_cons_succ,i64_w,i32_w]
        rfl
       refine take_ (i:=15) (N:=some 33) (v:=?_) (a':=?_) #[true,true,true,true,true,true,true,true,true,true,true,true,true,true,false,true,false,false,false,false] rfl rfl (take_ofW HT_.out HW_.out (by kernel_rfl)) (fun _ _ _ h=>h) (Or.inl ⟨by rfl,?_⟩) hHeld ?_ ?_
       rotate_left
       ·rintro w' ⟨s0,s1,s2,s3,s4,s5⟩
        go_simp
        with_reducible rfl
       rotate_left
       ·simp only [Act.put,List.setIfInBounds_toArray,List.set_cons_zero,List.set_cons_succ,i64_w,i32_w]
        rfl
       refine one_ (i:=14) (N:=some 32) #[true,true,true,true,true,true,true,true,true,true,true,true,true,true,true,true,false,false,false,false] rfl rfl (one_of HT_.out (by kernel_rfl)) (by decide) (fun K hK=>?_)
       refine goes_ Tryd.func8 (by kernel_rfl) rfl #[.agg #[.int .i64 a0_0,.bool a0_1,.string a0_2,.string a0_3,.slice A0_4 l0_4.length c0_4,.slice A0_5 l0_5.length c0_5]] (by rfl) rfl rfl (by (try simp only [List.map_toArray,List.map_cons,List.map_nil]);first|done|rfl|(simp only [List.length_drop,List.length_take];rfl)) ?_
       with_reducible refine (tree_Count.calls kj1 a0_0 a0_1 a0_2 a0_3 _ _ l0_4 _ _ l0_5 t255 _ ?side1 ?side2 ?side3 ?side4 A47.out).mono ?_
       (case side1=>repeat (first|exact (Kd.C_below HR0_4.out HB.out)|(with_reducible refine Kd.C_alloc ?_ _)|(with_reducible refine Kd.C_drewN ?_ _)|(with_reducible refine Kd.C_drew ?_)))
       (case side2=>exact HC0_4.out)
       (case side3=>repeat (first|exact (Kd.C_below HR0_5.out HB.out)|(with_reducible refine Kd.C_alloc ?_ _)|(with_reducible refine Kd.C_drewN ?_ _)|(with_reducible refine Kd.C_drew ?_)))
       (case side4=>exact HC0_5.out)
       rintro e w56 ⟨rfl,hb⟩
       refine ⟨_,rfl,?_⟩
       have n0_:=Aside0.mk (blk_below (g:=gb216) (o:=.cells #[.int .i64 a0_0,.bool a0_1,.string a0_2,.string a0_3,.slice A0_4 l0_4.length c0_4,.slice A0_5 l0_5.length c0_5] 25 (0,0)) (by (with_reducible repeat (first|refine blk_drewN ?_ _|refine blk_drew ?_|refine blk_alloc ?_ _));exact BK216.out) hb)
       have n1_:=Aside0.mk (below_step (by repeat (first|(with_reducible first|exact HB.out|apply below_alloc|apply pw_below_drewN|apply below_drew1|refine below_set ?_ GE216.out)|exact HB.out)) hb)
       clear BK216
       clear HB
       have BK216:=n0_
       have HB:=n1_
       clear n0_ n1_
       (try clear hb)
       (try clear hb2)
       (try clear hk)
       (try clear hi)
       refine hK.out _ _ ⟨(blk_cell BK216.out 0).trans rfl,(blk_cell BK216.out 1).trans rfl,(blk_cell BK216.out 2).trans rfl,(blk_cell BK216.out 3).trans rfl,(blk_cell BK216.out 4).trans rfl,(blk_cell BK216.out 5).trans rfl⟩ (fun hHeld=>?_)
       clear hK K
       refine norm_ (a':=?_) ?_ ?_
       rotate_left
       ·show Act.put _ (some 32) _ = _
        simp only [Act.put,List.setIfInBounds_toArray,List.set_cons_zero,List.set_cons_succ,i64_w,i32_w]
        rfl
       refine one_ (i:=16) (N:=some 34) #[true,true,true,true,true,true,true,true,true,true,true,true,true,true,true,true,true,false,false,false] rfl rfl (one_of HT_.out (by kernel_rfl)) (by decide) (fun K hK=>?_)
       refine goes_ Tryd.func12 (by kernel_rfl) rfl #[.agg #[.int .i64 a0_0,.bool a0_1,.string a0_2,.string a0_3,.slice A0_4 l0_4.length c0_4,.slice A0_5 l0_5.length c0_5]] (by rfl) rfl rfl (by (try simp only [List.map_toArray,List.map_cons,List.map_nil]);first|done|rfl|(simp only [List.length_drop,List.length_take];rfl)) ?_
       with_reducible refine (quarryref17_Count.calls kj1 a0_0 a0_1 a0_2 a0_3 _ _ l0_4 _ _ l0_5 t256 _ ?side1 ?side2 ?side3 ?side4 A48.out).mono ?_
       (case side1=>repeat (first|exact (Kd.C_below HR0_4.out HB.out)|(with_reducible refine Kd.C_alloc ?_ _)|(with_reducible refine Kd.C_drewN ?_ _)|(with_reducible refine Kd.C_drew ?_)))
       (case side2=>exact HC0_4.out)
       (case side3=>repeat (first|exact (Kd.C_below HR0_5.out HB.out)|(with_reducible refine Kd.C_alloc ?_ _)|(with_reducible refine Kd.C_drewN ?_ _)|(with_reducible refine Kd.C_drew ?_)))
       (case side4=>exact HC0_5.out)
       rintro e w57 ⟨rfl,hb⟩
       refine ⟨_,rfl,?_⟩
       have n0_:=Aside0.mk (blk_below (g:=gb216) (o:=.cells #[.int .i64 a0_0,.bool a0_1,.string a0_2,.string a0_3,.slice A0_4 l0_4.length c0_4,.slice A0_5 l0_5.length c0_5] 25 (0,0)) (by (with_reducible repeat (first|refine blk_drewN ?_ _|refine blk_drew ?_|refine blk_alloc ?_ _));exact BK216.out) hb)
       have n1_:=Aside0.mk (below_step (by repeat (first|(with_reducible first|exact HB.out|apply below_alloc|apply pw_below_drewN|apply below_drew1|refine below_set ?_ GE216.out)|exact HB.out)) hb)
       clear BK216
       clear HB
       have BK216:=n0_
       have HB:=n1_
       clear n0_ n1_
       (try clear hb)
       (try clear hb2)
       (try clear hk)
       (try clear hi)
       refine hK.out _ _ ⟨(blk_cell BK216.out 0).trans rfl,(blk_cell BK216.out 1).trans rfl,(blk_cell BK216.out 2).trans rfl,(blk_cell BK216.out 3).trans rfl,(blk_cell BK216.out 4).trans rfl,(blk_cell BK216.out 5).trans rfl⟩ (fun hHeld=>?_)
       clear hK K
       refine norm_ (a':=?_) ?_ ?_
       rotate_left
       ·show Act.put _ (some 34) _ = _
        simp only [Act.put,List.setIfInBounds_toArray,List.set_cons_zero,List.set_cons_succ,i64_w,i32_w]
        rfl
       refine pure_ (i:=17) (N:=some 35) (v:=?_) (a':=?_) #[true,true,true,true,true,true,true,true,true,true,true,true,true,true,true,true,true,true,false,false] rfl rfl (any_of HT_.out (by kernel_rfl)) (fun _ _ _ h=>h) (Or.inl ⟨by rfl,?_⟩) ?_ ?_
       rotate_left
       ·intro w'
        go_simp
        with_reducible rfl
       rotate_left
       ·simp only [Act.put,List.setIfInBounds_toArray,List.set_cons_zero,List.set_cons_succ,i64_w,i32_w]
        rfl
       refine pure_ (i:=18) (N:=some 36) (v:=?_) (a':=?_) #[true,true,true,true,true,true,true,true,true,true,true,true,true,true,true,true,true,true,true,false] rfl rfl (any_of HT_.out (by kernel_rfl)) (fun _ _ _ h=>h) (Or.inl ⟨by rfl,?_⟩) ?_ ?_
       rotate_left
       ·intro w'
        go_simp
        with_reducible rfl
       rotate_left
       ·simp only [Act.put,List.setIfInBounds_toArray,List.set_cons_zero,List.set_cons_succ,i64_w,i32_w]
        rfl
       refine pure_ (i:=19) (N:=some 2) (v:=?_) (a':=?_) #[true,true,true,true,true,true,true,true,true,true,true,true,true,true,true,true,true,true,true,true] rfl rfl (any_of HT_.out (by kernel_rfl)) (fun _ _ _ h=>h) (Or.inl ⟨by rfl,?_⟩) ?_ ?_
       rotate_left
       ·intro w'
        go_simp
        with_reducible rfl
       rotate_left
       ·simp only [Act.put,List.setIfInBounds_toArray,List.set_cons_zero,List.set_cons_succ,i64_w,i32_w]
        rfl
       refine done_ (done_of HT_.out (by kernel_rfl)) ?_
       try go_wp2
       go_ret
       exact ⟨by first|rfl|(simp [errW_none,errW_some] <;> rfl)|(simp [*,errW_none,errW_some] <;> rfl),by repeat (first|(with_reducible first|exact HB.out|apply below_alloc|apply pw_below_drewN|apply below_drew1|refine below_set ?_ GE216.out)|exact HB.out)⟩
      ·rw [if_neg c46] at H
       have c46b0 : (t253 == t254) = false:=beq_eq_false_iff_ne.mpr c46
       have c46b1 : (t253 != t254) = true:=bne_iff_ne.mpr c46
       obtain rfl:=Option.some.inj H
       have hcz58_0 : wc.cell? ⟨gb216,0,none⟩ = some (.int .i64 a0_0):=(blk_cell BK216.out 0).trans rfl
       have hcz58_1 : wc.cell? ⟨gb216,1,none⟩ = some (.bool a0_1):=(blk_cell BK216.out 1).trans rfl
       have hcz58_2 : wc.cell? ⟨gb216,2,none⟩ = some (.string a0_2):=(blk_cell BK216.out 2).trans rfl
       have hcz58_3 : wc.cell? ⟨gb216,3,none⟩ = some (.string a0_3):=(blk_cell BK216.out 3).trans rfl
       have hcz58_4 : wc.cell? ⟨gb216,4,none⟩ = some (.slice A0_4 l0_4.length c0_4):=(blk_cell BK216.out 4).trans rfl
       have hcz58_5 : wc.cell? ⟨gb216,5,none⟩ = some (.slice A0_5 l0_5.length c0_5):=(blk_cell BK216.out 5).trans rfl
       have hfz58_0:=blk_frozen BK216.out 0
       have hfz58_1:=blk_frozen BK216.out 1
       have hfz58_2:=blk_frozen BK216.out 2
       have hfz58_3:=blk_frozen BK216.out 3
       have hfz58_4:=blk_frozen BK216.out 4
       have hfz58_5:=blk_frozen BK216.out 5
       try go_wp2_with (first|((with_reducible refine gate_callee (f:=9) rfl ?_);refine goesL_ (some 17) rfl rfl Tryd.func9 (by kernel_rfl) rfl #[.agg #[.int .i64 a0_0,.bool a0_1,.string a0_2,.string a0_3,.slice A0_4 l0_4.length c0_4,.slice A0_5 l0_5.length c0_5]] rfl (by (try simp only [List.map_toArray,List.map_cons,List.map_nil]);first|done|rfl|(simp only [List.length_drop,List.length_take];rfl)) ?_;(with_reducible refine (quarryref00_BeyondValue.calls kj1 a0_0 a0_1 a0_2 a0_3 _ _ l0_4 _ _ l0_5 false _ ?side1 ?side2 ?side3 ?side4 A37.out).mono ?_);(case side1=>repeat (first|exact (Kd.C_below HR0_4.out HB.out)|(with_reducible refine Kd.C_alloc ?_ _)|(with_reducible refine Kd.C_drewN ?_ _)|(with_reducible refine Kd.C_drew ?_)));(case side2=>exact HC0_4.out);(case side3=>repeat (first|exact (Kd.C_below HR0_5.out HB.out)|(with_reducible refine Kd.C_alloc ?_ _)|(with_reducible refine Kd.C_drewN ?_ _)|(with_reducible refine Kd.C_drew ?_)));(case side4=>exact HC0_5.out);rintro e w59 ⟨rfl,hb⟩;refine ⟨_,rfl,?_⟩;have n0_:=Aside0.mk (blk_below (g:=gb216) (o:=.cells #[.int .i64 a0_0,.bool a0_1,.string a0_2,.string a0_3,.slice A0_4 l0_4.length c0_4,.slice A0_5 l0_5.length c0_5] 25 (0,0)) (by (with_reducible repeat (first|refine blk_drewN ?_ _|refine blk_drew ?_|refine blk_alloc ?_ _));exact BK216.out) hb);have n1_:=Aside0.mk (below_step (by repeat (first|(with_reducible first|exact HB.out|apply below_alloc|apply pw_below_drewN|apply below_drew1|refine below_set ?_ GE216.out)|exact HB.out)) hb);clear BK216;clear HB;have BK216:=n0_;have HB:=n1_;clear n0_ n1_;(try clear hb);(try clear hb2);(try clear hk);(try clear hi)))
       have n0_:=Aside0.mk (blk_drew BK216.out)
       have n1_:=Aside0.mk (below_drew1 HB.out)
       clear BK216
       clear HB
       have BK216:=n0_
       have HB:=n1_
       clear n0_ n1_
       refine start_ (n:=20) (S:=fun w'=>w'.cell? ⟨gb216,0,none⟩ = some (.int .i64 a0_0) ∧ w'.cell? ⟨gb216,1,none⟩ = some (.bool a0_1) ∧ w'.cell? ⟨gb216,2,none⟩ = some (.string a0_2) ∧ w'.cell? ⟨gb216,3,none⟩ = some (.string a0_3) ∧ w'.cell? ⟨gb216,4,none⟩ = some (.slice A0_4 l0_4.length c0_4) ∧ w'.cell? ⟨gb216,5,none⟩ = some (.slice A0_5 l0_5.length c0_5)) (ds:=[]) #[false,false,false,false,false,false,false,false,false,false,false,false,false,false,false,false,false,false,false,false] (by kernel_rfl) rfl rfl ⟨(blk_cell BK216.out 0).trans rfl,(blk_cell BK216.out 1).trans rfl,(blk_cell BK216.out 2).trans rfl,(blk_cell BK216.out 3).trans rfl,(blk_cell BK216.out 4).trans rfl,(blk_cell BK216.out 5).trans rfl⟩ (fun hHeld=>?_);refine with_tabW quarrylaw17_TreeShapes.tab5 quarrylaw17_TreeShapes.bits5 (fun HT_ HW_=>?_)
       generalize w59.drew = w60 at BK216 HB hHeld ⊢
       refine take_ (i:=0) (N:=some 18) (v:=?_) (a':=?_) #[true,false,false,false,false,false,false,false,false,false,false,false,false,false,false,false,false,false,false,false] rfl rfl (take_ofW HT_.out HW_.out (by kernel_rfl)) (fun _ _ _ h=>h) (Or.inl ⟨by rfl,?_⟩) hHeld ?_ ?_
       rotate_left
       ·rintro w' ⟨s0,s1,s2,s3,s4,s5⟩
        go_simp
        with_reducible rfl
       rotate_left
       ·simp only [Act.put,List.setIfInBounds_toArray,List.set_cons_zero,List.set_cons_succ,i64_w,i32_w]
        rfl
       refine take_ (i:=2) (N:=some 20) (v:=?_) (a':=?_) #[true,false,true,false,false,false,false,false,false,false,false,false,false,false,false,false,false,false,false,false] rfl rfl (take_ofW HT_.out HW_.out (by kernel_rfl)) (fun _ _ _ h=>h) (Or.inl ⟨by rfl,?_⟩) hHeld ?_ ?_
       rotate_left
       ·rintro w' ⟨s0,s1,s2,s3,s4,s5⟩
        go_simp
        with_reducible rfl
       rotate_left
       ·simp only [Act.put,List.setIfInBounds_toArray,List.set_cons_zero,List.set_cons_succ,i64_w,i32_w]
        rfl
       refine one_ (i:=1) (N:=some 19) #[true,true,true,false,false,false,false,false,false,false,false,false,false,false,false,false,false,false,false,false] rfl rfl (one_of HT_.out (by kernel_rfl)) (by decide) (fun K hK=>?_)
       refine goes_ Tryd.func5 (by kernel_rfl) rfl #[.agg #[.int .i64 a0_0,.bool a0_1,.string a0_2,.string a0_3,.slice A0_4 l0_4.length c0_4,.slice A0_5 l0_5.length c0_5]] (by rfl) rfl rfl (by (try simp only [List.map_toArray,List.map_cons,List.map_nil]);first|done|rfl|(simp only [List.length_drop,List.length_take];rfl)) ?_
       with_reducible refine (tree_Formed.calls kj1 a0_0 a0_1 a0_2 a0_3 _ _ l0_4 _ _ l0_5 t251 _ ?side1 ?side2 ?side3 ?side4 A41.out).mono ?_
       (case side1=>repeat (first|exact (Kd.C_below HR0_4.out HB.out)|(with_reducible refine Kd.C_alloc ?_ _)|(with_reducible refine Kd.C_drewN ?_ _)|(with_reducible refine Kd.C_drew ?_)))
       (case side2=>exact HC0_4.out)
       (case side3=>repeat (first|exact (Kd.C_below HR0_5.out HB.out)|(with_reducible refine Kd.C_alloc ?_ _)|(with_reducible refine Kd.C_drewN ?_ _)|(with_reducible refine Kd.C_drew ?_)))
       (case side4=>exact HC0_5.out)
       rintro e w61 ⟨rfl,hb⟩
       refine ⟨_,rfl,?_⟩
       have n0_:=Aside0.mk (blk_below (g:=gb216) (o:=.cells #[.int .i64 a0_0,.bool a0_1,.string a0_2,.string a0_3,.slice A0_4 l0_4.length c0_4,.slice A0_5 l0_5.length c0_5] 25 (0,0)) (by (with_reducible repeat (first|refine blk_drewN ?_ _|refine blk_drew ?_|refine blk_alloc ?_ _));exact BK216.out) hb)
       have n1_:=Aside0.mk (below_step (by repeat (first|(with_reducible first|exact HB.out|apply below_alloc|apply pw_below_drewN|apply below_drew1|refine below_set ?_ GE216.out)|exact HB.out)) hb)
       clear BK216
       clear HB
       have BK216:=n0_
       have HB:=n1_
       clear n0_ n1_
       (try clear hb)
       (try clear hb2)
       (try clear hk)
       (try clear hi)
       refine hK.out _ _ ⟨(blk_cell BK216.out 0).trans rfl,(blk_cell BK216.out 1).trans rfl,(blk_cell BK216.out 2).trans rfl,(blk_cell BK216.out 3).trans rfl,(blk_cell BK216.out 4).trans rfl,(blk_cell BK216.out 5).trans rfl⟩ (fun hHeld=>?_)
       clear hK K
       refine norm_ (a':=?_) ?_ ?_
       rotate_left
       ·show Act.put _ (some 19) _ = _
        simp only [Act.put,List.setIfInBounds_toArray,List.set_cons_zero,List.set_cons_succ,i64_w,i32_w]
        rfl
       refine one_ (i:=3) (N:=some 21) #[true,true,true,true,false,false,false,false,false,false,false,false,false,false,false,false,false,false,false,false] rfl rfl (one_of HT_.out (by kernel_rfl)) (by decide) (fun K hK=>?_)
       refine goes_ Tryd.func10 (by kernel_rfl) rfl #[.agg #[.int .i64 a0_0,.bool a0_1,.string a0_2,.string a0_3,.slice A0_4 l0_4.length c0_4,.slice A0_5 l0_5.length c0_5]] (by rfl) rfl rfl (by (try simp only [List.map_toArray,List.map_cons,List.map_nil]);first|done|rfl|(simp only [List.length_drop,List.length_take];rfl)) ?_
       with_reducible refine (quarryref17_Formed.calls kj1 a0_0 a0_1 a0_2 a0_3 _ _ l0_4 _ _ l0_5 t252 _ ?side1 ?side2 ?side3 ?side4 A42.out).mono ?_
       (case side1=>repeat (first|exact (Kd.C_below HR0_4.out HB.out)|(with_reducible refine Kd.C_alloc ?_ _)|(with_reducible refine Kd.C_drewN ?_ _)|(with_reducible refine Kd.C_drew ?_)))
       (case side2=>exact HC0_4.out)
       (case side3=>repeat (first|exact (Kd.C_below HR0_5.out HB.out)|(with_reducible refine Kd.C_alloc ?_ _)|(with_reducible refine Kd.C_drewN ?_ _)|(with_reducible refine Kd.C_drew ?_)))
       (case side4=>exact HC0_5.out)
       rintro e w62 ⟨rfl,hb⟩
       refine ⟨_,rfl,?_⟩
       have n0_:=Aside0.mk (blk_below (g:=gb216) (o:=.cells #[.int .i64 a0_0,.bool a0_1,.string a0_2,.string a0_3,.slice A0_4 l0_4.length c0_4,.slice A0_5 l0_5.length c0_5] 25 (0,0)) (by (with_reducible repeat (first|refine blk_drewN ?_ _|refine blk_drew ?_|refine blk_alloc ?_ _));exact BK216.out) hb)
       have n1_:=Aside0.mk (below_step (by repeat (first|(with_reducible first|exact HB.out|apply below_alloc|apply pw_below_drewN|apply below_drew1|refine below_set ?_ GE216.out)|exact HB.out)) hb)
       clear BK216
       clear HB
       have BK216:=n0_
       have HB:=n1_
       clear n0_ n1_
       (try clear hb)
       (try clear hb2)
       (try clear hk)
       (try clear hi)
       refine hK.out _ _ ⟨(blk_cell BK216.out 0).trans rfl,(blk_cell BK216.out 1).trans rfl,(blk_cell BK216.out 2).trans rfl,(blk_cell BK216.out 3).trans rfl,(blk_cell BK216.out 4).trans rfl,(blk_cell BK216.out 5).trans rfl⟩ (fun hHeld=>?_)
       clear hK K
       refine norm_ (a':=?_) ?_ ?_
       rotate_left
       ·show Act.put _ (some 21) _ = _
        simp only [Act.put,List.setIfInBounds_toArray,List.set_cons_zero,List.set_cons_succ,i64_w,i32_w]
        rfl
       refine pure_ (i:=4) (N:=some 22) (v:=?_) (a':=?_) #[true,true,true,true,true,false,false,false,false,false,false,false,false,false,false,false,false,false,false,false] rfl rfl (any_of HT_.out (by kernel_rfl)) (fun _ _ _ h=>h) (Or.inl ⟨by rfl,?_⟩) ?_ ?_
       rotate_left
       ·intro w'
        go_simp
        with_reducible rfl
       rotate_left
       ·simp only [Act.put,List.setIfInBounds_toArray,List.set_cons_zero,List.set_cons_succ,i64_w,i32_w]
        rfl
       refine pure_ (i:=5) (N:=some 23) (v:=?_) (a':=?_) #[true,true,true,true,true,true,false,false,false,false,false,false,false,false,false,false,false,false,false,false] rfl rfl (any_of HT_.out (by kernel_rfl)) (fun _ _ _ h=>h) (Or.inl ⟨by rfl,?_⟩) ?_ ?_
       rotate_left
       ·intro w'
        go_simp
        with_reducible rfl
       rotate_left
       ·simp only [Act.put,List.setIfInBounds_toArray,List.set_cons_zero,List.set_cons_succ,i64_w,i32_w]
        rfl
       refine take_ (i:=6) (N:=some 24) (v:=?_) (a':=?_) #[true,true,true,true,true,true,true,false,false,false,false,false,false,false,false,false,false,false,false,false] rfl rfl (take_ofW HT_.out HW_.out (by kernel_rfl)) (fun _ _ _ h=>h) (Or.inl ⟨by rfl,?_⟩) hHeld ?_ ?_
       rotate_left
       ·rintro w' ⟨s0,s1,s2,s3,s4,s5⟩
        go_simp
        with_reducible rfl
       rotate_left
       ·simp only [Act.put,List.setIfInBounds_toArray,List.set_cons_zero,List.set_cons_succ,i64_w,i32_w]
        rfl
       refine take_ (i:=8) (N:=some 26) (v:=?_) (a':=?_) #[true,true,true,true,true,true,true,false,true,false,false,false,false,false,false,false,false,false,false,false] rfl rfl (take_ofW HT_.out HW_.out (by kernel_rfl)) (fun _ _ _ h=>h) (Or.inl ⟨by rfl,?_⟩) hHeld ?_ ?_
       rotate_left
       ·rintro w' ⟨s0,s1,s2,s3,s4,s5⟩
        go_simp
        with_reducible rfl
       rotate_left
       ·simp only [Act.put,List.setIfInBounds_toArray,List.set_cons_zero,List.set_cons_succ,i64_w,i32_w]
        rfl
       refine one_ (i:=7) (N:=some 25) #[true,true,true,true,true,true,true,true,true,false,false,false,false,false,false,false,false,false,false,false] rfl rfl (one_of HT_.out (by kernel_rfl)) (by decide) (fun K hK=>?_)
       refine goes_ Tryd.func7 (by kernel_rfl) rfl #[.agg #[.int .i64 a0_0,.bool a0_1,.string a0_2,.string a0_3,.slice A0_4 l0_4.length c0_4,.slice A0_5 l0_5.length c0_5]] (by rfl) rfl rfl (by (try simp only [List.map_toArray,List.map_cons,List.map_nil]);first|done|rfl|(simp only [List.length_drop,List.length_take];rfl)) ?_
       with_reducible refine (tree_Depth.calls kj1 a0_0 a0_1 a0_2 a0_3 _ _ l0_4 _ _ l0_5 t253 _ ?side1 ?side2 ?side3 ?side4 A44.out).mono ?_
       (case side1=>repeat (first|exact (Kd.C_below HR0_4.out HB.out)|(with_reducible refine Kd.C_alloc ?_ _)|(with_reducible refine Kd.C_drewN ?_ _)|(with_reducible refine Kd.C_drew ?_)))
       (case side2=>exact HC0_4.out)
       (case side3=>repeat (first|exact (Kd.C_below HR0_5.out HB.out)|(with_reducible refine Kd.C_alloc ?_ _)|(with_reducible refine Kd.C_drewN ?_ _)|(with_reducible refine Kd.C_drew ?_)))
       (case side4=>exact HC0_5.out)
       rintro e w63 ⟨rfl,hb⟩
       refine ⟨_,rfl,?_⟩
       have n0_:=Aside0.mk (blk_below (g:=gb216) (o:=.cells #[.int .i64 a0_0,.bool a0_1,.string a0_2,.string a0_3,.slice A0_4 l0_4.length c0_4,.slice A0_5 l0_5.length c0_5] 25 (0,0)) (by (with_reducible repeat (first|refine blk_drewN ?_ _|refine blk_drew ?_|refine blk_alloc ?_ _));exact BK216.out) hb)
       have n1_:=Aside0.mk (below_step (by repeat (first|(with_reducible first|exact HB.out|apply below_alloc|apply pw_below_drewN|apply below_drew1|refine below_set ?_ GE216.out)|exact HB.out)) hb)
       clear BK216
       clear HB
       have BK216:=n0_
       have HB:=n1_
       clear n0_ n1_
       (try clear hb)
       (try clear hb2)
       (try clear hk)
       (try clear hi)
       refine hK.out _ _ ⟨(blk_cell BK216.out 0).trans rfl,(blk_cell BK216.out 1).trans rfl,(blk_cell BK216.out 2).trans rfl,(blk_cell BK216.out 3).trans rfl,(blk_cell BK216.out 4).trans rfl,(blk_cell BK216.out 5).trans rfl⟩ (fun hHeld=>?_)
       clear hK K
       refine norm_ (a':=?_) ?_ ?_
       rotate_left
       ·show Act.put _ (some 25) _ = _
        simp only [Act.put,List.setIfInBounds_toArray,List.set_cons_zero,List.set_cons_succ,i64_w,i32_w]
        rfl
       refine one_ (i:=9) (N:=some 27) #[true,true,true,true,true,true,true,true,true,true,false,false,false,false,false,false,false,false,false,false] rfl rfl (one_of HT_.out (by kernel_rfl)) (by decide) (fun K hK=>?_)
       refine goes_ Tryd.func11 (by kernel_rfl) rfl #[.agg #[.int .i64 a0_0,.bool a0_1,.string a0_2,.string a0_3,.slice A0_4 l0_4.length c0_4,.slice A0_5 l0_5.length c0_5]] (by rfl) rfl rfl (by (try simp only [List.map_toArray,List.map_cons,List.map_nil]);first|done|rfl|(simp only [List.length_drop,List.length_take];rfl)) ?_
       with_reducible refine (quarryref17_Depth.calls kj1 a0_0 a0_1 a0_2 a0_3 _ _ l0_4 _ _ l0_5 t254 _ ?side1 ?side2 ?side3 ?side4 A45.out).mono ?_
       (case side1=>repeat (first|exact (Kd.C_below HR0_4.out HB.out)|(with_reducible refine Kd.C_alloc ?_ _)|(with_reducible refine Kd.C_drewN ?_ _)|(with_reducible refine Kd.C_drew ?_)))
       (case side2=>exact HC0_4.out)
       (case side3=>repeat (first|exact (Kd.C_below HR0_5.out HB.out)|(with_reducible refine Kd.C_alloc ?_ _)|(with_reducible refine Kd.C_drewN ?_ _)|(with_reducible refine Kd.C_drew ?_)))
       (case side4=>exact HC0_5.out)
       rintro e w64 ⟨rfl,hb⟩
       refine ⟨_,rfl,?_⟩
       have n0_:=Aside0.mk (blk_below (g:=gb216) (o:=.cells #[.int .i64 a0_0,.bool a0_1,.string a0_2,.string a0_3,.slice A0_4 l0_4.length c0_4,.slice A0_5 l0_5.length c0_5] 25 (0,0)) (by (with_reducible repeat (first|refine blk_drewN ?_ _|refine blk_drew ?_|refine blk_alloc ?_ _));exact BK216.out) hb)
       have n1_:=Aside0.mk (below_step (by repeat (first|(with_reducible first|exact HB.out|apply below_alloc|apply pw_below_drewN|apply below_drew1|refine below_set ?_ GE216.out)|exact HB.out)) hb)
       clear BK216
       clear HB
       have BK216:=n0_
       have HB:=n1_
       clear n0_ n1_
       (try clear hb)
       (try clear hb2)
       (try clear hk)
       (try clear hi)
       refine hK.out _ _ ⟨(blk_cell BK216.out 0).trans rfl,(blk_cell BK216.out 1).trans rfl,(blk_cell BK216.out 2).trans rfl,(blk_cell BK216.out 3).trans rfl,(blk_cell BK216.out 4).trans rfl,(blk_cell BK216.out 5).trans rfl⟩ (fun hHeld=>?_)
       clear hK K
       refine norm_ (a':=?_) ?_ ?_
       rotate_left
       ·show Act.put _ (some 27) _ = _
        simp only [Act.put,List.setIfInBounds_toArray,List.set_cons_zero,List.set_cons_succ,i64_w,i32_w]
        rfl
       refine pure_ (i:=10) (N:=some 28) (v:=?_) (a':=?_) #[true,true,true,true,true,true,true,true,true,true,true,false,false,false,false,false,false,false,false,false] rfl rfl (any_of HT_.out (by kernel_rfl)) (fun _ _ _ h=>h) (Or.inl ⟨by rfl,?_⟩) ?_ ?_
       rotate_left
       ·intro w'
        go_simp
        with_reducible rfl
       rotate_left
       ·simp only [Act.put,List.setIfInBounds_toArray,List.set_cons_zero,List.set_cons_succ,i64_w,i32_w]
        rfl
       refine pure_ (i:=11) (N:=some 29) (v:=?_) (a':=?_) #[true,true,true,true,true,true,true,true,true,true,true,true,false,false,false,false,false,false,false,false] rfl rfl (any_of HT_.out (by kernel_rfl)) (fun _ _ _ h=>h) (Or.inl ⟨by rfl,?_⟩) ?_ ?_
       rotate_left
       ·intro w'
        go_simp
        with_reducible rfl
       rotate_left
       ·simp only [Act.put,List.setIfInBounds_toArray,List.set_cons_zero,List.set_cons_succ,i64_w,i32_w]
        rfl
       refine pure_ (i:=12) (N:=some 30) (v:=?_) (a':=?_) #[true,true,true,true,true,true,true,true,true,true,true,true,true,false,false,false,false,false,false,false] rfl rfl (any_of HT_.out (by kernel_rfl)) (fun _ _ _ h=>h) (Or.inl ⟨by rfl,?_⟩) ?_ ?_
       rotate_left
       ·intro w'
        go_simp
        with_reducible rfl
       rotate_left
       ·simp only [Act.put,List.setIfInBounds_toArray,List.set_cons_zero,List.set_cons_succ,i64_w,i32_w]
        rfl
       refine pure_ (i:=13) (N:=some 31) (v:=undef) (a':=?_) #[true,true,true,true,true,true,true,true,true,true,true,true,true,true,false,false,false,false,false,false] rfl rfl (any_of HT_.out (by kernel_rfl)) (fun _ _ _ h=>h) (Or.inr ⟨by rfl,rfl⟩) ?_ ?_
       rotate_left
       ·simp only [Act.put,List.setIfInBounds_toArray,List.set_cons_zero,List.set_cons_succ,i64_w,i32_w]
        rfl
       refine pure_ (i:=14) (N:=some 32) (v:=undef) (a':=?_) #[true,true,true,true,true,true,true,true,true,true,true,true,true,true,true,false,false,false,false,false] rfl rfl (any_of HT_.out (by kernel_rfl)) (fun _ _ _ h=>h) (Or.inr ⟨by rfl,rfl⟩) ?_ ?_
       rotate_left
       ·simp only [Act.put,List.setIfInBounds_toArray,List.set_cons_zero,List.set_cons_succ,i64_w,i32_w]
        rfl
       refine pure_ (i:=15) (N:=some 33) (v:=undef) (a':=?_) #[true,true,true,true,true,true,true,true,true,true,true,true,true,true,true,true,false,false,false,false] rfl rfl (any_of HT_.out (by kernel_rfl)) (fun _ _ _ h=>h) (Or.inr ⟨by rfl,rfl⟩) ?_ ?_
       rotate_left
       ·simp only [Act.put,List.setIfInBounds_toArray,List.set_cons_zero,List.set_cons_succ,i64_w,i32_w]
        rfl
       refine pure_ (i:=16) (N:=some 34) (v:=undef) (a':=?_) #[true,true,true,true,true,true,true,true,true,true,true,true,true,true,true,true,true,false,false,false] rfl rfl (any_of HT_.out (by kernel_rfl)) (fun _ _ _ h=>h) (Or.inr ⟨by rfl,rfl⟩) ?_ ?_
       rotate_left
       ·simp only [Act.put,List.setIfInBounds_toArray,List.set_cons_zero,List.set_cons_succ,i64_w,i32_w]
        rfl
       refine pure_ (i:=17) (N:=some 35) (v:=undef) (a':=?_) #[true,true,true,true,true,true,true,true,true,true,true,true,true,true,true,true,true,true,false,false] rfl rfl (any_of HT_.out (by kernel_rfl)) (fun _ _ _ h=>h) (Or.inr ⟨by rfl,rfl⟩) ?_ ?_
       rotate_left
       ·simp only [Act.put,List.setIfInBounds_toArray,List.set_cons_zero,List.set_cons_succ,i64_w,i32_w]
        rfl
       refine pure_ (i:=18) (N:=some 36) (v:=?_) (a':=?_) #[true,true,true,true,true,true,true,true,true,true,true,true,true,true,true,true,true,true,true,false] rfl rfl (any_of HT_.out (by kernel_rfl)) (fun _ _ _ h=>h) (Or.inl ⟨by rfl,?_⟩) ?_ ?_
       rotate_left
       ·intro w'
        go_simp
        with_reducible rfl
       rotate_left
       ·simp only [Act.put,List.setIfInBounds_toArray,List.set_cons_zero,List.set_cons_succ,i64_w,i32_w]
        rfl
       refine pure_ (i:=19) (N:=some 2) (v:=?_) (a':=?_) #[true,true,true,true,true,true,true,true,true,true,true,true,true,true,true,true,true,true,true,true] rfl rfl (any_of HT_.out (by kernel_rfl)) (fun _ _ _ h=>h) (Or.inl ⟨by rfl,?_⟩) ?_ ?_
       rotate_left
       ·intro w'
        go_simp
        with_reducible rfl
       rotate_left
       ·simp only [Act.put,List.setIfInBounds_toArray,List.set_cons_zero,List.set_cons_succ,i64_w,i32_w]
        rfl
       refine done_ (done_of HT_.out (by kernel_rfl)) ?_
       try go_wp2
       go_ret
       exact ⟨by first|rfl|(simp [errW_none,errW_some] <;> rfl)|(simp [*,errW_none,errW_some] <;> rfl),by repeat (first|(with_reducible first|exact HB.out|apply below_alloc|apply pw_below_drewN|apply below_drew1|refine below_set ?_ GE216.out)|exact HB.out)⟩
     ·rw [if_neg c43] at H
      have c43b0 : (t251 == t252) = false:=by simpa using c43
      (try (have c43b1 : decide (t251 = t252) = false:=by simpa using c43))
      (try (have c43b2 : (t251 == t252) = false:=by simpa using c43))
      (try (have c43b3 : ¬ (t251 = t252):=by simpa using c43))
      clear c43
      obtain rfl:=Option.some.inj H
      have hcz65_0 : wc.cell? ⟨gb216,0,none⟩ = some (.int .i64 a0_0):=(blk_cell BK216.out 0).trans rfl
      have hcz65_1 : wc.cell? ⟨gb216,1,none⟩ = some (.bool a0_1):=(blk_cell BK216.out 1).trans rfl
      have hcz65_2 : wc.cell? ⟨gb216,2,none⟩ = some (.string a0_2):=(blk_cell BK216.out 2).trans rfl
      have hcz65_3 : wc.cell? ⟨gb216,3,none⟩ = some (.string a0_3):=(blk_cell BK216.out 3).trans rfl
      have hcz65_4 : wc.cell? ⟨gb216,4,none⟩ = some (.slice A0_4 l0_4.length c0_4):=(blk_cell BK216.out 4).trans rfl
      have hcz65_5 : wc.cell? ⟨gb216,5,none⟩ = some (.slice A0_5 l0_5.length c0_5):=(blk_cell BK216.out 5).trans rfl
      have hfz65_0:=blk_frozen BK216.out 0
      have hfz65_1:=blk_frozen BK216.out 1
      have hfz65_2:=blk_frozen BK216.out 2
      have hfz65_3:=blk_frozen BK216.out 3
      have hfz65_4:=blk_frozen BK216.out 4
      have hfz65_5:=blk_frozen BK216.out 5
      try go_wp2_with (first|((with_reducible refine gate_callee (f:=9) rfl ?_);refine goesL_ (some 17) rfl rfl Tryd.func9 (by kernel_rfl) rfl #[.agg #[.int .i64 a0_0,.bool a0_1,.string a0_2,.string a0_3,.slice A0_4 l0_4.length c0_4,.slice A0_5 l0_5.length c0_5]] rfl (by (try simp only [List.map_toArray,List.map_cons,List.map_nil]);first|done|rfl|(simp only [List.length_drop,List.length_take];rfl)) ?_;(with_reducible refine (quarryref00_BeyondValue.calls kj1 a0_0 a0_1 a0_2 a0_3 _ _ l0_4 _ _ l0_5 false _ ?side1 ?side2 ?side3 ?side4 A37.out).mono ?_);(case side1=>repeat (first|exact (Kd.C_below HR0_4.out HB.out)|(with_reducible refine Kd.C_alloc ?_ _)|(with_reducible refine Kd.C_drewN ?_ _)|(with_reducible refine Kd.C_drew ?_)));(case side2=>exact HC0_4.out);(case side3=>repeat (first|exact (Kd.C_below HR0_5.out HB.out)|(with_reducible refine Kd.C_alloc ?_ _)|(with_reducible refine Kd.C_drewN ?_ _)|(with_reducible refine Kd.C_drew ?_)));(case side4=>exact HC0_5.out);rintro e w66 ⟨rfl,hb⟩;refine ⟨_,rfl,?_⟩;have n0_:=Aside0.mk (blk_below (g:=gb216) (o:=.cells #[.int .i64 a0_0,.bool a0_1,.string a0_2,.string a0_3,.slice A0_4 l0_4.length c0_4,.slice A0_5 l0_5.length c0_5] 25 (0,0)) (by (with_reducible repeat (first|refine blk_drewN ?_ _|refine blk_drew ?_|refine blk_alloc ?_ _));exact BK216.out) hb);have n1_:=Aside0.mk (below_step (by repeat (first|(with_reducible first|exact HB.out|apply below_alloc|apply pw_below_drewN|apply below_drew1|refine below_set ?_ GE216.out)|exact HB.out)) hb);clear BK216;clear HB;have BK216:=n0_;have HB:=n1_;clear n0_ n1_;(try clear hb);(try clear hb2);(try clear hk);(try clear hi)))
      have n0_:=Aside0.mk (blk_drew BK216.out)
      have n1_:=Aside0.mk (below_drew1 HB.out)
      clear BK216
      clear HB
      have BK216:=n0_
      have HB:=n1_
      clear n0_ n1_
      refine start_ (n:=20) (S:=fun w'=>w'.cell? ⟨gb216,0,none⟩ = some (.int .i64 a0_0) ∧ w'.cell? ⟨gb216,1,none⟩ = some (.bool a0_1) ∧ w'.cell? ⟨gb216,2,none⟩ = some (.string a0_2) ∧ w'.cell? ⟨gb216,3,none⟩ = some (.string a0_3) ∧ w'.cell? ⟨gb216,4,none⟩ = some (.slice A0_4 l0_4.length c0_4) ∧ w'.cell? ⟨gb216,5,none⟩ = some (.slice A0_5 l0_5.length c0_5)) (ds:=[]) #[false,false,false,false,false,false,false,false,false,false,false,false,false,false,false,false,false,false,false,false] (by kernel_rfl) rfl rfl ⟨(blk_cell BK216.out 0).trans rfl,(blk_cell BK216.out 1).trans rfl,(blk_cell BK216.out 2).trans rfl,(blk_cell BK216.out 3).trans rfl,(blk_cell BK216.out 4).trans rfl,(blk_cell BK216.out 5).trans rfl⟩ (fun hHeld=>?_);refine with_tabW quarrylaw17_TreeShapes.tab5 quarrylaw17_TreeShapes.bits5 (fun HT_ HW_=>?_)
      generalize w66.drew = w67 at BK216 HB hHeld ⊢
      refine take_ (i:=0) (N:=some 18) (v:=?_) (a':=?_) #[true,false,false,false,false,false,false,false,false,false,false,false,false,false,false,false,false,false,false,false] rfl rfl (take_ofW HT_.out HW_.out (by kernel_rfl)) (fun _ _ _ h=>h) (Or.inl ⟨by rfl,?_⟩) hHeld ?_ ?_
      rotate_left
      ·rintro w' ⟨s0,s1,s2,s3,s4,s5⟩
       go_simp
       with_reducible rfl
      rotate_left
      ·simp only [Act.put,List.setIfInBounds_toArray,List.set_cons_zero,List.set_cons_succ,i64_w,i32_w]
       rfl
      refine take_ (i:=2) (N:=some 20) (v:=?_) (a':=?_) #[true,false,true,false,false,false,false,false,false,false,false,false,false,false,false,false,false,false,false,false] rfl rfl (take_ofW HT_.out HW_.out (by kernel_rfl)) (fun _ _ _ h=>h) (Or.inl ⟨by rfl,?_⟩) hHeld ?_ ?_
      rotate_left
      ·rintro w' ⟨s0,s1,s2,s3,s4,s5⟩
       go_simp
       with_reducible rfl
      rotate_left
      ·simp only [Act.put,List.setIfInBounds_toArray,List.set_cons_zero,List.set_cons_succ,i64_w,i32_w]
       rfl
      refine one_ (i:=1) (N:=some 19) #[true,true,true,false,false,false,false,false,false,false,false,false,false,false,false,false,false,false,false,false] rfl rfl (one_of HT_.out (by kernel_rfl)) (by decide) (fun K hK=>?_)
      refine goes_ Tryd.func5 (by kernel_rfl) rfl #[.agg #[.int .i64 a0_0,.bool a0_1,.string a0_2,.string a0_3,.slice A0_4 l0_4.length c0_4,.slice A0_5 l0_5.length c0_5]] (by rfl) rfl rfl (by (try simp only [List.map_toArray,List.map_cons,List.map_nil]);first|done|rfl|(simp only [List.length_drop,List.length_take];rfl)) ?_
      with_reducible refine (tree_Formed.calls kj1 a0_0 a0_1 a0_2 a0_3 _ _ l0_4 _ _ l0_5 t251 _ ?side1 ?side2 ?side3 ?side4 A41.out).mono ?_
      (case side1=>repeat (first|exact (Kd.C_below HR0_4.out HB.out)|(with_reducible refine Kd.C_alloc ?_ _)|(with_reducible refine Kd.C_drewN ?_ _)|(with_reducible refine Kd.C_drew ?_)))
      (case side2=>exact HC0_4.out)
      (case side3=>repeat (first|exact (Kd.C_below HR0_5.out HB.out)|(with_reducible refine Kd.C_alloc ?_ _)|(with_reducible refine Kd.C_drewN ?_ _)|(with_reducible refine Kd.C_drew ?_)))
      (case side4=>exact HC0_5.out)
      rintro e w68 ⟨rfl,hb⟩
      refine ⟨_,rfl,?_⟩
      have n0_:=Aside0.mk (blk_below (g:=gb216) (o:=.cells #[.int .i64 a0_0,.bool a0_1,.string a0_2,.string a0_3,.slice A0_4 l0_4.length c0_4,.slice A0_5 l0_5.length c0_5] 25 (0,0)) (by (with_reducible repeat (first|refine blk_drewN ?_ _|refine blk_drew ?_|refine blk_alloc ?_ _));exact BK216.out) hb)
      have n1_:=Aside0.mk (below_step (by repeat (first|(with_reducible first|exact HB.out|apply below_alloc|apply pw_below_drewN|apply below_drew1|refine below_set ?_ GE216.out)|exact HB.out)) hb)
      clear BK216
      clear HB
      have BK216:=n0_
      have HB:=n1_
      clear n0_ n1_
      (try clear hb)
      (try clear hb2)
      (try clear hk)
      (try clear hi)
      refine hK.out _ _ ⟨(blk_cell BK216.out 0).trans rfl,(blk_cell BK216.out 1).trans rfl,(blk_cell BK216.out 2).trans rfl,(blk_cell BK216.out 3).trans rfl,(blk_cell BK216.out 4).trans rfl,(blk_cell BK216.out 5).trans rfl⟩ (fun hHeld=>?_)
      clear hK K
      refine norm_ (a':=?_) ?_ ?_
      rotate_left
      ·show Act.put _ (some 19) _ = _
       simp only [Act.put,List.setIfInBounds_toArray,List.set_cons_zero,List.set_cons_succ,i64_w,i32_w]
       rfl
      refine one_ (i:=3) (N:=some 21) #[true,true,true,true,false,false,false,false,false,false,false,false,false,false,false,false,false,false,false,false] rfl rfl (one_of HT_.out (by kernel_rfl)) (by decide) (fun K hK=>?_)
      refine goes_ Tryd.func10 (by kernel_rfl) rfl #[.agg #[.int .i64 a0_0,.bool a0_1,.string a0_2,.string a0_3,.slice A0_4 l0_4.length c0_4,.slice A0_5 l0_5.length c0_5]] (by rfl) rfl rfl (by (try simp only [List.map_toArray,List.map_cons,List.map_nil]);first|done|rfl|(simp only [List.length_drop,List.length_take];rfl)) ?_
      with_reducible refine (quarryref17_Formed.calls kj1 a0_0 a0_1 a0_2 a0_3 _ _ l0_4 _ _ l0_5 t252 _ ?side1 ?side2 ?side3 ?side4 A42.out).mono ?_
      (case side1=>repeat (first|exact (Kd.C_below HR0_4.out HB.out)|(with_reducible refine Kd.C_alloc ?_ _)|(with_reducible refine Kd.C_drewN ?_ _)|(with_reducible refine Kd.C_drew ?_)))
      (case side2=>exact HC0_4.out)
      (case side3=>repeat (first|exact (Kd.C_below HR0_5.out HB.out)|(with_reducible refine Kd.C_alloc ?_ _)|(with_reducible refine Kd.C_drewN ?_ _)|(with_reducible refine Kd.C_drew ?_)))
      (case side4=>exact HC0_5.out)
      rintro e w69 ⟨rfl,hb⟩
      refine ⟨_,rfl,?_⟩
      have n0_:=Aside0.mk (blk_below (g:=gb216) (o:=.cells #[.int .i64 a0_0,.bool a0_1,.string a0_2,.string a0_3,.slice A0_4 l0_4.length c0_4,.slice A0_5 l0_5.length c0_5] 25 (0,0)) (by (with_reducible repeat (first|refine blk_drewN ?_ _|refine blk_drew ?_|refine blk_alloc ?_ _));exact BK216.out) hb)
      have n1_:=Aside0.mk (below_step (by repeat (first|(with_reducible first|exact HB.out|apply below_alloc|apply pw_below_drewN|apply below_drew1|refine below_set ?_ GE216.out)|exact HB.out)) hb)
      clear BK216
      clear HB
      have BK216:=n0_
      have HB:=n1_
      clear n0_ n1_
      (try clear hb)
      (try clear hb2)
      (try clear hk)
      (try clear hi)
      refine hK.out _ _ ⟨(blk_cell BK216.out 0).trans rfl,(blk_cell BK216.out 1).trans rfl,(blk_cell BK216.out 2).trans rfl,(blk_cell BK216.out 3).trans rfl,(blk_cell BK216.out 4).trans rfl,(blk_cell BK216.out 5).trans rfl⟩ (fun hHeld=>?_)
      clear hK K
      refine norm_ (a':=?_) ?_ ?_
      rotate_left
      ·show Act.put _ (some 21) _ = _
       simp only [Act.put,List.setIfInBounds_toArray,List.set_cons_zero,List.set_cons_succ,i64_w,i32_w]
       rfl
      refine pure_ (i:=4) (N:=some 22) (v:=?_) (a':=?_) #[true,true,true,true,true,false,false,false,false,false,false,false,false,false,false,false,false,false,false,false] rfl rfl (any_of HT_.out (by kernel_rfl)) (fun _ _ _ h=>h) (Or.inl ⟨by rfl,?_⟩) ?_ ?_
      rotate_left
      ·intro w'
       go_simp
       with_reducible rfl
      rotate_left
      ·simp only [Act.put,List.setIfInBounds_toArray,List.set_cons_zero,List.set_cons_succ,i64_w,i32_w]
       rfl
      refine pure_ (i:=5) (N:=some 23) (v:=?_) (a':=?_) #[true,true,true,true,true,true,false,false,false,false,false,false,false,false,false,false,false,false,false,false] rfl rfl (any_of HT_.out (by kernel_rfl)) (fun _ _ _ h=>h) (Or.inl ⟨by rfl,?_⟩) ?_ ?_
      rotate_left
      ·intro w'
       go_simp
       with_reducible rfl
      rotate_left
      ·simp only [Act.put,List.setIfInBounds_toArray,List.set_cons_zero,List.set_cons_succ,i64_w,i32_w]
       rfl
      refine pure_ (i:=6) (N:=some 24) (v:=undef) (a':=?_) #[true,true,true,true,true,true,true,false,false,false,false,false,false,false,false,false,false,false,false,false] rfl rfl (any_of HT_.out (by kernel_rfl)) (fun _ _ _ h=>h) (Or.inr ⟨by rfl,rfl⟩) ?_ ?_
      rotate_left
      ·simp only [Act.put,List.setIfInBounds_toArray,List.set_cons_zero,List.set_cons_succ,i64_w,i32_w]
       rfl
      refine pure_ (i:=7) (N:=some 25) (v:=undef) (a':=?_) #[true,true,true,true,true,true,true,true,false,false,false,false,false,false,false,false,false,false,false,false] rfl rfl (any_of HT_.out (by kernel_rfl)) (fun _ _ _ h=>h) (Or.inr ⟨by rfl,rfl⟩) ?_ ?_
      rotate_left
      ·simp only [Act.put,List.setIfInBounds_toArray,List.set_cons_zero,List.set_cons_succ,i64_w,i32_w]
       rfl
      refine pure_ (i:=8) (N:=some 26) (v:=undef) (a':=?_) #[true,true,true,true,true,true,true,true,true,false,false,false,false,false,false,false,false,false,false,false] rfl rfl (any_of HT_.out (by kernel_rfl)) (fun _ _ _ h=>h) (Or.inr ⟨by rfl,rfl⟩) ?_ ?_
      rotate_left
      ·simp only [Act.put,List.setIfInBounds_toArray,List.set_cons_zero,List.set_cons_succ,i64_w,i32_w]
       rfl
      refine pure_ (i:=9) (N:=some 27) (v:=undef) (a':=?_) #[true,true,true,true,true,true,true,true,true,true,false,false,false,false,false,false,false,false,false,false] rfl rfl (any_of HT_.out (by kernel_rfl)) (fun _ _ _ h=>h) (Or.inr ⟨by rfl,rfl⟩) ?_ ?_
      rotate_left
      ·simp only [Act.put,List.setIfInBounds_toArray,List.set_cons_zero,List.set_cons_succ,i64_w,i32_w]
       rfl
      refine pure_ (i:=10) (N:=some 28) (v:=undef) (a':=?_) #[true,true,true,true,true,true,true,true,true,true,true,false,false,false,false,false,false,false,false,false] rfl rfl (any_of HT_.out (by kernel_rfl)) (fun _ _ _ h=>h) (Or.inr ⟨by rfl,rfl⟩) ?_ ?_
      rotate_left
      ·simp only [Act.put,List.setIfInBounds_toArray,List.set_cons_zero,List.set_cons_succ,i64_w,i32_w]
       rfl
      refine pure_ (i:=11) (N:=some 29) (v:=?_) (a':=?_) #[true,true,true,true,true,true,true,true,true,true,true,true,false,false,false,false,false,false,false,false] rfl rfl (any_of HT_.out (by kernel_rfl)) (fun _ _ _ h=>h) (Or.inl ⟨by rfl,?_⟩) ?_ ?_
      rotate_left
      ·intro w'
       go_simp
       with_reducible rfl
      rotate_left
      ·simp only [Act.put,List.setIfInBounds_toArray,List.set_cons_zero,List.set_cons_succ,i64_w,i32_w]
       rfl
      refine pure_ (i:=12) (N:=some 30) (v:=?_) (a':=?_) #[true,true,true,true,true,true,true,true,true,true,true,true,true,false,false,false,false,false,false,false] rfl rfl (any_of HT_.out (by kernel_rfl)) (fun _ _ _ h=>h) (Or.inl ⟨by rfl,?_⟩) ?_ ?_
      rotate_left
      ·intro w'
       go_simp
       with_reducible rfl
      rotate_left
      ·simp only [Act.put,List.setIfInBounds_toArray,List.set_cons_zero,List.set_cons_succ,i64_w,i32_w]
       rfl
      refine pure_ (i:=13) (N:=some 31) (v:=undef) (a':=?_) #[true,true,true,true,true,true,true,true,true,true,true,true,true,true,false,false,false,false,false,false] rfl rfl (any_of HT_.out (by kernel_rfl)) (fun _ _ _ h=>h) (Or.inr ⟨by rfl,rfl⟩) ?_ ?_
      rotate_left
      ·simp only [Act.put,List.setIfInBounds_toArray,List.set_cons_zero,List.set_cons_succ,i64_w,i32_w]
       rfl
      refine pure_ (i:=14) (N:=some 32) (v:=undef) (a':=?_) #[true,true,true,true,true,true,true,true,true,true,true,true,true,true,true,false,false,false,false,false] rfl rfl (any_of HT_.out (by kernel_rfl)) (fun _ _ _ h=>h) (Or.inr ⟨by rfl,rfl⟩) ?_ ?_
      rotate_left
      ·simp only [Act.put,List.setIfInBounds_toArray,List.set_cons_zero,List.set_cons_succ,i64_w,i32_w]
       rfl
      refine pure_ (i:=15) (N:=some 33) (v:=undef) (a':=?_) #[true,true,true,true,true,true,true,true,true,true,true,true,true,true,true,true,false,false,false,false] rfl rfl (any_of HT_.out (by kernel_rfl)) (fun _ _ _ h=>h) (Or.inr ⟨by rfl,rfl⟩) ?_ ?_
      rotate_left
      ·simp only [Act.put,List.setIfInBounds_toArray,List.set_cons_zero,List.set_cons_succ,i64_w,i32_w]
       rfl
      refine pure_ (i:=16) (N:=some 34) (v:=undef) (a':=?_) #[true,true,true,true,true,true,true,true,true,true,true,true,true,true,true,true,true,false,false,false] rfl rfl (any_of HT_.out (by kernel_rfl)) (fun _ _ _ h=>h) (Or.inr ⟨by rfl,rfl⟩) ?_ ?_
      rotate_left
      ·simp only [Act.put,List.setIfInBounds_toArray,List.set_cons_zero,List.set_cons_succ,i64_w,i32_w]
       rfl
      refine pure_ (i:=17) (N:=some 35) (v:=undef) (a':=?_) #[true,true,true,true,true,true,true,true,true,true,true,true,true,true,true,true,true,true,false,false] rfl rfl (any_of HT_.out (by kernel_rfl)) (fun _ _ _ h=>h) (Or.inr ⟨by rfl,rfl⟩) ?_ ?_
      rotate_left
      ·simp only [Act.put,List.setIfInBounds_toArray,List.set_cons_zero,List.set_cons_succ,i64_w,i32_w]
       rfl
      refine pure_ (i:=18) (N:=some 36) (v:=?_) (a':=?_) #[true,true,true,true,true,true,true,true,true,true,true,true,true,true,true,true,true,true,true,false] rfl rfl (any_of HT_.out (by kernel_rfl)) (fun _ _ _ h=>h) (Or.inl ⟨by rfl,?_⟩) ?_ ?_
      rotate_left
      ·intro w'
       go_simp
       with_reducible rfl
      rotate_left
      ·simp only [Act.put,List.setIfInBounds_toArray,List.set_cons_zero,List.set_cons_succ,i64_w,i32_w]
       rfl
      refine pure_ (i:=19) (N:=some 2) (v:=?_) (a':=?_) #[true,true,true,true,true,true,true,true,true,true,true,true,true,true,true,true,true,true,true,true] rfl rfl (any_of HT_.out (by kernel_rfl)) (fun _ _ _ h=>h) (Or.inl ⟨by rfl,?_⟩) ?_ ?_
      rotate_left
      ·intro w'
       go_simp
       with_reducible rfl
      rotate_left
      ·simp only [Act.put,List.setIfInBounds_toArray,List.set_cons_zero,List.set_cons_succ,i64_w,i32_w]
       rfl
      refine done_ (done_of HT_.out (by kernel_rfl)) ?_
      try go_wp2
      go_ret
      exact ⟨by first|rfl|(simp [errW_none,errW_some] <;> rfl)|(simp [*,errW_none,errW_some] <;> rfl),by repeat (first|(with_reducible first|exact HB.out|apply below_alloc|apply pw_below_drewN|apply below_drew1|refine below_set ?_ GE216.out)|exact HB.out)⟩
end Go.Proofs.YtgbiobbhaejjlaaDoor.PTreeShapes
