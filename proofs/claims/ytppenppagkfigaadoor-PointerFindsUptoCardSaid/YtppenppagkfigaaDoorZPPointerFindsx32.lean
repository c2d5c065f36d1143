-- Written by shrink.py, a program of this session: what the law needs of the print and its words. Lean checks it.
import Derived.Test.YtppenppagkfigaaDoorZPPointerFindsx0
import Derived.Test.YtppenppagkfigaaDoorZPPointerFindsx27
import Derived.Test.YtppenppagkfigaaDoorZPPointerFindsx28
import Derived.Test.YtppenppagkfigaaDoorZPPointerFindsx31
namespace Go.Proofs.YtppenppagkfigaaDoor.PPointerFinds
open Go.RowKit Go.Proofs.YtppenppagkfigaaDoorW.PrintWords Go.Proofs.YtppenppagkfigaaDoorW.PrintLast Go.Proofs.YtppenppagkfigaaDoorW.PrintMore
attribute [local go_sem] max2_int min2_int max_two min_two max_three min_three max_four min_four
set_option linter.unusedVariables false
set_option linter.unusedSimpArgs false
def quarryref20_Find.l0 : Nat → List ByteArray → Int → Int → Bool → ByteArray → ByteArray → List ByteArray → List (S25) → Option (Int × Bool × ByteArray × ByteArray × List ByteArray × (List (S25)) × Bool × Int)
 | 0,_,_,_,_,_,_,_,_=>none
 | k + 1,x7,x9,x305000,x305001,x305002,x305003,x305004,x305005=>if x9 < (x7.length : Int) then (if 0 ≤ x9 then ((quarryref20_step.f k x305000 x305001 x305002 x305003 x305004 x305005 (rdOf ByteArray.empty x7 x9)).bind fun bt312=>(if bt312.2.2.2.2.2.2 = true then (quarryref20_Find.l0 k x7 (wrap64 (x9 + 1)) bt312.1 bt312.2.1 bt312.2.2.1 bt312.2.2.2.1 bt312.2.2.2.2.1 bt312.2.2.2.2.2.1) else (some (0,false,(⟨#[]⟩ : ByteArray),(⟨#[]⟩ : ByteArray),([] : List ByteArray),([] : List (S25)),false,0)))) else (none)) else (some (x305000,x305001,x305002,x305003,x305004,x305005,true,0))
def quarryref20_Find.f (k : Nat) (a0_0 : Int) (a0_1 : Bool) (a0_2 : ByteArray) (a0_3 : ByteArray) (l0_4 : List ByteArray) (l0_5 : List (S25)) (a1 : ByteArray) : Option (Int × Bool × ByteArray × ByteArray × List ByteArray × (List (S25)) × Bool × Int):=(quarryref17_Formed.f k a0_0 a0_1 a0_2 a0_3 l0_4 l0_5).bind fun t306=>(if t306 = true then ((quarryref20_Parse.f k a1).bind fun bt307=>(if bt307.2 = 0 then (quarryref20_Find.l0 k bt307.1 0 a0_0 a0_1 a0_2 a0_3 l0_4 l0_5) else (some (0,false,(⟨#[]⟩ : ByteArray),(⟨#[]⟩ : ByteArray),([] : List ByteArray),([] : List (S25)),false,bt307.2)))) else (some (0,false,(⟨#[]⟩ : ByteArray),(⟨#[]⟩ : ByteArray),([] : List ByteArray),([] : List (S25)),false,1)))
def quarryref20_Find.T9 : Bool × List (List Nat × List Nat):=(true,[([],[]),([],[]),([],[]),([1,2],[1,2]),([3],[3]),([0,4],[0,4]),([5],[5]),([6],[6]),([6],[6]),([],[]),([9,7,5,0,1,2,3,4,5,6,7,9],[7,9]),([8,10,0,1,2,3,4,5,6,7,8,9,10],[8])])
def quarryref20_Find.B9 : List Nat:=[0,0,0,6,14,31,63,127,127,0,767,2047]
theorem quarryref20_Find.tab9 : rtab .any (opsOf Tryd.f11 9) = quarryref20_Find.T9:=by kernel_rfl
theorem quarryref20_Find.bits9 : waitsOk quarryref20_Find.T9.2 quarryref20_Find.B9 = true:=by kernel_rfl
set_option maxHeartbeats 8000000 in
set_option maxRecDepth 100000 in
theorem quarryref20_Find.calls (k : Nat) (a0_0 : Int) (a0_1 : Bool) (a0_2 : ByteArray) (a0_3 : ByteArray) (P0_4_ : Nat → Prop) (A0_4 : Option Addr) (c0_4 : Nat) (l0_4 : List ByteArray) (P0_5_ : Nat → Prop) (A0_5 : Option Addr) (c0_5 : Nat) (l0_5 : List (S25)) (a1 : ByteArray) (r1 : Int) (r2 : Bool) (r3 : ByteArray) (r4 : ByteArray) (r5 : List ByteArray) (r6 : List (S25)) (r7 : Bool) (r8 : Int) (w : World) (hs0_4 : Kd.V Kd.string 9 w w.heap.size (fun k_=>P0_4_ k_) (.slice A0_4 l0_4.length c0_4) l0_4) (hs0_5 : Kd.V k25 25 w w.heap.size (fun k_=>P0_5_ k_) (.slice A0_5 l0_5.length c0_5) l0_5) (h : quarryref20_Find.f k a0_0 a0_1 a0_2 a0_3 l0_4 l0_5 a1 = some (r1,r2,r3,r4,r5,r6,r7,r8)) :
  Calls Tryd.prog 11 #[.agg #[.int .i64 a0_0,.bool a0_1,.string a0_2,.string a0_3,.slice A0_4 l0_4.length c0_4,.slice A0_5 l0_5.length c0_5],.string a1] w fun e w'=>∃ v4_ v5_ : Value,e = .returned (.tuple #[.agg #[.int .i64 r1,.bool r2,.string r3,.string r4,v4_,v5_],.bool r7,.int .i64 r8]) ∧ Kd.V Kd.string 9 w' w.heap.size (fun k_=>((P0_4_ k_ ∨ P0_5_ k_) ∨ w.heap.size ≤ k_)) v4_ r5 ∧ Kd.V k25 25 w' w.heap.size (fun k_=>((P0_4_ k_ ∨ P0_5_ k_) ∨ w.heap.size ≤ k_)) v5_ r6 ∧ Below w.heap.size w w':=by
 have hu25:=Tryd.underlying25
 have HO0_4:=Aside0.mk (show Kd.V Kd.string 9 w w.heap.size (fun k_=>((P0_4_ k_ ∨ P0_5_ k_) ∨ w.heap.size ≤ k_)) (.slice A0_4 l0_4.length c0_4) l0_4 from Kd.V_mono hs0_4 (fun k_ hk=>.inl (.inl hk)))
 have HO0_5:=Aside0.mk (show Kd.V k25 25 w w.heap.size (fun k_=>((P0_4_ k_ ∨ P0_5_ k_) ∨ w.heap.size ≤ k_)) (.slice A0_5 l0_5.length c0_5) l0_5 from Kd.V_mono hs0_5 (fun k_ hk=>.inl (.inr hk)))
 have HB:=Aside0.mk (Below.refl w.heap.size w)
 have H : ((quarryref17_Formed.f k a0_0 a0_1 a0_2 a0_3 l0_4 l0_5).bind fun t306=>(if t306 = true then ((quarryref20_Parse.f k a1).bind fun bt307=>(if bt307.2 = 0 then (quarryref20_Find.l0 k bt307.1 0 a0_0 a0_1 a0_2 a0_3 l0_4 l0_5) else (some (0,false,(⟨#[]⟩ : ByteArray),(⟨#[]⟩ : ByteArray),([] : List ByteArray),([] : List (S25)),false,bt307.2)))) else (some (0,false,(⟨#[]⟩ : ByteArray),(⟨#[]⟩ : ByteArray),([] : List ByteArray),([] : List (S25)),false,1)))) = some (r1,r2,r3,r4,r5,r6,r7,r8):=h
 clear h
 replace H:=Option.bind_eq_some_iff.mp H
 obtain ⟨t306,A30,H⟩:=H
 replace H : (if t306 = true then ((quarryref20_Parse.f k a1).bind fun bt307=>(if bt307.2 = 0 then (quarryref20_Find.l0 k bt307.1 0 a0_0 a0_1 a0_2 a0_3 l0_4 l0_5) else (some (0,false,(⟨#[]⟩ : ByteArray),(⟨#[]⟩ : ByteArray),([] : List ByteArray),([] : List (S25)),false,bt307.2)))) else (some (0,false,(⟨#[]⟩ : ByteArray),(⟨#[]⟩ : ByteArray),([] : List ByteArray),([] : List (S25)),false,1))) = some (r1,r2,r3,r4,r5,r6,r7,r8):=H
 have A3:=Aside0.mk A30
 clear A30
 by_cases c4 : t306 = true
 ·subst c4
  have H1 : ((quarryref20_Parse.f k a1).bind fun bt307=>(if bt307.2 = 0 then (quarryref20_Find.l0 k bt307.1 0 a0_0 a0_1 a0_2 a0_3 l0_4 l0_5) else (some (0,false,(⟨#[]⟩ : ByteArray),(⟨#[]⟩ : ByteArray),([] : List ByteArray),([] : List (S25)),false,bt307.2)))) = some (r1,r2,r3,r4,r5,r6,r7,r8):=by rw [if_pos rfl] at H;exact H
  clear H
  have H:=H1
  clear H1
  replace H:=Option.bind_eq_some_iff.mp H
  obtain ⟨⟨t307,t308⟩,A50,H⟩:=H
  replace H : (if t308 = 0 then (quarryref20_Find.l0 k t307 0 a0_0 a0_1 a0_2 a0_3 l0_4 l0_5) else (some (0,false,(⟨#[]⟩ : ByteArray),(⟨#[]⟩ : ByteArray),([] : List ByteArray),([] : List (S25)),false,t308))) = some (r1,r2,r3,r4,r5,r6,r7,r8):=H
  have A5:=Aside0.mk A50
  clear A50
  by_cases c6 : t308 = 0
  ·rw [if_pos c6] at H
   have c6b0 : (t308 == 0) = true:=beq_iff_eq.mpr c6
   have c6b1 : (t308 != 0) = false:=bne_eq_false_iff_eq.mpr c6
   clear c6
   have H':=Aside0.mk H
   clear H
   go_enter Tryd.func11,Tryd.ntmps11
   go_wp2_with (first|((with_reducible refine gate_dst (N:=2) rfl ?_);refine box_event ?hg (N:=2) ?hd (cs:=#[.int .i64 a0_0,.bool a0_1,.string a0_2,.string a0_3,.slice A0_4 l0_4.length c0_4,.slice A0_5 l0_5.length c0_5]) (t:=25) ?hr ?_;(case hd=>rfl);(case hg=>rfl);(case hr=>first|(go_simp;done)|(go_simp;rfl));intro gb304 hg w7 hbox hb;have n_:=J_ (Kd.V_below (Kd.V_elderB (vk_ HO0_4) gb304 (Nat.le_of_eq hg.symm)) hb) (J_ (Kd.V_below (Kd.V_elderB (vk_ HO0_5) gb304 (Nat.le_of_eq hg.symm)) hb) (J_ (below_step (hb_ HB) hb) (J_ (hbox) (J_ (bs_ hg HB) (Aside0.mk (bs_ hg HB))))));clear HO0_4 HO0_5 HB;obtain ⟨HO0_4,HO0_5,HB,BK304,GW304,GE304⟩:=n_;clear hb hbox hg)|((with_reducible refine gate_dst (N:=4) rfl ?_);refine box_event ?hg (N:=4) ?hd (cs:=#[.int .i64 0,.bool false,.string (⟨#[]⟩ : ByteArray),.string (⟨#[]⟩ : ByteArray),.slice none 0 0,.slice none 0 0]) (t:=25) ?hr ?_;(case hd=>rfl);(case hg=>rfl);(case hr=>first|(go_simp;done)|(go_simp;rfl));intro gb305 hg w8 hbox hb;have n_:=J_ (Kd.V_below (Kd.V_elderB (vk_ HO0_4) gb305 (Nat.le_of_eq hg.symm)) hb) (J_ (Kd.V_below (Kd.V_elderB (vk_ HO0_5) gb305 (Nat.le_of_eq hg.symm)) hb) (J_ (bkb_ BK304 hb) (J_ (below_step (hb_ HB) hb) (J_ (hbox) (J_ (bs_ hg HB) (J_ (bs_ hg HB) (J_ ((by rw [hg];exact Nat.ne_of_lt (bkl_ BK304) : gb304 ≠ gb305)) (Aside0.mk ((by rw [hg];exact Nat.ne_of_gt (bkl_ BK304) : gb305 ≠ gb304))))))))));clear HO0_4 HO0_5 BK304 HB;obtain ⟨HO0_4,HO0_5,BK304,HB,BK305,GW305,GE305,NB304_305,NB305_304⟩:=n_;clear hb hbox hg;have hnb9:=NB304_305.out;have hnc9:=NB305_304.out;obtain ⟨hcz10_0,hcz10_1,hcz10_2,hcz10_3,hcz10_4,hcz10_5,hfz10_0,hfz10_1,hfz10_2,hfz10_3,hfz10_4,hfz10_5⟩:=cf6_ BK304)|((with_reducible refine gate_callee (f:=31) rfl ?_);refine goesL_ (some 13) rfl rfl Tryd.func31 (by kernel_rfl) rfl #[.agg #[.int .i64 a0_0,.bool a0_1,.string a0_2,.string a0_3,.slice A0_4 l0_4.length c0_4,.slice A0_5 l0_5.length c0_5]] rfl am_ ?_;(with_reducible refine (quarryref17_Formed.calls k a0_0 a0_1 a0_2 a0_3 _ _ l0_4 _ _ l0_5 true _ ?side1 ?side2 ?side3 ?side4 A3.out).mono ?_);(case side1=>repeat (first|exact (Kd.V_reads' HO0_4.out).2.2|(with_reducible refine Kd.C_alloc ?_ _)|(with_reducible refine Kd.C_drewN ?_ _)|(with_reducible refine Kd.C_drew ?_)));(case side2=>exact (Kd.V_reads' HO0_4.out).2.1);(case side3=>repeat (first|exact (Kd.V_reads' HO0_5.out).2.2|(with_reducible refine Kd.C_alloc ?_ _)|(with_reducible refine Kd.C_drewN ?_ _)|(with_reducible refine Kd.C_drew ?_)));(case side4=>exact (Kd.V_reads' HO0_5.out).2.1);rintro e w11 ⟨rfl,hb⟩;refine ⟨_,rfl,?_⟩;have n_:=J_ (Kd.V_below (vk_ HO0_4) hb) (J_ (Kd.V_below (vk_ HO0_5) hb) (J_ (bkb_ BK304 hb) (J_ (bkb_ BK305 hb) (Aside0.mk (below_step (hb_ HB) hb)))));clear HO0_4 HO0_5 BK304 BK305 HB;obtain ⟨HO0_4,HO0_5,BK304,BK305,HB⟩:=n_;(try clear hb);(try clear hb2);(try clear hk);(try clear hi))|((with_reducible refine gate_callee (f:=32) rfl ?_);refine goesL_ (some 18) rfl rfl Tryd.func32 (by kernel_rfl) rfl #[.string a1] rfl am_ ?_;(with_reducible refine (quarryref20_Parse.calls k a1 t307 t308 _ A5.out).mono ?_);rintro e w12 ⟨v309,rfl,ho0,hb⟩;refine ⟨_,rfl,?_⟩;have n_:=J_ (Kd.V_elder' (vk_ HO0_4) (Kd.R_base ho0) hb) (J_ (Kd.V_elder' (vk_ HO0_5) (Kd.R_base ho0) hb) (J_ (Kd.R_lower (Kd.R_newM (M:=fun k_=>(w.heap.size ≤ k_)) ho0 (below_size (hb_ HB)) (fun k_ h_=>h_)) (below_size (hb_ HB))) (J_ (bkb_ BK304 hb) (J_ (bkb_ BK305 hb) (Aside0.mk (below_step (hb_ HB) hb))))));clear HO0_4 HO0_5 BK304 BK305 HB;obtain ⟨HO0_4,HO0_5,HO310,BK304,BK305,HB⟩:=n_;(try clear hb);(try clear hb2);(try clear hk);(try clear hi);(try clear ho0)))
   go_loopg [9] k (fun kq v9 w'=>∃ (x9_1 : Int) (x305000_1 : Int) (x305001_1 : Bool) (x305002_1 : ByteArray) (x305003_1 : ByteArray) (x305004_1 : List ByteArray) (x305005_1 : List (S25)) (x306000_1 : Int) (x306001_1 : Bool) (x306002_1 : ByteArray) (x306003_1 : ByteArray) (u305004 : Value) (u305005 : Value),v9 = .int .i64 x9_1 ∧ Aside0 (quarryref20_Find.l0 kq t307 x9_1 x305000_1 x305001_1 x305002_1 x305003_1 x305004_1 x305005_1 = some (r1,r2,r3,r4,r5,r6,r7,r8)) ∧ Aside0 (kq ≤ k) ∧ Aside0 (Kd.R Kd.string 9 w' w.heap.size (fun k_=>(w.heap.size ≤ k_)) v309 t307) ∧ Aside0 (Kd.V Kd.string 9 w' w.heap.size (fun k_=>((P0_4_ k_ ∨ P0_5_ k_) ∨ w.heap.size ≤ k_) ∧ some k_ ≠ (v309 : Value).ownBlock ∧ k_ ≠ gb304 ∧ k_ ≠ gb305) u305004 x305004_1) ∧ Aside0 (Kd.V k25 25 w' w.heap.size (fun k_=>((P0_4_ k_ ∨ P0_5_ k_) ∨ w.heap.size ≤ k_) ∧ some k_ ≠ (v309 : Value).ownBlock ∧ k_ ≠ gb304 ∧ k_ ≠ gb305) u305005 x305005_1) ∧ Aside0 (w'.heap[gb304]? = some (.cells #[.int .i64 x305000_1,.bool x305001_1,.string x305002_1,.string x305003_1,u305004,u305005] 25 (0,0))) ∧ Aside0 (w'.heap[gb305]? = some (.cells #[.int .i64 x306000_1,.bool x306001_1,.string x306002_1,.string x306003_1,(.slice none 0 0),(.slice none 0 0)] 25 (0,0))) ∧ Aside0 (Below w.heap.size w w'))
   case atStart=>exact ⟨(0),(a0_0),(a0_1),(a0_2),(a0_3),(l0_4),(l0_5),(0),(false),((⟨#[]⟩ : ByteArray)),((⟨#[]⟩ : ByteArray)),(.slice A0_4 l0_4.length c0_4),(.slice A0_5 l0_5.length c0_5),rr_,H',⟨Nat.le_refl _⟩,⟨by (with_reducible repeat (first|apply Kd.R_alloc|apply Kd.R_drewN|apply Kd.R_drew));exact Kd.R_mono HO310.out (fun _ hk=>hk.1)⟩,⟨by (with_reducible repeat (first|apply Kd.V_alloc|apply Kd.V_drewN|apply Kd.V_drew));exact Kd.V_mono HO0_4.out (fun _ hk=>⟨hk.1.1.1,⟨hk.2,⟨hk.1.1.2,hk.1.2⟩⟩⟩)⟩,⟨by (with_reducible repeat (first|apply Kd.V_alloc|apply Kd.V_drewN|apply Kd.V_drew));exact Kd.V_mono HO0_5.out (fun _ hk=>⟨hk.1.1.1,⟨hk.2,⟨hk.1.1.2,hk.1.2⟩⟩⟩)⟩,⟨(bk_ BK304)⟩,⟨(bk_ BK305)⟩,⟨(hb_ HB)⟩⟩
   case round =>
    clear H'
    try clear BK304
    try clear BK305
    try clear HB
    obtain ⟨x9_1,x305000_1,x305001_1,x305002_1,x305003_1,x305004_1,x305005_1,x306000_1,x306001_1,x306002_1,x306003_1,u305004,u305005,rfl,HA,HK1,HO_7,HO_305004,HO_305005,BK304,BK305,HB⟩:=hrel
    cases gk with
    | zero=>exact absurd HA.out (by simp [quarryref20_Find.l0])
    | succ k1 =>
     have H:=HA.out
     clear HA
     simp only [quarryref20_Find.l0] at H
     by_cases c13 : x9_1 < (t307.length : Int)
     ·rw [if_pos c13] at H
      have c13b0 : decide (x9_1 < (t307.length : Int)) = true:=decide_eq_true c13
      clear c13
      by_cases c14 : 0 ≤ x9_1
      ·rw [if_pos c14] at H
       have c14b0 : decide (0 ≤ x9_1) = true:=decide_eq_true c14
       clear c14
       replace H:=Option.bind_eq_some_iff.mp H
       obtain ⟨⟨t312,t313,t314,t315,t316,t319,t322⟩,A150,H⟩:=H
       replace H : (if t322 = true then (quarryref20_Find.l0 k1 t307 (wrap64 (x9_1 + 1)) t312 t313 t314 t315 t316 t319) else (some (0,false,(⟨#[]⟩ : ByteArray),(⟨#[]⟩ : ByteArray),([] : List ByteArray),([] : List (S25)),false,0))) = some (r1,r2,r3,r4,r5,r6,r7,r8):=H
       have A15:=Aside0.mk A150
       clear A150
       by_cases c16 : t322 = true
       ·subst c16
        have H1 : (quarryref20_Find.l0 k1 t307 (wrap64 (x9_1 + 1)) t312 t313 t314 t315 t316 t319) = some (r1,r2,r3,r4,r5,r6,r7,r8):=by rw [if_pos rfl] at H;exact H
        clear H
        have H:=H1
        clear H1
        have H':=Aside0.mk H
        clear H
        obtain ⟨Ao17,co17,eo17⟩:=Kd.R_slice HO_7.out
        subst eo17
        obtain ⟨Ao18,co18,eo18⟩:=Kd.V_slice HO_305004.out
        subst eo18
        obtain ⟨Ao19,co19,eo19⟩:=Kd.V_slice HO_305005.out
        subst eo19
        try go_wp2
        have n0_:=Aside0.mk (Kd.R_drew HO_7.out)
        have n1_:=Aside0.mk (Kd.V_drew HO_305004.out)
        have n2_:=Aside0.mk (Kd.V_drew HO_305005.out)
        have n3_:=Aside0.mk (blk_drew BK304.out)
        have n4_:=Aside0.mk (blk_drew BK305.out)
        have n5_:=Aside0.mk (below_drew1 HB.out)
        clear HO_7
        clear HO_305004
        clear HO_305005
        clear BK304
        clear BK305
        clear HB
        have HO_7:=n0_
        have HO_305004:=n1_
        have HO_305005:=n2_
        have BK304:=n3_
        have BK305:=n4_
        have HB:=n5_
        clear n0_ n1_ n2_ n3_ n4_ n5_
        have p311 : 0 ≤ (x9_1 : Int):=of_decide_eq_true aa_
        have q311 : x9_1 < (t307.length : Int):=of_decide_eq_true aa_
        obtain ⟨ad311,e311,hx311_0⟩:=Kd.at_string (Kd.R_reads' HO_7.out).2.2 x9_1 p311 q311
        cases e311
        replace p311:=eq_true p311
        replace q311:=eq_true q311
        refine start_ (n:=12) (S:=fun w'=>w'.cell? ⟨gb304,0,none⟩ = some (.int .i64 x305000_1) ∧ w'.cell? ⟨gb304,1,none⟩ = some (.bool x305001_1) ∧ w'.cell? ⟨gb304,2,none⟩ = some (.string x305002_1) ∧ w'.cell? ⟨gb304,3,none⟩ = some (.string x305003_1) ∧ w'.cell? ⟨gb304,4,none⟩ = some (.slice Ao18 x305004_1.length co18) ∧ w'.cell? ⟨gb304,5,none⟩ = some (.slice Ao19 x305005_1.length co19) ∧ w'.cell? (ad311.add (x9_1).toNat) = some (.string (rdOf ByteArray.empty t307 x9_1))) (ds:=[]) #[false,false,false,false,false,false,false,false,false,false,false,false] (by kernel_rfl) rfl rfl ⟨(blk_cell BK304.out 0).trans rfl,(blk_cell BK304.out 1).trans rfl,(blk_cell BK304.out 2).trans rfl,(blk_cell BK304.out 3).trans rfl,(blk_cell BK304.out 4).trans rfl,(blk_cell BK304.out 5).trans rfl,hx311_0⟩ (fun hHeld=>?_);refine with_tabW quarryref20_Find.tab9 quarryref20_Find.bits9 (fun HT_ HW_=>?_)
        generalize wr.drew = w20 at HO_7 HO_305004 HO_305005 BK304 BK305 HB hx311_0 hHeld ⊢
        refine pure_ (i:=1) (N:=some 33) (v:=?_) (a':=?_) #[false,true,false,false,false,false,false,false,false,false,false,false] rfl rfl (any_of HT_.out (by kernel_rfl)) (fun _ _ _ h=>h) (Or.inl ⟨by rfl,?_⟩) ?_ ?_
        rotate_left
        ·intro w'
         go_simp
         with_reducible rfl
        rotate_left
        ·simp only [Act.put,List.setIfInBounds_toArray,List.set_cons_zero,List.set_cons_succ,i64_w,i32_w]
         rfl
        refine pure_ (i:=2) (N:=some 34) (v:=?_) (a':=?_) #[false,true,true,false,false,false,false,false,false,false,false,false] rfl rfl (any_of HT_.out (by kernel_rfl)) (fun _ _ _ h=>h) (Or.inl ⟨by rfl,?_⟩) ?_ ?_
        rotate_left
        ·intro w'
         go_simp
         with_reducible rfl
        rotate_left
        ·simp only [Act.put,List.setIfInBounds_toArray,List.set_cons_zero,List.set_cons_succ,i64_w,i32_w]
         rfl
        refine pure_ (i:=3) (N:=some 35) (v:=?_) (a':=?_) #[false,true,true,true,false,false,false,false,false,false,false,false] rfl rfl (any_of HT_.out (by kernel_rfl)) (fun _ _ _ h=>h) (Or.inl ⟨by rfl,?_⟩) ?_ ?_
        rotate_left
        ·intro w'
         go_simp
         with_reducible rfl
        rotate_left
        ·simp only [Act.put,List.setIfInBounds_toArray,List.set_cons_zero,List.set_cons_succ,i64_w,i32_w]
         rfl
        refine take_ (i:=0) (N:=some 32) (v:=?_) (a':=?_) #[true,true,true,true,false,false,false,false,false,false,false,false] rfl rfl (take_ofW HT_.out HW_.out (by kernel_rfl)) (fun _ _ _ h=>h) (Or.inl ⟨by rfl,?_⟩) hHeld ?_ ?_
        rotate_left
        ·rintro w' ⟨s0,s1,s2,s3,s4,s5,s6⟩
         go_simp
         with_reducible rfl
        rotate_left
        ·simp only [Act.put,List.setIfInBounds_toArray,List.set_cons_zero,List.set_cons_succ,i64_w,i32_w]
         rfl
        refine take_ (i:=4) (N:=some 36) (v:=?_) (a':=?_) #[true,true,true,true,true,false,false,false,false,false,false,false] rfl rfl (take_ofW HT_.out HW_.out (by kernel_rfl)) (fun _ _ _ h=>h) (Or.inl ⟨by rfl,?_⟩) hHeld ?_ ?_
        rotate_left
        ·rintro w' ⟨s0,s1,s2,s3,s4,s5,s6⟩
         go_simp
         with_reducible rfl
        rotate_left
        ·simp only [Act.put,List.setIfInBounds_toArray,List.set_cons_zero,List.set_cons_succ,i64_w,i32_w]
         rfl
        refine join_ (σ:=Value × Value × Nat) 2 #[true,true,true,true,true,true,true,true,true,true,false,false] (fun s_=>[(37,.tuple #[.agg #[.int .i64 t312,.bool t313,.string t314,.string t315,s_.1,s_.2.1],.bool true]),(10,.pointer (some ⟨s_.2.2,0,none⟩)),(31,.tuple #[.agg #[.int .i64 t312,.bool t313,.string t314,.string t315,s_.1,s_.2.1],.bool true]),(38,.agg #[.int .i64 t312,.bool t313,.string t314,.string t315,s_.1,s_.2.1]),(39,.bool true)]) (fun s_ w'=>(w'.cell? ⟨gb304,0,none⟩ = some (.int .i64 x305000_1) ∧ w'.cell? ⟨gb304,1,none⟩ = some (.bool x305001_1) ∧ w'.cell? ⟨gb304,2,none⟩ = some (.string x305002_1) ∧ w'.cell? ⟨gb304,3,none⟩ = some (.string x305003_1) ∧ w'.cell? ⟨gb304,4,none⟩ = some (.slice Ao18 x305004_1.length co18) ∧ w'.cell? ⟨gb304,5,none⟩ = some (.slice Ao19 x305005_1.length co19) ∧ w'.cell? (ad311.add (x9_1).toNat) = some (.string (rdOf ByteArray.empty t307 x9_1))) ∧ (Kd.V Kd.string 9 w' w.heap.size (fun k_=>((P0_4_ k_ ∨ P0_5_ k_) ∨ w.heap.size ≤ k_) ∧ some k_ ≠ (.slice (some ad311) t307.length co17 : Value).ownBlock ∧ k_ ≠ gb304 ∧ k_ ≠ gb305 ∧ k_ ≠ s_.2.2) s_.1 t316) ∧ (Kd.V k25 25 w' w.heap.size (fun k_=>((P0_4_ k_ ∨ P0_5_ k_) ∨ w.heap.size ≤ k_) ∧ some k_ ≠ (.slice (some ad311) t307.length co17 : Value).ownBlock ∧ k_ ≠ gb304 ∧ k_ ≠ gb305 ∧ k_ ≠ s_.2.2) s_.2.1 t319) ∧ (Kd.V Kd.string 9 w' w.heap.size (fun k_=>((P0_4_ k_ ∨ P0_5_ k_) ∨ w.heap.size ≤ k_) ∧ some k_ ≠ (.slice (some ad311) t307.length co17 : Value).ownBlock ∧ k_ ≠ gb304 ∧ k_ ≠ gb305 ∧ k_ ≠ s_.2.2) (.slice Ao18 x305004_1.length co18) x305004_1) ∧ (Kd.V k25 25 w' w.heap.size (fun k_=>((P0_4_ k_ ∨ P0_5_ k_) ∨ w.heap.size ≤ k_) ∧ some k_ ≠ (.slice (some ad311) t307.length co17 : Value).ownBlock ∧ k_ ≠ gb304 ∧ k_ ≠ gb305 ∧ k_ ≠ s_.2.2) (.slice Ao19 x305005_1.length co19) x305005_1) ∧ (Kd.R Kd.string 9 w' w.heap.size (fun k_=>(w.heap.size ≤ k_)) (.slice (some ad311) t307.length co17) t307) ∧ (w'.heap[gb304]? = some (.cells #[.int .i64 x305000_1,.bool x305001_1,.string x305002_1,.string x305003_1,.slice Ao18 x305004_1.length co18,.slice Ao19 x305005_1.length co19] 25 (0,0))) ∧ (w'.heap[gb305]? = some (.cells #[.int .i64 x306000_1,.bool x306001_1,.string x306002_1,.string x306003_1,.slice none 0 0,.slice none 0 0] 25 (0,0))) ∧ (w'.heap[s_.2.2]? = some (.cells #[.int .i64 0,.bool false,.string (⟨#[]⟩ : ByteArray),.string (⟨#[]⟩ : ByteArray),.slice none 0 0,.slice none 0 0] 25 (0,0))) ∧ (w.heap.size ≤ s_.2.2) ∧ (w.heap.size ≤ s_.2.2) ∧ (gb304 ≠ s_.2.2) ∧ (s_.2.2 ≠ gb304) ∧ (gb305 ≠ s_.2.2) ∧ (s_.2.2 ≠ gb305) ∧ (Below w.heap.size w w')) ?_ ?_
        rotate_left
        ·intro hCont
         refine two_ (i:=5) (j:=9) (Ni:=some 37) (Nj:=some 10) #[true,true,true,true,true,true,false,false,false,false,false,false] #[true,true,true,true,true,false,false,false,false,true,false,false] rfl rfl rfl rfl (two_of HT_.out (by kernel_rfl)) (by decide) (by decide) (fun K hK=>?_) (fun K hK=>?_)
         ·skip
          refine goes_ Tryd.func33 (by kernel_rfl) rfl #[.agg #[.int .i64 x305000_1,.bool x305001_1,.string x305002_1,.string x305003_1,.slice Ao18 x305004_1.length co18,.slice Ao19 x305005_1.length co19],.string (rdOf ByteArray.empty t307 x9_1)] (by rfl) rfl rfl am_ ?_
          with_reducible refine (quarryref20_step.calls k1 x305000_1 x305001_1 x305002_1 x305003_1 _ _ x305004_1 (fun k_=>(((P0_4_ k_ ∨ P0_5_ k_) ∨ w.heap.size ≤ k_) ∧ (some k_ ≠ (.slice (some ad311) t307.length co17 : Value).ownBlock ∧ (k_ ≠ gb304 ∧ k_ ≠ gb305)))) _ _ x305005_1 (rdOf ByteArray.empty t307 x9_1) t312 t313 t314 t315 t316 t319 true _ ?side1 ?side2 ?side3 A15.out).mono ?_
          (case side1=>repeat (first|exact (Kd.V_reads' HO_305004.out).2.2|(with_reducible refine Kd.C_alloc ?_ _)|(with_reducible refine Kd.C_drewN ?_ _)|(with_reducible refine Kd.C_drew ?_)))
          (case side2=>exact (Kd.V_reads' HO_305004.out).2.1)
          (case side3=>exact HO_305005.out)
          rintro e w21 ⟨v317,v320,rfl,ho0,ho1,hb⟩
          have HS6_:=(hb.cell (World.block_lt_of_cell? _ _ (hHeld.2.2.2.2.2.2))).trans (hHeld.2.2.2.2.2.2)
          refine ⟨_,rfl,?_⟩
          have n0_:=Aside0.mk (Kd.R_below (rk_ HO_7) hb)
          have n1_:=Aside0.mk (Kd.V_below (vk_ HO_305004) hb)
          have n2_:=Aside0.mk (Kd.V_below (vk_ HO_305005) hb)
          have n3_:=Aside0.mk (Kd.V_lower (Kd.V_mono (ok':=fun k_=>((P0_4_ k_ ∨ P0_5_ k_) ∨ w.heap.size ≤ k_) ∧ some k_ ≠ (.slice (some ad311) t307.length co17 : Value).ownBlock ∧ k_ ≠ gb304 ∧ k_ ≠ gb305) ho0 (fun k_ hk_=>⟨Or.elim hk_ (fun hs_=>hs_.1) (fun hn_=>(.inr (Nat.le_trans (below_size (hb_ HB)) hn_))),Or.elim hk_ (fun hs_=>hs_.2.1) (fun hn_=>(Kd.fresh' (Kd.R_lt (rk_ HO_7)) k_ hn_)),Or.elim hk_ (fun hs_=>hs_.2.2.1) (fun hn_=>(Kd.freshB (g:=gb304) (o:=.cells #[.int .i64 x305000_1,.bool x305001_1,.string x305002_1,.string x305003_1,.slice Ao18 x305004_1.length co18,.slice Ao19 x305005_1.length co19] 25 (0,0)) (bk_ BK304) k_ hn_)),Or.elim hk_ (fun hs_=>hs_.2.2.2) (fun hn_=>(Kd.freshB (g:=gb305) (o:=.cells #[.int .i64 x306000_1,.bool x306001_1,.string x306002_1,.string x306003_1,.slice none 0 0,.slice none 0 0] 25 (0,0)) (bk_ BK305) k_ hn_))⟩)) (below_size (hb_ HB)))
          have n4_:=Aside0.mk (Kd.V_lower (Kd.V_mono (ok':=fun k_=>((P0_4_ k_ ∨ P0_5_ k_) ∨ w.heap.size ≤ k_) ∧ some k_ ≠ (.slice (some ad311) t307.length co17 : Value).ownBlock ∧ k_ ≠ gb304 ∧ k_ ≠ gb305) ho1 (fun k_ hk_=>⟨Or.elim hk_ (fun hs_=>hs_.1) (fun hn_=>(.inr (Nat.le_trans (below_size (hb_ HB)) hn_))),Or.elim hk_ (fun hs_=>hs_.2.1) (fun hn_=>(Kd.fresh' (Kd.R_lt (rk_ HO_7)) k_ hn_)),Or.elim hk_ (fun hs_=>hs_.2.2.1) (fun hn_=>(Kd.freshB (g:=gb304) (o:=.cells #[.int .i64 x305000_1,.bool x305001_1,.string x305002_1,.string x305003_1,.slice Ao18 x305004_1.length co18,.slice Ao19 x305005_1.length co19] 25 (0,0)) (bk_ BK304) k_ hn_)),Or.elim hk_ (fun hs_=>hs_.2.2.2) (fun hn_=>(Kd.freshB (g:=gb305) (o:=.cells #[.int .i64 x306000_1,.bool x306001_1,.string x306002_1,.string x306003_1,.slice none 0 0,.slice none 0 0] 25 (0,0)) (bk_ BK305) k_ hn_))⟩)) (below_size (hb_ HB)))
          have n5_:=Aside0.mk (bkb_ BK304 hb)
          have n6_:=Aside0.mk (bkb_ BK305 hb)
          have n7_:=Aside0.mk (below_step (hb_ HB) hb)
          clear HO_7
          clear HO_305004
          clear HO_305005
          clear BK304
          clear BK305
          clear HB
          have HO_7:=n0_
          have HO_305004:=n1_
          have HO_305005:=n2_
          have HO318:=n3_
          have HO321:=n4_
          have BK304:=n5_
          have BK305:=n6_
          have HB:=n7_
          clear n0_ n1_ n2_ n3_ n4_ n5_ n6_ n7_
          (try clear hb)
          (try clear hb2)
          (try clear hk)
          (try clear hi)
          (try clear ho0)
          (try clear ho1)
          refine hK.out _ _ ⟨(blk_cell BK304.out 0).trans rfl,(blk_cell BK304.out 1).trans rfl,(blk_cell BK304.out 2).trans rfl,(blk_cell BK304.out 3).trans rfl,(blk_cell BK304.out 4).trans rfl,(blk_cell BK304.out 5).trans rfl,HS6_⟩ (fun hHeld=>?_)
          clear hK K
          refine norm_ (a':=?_) ?_ ?_
          rotate_left
          ·show Act.put _ (some 37) _ = _
           simp only [Act.put,List.setIfInBounds_toArray,List.set_cons_zero,List.set_cons_succ,i64_w,i32_w]
           rfl
          refine pure_ (i:=6) (N:=some 31) (v:=?_) (a':=?_) #[true,true,true,true,true,true,true,false,false,false,false,false] rfl rfl (any_of HT_.out (by kernel_rfl)) (fun _ _ _ h=>h) (Or.inl ⟨by rfl,?_⟩) ?_ ?_
          rotate_left
          ·intro w'
           go_simp
           with_reducible rfl
          rotate_left
          ·simp only [Act.put,List.setIfInBounds_toArray,List.set_cons_zero,List.set_cons_succ,i64_w,i32_w]
           rfl
          refine pure_ (i:=7) (N:=some 38) (v:=?_) (a':=?_) #[true,true,true,true,true,true,true,true,false,false,false,false] rfl rfl (any_of HT_.out (by kernel_rfl)) (fun _ _ _ h=>h) (Or.inl ⟨by rfl,?_⟩) ?_ ?_
          rotate_left
          ·intro w'
           go_simp
           with_reducible rfl
          rotate_left
          ·simp only [Act.put,List.setIfInBounds_toArray,List.set_cons_zero,List.set_cons_succ,i64_w,i32_w]
           rfl
          refine pure_ (i:=8) (N:=some 39) (v:=?_) (a':=?_) #[true,true,true,true,true,true,true,true,true,false,false,false] rfl rfl (any_of HT_.out (by kernel_rfl)) (fun _ _ _ h=>h) (Or.inl ⟨by rfl,?_⟩) ?_ ?_
          rotate_left
          ·intro w'
           go_simp
           with_reducible rfl
          rotate_left
          ·simp only [Act.put,List.setIfInBounds_toArray,List.set_cons_zero,List.set_cons_succ,i64_w,i32_w]
           rfl
          refine one_ (i:=9) (N:=some 10) #[true,true,true,true,true,true,true,true,true,true,false,false] rfl rfl (one_of HT_.out (by kernel_rfl)) (by decide) (fun K hK=>?_)
          refine box_step ?hg (N:=10) ?hd (cs:=#[.int .i64 0,.bool false,.string (⟨#[]⟩ : ByteArray),.string (⟨#[]⟩ : ByteArray),.slice none 0 0,.slice none 0 0]) (t:=25) ?hr ?_;(case hd=>rfl);(case hg=>rfl);(case hr=>first|(go_simp;done)|(go_simp;rfl))
          intro gb323 hg w22 hbox hb
          have HS6_:=(hb.cell (World.block_lt_of_cell? _ _ (hHeld.2.2.2.2.2.2))).trans (hHeld.2.2.2.2.2.2)
          have n0_:=Aside0.mk (Kd.R_below (rk_ HO_7) hb)
          have n1_:=Aside0.mk (Kd.V_below (Kd.V_elderB (vk_ HO_305004) gb323 (Nat.le_of_eq hg.symm)) hb)
          have n2_:=Aside0.mk (Kd.V_below (Kd.V_elderB (vk_ HO_305005) gb323 (Nat.le_of_eq hg.symm)) hb)
          have n3_:=Aside0.mk (Kd.V_below (Kd.V_elderB (vk_ HO318) gb323 (Nat.le_of_eq hg.symm)) hb)
          have n4_:=Aside0.mk (Kd.V_below (Kd.V_elderB (vk_ HO321) gb323 (Nat.le_of_eq hg.symm)) hb)
          have n5_:=Aside0.mk (bkb_ BK304 hb)
          have n6_:=Aside0.mk (bkb_ BK305 hb)
          have n7_:=Aside0.mk (below_step (hb_ HB) hb)
          have n8_:=Aside0.mk (hbox)
          have n9_:=Aside0.mk (bs_ hg HB)
          have n10_:=Aside0.mk (bs_ hg HB)
          have n11_:=Aside0.mk ((by rw [hg];exact Nat.ne_of_lt (bkl_ BK304) : gb304 ≠ gb323))
          have n12_:=Aside0.mk ((by rw [hg];exact Nat.ne_of_gt (bkl_ BK304) : gb323 ≠ gb304))
          have n13_:=Aside0.mk ((by rw [hg];exact Nat.ne_of_lt (bkl_ BK305) : gb305 ≠ gb323))
          have n14_:=Aside0.mk ((by rw [hg];exact Nat.ne_of_gt (bkl_ BK305) : gb323 ≠ gb305))
          clear HO_7
          clear HO_305004
          clear HO_305005
          clear HO318
          clear HO321
          clear BK304
          clear BK305
          clear HB
          have HO_7:=n0_
          have HO_305004:=n1_
          have HO_305005:=n2_
          have HO318:=n3_
          have HO321:=n4_
          have BK304:=n5_
          have BK305:=n6_
          have HB:=n7_
          have BK323:=n8_
          have GW323:=n9_
          have GE323:=n10_
          have NB304_323:=n11_
          have NB323_304:=n12_
          have NB305_323:=n13_
          have NB323_305:=n14_
          clear n0_ n1_ n2_ n3_ n4_ n5_ n6_ n7_ n8_ n9_ n10_ n11_ n12_ n13_ n14_
          clear hb hbox hg
          refine hK.out _ _ ⟨(blk_cell BK304.out 0).trans rfl,(blk_cell BK304.out 1).trans rfl,(blk_cell BK304.out 2).trans rfl,(blk_cell BK304.out 3).trans rfl,(blk_cell BK304.out 4).trans rfl,(blk_cell BK304.out 5).trans rfl,HS6_⟩ (fun hHeld=>?_)
          clear hK K
          refine norm_ (a':=?_) ?_ ?_
          rotate_left
          ·show Act.put _ (some 10) _ = _
           simp only [Act.put,List.setIfInBounds_toArray,List.set_cons_zero,List.set_cons_succ,i64_w,i32_w]
           rfl
          exact norm_ (by simp only [putAll,Act.put,List.setIfInBounds_toArray,List.set_cons_zero,List.set_cons_succ]) (hCont (v317,v320,gb323) _ ⟨hHeld,(by (with_reducible repeat (first|apply Kd.V_alloc|apply Kd.V_drewN|apply Kd.V_drew));exact Kd.V_mono HO318.out (fun _ hk=>⟨hk.1.1,⟨hk.1.2.1,⟨hk.1.2.2.1,⟨hk.1.2.2.2,hk.2⟩⟩⟩⟩)),(by (with_reducible repeat (first|apply Kd.V_alloc|apply Kd.V_drewN|apply Kd.V_drew));exact Kd.V_mono HO321.out (fun _ hk=>⟨hk.1.1,⟨hk.1.2.1,⟨hk.1.2.2.1,⟨hk.1.2.2.2,hk.2⟩⟩⟩⟩)),(by (with_reducible repeat (first|apply Kd.V_alloc|apply Kd.V_drewN|apply Kd.V_drew));exact Kd.V_mono HO_305004.out (fun _ hk=>⟨hk.1.1,⟨hk.1.2.1,⟨hk.1.2.2.1,⟨hk.1.2.2.2,hk.2⟩⟩⟩⟩)),(by (with_reducible repeat (first|apply Kd.V_alloc|apply Kd.V_drewN|apply Kd.V_drew));exact Kd.V_mono HO_305005.out (fun _ hk=>⟨hk.1.1,⟨hk.1.2.1,⟨hk.1.2.2.1,⟨hk.1.2.2.2,hk.2⟩⟩⟩⟩)),(rk_ HO_7),(bk_ BK304),(bk_ BK305),(bk_ BK323),GW323.out,GE323.out,NB304_323.out,NB323_304.out,NB305_323.out,NB323_305.out,(hb_ HB)⟩)
         ·skip
          refine box_step ?hg (N:=10) ?hd (cs:=#[.int .i64 0,.bool false,.string (⟨#[]⟩ : ByteArray),.string (⟨#[]⟩ : ByteArray),.slice none 0 0,.slice none 0 0]) (t:=25) ?hr ?_;(case hd=>rfl);(case hg=>rfl);(case hr=>first|(go_simp;done)|(go_simp;rfl))
          intro gb323 hg w21 hbox hb
          have HS6_:=(hb.cell (World.block_lt_of_cell? _ _ (hHeld.2.2.2.2.2.2))).trans (hHeld.2.2.2.2.2.2)
          have n0_:=Aside0.mk (Kd.R_below (rk_ HO_7) hb)
          have n1_:=Aside0.mk (Kd.V_below (Kd.V_elderB (vk_ HO_305004) gb323 (Nat.le_of_eq hg.symm)) hb)
          have n2_:=Aside0.mk (Kd.V_below (Kd.V_elderB (vk_ HO_305005) gb323 (Nat.le_of_eq hg.symm)) hb)
          have n3_:=Aside0.mk (bkb_ BK304 hb)
          have n4_:=Aside0.mk (bkb_ BK305 hb)
          have n5_:=Aside0.mk (below_step (hb_ HB) hb)
          have n6_:=Aside0.mk (hbox)
          have n7_:=Aside0.mk (bs_ hg HB)
          have n8_:=Aside0.mk (bs_ hg HB)
          have n9_:=Aside0.mk ((by rw [hg];exact Nat.ne_of_lt (bkl_ BK304) : gb304 ≠ gb323))
          have n10_:=Aside0.mk ((by rw [hg];exact Nat.ne_of_gt (bkl_ BK304) : gb323 ≠ gb304))
          have n11_:=Aside0.mk ((by rw [hg];exact Nat.ne_of_lt (bkl_ BK305) : gb305 ≠ gb323))
          have n12_:=Aside0.mk ((by rw [hg];exact Nat.ne_of_gt (bkl_ BK305) : gb323 ≠ gb305))
          clear HO_7
          clear HO_305004
          clear HO_305005
          clear BK304
          clear BK305
          clear HB
          have HO_7:=n0_
          have HO_305004:=n1_
          have HO_305005:=n2_
          have BK304:=n3_
          have BK305:=n4_
          have HB:=n5_
          have BK323:=n6_
          have GW323:=n7_
          have GE323:=n8_
          have NB304_323:=n9_
          have NB323_304:=n10_
          have NB305_323:=n11_
          have NB323_305:=n12_
          clear n0_ n1_ n2_ n3_ n4_ n5_ n6_ n7_ n8_ n9_ n10_ n11_ n12_
          clear hb hbox hg
          refine hK.out _ _ ⟨(blk_cell BK304.out 0).trans rfl,(blk_cell BK304.out 1).trans rfl,(blk_cell BK304.out 2).trans rfl,(blk_cell BK304.out 3).trans rfl,(blk_cell BK304.out 4).trans rfl,(blk_cell BK304.out 5).trans rfl,HS6_⟩ (fun hHeld=>?_)
          clear hK K
          refine norm_ (a':=?_) ?_ ?_
          rotate_left
          ·show Act.put _ (some 10) _ = _
           simp only [Act.put,List.setIfInBounds_toArray,List.set_cons_zero,List.set_cons_succ,i64_w,i32_w]
           rfl
          refine one_ (i:=5) (N:=some 37) #[true,true,true,true,true,true,false,false,false,true,false,false] rfl rfl (one_of HT_.out (by kernel_rfl)) (by decide) (fun K hK=>?_)
          refine goes_ Tryd.func33 (by kernel_rfl) rfl #[.agg #[.int .i64 x305000_1,.bool x305001_1,.string x305002_1,.string x305003_1,.slice Ao18 x305004_1.length co18,.slice Ao19 x305005_1.length co19],.string (rdOf ByteArray.empty t307 x9_1)] (by rfl) rfl rfl am_ ?_
          with_reducible refine (quarryref20_step.calls k1 x305000_1 x305001_1 x305002_1 x305003_1 _ _ x305004_1 (fun k_=>((((P0_4_ k_ ∨ P0_5_ k_) ∨ w.heap.size ≤ k_) ∧ (some k_ ≠ (.slice (some ad311) t307.length co17 : Value).ownBlock ∧ (k_ ≠ gb304 ∧ k_ ≠ gb305))) ∧ k_ ≠ gb323)) _ _ x305005_1 (rdOf ByteArray.empty t307 x9_1) t312 t313 t314 t315 t316 t319 true _ ?side1 ?side2 ?side3 A15.out).mono ?_
          (case side1=>repeat (first|exact (Kd.V_reads' HO_305004.out).2.2|(with_reducible refine Kd.C_alloc ?_ _)|(with_reducible refine Kd.C_drewN ?_ _)|(with_reducible refine Kd.C_drew ?_)))
          (case side2=>exact (Kd.V_reads' HO_305004.out).2.1)
          (case side3=>exact HO_305005.out)
          rintro e w22 ⟨v317,v320,rfl,ho0,ho1,hb⟩
          have HS6_:=(hb.cell (World.block_lt_of_cell? _ _ (hHeld.2.2.2.2.2.2))).trans (hHeld.2.2.2.2.2.2)
          refine ⟨_,rfl,?_⟩
          have n0_:=Aside0.mk (Kd.R_below (rk_ HO_7) hb)
          have n1_:=Aside0.mk (Kd.V_below (vk_ HO_305004) hb)
          have n2_:=Aside0.mk (Kd.V_below (vk_ HO_305005) hb)
          have n3_:=Aside0.mk (Kd.V_lower (Kd.V_mono (ok':=fun k_=>((P0_4_ k_ ∨ P0_5_ k_) ∨ w.heap.size ≤ k_) ∧ some k_ ≠ (.slice (some ad311) t307.length co17 : Value).ownBlock ∧ k_ ≠ gb304 ∧ k_ ≠ gb305 ∧ k_ ≠ gb323) ho0 (fun k_ hk_=>⟨Or.elim hk_ (fun hs_=>hs_.1.1) (fun hn_=>(.inr (Nat.le_trans (below_size (hb_ HB)) hn_))),Or.elim hk_ (fun hs_=>hs_.1.2.1) (fun hn_=>(Kd.fresh' (Kd.R_lt (rk_ HO_7)) k_ hn_)),Or.elim hk_ (fun hs_=>hs_.1.2.2.1) (fun hn_=>(Kd.freshB (g:=gb304) (o:=.cells #[.int .i64 x305000_1,.bool x305001_1,.string x305002_1,.string x305003_1,.slice Ao18 x305004_1.length co18,.slice Ao19 x305005_1.length co19] 25 (0,0)) (bk_ BK304) k_ hn_)),Or.elim hk_ (fun hs_=>hs_.1.2.2.2) (fun hn_=>(Kd.freshB (g:=gb305) (o:=.cells #[.int .i64 x306000_1,.bool x306001_1,.string x306002_1,.string x306003_1,.slice none 0 0,.slice none 0 0] 25 (0,0)) (bk_ BK305) k_ hn_)),Or.elim hk_ (fun hs_=>hs_.2) (fun hn_=>(Kd.freshB (g:=gb323) (o:=.cells #[.int .i64 0,.bool false,.string (⟨#[]⟩ : ByteArray),.string (⟨#[]⟩ : ByteArray),.slice none 0 0,.slice none 0 0] 25 (0,0)) (bk_ BK323) k_ hn_))⟩)) (below_size (hb_ HB)))
          have n4_:=Aside0.mk (Kd.V_lower (Kd.V_mono (ok':=fun k_=>((P0_4_ k_ ∨ P0_5_ k_) ∨ w.heap.size ≤ k_) ∧ some k_ ≠ (.slice (some ad311) t307.length co17 : Value).ownBlock ∧ k_ ≠ gb304 ∧ k_ ≠ gb305 ∧ k_ ≠ gb323) ho1 (fun k_ hk_=>⟨Or.elim hk_ (fun hs_=>hs_.1.1) (fun hn_=>(.inr (Nat.le_trans (below_size (hb_ HB)) hn_))),Or.elim hk_ (fun hs_=>hs_.1.2.1) (fun hn_=>(Kd.fresh' (Kd.R_lt (rk_ HO_7)) k_ hn_)),Or.elim hk_ (fun hs_=>hs_.1.2.2.1) (fun hn_=>(Kd.freshB (g:=gb304) (o:=.cells #[.int .i64 x305000_1,.bool x305001_1,.string x305002_1,.string x305003_1,.slice Ao18 x305004_1.length co18,.slice Ao19 x305005_1.length co19] 25 (0,0)) (bk_ BK304) k_ hn_)),Or.elim hk_ (fun hs_=>hs_.1.2.2.2) (fun hn_=>(Kd.freshB (g:=gb305) (o:=.cells #[.int .i64 x306000_1,.bool x306001_1,.string x306002_1,.string x306003_1,.slice none 0 0,.slice none 0 0] 25 (0,0)) (bk_ BK305) k_ hn_)),Or.elim hk_ (fun hs_=>hs_.2) (fun hn_=>(Kd.freshB (g:=gb323) (o:=.cells #[.int .i64 0,.bool false,.string (⟨#[]⟩ : ByteArray),.string (⟨#[]⟩ : ByteArray),.slice none 0 0,.slice none 0 0] 25 (0,0)) (bk_ BK323) k_ hn_))⟩)) (below_size (hb_ HB)))
          have n5_:=Aside0.mk (bkb_ BK304 hb)
          have n6_:=Aside0.mk (bkb_ BK305 hb)
          have n7_:=Aside0.mk (bkb_ BK323 hb)
          have n8_:=Aside0.mk (below_step (hb_ HB) hb)
          clear HO_7
          clear HO_305004
          clear HO_305005
          clear BK304
          clear BK305
          clear BK323
          clear HB
          have HO_7:=n0_
          have HO_305004:=n1_
          have HO_305005:=n2_
          have HO318:=n3_
          have HO321:=n4_
          have BK304:=n5_
          have BK305:=n6_
          have BK323:=n7_
          have HB:=n8_
          clear n0_ n1_ n2_ n3_ n4_ n5_ n6_ n7_ n8_
          (try clear hb)
          (try clear hb2)
          (try clear hk)
          (try clear hi)
          (try clear ho0)
          (try clear ho1)
          refine hK.out _ _ ⟨(blk_cell BK304.out 0).trans rfl,(blk_cell BK304.out 1).trans rfl,(blk_cell BK304.out 2).trans rfl,(blk_cell BK304.out 3).trans rfl,(blk_cell BK304.out 4).trans rfl,(blk_cell BK304.out 5).trans rfl,HS6_⟩ (fun hHeld=>?_)
          clear hK K
          refine norm_ (a':=?_) ?_ ?_
          rotate_left
          ·show Act.put _ (some 37) _ = _
           simp only [Act.put,List.setIfInBounds_toArray,List.set_cons_zero,List.set_cons_succ,i64_w,i32_w]
           rfl
          refine pure_ (i:=6) (N:=some 31) (v:=?_) (a':=?_) #[true,true,true,true,true,true,true,false,false,true,false,false] rfl rfl (any_of HT_.out (by kernel_rfl)) (fun _ _ _ h=>h) (Or.inl ⟨by rfl,?_⟩) ?_ ?_
          rotate_left
          ·intro w'
           go_simp
           with_reducible rfl
          rotate_left
          ·simp only [Act.put,List.setIfInBounds_toArray,List.set_cons_zero,List.set_cons_succ,i64_w,i32_w]
           rfl
          refine pure_ (i:=7) (N:=some 38) (v:=?_) (a':=?_) #[true,true,true,true,true,true,true,true,false,true,false,false] rfl rfl (any_of HT_.out (by kernel_rfl)) (fun _ _ _ h=>h) (Or.inl ⟨by rfl,?_⟩) ?_ ?_
          rotate_left
          ·intro w'
           go_simp
           with_reducible rfl
          rotate_left
          ·simp only [Act.put,List.setIfInBounds_toArray,List.set_cons_zero,List.set_cons_succ,i64_w,i32_w]
           rfl
          refine pure_ (i:=8) (N:=some 39) (v:=?_) (a':=?_) #[true,true,true,true,true,true,true,true,true,true,false,false] rfl rfl (any_of HT_.out (by kernel_rfl)) (fun _ _ _ h=>h) (Or.inl ⟨by rfl,?_⟩) ?_ ?_
          rotate_left
          ·intro w'
           go_simp
           with_reducible rfl
          rotate_left
          ·simp only [Act.put,List.setIfInBounds_toArray,List.set_cons_zero,List.set_cons_succ,i64_w,i32_w]
           rfl
          exact norm_ (by simp only [putAll,Act.put,List.setIfInBounds_toArray,List.set_cons_zero,List.set_cons_succ]) (hCont (v317,v320,gb323) _ ⟨hHeld,(vk_ HO318),(vk_ HO321),(by (with_reducible repeat (first|apply Kd.V_alloc|apply Kd.V_drewN|apply Kd.V_drew));exact Kd.V_mono HO_305004.out (fun _ hk=>⟨hk.1.1,⟨hk.1.2.1,⟨hk.1.2.2.1,⟨hk.1.2.2.2,hk.2⟩⟩⟩⟩)),(by (with_reducible repeat (first|apply Kd.V_alloc|apply Kd.V_drewN|apply Kd.V_drew));exact Kd.V_mono HO_305005.out (fun _ hk=>⟨hk.1.1,⟨hk.1.2.1,⟨hk.1.2.2.1,⟨hk.1.2.2.2,hk.2⟩⟩⟩⟩)),(rk_ HO_7),(bk_ BK304),(bk_ BK305),(bk_ BK323),GW323.out,GE323.out,NB304_323.out,NB323_304.out,NB305_323.out,NB323_305.out,(hb_ HB)⟩)
        rintro ⟨v317,v320,gb323⟩ w23 ⟨hS_,h0_,h1_,h2_,h3_,h4_,h5_,h6_,h7_,h8_,h9_,h10_,h11_,h12_,h13_,h14_⟩
        have n0_ : Aside0 (Kd.V Kd.string 9 w23 w.heap.size (fun k_=>((P0_4_ k_ ∨ P0_5_ k_) ∨ w.heap.size ≤ k_) ∧ some k_ ≠ (.slice (some ad311) t307.length co17 : Value).ownBlock ∧ k_ ≠ gb304 ∧ k_ ≠ gb305 ∧ k_ ≠ gb323) v317 t316):=⟨h0_⟩
        have n1_ : Aside0 (Kd.V k25 25 w23 w.heap.size (fun k_=>((P0_4_ k_ ∨ P0_5_ k_) ∨ w.heap.size ≤ k_) ∧ some k_ ≠ (.slice (some ad311) t307.length co17 : Value).ownBlock ∧ k_ ≠ gb304 ∧ k_ ≠ gb305 ∧ k_ ≠ gb323) v320 t319):=⟨h1_⟩
        have n2_ : Aside0 (Kd.V Kd.string 9 w23 w.heap.size (fun k_=>((P0_4_ k_ ∨ P0_5_ k_) ∨ w.heap.size ≤ k_) ∧ some k_ ≠ (.slice (some ad311) t307.length co17 : Value).ownBlock ∧ k_ ≠ gb304 ∧ k_ ≠ gb305 ∧ k_ ≠ gb323) (.slice Ao18 x305004_1.length co18) x305004_1):=⟨h2_⟩
        have n3_ : Aside0 (Kd.V k25 25 w23 w.heap.size (fun k_=>((P0_4_ k_ ∨ P0_5_ k_) ∨ w.heap.size ≤ k_) ∧ some k_ ≠ (.slice (some ad311) t307.length co17 : Value).ownBlock ∧ k_ ≠ gb304 ∧ k_ ≠ gb305 ∧ k_ ≠ gb323) (.slice Ao19 x305005_1.length co19) x305005_1):=⟨h3_⟩
        have n4_ : Aside0 (Kd.R Kd.string 9 w23 w.heap.size (fun k_=>(w.heap.size ≤ k_)) (.slice (some ad311) t307.length co17) t307):=⟨h4_⟩
        have n5_ : Aside0 (w23.heap[gb304]? = some (.cells #[.int .i64 x305000_1,.bool x305001_1,.string x305002_1,.string x305003_1,.slice Ao18 x305004_1.length co18,.slice Ao19 x305005_1.length co19] 25 (0,0))):=⟨h5_⟩
        have n6_ : Aside0 (w23.heap[gb305]? = some (.cells #[.int .i64 x306000_1,.bool x306001_1,.string x306002_1,.string x306003_1,.slice none 0 0,.slice none 0 0] 25 (0,0))):=⟨h6_⟩
        have n7_ : Aside0 (w23.heap[gb323]? = some (.cells #[.int .i64 0,.bool false,.string (⟨#[]⟩ : ByteArray),.string (⟨#[]⟩ : ByteArray),.slice none 0 0,.slice none 0 0] 25 (0,0))):=⟨h7_⟩
        have n8_ : Aside0 (w.heap.size ≤ gb323):=⟨h8_⟩
        have n9_ : Aside0 (w.heap.size ≤ gb323):=⟨h9_⟩
        have n10_ : Aside0 (gb304 ≠ gb323):=⟨h10_⟩
        have n11_ : Aside0 (gb323 ≠ gb304):=⟨h11_⟩
        have n12_ : Aside0 (gb305 ≠ gb323):=⟨h12_⟩
        have n13_ : Aside0 (gb323 ≠ gb305):=⟨h13_⟩
        have n14_ : Aside0 (Below w.heap.size w w23):=⟨h14_⟩
        clear HO_7
        clear HO_305004
        clear HO_305005
        clear BK304
        clear BK305
        clear HB
        clear h0_ h1_ h2_ h3_ h4_ h5_ h6_ h7_ h8_ h9_ h10_ h11_ h12_ h13_ h14_
        have HO318:=n0_
        have HO321:=n1_
        have HO_305004:=n2_
        have HO_305005:=n3_
        have HO_7:=n4_
        have BK304:=n5_
        have BK305:=n6_
        have BK323:=n7_
        have GW323:=n8_
        have GE323:=n9_
        have NB304_323:=n10_
        have NB323_304:=n11_
        have NB305_323:=n12_
        have NB323_305:=n13_
        have HB:=n14_
        clear n0_ n1_ n2_ n3_ n4_ n5_ n6_ n7_ n8_ n9_ n10_ n11_ n12_ n13_ n14_
        have hHeld : w23.cell? ⟨gb304,0,none⟩ = some (.int .i64 x305000_1) ∧ w23.cell? ⟨gb304,1,none⟩ = some (.bool x305001_1) ∧ w23.cell? ⟨gb304,2,none⟩ = some (.string x305002_1) ∧ w23.cell? ⟨gb304,3,none⟩ = some (.string x305003_1) ∧ w23.cell? ⟨gb304,4,none⟩ = some (.slice Ao18 x305004_1.length co18) ∧ w23.cell? ⟨gb304,5,none⟩ = some (.slice Ao19 x305005_1.length co19) ∧ w23.cell? (ad311.add (x9_1).toNat) = some (.string (rdOf ByteArray.empty t307 x9_1)):=hS_
        obtain ⟨Ao28,co28,eo28⟩:=Kd.V_slice HO318.out
        (first|subst eo28|(injection eo28 with f1_ f2_ f3_;have f4_:=f1_.symm;have f5_:=f3_.symm;clear f1_ f2_ f3_;subst f4_;subst f5_))
        obtain ⟨Ao30,co30,eo30⟩:=Kd.V_slice HO321.out
        (first|subst eo30|(injection eo30 with f1_ f2_ f3_;have f4_:=f1_.symm;have f5_:=f3_.symm;clear f1_ f2_ f3_;subst f4_;subst f5_))
        refine norm_ (a':=?_) ?_ ?_
        rotate_left
        ·simp only [putAll,Act.put,List.setIfInBounds_toArray,List.set_cons_zero,List.set_cons_succ]
         rfl
        refine one_ (i:=10) (N:=none) #[true,true,true,true,true,true,true,true,true,true,true,false] rfl rfl (one_of HT_.out (by kernel_rfl)) (by decide) (fun K hK=>?_)
        have hs24 : w23.cell? ⟨gb323,0,none⟩ = some (.int .i64 0):=(blk_cell BK323.out 0).trans rfl
        have hfs24:=blk_frozen BK323.out 0
        have hns24_0:=NB304_323.out
        have hns24_1:=NB305_323.out
        have hms24_0:=NB323_304.out
        have hms24_1:=NB323_305.out
        have hs25 : w23.cell? ⟨gb323,1,none⟩ = some (.bool false):=(blk_cell BK323.out 1).trans rfl
        have hfs25:=blk_frozen BK323.out 1
        have hns25_0:=NB304_323.out
        have hns25_1:=NB305_323.out
        have hms25_0:=NB323_304.out
        have hms25_1:=NB323_305.out
        have hs26 : w23.cell? ⟨gb323,2,none⟩ = some (.string (⟨#[]⟩ : ByteArray)):=(blk_cell BK323.out 2).trans rfl
        have hfs26:=blk_frozen BK323.out 2
        have hns26_0:=NB304_323.out
        have hns26_1:=NB305_323.out
        have hms26_0:=NB323_304.out
        have hms26_1:=NB323_305.out
        have hs27 : w23.cell? ⟨gb323,3,none⟩ = some (.string (⟨#[]⟩ : ByteArray)):=(blk_cell BK323.out 3).trans rfl
        have hfs27:=blk_frozen BK323.out 3
        have hns27_0:=NB304_323.out
        have hns27_1:=NB305_323.out
        have hms27_0:=NB323_304.out
        have hms27_1:=NB323_305.out
        have hs29 : w23.cell? ⟨gb323,4,none⟩ = some (.slice none 0 0):=(blk_cell BK323.out 4).trans rfl
        have hfs29:=blk_frozen BK323.out 4
        have hns29_0:=NB304_323.out
        have hns29_1:=NB305_323.out
        have hms29_0:=NB323_304.out
        have hms29_1:=NB323_305.out
        have hs31 : w23.cell? ⟨gb323,5,none⟩ = some (.slice none 0 0):=(blk_cell BK323.out 5).trans rfl
        have hfs31:=blk_frozen BK323.out 5
        have hns31_0:=NB304_323.out
        have hns31_1:=NB305_323.out
        have hms31_0:=NB323_304.out
        have hms31_1:=NB323_305.out
        refine skip_ (w1:=?_) (by rfl) rfl ?_ ?_
        rotate_left
        ·go_simp
         rfl
        refine hK.out _ _ ⟨((cell_far (p:=⟨gb323,_,none⟩) NB304_323.out _).trans (((cell_far (p:=⟨gb323,_,none⟩) NB304_323.out _).trans (((cell_far (p:=⟨gb323,_,none⟩) NB304_323.out _).trans (((cell_far (p:=⟨gb323,_,none⟩) NB304_323.out _).trans (((cell_far (p:=⟨gb323,_,none⟩) NB304_323.out _).trans (((cell_far (p:=⟨gb323,_,none⟩) NB304_323.out _).trans (hHeld.1)))))))))))),((cell_far (p:=⟨gb323,_,none⟩) NB304_323.out _).trans (((cell_far (p:=⟨gb323,_,none⟩) NB304_323.out _).trans (((cell_far (p:=⟨gb323,_,none⟩) NB304_323.out _).trans (((cell_far (p:=⟨gb323,_,none⟩) NB304_323.out _).trans (((cell_far (p:=⟨gb323,_,none⟩) NB304_323.out _).trans (((cell_far (p:=⟨gb323,_,none⟩) NB304_323.out _).trans (hHeld.2.1)))))))))))),((cell_far (p:=⟨gb323,_,none⟩) NB304_323.out _).trans (((cell_far (p:=⟨gb323,_,none⟩) NB304_323.out _).trans (((cell_far (p:=⟨gb323,_,none⟩) NB304_323.out _).trans (((cell_far (p:=⟨gb323,_,none⟩) NB304_323.out _).trans (((cell_far (p:=⟨gb323,_,none⟩) NB304_323.out _).trans (((cell_far (p:=⟨gb323,_,none⟩) NB304_323.out _).trans (hHeld.2.2.1)))))))))))),((cell_far (p:=⟨gb323,_,none⟩) NB304_323.out _).trans (((cell_far (p:=⟨gb323,_,none⟩) NB304_323.out _).trans (((cell_far (p:=⟨gb323,_,none⟩) NB304_323.out _).trans (((cell_far (p:=⟨gb323,_,none⟩) NB304_323.out _).trans (((cell_far (p:=⟨gb323,_,none⟩) NB304_323.out _).trans (((cell_far (p:=⟨gb323,_,none⟩) NB304_323.out _).trans (hHeld.2.2.2.1)))))))))))),((cell_far (p:=⟨gb323,_,none⟩) NB304_323.out _).trans (((cell_far (p:=⟨gb323,_,none⟩) NB304_323.out _).trans (((cell_far (p:=⟨gb323,_,none⟩) NB304_323.out _).trans (((cell_far (p:=⟨gb323,_,none⟩) NB304_323.out _).trans (((cell_far (p:=⟨gb323,_,none⟩) NB304_323.out _).trans (((cell_far (p:=⟨gb323,_,none⟩) NB304_323.out _).trans (hHeld.2.2.2.2.1)))))))))))),((cell_far (p:=⟨gb323,_,none⟩) NB304_323.out _).trans (((cell_far (p:=⟨gb323,_,none⟩) NB304_323.out _).trans (((cell_far (p:=⟨gb323,_,none⟩) NB304_323.out _).trans (((cell_far (p:=⟨gb323,_,none⟩) NB304_323.out _).trans (((cell_far (p:=⟨gb323,_,none⟩) NB304_323.out _).trans (((cell_far (p:=⟨gb323,_,none⟩) NB304_323.out _).trans (hHeld.2.2.2.2.2.1)))))))))))),((cell_far (p:=⟨gb323,_,none⟩) (by first|exact Kd.own_blk (Kd.R_ne HO_7.out BK323.out (by decide))|(rw [add_block];exact Kd.own_blk (Kd.R_ne HO_7.out BK323.out (by decide)))|(show (Addr.add _ _).block ≠ _;rw [add_block];exact Kd.own_blk (Kd.R_ne HO_7.out BK323.out (by decide)))|(dsimp only;exact Kd.own_blk (Kd.R_ne HO_7.out BK323.out (by decide)))) _).trans (((cell_far (p:=⟨gb323,_,none⟩) (by first|exact Kd.own_blk (Kd.R_ne HO_7.out BK323.out (by decide))|(rw [add_block];exact Kd.own_blk (Kd.R_ne HO_7.out BK323.out (by decide)))|(show (Addr.add _ _).block ≠ _;rw [add_block];exact Kd.own_blk (Kd.R_ne HO_7.out BK323.out (by decide)))|(dsimp only;exact Kd.own_blk (Kd.R_ne HO_7.out BK323.out (by decide)))) _).trans (((cell_far (p:=⟨gb323,_,none⟩) (by first|exact Kd.own_blk (Kd.R_ne HO_7.out BK323.out (by decide))|(rw [add_block];exact Kd.own_blk (Kd.R_ne HO_7.out BK323.out (by decide)))|(show (Addr.add _ _).block ≠ _;rw [add_block];exact Kd.own_blk (Kd.R_ne HO_7.out BK323.out (by decide)))|(dsimp only;exact Kd.own_blk (Kd.R_ne HO_7.out BK323.out (by decide)))) _).trans (((cell_far (p:=⟨gb323,_,none⟩) (by first|exact Kd.own_blk (Kd.R_ne HO_7.out BK323.out (by decide))|(rw [add_block];exact Kd.own_blk (Kd.R_ne HO_7.out BK323.out (by decide)))|(show (Addr.add _ _).block ≠ _;rw [add_block];exact Kd.own_blk (Kd.R_ne HO_7.out BK323.out (by decide)))|(dsimp only;exact Kd.own_blk (Kd.R_ne HO_7.out BK323.out (by decide)))) _).trans (((cell_far (p:=⟨gb323,_,none⟩) (by first|exact Kd.own_blk (Kd.R_ne HO_7.out BK323.out (by decide))|(rw [add_block];exact Kd.own_blk (Kd.R_ne HO_7.out BK323.out (by decide)))|(show (Addr.add _ _).block ≠ _;rw [add_block];exact Kd.own_blk (Kd.R_ne HO_7.out BK323.out (by decide)))|(dsimp only;exact Kd.own_blk (Kd.R_ne HO_7.out BK323.out (by decide)))) _).trans (((cell_far (p:=⟨gb323,_,none⟩) (by first|exact Kd.own_blk (Kd.R_ne HO_7.out BK323.out (by decide))|(rw [add_block];exact Kd.own_blk (Kd.R_ne HO_7.out BK323.out (by decide)))|(show (Addr.add _ _).block ≠ _;rw [add_block];exact Kd.own_blk (Kd.R_ne HO_7.out BK323.out (by decide)))|(dsimp only;exact Kd.own_blk (Kd.R_ne HO_7.out BK323.out (by decide)))) _).trans (hHeld.2.2.2.2.2.2))))))))))))⟩ (fun hHeld=>?_)
        clear hK K
        refine pure_ (i:=11) (N:=some 11) (v:=?_) (a':=?_) #[true,true,true,true,true,true,true,true,true,true,true,true] rfl rfl (any_of HT_.out (by kernel_rfl)) (fun _ _ _ h=>h) (Or.inl ⟨by rfl,?_⟩) ?_ ?_
        rotate_left
        ·intro w'
         go_simp
         with_reducible rfl
        rotate_left
        ·simp only [Act.put,List.setIfInBounds_toArray,List.set_cons_zero,List.set_cons_succ,i64_w,i32_w]
         rfl
        refine done_ (done_of HT_.out (by kernel_rfl)) ?_
        have hnb32:=NB323_304.out
        have hnc32:=NB304_323.out
        have hnb33:=NB323_305.out
        have hnc33:=NB305_323.out
        obtain ⟨hcz34_0,hcz34_1,hcz34_2,hcz34_3,hcz34_4,hcz34_5,hfz34_0,hfz34_1,hfz34_2,hfz34_3,hfz34_4,hfz34_5⟩:=cf6_ BK323
        have hnb35:=NB304_305.out
        have hnc35:=NB305_304.out
        obtain ⟨hcz36_0,hcz36_1,hcz36_2,hcz36_3,hcz36_4,hcz36_5,hfz36_0,hfz36_1,hfz36_2,hfz36_3,hfz36_4,hfz36_5⟩:=cf6_ BK304
        try go_wp2
        go_roundg k1
        case measure=>have:=HK1.out;omega
        case rel=>exact ⟨(wrap64 (x9_1 + 1)),(t312),(t313),(t314),(t315),(t316),(t319),(x306000_1),(x306001_1),(x306002_1),(x306003_1),(.slice Ao28 t316.length co28),(.slice Ao30 t319.length co30),rr_,(by first|exact H'|(subst_vars;exact H')),⟨by have:=HK1.out;omega⟩,⟨by (with_reducible repeat (first|apply Kd.R_alloc|apply Kd.R_drewN|apply Kd.R_drew));exact Kd.R_mono (Kd.R_far (p:=⟨gb304,5,none⟩) (Kd.R_far (p:=⟨gb304,4,none⟩) (Kd.R_far (p:=⟨gb304,3,none⟩) (Kd.R_far (p:=⟨gb304,2,none⟩) (Kd.R_far (p:=⟨gb304,1,none⟩) (Kd.R_far (p:=⟨gb304,0,none⟩) (Kd.R_far (p:=⟨gb323,5,none⟩) (Kd.R_far (p:=⟨gb323,4,none⟩) (Kd.R_far (p:=⟨gb323,3,none⟩) (Kd.R_far (p:=⟨gb323,2,none⟩) (Kd.R_far (p:=⟨gb323,1,none⟩) (Kd.R_far (p:=⟨gb323,0,none⟩) (Kd.R_types (Kd.R_types HO_7.out BK323.out (by decide)) BK304.out (by decide)) (fun _ hk=>hk.1.2) (.int .i64 t312)) (fun _ hk=>hk.1.2) (.bool t313)) (fun _ hk=>hk.1.2) (.string t314)) (fun _ hk=>hk.1.2) (.string t315)) (fun _ hk=>hk.1.2) (.slice Ao28 t316.length co28)) (fun _ hk=>hk.1.2) (.slice Ao30 t319.length co30)) (fun _ hk=>hk.2) (.int .i64 t312)) (fun _ hk=>hk.2) (.bool t313)) (fun _ hk=>hk.2) (.string t314)) (fun _ hk=>hk.2) (.string t315)) (fun _ hk=>hk.2) (.slice Ao28 t316.length co28)) (fun _ hk=>hk.2) (.slice Ao30 t319.length co30)) (fun _ hk=>hk.1.1)⟩,⟨by (with_reducible repeat (first|apply Kd.V_alloc|apply Kd.V_drewN|apply Kd.V_drew));exact Kd.V_mono (vf6_ (g:=gb304) (vf6_ (g:=gb323) (Kd.V_mono (Kd.V_mono HO318.out (fun k_ hk=>(⟨hk,hk.2.2.2.2⟩ : _ ∧ k_ ≠ gb323))) (fun k_ hk=>(⟨hk,hk.1.2.2.1⟩ : _ ∧ k_ ≠ gb304))) (fun _ hk=>hk.1.2)) (fun _ hk=>hk.2)) (fun _ hk=>⟨hk.1.1.1,⟨hk.1.1.2.1,⟨hk.1.1.2.2.1,hk.1.1.2.2.2.1⟩⟩⟩)⟩,⟨by (with_reducible repeat (first|apply Kd.V_alloc|apply Kd.V_drewN|apply Kd.V_drew));exact Kd.V_mono (vf6_ (g:=gb304) (vf6_ (g:=gb323) (Kd.V_mono (Kd.V_mono HO321.out (fun k_ hk=>(⟨hk,hk.2.2.2.2⟩ : _ ∧ k_ ≠ gb323))) (fun k_ hk=>(⟨hk,hk.1.2.2.1⟩ : _ ∧ k_ ≠ gb304))) (fun _ hk=>hk.1.2)) (fun _ hk=>hk.2)) (fun _ hk=>⟨hk.1.1.1,⟨hk.1.1.2.1,⟨hk.1.1.2.2.1,hk.1.1.2.2.2.1⟩⟩⟩)⟩,⟨by (with_reducible repeat (first|refine blk_drewN ?_ _|refine blk_drew ?_|refine blk_alloc ?_ _));refine bp_ (cs:=#[.int .i64 t312,.bool t313,.string t314,.string t315,.slice Ao28 t316.length co28,.slice Ao19 x305005_1.length co19]) ?_ 5 _;refine bp_ (cs:=#[.int .i64 t312,.bool t313,.string t314,.string t315,.slice Ao18 x305004_1.length co18,.slice Ao19 x305005_1.length co19]) ?_ 4 _;refine bp_ (cs:=#[.int .i64 t312,.bool t313,.string t314,.string x305003_1,.slice Ao18 x305004_1.length co18,.slice Ao19 x305005_1.length co19]) ?_ 3 _;refine bp_ (cs:=#[.int .i64 t312,.bool t313,.string x305002_1,.string x305003_1,.slice Ao18 x305004_1.length co18,.slice Ao19 x305005_1.length co19]) ?_ 2 _;refine bp_ (cs:=#[.int .i64 t312,.bool x305001_1,.string x305002_1,.string x305003_1,.slice Ao18 x305004_1.length co18,.slice Ao19 x305005_1.length co19]) ?_ 1 _;refine bp_ (cs:=#[.int .i64 x305000_1,.bool x305001_1,.string x305002_1,.string x305003_1,.slice Ao18 x305004_1.length co18,.slice Ao19 x305005_1.length co19]) ?_ 0 _;(with_reducible repeat (first|refine blk_drewN ?_ _|refine blk_drew ?_|refine blk_alloc ?_ _));refine blk_far ?_ NB304_323.out _;(with_reducible repeat (first|refine blk_drewN ?_ _|refine blk_drew ?_|refine blk_alloc ?_ _));refine blk_far ?_ NB304_323.out _;(with_reducible repeat (first|refine blk_drewN ?_ _|refine blk_drew ?_|refine blk_alloc ?_ _));refine blk_far ?_ NB304_323.out _;(with_reducible repeat (first|refine blk_drewN ?_ _|refine blk_drew ?_|refine blk_alloc ?_ _));refine blk_far ?_ NB304_323.out _;(with_reducible repeat (first|refine blk_drewN ?_ _|refine blk_drew ?_|refine blk_alloc ?_ _));refine blk_far ?_ NB304_323.out _;(with_reducible repeat (first|refine blk_drewN ?_ _|refine blk_drew ?_|refine blk_alloc ?_ _));refine blk_far ?_ NB304_323.out _;(with_reducible repeat (first|refine blk_drewN ?_ _|refine blk_drew ?_|refine blk_alloc ?_ _));exact BK304.out⟩,⟨by (with_reducible repeat (first|refine blk_drewN ?_ _|refine blk_drew ?_|refine blk_alloc ?_ _));refine blk_far ?_ NB305_304.out _;(with_reducible repeat (first|refine blk_drewN ?_ _|refine blk_drew ?_|refine blk_alloc ?_ _));refine blk_far ?_ NB305_304.out _;(with_reducible repeat (first|refine blk_drewN ?_ _|refine blk_drew ?_|refine blk_alloc ?_ _));refine blk_far ?_ NB305_304.out _;(with_reducible repeat (first|refine blk_drewN ?_ _|refine blk_drew ?_|refine blk_alloc ?_ _));refine blk_far ?_ NB305_304.out _;(with_reducible repeat (first|refine blk_drewN ?_ _|refine blk_drew ?_|refine blk_alloc ?_ _));refine blk_far ?_ NB305_304.out _;(with_reducible repeat (first|refine blk_drewN ?_ _|refine blk_drew ?_|refine blk_alloc ?_ _));refine blk_far ?_ NB305_304.out _;(with_reducible repeat (first|refine blk_drewN ?_ _|refine blk_drew ?_|refine blk_alloc ?_ _));refine blk_far ?_ NB305_323.out _;(with_reducible repeat (first|refine blk_drewN ?_ _|refine blk_drew ?_|refine blk_alloc ?_ _));refine blk_far ?_ NB305_323.out _;(with_reducible repeat (first|refine blk_drewN ?_ _|refine blk_drew ?_|refine blk_alloc ?_ _));refine blk_far ?_ NB305_323.out _;(with_reducible repeat (first|refine blk_drewN ?_ _|refine blk_drew ?_|refine blk_alloc ?_ _));refine blk_far ?_ NB305_323.out _;(with_reducible repeat (first|refine blk_drewN ?_ _|refine blk_drew ?_|refine blk_alloc ?_ _));refine blk_far ?_ NB305_323.out _;(with_reducible repeat (first|refine blk_drewN ?_ _|refine blk_drew ?_|refine blk_alloc ?_ _));refine blk_far ?_ NB305_323.out _;(with_reducible repeat (first|refine blk_drewN ?_ _|refine blk_drew ?_|refine blk_alloc ?_ _));exact BK305.out⟩,⟨(hb_ HB)⟩⟩
       ·replace c16:=Bool.eq_false_iff.mpr c16
        subst c16
        have H1 : (some (0,false,(⟨#[]⟩ : ByteArray),(⟨#[]⟩ : ByteArray),([] : List ByteArray),([] : List (S25)),false,0)) = some (r1,r2,r3,r4,r5,r6,r7,r8):=by rw [if_neg (show ¬ (false = true) by decide)] at H;exact H
        clear H
        have H:=H1
        clear H1
        simp only [Option.some.injEq,Prod.mk.injEq] at H
        obtain ⟨rfl,rfl,rfl,rfl,rfl,rfl,rfl,rfl⟩:=H
        obtain ⟨Ao37,co37,eo37⟩:=Kd.R_slice HO_7.out
        subst eo37
        obtain ⟨Ao38,co38,eo38⟩:=Kd.V_slice HO_305004.out
        subst eo38
        obtain ⟨Ao39,co39,eo39⟩:=Kd.V_slice HO_305005.out
        subst eo39
        try go_wp2
        have n0_:=Aside0.mk (Kd.R_drew HO_7.out)
        have n1_:=Aside0.mk (Kd.V_drew HO_305004.out)
        have n2_:=Aside0.mk (Kd.V_drew HO_305005.out)
        have n3_:=Aside0.mk (blk_drew BK304.out)
        have n4_:=Aside0.mk (blk_drew BK305.out)
        have n5_:=Aside0.mk (below_drew1 HB.out)
        clear HO_7
        clear HO_305004
        clear HO_305005
        clear BK304
        clear BK305
        clear HB
        have HO_7:=n0_
        have HO_305004:=n1_
        have HO_305005:=n2_
        have BK304:=n3_
        have BK305:=n4_
        have HB:=n5_
        clear n0_ n1_ n2_ n3_ n4_ n5_
        have p311 : 0 ≤ (x9_1 : Int):=of_decide_eq_true aa_
        have q311 : x9_1 < (t307.length : Int):=of_decide_eq_true aa_
        obtain ⟨ad311,e311,hx311_0⟩:=Kd.at_string (Kd.R_reads' HO_7.out).2.2 x9_1 p311 q311
        cases e311
        replace p311:=eq_true p311
        replace q311:=eq_true q311
        refine start_ (n:=12) (S:=fun w'=>w'.cell? ⟨gb304,0,none⟩ = some (.int .i64 x305000_1) ∧ w'.cell? ⟨gb304,1,none⟩ = some (.bool x305001_1) ∧ w'.cell? ⟨gb304,2,none⟩ = some (.string x305002_1) ∧ w'.cell? ⟨gb304,3,none⟩ = some (.string x305003_1) ∧ w'.cell? ⟨gb304,4,none⟩ = some (.slice Ao38 x305004_1.length co38) ∧ w'.cell? ⟨gb304,5,none⟩ = some (.slice Ao39 x305005_1.length co39) ∧ w'.cell? (ad311.add (x9_1).toNat) = some (.string (rdOf ByteArray.empty t307 x9_1))) (ds:=[]) #[false,false,false,false,false,false,false,false,false,false,false,false] (by kernel_rfl) rfl rfl ⟨(blk_cell BK304.out 0).trans rfl,(blk_cell BK304.out 1).trans rfl,(blk_cell BK304.out 2).trans rfl,(blk_cell BK304.out 3).trans rfl,(blk_cell BK304.out 4).trans rfl,(blk_cell BK304.out 5).trans rfl,hx311_0⟩ (fun hHeld=>?_);refine with_tabW quarryref20_Find.tab9 quarryref20_Find.bits9 (fun HT_ HW_=>?_)
        generalize wr.drew = w40 at HO_7 HO_305004 HO_305005 BK304 BK305 HB hx311_0 hHeld ⊢
        refine pure_ (i:=1) (N:=some 33) (v:=?_) (a':=?_) #[false,true,false,false,false,false,false,false,false,false,false,false] rfl rfl (any_of HT_.out (by kernel_rfl)) (fun _ _ _ h=>h) (Or.inl ⟨by rfl,?_⟩) ?_ ?_
        rotate_left
        ·intro w'
         go_simp
         with_reducible rfl
        rotate_left
        ·simp only [Act.put,List.setIfInBounds_toArray,List.set_cons_zero,List.set_cons_succ,i64_w,i32_w]
         rfl
        refine pure_ (i:=2) (N:=some 34) (v:=?_) (a':=?_) #[false,true,true,false,false,false,false,false,false,false,false,false] rfl rfl (any_of HT_.out (by kernel_rfl)) (fun _ _ _ h=>h) (Or.inl ⟨by rfl,?_⟩) ?_ ?_
        rotate_left
        ·intro w'
         go_simp
         with_reducible rfl
        rotate_left
        ·simp only [Act.put,List.setIfInBounds_toArray,List.set_cons_zero,List.set_cons_succ,i64_w,i32_w]
         rfl
        refine pure_ (i:=3) (N:=some 35) (v:=?_) (a':=?_) #[false,true,true,true,false,false,false,false,false,false,false,false] rfl rfl (any_of HT_.out (by kernel_rfl)) (fun _ _ _ h=>h) (Or.inl ⟨by rfl,?_⟩) ?_ ?_
        rotate_left
        ·intro w'
         go_simp
         with_reducible rfl
        rotate_left
        ·simp only [Act.put,List.setIfInBounds_toArray,List.set_cons_zero,List.set_cons_succ,i64_w,i32_w]
         rfl
        refine take_ (i:=0) (N:=some 32) (v:=?_) (a':=?_) #[true,true,true,true,false,false,false,false,false,false,false,false] rfl rfl (take_ofW HT_.out HW_.out (by kernel_rfl)) (fun _ _ _ h=>h) (Or.inl ⟨by rfl,?_⟩) hHeld ?_ ?_
        rotate_left
        ·rintro w' ⟨s0,s1,s2,s3,s4,s5,s6⟩
         go_simp
         with_reducible rfl
        rotate_left
        ·simp only [Act.put,List.setIfInBounds_toArray,List.set_cons_zero,List.set_cons_succ,i64_w,i32_w]
         rfl
        refine take_ (i:=4) (N:=some 36) (v:=?_) (a':=?_) #[true,true,true,true,true,false,false,false,false,false,false,false] rfl rfl (take_ofW HT_.out HW_.out (by kernel_rfl)) (fun _ _ _ h=>h) (Or.inl ⟨by rfl,?_⟩) hHeld ?_ ?_
        rotate_left
        ·rintro w' ⟨s0,s1,s2,s3,s4,s5,s6⟩
         go_simp
         with_reducible rfl
        rotate_left
        ·simp only [Act.put,List.setIfInBounds_toArray,List.set_cons_zero,List.set_cons_succ,i64_w,i32_w]
         rfl
        refine join_ (σ:=Value × Value × Nat) 2 #[true,true,true,true,true,true,true,true,true,true,false,false] (fun s_=>[(37,.tuple #[.agg #[.int .i64 t312,.bool t313,.string t314,.string t315,s_.1,s_.2.1],.bool false]),(10,.pointer (some ⟨s_.2.2,0,none⟩)),(31,.tuple #[.agg #[.int .i64 t312,.bool t313,.string t314,.string t315,s_.1,s_.2.1],.bool false]),(38,.agg #[.int .i64 t312,.bool t313,.string t314,.string t315,s_.1,s_.2.1]),(39,.bool false)]) (fun s_ w'=>(w'.cell? ⟨gb304,0,none⟩ = some (.int .i64 x305000_1) ∧ w'.cell? ⟨gb304,1,none⟩ = some (.bool x305001_1) ∧ w'.cell? ⟨gb304,2,none⟩ = some (.string x305002_1) ∧ w'.cell? ⟨gb304,3,none⟩ = some (.string x305003_1) ∧ w'.cell? ⟨gb304,4,none⟩ = some (.slice Ao38 x305004_1.length co38) ∧ w'.cell? ⟨gb304,5,none⟩ = some (.slice Ao39 x305005_1.length co39) ∧ w'.cell? (ad311.add (x9_1).toNat) = some (.string (rdOf ByteArray.empty t307 x9_1))) ∧ (Kd.V Kd.string 9 w' w.heap.size (fun k_=>((P0_4_ k_ ∨ P0_5_ k_) ∨ w.heap.size ≤ k_) ∧ some k_ ≠ (.slice (some ad311) t307.length co37 : Value).ownBlock ∧ k_ ≠ gb304 ∧ k_ ≠ gb305 ∧ k_ ≠ s_.2.2) s_.1 t316) ∧ (Kd.V k25 25 w' w.heap.size (fun k_=>((P0_4_ k_ ∨ P0_5_ k_) ∨ w.heap.size ≤ k_) ∧ some k_ ≠ (.slice (some ad311) t307.length co37 : Value).ownBlock ∧ k_ ≠ gb304 ∧ k_ ≠ gb305 ∧ k_ ≠ s_.2.2) s_.2.1 t319) ∧ (Kd.V Kd.string 9 w' w.heap.size (fun k_=>((P0_4_ k_ ∨ P0_5_ k_) ∨ w.heap.size ≤ k_) ∧ some k_ ≠ (.slice (some ad311) t307.length co37 : Value).ownBlock ∧ k_ ≠ gb304 ∧ k_ ≠ gb305 ∧ k_ ≠ s_.2.2) (.slice Ao38 x305004_1.length co38) x305004_1) ∧ (Kd.V k25 25 w' w.heap.size (fun k_=>((P0_4_ k_ ∨ P0_5_ k_) ∨ w.heap.size ≤ k_) ∧ some k_ ≠ (.slice (some ad311) t307.length co37 : Value).ownBlock ∧ k_ ≠ gb304 ∧ k_ ≠ gb305 ∧ k_ ≠ s_.2.2) (.slice Ao39 x305005_1.length co39) x305005_1) ∧ (Kd.R Kd.string 9 w' w.heap.size (fun k_=>(w.heap.size ≤ k_)) (.slice (some ad311) t307.length co37) t307) ∧ (w'.heap[gb304]? = some (.cells #[.int .i64 x305000_1,.bool x305001_1,.string x305002_1,.string x305003_1,.slice Ao38 x305004_1.length co38,.slice Ao39 x305005_1.length co39] 25 (0,0))) ∧ (w'.heap[gb305]? = some (.cells #[.int .i64 x306000_1,.bool x306001_1,.string x306002_1,.string x306003_1,.slice none 0 0,.slice none 0 0] 25 (0,0))) ∧ (w'.heap[s_.2.2]? = some (.cells #[.int .i64 0,.bool false,.string (⟨#[]⟩ : ByteArray),.string (⟨#[]⟩ : ByteArray),.slice none 0 0,.slice none 0 0] 25 (0,0))) ∧ (w.heap.size ≤ s_.2.2) ∧ (w.heap.size ≤ s_.2.2) ∧ (gb304 ≠ s_.2.2) ∧ (s_.2.2 ≠ gb304) ∧ (gb305 ≠ s_.2.2) ∧ (s_.2.2 ≠ gb305) ∧ (Below w.heap.size w w')) ?_ ?_
        rotate_left
        ·intro hCont
         refine two_ (i:=5) (j:=9) (Ni:=some 37) (Nj:=some 10) #[true,true,true,true,true,true,false,false,false,false,false,false] #[true,true,true,true,true,false,false,false,false,true,false,false] rfl rfl rfl rfl (two_of HT_.out (by kernel_rfl)) (by decide) (by decide) (fun K hK=>?_) (fun K hK=>?_)
         ·skip
          refine goes_ Tryd.func33 (by kernel_rfl) rfl #[.agg #[.int .i64 x305000_1,.bool x305001_1,.string x305002_1,.string x305003_1,.slice Ao38 x305004_1.length co38,.slice Ao39 x305005_1.length co39],.string (rdOf ByteArray.empty t307 x9_1)] (by rfl) rfl rfl am_ ?_
          with_reducible refine (quarryref20_step.calls k1 x305000_1 x305001_1 x305002_1 x305003_1 _ _ x305004_1 (fun k_=>(((P0_4_ k_ ∨ P0_5_ k_) ∨ w.heap.size ≤ k_) ∧ (some k_ ≠ (.slice (some ad311) t307.length co37 : Value).ownBlock ∧ (k_ ≠ gb304 ∧ k_ ≠ gb305)))) _ _ x305005_1 (rdOf ByteArray.empty t307 x9_1) t312 t313 t314 t315 t316 t319 false _ ?side1 ?side2 ?side3 A15.out).mono ?_
          (case side1=>repeat (first|exact (Kd.V_reads' HO_305004.out).2.2|(with_reducible refine Kd.C_alloc ?_ _)|(with_reducible refine Kd.C_drewN ?_ _)|(with_reducible refine Kd.C_drew ?_)))
          (case side2=>exact (Kd.V_reads' HO_305004.out).2.1)
          (case side3=>exact HO_305005.out)
          rintro e w41 ⟨v317,v320,rfl,ho0,ho1,hb⟩
          have HS6_:=(hb.cell (World.block_lt_of_cell? _ _ (hHeld.2.2.2.2.2.2))).trans (hHeld.2.2.2.2.2.2)
          refine ⟨_,rfl,?_⟩
          have n0_:=Aside0.mk (Kd.R_below (rk_ HO_7) hb)
          have n1_:=Aside0.mk (Kd.V_below (vk_ HO_305004) hb)
          have n2_:=Aside0.mk (Kd.V_below (vk_ HO_305005) hb)
          have n3_:=Aside0.mk (Kd.V_lower (Kd.V_mono (ok':=fun k_=>((P0_4_ k_ ∨ P0_5_ k_) ∨ w.heap.size ≤ k_) ∧ some k_ ≠ (.slice (some ad311) t307.length co37 : Value).ownBlock ∧ k_ ≠ gb304 ∧ k_ ≠ gb305) ho0 (fun k_ hk_=>⟨Or.elim hk_ (fun hs_=>hs_.1) (fun hn_=>(.inr (Nat.le_trans (below_size (hb_ HB)) hn_))),Or.elim hk_ (fun hs_=>hs_.2.1) (fun hn_=>(Kd.fresh' (Kd.R_lt (rk_ HO_7)) k_ hn_)),Or.elim hk_ (fun hs_=>hs_.2.2.1) (fun hn_=>(Kd.freshB (g:=gb304) (o:=.cells #[.int .i64 x305000_1,.bool x305001_1,.string x305002_1,.string x305003_1,.slice Ao38 x305004_1.length co38,.slice Ao39 x305005_1.length co39] 25 (0,0)) (bk_ BK304) k_ hn_)),Or.elim hk_ (fun hs_=>hs_.2.2.2) (fun hn_=>(Kd.freshB (g:=gb305) (o:=.cells #[.int .i64 x306000_1,.bool x306001_1,.string x306002_1,.string x306003_1,.slice none 0 0,.slice none 0 0] 25 (0,0)) (bk_ BK305) k_ hn_))⟩)) (below_size (hb_ HB)))
          have n4_:=Aside0.mk (Kd.V_lower (Kd.V_mono (ok':=fun k_=>((P0_4_ k_ ∨ P0_5_ k_) ∨ w.heap.size ≤ k_) ∧ some k_ ≠ (.slice (some ad311) t307.length co37 : Value).ownBlock ∧ k_ ≠ gb304 ∧ k_ ≠ gb305) ho1 (fun k_ hk_=>⟨Or.elim hk_ (fun hs_=>hs_.1) (fun hn_=>(.inr (Nat.le_trans (below_size (hb_ HB)) hn_))),Or.elim hk_ (fun hs_=>hs_.2.1) (fun hn_=>(Kd.fresh' (Kd.R_lt (rk_ HO_7)) k_ hn_)),Or.elim hk_ (fun hs_=>hs_.2.2.1) (fun hn_=>(Kd.freshB (g:=gb304) (o:=.cells #[.int .i64 x305000_1,.bool x305001_1,.string x305002_1,.string x305003_1,.slice Ao38 x305004_1.length co38,.slice Ao39 x305005_1.length co39] 25 (0,0)) (bk_ BK304) k_ hn_)),Or.elim hk_ (fun hs_=>hs_.2.2.2) (fun hn_=>(Kd.freshB (g:=gb305) (o:=.cells #[.int .i64 x306000_1,.bool x306001_1,.string x306002_1,.string x306003_1,.slice none 0 0,.slice none 0 0] 25 (0,0)) (bk_ BK305) k_ hn_))⟩)) (below_size (hb_ HB)))
          have n5_:=Aside0.mk (bkb_ BK304 hb)
          have n6_:=Aside0.mk (bkb_ BK305 hb)
          have n7_:=Aside0.mk (below_step (hb_ HB) hb)
          clear HO_7
          clear HO_305004
          clear HO_305005
          clear BK304
          clear BK305
          clear HB
          have HO_7:=n0_
          have HO_305004:=n1_
          have HO_305005:=n2_
          have HO318:=n3_
          have HO321:=n4_
          have BK304:=n5_
          have BK305:=n6_
          have HB:=n7_
          clear n0_ n1_ n2_ n3_ n4_ n5_ n6_ n7_
          (try clear hb)
          (try clear hb2)
          (try clear hk)
          (try clear hi)
          (try clear ho0)
          (try clear ho1)
          refine hK.out _ _ ⟨(blk_cell BK304.out 0).trans rfl,(blk_cell BK304.out 1).trans rfl,(blk_cell BK304.out 2).trans rfl,(blk_cell BK304.out 3).trans rfl,(blk_cell BK304.out 4).trans rfl,(blk_cell BK304.out 5).trans rfl,HS6_⟩ (fun hHeld=>?_)
          clear hK K
          refine norm_ (a':=?_) ?_ ?_
          rotate_left
          ·show Act.put _ (some 37) _ = _
           simp only [Act.put,List.setIfInBounds_toArray,List.set_cons_zero,List.set_cons_succ,i64_w,i32_w]
           rfl
          refine pure_ (i:=6) (N:=some 31) (v:=?_) (a':=?_) #[true,true,true,true,true,true,true,false,false,false,false,false] rfl rfl (any_of HT_.out (by kernel_rfl)) (fun _ _ _ h=>h) (Or.inl ⟨by rfl,?_⟩) ?_ ?_
          rotate_left
          ·intro w'
           go_simp
           with_reducible rfl
          rotate_left
          ·simp only [Act.put,List.setIfInBounds_toArray,List.set_cons_zero,List.set_cons_succ,i64_w,i32_w]
           rfl
          refine pure_ (i:=7) (N:=some 38) (v:=?_) (a':=?_) #[true,true,true,true,true,true,true,true,false,false,false,false] rfl rfl (any_of HT_.out (by kernel_rfl)) (fun _ _ _ h=>h) (Or.inl ⟨by rfl,?_⟩) ?_ ?_
          rotate_left
          ·intro w'
           go_simp
           with_reducible rfl
          rotate_left
          ·simp only [Act.put,List.setIfInBounds_toArray,List.set_cons_zero,List.set_cons_succ,i64_w,i32_w]
           rfl
          refine pure_ (i:=8) (N:=some 39) (v:=?_) (a':=?_) #[true,true,true,true,true,true,true,true,true,false,false,false] rfl rfl (any_of HT_.out (by kernel_rfl)) (fun _ _ _ h=>h) (Or.inl ⟨by rfl,?_⟩) ?_ ?_
          rotate_left
          ·intro w'
           go_simp
           with_reducible rfl
          rotate_left
          ·simp only [Act.put,List.setIfInBounds_toArray,List.set_cons_zero,List.set_cons_succ,i64_w,i32_w]
           rfl
          refine one_ (i:=9) (N:=some 10) #[true,true,true,true,true,true,true,true,true,true,false,false] rfl rfl (one_of HT_.out (by kernel_rfl)) (by decide) (fun K hK=>?_)
          refine box_step ?hg (N:=10) ?hd (cs:=#[.int .i64 0,.bool false,.string (⟨#[]⟩ : ByteArray),.string (⟨#[]⟩ : ByteArray),.slice none 0 0,.slice none 0 0]) (t:=25) ?hr ?_;(case hd=>rfl);(case hg=>rfl);(case hr=>first|(go_simp;done)|(go_simp;rfl))
          intro gb323 hg w42 hbox hb
          have HS6_:=(hb.cell (World.block_lt_of_cell? _ _ (hHeld.2.2.2.2.2.2))).trans (hHeld.2.2.2.2.2.2)
          have n0_:=Aside0.mk (Kd.R_below (rk_ HO_7) hb)
          have n1_:=Aside0.mk (Kd.V_below (Kd.V_elderB (vk_ HO_305004) gb323 (Nat.le_of_eq hg.symm)) hb)
          have n2_:=Aside0.mk (Kd.V_below (Kd.V_elderB (vk_ HO_305005) gb323 (Nat.le_of_eq hg.symm)) hb)
          have n3_:=Aside0.mk (Kd.V_below (Kd.V_elderB (vk_ HO318) gb323 (Nat.le_of_eq hg.symm)) hb)
          have n4_:=Aside0.mk (Kd.V_below (Kd.V_elderB (vk_ HO321) gb323 (Nat.le_of_eq hg.symm)) hb)
          have n5_:=Aside0.mk (bkb_ BK304 hb)
          have n6_:=Aside0.mk (bkb_ BK305 hb)
          have n7_:=Aside0.mk (below_step (hb_ HB) hb)
          have n8_:=Aside0.mk (hbox)
          have n9_:=Aside0.mk (bs_ hg HB)
          have n10_:=Aside0.mk (bs_ hg HB)
          have n11_:=Aside0.mk ((by rw [hg];exact Nat.ne_of_lt (bkl_ BK304) : gb304 ≠ gb323))
          have n12_:=Aside0.mk ((by rw [hg];exact Nat.ne_of_gt (bkl_ BK304) : gb323 ≠ gb304))
          have n13_:=Aside0.mk ((by rw [hg];exact Nat.ne_of_lt (bkl_ BK305) : gb305 ≠ gb323))
          have n14_:=Aside0.mk ((by rw [hg];exact Nat.ne_of_gt (bkl_ BK305) : gb323 ≠ gb305))
          clear HO_7
          clear HO_305004
          clear HO_305005
          clear HO318
          clear HO321
          clear BK304
          clear BK305
          clear HB
          have HO_7:=n0_
          have HO_305004:=n1_
          have HO_305005:=n2_
          have HO318:=n3_
          have HO321:=n4_
          have BK304:=n5_
          have BK305:=n6_
          have HB:=n7_
          have BK323:=n8_
          have GW323:=n9_
          have GE323:=n10_
          have NB304_323:=n11_
          have NB323_304:=n12_
          have NB305_323:=n13_
          have NB323_305:=n14_
          clear n0_ n1_ n2_ n3_ n4_ n5_ n6_ n7_ n8_ n9_ n10_ n11_ n12_ n13_ n14_
          clear hb hbox hg
          refine hK.out _ _ ⟨(blk_cell BK304.out 0).trans rfl,(blk_cell BK304.out 1).trans rfl,(blk_cell BK304.out 2).trans rfl,(blk_cell BK304.out 3).trans rfl,(blk_cell BK304.out 4).trans rfl,(blk_cell BK304.out 5).trans rfl,HS6_⟩ (fun hHeld=>?_)
          clear hK K
          refine norm_ (a':=?_) ?_ ?_
          rotate_left
          ·show Act.put _ (some 10) _ = _
           simp only [Act.put,List.setIfInBounds_toArray,List.set_cons_zero,List.set_cons_succ,i64_w,i32_w]
           rfl
          exact norm_ (by simp only [putAll,Act.put,List.setIfInBounds_toArray,List.set_cons_zero,List.set_cons_succ]) (hCont (v317,v320,gb323) _ ⟨hHeld,(by (with_reducible repeat (first|apply Kd.V_alloc|apply Kd.V_drewN|apply Kd.V_drew));exact Kd.V_mono HO318.out (fun _ hk=>⟨hk.1.1,⟨hk.1.2.1,⟨hk.1.2.2.1,⟨hk.1.2.2.2,hk.2⟩⟩⟩⟩)),(by (with_reducible repeat (first|apply Kd.V_alloc|apply Kd.V_drewN|apply Kd.V_drew));exact Kd.V_mono HO321.out (fun _ hk=>⟨hk.1.1,⟨hk.1.2.1,⟨hk.1.2.2.1,⟨hk.1.2.2.2,hk.2⟩⟩⟩⟩)),(by (with_reducible repeat (first|apply Kd.V_alloc|apply Kd.V_drewN|apply Kd.V_drew));exact Kd.V_mono HO_305004.out (fun _ hk=>⟨hk.1.1,⟨hk.1.2.1,⟨hk.1.2.2.1,⟨hk.1.2.2.2,hk.2⟩⟩⟩⟩)),(by (with_reducible repeat (first|apply Kd.V_alloc|apply Kd.V_drewN|apply Kd.V_drew));exact Kd.V_mono HO_305005.out (fun _ hk=>⟨hk.1.1,⟨hk.1.2.1,⟨hk.1.2.2.1,⟨hk.1.2.2.2,hk.2⟩⟩⟩⟩)),(rk_ HO_7),(bk_ BK304),(bk_ BK305),(bk_ BK323),GW323.out,GE323.out,NB304_323.out,NB323_304.out,NB305_323.out,NB323_305.out,(hb_ HB)⟩)
         ·skip
          refine box_step ?hg (N:=10) ?hd (cs:=#[.int .i64 0,.bool false,.string (⟨#[]⟩ : ByteArray),.string (⟨#[]⟩ : ByteArray),.slice none 0 0,.slice none 0 0]) (t:=25) ?hr ?_;(case hd=>rfl);(case hg=>rfl);(case hr=>first|(go_simp;done)|(go_simp;rfl))
          intro gb323 hg w41 hbox hb
          have HS6_:=(hb.cell (World.block_lt_of_cell? _ _ (hHeld.2.2.2.2.2.2))).trans (hHeld.2.2.2.2.2.2)
          have n0_:=Aside0.mk (Kd.R_below (rk_ HO_7) hb)
          have n1_:=Aside0.mk (Kd.V_below (Kd.V_elderB (vk_ HO_305004) gb323 (Nat.le_of_eq hg.symm)) hb)
          have n2_:=Aside0.mk (Kd.V_below (Kd.V_elderB (vk_ HO_305005) gb323 (Nat.le_of_eq hg.symm)) hb)
          have n3_:=Aside0.mk (bkb_ BK304 hb)
          have n4_:=Aside0.mk (bkb_ BK305 hb)
          have n5_:=Aside0.mk (below_step (hb_ HB) hb)
          have n6_:=Aside0.mk (hbox)
          have n7_:=Aside0.mk (bs_ hg HB)
          have n8_:=Aside0.mk (bs_ hg HB)
          have n9_:=Aside0.mk ((by rw [hg];exact Nat.ne_of_lt (bkl_ BK304) : gb304 ≠ gb323))
          have n10_:=Aside0.mk ((by rw [hg];exact Nat.ne_of_gt (bkl_ BK304) : gb323 ≠ gb304))
          have n11_:=Aside0.mk ((by rw [hg];exact Nat.ne_of_lt (bkl_ BK305) : gb305 ≠ gb323))
          have n12_:=Aside0.mk ((by rw [hg];exact Nat.ne_of_gt (bkl_ BK305) : gb323 ≠ gb305))
          clear HO_7
          clear HO_305004
          clear HO_305005
          clear BK304
          clear BK305
          clear HB
          have HO_7:=n0_
          have HO_305004:=n1_
          have HO_305005:=n2_
          have BK304:=n3_
          have BK305:=n4_
          have HB:=n5_
          have BK323:=n6_
          have GW323:=n7_
          have GE323:=n8_
          have NB304_323:=n9_
          have NB323_304:=n10_
          have NB305_323:=n11_
          have NB323_305:=n12_
          clear n0_ n1_ n2_ n3_ n4_ n5_ n6_ n7_ n8_ n9_ n10_ n11_ n12_
          clear hb hbox hg
          refine hK.out _ _ ⟨(blk_cell BK304.out 0).trans rfl,(blk_cell BK304.out 1).trans rfl,(blk_cell BK304.out 2).trans rfl,(blk_cell BK304.out 3).trans rfl,(blk_cell BK304.out 4).trans rfl,(blk_cell BK304.out 5).trans rfl,HS6_⟩ (fun hHeld=>?_)
          clear hK K
          refine norm_ (a':=?_) ?_ ?_
          rotate_left
          ·show Act.put _ (some 10) _ = _
           simp only [Act.put,List.setIfInBounds_toArray,List.set_cons_zero,List.set_cons_succ,i64_w,i32_w]
           rfl
          refine one_ (i:=5) (N:=some 37) #[true,true,true,true,true,true,false,false,false,true,false,false] rfl rfl (one_of HT_.out (by kernel_rfl)) (by decide) (fun K hK=>?_)
          refine goes_ Tryd.func33 (by kernel_rfl) rfl #[.agg #[.int .i64 x305000_1,.bool x305001_1,.string x305002_1,.string x305003_1,.slice Ao38 x305004_1.length co38,.slice Ao39 x305005_1.length co39],.string (rdOf ByteArray.empty t307 x9_1)] (by rfl) rfl rfl am_ ?_
          with_reducible refine (quarryref20_step.calls k1 x305000_1 x305001_1 x305002_1 x305003_1 _ _ x305004_1 (fun k_=>((((P0_4_ k_ ∨ P0_5_ k_) ∨ w.heap.size ≤ k_) ∧ (some k_ ≠ (.slice (some ad311) t307.length co37 : Value).ownBlock ∧ (k_ ≠ gb304 ∧ k_ ≠ gb305))) ∧ k_ ≠ gb323)) _ _ x305005_1 (rdOf ByteArray.empty t307 x9_1) t312 t313 t314 t315 t316 t319 false _ ?side1 ?side2 ?side3 A15.out).mono ?_
          (case side1=>repeat (first|exact (Kd.V_reads' HO_305004.out).2.2|(with_reducible refine Kd.C_alloc ?_ _)|(with_reducible refine Kd.C_drewN ?_ _)|(with_reducible refine Kd.C_drew ?_)))
          (case side2=>exact (Kd.V_reads' HO_305004.out).2.1)
          (case side3=>exact HO_305005.out)
          rintro e w42 ⟨v317,v320,rfl,ho0,ho1,hb⟩
          have HS6_:=(hb.cell (World.block_lt_of_cell? _ _ (hHeld.2.2.2.2.2.2))).trans (hHeld.2.2.2.2.2.2)
          refine ⟨_,rfl,?_⟩
          have n0_:=Aside0.mk (Kd.R_below (rk_ HO_7) hb)
          have n1_:=Aside0.mk (Kd.V_below (vk_ HO_305004) hb)
          have n2_:=Aside0.mk (Kd.V_below (vk_ HO_305005) hb)
          have n3_:=Aside0.mk (Kd.V_lower (Kd.V_mono (ok':=fun k_=>((P0_4_ k_ ∨ P0_5_ k_) ∨ w.heap.size ≤ k_) ∧ some k_ ≠ (.slice (some ad311) t307.length co37 : Value).ownBlock ∧ k_ ≠ gb304 ∧ k_ ≠ gb305 ∧ k_ ≠ gb323) ho0 (fun k_ hk_=>⟨Or.elim hk_ (fun hs_=>hs_.1.1) (fun hn_=>(.inr (Nat.le_trans (below_size (hb_ HB)) hn_))),Or.elim hk_ (fun hs_=>hs_.1.2.1) (fun hn_=>(Kd.fresh' (Kd.R_lt (rk_ HO_7)) k_ hn_)),Or.elim hk_ (fun hs_=>hs_.1.2.2.1) (fun hn_=>(Kd.freshB (g:=gb304) (o:=.cells #[.int .i64 x305000_1,.bool x305001_1,.string x305002_1,.string x305003_1,.slice Ao38 x305004_1.length co38,.slice Ao39 x305005_1.length co39] 25 (0,0)) (bk_ BK304) k_ hn_)),Or.elim hk_ (fun hs_=>hs_.1.2.2.2) (fun hn_=>(Kd.freshB (g:=gb305) (o:=.cells #[.int .i64 x306000_1,.bool x306001_1,.string x306002_1,.string x306003_1,.slice none 0 0,.slice none 0 0] 25 (0,0)) (bk_ BK305) k_ hn_)),Or.elim hk_ (fun hs_=>hs_.2) (fun hn_=>(Kd.freshB (g:=gb323) (o:=.cells #[.int .i64 0,.bool false,.string (⟨#[]⟩ : ByteArray),.string (⟨#[]⟩ : ByteArray),.slice none 0 0,.slice none 0 0] 25 (0,0)) (bk_ BK323) k_ hn_))⟩)) (below_size (hb_ HB)))
          have n4_:=Aside0.mk (Kd.V_lower (Kd.V_mono (ok':=fun k_=>((P0_4_ k_ ∨ P0_5_ k_) ∨ w.heap.size ≤ k_) ∧ some k_ ≠ (.slice (some ad311) t307.length co37 : Value).ownBlock ∧ k_ ≠ gb304 ∧ k_ ≠ gb305 ∧ k_ ≠ gb323) ho1 (fun k_ hk_=>⟨Or.elim hk_ (fun hs_=>hs_.1.1) (fun hn_=>(.inr (Nat.le_trans (below_size (hb_ HB)) hn_))),Or.elim hk_ (fun hs_=>hs_.1.2.1) (fun hn_=>(Kd.fresh' (Kd.R_lt (rk_ HO_7)) k_ hn_)),Or.elim hk_ (fun hs_=>hs_.1.2.2.1) (fun hn_=>(Kd.freshB (g:=gb304) (o:=.cells #[.int .i64 x305000_1,.bool x305001_1,.string x305002_1,.string x305003_1,.slice Ao38 x305004_1.length co38,.slice Ao39 x305005_1.length co39] 25 (0,0)) (bk_ BK304) k_ hn_)),Or.elim hk_ (fun hs_=>hs_.1.2.2.2) (fun hn_=>(Kd.freshB (g:=gb305) (o:=.cells #[.int .i64 x306000_1,.bool x306001_1,.string x306002_1,.string x306003_1,.slice none 0 0,.slice none 0 0] 25 (0,0)) (bk_ BK305) k_ hn_)),Or.elim hk_ (fun hs_=>hs_.2) (fun hn_=>(Kd.freshB (g:=gb323) (o:=.cells #[.int .i64 0,.bool false,.string (⟨#[]⟩ : ByteArray),.string (⟨#[]⟩ : ByteArray),.slice none 0 0,.slice none 0 0] 25 (0,0)) (bk_ BK323) k_ hn_))⟩)) (below_size (hb_ HB)))
          have n5_:=Aside0.mk (bkb_ BK304 hb)
          have n6_:=Aside0.mk (bkb_ BK305 hb)
          have n7_:=Aside0.mk (bkb_ BK323 hb)
          have n8_:=Aside0.mk (below_step (hb_ HB) hb)
          clear HO_7
          clear HO_305004
          clear HO_305005
          clear BK304
          clear BK305
          clear BK323
          clear HB
          have HO_7:=n0_
          have HO_305004:=n1_
          have HO_305005:=n2_
          have HO318:=n3_
          have HO321:=n4_
          have BK304:=n5_
          have BK305:=n6_
          have BK323:=n7_
          have HB:=n8_
          clear n0_ n1_ n2_ n3_ n4_ n5_ n6_ n7_ n8_
          (try clear hb)
          (try clear hb2)
          (try clear hk)
          (try clear hi)
          (try clear ho0)
          (try clear ho1)
          refine hK.out _ _ ⟨(blk_cell BK304.out 0).trans rfl,(blk_cell BK304.out 1).trans rfl,(blk_cell BK304.out 2).trans rfl,(blk_cell BK304.out 3).trans rfl,(blk_cell BK304.out 4).trans rfl,(blk_cell BK304.out 5).trans rfl,HS6_⟩ (fun hHeld=>?_)
          clear hK K
          refine norm_ (a':=?_) ?_ ?_
          rotate_left
          ·show Act.put _ (some 37) _ = _
           simp only [Act.put,List.setIfInBounds_toArray,List.set_cons_zero,List.set_cons_succ,i64_w,i32_w]
           rfl
          refine pure_ (i:=6) (N:=some 31) (v:=?_) (a':=?_) #[true,true,true,true,true,true,true,false,false,true,false,false] rfl rfl (any_of HT_.out (by kernel_rfl)) (fun _ _ _ h=>h) (Or.inl ⟨by rfl,?_⟩) ?_ ?_
          rotate_left
          ·intro w'
           go_simp
           with_reducible rfl
          rotate_left
          ·simp only [Act.put,List.setIfInBounds_toArray,List.set_cons_zero,List.set_cons_succ,i64_w,i32_w]
           rfl
          refine pure_ (i:=7) (N:=some 38) (v:=?_) (a':=?_) #[true,true,true,true,true,true,true,true,false,true,false,false] rfl rfl (any_of HT_.out (by kernel_rfl)) (fun _ _ _ h=>h) (Or.inl ⟨by rfl,?_⟩) ?_ ?_
          rotate_left
          ·intro w'
           go_simp
           with_reducible rfl
          rotate_left
          ·simp only [Act.put,List.setIfInBounds_toArray,List.set_cons_zero,List.set_cons_succ,i64_w,i32_w]
           rfl
          refine pure_ (i:=8) (N:=some 39) (v:=?_) (a':=?_) #[true,true,true,true,true,true,true,true,true,true,false,false] rfl rfl (any_of HT_.out (by kernel_rfl)) (fun _ _ _ h=>h) (Or.inl ⟨by rfl,?_⟩) ?_ ?_
          rotate_left
          ·intro w'
           go_simp
           with_reducible rfl
          rotate_left
          ·simp only [Act.put,List.setIfInBounds_toArray,List.set_cons_zero,List.set_cons_succ,i64_w,i32_w]
           rfl
          exact norm_ (by simp only [putAll,Act.put,List.setIfInBounds_toArray,List.set_cons_zero,List.set_cons_succ]) (hCont (v317,v320,gb323) _ ⟨hHeld,(vk_ HO318),(vk_ HO321),(by (with_reducible repeat (first|apply Kd.V_alloc|apply Kd.V_drewN|apply Kd.V_drew));exact Kd.V_mono HO_305004.out (fun _ hk=>⟨hk.1.1,⟨hk.1.2.1,⟨hk.1.2.2.1,⟨hk.1.2.2.2,hk.2⟩⟩⟩⟩)),(by (with_reducible repeat (first|apply Kd.V_alloc|apply Kd.V_drewN|apply Kd.V_drew));exact Kd.V_mono HO_305005.out (fun _ hk=>⟨hk.1.1,⟨hk.1.2.1,⟨hk.1.2.2.1,⟨hk.1.2.2.2,hk.2⟩⟩⟩⟩)),(rk_ HO_7),(bk_ BK304),(bk_ BK305),(bk_ BK323),GW323.out,GE323.out,NB304_323.out,NB323_304.out,NB305_323.out,NB323_305.out,(hb_ HB)⟩)
        rintro ⟨v317,v320,gb323⟩ w43 ⟨hS_,h0_,h1_,h2_,h3_,h4_,h5_,h6_,h7_,h8_,h9_,h10_,h11_,h12_,h13_,h14_⟩
        have n0_ : Aside0 (Kd.V Kd.string 9 w43 w.heap.size (fun k_=>((P0_4_ k_ ∨ P0_5_ k_) ∨ w.heap.size ≤ k_) ∧ some k_ ≠ (.slice (some ad311) t307.length co37 : Value).ownBlock ∧ k_ ≠ gb304 ∧ k_ ≠ gb305 ∧ k_ ≠ gb323) v317 t316):=⟨h0_⟩
        have n1_ : Aside0 (Kd.V k25 25 w43 w.heap.size (fun k_=>((P0_4_ k_ ∨ P0_5_ k_) ∨ w.heap.size ≤ k_) ∧ some k_ ≠ (.slice (some ad311) t307.length co37 : Value).ownBlock ∧ k_ ≠ gb304 ∧ k_ ≠ gb305 ∧ k_ ≠ gb323) v320 t319):=⟨h1_⟩
        have n2_ : Aside0 (Kd.V Kd.string 9 w43 w.heap.size (fun k_=>((P0_4_ k_ ∨ P0_5_ k_) ∨ w.heap.size ≤ k_) ∧ some k_ ≠ (.slice (some ad311) t307.length co37 : Value).ownBlock ∧ k_ ≠ gb304 ∧ k_ ≠ gb305 ∧ k_ ≠ gb323) (.slice Ao38 x305004_1.length co38) x305004_1):=⟨h2_⟩
        have n3_ : Aside0 (Kd.V k25 25 w43 w.heap.size (fun k_=>((P0_4_ k_ ∨ P0_5_ k_) ∨ w.heap.size ≤ k_) ∧ some k_ ≠ (.slice (some ad311) t307.length co37 : Value).ownBlock ∧ k_ ≠ gb304 ∧ k_ ≠ gb305 ∧ k_ ≠ gb323) (.slice Ao39 x305005_1.length co39) x305005_1):=⟨h3_⟩
        have n4_ : Aside0 (Kd.R Kd.string 9 w43 w.heap.size (fun k_=>(w.heap.size ≤ k_)) (.slice (some ad311) t307.length co37) t307):=⟨h4_⟩
        have n5_ : Aside0 (w43.heap[gb304]? = some (.cells #[.int .i64 x305000_1,.bool x305001_1,.string x305002_1,.string x305003_1,.slice Ao38 x305004_1.length co38,.slice Ao39 x305005_1.length co39] 25 (0,0))):=⟨h5_⟩
        have n6_ : Aside0 (w43.heap[gb305]? = some (.cells #[.int .i64 x306000_1,.bool x306001_1,.string x306002_1,.string x306003_1,.slice none 0 0,.slice none 0 0] 25 (0,0))):=⟨h6_⟩
        have n7_ : Aside0 (w43.heap[gb323]? = some (.cells #[.int .i64 0,.bool false,.string (⟨#[]⟩ : ByteArray),.string (⟨#[]⟩ : ByteArray),.slice none 0 0,.slice none 0 0] 25 (0,0))):=⟨h7_⟩
        have n8_ : Aside0 (w.heap.size ≤ gb323):=⟨h8_⟩
        have n9_ : Aside0 (w.heap.size ≤ gb323):=⟨h9_⟩
        have n10_ : Aside0 (gb304 ≠ gb323):=⟨h10_⟩
        have n11_ : Aside0 (gb323 ≠ gb304):=⟨h11_⟩
        have n12_ : Aside0 (gb305 ≠ gb323):=⟨h12_⟩
        have n13_ : Aside0 (gb323 ≠ gb305):=⟨h13_⟩
        have n14_ : Aside0 (Below w.heap.size w w43):=⟨h14_⟩
        clear HO_7
        clear HO_305004
        clear HO_305005
        clear BK304
        clear BK305
        clear HB
        clear h0_ h1_ h2_ h3_ h4_ h5_ h6_ h7_ h8_ h9_ h10_ h11_ h12_ h13_ h14_
        have HO318:=n0_
        have HO321:=n1_
        have HO_305004:=n2_
        have HO_305005:=n3_
        have HO_7:=n4_
        have BK304:=n5_
        have BK305:=n6_
        have BK323:=n7_
        have GW323:=n8_
        have GE323:=n9_
        have NB304_323:=n10_
        have NB323_304:=n11_
        have NB305_323:=n12_
        have NB323_305:=n13_
        have HB:=n14_
        clear n0_ n1_ n2_ n3_ n4_ n5_ n6_ n7_ n8_ n9_ n10_ n11_ n12_ n13_ n14_
        have hHeld : w43.cell? ⟨gb304,0,none⟩ = some (.int .i64 x305000_1) ∧ w43.cell? ⟨gb304,1,none⟩ = some (.bool x305001_1) ∧ w43.cell? ⟨gb304,2,none⟩ = some (.string x305002_1) ∧ w43.cell? ⟨gb304,3,none⟩ = some (.string x305003_1) ∧ w43.cell? ⟨gb304,4,none⟩ = some (.slice Ao38 x305004_1.length co38) ∧ w43.cell? ⟨gb304,5,none⟩ = some (.slice Ao39 x305005_1.length co39) ∧ w43.cell? (ad311.add (x9_1).toNat) = some (.string (rdOf ByteArray.empty t307 x9_1)):=hS_
        obtain ⟨Ao48,co48,eo48⟩:=Kd.V_slice HO318.out
        (first|subst eo48|(injection eo48 with f1_ f2_ f3_;have f4_:=f1_.symm;have f5_:=f3_.symm;clear f1_ f2_ f3_;subst f4_;subst f5_))
        obtain ⟨Ao50,co50,eo50⟩:=Kd.V_slice HO321.out
        (first|subst eo50|(injection eo50 with f1_ f2_ f3_;have f4_:=f1_.symm;have f5_:=f3_.symm;clear f1_ f2_ f3_;subst f4_;subst f5_))
        refine norm_ (a':=?_) ?_ ?_
        rotate_left
        ·simp only [putAll,Act.put,List.setIfInBounds_toArray,List.set_cons_zero,List.set_cons_succ]
         rfl
        refine one_ (i:=10) (N:=none) #[true,true,true,true,true,true,true,true,true,true,true,false] rfl rfl (one_of HT_.out (by kernel_rfl)) (by decide) (fun K hK=>?_)
        have hs44 : w43.cell? ⟨gb323,0,none⟩ = some (.int .i64 0):=(blk_cell BK323.out 0).trans rfl
        have hfs44:=blk_frozen BK323.out 0
        have hns44_0:=NB304_323.out
        have hns44_1:=NB305_323.out
        have hms44_0:=NB323_304.out
        have hms44_1:=NB323_305.out
        have hs45 : w43.cell? ⟨gb323,1,none⟩ = some (.bool false):=(blk_cell BK323.out 1).trans rfl
        have hfs45:=blk_frozen BK323.out 1
        have hns45_0:=NB304_323.out
        have hns45_1:=NB305_323.out
        have hms45_0:=NB323_304.out
        have hms45_1:=NB323_305.out
        have hs46 : w43.cell? ⟨gb323,2,none⟩ = some (.string (⟨#[]⟩ : ByteArray)):=(blk_cell BK323.out 2).trans rfl
        have hfs46:=blk_frozen BK323.out 2
        have hns46_0:=NB304_323.out
        have hns46_1:=NB305_323.out
        have hms46_0:=NB323_304.out
        have hms46_1:=NB323_305.out
        have hs47 : w43.cell? ⟨gb323,3,none⟩ = some (.string (⟨#[]⟩ : ByteArray)):=(blk_cell BK323.out 3).trans rfl
        have hfs47:=blk_frozen BK323.out 3
        have hns47_0:=NB304_323.out
        have hns47_1:=NB305_323.out
        have hms47_0:=NB323_304.out
        have hms47_1:=NB323_305.out
        have hs49 : w43.cell? ⟨gb323,4,none⟩ = some (.slice none 0 0):=(blk_cell BK323.out 4).trans rfl
        have hfs49:=blk_frozen BK323.out 4
        have hns49_0:=NB304_323.out
        have hns49_1:=NB305_323.out
        have hms49_0:=NB323_304.out
        have hms49_1:=NB323_305.out
        have hs51 : w43.cell? ⟨gb323,5,none⟩ = some (.slice none 0 0):=(blk_cell BK323.out 5).trans rfl
        have hfs51:=blk_frozen BK323.out 5
        have hns51_0:=NB304_323.out
        have hns51_1:=NB305_323.out
        have hms51_0:=NB323_304.out
        have hms51_1:=NB323_305.out
        refine skip_ (w1:=?_) (by rfl) rfl ?_ ?_
        rotate_left
        ·go_simp
         rfl
        refine hK.out _ _ ⟨((cell_far (p:=⟨gb323,_,none⟩) NB304_323.out _).trans (((cell_far (p:=⟨gb323,_,none⟩) NB304_323.out _).trans (((cell_far (p:=⟨gb323,_,none⟩) NB304_323.out _).trans (((cell_far (p:=⟨gb323,_,none⟩) NB304_323.out _).trans (((cell_far (p:=⟨gb323,_,none⟩) NB304_323.out _).trans (((cell_far (p:=⟨gb323,_,none⟩) NB304_323.out _).trans (hHeld.1)))))))))))),((cell_far (p:=⟨gb323,_,none⟩) NB304_323.out _).trans (((cell_far (p:=⟨gb323,_,none⟩) NB304_323.out _).trans (((cell_far (p:=⟨gb323,_,none⟩) NB304_323.out _).trans (((cell_far (p:=⟨gb323,_,none⟩) NB304_323.out _).trans (((cell_far (p:=⟨gb323,_,none⟩) NB304_323.out _).trans (((cell_far (p:=⟨gb323,_,none⟩) NB304_323.out _).trans (hHeld.2.1)))))))))))),((cell_far (p:=⟨gb323,_,none⟩) NB304_323.out _).trans (((cell_far (p:=⟨gb323,_,none⟩) NB304_323.out _).trans (((cell_far (p:=⟨gb323,_,none⟩) NB304_323.out _).trans (((cell_far (p:=⟨gb323,_,none⟩) NB304_323.out _).trans (((cell_far (p:=⟨gb323,_,none⟩) NB304_323.out _).trans (((cell_far (p:=⟨gb323,_,none⟩) NB304_323.out _).trans (hHeld.2.2.1)))))))))))),((cell_far (p:=⟨gb323,_,none⟩) NB304_323.out _).trans (((cell_far (p:=⟨gb323,_,none⟩) NB304_323.out _).trans (((cell_far (p:=⟨gb323,_,none⟩) NB304_323.out _).trans (((cell_far (p:=⟨gb323,_,none⟩) NB304_323.out _).trans (((cell_far (p:=⟨gb323,_,none⟩) NB304_323.out _).trans (((cell_far (p:=⟨gb323,_,none⟩) NB304_323.out _).trans (hHeld.2.2.2.1)))))))))))),((cell_far (p:=⟨gb323,_,none⟩) NB304_323.out _).trans (((cell_far (p:=⟨gb323,_,none⟩) NB304_323.out _).trans (((cell_far (p:=⟨gb323,_,none⟩) NB304_323.out _).trans (((cell_far (p:=⟨gb323,_,none⟩) NB304_323.out _).trans (((cell_far (p:=⟨gb323,_,none⟩) NB304_323.out _).trans (((cell_far (p:=⟨gb323,_,none⟩) NB304_323.out _).trans (hHeld.2.2.2.2.1)))))))))))),((cell_far (p:=⟨gb323,_,none⟩) NB304_323.out _).trans (((cell_far (p:=⟨gb323,_,none⟩) NB304_323.out _).trans (((cell_far (p:=⟨gb323,_,none⟩) NB304_323.out _).trans (((cell_far (p:=⟨gb323,_,none⟩) NB304_323.out _).trans (((cell_far (p:=⟨gb323,_,none⟩) NB304_323.out _).trans (((cell_far (p:=⟨gb323,_,none⟩) NB304_323.out _).trans (hHeld.2.2.2.2.2.1)))))))))))),((cell_far (p:=⟨gb323,_,none⟩) (by first|exact Kd.own_blk (Kd.R_ne HO_7.out BK323.out (by decide))|(rw [add_block];exact Kd.own_blk (Kd.R_ne HO_7.out BK323.out (by decide)))|(show (Addr.add _ _).block ≠ _;rw [add_block];exact Kd.own_blk (Kd.R_ne HO_7.out BK323.out (by decide)))|(dsimp only;exact Kd.own_blk (Kd.R_ne HO_7.out BK323.out (by decide)))) _).trans (((cell_far (p:=⟨gb323,_,none⟩) (by first|exact Kd.own_blk (Kd.R_ne HO_7.out BK323.out (by decide))|(rw [add_block];exact Kd.own_blk (Kd.R_ne HO_7.out BK323.out (by decide)))|(show (Addr.add _ _).block ≠ _;rw [add_block];exact Kd.own_blk (Kd.R_ne HO_7.out BK323.out (by decide)))|(dsimp only;exact Kd.own_blk (Kd.R_ne HO_7.out BK323.out (by decide)))) _).trans (((cell_far (p:=⟨gb323,_,none⟩) (by first|exact Kd.own_blk (Kd.R_ne HO_7.out BK323.out (by decide))|(rw [add_block];exact Kd.own_blk (Kd.R_ne HO_7.out BK323.out (by decide)))|(show (Addr.add _ _).block ≠ _;rw [add_block];exact Kd.own_blk (Kd.R_ne HO_7.out BK323.out (by decide)))|(dsimp only;exact Kd.own_blk (Kd.R_ne HO_7.out BK323.out (by decide)))) _).trans (((cell_far (p:=⟨gb323,_,none⟩) (by first|exact Kd.own_blk (Kd.R_ne HO_7.out BK323.out (by decide))|(rw [add_block];exact Kd.own_blk (Kd.R_ne HO_7.out BK323.out (by decide)))|(show (Addr.add _ _).block ≠ _;rw [add_block];exact Kd.own_blk (Kd.R_ne HO_7.out BK323.out (by decide)))|(dsimp only;exact Kd.own_blk (Kd.R_ne HO_7.out BK323.out (by decide)))) _).trans (((cell_far (p:=⟨gb323,_,none⟩) (by first|exact Kd.own_blk (Kd.R_ne HO_7.out BK323.out (by decide))|(rw [add_block];exact Kd.own_blk (Kd.R_ne HO_7.out BK323.out (by decide)))|(show (Addr.add _ _).block ≠ _;rw [add_block];exact Kd.own_blk (Kd.R_ne HO_7.out BK323.out (by decide)))|(dsimp only;exact Kd.own_blk (Kd.R_ne HO_7.out BK323.out (by decide)))) _).trans (((cell_far (p:=⟨gb323,_,none⟩) (by first|exact Kd.own_blk (Kd.R_ne HO_7.out BK323.out (by decide))|(rw [add_block];exact Kd.own_blk (Kd.R_ne HO_7.out BK323.out (by decide)))|(show (Addr.add _ _).block ≠ _;rw [add_block];exact Kd.own_blk (Kd.R_ne HO_7.out BK323.out (by decide)))|(dsimp only;exact Kd.own_blk (Kd.R_ne HO_7.out BK323.out (by decide)))) _).trans (hHeld.2.2.2.2.2.2))))))))))))⟩ (fun hHeld=>?_)
        clear hK K
        refine pure_ (i:=11) (N:=some 11) (v:=?_) (a':=?_) #[true,true,true,true,true,true,true,true,true,true,true,true] rfl rfl (any_of HT_.out (by kernel_rfl)) (fun _ _ _ h=>h) (Or.inl ⟨by rfl,?_⟩) ?_ ?_
        rotate_left
        ·intro w'
         go_simp
         with_reducible rfl
        rotate_left
        ·simp only [Act.put,List.setIfInBounds_toArray,List.set_cons_zero,List.set_cons_succ,i64_w,i32_w]
         rfl
        refine done_ (done_of HT_.out (by kernel_rfl)) ?_
        have hnb52:=NB305_304.out
        have hnc52:=NB304_305.out
        have hnb53:=NB305_323.out
        have hnc53:=NB323_305.out
        obtain ⟨hcz54_0,hcz54_1,hcz54_2,hcz54_3,hcz54_4,hcz54_5,hfz54_0,hfz54_1,hfz54_2,hfz54_3,hfz54_4,hfz54_5⟩:=cf6_ BK305
        try go_wp2
        refine bodyPost_ret (results_ctt rfl _ _ gb305 25 #[.int .i64 0,.bool false,.string (⟨#[]⟩ : ByteArray),.string (⟨#[]⟩ : ByteArray),.slice none 0 0,.slice none 0 0] (0,0) _ rfl (by (with_reducible repeat (first|refine blk_drewN ?_ _|refine blk_drew ?_|refine blk_alloc ?_ _));refine bp_ (cs:=#[.int .i64 0,.bool false,.string (⟨#[]⟩ : ByteArray),.string (⟨#[]⟩ : ByteArray),.slice none 0 0,.slice none 0 0]) ?_ 5 _;refine bp_ (cs:=#[.int .i64 0,.bool false,.string (⟨#[]⟩ : ByteArray),.string (⟨#[]⟩ : ByteArray),.slice none 0 0,.slice none 0 0]) ?_ 4 _;refine bp_ (cs:=#[.int .i64 0,.bool false,.string (⟨#[]⟩ : ByteArray),.string x306003_1,.slice none 0 0,.slice none 0 0]) ?_ 3 _;refine bp_ (cs:=#[.int .i64 0,.bool false,.string x306002_1,.string x306003_1,.slice none 0 0,.slice none 0 0]) ?_ 2 _;refine bp_ (cs:=#[.int .i64 0,.bool x306001_1,.string x306002_1,.string x306003_1,.slice none 0 0,.slice none 0 0]) ?_ 1 _;refine bp_ (cs:=#[.int .i64 x306000_1,.bool x306001_1,.string x306002_1,.string x306003_1,.slice none 0 0,.slice none 0 0]) ?_ 0 _;(with_reducible repeat (first|refine blk_drewN ?_ _|refine blk_drew ?_|refine blk_alloc ?_ _));refine blk_far ?_ NB305_323.out _;(with_reducible repeat (first|refine blk_drewN ?_ _|refine blk_drew ?_|refine blk_alloc ?_ _));refine blk_far ?_ NB305_323.out _;(with_reducible repeat (first|refine blk_drewN ?_ _|refine blk_drew ?_|refine blk_alloc ?_ _));refine blk_far ?_ NB305_323.out _;(with_reducible repeat (first|refine blk_drewN ?_ _|refine blk_drew ?_|refine blk_alloc ?_ _));refine blk_far ?_ NB305_323.out _;(with_reducible repeat (first|refine blk_drewN ?_ _|refine blk_drew ?_|refine blk_alloc ?_ _));refine blk_far ?_ NB305_323.out _;(with_reducible repeat (first|refine blk_drewN ?_ _|refine blk_drew ?_|refine blk_alloc ?_ _));refine blk_far ?_ NB305_323.out _;(with_reducible repeat (first|refine blk_drewN ?_ _|refine blk_drew ?_|refine blk_alloc ?_ _));exact BK305.out) Tryd.underlying25 rfl (by kernel_rfl)) rfl ?_
        exact ⟨_,_,er_,Kd.V_nil _ _ _ _ _,Kd.V_nil _ _ _ _ _,(hb_ HB)⟩
      ·rw [if_neg c14] at H
       exact absurd H (by simp)
     ·rw [if_neg c13] at H
      have c13b0 : decide (x9_1 < (t307.length : Int)) = false:=decide_eq_false c13
      clear c13
      simp only [Option.some.injEq,Prod.mk.injEq] at H
      obtain ⟨rfl,rfl,rfl,rfl,rfl,rfl,rfl,rfl⟩:=H
      obtain ⟨Ao55,co55,eo55⟩:=Kd.R_slice HO_7.out
      subst eo55
      have hnb56:=NB304_305.out
      have hnc56:=NB305_304.out
      obtain ⟨hcz57_0,hcz57_1,hcz57_2,hcz57_3,hcz57_4,hcz57_5,hfz57_0,hfz57_1,hfz57_2,hfz57_3,hfz57_4,hfz57_5⟩:=cf6_ BK304
      obtain ⟨hcz58_0,hcz58_1,hcz58_2,hcz58_3,hcz58_4,hcz58_5,hfz58_0,hfz58_1,hfz58_2,hfz58_3,hfz58_4,hfz58_5⟩:=cf6_ BK305
      obtain ⟨Ao59,co59,eo59⟩:=Kd.V_slice HO_305004.out
      subst eo59
      obtain ⟨Ao60,co60,eo60⟩:=Kd.V_slice HO_305005.out
      subst eo60
      go_wp2
      refine bodyPost_ret (results_ctt rfl _ _ gb305 25 #[.int .i64 x305000_1,.bool x305001_1,.string x305002_1,.string x305003_1,.slice Ao59 x305004_1.length co59,.slice Ao60 x305005_1.length co60] (0,0) _ rfl (by (with_reducible repeat (first|refine blk_drewN ?_ _|refine blk_drew ?_|refine blk_alloc ?_ _));refine bp_ (cs:=#[.int .i64 x305000_1,.bool x305001_1,.string x305002_1,.string x305003_1,.slice Ao59 x305004_1.length co59,.slice none 0 0]) ?_ 5 _;refine bp_ (cs:=#[.int .i64 x305000_1,.bool x305001_1,.string x305002_1,.string x305003_1,.slice none 0 0,.slice none 0 0]) ?_ 4 _;refine bp_ (cs:=#[.int .i64 x305000_1,.bool x305001_1,.string x305002_1,.string x306003_1,.slice none 0 0,.slice none 0 0]) ?_ 3 _;refine bp_ (cs:=#[.int .i64 x305000_1,.bool x305001_1,.string x306002_1,.string x306003_1,.slice none 0 0,.slice none 0 0]) ?_ 2 _;refine bp_ (cs:=#[.int .i64 x305000_1,.bool x306001_1,.string x306002_1,.string x306003_1,.slice none 0 0,.slice none 0 0]) ?_ 1 _;refine bp_ (cs:=#[.int .i64 x306000_1,.bool x306001_1,.string x306002_1,.string x306003_1,.slice none 0 0,.slice none 0 0]) ?_ 0 _;(with_reducible repeat (first|refine blk_drewN ?_ _|refine blk_drew ?_|refine blk_alloc ?_ _));exact BK305.out) Tryd.underlying25 rfl (by kernel_rfl)) rfl ?_
      exact ⟨_,_,er_,by (with_reducible repeat (first|apply Kd.V_alloc|apply Kd.V_drewN|apply Kd.V_drew));exact Kd.V_mono (vf6_ (g:=gb305) (Kd.V_mono HO_305004.out (fun k_ hk=>(⟨hk,hk.2.2.2⟩ : _ ∧ k_ ≠ gb305))) (fun _ hk=>hk.2)) (fun _ hk=>hk.1.1),by (with_reducible repeat (first|apply Kd.V_alloc|apply Kd.V_drewN|apply Kd.V_drew));exact Kd.V_mono (vf6_ (g:=gb305) (Kd.V_mono HO_305005.out (fun k_ hk=>(⟨hk,hk.2.2.2⟩ : _ ∧ k_ ≠ gb305))) (fun _ hk=>hk.2)) (fun _ hk=>hk.1.1),(hb_ HB)⟩
  ·rw [if_neg c6] at H
   have c6b0 : (t308 == 0) = false:=beq_eq_false_iff_ne.mpr c6
   have c6b1 : (t308 != 0) = true:=bne_iff_ne.mpr c6
   simp only [Option.some.injEq,Prod.mk.injEq] at H
   obtain ⟨rfl,rfl,rfl,rfl,rfl,rfl,rfl,rfl⟩:=H
   go_enter Tryd.func11,Tryd.ntmps11
   go_wp2_with (first|((with_reducible refine gate_dst (N:=2) rfl ?_);refine box_event ?hg (N:=2) ?hd (cs:=#[.int .i64 a0_0,.bool a0_1,.string a0_2,.string a0_3,.slice A0_4 l0_4.length c0_4,.slice A0_5 l0_5.length c0_5]) (t:=25) ?hr ?_;(case hd=>rfl);(case hg=>rfl);(case hr=>first|(go_simp;done)|(go_simp;rfl));intro gb304 hg w61 hbox hb;have n_:=J_ (Kd.V_below (Kd.V_elderB (vk_ HO0_4) gb304 (Nat.le_of_eq hg.symm)) hb) (J_ (Kd.V_below (Kd.V_elderB (vk_ HO0_5) gb304 (Nat.le_of_eq hg.symm)) hb) (J_ (below_step (hb_ HB) hb) (J_ (hbox) (J_ (bs_ hg HB) (Aside0.mk (bs_ hg HB))))));clear HO0_4 HO0_5 HB;obtain ⟨HO0_4,HO0_5,HB,BK304,GW304,GE304⟩:=n_;clear hb hbox hg)|((with_reducible refine gate_dst (N:=4) rfl ?_);refine box_event ?hg (N:=4) ?hd (cs:=#[.int .i64 0,.bool false,.string (⟨#[]⟩ : ByteArray),.string (⟨#[]⟩ : ByteArray),.slice none 0 0,.slice none 0 0]) (t:=25) ?hr ?_;(case hd=>rfl);(case hg=>rfl);(case hr=>first|(go_simp;done)|(go_simp;rfl));intro gb305 hg w62 hbox hb;have n_:=J_ (Kd.V_below (Kd.V_elderB (vk_ HO0_4) gb305 (Nat.le_of_eq hg.symm)) hb) (J_ (Kd.V_below (Kd.V_elderB (vk_ HO0_5) gb305 (Nat.le_of_eq hg.symm)) hb) (J_ (bkb_ BK304 hb) (J_ (below_step (hb_ HB) hb) (J_ (hbox) (J_ (bs_ hg HB) (J_ (bs_ hg HB) (J_ ((by rw [hg];exact Nat.ne_of_lt (bkl_ BK304) : gb304 ≠ gb305)) (Aside0.mk ((by rw [hg];exact Nat.ne_of_gt (bkl_ BK304) : gb305 ≠ gb304))))))))));clear HO0_4 HO0_5 BK304 HB;obtain ⟨HO0_4,HO0_5,BK304,HB,BK305,GW305,GE305,NB304_305,NB305_304⟩:=n_;clear hb hbox hg;have hnb63:=NB304_305.out;have hnc63:=NB305_304.out;obtain ⟨hcz64_0,hcz64_1,hcz64_2,hcz64_3,hcz64_4,hcz64_5,hfz64_0,hfz64_1,hfz64_2,hfz64_3,hfz64_4,hfz64_5⟩:=cf6_ BK304)|((with_reducible refine gate_callee (f:=31) rfl ?_);refine goesL_ (some 13) rfl rfl Tryd.func31 (by kernel_rfl) rfl #[.agg #[.int .i64 a0_0,.bool a0_1,.string a0_2,.string a0_3,.slice A0_4 l0_4.length c0_4,.slice A0_5 l0_5.length c0_5]] rfl am_ ?_;(with_reducible refine (quarryref17_Formed.calls k a0_0 a0_1 a0_2 a0_3 _ _ l0_4 _ _ l0_5 true _ ?side1 ?side2 ?side3 ?side4 A3.out).mono ?_);(case side1=>repeat (first|exact (Kd.V_reads' HO0_4.out).2.2|(with_reducible refine Kd.C_alloc ?_ _)|(with_reducible refine Kd.C_drewN ?_ _)|(with_reducible refine Kd.C_drew ?_)));(case side2=>exact (Kd.V_reads' HO0_4.out).2.1);(case side3=>repeat (first|exact (Kd.V_reads' HO0_5.out).2.2|(with_reducible refine Kd.C_alloc ?_ _)|(with_reducible refine Kd.C_drewN ?_ _)|(with_reducible refine Kd.C_drew ?_)));(case side4=>exact (Kd.V_reads' HO0_5.out).2.1);rintro e w65 ⟨rfl,hb⟩;refine ⟨_,rfl,?_⟩;have n_:=J_ (Kd.V_below (vk_ HO0_4) hb) (J_ (Kd.V_below (vk_ HO0_5) hb) (J_ (bkb_ BK304 hb) (J_ (bkb_ BK305 hb) (Aside0.mk (below_step (hb_ HB) hb)))));clear HO0_4 HO0_5 BK304 BK305 HB;obtain ⟨HO0_4,HO0_5,BK304,BK305,HB⟩:=n_;(try clear hb);(try clear hb2);(try clear hk);(try clear hi))|((with_reducible refine gate_callee (f:=32) rfl ?_);refine goesL_ (some 18) rfl rfl Tryd.func32 (by kernel_rfl) rfl #[.string a1] rfl am_ ?_;(with_reducible refine (quarryref20_Parse.calls k a1 t307 t308 _ A5.out).mono ?_);rintro e w66 ⟨v309,rfl,ho0,hb⟩;refine ⟨_,rfl,?_⟩;have n_:=J_ (Kd.V_elder' (vk_ HO0_4) (Kd.R_base ho0) hb) (J_ (Kd.V_elder' (vk_ HO0_5) (Kd.R_base ho0) hb) (J_ (Kd.R_lower (Kd.R_newM (M:=fun k_=>(w.heap.size ≤ k_)) ho0 (below_size (hb_ HB)) (fun k_ h_=>h_)) (below_size (hb_ HB))) (J_ (bkb_ BK304 hb) (J_ (bkb_ BK305 hb) (Aside0.mk (below_step (hb_ HB) hb))))));clear HO0_4 HO0_5 BK304 BK305 HB;obtain ⟨HO0_4,HO0_5,HO310,BK304,BK305,HB⟩:=n_;(try clear hb);(try clear hb2);(try clear hk);(try clear hi);(try clear ho0);obtain ⟨hcz67_0,hcz67_1,hcz67_2,hcz67_3,hcz67_4,hcz67_5,hfz67_0,hfz67_1,hfz67_2,hfz67_3,hfz67_4,hfz67_5⟩:=cf6_ BK305))
   refine bodyPost_ret (results_ctt rfl _ _ gb305 25 #[.int .i64 0,.bool false,.string (⟨#[]⟩ : ByteArray),.string (⟨#[]⟩ : ByteArray),.slice none 0 0,.slice none 0 0] (0,0) _ rfl (by (with_reducible repeat (first|refine blk_drewN ?_ _|refine blk_drew ?_|refine blk_alloc ?_ _));refine bp_ (cs:=#[.int .i64 0,.bool false,.string (⟨#[]⟩ : ByteArray),.string (⟨#[]⟩ : ByteArray),.slice none 0 0,.slice none 0 0]) ?_ 5 _;refine bp_ (cs:=#[.int .i64 0,.bool false,.string (⟨#[]⟩ : ByteArray),.string (⟨#[]⟩ : ByteArray),.slice none 0 0,.slice none 0 0]) ?_ 4 _;refine bp_ (cs:=#[.int .i64 0,.bool false,.string (⟨#[]⟩ : ByteArray),.string (⟨#[]⟩ : ByteArray),.slice none 0 0,.slice none 0 0]) ?_ 3 _;refine bp_ (cs:=#[.int .i64 0,.bool false,.string (⟨#[]⟩ : ByteArray),.string (⟨#[]⟩ : ByteArray),.slice none 0 0,.slice none 0 0]) ?_ 2 _;refine bp_ (cs:=#[.int .i64 0,.bool false,.string (⟨#[]⟩ : ByteArray),.string (⟨#[]⟩ : ByteArray),.slice none 0 0,.slice none 0 0]) ?_ 1 _;refine bp_ (cs:=#[.int .i64 0,.bool false,.string (⟨#[]⟩ : ByteArray),.string (⟨#[]⟩ : ByteArray),.slice none 0 0,.slice none 0 0]) ?_ 0 _;(with_reducible repeat (first|refine blk_drewN ?_ _|refine blk_drew ?_|refine blk_alloc ?_ _));exact BK305.out) Tryd.underlying25 rfl (by kernel_rfl)) rfl ?_
   exact ⟨_,_,er_,Kd.V_nil _ _ _ _ _,Kd.V_nil _ _ _ _ _,(hb_ HB)⟩
 ·replace c4:=Bool.eq_false_iff.mpr c4
  subst c4
  have H1 : (some (0,false,(⟨#[]⟩ : ByteArray),(⟨#[]⟩ : ByteArray),([] : List ByteArray),([] : List (S25)),false,1)) = some (r1,r2,r3,r4,r5,r6,r7,r8):=by rw [if_neg (show ¬ (false = true) by decide)] at H;exact H
  clear H
  have H:=H1
  clear H1
  simp only [Option.some.injEq,Prod.mk.injEq] at H
  obtain ⟨rfl,rfl,rfl,rfl,rfl,rfl,rfl,rfl⟩:=H
  go_enter Tryd.func11,Tryd.ntmps11
  go_wp2_with (first|((with_reducible refine gate_dst (N:=2) rfl ?_);refine box_event ?hg (N:=2) ?hd (cs:=#[.int .i64 a0_0,.bool a0_1,.string a0_2,.string a0_3,.slice A0_4 l0_4.length c0_4,.slice A0_5 l0_5.length c0_5]) (t:=25) ?hr ?_;(case hd=>rfl);(case hg=>rfl);(case hr=>first|(go_simp;done)|(go_simp;rfl));intro gb304 hg w68 hbox hb;have n_:=J_ (Kd.V_below (Kd.V_elderB (vk_ HO0_4) gb304 (Nat.le_of_eq hg.symm)) hb) (J_ (Kd.V_below (Kd.V_elderB (vk_ HO0_5) gb304 (Nat.le_of_eq hg.symm)) hb) (J_ (below_step (hb_ HB) hb) (J_ (hbox) (J_ (bs_ hg HB) (Aside0.mk (bs_ hg HB))))));clear HO0_4 HO0_5 HB;obtain ⟨HO0_4,HO0_5,HB,BK304,GW304,GE304⟩:=n_;clear hb hbox hg)|((with_reducible refine gate_dst (N:=4) rfl ?_);refine box_event ?hg (N:=4) ?hd (cs:=#[.int .i64 0,.bool false,.string (⟨#[]⟩ : ByteArray),.string (⟨#[]⟩ : ByteArray),.slice none 0 0,.slice none 0 0]) (t:=25) ?hr ?_;(case hd=>rfl);(case hg=>rfl);(case hr=>first|(go_simp;done)|(go_simp;rfl));intro gb305 hg w69 hbox hb;have n_:=J_ (Kd.V_below (Kd.V_elderB (vk_ HO0_4) gb305 (Nat.le_of_eq hg.symm)) hb) (J_ (Kd.V_below (Kd.V_elderB (vk_ HO0_5) gb305 (Nat.le_of_eq hg.symm)) hb) (J_ (bkb_ BK304 hb) (J_ (below_step (hb_ HB) hb) (J_ (hbox) (J_ (bs_ hg HB) (J_ (bs_ hg HB) (J_ ((by rw [hg];exact Nat.ne_of_lt (bkl_ BK304) : gb304 ≠ gb305)) (Aside0.mk ((by rw [hg];exact Nat.ne_of_gt (bkl_ BK304) : gb305 ≠ gb304))))))))));clear HO0_4 HO0_5 BK304 HB;obtain ⟨HO0_4,HO0_5,BK304,HB,BK305,GW305,GE305,NB304_305,NB305_304⟩:=n_;clear hb hbox hg;have hnb70:=NB304_305.out;have hnc70:=NB305_304.out;obtain ⟨hcz71_0,hcz71_1,hcz71_2,hcz71_3,hcz71_4,hcz71_5,hfz71_0,hfz71_1,hfz71_2,hfz71_3,hfz71_4,hfz71_5⟩:=cf6_ BK304)|((with_reducible refine gate_callee (f:=31) rfl ?_);refine goesL_ (some 13) rfl rfl Tryd.func31 (by kernel_rfl) rfl #[.agg #[.int .i64 a0_0,.bool a0_1,.string a0_2,.string a0_3,.slice A0_4 l0_4.length c0_4,.slice A0_5 l0_5.length c0_5]] rfl am_ ?_;(with_reducible refine (quarryref17_Formed.calls k a0_0 a0_1 a0_2 a0_3 _ _ l0_4 _ _ l0_5 false _ ?side1 ?side2 ?side3 ?side4 A3.out).mono ?_);(case side1=>repeat (first|exact (Kd.V_reads' HO0_4.out).2.2|(with_reducible refine Kd.C_alloc ?_ _)|(with_reducible refine Kd.C_drewN ?_ _)|(with_reducible refine Kd.C_drew ?_)));(case side2=>exact (Kd.V_reads' HO0_4.out).2.1);(case side3=>repeat (first|exact (Kd.V_reads' HO0_5.out).2.2|(with_reducible refine Kd.C_alloc ?_ _)|(with_reducible refine Kd.C_drewN ?_ _)|(with_reducible refine Kd.C_drew ?_)));(case side4=>exact (Kd.V_reads' HO0_5.out).2.1);rintro e w72 ⟨rfl,hb⟩;refine ⟨_,rfl,?_⟩;have n_:=J_ (Kd.V_below (vk_ HO0_4) hb) (J_ (Kd.V_below (vk_ HO0_5) hb) (J_ (bkb_ BK304 hb) (J_ (bkb_ BK305 hb) (Aside0.mk (below_step (hb_ HB) hb)))));clear HO0_4 HO0_5 BK304 BK305 HB;obtain ⟨HO0_4,HO0_5,BK304,BK305,HB⟩:=n_;(try clear hb);(try clear hb2);(try clear hk);(try clear hi);obtain ⟨hcz73_0,hcz73_1,hcz73_2,hcz73_3,hcz73_4,hcz73_5,hfz73_0,hfz73_1,hfz73_2,hfz73_3,hfz73_4,hfz73_5⟩:=cf6_ BK305))
  refine bodyPost_ret (results_ctt rfl _ _ gb305 25 #[.int .i64 0,.bool false,.string (⟨#[]⟩ : ByteArray),.string (⟨#[]⟩ : ByteArray),.slice none 0 0,.slice none 0 0] (0,0) _ rfl (by (with_reducible repeat (first|refine blk_drewN ?_ _|refine blk_drew ?_|refine blk_alloc ?_ _));refine bp_ (cs:=#[.int .i64 0,.bool false,.string (⟨#[]⟩ : ByteArray),.string (⟨#[]⟩ : ByteArray),.slice none 0 0,.slice none 0 0]) ?_ 5 _;refine bp_ (cs:=#[.int .i64 0,.bool false,.string (⟨#[]⟩ : ByteArray),.string (⟨#[]⟩ : ByteArray),.slice none 0 0,.slice none 0 0]) ?_ 4 _;refine bp_ (cs:=#[.int .i64 0,.bool false,.string (⟨#[]⟩ : ByteArray),.string (⟨#[]⟩ : ByteArray),.slice none 0 0,.slice none 0 0]) ?_ 3 _;refine bp_ (cs:=#[.int .i64 0,.bool false,.string (⟨#[]⟩ : ByteArray),.string (⟨#[]⟩ : ByteArray),.slice none 0 0,.slice none 0 0]) ?_ 2 _;refine bp_ (cs:=#[.int .i64 0,.bool false,.string (⟨#[]⟩ : ByteArray),.string (⟨#[]⟩ : ByteArray),.slice none 0 0,.slice none 0 0]) ?_ 1 _;refine bp_ (cs:=#[.int .i64 0,.bool false,.string (⟨#[]⟩ : ByteArray),.string (⟨#[]⟩ : ByteArray),.slice none 0 0,.slice none 0 0]) ?_ 0 _;(with_reducible repeat (first|refine blk_drewN ?_ _|refine blk_drew ?_|refine blk_alloc ?_ _));exact BK305.out) Tryd.underlying25 rfl (by kernel_rfl)) rfl ?_
  exact ⟨_,_,er_,Kd.V_nil _ _ _ _ _,Kd.V_nil _ _ _ _ _,(hb_ HB)⟩
end Go.Proofs.YtppenppagkfigaaDoor.PPointerFinds
