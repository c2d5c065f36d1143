-- By shrink.py.
import Derived.Test.YtfaegleohhemkaaDoorZPTreeLikesx0
import Derived.Test.YtfaegleohhemkaaDoorZPTreeLikesx32
namespace Go.Proofs.YtfaegleohhemkaaDoor.PTreeLikes
open Go.RowKit Go.Proofs.YtfaegleohhemkaaDoorW.PrintWords Go.Proofs.YtfaegleohhemkaaDoorW.PrintLast Go.Proofs.YtfaegleohhemkaaDoorW.PrintMore
attribute [local go_sem] max2_int min2_int max_two min_two max_three min_three max_four min_four
set_option linter.unusedVariables false
set_option linter.unusedSimpArgs false
def quarryref17_covers.l0 (rq : Int → Bool → ByteArray → ByteArray → List ByteArray → List (S25) → Int → Bool → ByteArray → ByteArray → List ByteArray → List (S25) → Option Bool) : Nat → List Int → List Int → Int → Int → Bool → ByteArray → ByteArray → List ByteArray → List (S25) → Int → Bool → ByteArray → ByteArray → List ByteArray → List (S25) → Option (Bool)
 | 0,_,_,_,_,_,_,_,_,_,_,_,_,_,_,_=>none
 | k + 1,x5,x6,x7,x299000,x299001,x299002,x299003,x299004,x299005,x300000,x300001,x300002,x300003,x300004,x300005=>if x7 < (x299004.length : Int) then (if 0 ≤ x7 then ((quarryref17_Place.f k x299004 x5 (rdOf ByteArray.empty x299004 x7)).bind fun t307=>(if t307 = x7 then ((quarryref17_Place.f k x300004 x6 (rdOf ByteArray.empty x299004 x7)).bind fun t309=>(if t309 < 0 then (some false) else (if x7 < (x299005.length : Int) then (if 0 ≤ t309 then (if t309 < (x300005.length : Int) then ((rq ((rd_T25 x299005 x7).f0) ((rd_T25 x299005 x7).f1) ((rd_T25 x299005 x7).f2) ((rd_T25 x299005 x7).f3) ((rd_T25 x299005 x7).f4) ((rd_T25 x299005 x7).f5) ((rd_T25 x300005 t309).f0) ((rd_T25 x300005 t309).f1) ((rd_T25 x300005 t309).f2) ((rd_T25 x300005 t309).f3) ((rd_T25 x300005 t309).f4) ((rd_T25 x300005 t309).f5)).bind fun t312=>(if t312 = true then (quarryref17_covers.l0 rq k x5 x6 (wrap64 (x7 + 1)) x299000 x299001 x299002 x299003 x299004 x299005 x300000 x300001 x300002 x300003 x300004 x300005) else (some false))) else (none)) else (none)) else (none)))) else (quarryref17_covers.l0 rq k x5 x6 (wrap64 (x7 + 1)) x299000 x299001 x299002 x299003 x299004 x299005 x300000 x300001 x300002 x300003 x300004 x300005))) else (none)) else (some true)
def quarryref17_covers.f (rq : Int → Bool → ByteArray → ByteArray → List ByteArray → List (S25) → Int → Bool → ByteArray → ByteArray → List ByteArray → List (S25) → Option Bool) (k : Nat) (a0_0 : Int) (a0_1 : Bool) (a0_2 : ByteArray) (a0_3 : ByteArray) (l0_4 : List ByteArray) (l0_5 : List (S25)) (a1_0 : Int) (a1_1 : Bool) (a1_2 : ByteArray) (a1_3 : ByteArray) (l1_4 : List ByteArray) (l1_5 : List (S25)) : Option (Bool):=(quarryref17_Ordered.f k l0_4).bind fun t300=>((quarryref17_Ordered.f k l1_4).bind fun t303=>(quarryref17_covers.l0 rq k t300 t303 0 a0_0 a0_1 a0_2 a0_3 l0_4 l0_5 a1_0 a1_1 a1_2 a1_3 l1_4 l1_5))
theorem quarryref17_covers.le_l {rq rq2 : Int → Bool → ByteArray → ByteArray → List ByteArray → List (S25) → Int → Bool → ByteArray → ByteArray → List ByteArray → List (S25) → Option Bool} (hq : ∀ y0 y1 y2 y3 y4 y5 y6 y7 y8 y9 y10 y11,LeO (rq y0 y1 y2 y3 y4 y5 y6 y7 y8 y9 y10 y11) (rq2 y0 y1 y2 y3 y4 y5 y6 y7 y8 y9 y10 y11)) : ∀ k,(∀ y0 y1 y2 y3 y4 y5 y6 y7 y8 y9 y10 y11 y12 y13 y14,LeO (quarryref17_covers.l0 rq k y0 y1 y2 y3 y4 y5 y6 y7 y8 y9 y10 y11 y12 y13 y14) (quarryref17_covers.l0 rq2 (k + 1) y0 y1 y2 y3 y4 y5 y6 y7 y8 y9 y10 y11 y12 y13 y14))
 | 0=>fun _ _ _ _ _ _ _ _ _ _ _ _ _ _ _ r h=>by simp [quarryref17_covers.l0] at h
 | k + 1=>by
  have ih0:=quarryref17_covers.le_l hq k;intro y0 y1 y2 y3 y4 y5 y6 y7 y8 y9 y10 y11 y12 y13 y14
  unfold quarryref17_covers.l0
  repeat' first
   | (with_reducible exact ih0 _ _ _ _ _ _ _ _ _ _ _ _ _ _ _)
   | (with_reducible exact quarryref17_Place.mono _ _ _ _)
   | (with_reducible exact hq _ _ _ _ _ _ _ _ _ _ _ _)
   | (with_reducible exact LeO.refl _)
   | (with_reducible exact LeO.none _)
   | (with_reducible refine LeO.ite ?_ ?_)
   | (with_reducible refine LeO.bind ?_ (fun _=>?_))
theorem quarryref17_covers.le {rq rq2 : Int → Bool → ByteArray → ByteArray → List ByteArray → List (S25) → Int → Bool → ByteArray → ByteArray → List ByteArray → List (S25) → Option Bool} (hq : ∀ y0 y1 y2 y3 y4 y5 y6 y7 y8 y9 y10 y11,LeO (rq y0 y1 y2 y3 y4 y5 y6 y7 y8 y9 y10 y11) (rq2 y0 y1 y2 y3 y4 y5 y6 y7 y8 y9 y10 y11)) (k : Nat) : ∀ a0 a1 a2 a3 a4 a5 a6 a7 a8 a9 a10 a11,LeO (quarryref17_covers.f rq k a0 a1 a2 a3 a4 a5 a6 a7 a8 a9 a10 a11) (quarryref17_covers.f rq2 (k + 1) a0 a1 a2 a3 a4 a5 a6 a7 a8 a9 a10 a11):=by
 intro a0 a1 a2 a3 a4 a5 a6 a7 a8 a9 a10 a11;have ih0:=quarryref17_covers.le_l hq k
 unfold quarryref17_covers.f
 repeat' first
   | (with_reducible exact ih0 _ _ _ _ _ _ _ _ _ _ _ _ _ _ _)
   | (with_reducible exact quarryref17_Ordered.mono _ _)
   | (with_reducible exact LeO.refl _)
   | (with_reducible refine LeO.bind ?_ (fun _=>?_))
def quarryref17_covers.T1 : Bool × List (List Nat × List Nat):=(true,[([],[]),([0],[0]),([1],[1]),([],[]),([3],[3]),([4,2],[4]),([2,5,0,1,2],[2]),([5,6,0,1,2,3,4,5,6],[5])])
def quarryref17_covers.B1 : List Nat:=[0,1,3,0,8,31,63,127]
theorem quarryref17_covers.tab1 : rtab .any (opsOf Tryd.f34 1) = quarryref17_covers.T1:=by kernel_rfl
theorem quarryref17_covers.bits1 : waitsOk quarryref17_covers.T1.2 quarryref17_covers.B1 = true:=by kernel_rfl
def quarryref17_covers.T5 : Bool × List (List Nat × List Nat):=(true,[([],[]),([0],[0]),([],[]),([],[]),([3],[3]),([],[]),([4,5],[4,5]),([6],[6]),([1,2,7],[1,2,7]),([],[]),([8,9],[8,9])])
def quarryref17_covers.B5 : List Nat:=[0,1,0,0,8,0,56,120,255,0,1023]
theorem quarryref17_covers.tab5 : rtab .any (opsOf Tryd.f34 5) = quarryref17_covers.T5:=by kernel_rfl
theorem quarryref17_covers.bits5 : waitsOk quarryref17_covers.T5.2 quarryref17_covers.B5 = true:=by kernel_rfl
def quarryref17_covers.T6 : Bool × List (List Nat × List Nat):=(true,[([],[]),([0],[0]),([],[]),([],[]),([3],[3]),([],[]),([4,5],[4,5]),([6],[6]),([1,2,7],[1,2,7]),([8,8,0,1,2,3,4,5,6,7,8],[8])])
def quarryref17_covers.B6 : List Nat:=[0,1,0,0,8,0,56,120,255,511]
theorem quarryref17_covers.tab6 : rtab .any (opsOf Tryd.f34 6) = quarryref17_covers.T6:=by kernel_rfl
theorem quarryref17_covers.bits6 : waitsOk quarryref17_covers.T6.2 quarryref17_covers.B6 = true:=by kernel_rfl
def quarryref17_covers.T7 : Bool × List (List Nat × List Nat):=(true,[([],[]),([0],[0]),([1],[1]),([2],[2]),([3,2],[2,3]),([2],[2]),([4,5,2],[2,4,5]),([6,2],[2,6]),([2],[2]),([8,2],[2,8]),([2],[2]),([9,10,2],[2,9,10]),([11,2],[2,11]),([7,12,2,2],[2,7,12]),([13,2],[2,13]),([2,14],[2,14])])
def quarryref17_covers.B7 : List Nat:=[0,1,3,7,15,7,63,127,7,263,7,1799,3847,8191,16383,32767]
theorem quarryref17_covers.tab7 : rtab .any (opsOf Tryd.f34 7) = quarryref17_covers.T7:=by kernel_rfl
theorem quarryref17_covers.bits7 : waitsOk quarryref17_covers.T7.2 quarryref17_covers.B7 = true:=by kernel_rfl
set_option maxHeartbeats 8000000 in
set_option maxRecDepth 100000 in
theorem quarryref17_covers.calls (rq : Int → Bool → ByteArray → ByteArray → List ByteArray → List (S25) → Int → Bool → ByteArray → ByteArray → List ByteArray → List (S25) → Option Bool) (HREC : Aside0 (∀ (a0_0 : Int) (a0_1 : Bool) (a0_2 : ByteArray) (a0_3 : ByteArray) (A0_4 : Option Addr) (c0_4 : Nat) (l0_4 : List ByteArray) (A0_5 : Option Addr) (c0_5 : Nat) (l0_5 : List (S25)) (a1_0 : Int) (a1_1 : Bool) (a1_2 : ByteArray) (a1_3 : ByteArray) (A1_4 : Option Addr) (c1_4 : Nat) (l1_4 : List ByteArray) (A1_5 : Option Addr) (c1_5 : Nat) (l1_5 : List (S25)) (r : Bool) (w : World) (hr0_4 : Kd.C Kd.string w A0_4 l0_4.length l0_4) (hc0_4 : l0_4.length ≤ c0_4) (hr0_5 : Kd.C k25 w A0_5 l0_5.length l0_5) (hc0_5 : l0_5.length ≤ c0_5) (hr1_4 : Kd.C Kd.string w A1_4 l1_4.length l1_4) (hc1_4 : l1_4.length ≤ c1_4) (hr1_5 : Kd.C k25 w A1_5 l1_5.length l1_5) (hc1_5 : l1_5.length ≤ c1_5) (h : rq a0_0 a0_1 a0_2 a0_3 l0_4 l0_5 a1_0 a1_1 a1_2 a1_3 l1_4 l1_5 = some r),Calls Tryd.prog 20 #[.agg #[.int .i64 a0_0,.bool a0_1,.string a0_2,.string a0_3,.slice A0_4 l0_4.length c0_4,.slice A0_5 l0_5.length c0_5],.agg #[.int .i64 a1_0,.bool a1_1,.string a1_2,.string a1_3,.slice A1_4 l1_4.length c1_4,.slice A1_5 l1_5.length c1_5]] w fun e w'=>e = .returned (.bool r) ∧ Below w.heap.size w w')) (k : Nat) (a0_0 : Int) (a0_1 : Bool) (a0_2 : ByteArray) (a0_3 : ByteArray) (A0_4 : Option Addr) (c0_4 : Nat) (l0_4 : List ByteArray) (A0_5 : Option Addr) (c0_5 : Nat) (l0_5 : List (S25)) (a1_0 : Int) (a1_1 : Bool) (a1_2 : ByteArray) (a1_3 : ByteArray) (A1_4 : Option Addr) (c1_4 : Nat) (l1_4 : List ByteArray) (A1_5 : Option Addr) (c1_5 : Nat) (l1_5 : List (S25)) (r : Bool) (w : World) (hr0_4 : Kd.C Kd.string w A0_4 l0_4.length l0_4) (hc0_4 : l0_4.length ≤ c0_4) (hr0_5 : Kd.C k25 w A0_5 l0_5.length l0_5) (hc0_5 : l0_5.length ≤ c0_5) (hr1_4 : Kd.C Kd.string w A1_4 l1_4.length l1_4) (hc1_4 : l1_4.length ≤ c1_4) (hr1_5 : Kd.C k25 w A1_5 l1_5.length l1_5) (hc1_5 : l1_5.length ≤ c1_5) (h : quarryref17_covers.f rq k a0_0 a0_1 a0_2 a0_3 l0_4 l0_5 a1_0 a1_1 a1_2 a1_3 l1_4 l1_5 = some r) :
  Calls Tryd.prog 34 #[.agg #[.int .i64 a0_0,.bool a0_1,.string a0_2,.string a0_3,.slice A0_4 l0_4.length c0_4,.slice A0_5 l0_5.length c0_5],.agg #[.int .i64 a1_0,.bool a1_1,.string a1_2,.string a1_3,.slice A1_4 l1_4.length c1_4,.slice A1_5 l1_5.length c1_5]] w fun e w'=>e = .returned (.bool r) ∧ Below w.heap.size w w':=by
 have hu25:=Tryd.underlying25;have HR0_4:=ad_ hr0_4;have HC0_4:=ad_ hc0_4;clear hr0_4 hc0_4;have HR0_5:=ad_ hr0_5;have HC0_5:=ad_ hc0_5;clear hr0_5 hc0_5;have HR1_4:=ad_ hr1_4;have HC1_4:=ad_ hc1_4;clear hr1_4 hc1_4;have HR1_5:=ad_ hr1_5;have HC1_5:=ad_ hc1_5;clear hr1_5 hc1_5;have HB:=ad_ (Below.refl w.heap.size w);have H : ((quarryref17_Ordered.f k l0_4).bind fun t300=>((quarryref17_Ordered.f k l1_4).bind fun t303=>(quarryref17_covers.l0 rq k t300 t303 0 a0_0 a0_1 a0_2 a0_3 l0_4 l0_5 a1_0 a1_1 a1_2 a1_3 l1_4 l1_5))) = some r:=h;clear h;replace H:=Option.bind_eq_some_iff.mp H;obtain ⟨t300,A30,H⟩:=H
 try dsimp only at H
 have A3:=ad_ A30;clear A30;replace H:=Option.bind_eq_some_iff.mp H;obtain ⟨t303,A40,H⟩:=H
 try dsimp only at H
 have A4:=ad_ A40;clear A40;have H':=ad_ H;clear H;go_enter Tryd.func34,Tryd.ntmps34
 try go_wp2_with (first|((with_reducible refine gate_dst (N:=2) rfl ?_);refine box_event ?hg (N:=2) ?hd (cs:=#[.int .i64 a0_0,.bool a0_1,.string a0_2,.string a0_3,.slice A0_4 l0_4.length c0_4,.slice A0_5 l0_5.length c0_5]) (t:=25) ?hr ?_;(case hd=>rfl);(case hg=>rfl);(case hr=>first|(go_simp;done)|(go_simp;rfl));intro gb298 hg w5 hbox hb;have n_:=J_ (bw_ (hb_ HB) hb) (J_ (hbox) (J_ (bs_ hg HB) (ad_ (bs_ hg HB))));clear HB;obtain ⟨HB,BK298,GW298,GE298⟩:=n_;clear hb hbox hg)|((with_reducible refine gate_dst (N:=3) rfl ?_);refine box_event ?hg (N:=3) ?hd (cs:=#[.int .i64 a1_0,.bool a1_1,.string a1_2,.string a1_3,.slice A1_4 l1_4.length c1_4,.slice A1_5 l1_5.length c1_5]) (t:=25) ?hr ?_;(case hd=>rfl);(case hg=>rfl);(case hr=>first|(go_simp;done)|(go_simp;rfl));intro gb299 hg w6 hbox hb;have n_:=J_ (bkb_ BK298 hb) (J_ (bw_ (hb_ HB) hb) (J_ (hbox) (J_ (bs_ hg HB) (J_ (bs_ hg HB) (J_ ((by rw [hg];exact Nat.ne_of_lt (bkl_ BK298) : gb298 ≠ gb299)) (ad_ ((by rw [hg];exact Nat.ne_of_gt (bkl_ BK298) : gb299 ≠ gb298))))))));clear BK298 HB;obtain ⟨BK298,HB,BK299,GW299,GE299,NB298_299,NB299_298⟩:=n_;clear hb hbox hg))
 have n0_:=ad_ (blk_drew BK298.out);have n1_:=ad_ (blk_drew BK299.out);have n2_:=ad_ (below_drew1 HB.out);clear BK298;clear BK299;clear HB;have BK298:=n0_;have BK299:=n1_;have HB:=n2_;clear n0_ n1_ n2_;refine start_ (n:=8) (S:=fun w'=>w'.cell? ⟨gb298,0,none⟩ = some (.int .i64 a0_0) ∧ w'.cell? ⟨gb298,1,none⟩ = some (.bool a0_1) ∧ w'.cell? ⟨gb298,2,none⟩ = some (.string a0_2) ∧ w'.cell? ⟨gb298,3,none⟩ = some (.string a0_3) ∧ w'.cell? ⟨gb298,4,none⟩ = some (.slice A0_4 l0_4.length c0_4) ∧ w'.cell? ⟨gb298,5,none⟩ = some (.slice A0_5 l0_5.length c0_5) ∧ w'.cell? ⟨gb299,0,none⟩ = some (.int .i64 a1_0) ∧ w'.cell? ⟨gb299,1,none⟩ = some (.bool a1_1) ∧ w'.cell? ⟨gb299,2,none⟩ = some (.string a1_2) ∧ w'.cell? ⟨gb299,3,none⟩ = some (.string a1_3) ∧ w'.cell? ⟨gb299,4,none⟩ = some (.slice A1_4 l1_4.length c1_4) ∧ w'.cell? ⟨gb299,5,none⟩ = some (.slice A1_5 l1_5.length c1_5)) (ds:=[]) #[false,false,false,false,false,false,false,false] (by kernel_rfl) rfl rfl ⟨(bc_ BK298.out 0).trans rfl,(bc_ BK298.out 1).trans rfl,(bc_ BK298.out 2).trans rfl,(bc_ BK298.out 3).trans rfl,(bc_ BK298.out 4).trans rfl,(bc_ BK298.out 5).trans rfl,(bc_ BK299.out 0).trans rfl,(bc_ BK299.out 1).trans rfl,(bc_ BK299.out 2).trans rfl,(bc_ BK299.out 3).trans rfl,(bc_ BK299.out 4).trans rfl,(bc_ BK299.out 5).trans rfl⟩ (fun hHeld=>?_);refine with_tabW quarryref17_covers.tab1 quarryref17_covers.bits1 (fun HT_ HW_=>?_)
 generalize w6.drew = w7 at BK298 BK299 HB hHeld ⊢
 refine pure_ (i:=0) (N:=some 9) (v:=?_) (a':=?_) #[true,false,false,false,false,false,false,false] rfl rfl (any_of HT_.out (by kernel_rfl)) (fun _ _ _ h=>h) (Or.inl ⟨by rfl,?_⟩) ?_ ?_;rotate_left
 ·intro w';go_simp;with_reducible rfl
 rotate_left
 ·simp only [Act.put,se1_,se2_,se3_,i64_w,i32_w];rfl
 refine pure_ (i:=3) (N:=some 12) (v:=?_) (a':=?_) #[true,false,false,true,false,false,false,false] rfl rfl (any_of HT_.out (by kernel_rfl)) (fun _ _ _ h=>h) (Or.inl ⟨by rfl,?_⟩) ?_ ?_;rotate_left
 ·intro w';go_simp;with_reducible rfl
 rotate_left
 ·simp only [Act.put,se1_,se2_,se3_,i64_w,i32_w];rfl
 refine take_ (i:=1) (N:=some 10) (v:=?_) (a':=?_) #[true,true,false,true,false,false,false,false] rfl rfl (take_ofW HT_.out HW_.out (by kernel_rfl)) (fun _ _ _ h=>h) (Or.inl ⟨by rfl,?_⟩) hHeld ?_ ?_;rotate_left
 ·rintro w' ⟨s0,s1,s2,s3,s4,s5,s6,s7,s8,s9,s10,s11⟩;go_simp;with_reducible rfl
 rotate_left
 ·simp only [Act.put,se1_,se2_,se3_,i64_w,i32_w];rfl
 refine take_ (i:=4) (N:=some 13) (v:=?_) (a':=?_) #[true,true,false,true,true,false,false,false] rfl rfl (take_ofW HT_.out HW_.out (by kernel_rfl)) (fun _ _ _ h=>h) (Or.inl ⟨by rfl,?_⟩) hHeld ?_ ?_;rotate_left
 ·rintro w' ⟨s0,s1,s2,s3,s4,s5,s6,s7,s8,s9,s10,s11⟩;go_simp;with_reducible rfl
 rotate_left
 ·simp only [Act.put,se1_,se2_,se3_,i64_w,i32_w];rfl
 refine one_ (i:=2) (N:=some 11) #[true,true,true,true,true,false,false,false] rfl rfl (one_of HT_.out (by kernel_rfl)) (by decide) (fun K hK=>?_);refine goes_ Tryd.func46 (by kernel_rfl) rfl #[.slice A0_4 l0_4.length c0_4] (by rfl) rfl rfl am_ ?_
 with_reducible refine (quarryref17_Ordered.calls k _ _ l0_4 t300 _ ?side1 ?side2 A3.out).mono ?_
 (case side1=>repeat (first|exact (cb_ HR0_4.out HB.out)|(with_reducible refine ca_ ?_ _)|(with_reducible refine kd_ ?_ _)|(with_reducible refine ke_ ?_)))
 (case side2=>exact HC0_4.out)
 rintro e w8 ⟨v301,rfl,ho0,hb⟩;refine ⟨_,rfl,?_⟩;have n0_:=ad_ (Kd.R_lower ho0 (below_size (hb_ HB)));have n1_:=ad_ (bkb_ BK298 hb);have n2_:=ad_ (bkb_ BK299 hb);have n3_:=ad_ (bw_ (hb_ HB) hb);clear BK298;clear BK299;clear HB;have HO302:=n0_;have BK298:=n1_;have BK299:=n2_;have HB:=n3_;clear n0_ n1_ n2_ n3_
 (try clear hb)
 (try clear hb2)
 (try clear hk)
 (try clear hi)
 (try clear ho0)
 refine hK.out _ _ ⟨(bc_ BK298.out 0).trans rfl,(bc_ BK298.out 1).trans rfl,(bc_ BK298.out 2).trans rfl,(bc_ BK298.out 3).trans rfl,(bc_ BK298.out 4).trans rfl,(bc_ BK298.out 5).trans rfl,(bc_ BK299.out 0).trans rfl,(bc_ BK299.out 1).trans rfl,(bc_ BK299.out 2).trans rfl,(bc_ BK299.out 3).trans rfl,(bc_ BK299.out 4).trans rfl,(bc_ BK299.out 5).trans rfl⟩ (fun hHeld=>?_);clear hK K;refine norm_ (a':=?_) ?_ ?_;rotate_left
 ·show Act.put _ (some 11) _ = _
  simp only [Act.put,se1_,se2_,se3_,i64_w,i32_w];rfl
 refine one_ (i:=5) (N:=some 14) #[true,true,true,true,true,true,false,false] rfl rfl (one_of HT_.out (by kernel_rfl)) (by decide) (fun K hK=>?_);refine goes_ Tryd.func46 (by kernel_rfl) rfl #[.slice A1_4 l1_4.length c1_4] (by rfl) rfl rfl am_ ?_
 with_reducible refine (quarryref17_Ordered.calls k _ _ l1_4 t303 _ ?side1 ?side2 A4.out).mono ?_
 (case side1=>repeat (first|exact (cb_ HR1_4.out HB.out)|(with_reducible refine ca_ ?_ _)|(with_reducible refine kd_ ?_ _)|(with_reducible refine ke_ ?_)))
 (case side2=>exact HC1_4.out)
 rintro e w9 ⟨v304,rfl,ho0,hb⟩;refine ⟨_,rfl,?_⟩;have n0_:=ad_ (Kd.R_elder' (rk_ HO302) (Kd.R_base ho0) hb);have n1_:=ad_ (Kd.R_lower (Kd.R_new' ho0 (Kd.R_lt (rk_ HO302))) (below_size (hb_ HB)));have n2_:=ad_ (bkb_ BK298 hb);have n3_:=ad_ (bkb_ BK299 hb);have n4_:=ad_ (bw_ (hb_ HB) hb);clear HO302;clear BK298;clear BK299;clear HB;have HO302:=n0_;have HO305:=n1_;have BK298:=n2_;have BK299:=n3_;have HB:=n4_;clear n0_ n1_ n2_ n3_ n4_
 (try clear hb)
 (try clear hb2)
 (try clear hk)
 (try clear hi)
 (try clear ho0)
 refine hK.out _ _ ⟨(bc_ BK298.out 0).trans rfl,(bc_ BK298.out 1).trans rfl,(bc_ BK298.out 2).trans rfl,(bc_ BK298.out 3).trans rfl,(bc_ BK298.out 4).trans rfl,(bc_ BK298.out 5).trans rfl,(bc_ BK299.out 0).trans rfl,(bc_ BK299.out 1).trans rfl,(bc_ BK299.out 2).trans rfl,(bc_ BK299.out 3).trans rfl,(bc_ BK299.out 4).trans rfl,(bc_ BK299.out 5).trans rfl⟩ (fun hHeld=>?_);clear hK K;refine norm_ (a':=?_) ?_ ?_;rotate_left
 ·show Act.put _ (some 14) _ = _
  simp only [Act.put,se1_,se2_,se3_,i64_w,i32_w];rfl
 refine pure_ (i:=6) (N:=some 5) (v:=?_) (a':=?_) #[true,true,true,true,true,true,true,false] rfl rfl (any_of HT_.out (by kernel_rfl)) (fun _ _ _ h=>h) (Or.inl ⟨by rfl,?_⟩) ?_ ?_;rotate_left
 ·intro w';go_simp;with_reducible rfl
 rotate_left
 ·simp only [Act.put,se1_,se2_,se3_,i64_w,i32_w];rfl
 refine pure_ (i:=7) (N:=some 6) (v:=?_) (a':=?_) #[true,true,true,true,true,true,true,true] rfl rfl (any_of HT_.out (by kernel_rfl)) (fun _ _ _ h=>h) (Or.inl ⟨by rfl,?_⟩) ?_ ?_;rotate_left
 ·intro w';go_simp;with_reducible rfl
 rotate_left
 ·simp only [Act.put,se1_,se2_,se3_,i64_w,i32_w];rfl
 refine done_ (done_of HT_.out (by kernel_rfl)) ?_
 try go_wp2
 go_loopg [7] k (fun kq v7 w'=>∃ (x7_1 : Int),v7 = .int .i64 x7_1 ∧ Aside0 (quarryref17_covers.l0 rq kq t300 t303 x7_1 a0_0 a0_1 a0_2 a0_3 l0_4 l0_5 a1_0 a1_1 a1_2 a1_3 l1_4 l1_5 = some r) ∧ Aside0 (kq ≤ k) ∧ Aside0 (Kd.R (Kd.int .i64) 3 w' w.heap.size (fun k_=>some k_ ≠ (v304 : Value).ownBlock) v301 t300) ∧ Aside0 (Kd.R (Kd.int .i64) 3 w' w.heap.size (fun k_=>some k_ ≠ (v301 : Value).ownBlock) v304 t303) ∧ Aside0 (w'.heap[gb298]? = some (.cells #[.int .i64 a0_0,.bool a0_1,.string a0_2,.string a0_3,(.slice A0_4 l0_4.length c0_4),(.slice A0_5 l0_5.length c0_5)] 25 (0,0))) ∧ Aside0 (w'.heap[gb299]? = some (.cells #[.int .i64 a1_0,.bool a1_1,.string a1_2,.string a1_3,(.slice A1_4 l1_4.length c1_4),(.slice A1_5 l1_5.length c1_5)] 25 (0,0))) ∧ Aside0 (Below w.heap.size w w'))
 case atStart=>exact ⟨(0),rr_,H',⟨Nat.le_refl _⟩,⟨by (with_reducible repeat (first|apply Kd.R_alloc|apply Kd.R_drewN|apply Kd.R_drew));exact Kd.R_mono HO302.out (fun _ hk=>hk.2)⟩,⟨by (with_reducible repeat (first|apply Kd.R_alloc|apply Kd.R_drewN|apply Kd.R_drew));exact Kd.R_mono HO305.out (fun _ hk=>hk.2)⟩,⟨(bk_ BK298)⟩,⟨(bk_ BK299)⟩,⟨(hb_ HB)⟩⟩
 case round =>
  clear H'
  try clear BK298
  try clear BK299
  try clear HB
  try clear BK298
  try clear BK299
  try clear HB
  obtain ⟨x7_1,rfl,HA,HK1,HO_5,HO_6,BK298,BK299,HB⟩:=hrel
  cases gk with
  | zero=>exact absurd HA.out (by simp [quarryref17_covers.l0])
  | succ k1 =>
   have H:=HA.out;clear HA
   simp only [quarryref17_covers.l0] at H
   by_cases c10 : x7_1 < (l0_4.length : Int)
   ·rw [if_pos c10] at H
    have c10b0 : decide (x7_1 < (l0_4.length : Int)) = true:=dt_ c10;clear c10
    by_cases c11 : 0 ≤ x7_1
    ·rw [if_pos c11] at H
     have c11b0 : decide (0 ≤ x7_1) = true:=dt_ c11;clear c11;replace H:=Option.bind_eq_some_iff.mp H;obtain ⟨t307,A120,H⟩:=H
     try dsimp only at H
     have A12:=ad_ A120;clear A120
     by_cases c13 : t307 = x7_1
     ·rw [if_pos c13] at H
      have c13b0 : (t307 == x7_1) = true:=beq_iff_eq.mpr c13;have c13b1 : (t307 != x7_1) = false:=bne_eq_false_iff_eq.mpr c13;clear c13;replace H:=Option.bind_eq_some_iff.mp H;obtain ⟨t309,A140,H⟩:=H
      try dsimp only at H
      have A14:=ad_ A140;clear A140
      by_cases c15 : t309 < 0
      ·rw [if_pos c15] at H
       have c15b0 : decide (t309 < 0) = true:=dt_ c15;clear c15;obtain rfl:=si_ H;have hnb16:=NB298_299.out;have hnc16:=NB299_298.out;obtain ⟨hcz17_0,hcz17_1,hcz17_2,hcz17_3,hcz17_4,hcz17_5,hfz17_0,hfz17_1,hfz17_2,hfz17_3,hfz17_4,hfz17_5⟩:=cf6_ BK298
       try go_wp2
       have n0_:=ad_ (Kd.R_drew HO_5.out);have n1_:=ad_ (Kd.R_drew HO_6.out);have n2_:=ad_ (blk_drew BK298.out);have n3_:=ad_ (blk_drew BK299.out);have n4_:=ad_ (below_drew1 HB.out);clear HO_5;clear HO_6;clear BK298;clear BK299;clear HB;have HO_5:=n0_;have HO_6:=n1_;have BK298:=n2_;have BK299:=n3_;have HB:=n4_;clear n0_ n1_ n2_ n3_ n4_;have p306 : 0 ≤ (x7_1 : Int):=od_ aa_;have q306 : x7_1 < (l0_4.length : Int):=od_ aa_;obtain ⟨ad306,e306,hx306_0⟩:=Kd.at_string HR0_4.out x7_1 p306 q306;have hw306_0:=hx306_0;cases e306;replace hx306_0:=(HB.out.cell (wb_ w _ hx306_0)).trans hx306_0;replace p306:=eq_true p306;replace q306:=eq_true q306;obtain ⟨Ao19,co19,eo19⟩:=Kd.R_slice HO_5.out
       (first|subst eo19|(injection eo19 with f1_ f2_ f3_;have f4_:=f1_.symm;have f5_:=f3_.symm;clear f1_ f2_ f3_;subst f4_;subst f5_))
       refine start_ (n:=11) (S:=fun w'=>w'.cell? ⟨gb298,0,none⟩ = some (.int .i64 a0_0) ∧ w'.cell? ⟨gb298,1,none⟩ = some (.bool a0_1) ∧ w'.cell? ⟨gb298,2,none⟩ = some (.string a0_2) ∧ w'.cell? ⟨gb298,3,none⟩ = some (.string a0_3) ∧ w'.cell? ⟨gb298,4,none⟩ = some (.slice (some ad306) l0_4.length c0_4) ∧ w'.cell? ⟨gb298,5,none⟩ = some (.slice A0_5 l0_5.length c0_5) ∧ w'.cell? (ad306.add (x7_1).toNat) = some (.string (rdOf ByteArray.empty l0_4 x7_1))) (ds:=[]) #[false,false,false,false,false,false,false,false,false,false,false] (by kernel_rfl) rfl rfl ⟨(bc_ BK298.out 0).trans rfl,(bc_ BK298.out 1).trans rfl,(bc_ BK298.out 2).trans rfl,(bc_ BK298.out 3).trans rfl,(bc_ BK298.out 4).trans rfl,(bc_ BK298.out 5).trans rfl,((HB.out.cell (wb_ w _ hw306_0)).trans hw306_0)⟩ (fun hHeld=>?_);refine with_tabW quarryref17_covers.tab5 quarryref17_covers.bits5 (fun HT_ HW_=>?_)
       generalize wr.drew = w18 at HO_5 HO_6 BK298 BK299 HB hx306_0 hHeld ⊢
       refine pure_ (i:=0) (N:=some 22) (v:=?_) (a':=?_) #[true,false,false,false,false,false,false,false,false,false,false] rfl rfl (any_of HT_.out (by kernel_rfl)) (fun _ _ _ h=>h) (Or.inl ⟨by rfl,?_⟩) ?_ ?_;rotate_left
       ·intro w';go_simp;with_reducible rfl
       rotate_left
       ·simp only [Act.put,se1_,se2_,se3_,i64_w,i32_w];rfl
       refine pure_ (i:=2) (N:=some 24) (v:=?_) (a':=?_) #[true,false,true,false,false,false,false,false,false,false,false] rfl rfl (any_of HT_.out (by kernel_rfl)) (fun _ _ _ h=>h) (Or.inl ⟨by rfl,?_⟩) ?_ ?_;rotate_left
       ·intro w';go_simp;with_reducible rfl
       rotate_left
       ·simp only [Act.put,se1_,se2_,se3_,i64_w,i32_w];rfl
       refine pure_ (i:=3) (N:=some 25) (v:=?_) (a':=?_) #[true,false,true,true,false,false,false,false,false,false,false] rfl rfl (any_of HT_.out (by kernel_rfl)) (fun _ _ _ h=>h) (Or.inl ⟨by rfl,?_⟩) ?_ ?_;rotate_left
       ·intro w';go_simp;with_reducible rfl
       rotate_left
       ·simp only [Act.put,se1_,se2_,se3_,i64_w,i32_w];rfl
       refine pure_ (i:=5) (N:=some 27) (v:=?_) (a':=?_) #[true,false,true,true,false,true,false,false,false,false,false] rfl rfl (any_of HT_.out (by kernel_rfl)) (fun _ _ _ h=>h) (Or.inl ⟨by rfl,?_⟩) ?_ ?_;rotate_left
       ·intro w';go_simp;with_reducible rfl
       rotate_left
       ·simp only [Act.put,se1_,se2_,se3_,i64_w,i32_w];rfl
       refine pure_ (i:=9) (N:=some 31) (v:=?_) (a':=?_) #[true,false,true,true,false,true,false,false,false,true,false] rfl rfl (any_of HT_.out (by kernel_rfl)) (fun _ _ _ h=>h) (Or.inl ⟨by rfl,?_⟩) ?_ ?_;rotate_left
       ·intro w';go_simp;with_reducible rfl
       rotate_left
       ·simp only [Act.put,se1_,se2_,se3_,i64_w,i32_w];rfl
       refine take_ (i:=1) (N:=some 23) (v:=?_) (a':=?_) #[true,true,true,true,false,true,false,false,false,true,false] rfl rfl (take_ofW HT_.out HW_.out (by kernel_rfl)) (fun _ _ _ h=>h) (Or.inl ⟨by rfl,?_⟩) hHeld ?_ ?_;rotate_left
       ·rintro w' ⟨s0,s1,s2,s3,s4,s5,s6⟩;go_simp;with_reducible rfl
       rotate_left
       ·simp only [Act.put,se1_,se2_,se3_,i64_w,i32_w];rfl
       refine take_ (i:=4) (N:=some 26) (v:=?_) (a':=?_) #[true,true,true,true,true,true,false,false,false,true,false] rfl rfl (take_ofW HT_.out HW_.out (by kernel_rfl)) (fun _ _ _ h=>h) (Or.inl ⟨by rfl,?_⟩) hHeld ?_ ?_;rotate_left
       ·rintro w' ⟨s0,s1,s2,s3,s4,s5,s6⟩;go_simp;with_reducible rfl
       rotate_left
       ·simp only [Act.put,se1_,se2_,se3_,i64_w,i32_w];rfl
       refine pure_ (i:=6) (N:=some 28) (v:=?_) (a':=?_) #[true,true,true,true,true,true,true,false,false,true,false] rfl rfl (any_of HT_.out (by kernel_rfl)) (fun _ _ _ h=>h) (Or.inl ⟨by rfl,?_⟩) ?_ ?_;rotate_left
       ·intro w';go_simp;with_reducible rfl
       rotate_left
       ·simp only [Act.put,se1_,se2_,se3_,i64_w,i32_w];rfl
       refine take_ (i:=7) (N:=some 29) (v:=?_) (a':=?_) #[true,true,true,true,true,true,true,true,false,true,false] rfl rfl (take_ofW HT_.out HW_.out (by kernel_rfl)) (fun _ _ _ h=>h) (Or.inl ⟨by rfl,?_⟩) hHeld ?_ ?_;rotate_left
       ·rintro w' ⟨s0,s1,s2,s3,s4,s5,s6⟩;go_simp;with_reducible rfl
       rotate_left
       ·simp only [Act.put,se1_,se2_,se3_,i64_w,i32_w];rfl
       refine one_ (i:=8) (N:=some 30) #[true,true,true,true,true,true,true,true,true,true,false] rfl rfl (one_of HT_.out (by kernel_rfl)) (by decide) (fun K hK=>?_);refine goes_ Tryd.func47 (by kernel_rfl) rfl #[.slice (some ad306) l0_4.length c0_4,.slice Ao19 t300.length co19,.string (rdOf ByteArray.empty l0_4 x7_1)] (by rfl) rfl rfl am_ ?_
       with_reducible refine (quarryref17_Place.calls k1 _ _ l0_4 _ _ t300 (rdOf ByteArray.empty l0_4 x7_1) t307 _ ?side1 ?side2 ?side3 ?side4 A12.out).mono ?_
       (case side1=>repeat (first|exact (cb_ HR0_4.out HB.out)|(with_reducible refine ca_ ?_ _)|(with_reducible refine kd_ ?_ _)|(with_reducible refine ke_ ?_)))
       (case side2=>exact HC0_4.out)
       (case side3=>repeat (first|exact (Kd.R_reads' HO_5.out).2.2|(with_reducible refine ca_ ?_ _)|(with_reducible refine kd_ ?_ _)|(with_reducible refine ke_ ?_)))
       (case side4=>exact (Kd.R_reads' HO_5.out).2.1)
       rintro e w' ⟨rfl,⟨nd,rfl⟩⟩;refine ⟨_,rfl,?_⟩;refine hK.out _ _ ⟨(bc_ BK298.out 0).trans rfl,(bc_ BK298.out 1).trans rfl,(bc_ BK298.out 2).trans rfl,(bc_ BK298.out 3).trans rfl,(bc_ BK298.out 4).trans rfl,(bc_ BK298.out 5).trans rfl,((HB.out.cell (wb_ w _ hw306_0)).trans hw306_0)⟩ (fun hHeld=>?_);clear hK K;refine norm_ (a':=?_) ?_ ?_;rotate_left
       ·show Act.put _ (some 30) _ = _
        simp only [Act.put,se1_,se2_,se3_,i64_w,i32_w];rfl
       refine pure_ (i:=10) (N:=some 32) (v:=?_) (a':=?_) #[true,true,true,true,true,true,true,true,true,true,true] rfl rfl (any_of HT_.out (by kernel_rfl)) (fun _ _ _ h=>h) (Or.inl ⟨by rfl,?_⟩) ?_ ?_;rotate_left
       ·intro w';go_simp;with_reducible rfl
       rotate_left
       ·simp only [Act.put,se1_,se2_,se3_,i64_w,i32_w];rfl
       refine done_ (done_of HT_.out (by kernel_rfl)) ?_
       try go_wp2
       (try (rw [drewN_self w18];generalize hq_ : World.drewN w18 _ = w18;have n0_ : Aside0 (Kd.R (Kd.int .i64) 3 w18 w.heap.size (fun k_=>some k_ ≠ (v304 : Value).ownBlock) (.slice Ao19 t300.length co19) t300):=⟨by rw [← hq_];exact (rk_ HO_5)⟩;have n1_ : Aside0 (Kd.R (Kd.int .i64) 3 w18 w.heap.size (fun k_=>some k_ ≠ (.slice Ao19 t300.length co19 : Value).ownBlock) v304 t303):=⟨by rw [← hq_];exact (rk_ HO_6)⟩;have n2_ : Aside0 (w18.heap[gb298]? = some (.cells #[.int .i64 a0_0,.bool a0_1,.string a0_2,.string a0_3,.slice (some ad306) l0_4.length c0_4,.slice A0_5 l0_5.length c0_5] 25 (0,0))):=⟨by rw [← hq_];exact (bk_ BK298)⟩;have n3_ : Aside0 (w18.heap[gb299]? = some (.cells #[.int .i64 a1_0,.bool a1_1,.string a1_2,.string a1_3,.slice A1_4 l1_4.length c1_4,.slice A1_5 l1_5.length c1_5] 25 (0,0))):=⟨by rw [← hq_];exact (bk_ BK299)⟩;have n4_ : Aside0 (Below w.heap.size w w18):=⟨by rw [← hq_];exact (hb_ HB)⟩;clear HO_5 HO_6 BK298 BK299 HB hq_;have HO_5:=n0_;have HO_6:=n1_;have BK298:=n2_;have BK299:=n3_;have HB:=n4_;clear n0_ n1_ n2_ n3_ n4_))
       have n0_:=ad_ (Kd.R_drew HO_5.out);have n1_:=ad_ (Kd.R_drew HO_6.out);have n2_:=ad_ (blk_drew BK298.out);have n3_:=ad_ (blk_drew BK299.out);have n4_:=ad_ (below_drew1 HB.out);clear HO_5;clear HO_6;clear BK298;clear BK299;clear HB;have HO_5:=n0_;have HO_6:=n1_;have BK298:=n2_;have BK299:=n3_;have HB:=n4_;clear n0_ n1_ n2_ n3_ n4_;have p308 : 0 ≤ (x7_1 : Int):=od_ aa_;have q308 : x7_1 < (l0_4.length : Int):=od_ aa_;obtain ⟨ad308,e308,hx308_0⟩:=Kd.at_string HR0_4.out x7_1 p308 q308;have hw308_0:=hx308_0;obtain rfl : ad306 = ad308:=(by injection e308);replace hx308_0:=(HB.out.cell (wb_ w _ hx308_0)).trans hx308_0;replace p308:=eq_true p308;replace q308:=eq_true q308;obtain ⟨Ao21,co21,eo21⟩:=Kd.R_slice HO_6.out
       (first|subst eo21|(injection eo21 with f1_ f2_ f3_;have f4_:=f1_.symm;have f5_:=f3_.symm;clear f1_ f2_ f3_;subst f4_;subst f5_))
       refine start_ (n:=10) (S:=fun w'=>w'.cell? ⟨gb299,0,none⟩ = some (.int .i64 a1_0) ∧ w'.cell? ⟨gb299,1,none⟩ = some (.bool a1_1) ∧ w'.cell? ⟨gb299,2,none⟩ = some (.string a1_2) ∧ w'.cell? ⟨gb299,3,none⟩ = some (.string a1_3) ∧ w'.cell? ⟨gb299,4,none⟩ = some (.slice A1_4 l1_4.length c1_4) ∧ w'.cell? ⟨gb299,5,none⟩ = some (.slice A1_5 l1_5.length c1_5) ∧ w'.cell? ⟨gb298,0,none⟩ = some (.int .i64 a0_0) ∧ w'.cell? ⟨gb298,1,none⟩ = some (.bool a0_1) ∧ w'.cell? ⟨gb298,2,none⟩ = some (.string a0_2) ∧ w'.cell? ⟨gb298,3,none⟩ = some (.string a0_3) ∧ w'.cell? ⟨gb298,4,none⟩ = some (.slice (some ad306) l0_4.length c0_4) ∧ w'.cell? ⟨gb298,5,none⟩ = some (.slice A0_5 l0_5.length c0_5) ∧ w'.cell? (ad306.add (x7_1).toNat) = some (.string (rdOf ByteArray.empty l0_4 x7_1))) (ds:=[]) #[false,false,false,false,false,false,false,false,false,false] (by kernel_rfl) rfl rfl ⟨(bc_ BK299.out 0).trans rfl,(bc_ BK299.out 1).trans rfl,(bc_ BK299.out 2).trans rfl,(bc_ BK299.out 3).trans rfl,(bc_ BK299.out 4).trans rfl,(bc_ BK299.out 5).trans rfl,(bc_ BK298.out 0).trans rfl,(bc_ BK298.out 1).trans rfl,(bc_ BK298.out 2).trans rfl,(bc_ BK298.out 3).trans rfl,(bc_ BK298.out 4).trans rfl,(bc_ BK298.out 5).trans rfl,((HB.out.cell (wb_ w _ hw308_0)).trans hw308_0)⟩ (fun hHeld=>?_);refine with_tabW quarryref17_covers.tab6 quarryref17_covers.bits6 (fun HT_ HW_=>?_)
       generalize w18.drew = w20 at HO_5 HO_6 BK298 BK299 HB hx308_0 hHeld ⊢
       refine pure_ (i:=0) (N:=some 33) (v:=?_) (a':=?_) #[true,false,false,false,false,false,false,false,false,false] rfl rfl (any_of HT_.out (by kernel_rfl)) (fun _ _ _ h=>h) (Or.inl ⟨by rfl,?_⟩) ?_ ?_;rotate_left
       ·intro w';go_simp;with_reducible rfl
       rotate_left
       ·simp only [Act.put,se1_,se2_,se3_,i64_w,i32_w];rfl
       refine pure_ (i:=2) (N:=some 35) (v:=?_) (a':=?_) #[true,false,true,false,false,false,false,false,false,false] rfl rfl (any_of HT_.out (by kernel_rfl)) (fun _ _ _ h=>h) (Or.inl ⟨by rfl,?_⟩) ?_ ?_;rotate_left
       ·intro w';go_simp;with_reducible rfl
       rotate_left
       ·simp only [Act.put,se1_,se2_,se3_,i64_w,i32_w];rfl
       refine pure_ (i:=3) (N:=some 36) (v:=?_) (a':=?_) #[true,false,true,true,false,false,false,false,false,false] rfl rfl (any_of HT_.out (by kernel_rfl)) (fun _ _ _ h=>h) (Or.inl ⟨by rfl,?_⟩) ?_ ?_;rotate_left
       ·intro w';go_simp;with_reducible rfl
       rotate_left
       ·simp only [Act.put,se1_,se2_,se3_,i64_w,i32_w];rfl
       refine pure_ (i:=5) (N:=some 38) (v:=?_) (a':=?_) #[true,false,true,true,false,true,false,false,false,false] rfl rfl (any_of HT_.out (by kernel_rfl)) (fun _ _ _ h=>h) (Or.inl ⟨by rfl,?_⟩) ?_ ?_;rotate_left
       ·intro w';go_simp;with_reducible rfl
       rotate_left
       ·simp only [Act.put,se1_,se2_,se3_,i64_w,i32_w];rfl
       refine take_ (i:=1) (N:=some 34) (v:=?_) (a':=?_) #[true,true,true,true,false,true,false,false,false,false] rfl rfl (take_ofW HT_.out HW_.out (by kernel_rfl)) (fun _ _ _ h=>h) (Or.inl ⟨by rfl,?_⟩) hHeld ?_ ?_;rotate_left
       ·rintro w' ⟨s0,s1,s2,s3,s4,s5,s6,s7,s8,s9,s10,s11,s12⟩;go_simp;with_reducible rfl
       rotate_left
       ·simp only [Act.put,se1_,se2_,se3_,i64_w,i32_w];rfl
       refine take_ (i:=4) (N:=some 37) (v:=?_) (a':=?_) #[true,true,true,true,true,true,false,false,false,false] rfl rfl (take_ofW HT_.out HW_.out (by kernel_rfl)) (fun _ _ _ h=>h) (Or.inl ⟨by rfl,?_⟩) hHeld ?_ ?_;rotate_left
       ·rintro w' ⟨s0,s1,s2,s3,s4,s5,s6,s7,s8,s9,s10,s11,s12⟩;go_simp;with_reducible rfl
       rotate_left
       ·simp only [Act.put,se1_,se2_,se3_,i64_w,i32_w];rfl
       refine pure_ (i:=6) (N:=some 39) (v:=?_) (a':=?_) #[true,true,true,true,true,true,true,false,false,false] rfl rfl (any_of HT_.out (by kernel_rfl)) (fun _ _ _ h=>h) (Or.inl ⟨by rfl,?_⟩) ?_ ?_;rotate_left
       ·intro w';go_simp;with_reducible rfl
       rotate_left
       ·simp only [Act.put,se1_,se2_,se3_,i64_w,i32_w];rfl
       refine take_ (i:=7) (N:=some 40) (v:=?_) (a':=?_) #[true,true,true,true,true,true,true,true,false,false] rfl rfl (take_ofW HT_.out HW_.out (by kernel_rfl)) (fun _ _ _ h=>h) (Or.inl ⟨by rfl,?_⟩) hHeld ?_ ?_;rotate_left
       ·rintro w' ⟨s0,s1,s2,s3,s4,s5,s6,s7,s8,s9,s10,s11,s12⟩;go_simp;with_reducible rfl
       rotate_left
       ·simp only [Act.put,se1_,se2_,se3_,i64_w,i32_w];rfl
       refine one_ (i:=8) (N:=some 41) #[true,true,true,true,true,true,true,true,true,false] rfl rfl (one_of HT_.out (by kernel_rfl)) (by decide) (fun K hK=>?_);refine goes_ Tryd.func47 (by kernel_rfl) rfl #[.slice A1_4 l1_4.length c1_4,.slice Ao21 t303.length co21,.string (rdOf ByteArray.empty l0_4 x7_1)] (by rfl) rfl rfl am_ ?_
       with_reducible refine (quarryref17_Place.calls k1 _ _ l1_4 _ _ t303 (rdOf ByteArray.empty l0_4 x7_1) t309 _ ?side1 ?side2 ?side3 ?side4 A14.out).mono ?_
       (case side1=>repeat (first|exact (cb_ HR1_4.out HB.out)|(with_reducible refine ca_ ?_ _)|(with_reducible refine kd_ ?_ _)|(with_reducible refine ke_ ?_)))
       (case side2=>exact HC1_4.out)
       (case side3=>repeat (first|exact (Kd.R_reads' HO_6.out).2.2|(with_reducible refine ca_ ?_ _)|(with_reducible refine kd_ ?_ _)|(with_reducible refine ke_ ?_)))
       (case side4=>exact (Kd.R_reads' HO_6.out).2.1)
       rintro e w' ⟨rfl,⟨nd,rfl⟩⟩;refine ⟨_,rfl,?_⟩;refine hK.out _ _ ⟨(bc_ BK299.out 0).trans rfl,(bc_ BK299.out 1).trans rfl,(bc_ BK299.out 2).trans rfl,(bc_ BK299.out 3).trans rfl,(bc_ BK299.out 4).trans rfl,(bc_ BK299.out 5).trans rfl,(bc_ BK298.out 0).trans rfl,(bc_ BK298.out 1).trans rfl,(bc_ BK298.out 2).trans rfl,(bc_ BK298.out 3).trans rfl,(bc_ BK298.out 4).trans rfl,(bc_ BK298.out 5).trans rfl,((HB.out.cell (wb_ w _ hw308_0)).trans hw308_0)⟩ (fun hHeld=>?_);clear hK K;refine norm_ (a':=?_) ?_ ?_;rotate_left
       ·show Act.put _ (some 41) _ = _
        simp only [Act.put,se1_,se2_,se3_,i64_w,i32_w];rfl
       refine pure_ (i:=9) (N:=some 8) (v:=?_) (a':=?_) #[true,true,true,true,true,true,true,true,true,true] rfl rfl (any_of HT_.out (by kernel_rfl)) (fun _ _ _ h=>h) (Or.inl ⟨by rfl,?_⟩) ?_ ?_;rotate_left
       ·intro w';go_simp;with_reducible rfl
       rotate_left
       ·simp only [Act.put,se1_,se2_,se3_,i64_w,i32_w];rfl
       refine done_ (done_of HT_.out (by kernel_rfl)) ?_
       try go_wp2
       (try (rw [drewN_self w20];generalize hq_ : World.drewN w20 _ = w20;have n0_ : Aside0 (Kd.R (Kd.int .i64) 3 w20 w.heap.size (fun k_=>some k_ ≠ (.slice Ao21 t303.length co21 : Value).ownBlock) (.slice Ao19 t300.length co19) t300):=⟨by rw [← hq_];exact (rk_ HO_5)⟩;have n1_ : Aside0 (Kd.R (Kd.int .i64) 3 w20 w.heap.size (fun k_=>some k_ ≠ (.slice Ao19 t300.length co19 : Value).ownBlock) (.slice Ao21 t303.length co21) t303):=⟨by rw [← hq_];exact (rk_ HO_6)⟩;have n2_ : Aside0 (w20.heap[gb298]? = some (.cells #[.int .i64 a0_0,.bool a0_1,.string a0_2,.string a0_3,.slice (some ad306) l0_4.length c0_4,.slice A0_5 l0_5.length c0_5] 25 (0,0))):=⟨by rw [← hq_];exact (bk_ BK298)⟩;have n3_ : Aside0 (w20.heap[gb299]? = some (.cells #[.int .i64 a1_0,.bool a1_1,.string a1_2,.string a1_3,.slice A1_4 l1_4.length c1_4,.slice A1_5 l1_5.length c1_5] 25 (0,0))):=⟨by rw [← hq_];exact (bk_ BK299)⟩;have n4_ : Aside0 (Below w.heap.size w w20):=⟨by rw [← hq_];exact (hb_ HB)⟩;clear HO_5 HO_6 BK298 BK299 HB hq_;have HO_5:=n0_;have HO_6:=n1_;have BK298:=n2_;have BK299:=n3_;have HB:=n4_;clear n0_ n1_ n2_ n3_ n4_))
       have n0_:=ad_ (Kd.R_drew HO_5.out);have n1_:=ad_ (Kd.R_drew HO_6.out);have n2_:=ad_ (blk_drew BK298.out);have n3_:=ad_ (blk_drew BK299.out);have n4_:=ad_ (below_drew1 HB.out);clear HO_5;clear HO_6;clear BK298;clear BK299;clear HB;have HO_5:=n0_;have HO_6:=n1_;have BK298:=n2_;have BK299:=n3_;have HB:=n4_;clear n0_ n1_ n2_ n3_ n4_;refine start_ (n:=16) (S:=fun w'=>True) (ds:=[]) #[false,false,false,false,false,false,false,false,false,false,false,false,false,false,false,false] (by kernel_rfl) rfl rfl trivial (fun hHeld=>?_);refine with_tabW quarryref17_covers.tab7 quarryref17_covers.bits7 (fun HT_ HW_=>?_)
       generalize w20.drew = w22 at HO_5 HO_6 BK298 BK299 HB hHeld ⊢
       refine pure_ (i:=0) (N:=some 42) (v:=?_) (a':=?_) #[true,false,false,false,false,false,false,false,false,false,false,false,false,false,false,false] rfl rfl (any_of HT_.out (by kernel_rfl)) (fun _ _ _ h=>h) (Or.inl ⟨by rfl,?_⟩) ?_ ?_;rotate_left
       ·intro w';go_simp;with_reducible rfl
       rotate_left
       ·simp only [Act.put,se1_,se2_,se3_,i64_w,i32_w];rfl
       refine pure_ (i:=1) (N:=some 43) (v:=?_) (a':=?_) #[true,true,false,false,false,false,false,false,false,false,false,false,false,false,false,false] rfl rfl (any_of HT_.out (by kernel_rfl)) (fun _ _ _ h=>h) (Or.inl ⟨by rfl,?_⟩) ?_ ?_;rotate_left
       ·intro w';go_simp;with_reducible rfl
       rotate_left
       ·simp only [Act.put,se1_,se2_,se3_,i64_w,i32_w];rfl
       refine pure_ (i:=2) (N:=some 44) (v:=?_) (a':=?_) #[true,true,true,false,false,false,false,false,false,false,false,false,false,false,false,false] rfl rfl (any_of HT_.out (by kernel_rfl)) (fun _ _ _ h=>h) (Or.inl ⟨by rfl,?_⟩) ?_ ?_;rotate_left
       ·intro w';go_simp;with_reducible rfl
       rotate_left
       ·simp only [Act.put,se1_,se2_,se3_,i64_w,i32_w];rfl
       refine pure_ (i:=3) (N:=some 45) (v:=undef) (a':=?_) #[true,true,true,true,false,false,false,false,false,false,false,false,false,false,false,false] rfl rfl (any_of HT_.out (by kernel_rfl)) (fun _ _ _ h=>h) (Or.inr ⟨by rfl,rfl⟩) ?_ ?_;rotate_left
       ·simp only [Act.put,se1_,se2_,se3_,i64_w,i32_w];rfl
       refine pure_ (i:=4) (N:=some 46) (v:=undef) (a':=?_) #[true,true,true,true,true,false,false,false,false,false,false,false,false,false,false,false] rfl rfl (any_of HT_.out (by kernel_rfl)) (fun _ _ _ h=>h) (Or.inr ⟨by rfl,rfl⟩) ?_ ?_;rotate_left
       ·simp only [Act.put,se1_,se2_,se3_,i64_w,i32_w];rfl
       refine pure_ (i:=5) (N:=some 47) (v:=undef) (a':=?_) #[true,true,true,true,true,true,false,false,false,false,false,false,false,false,false,false] rfl rfl (any_of HT_.out (by kernel_rfl)) (fun _ _ _ h=>h) (Or.inr ⟨by rfl,rfl⟩) ?_ ?_;rotate_left
       ·simp only [Act.put,se1_,se2_,se3_,i64_w,i32_w];rfl
       refine pure_ (i:=6) (N:=some 48) (v:=undef) (a':=?_) #[true,true,true,true,true,true,true,false,false,false,false,false,false,false,false,false] rfl rfl (any_of HT_.out (by kernel_rfl)) (fun _ _ _ h=>h) (Or.inr ⟨by rfl,rfl⟩) ?_ ?_;rotate_left
       ·simp only [Act.put,se1_,se2_,se3_,i64_w,i32_w];rfl
       refine pure_ (i:=7) (N:=some 49) (v:=undef) (a':=?_) #[true,true,true,true,true,true,true,true,false,false,false,false,false,false,false,false] rfl rfl (any_of HT_.out (by kernel_rfl)) (fun _ _ _ h=>h) (Or.inr ⟨by rfl,rfl⟩) ?_ ?_;rotate_left
       ·simp only [Act.put,se1_,se2_,se3_,i64_w,i32_w];rfl
       refine pure_ (i:=8) (N:=some 50) (v:=undef) (a':=?_) #[true,true,true,true,true,true,true,true,true,false,false,false,false,false,false,false] rfl rfl (any_of HT_.out (by kernel_rfl)) (fun _ _ _ h=>h) (Or.inr ⟨by rfl,rfl⟩) ?_ ?_;rotate_left
       ·simp only [Act.put,se1_,se2_,se3_,i64_w,i32_w];rfl
       refine pure_ (i:=9) (N:=some 51) (v:=undef) (a':=?_) #[true,true,true,true,true,true,true,true,true,true,false,false,false,false,false,false] rfl rfl (any_of HT_.out (by kernel_rfl)) (fun _ _ _ h=>h) (Or.inr ⟨by rfl,rfl⟩) ?_ ?_;rotate_left
       ·simp only [Act.put,se1_,se2_,se3_,i64_w,i32_w];rfl
       refine pure_ (i:=10) (N:=some 52) (v:=undef) (a':=?_) #[true,true,true,true,true,true,true,true,true,true,true,false,false,false,false,false] rfl rfl (any_of HT_.out (by kernel_rfl)) (fun _ _ _ h=>h) (Or.inr ⟨by rfl,rfl⟩) ?_ ?_;rotate_left
       ·simp only [Act.put,se1_,se2_,se3_,i64_w,i32_w];rfl
       refine pure_ (i:=11) (N:=some 53) (v:=undef) (a':=?_) #[true,true,true,true,true,true,true,true,true,true,true,true,false,false,false,false] rfl rfl (any_of HT_.out (by kernel_rfl)) (fun _ _ _ h=>h) (Or.inr ⟨by rfl,rfl⟩) ?_ ?_;rotate_left
       ·simp only [Act.put,se1_,se2_,se3_,i64_w,i32_w];rfl
       refine pure_ (i:=12) (N:=some 54) (v:=undef) (a':=?_) #[true,true,true,true,true,true,true,true,true,true,true,true,true,false,false,false] rfl rfl (any_of HT_.out (by kernel_rfl)) (fun _ _ _ h=>h) (Or.inr ⟨by rfl,rfl⟩) ?_ ?_;rotate_left
       ·simp only [Act.put,se1_,se2_,se3_,i64_w,i32_w];rfl
       refine pure_ (i:=13) (N:=some 55) (v:=undef) (a':=?_) #[true,true,true,true,true,true,true,true,true,true,true,true,true,true,false,false] rfl rfl (any_of HT_.out (by kernel_rfl)) (fun _ _ _ h=>h) (Or.inr ⟨by rfl,rfl⟩) ?_ ?_;rotate_left
       ·simp only [Act.put,se1_,se2_,se3_,i64_w,i32_w];rfl
       refine pure_ (i:=14) (N:=some 56) (v:=undef) (a':=?_) #[true,true,true,true,true,true,true,true,true,true,true,true,true,true,true,false] rfl rfl (any_of HT_.out (by kernel_rfl)) (fun _ _ _ h=>h) (Or.inr ⟨by rfl,rfl⟩) ?_ ?_;rotate_left
       ·simp only [Act.put,se1_,se2_,se3_,i64_w,i32_w];rfl
       refine pure_ (i:=15) (N:=some 57) (v:=?_) (a':=?_) #[true,true,true,true,true,true,true,true,true,true,true,true,true,true,true,true] rfl rfl (any_of HT_.out (by kernel_rfl)) (fun _ _ _ h=>h) (Or.inl ⟨by rfl,?_⟩) ?_ ?_;rotate_left
       ·intro w';go_simp;with_reducible rfl
       rotate_left
       ·simp only [Act.put,se1_,se2_,se3_,i64_w,i32_w];rfl
       refine done_ (done_of HT_.out (by kernel_rfl)) ?_
       try go_wp2
       go_ret;exact ⟨er_,(hb_ HB)⟩
      rw [if_neg c15] at H
      have c15b0 : decide (t309 < 0) = false:=df_ c15;clear c15
      by_cases c23 : x7_1 < (l0_5.length : Int)
      ·rw [if_pos c23] at H
       have c23b0 : decide (x7_1 < (l0_5.length : Int)) = true:=dt_ c23;clear c23
       by_cases c24 : 0 ≤ t309
       ·rw [if_pos c24] at H
        have c24b0 : decide (0 ≤ t309) = true:=dt_ c24;clear c24
        by_cases c25 : t309 < (l1_5.length : Int)
        ·rw [if_pos c25] at H
         have c25b0 : decide (t309 < (l1_5.length : Int)) = true:=dt_ c25;clear c25;replace H:=Option.bind_eq_some_iff.mp H;obtain ⟨t312,A260,H⟩:=H
         try dsimp only at H
         have A26:=ad_ A260;clear A260
         by_cases c27 : t312 = true
         ·subst c27
          rw [if_pos rfl] at H
          have H':=ad_ H;clear H;have hnb28:=NB298_299.out;have hnc28:=NB299_298.out;obtain ⟨hcz29_0,hcz29_1,hcz29_2,hcz29_3,hcz29_4,hcz29_5,hfz29_0,hfz29_1,hfz29_2,hfz29_3,hfz29_4,hfz29_5⟩:=cf6_ BK298
          try go_wp2
          have n0_:=ad_ (Kd.R_drew HO_5.out);have n1_:=ad_ (Kd.R_drew HO_6.out);have n2_:=ad_ (blk_drew BK298.out);have n3_:=ad_ (blk_drew BK299.out);have n4_:=ad_ (below_drew1 HB.out);clear HO_5;clear HO_6;clear BK298;clear BK299;clear HB;have HO_5:=n0_;have HO_6:=n1_;have BK298:=n2_;have BK299:=n3_;have HB:=n4_;clear n0_ n1_ n2_ n3_ n4_;have p306 : 0 ≤ (x7_1 : Int):=od_ aa_;have q306 : x7_1 < (l0_4.length : Int):=od_ aa_;obtain ⟨ad306,e306,hx306_0⟩:=Kd.at_string HR0_4.out x7_1 p306 q306;have hw306_0:=hx306_0;cases e306;replace hx306_0:=(HB.out.cell (wb_ w _ hx306_0)).trans hx306_0;replace p306:=eq_true p306;replace q306:=eq_true q306;obtain ⟨Ao31,co31,eo31⟩:=Kd.R_slice HO_5.out
          (first|subst eo31|(injection eo31 with f1_ f2_ f3_;have f4_:=f1_.symm;have f5_:=f3_.symm;clear f1_ f2_ f3_;subst f4_;subst f5_))
          refine start_ (n:=11) (S:=fun w'=>w'.cell? ⟨gb298,0,none⟩ = some (.int .i64 a0_0) ∧ w'.cell? ⟨gb298,1,none⟩ = some (.bool a0_1) ∧ w'.cell? ⟨gb298,2,none⟩ = some (.string a0_2) ∧ w'.cell? ⟨gb298,3,none⟩ = some (.string a0_3) ∧ w'.cell? ⟨gb298,4,none⟩ = some (.slice (some ad306) l0_4.length c0_4) ∧ w'.cell? ⟨gb298,5,none⟩ = some (.slice A0_5 l0_5.length c0_5) ∧ w'.cell? (ad306.add (x7_1).toNat) = some (.string (rdOf ByteArray.empty l0_4 x7_1))) (ds:=[]) #[false,false,false,false,false,false,false,false,false,false,false] (by kernel_rfl) rfl rfl ⟨(bc_ BK298.out 0).trans rfl,(bc_ BK298.out 1).trans rfl,(bc_ BK298.out 2).trans rfl,(bc_ BK298.out 3).trans rfl,(bc_ BK298.out 4).trans rfl,(bc_ BK298.out 5).trans rfl,((HB.out.cell (wb_ w _ hw306_0)).trans hw306_0)⟩ (fun hHeld=>?_);refine with_tabW quarryref17_covers.tab5 quarryref17_covers.bits5 (fun HT_ HW_=>?_)
          generalize wr.drew = w30 at HO_5 HO_6 BK298 BK299 HB hx306_0 hHeld ⊢
          refine pure_ (i:=0) (N:=some 22) (v:=?_) (a':=?_) #[true,false,false,false,false,false,false,false,false,false,false] rfl rfl (any_of HT_.out (by kernel_rfl)) (fun _ _ _ h=>h) (Or.inl ⟨by rfl,?_⟩) ?_ ?_;rotate_left
          ·intro w';go_simp;with_reducible rfl
          rotate_left
          ·simp only [Act.put,se1_,se2_,se3_,i64_w,i32_w];rfl
          refine pure_ (i:=2) (N:=some 24) (v:=?_) (a':=?_) #[true,false,true,false,false,false,false,false,false,false,false] rfl rfl (any_of HT_.out (by kernel_rfl)) (fun _ _ _ h=>h) (Or.inl ⟨by rfl,?_⟩) ?_ ?_;rotate_left
          ·intro w';go_simp;with_reducible rfl
          rotate_left
          ·simp only [Act.put,se1_,se2_,se3_,i64_w,i32_w];rfl
          refine pure_ (i:=3) (N:=some 25) (v:=?_) (a':=?_) #[true,false,true,true,false,false,false,false,false,false,false] rfl rfl (any_of HT_.out (by kernel_rfl)) (fun _ _ _ h=>h) (Or.inl ⟨by rfl,?_⟩) ?_ ?_;rotate_left
          ·intro w';go_simp;with_reducible rfl
          rotate_left
          ·simp only [Act.put,se1_,se2_,se3_,i64_w,i32_w];rfl
          refine pure_ (i:=5) (N:=some 27) (v:=?_) (a':=?_) #[true,false,true,true,false,true,false,false,false,false,false] rfl rfl (any_of HT_.out (by kernel_rfl)) (fun _ _ _ h=>h) (Or.inl ⟨by rfl,?_⟩) ?_ ?_;rotate_left
          ·intro w';go_simp;with_reducible rfl
          rotate_left
          ·simp only [Act.put,se1_,se2_,se3_,i64_w,i32_w];rfl
          refine pure_ (i:=9) (N:=some 31) (v:=?_) (a':=?_) #[true,false,true,true,false,true,false,false,false,true,false] rfl rfl (any_of HT_.out (by kernel_rfl)) (fun _ _ _ h=>h) (Or.inl ⟨by rfl,?_⟩) ?_ ?_;rotate_left
          ·intro w';go_simp;with_reducible rfl
          rotate_left
          ·simp only [Act.put,se1_,se2_,se3_,i64_w,i32_w];rfl
          refine take_ (i:=1) (N:=some 23) (v:=?_) (a':=?_) #[true,true,true,true,false,true,false,false,false,true,false] rfl rfl (take_ofW HT_.out HW_.out (by kernel_rfl)) (fun _ _ _ h=>h) (Or.inl ⟨by rfl,?_⟩) hHeld ?_ ?_;rotate_left
          ·rintro w' ⟨s0,s1,s2,s3,s4,s5,s6⟩;go_simp;with_reducible rfl
          rotate_left
          ·simp only [Act.put,se1_,se2_,se3_,i64_w,i32_w];rfl
          refine take_ (i:=4) (N:=some 26) (v:=?_) (a':=?_) #[true,true,true,true,true,true,false,false,false,true,false] rfl rfl (take_ofW HT_.out HW_.out (by kernel_rfl)) (fun _ _ _ h=>h) (Or.inl ⟨by rfl,?_⟩) hHeld ?_ ?_;rotate_left
          ·rintro w' ⟨s0,s1,s2,s3,s4,s5,s6⟩;go_simp;with_reducible rfl
          rotate_left
          ·simp only [Act.put,se1_,se2_,se3_,i64_w,i32_w];rfl
          refine pure_ (i:=6) (N:=some 28) (v:=?_) (a':=?_) #[true,true,true,true,true,true,true,false,false,true,false] rfl rfl (any_of HT_.out (by kernel_rfl)) (fun _ _ _ h=>h) (Or.inl ⟨by rfl,?_⟩) ?_ ?_;rotate_left
          ·intro w';go_simp;with_reducible rfl
          rotate_left
          ·simp only [Act.put,se1_,se2_,se3_,i64_w,i32_w];rfl
          refine take_ (i:=7) (N:=some 29) (v:=?_) (a':=?_) #[true,true,true,true,true,true,true,true,false,true,false] rfl rfl (take_ofW HT_.out HW_.out (by kernel_rfl)) (fun _ _ _ h=>h) (Or.inl ⟨by rfl,?_⟩) hHeld ?_ ?_;rotate_left
          ·rintro w' ⟨s0,s1,s2,s3,s4,s5,s6⟩;go_simp;with_reducible rfl
          rotate_left
          ·simp only [Act.put,se1_,se2_,se3_,i64_w,i32_w];rfl
          refine one_ (i:=8) (N:=some 30) #[true,true,true,true,true,true,true,true,true,true,false] rfl rfl (one_of HT_.out (by kernel_rfl)) (by decide) (fun K hK=>?_);refine goes_ Tryd.func47 (by kernel_rfl) rfl #[.slice (some ad306) l0_4.length c0_4,.slice Ao31 t300.length co31,.string (rdOf ByteArray.empty l0_4 x7_1)] (by rfl) rfl rfl am_ ?_
          with_reducible refine (quarryref17_Place.calls k1 _ _ l0_4 _ _ t300 (rdOf ByteArray.empty l0_4 x7_1) t307 _ ?side1 ?side2 ?side3 ?side4 A12.out).mono ?_
          (case side1=>repeat (first|exact (cb_ HR0_4.out HB.out)|(with_reducible refine ca_ ?_ _)|(with_reducible refine kd_ ?_ _)|(with_reducible refine ke_ ?_)))
          (case side2=>exact HC0_4.out)
          (case side3=>repeat (first|exact (Kd.R_reads' HO_5.out).2.2|(with_reducible refine ca_ ?_ _)|(with_reducible refine kd_ ?_ _)|(with_reducible refine ke_ ?_)))
          (case side4=>exact (Kd.R_reads' HO_5.out).2.1)
          rintro e w' ⟨rfl,⟨nd,rfl⟩⟩;refine ⟨_,rfl,?_⟩;refine hK.out _ _ ⟨(bc_ BK298.out 0).trans rfl,(bc_ BK298.out 1).trans rfl,(bc_ BK298.out 2).trans rfl,(bc_ BK298.out 3).trans rfl,(bc_ BK298.out 4).trans rfl,(bc_ BK298.out 5).trans rfl,((HB.out.cell (wb_ w _ hw306_0)).trans hw306_0)⟩ (fun hHeld=>?_);clear hK K;refine norm_ (a':=?_) ?_ ?_;rotate_left
          ·show Act.put _ (some 30) _ = _
           simp only [Act.put,se1_,se2_,se3_,i64_w,i32_w];rfl
          refine pure_ (i:=10) (N:=some 32) (v:=?_) (a':=?_) #[true,true,true,true,true,true,true,true,true,true,true] rfl rfl (any_of HT_.out (by kernel_rfl)) (fun _ _ _ h=>h) (Or.inl ⟨by rfl,?_⟩) ?_ ?_;rotate_left
          ·intro w';go_simp;with_reducible rfl
          rotate_left
          ·simp only [Act.put,se1_,se2_,se3_,i64_w,i32_w];rfl
          refine done_ (done_of HT_.out (by kernel_rfl)) ?_
          try go_wp2
          (try (rw [drewN_self w30];generalize hq_ : World.drewN w30 _ = w30;have n0_ : Aside0 (Kd.R (Kd.int .i64) 3 w30 w.heap.size (fun k_=>some k_ ≠ (v304 : Value).ownBlock) (.slice Ao31 t300.length co31) t300):=⟨by rw [← hq_];exact (rk_ HO_5)⟩;have n1_ : Aside0 (Kd.R (Kd.int .i64) 3 w30 w.heap.size (fun k_=>some k_ ≠ (.slice Ao31 t300.length co31 : Value).ownBlock) v304 t303):=⟨by rw [← hq_];exact (rk_ HO_6)⟩;have n2_ : Aside0 (w30.heap[gb298]? = some (.cells #[.int .i64 a0_0,.bool a0_1,.string a0_2,.string a0_3,.slice (some ad306) l0_4.length c0_4,.slice A0_5 l0_5.length c0_5] 25 (0,0))):=⟨by rw [← hq_];exact (bk_ BK298)⟩;have n3_ : Aside0 (w30.heap[gb299]? = some (.cells #[.int .i64 a1_0,.bool a1_1,.string a1_2,.string a1_3,.slice A1_4 l1_4.length c1_4,.slice A1_5 l1_5.length c1_5] 25 (0,0))):=⟨by rw [← hq_];exact (bk_ BK299)⟩;have n4_ : Aside0 (Below w.heap.size w w30):=⟨by rw [← hq_];exact (hb_ HB)⟩;clear HO_5 HO_6 BK298 BK299 HB hq_;have HO_5:=n0_;have HO_6:=n1_;have BK298:=n2_;have BK299:=n3_;have HB:=n4_;clear n0_ n1_ n2_ n3_ n4_))
          have n0_:=ad_ (Kd.R_drew HO_5.out);have n1_:=ad_ (Kd.R_drew HO_6.out);have n2_:=ad_ (blk_drew BK298.out);have n3_:=ad_ (blk_drew BK299.out);have n4_:=ad_ (below_drew1 HB.out);clear HO_5;clear HO_6;clear BK298;clear BK299;clear HB;have HO_5:=n0_;have HO_6:=n1_;have BK298:=n2_;have BK299:=n3_;have HB:=n4_;clear n0_ n1_ n2_ n3_ n4_;have p308 : 0 ≤ (x7_1 : Int):=od_ aa_;have q308 : x7_1 < (l0_4.length : Int):=od_ aa_;obtain ⟨ad308,e308,hx308_0⟩:=Kd.at_string HR0_4.out x7_1 p308 q308;have hw308_0:=hx308_0;obtain rfl : ad306 = ad308:=(by injection e308);replace hx308_0:=(HB.out.cell (wb_ w _ hx308_0)).trans hx308_0;replace p308:=eq_true p308;replace q308:=eq_true q308;obtain ⟨Ao33,co33,eo33⟩:=Kd.R_slice HO_6.out
          (first|subst eo33|(injection eo33 with f1_ f2_ f3_;have f4_:=f1_.symm;have f5_:=f3_.symm;clear f1_ f2_ f3_;subst f4_;subst f5_))
          refine start_ (n:=10) (S:=fun w'=>w'.cell? ⟨gb299,0,none⟩ = some (.int .i64 a1_0) ∧ w'.cell? ⟨gb299,1,none⟩ = some (.bool a1_1) ∧ w'.cell? ⟨gb299,2,none⟩ = some (.string a1_2) ∧ w'.cell? ⟨gb299,3,none⟩ = some (.string a1_3) ∧ w'.cell? ⟨gb299,4,none⟩ = some (.slice A1_4 l1_4.length c1_4) ∧ w'.cell? ⟨gb299,5,none⟩ = some (.slice A1_5 l1_5.length c1_5) ∧ w'.cell? ⟨gb298,0,none⟩ = some (.int .i64 a0_0) ∧ w'.cell? ⟨gb298,1,none⟩ = some (.bool a0_1) ∧ w'.cell? ⟨gb298,2,none⟩ = some (.string a0_2) ∧ w'.cell? ⟨gb298,3,none⟩ = some (.string a0_3) ∧ w'.cell? ⟨gb298,4,none⟩ = some (.slice (some ad306) l0_4.length c0_4) ∧ w'.cell? ⟨gb298,5,none⟩ = some (.slice A0_5 l0_5.length c0_5) ∧ w'.cell? (ad306.add (x7_1).toNat) = some (.string (rdOf ByteArray.empty l0_4 x7_1))) (ds:=[]) #[false,false,false,false,false,false,false,false,false,false] (by kernel_rfl) rfl rfl ⟨(bc_ BK299.out 0).trans rfl,(bc_ BK299.out 1).trans rfl,(bc_ BK299.out 2).trans rfl,(bc_ BK299.out 3).trans rfl,(bc_ BK299.out 4).trans rfl,(bc_ BK299.out 5).trans rfl,(bc_ BK298.out 0).trans rfl,(bc_ BK298.out 1).trans rfl,(bc_ BK298.out 2).trans rfl,(bc_ BK298.out 3).trans rfl,(bc_ BK298.out 4).trans rfl,(bc_ BK298.out 5).trans rfl,((HB.out.cell (wb_ w _ hw308_0)).trans hw308_0)⟩ (fun hHeld=>?_);refine with_tabW quarryref17_covers.tab6 quarryref17_covers.bits6 (fun HT_ HW_=>?_)
          generalize w30.drew = w32 at HO_5 HO_6 BK298 BK299 HB hx308_0 hHeld ⊢
          refine pure_ (i:=0) (N:=some 33) (v:=?_) (a':=?_) #[true,false,false,false,false,false,false,false,false,false] rfl rfl (any_of HT_.out (by kernel_rfl)) (fun _ _ _ h=>h) (Or.inl ⟨by rfl,?_⟩) ?_ ?_;rotate_left
          ·intro w';go_simp;with_reducible rfl
          rotate_left
          ·simp only [Act.put,se1_,se2_,se3_,i64_w,i32_w];rfl
          refine pure_ (i:=2) (N:=some 35) (v:=?_) (a':=?_) #[true,false,true,false,false,false,false,false,false,false] rfl rfl (any_of HT_.out (by kernel_rfl)) (fun _ _ _ h=>h) (Or.inl ⟨by rfl,?_⟩) ?_ ?_;rotate_left
          ·intro w';go_simp;with_reducible rfl
          rotate_left
          ·simp only [Act.put,se1_,se2_,se3_,i64_w,i32_w];rfl
          refine pure_ (i:=3) (N:=some 36) (v:=?_) (a':=?_) #[true,false,true,true,false,false,false,false,false,false] rfl rfl (any_of HT_.out (by kernel_rfl)) (fun _ _ _ h=>h) (Or.inl ⟨by rfl,?_⟩) ?_ ?_;rotate_left
          ·intro w';go_simp;with_reducible rfl
          rotate_left
          ·simp only [Act.put,se1_,se2_,se3_,i64_w,i32_w];rfl
          refine pure_ (i:=5) (N:=some 38) (v:=?_) (a':=?_) #[true,false,true,true,false,true,false,false,false,false] rfl rfl (any_of HT_.out (by kernel_rfl)) (fun _ _ _ h=>h) (Or.inl ⟨by rfl,?_⟩) ?_ ?_;rotate_left
          ·intro w';go_simp;with_reducible rfl
          rotate_left
          ·simp only [Act.put,se1_,se2_,se3_,i64_w,i32_w];rfl
          refine take_ (i:=1) (N:=some 34) (v:=?_) (a':=?_) #[true,true,true,true,false,true,false,false,false,false] rfl rfl (take_ofW HT_.out HW_.out (by kernel_rfl)) (fun _ _ _ h=>h) (Or.inl ⟨by rfl,?_⟩) hHeld ?_ ?_;rotate_left
          ·rintro w' ⟨s0,s1,s2,s3,s4,s5,s6,s7,s8,s9,s10,s11,s12⟩;go_simp;with_reducible rfl
          rotate_left
          ·simp only [Act.put,se1_,se2_,se3_,i64_w,i32_w];rfl
          refine take_ (i:=4) (N:=some 37) (v:=?_) (a':=?_) #[true,true,true,true,true,true,false,false,false,false] rfl rfl (take_ofW HT_.out HW_.out (by kernel_rfl)) (fun _ _ _ h=>h) (Or.inl ⟨by rfl,?_⟩) hHeld ?_ ?_;rotate_left
          ·rintro w' ⟨s0,s1,s2,s3,s4,s5,s6,s7,s8,s9,s10,s11,s12⟩;go_simp;with_reducible rfl
          rotate_left
          ·simp only [Act.put,se1_,se2_,se3_,i64_w,i32_w];rfl
          refine pure_ (i:=6) (N:=some 39) (v:=?_) (a':=?_) #[true,true,true,true,true,true,true,false,false,false] rfl rfl (any_of HT_.out (by kernel_rfl)) (fun _ _ _ h=>h) (Or.inl ⟨by rfl,?_⟩) ?_ ?_;rotate_left
          ·intro w';go_simp;with_reducible rfl
          rotate_left
          ·simp only [Act.put,se1_,se2_,se3_,i64_w,i32_w];rfl
          refine take_ (i:=7) (N:=some 40) (v:=?_) (a':=?_) #[true,true,true,true,true,true,true,true,false,false] rfl rfl (take_ofW HT_.out HW_.out (by kernel_rfl)) (fun _ _ _ h=>h) (Or.inl ⟨by rfl,?_⟩) hHeld ?_ ?_;rotate_left
          ·rintro w' ⟨s0,s1,s2,s3,s4,s5,s6,s7,s8,s9,s10,s11,s12⟩;go_simp;with_reducible rfl
          rotate_left
          ·simp only [Act.put,se1_,se2_,se3_,i64_w,i32_w];rfl
          refine one_ (i:=8) (N:=some 41) #[true,true,true,true,true,true,true,true,true,false] rfl rfl (one_of HT_.out (by kernel_rfl)) (by decide) (fun K hK=>?_);refine goes_ Tryd.func47 (by kernel_rfl) rfl #[.slice A1_4 l1_4.length c1_4,.slice Ao33 t303.length co33,.string (rdOf ByteArray.empty l0_4 x7_1)] (by rfl) rfl rfl am_ ?_
          with_reducible refine (quarryref17_Place.calls k1 _ _ l1_4 _ _ t303 (rdOf ByteArray.empty l0_4 x7_1) t309 _ ?side1 ?side2 ?side3 ?side4 A14.out).mono ?_
          (case side1=>repeat (first|exact (cb_ HR1_4.out HB.out)|(with_reducible refine ca_ ?_ _)|(with_reducible refine kd_ ?_ _)|(with_reducible refine ke_ ?_)))
          (case side2=>exact HC1_4.out)
          (case side3=>repeat (first|exact (Kd.R_reads' HO_6.out).2.2|(with_reducible refine ca_ ?_ _)|(with_reducible refine kd_ ?_ _)|(with_reducible refine ke_ ?_)))
          (case side4=>exact (Kd.R_reads' HO_6.out).2.1)
          rintro e w' ⟨rfl,⟨nd,rfl⟩⟩;refine ⟨_,rfl,?_⟩;refine hK.out _ _ ⟨(bc_ BK299.out 0).trans rfl,(bc_ BK299.out 1).trans rfl,(bc_ BK299.out 2).trans rfl,(bc_ BK299.out 3).trans rfl,(bc_ BK299.out 4).trans rfl,(bc_ BK299.out 5).trans rfl,(bc_ BK298.out 0).trans rfl,(bc_ BK298.out 1).trans rfl,(bc_ BK298.out 2).trans rfl,(bc_ BK298.out 3).trans rfl,(bc_ BK298.out 4).trans rfl,(bc_ BK298.out 5).trans rfl,((HB.out.cell (wb_ w _ hw308_0)).trans hw308_0)⟩ (fun hHeld=>?_);clear hK K;refine norm_ (a':=?_) ?_ ?_;rotate_left
          ·show Act.put _ (some 41) _ = _
           simp only [Act.put,se1_,se2_,se3_,i64_w,i32_w];rfl
          refine pure_ (i:=9) (N:=some 8) (v:=?_) (a':=?_) #[true,true,true,true,true,true,true,true,true,true] rfl rfl (any_of HT_.out (by kernel_rfl)) (fun _ _ _ h=>h) (Or.inl ⟨by rfl,?_⟩) ?_ ?_;rotate_left
          ·intro w';go_simp;with_reducible rfl
          rotate_left
          ·simp only [Act.put,se1_,se2_,se3_,i64_w,i32_w];rfl
          refine done_ (done_of HT_.out (by kernel_rfl)) ?_
          try go_wp2
          (try (rw [drewN_self w32];generalize hq_ : World.drewN w32 _ = w32;have n0_ : Aside0 (Kd.R (Kd.int .i64) 3 w32 w.heap.size (fun k_=>some k_ ≠ (.slice Ao33 t303.length co33 : Value).ownBlock) (.slice Ao31 t300.length co31) t300):=⟨by rw [← hq_];exact (rk_ HO_5)⟩;have n1_ : Aside0 (Kd.R (Kd.int .i64) 3 w32 w.heap.size (fun k_=>some k_ ≠ (.slice Ao31 t300.length co31 : Value).ownBlock) (.slice Ao33 t303.length co33) t303):=⟨by rw [← hq_];exact (rk_ HO_6)⟩;have n2_ : Aside0 (w32.heap[gb298]? = some (.cells #[.int .i64 a0_0,.bool a0_1,.string a0_2,.string a0_3,.slice (some ad306) l0_4.length c0_4,.slice A0_5 l0_5.length c0_5] 25 (0,0))):=⟨by rw [← hq_];exact (bk_ BK298)⟩;have n3_ : Aside0 (w32.heap[gb299]? = some (.cells #[.int .i64 a1_0,.bool a1_1,.string a1_2,.string a1_3,.slice A1_4 l1_4.length c1_4,.slice A1_5 l1_5.length c1_5] 25 (0,0))):=⟨by rw [← hq_];exact (bk_ BK299)⟩;have n4_ : Aside0 (Below w.heap.size w w32):=⟨by rw [← hq_];exact (hb_ HB)⟩;clear HO_5 HO_6 BK298 BK299 HB hq_;have HO_5:=n0_;have HO_6:=n1_;have BK298:=n2_;have BK299:=n3_;have HB:=n4_;clear n0_ n1_ n2_ n3_ n4_))
          have n0_:=ad_ (Kd.R_drew HO_5.out);have n1_:=ad_ (Kd.R_drew HO_6.out);have n2_:=ad_ (blk_drew BK298.out);have n3_:=ad_ (blk_drew BK299.out);have n4_:=ad_ (below_drew1 HB.out);clear HO_5;clear HO_6;clear BK298;clear BK299;clear HB;have HO_5:=n0_;have HO_6:=n1_;have BK298:=n2_;have BK299:=n3_;have HB:=n4_;clear n0_ n1_ n2_ n3_ n4_;have p310 : 0 ≤ (x7_1 : Int):=od_ aa_;have q310 : x7_1 < (l0_5.length : Int):=od_ aa_;obtain ⟨ad310,A310_4,c310_4,A310_5,c310_5,e310,hx310_0,hx310_1,hx310_2,hx310_3,hx310_4,hx310_5,hl310_4,hi310_4,hl310_5,hi310_5⟩:=at_T25 HR0_5.out x7_1 p310 q310;have hw310_5:=hx310_5;have hw310_4:=hx310_4;have hw310_3:=hx310_3;have hw310_2:=hx310_2;have hw310_1:=hx310_1;have hw310_0:=hx310_0;cases e310;replace hx310_0:=(HB.out.cell (wb_ w _ hx310_0)).trans hx310_0;replace hx310_1:=(HB.out.cell (wb_ w _ hx310_1)).trans hx310_1;replace hx310_2:=(HB.out.cell (wb_ w _ hx310_2)).trans hx310_2;replace hx310_3:=(HB.out.cell (wb_ w _ hx310_3)).trans hx310_3;replace hx310_4:=(HB.out.cell (wb_ w _ hx310_4)).trans hx310_4;replace hx310_5:=(HB.out.cell (wb_ w _ hx310_5)).trans hx310_5;have HR310_4:=ad_ hi310_4;have HC310_4:=ad_ hl310_4;clear hi310_4 hl310_4;have HR310_5:=ad_ hi310_5;have HC310_5:=ad_ hl310_5;clear hi310_5 hl310_5;replace p310:=eq_true p310;replace q310:=eq_true q310;have p311 : 0 ≤ (t309 : Int):=od_ aa_;have q311 : t309 < (l1_5.length : Int):=od_ aa_;obtain ⟨ad311,A311_4,c311_4,A311_5,c311_5,e311,hx311_0,hx311_1,hx311_2,hx311_3,hx311_4,hx311_5,hl311_4,hi311_4,hl311_5,hi311_5⟩:=at_T25 HR1_5.out t309 p311 q311
          have hw311_5:=hx311_5;have hw311_4:=hx311_4;have hw311_3:=hx311_3;have hw311_2:=hx311_2;have hw311_1:=hx311_1;have hw311_0:=hx311_0;cases e311;replace hx311_0:=(HB.out.cell (wb_ w _ hx311_0)).trans hx311_0;replace hx311_1:=(HB.out.cell (wb_ w _ hx311_1)).trans hx311_1;replace hx311_2:=(HB.out.cell (wb_ w _ hx311_2)).trans hx311_2;replace hx311_3:=(HB.out.cell (wb_ w _ hx311_3)).trans hx311_3;replace hx311_4:=(HB.out.cell (wb_ w _ hx311_4)).trans hx311_4;replace hx311_5:=(HB.out.cell (wb_ w _ hx311_5)).trans hx311_5;have HR311_4:=ad_ hi311_4;have HC311_4:=ad_ hl311_4;clear hi311_4 hl311_4;have HR311_5:=ad_ hi311_5;have HC311_5:=ad_ hl311_5;clear hi311_5 hl311_5;replace p311:=eq_true p311;replace q311:=eq_true q311;refine start_ (n:=16) (S:=fun w'=>w'.cell? ⟨gb298,0,none⟩ = some (.int .i64 a0_0) ∧ w'.cell? ⟨gb298,1,none⟩ = some (.bool a0_1) ∧ w'.cell? ⟨gb298,2,none⟩ = some (.string a0_2) ∧ w'.cell? ⟨gb298,3,none⟩ = some (.string a0_3) ∧ w'.cell? ⟨gb298,4,none⟩ = some (.slice (some ad306) l0_4.length c0_4) ∧ w'.cell? ⟨gb298,5,none⟩ = some (.slice (some ad310) l0_5.length c0_5) ∧ w'.cell? ⟨gb299,0,none⟩ = some (.int .i64 a1_0) ∧ w'.cell? ⟨gb299,1,none⟩ = some (.bool a1_1) ∧ w'.cell? ⟨gb299,2,none⟩ = some (.string a1_2) ∧ w'.cell? ⟨gb299,3,none⟩ = some (.string a1_3) ∧ w'.cell? ⟨gb299,4,none⟩ = some (.slice A1_4 l1_4.length c1_4) ∧ w'.cell? ⟨gb299,5,none⟩ = some (.slice (some ad311) l1_5.length c1_5) ∧ w'.cell? (ad310.add ((x7_1).toNat * 6)) = some (.int .i64 ((rd_T25 l0_5 x7_1).f0)) ∧ w'.cell? ⟨(ad310.add ((x7_1).toNat * 6)).block,(ad310.add ((x7_1).toNat * 6)).off + 1,none⟩ = some (.bool ((rd_T25 l0_5 x7_1).f1)) ∧ w'.cell? ⟨(ad310.add ((x7_1).toNat * 6)).block,(ad310.add ((x7_1).toNat * 6)).off + 2,none⟩ = some (.string ((rd_T25 l0_5 x7_1).f2)) ∧ w'.cell? ⟨(ad310.add ((x7_1).toNat * 6)).block,(ad310.add ((x7_1).toNat * 6)).off + 3,none⟩ = some (.string ((rd_T25 l0_5 x7_1).f3)) ∧ w'.cell? ⟨(ad310.add ((x7_1).toNat * 6)).block,(ad310.add ((x7_1).toNat * 6)).off + 4,none⟩ = some (.slice A310_4 ((rd_T25 l0_5 x7_1).f4).length c310_4) ∧ w'.cell? ⟨(ad310.add ((x7_1).toNat * 6)).block,(ad310.add ((x7_1).toNat * 6)).off + 5,none⟩ = some (.slice A310_5 ((rd_T25 l0_5 x7_1).f5).length c310_5) ∧ w'.cell? (ad311.add ((t309).toNat * 6)) = some (.int .i64 ((rd_T25 l1_5 t309).f0)) ∧ w'.cell? ⟨(ad311.add ((t309).toNat * 6)).block,(ad311.add ((t309).toNat * 6)).off + 1,none⟩ = some (.bool ((rd_T25 l1_5 t309).f1)) ∧ w'.cell? ⟨(ad311.add ((t309).toNat * 6)).block,(ad311.add ((t309).toNat * 6)).off + 2,none⟩ = some (.string ((rd_T25 l1_5 t309).f2)) ∧ w'.cell? ⟨(ad311.add ((t309).toNat * 6)).block,(ad311.add ((t309).toNat * 6)).off + 3,none⟩ = some (.string ((rd_T25 l1_5 t309).f3)) ∧ w'.cell? ⟨(ad311.add ((t309).toNat * 6)).block,(ad311.add ((t309).toNat * 6)).off + 4,none⟩ = some (.slice A311_4 ((rd_T25 l1_5 t309).f4).length c311_4) ∧ w'.cell? ⟨(ad311.add ((t309).toNat * 6)).block,(ad311.add ((t309).toNat * 6)).off + 5,none⟩ = some (.slice A311_5 ((rd_T25 l1_5 t309).f5).length c311_5)) (ds:=[]) #[false,false,false,false,false,false,false,false,false,false,false,false,false,false,false,false] (by kernel_rfl) rfl rfl ⟨(bc_ BK298.out 0).trans rfl,(bc_ BK298.out 1).trans rfl,(bc_ BK298.out 2).trans rfl,(bc_ BK298.out 3).trans rfl,(bc_ BK298.out 4).trans rfl,(bc_ BK298.out 5).trans rfl,(bc_ BK299.out 0).trans rfl,(bc_ BK299.out 1).trans rfl,(bc_ BK299.out 2).trans rfl,(bc_ BK299.out 3).trans rfl,(bc_ BK299.out 4).trans rfl,(bc_ BK299.out 5).trans rfl,((HB.out.cell (wb_ w _ hw310_0)).trans hw310_0),((HB.out.cell (wb_ w _ hw310_1)).trans hw310_1),((HB.out.cell (wb_ w _ hw310_2)).trans hw310_2),((HB.out.cell (wb_ w _ hw310_3)).trans hw310_3),((HB.out.cell (wb_ w _ hw310_4)).trans hw310_4),((HB.out.cell (wb_ w _ hw310_5)).trans hw310_5),((HB.out.cell (wb_ w _ hw311_0)).trans hw311_0),((HB.out.cell (wb_ w _ hw311_1)).trans hw311_1),((HB.out.cell (wb_ w _ hw311_2)).trans hw311_2),((HB.out.cell (wb_ w _ hw311_3)).trans hw311_3),((HB.out.cell (wb_ w _ hw311_4)).trans hw311_4),((HB.out.cell (wb_ w _ hw311_5)).trans hw311_5)⟩ (fun hHeld=>?_);refine with_tabW quarryref17_covers.tab7 quarryref17_covers.bits7 (fun HT_ HW_=>?_)
          generalize w32.drew = w34 at HO_5 HO_6 BK298 BK299 HB HR310_4 HR310_5 HR311_4 HR311_5 hx310_0 hx310_1 hx310_2 hx310_3 hx310_4 hx310_5 hx311_0 hx311_1 hx311_2 hx311_3 hx311_4 hx311_5 hHeld ⊢
          refine pure_ (i:=0) (N:=some 42) (v:=?_) (a':=?_) #[true,false,false,false,false,false,false,false,false,false,false,false,false,false,false,false] rfl rfl (any_of HT_.out (by kernel_rfl)) (fun _ _ _ h=>h) (Or.inl ⟨by rfl,?_⟩) ?_ ?_;rotate_left
          ·intro w';go_simp;with_reducible rfl
          rotate_left
          ·simp only [Act.put,se1_,se2_,se3_,i64_w,i32_w];rfl
          refine pure_ (i:=1) (N:=some 43) (v:=?_) (a':=?_) #[true,true,false,false,false,false,false,false,false,false,false,false,false,false,false,false] rfl rfl (any_of HT_.out (by kernel_rfl)) (fun _ _ _ h=>h) (Or.inl ⟨by rfl,?_⟩) ?_ ?_;rotate_left
          ·intro w';go_simp;with_reducible rfl
          rotate_left
          ·simp only [Act.put,se1_,se2_,se3_,i64_w,i32_w];rfl
          refine pure_ (i:=2) (N:=some 44) (v:=?_) (a':=?_) #[true,true,true,false,false,false,false,false,false,false,false,false,false,false,false,false] rfl rfl (any_of HT_.out (by kernel_rfl)) (fun _ _ _ h=>h) (Or.inl ⟨by rfl,?_⟩) ?_ ?_;rotate_left
          ·intro w';go_simp;with_reducible rfl
          rotate_left
          ·simp only [Act.put,se1_,se2_,se3_,i64_w,i32_w];rfl
          refine pure_ (i:=3) (N:=some 45) (v:=?_) (a':=?_) #[true,true,true,true,false,false,false,false,false,false,false,false,false,false,false,false] rfl rfl (any_of HT_.out (by kernel_rfl)) (fun _ _ _ h=>h) (Or.inl ⟨by rfl,?_⟩) ?_ ?_;rotate_left
          ·intro w';go_simp;with_reducible rfl
          rotate_left
          ·simp only [Act.put,se1_,se2_,se3_,i64_w,i32_w];rfl
          refine pure_ (i:=5) (N:=some 47) (v:=?_) (a':=?_) #[true,true,true,true,false,true,false,false,false,false,false,false,false,false,false,false] rfl rfl (any_of HT_.out (by kernel_rfl)) (fun _ _ _ h=>h) (Or.inl ⟨by rfl,?_⟩) ?_ ?_;rotate_left
          ·intro w';go_simp;with_reducible rfl
          rotate_left
          ·simp only [Act.put,se1_,se2_,se3_,i64_w,i32_w];rfl
          refine pure_ (i:=8) (N:=some 50) (v:=?_) (a':=?_) #[true,true,true,true,false,true,false,false,true,false,false,false,false,false,false,false] rfl rfl (any_of HT_.out (by kernel_rfl)) (fun _ _ _ h=>h) (Or.inl ⟨by rfl,?_⟩) ?_ ?_;rotate_left
          ·intro w';go_simp;with_reducible rfl
          rotate_left
          ·simp only [Act.put,se1_,se2_,se3_,i64_w,i32_w];rfl
          refine pure_ (i:=10) (N:=some 52) (v:=?_) (a':=?_) #[true,true,true,true,false,true,false,false,true,false,true,false,false,false,false,false] rfl rfl (any_of HT_.out (by kernel_rfl)) (fun _ _ _ h=>h) (Or.inl ⟨by rfl,?_⟩) ?_ ?_;rotate_left
          ·intro w';go_simp;with_reducible rfl
          rotate_left
          ·simp only [Act.put,se1_,se2_,se3_,i64_w,i32_w];rfl
          refine take_ (i:=4) (N:=some 46) (v:=?_) (a':=?_) #[true,true,true,true,true,true,false,false,true,false,true,false,false,false,false,false] rfl rfl (take_ofW HT_.out HW_.out (by kernel_rfl)) (fun _ _ _ h=>h) (Or.inl ⟨by rfl,?_⟩) hHeld ?_ ?_;rotate_left
          ·rintro w' ⟨s0,s1,s2,s3,s4,s5,s6,s7,s8,s9,s10,s11,s12,s13,s14,s15,s16,s17,s18,s19,s20,s21,s22,s23⟩;go_simp;with_reducible rfl
          rotate_left
          ·simp only [Act.put,se1_,se2_,se3_,i64_w,i32_w];rfl
          refine pure_ (i:=6) (N:=some 48) (v:=?_) (a':=?_) #[true,true,true,true,true,true,true,false,true,false,true,false,false,false,false,false] rfl rfl (any_of HT_.out (by kernel_rfl)) (fun _ _ _ h=>h) (Or.inl ⟨by rfl,?_⟩) ?_ ?_;rotate_left
          ·intro w';go_simp;with_reducible rfl
          rotate_left
          ·simp only [Act.put,se1_,se2_,se3_,i64_w,i32_w];rfl
          refine take_ (i:=7) (N:=some 49) (v:=?_) (a':=?_) #[true,true,true,true,true,true,true,true,true,false,true,false,false,false,false,false] rfl rfl (take_ofW HT_.out HW_.out (by kernel_rfl)) (fun _ _ _ h=>h) (Or.inl ⟨by rfl,?_⟩) hHeld ?_ ?_;rotate_left
          ·rintro w' ⟨s0,s1,s2,s3,s4,s5,s6,s7,s8,s9,s10,s11,s12,s13,s14,s15,s16,s17,s18,s19,s20,s21,s22,s23⟩;go_simp;with_reducible rfl
          rotate_left
          ·simp only [Act.put,se1_,se2_,se3_,i64_w,i32_w];rfl
          refine take_ (i:=9) (N:=some 51) (v:=?_) (a':=?_) #[true,true,true,true,true,true,true,true,true,true,true,false,false,false,false,false] rfl rfl (take_ofW HT_.out HW_.out (by kernel_rfl)) (fun _ _ _ h=>h) (Or.inl ⟨by rfl,?_⟩) hHeld ?_ ?_;rotate_left
          ·rintro w' ⟨s0,s1,s2,s3,s4,s5,s6,s7,s8,s9,s10,s11,s12,s13,s14,s15,s16,s17,s18,s19,s20,s21,s22,s23⟩;go_simp;with_reducible rfl
          rotate_left
          ·simp only [Act.put,se1_,se2_,se3_,i64_w,i32_w];rfl
          refine pure_ (i:=11) (N:=some 53) (v:=?_) (a':=?_) #[true,true,true,true,true,true,true,true,true,true,true,true,false,false,false,false] rfl rfl (any_of HT_.out (by kernel_rfl)) (fun _ _ _ h=>h) (Or.inl ⟨by rfl,?_⟩) ?_ ?_;rotate_left
          ·intro w';go_simp;with_reducible rfl
          rotate_left
          ·simp only [Act.put,se1_,se2_,se3_,i64_w,i32_w];rfl
          refine take_ (i:=12) (N:=some 54) (v:=?_) (a':=?_) #[true,true,true,true,true,true,true,true,true,true,true,true,true,false,false,false] rfl rfl (take_ofW HT_.out HW_.out (by kernel_rfl)) (fun _ _ _ h=>h) (Or.inl ⟨by rfl,?_⟩) hHeld ?_ ?_;rotate_left
          ·rintro w' ⟨s0,s1,s2,s3,s4,s5,s6,s7,s8,s9,s10,s11,s12,s13,s14,s15,s16,s17,s18,s19,s20,s21,s22,s23⟩;go_simp;with_reducible rfl
          rotate_left
          ·simp only [Act.put,se1_,se2_,se3_,i64_w,i32_w];rfl
          refine one_ (i:=13) (N:=some 55) #[true,true,true,true,true,true,true,true,true,true,true,true,true,true,false,false] rfl rfl (one_of HT_.out (by kernel_rfl)) (by decide) (fun K hK=>?_);refine goes_ Tryd.func20 (by kernel_rfl) rfl #[.agg #[.int .i64 ((rd_T25 l0_5 x7_1).f0),.bool ((rd_T25 l0_5 x7_1).f1),.string ((rd_T25 l0_5 x7_1).f2),.string ((rd_T25 l0_5 x7_1).f3),.slice A310_4 ((rd_T25 l0_5 x7_1).f4).length c310_4,.slice A310_5 ((rd_T25 l0_5 x7_1).f5).length c310_5],.agg #[.int .i64 ((rd_T25 l1_5 t309).f0),.bool ((rd_T25 l1_5 t309).f1),.string ((rd_T25 l1_5 t309).f2),.string ((rd_T25 l1_5 t309).f3),.slice A311_4 ((rd_T25 l1_5 t309).f4).length c311_4,.slice A311_5 ((rd_T25 l1_5 t309).f5).length c311_5]] (by rfl) rfl rfl am_ ?_
          with_reducible refine (HREC.out ((rd_T25 l0_5 x7_1).f0) ((rd_T25 l0_5 x7_1).f1) ((rd_T25 l0_5 x7_1).f2) ((rd_T25 l0_5 x7_1).f3) _ _ ((rd_T25 l0_5 x7_1).f4) _ _ ((rd_T25 l0_5 x7_1).f5) ((rd_T25 l1_5 t309).f0) ((rd_T25 l1_5 t309).f1) ((rd_T25 l1_5 t309).f2) ((rd_T25 l1_5 t309).f3) _ _ ((rd_T25 l1_5 t309).f4) _ _ ((rd_T25 l1_5 t309).f5) true _ ?side1 ?side2 ?side3 ?side4 ?side5 ?side6 ?side7 ?side8 A26.out).mono ?_
          (case side1=>repeat (first|exact (cb_ HR310_4.out HB.out)|(with_reducible refine ca_ ?_ _)|(with_reducible refine kd_ ?_ _)|(with_reducible refine ke_ ?_)))
          (case side2=>exact HC310_4.out)
          (case side3=>repeat (first|exact (cb_ HR310_5.out HB.out)|(with_reducible refine ca_ ?_ _)|(with_reducible refine kd_ ?_ _)|(with_reducible refine ke_ ?_)))
          (case side4=>exact HC310_5.out)
          (case side5=>repeat (first|exact (cb_ HR311_4.out HB.out)|(with_reducible refine ca_ ?_ _)|(with_reducible refine kd_ ?_ _)|(with_reducible refine ke_ ?_)))
          (case side6=>exact HC311_4.out)
          (case side7=>repeat (first|exact (cb_ HR311_5.out HB.out)|(with_reducible refine ca_ ?_ _)|(with_reducible refine kd_ ?_ _)|(with_reducible refine ke_ ?_)))
          (case side8=>exact HC311_5.out)
          rintro e w35 ⟨rfl,hb⟩;refine ⟨_,rfl,?_⟩;have n0_:=ad_ (Kd.R_below (rk_ HO_5) hb);have n1_:=ad_ (Kd.R_below (rk_ HO_6) hb);have n2_:=ad_ (bkb_ BK298 hb);have n3_:=ad_ (bkb_ BK299 hb);have n4_:=ad_ (bw_ (hb_ HB) hb);clear HO_5;clear HO_6;clear BK298;clear BK299;clear HB;have HO_5:=n0_;have HO_6:=n1_;have BK298:=n2_;have BK299:=n3_;have HB:=n4_;clear n0_ n1_ n2_ n3_ n4_
          (try clear hb)
          (try clear hb2)
          (try clear hk)
          (try clear hi)
          refine hK.out _ _ ⟨(bc_ BK298.out 0).trans rfl,(bc_ BK298.out 1).trans rfl,(bc_ BK298.out 2).trans rfl,(bc_ BK298.out 3).trans rfl,(bc_ BK298.out 4).trans rfl,(bc_ BK298.out 5).trans rfl,(bc_ BK299.out 0).trans rfl,(bc_ BK299.out 1).trans rfl,(bc_ BK299.out 2).trans rfl,(bc_ BK299.out 3).trans rfl,(bc_ BK299.out 4).trans rfl,(bc_ BK299.out 5).trans rfl,((HB.out.cell (wb_ w _ hw310_0)).trans hw310_0),((HB.out.cell (wb_ w _ hw310_1)).trans hw310_1),((HB.out.cell (wb_ w _ hw310_2)).trans hw310_2),((HB.out.cell (wb_ w _ hw310_3)).trans hw310_3),((HB.out.cell (wb_ w _ hw310_4)).trans hw310_4),((HB.out.cell (wb_ w _ hw310_5)).trans hw310_5),((HB.out.cell (wb_ w _ hw311_0)).trans hw311_0),((HB.out.cell (wb_ w _ hw311_1)).trans hw311_1),((HB.out.cell (wb_ w _ hw311_2)).trans hw311_2),((HB.out.cell (wb_ w _ hw311_3)).trans hw311_3),((HB.out.cell (wb_ w _ hw311_4)).trans hw311_4),((HB.out.cell (wb_ w _ hw311_5)).trans hw311_5)⟩ (fun hHeld=>?_);clear hK K;refine norm_ (a':=?_) ?_ ?_;rotate_left
          ·show Act.put _ (some 55) _ = _
           simp only [Act.put,se1_,se2_,se3_,i64_w,i32_w];rfl
          refine pure_ (i:=14) (N:=some 56) (v:=?_) (a':=?_) #[true,true,true,true,true,true,true,true,true,true,true,true,true,true,true,false] rfl rfl (any_of HT_.out (by kernel_rfl)) (fun _ _ _ h=>h) (Or.inl ⟨by rfl,?_⟩) ?_ ?_;rotate_left
          ·intro w';go_simp;with_reducible rfl
          rotate_left
          ·simp only [Act.put,se1_,se2_,se3_,i64_w,i32_w];rfl
          refine pure_ (i:=15) (N:=some 57) (v:=?_) (a':=?_) #[true,true,true,true,true,true,true,true,true,true,true,true,true,true,true,true] rfl rfl (any_of HT_.out (by kernel_rfl)) (fun _ _ _ h=>h) (Or.inl ⟨by rfl,?_⟩) ?_ ?_;rotate_left
          ·intro w';go_simp;with_reducible rfl
          rotate_left
          ·simp only [Act.put,se1_,se2_,se3_,i64_w,i32_w];rfl
          refine done_ (done_of HT_.out (by kernel_rfl)) ?_
          try go_wp2
          go_roundg k1
          case measure=>have:=HK1.out;omega
          case rel=>exact ⟨(wrap64 (x7_1 + 1)),rr_,(by first|exact H'|(subst_vars;exact H')),⟨by have:=HK1.out;omega⟩,⟨(rk_ HO_5)⟩,⟨(rk_ HO_6)⟩,⟨(bk_ BK298)⟩,⟨(bk_ BK299)⟩,⟨(hb_ HB)⟩⟩
         replace c27:=Bool.eq_false_iff.mpr c27;subst c27
         rw [if_neg (show ¬ (false = true) by decide)] at H
         obtain rfl:=si_ H;have hnb36:=NB298_299.out;have hnc36:=NB299_298.out;obtain ⟨hcz37_0,hcz37_1,hcz37_2,hcz37_3,hcz37_4,hcz37_5,hfz37_0,hfz37_1,hfz37_2,hfz37_3,hfz37_4,hfz37_5⟩:=cf6_ BK298
         try go_wp2
         have n0_:=ad_ (Kd.R_drew HO_5.out);have n1_:=ad_ (Kd.R_drew HO_6.out);have n2_:=ad_ (blk_drew BK298.out);have n3_:=ad_ (blk_drew BK299.out);have n4_:=ad_ (below_drew1 HB.out);clear HO_5;clear HO_6;clear BK298;clear BK299;clear HB;have HO_5:=n0_;have HO_6:=n1_;have BK298:=n2_;have BK299:=n3_;have HB:=n4_;clear n0_ n1_ n2_ n3_ n4_;have p306 : 0 ≤ (x7_1 : Int):=od_ aa_;have q306 : x7_1 < (l0_4.length : Int):=od_ aa_;obtain ⟨ad306,e306,hx306_0⟩:=Kd.at_string HR0_4.out x7_1 p306 q306;have hw306_0:=hx306_0;cases e306;replace hx306_0:=(HB.out.cell (wb_ w _ hx306_0)).trans hx306_0;replace p306:=eq_true p306;replace q306:=eq_true q306;obtain ⟨Ao39,co39,eo39⟩:=Kd.R_slice HO_5.out
         (first|subst eo39|(injection eo39 with f1_ f2_ f3_;have f4_:=f1_.symm;have f5_:=f3_.symm;clear f1_ f2_ f3_;subst f4_;subst f5_))
         refine start_ (n:=11) (S:=fun w'=>w'.cell? ⟨gb298,0,none⟩ = some (.int .i64 a0_0) ∧ w'.cell? ⟨gb298,1,none⟩ = some (.bool a0_1) ∧ w'.cell? ⟨gb298,2,none⟩ = some (.string a0_2) ∧ w'.cell? ⟨gb298,3,none⟩ = some (.string a0_3) ∧ w'.cell? ⟨gb298,4,none⟩ = some (.slice (some ad306) l0_4.length c0_4) ∧ w'.cell? ⟨gb298,5,none⟩ = some (.slice A0_5 l0_5.length c0_5) ∧ w'.cell? (ad306.add (x7_1).toNat) = some (.string (rdOf ByteArray.empty l0_4 x7_1))) (ds:=[]) #[false,false,false,false,false,false,false,false,false,false,false] (by kernel_rfl) rfl rfl ⟨(bc_ BK298.out 0).trans rfl,(bc_ BK298.out 1).trans rfl,(bc_ BK298.out 2).trans rfl,(bc_ BK298.out 3).trans rfl,(bc_ BK298.out 4).trans rfl,(bc_ BK298.out 5).trans rfl,((HB.out.cell (wb_ w _ hw306_0)).trans hw306_0)⟩ (fun hHeld=>?_);refine with_tabW quarryref17_covers.tab5 quarryref17_covers.bits5 (fun HT_ HW_=>?_)
         generalize wr.drew = w38 at HO_5 HO_6 BK298 BK299 HB hx306_0 hHeld ⊢
         refine pure_ (i:=0) (N:=some 22) (v:=?_) (a':=?_) #[true,false,false,false,false,false,false,false,false,false,false] rfl rfl (any_of HT_.out (by kernel_rfl)) (fun _ _ _ h=>h) (Or.inl ⟨by rfl,?_⟩) ?_ ?_;rotate_left
         ·intro w';go_simp;with_reducible rfl
         rotate_left
         ·simp only [Act.put,se1_,se2_,se3_,i64_w,i32_w];rfl
         refine pure_ (i:=2) (N:=some 24) (v:=?_) (a':=?_) #[true,false,true,false,false,false,false,false,false,false,false] rfl rfl (any_of HT_.out (by kernel_rfl)) (fun _ _ _ h=>h) (Or.inl ⟨by rfl,?_⟩) ?_ ?_;rotate_left
         ·intro w';go_simp;with_reducible rfl
         rotate_left
         ·simp only [Act.put,se1_,se2_,se3_,i64_w,i32_w];rfl
         refine pure_ (i:=3) (N:=some 25) (v:=?_) (a':=?_) #[true,false,true,true,false,false,false,false,false,false,false] rfl rfl (any_of HT_.out (by kernel_rfl)) (fun _ _ _ h=>h) (Or.inl ⟨by rfl,?_⟩) ?_ ?_;rotate_left
         ·intro w';go_simp;with_reducible rfl
         rotate_left
         ·simp only [Act.put,se1_,se2_,se3_,i64_w,i32_w];rfl
         refine pure_ (i:=5) (N:=some 27) (v:=?_) (a':=?_) #[true,false,true,true,false,true,false,false,false,false,false] rfl rfl (any_of HT_.out (by kernel_rfl)) (fun _ _ _ h=>h) (Or.inl ⟨by rfl,?_⟩) ?_ ?_;rotate_left
         ·intro w';go_simp;with_reducible rfl
         rotate_left
         ·simp only [Act.put,se1_,se2_,se3_,i64_w,i32_w];rfl
         refine pure_ (i:=9) (N:=some 31) (v:=?_) (a':=?_) #[true,false,true,true,false,true,false,false,false,true,false] rfl rfl (any_of HT_.out (by kernel_rfl)) (fun _ _ _ h=>h) (Or.inl ⟨by rfl,?_⟩) ?_ ?_;rotate_left
         ·intro w';go_simp;with_reducible rfl
         rotate_left
         ·simp only [Act.put,se1_,se2_,se3_,i64_w,i32_w];rfl
         refine take_ (i:=1) (N:=some 23) (v:=?_) (a':=?_) #[true,true,true,true,false,true,false,false,false,true,false] rfl rfl (take_ofW HT_.out HW_.out (by kernel_rfl)) (fun _ _ _ h=>h) (Or.inl ⟨by rfl,?_⟩) hHeld ?_ ?_;rotate_left
         ·rintro w' ⟨s0,s1,s2,s3,s4,s5,s6⟩;go_simp;with_reducible rfl
         rotate_left
         ·simp only [Act.put,se1_,se2_,se3_,i64_w,i32_w];rfl
         refine take_ (i:=4) (N:=some 26) (v:=?_) (a':=?_) #[true,true,true,true,true,true,false,false,false,true,false] rfl rfl (take_ofW HT_.out HW_.out (by kernel_rfl)) (fun _ _ _ h=>h) (Or.inl ⟨by rfl,?_⟩) hHeld ?_ ?_;rotate_left
         ·rintro w' ⟨s0,s1,s2,s3,s4,s5,s6⟩;go_simp;with_reducible rfl
         rotate_left
         ·simp only [Act.put,se1_,se2_,se3_,i64_w,i32_w];rfl
         refine pure_ (i:=6) (N:=some 28) (v:=?_) (a':=?_) #[true,true,true,true,true,true,true,false,false,true,false] rfl rfl (any_of HT_.out (by kernel_rfl)) (fun _ _ _ h=>h) (Or.inl ⟨by rfl,?_⟩) ?_ ?_;rotate_left
         ·intro w';go_simp;with_reducible rfl
         rotate_left
         ·simp only [Act.put,se1_,se2_,se3_,i64_w,i32_w];rfl
         refine take_ (i:=7) (N:=some 29) (v:=?_) (a':=?_) #[true,true,true,true,true,true,true,true,false,true,false] rfl rfl (take_ofW HT_.out HW_.out (by kernel_rfl)) (fun _ _ _ h=>h) (Or.inl ⟨by rfl,?_⟩) hHeld ?_ ?_;rotate_left
         ·rintro w' ⟨s0,s1,s2,s3,s4,s5,s6⟩;go_simp;with_reducible rfl
         rotate_left
         ·simp only [Act.put,se1_,se2_,se3_,i64_w,i32_w];rfl
         refine one_ (i:=8) (N:=some 30) #[true,true,true,true,true,true,true,true,true,true,false] rfl rfl (one_of HT_.out (by kernel_rfl)) (by decide) (fun K hK=>?_);refine goes_ Tryd.func47 (by kernel_rfl) rfl #[.slice (some ad306) l0_4.length c0_4,.slice Ao39 t300.length co39,.string (rdOf ByteArray.empty l0_4 x7_1)] (by rfl) rfl rfl am_ ?_
         with_reducible refine (quarryref17_Place.calls k1 _ _ l0_4 _ _ t300 (rdOf ByteArray.empty l0_4 x7_1) t307 _ ?side1 ?side2 ?side3 ?side4 A12.out).mono ?_
         (case side1=>repeat (first|exact (cb_ HR0_4.out HB.out)|(with_reducible refine ca_ ?_ _)|(with_reducible refine kd_ ?_ _)|(with_reducible refine ke_ ?_)))
         (case side2=>exact HC0_4.out)
         (case side3=>repeat (first|exact (Kd.R_reads' HO_5.out).2.2|(with_reducible refine ca_ ?_ _)|(with_reducible refine kd_ ?_ _)|(with_reducible refine ke_ ?_)))
         (case side4=>exact (Kd.R_reads' HO_5.out).2.1)
         rintro e w' ⟨rfl,⟨nd,rfl⟩⟩;refine ⟨_,rfl,?_⟩;refine hK.out _ _ ⟨(bc_ BK298.out 0).trans rfl,(bc_ BK298.out 1).trans rfl,(bc_ BK298.out 2).trans rfl,(bc_ BK298.out 3).trans rfl,(bc_ BK298.out 4).trans rfl,(bc_ BK298.out 5).trans rfl,((HB.out.cell (wb_ w _ hw306_0)).trans hw306_0)⟩ (fun hHeld=>?_);clear hK K;refine norm_ (a':=?_) ?_ ?_;rotate_left
         ·show Act.put _ (some 30) _ = _
          simp only [Act.put,se1_,se2_,se3_,i64_w,i32_w];rfl
         refine pure_ (i:=10) (N:=some 32) (v:=?_) (a':=?_) #[true,true,true,true,true,true,true,true,true,true,true] rfl rfl (any_of HT_.out (by kernel_rfl)) (fun _ _ _ h=>h) (Or.inl ⟨by rfl,?_⟩) ?_ ?_;rotate_left
         ·intro w';go_simp;with_reducible rfl
         rotate_left
         ·simp only [Act.put,se1_,se2_,se3_,i64_w,i32_w];rfl
         refine done_ (done_of HT_.out (by kernel_rfl)) ?_
         try go_wp2
         (try (rw [drewN_self w38];generalize hq_ : World.drewN w38 _ = w38;have n0_ : Aside0 (Kd.R (Kd.int .i64) 3 w38 w.heap.size (fun k_=>some k_ ≠ (v304 : Value).ownBlock) (.slice Ao39 t300.length co39) t300):=⟨by rw [← hq_];exact (rk_ HO_5)⟩;have n1_ : Aside0 (Kd.R (Kd.int .i64) 3 w38 w.heap.size (fun k_=>some k_ ≠ (.slice Ao39 t300.length co39 : Value).ownBlock) v304 t303):=⟨by rw [← hq_];exact (rk_ HO_6)⟩;have n2_ : Aside0 (w38.heap[gb298]? = some (.cells #[.int .i64 a0_0,.bool a0_1,.string a0_2,.string a0_3,.slice (some ad306) l0_4.length c0_4,.slice A0_5 l0_5.length c0_5] 25 (0,0))):=⟨by rw [← hq_];exact (bk_ BK298)⟩;have n3_ : Aside0 (w38.heap[gb299]? = some (.cells #[.int .i64 a1_0,.bool a1_1,.string a1_2,.string a1_3,.slice A1_4 l1_4.length c1_4,.slice A1_5 l1_5.length c1_5] 25 (0,0))):=⟨by rw [← hq_];exact (bk_ BK299)⟩;have n4_ : Aside0 (Below w.heap.size w w38):=⟨by rw [← hq_];exact (hb_ HB)⟩;clear HO_5 HO_6 BK298 BK299 HB hq_;have HO_5:=n0_;have HO_6:=n1_;have BK298:=n2_;have BK299:=n3_;have HB:=n4_;clear n0_ n1_ n2_ n3_ n4_))
         have n0_:=ad_ (Kd.R_drew HO_5.out);have n1_:=ad_ (Kd.R_drew HO_6.out);have n2_:=ad_ (blk_drew BK298.out);have n3_:=ad_ (blk_drew BK299.out);have n4_:=ad_ (below_drew1 HB.out);clear HO_5;clear HO_6;clear BK298;clear BK299;clear HB;have HO_5:=n0_;have HO_6:=n1_;have BK298:=n2_;have BK299:=n3_;have HB:=n4_;clear n0_ n1_ n2_ n3_ n4_;have p308 : 0 ≤ (x7_1 : Int):=od_ aa_;have q308 : x7_1 < (l0_4.length : Int):=od_ aa_;obtain ⟨ad308,e308,hx308_0⟩:=Kd.at_string HR0_4.out x7_1 p308 q308;have hw308_0:=hx308_0;obtain rfl : ad306 = ad308:=(by injection e308);replace hx308_0:=(HB.out.cell (wb_ w _ hx308_0)).trans hx308_0;replace p308:=eq_true p308;replace q308:=eq_true q308;obtain ⟨Ao41,co41,eo41⟩:=Kd.R_slice HO_6.out
         (first|subst eo41|(injection eo41 with f1_ f2_ f3_;have f4_:=f1_.symm;have f5_:=f3_.symm;clear f1_ f2_ f3_;subst f4_;subst f5_))
         refine start_ (n:=10) (S:=fun w'=>w'.cell? ⟨gb299,0,none⟩ = some (.int .i64 a1_0) ∧ w'.cell? ⟨gb299,1,none⟩ = some (.bool a1_1) ∧ w'.cell? ⟨gb299,2,none⟩ = some (.string a1_2) ∧ w'.cell? ⟨gb299,3,none⟩ = some (.string a1_3) ∧ w'.cell? ⟨gb299,4,none⟩ = some (.slice A1_4 l1_4.length c1_4) ∧ w'.cell? ⟨gb299,5,none⟩ = some (.slice A1_5 l1_5.length c1_5) ∧ w'.cell? ⟨gb298,0,none⟩ = some (.int .i64 a0_0) ∧ w'.cell? ⟨gb298,1,none⟩ = some (.bool a0_1) ∧ w'.cell? ⟨gb298,2,none⟩ = some (.string a0_2) ∧ w'.cell? ⟨gb298,3,none⟩ = some (.string a0_3) ∧ w'.cell? ⟨gb298,4,none⟩ = some (.slice (some ad306) l0_4.length c0_4) ∧ w'.cell? ⟨gb298,5,none⟩ = some (.slice A0_5 l0_5.length c0_5) ∧ w'.cell? (ad306.add (x7_1).toNat) = some (.string (rdOf ByteArray.empty l0_4 x7_1))) (ds:=[]) #[false,false,false,false,false,false,false,false,false,false] (by kernel_rfl) rfl rfl ⟨(bc_ BK299.out 0).trans rfl,(bc_ BK299.out 1).trans rfl,(bc_ BK299.out 2).trans rfl,(bc_ BK299.out 3).trans rfl,(bc_ BK299.out 4).trans rfl,(bc_ BK299.out 5).trans rfl,(bc_ BK298.out 0).trans rfl,(bc_ BK298.out 1).trans rfl,(bc_ BK298.out 2).trans rfl,(bc_ BK298.out 3).trans rfl,(bc_ BK298.out 4).trans rfl,(bc_ BK298.out 5).trans rfl,((HB.out.cell (wb_ w _ hw308_0)).trans hw308_0)⟩ (fun hHeld=>?_);refine with_tabW quarryref17_covers.tab6 quarryref17_covers.bits6 (fun HT_ HW_=>?_)
         generalize w38.drew = w40 at HO_5 HO_6 BK298 BK299 HB hx308_0 hHeld ⊢
         refine pure_ (i:=0) (N:=some 33) (v:=?_) (a':=?_) #[true,false,false,false,false,false,false,false,false,false] rfl rfl (any_of HT_.out (by kernel_rfl)) (fun _ _ _ h=>h) (Or.inl ⟨by rfl,?_⟩) ?_ ?_;rotate_left
         ·intro w';go_simp;with_reducible rfl
         rotate_left
         ·simp only [Act.put,se1_,se2_,se3_,i64_w,i32_w];rfl
         refine pure_ (i:=2) (N:=some 35) (v:=?_) (a':=?_) #[true,false,true,false,false,false,false,false,false,false] rfl rfl (any_of HT_.out (by kernel_rfl)) (fun _ _ _ h=>h) (Or.inl ⟨by rfl,?_⟩) ?_ ?_;rotate_left
         ·intro w';go_simp;with_reducible rfl
         rotate_left
         ·simp only [Act.put,se1_,se2_,se3_,i64_w,i32_w];rfl
         refine pure_ (i:=3) (N:=some 36) (v:=?_) (a':=?_) #[true,false,true,true,false,false,false,false,false,false] rfl rfl (any_of HT_.out (by kernel_rfl)) (fun _ _ _ h=>h) (Or.inl ⟨by rfl,?_⟩) ?_ ?_;rotate_left
         ·intro w';go_simp;with_reducible rfl
         rotate_left
         ·simp only [Act.put,se1_,se2_,se3_,i64_w,i32_w];rfl
         refine pure_ (i:=5) (N:=some 38) (v:=?_) (a':=?_) #[true,false,true,true,false,true,false,false,false,false] rfl rfl (any_of HT_.out (by kernel_rfl)) (fun _ _ _ h=>h) (Or.inl ⟨by rfl,?_⟩) ?_ ?_;rotate_left
         ·intro w';go_simp;with_reducible rfl
         rotate_left
         ·simp only [Act.put,se1_,se2_,se3_,i64_w,i32_w];rfl
         refine take_ (i:=1) (N:=some 34) (v:=?_) (a':=?_) #[true,true,true,true,false,true,false,false,false,false] rfl rfl (take_ofW HT_.out HW_.out (by kernel_rfl)) (fun _ _ _ h=>h) (Or.inl ⟨by rfl,?_⟩) hHeld ?_ ?_;rotate_left
         ·rintro w' ⟨s0,s1,s2,s3,s4,s5,s6,s7,s8,s9,s10,s11,s12⟩;go_simp;with_reducible rfl
         rotate_left
         ·simp only [Act.put,se1_,se2_,se3_,i64_w,i32_w];rfl
         refine take_ (i:=4) (N:=some 37) (v:=?_) (a':=?_) #[true,true,true,true,true,true,false,false,false,false] rfl rfl (take_ofW HT_.out HW_.out (by kernel_rfl)) (fun _ _ _ h=>h) (Or.inl ⟨by rfl,?_⟩) hHeld ?_ ?_;rotate_left
         ·rintro w' ⟨s0,s1,s2,s3,s4,s5,s6,s7,s8,s9,s10,s11,s12⟩;go_simp;with_reducible rfl
         rotate_left
         ·simp only [Act.put,se1_,se2_,se3_,i64_w,i32_w];rfl
         refine pure_ (i:=6) (N:=some 39) (v:=?_) (a':=?_) #[true,true,true,true,true,true,true,false,false,false] rfl rfl (any_of HT_.out (by kernel_rfl)) (fun _ _ _ h=>h) (Or.inl ⟨by rfl,?_⟩) ?_ ?_;rotate_left
         ·intro w';go_simp;with_reducible rfl
         rotate_left
         ·simp only [Act.put,se1_,se2_,se3_,i64_w,i32_w];rfl
         refine take_ (i:=7) (N:=some 40) (v:=?_) (a':=?_) #[true,true,true,true,true,true,true,true,false,false] rfl rfl (take_ofW HT_.out HW_.out (by kernel_rfl)) (fun _ _ _ h=>h) (Or.inl ⟨by rfl,?_⟩) hHeld ?_ ?_;rotate_left
         ·rintro w' ⟨s0,s1,s2,s3,s4,s5,s6,s7,s8,s9,s10,s11,s12⟩;go_simp;with_reducible rfl
         rotate_left
         ·simp only [Act.put,se1_,se2_,se3_,i64_w,i32_w];rfl
         refine one_ (i:=8) (N:=some 41) #[true,true,true,true,true,true,true,true,true,false] rfl rfl (one_of HT_.out (by kernel_rfl)) (by decide) (fun K hK=>?_);refine goes_ Tryd.func47 (by kernel_rfl) rfl #[.slice A1_4 l1_4.length c1_4,.slice Ao41 t303.length co41,.string (rdOf ByteArray.empty l0_4 x7_1)] (by rfl) rfl rfl am_ ?_
         with_reducible refine (quarryref17_Place.calls k1 _ _ l1_4 _ _ t303 (rdOf ByteArray.empty l0_4 x7_1) t309 _ ?side1 ?side2 ?side3 ?side4 A14.out).mono ?_
         (case side1=>repeat (first|exact (cb_ HR1_4.out HB.out)|(with_reducible refine ca_ ?_ _)|(with_reducible refine kd_ ?_ _)|(with_reducible refine ke_ ?_)))
         (case side2=>exact HC1_4.out)
         (case side3=>repeat (first|exact (Kd.R_reads' HO_6.out).2.2|(with_reducible refine ca_ ?_ _)|(with_reducible refine kd_ ?_ _)|(with_reducible refine ke_ ?_)))
         (case side4=>exact (Kd.R_reads' HO_6.out).2.1)
         rintro e w' ⟨rfl,⟨nd,rfl⟩⟩;refine ⟨_,rfl,?_⟩;refine hK.out _ _ ⟨(bc_ BK299.out 0).trans rfl,(bc_ BK299.out 1).trans rfl,(bc_ BK299.out 2).trans rfl,(bc_ BK299.out 3).trans rfl,(bc_ BK299.out 4).trans rfl,(bc_ BK299.out 5).trans rfl,(bc_ BK298.out 0).trans rfl,(bc_ BK298.out 1).trans rfl,(bc_ BK298.out 2).trans rfl,(bc_ BK298.out 3).trans rfl,(bc_ BK298.out 4).trans rfl,(bc_ BK298.out 5).trans rfl,((HB.out.cell (wb_ w _ hw308_0)).trans hw308_0)⟩ (fun hHeld=>?_);clear hK K;refine norm_ (a':=?_) ?_ ?_;rotate_left
         ·show Act.put _ (some 41) _ = _
          simp only [Act.put,se1_,se2_,se3_,i64_w,i32_w];rfl
         refine pure_ (i:=9) (N:=some 8) (v:=?_) (a':=?_) #[true,true,true,true,true,true,true,true,true,true] rfl rfl (any_of HT_.out (by kernel_rfl)) (fun _ _ _ h=>h) (Or.inl ⟨by rfl,?_⟩) ?_ ?_;rotate_left
         ·intro w';go_simp;with_reducible rfl
         rotate_left
         ·simp only [Act.put,se1_,se2_,se3_,i64_w,i32_w];rfl
         refine done_ (done_of HT_.out (by kernel_rfl)) ?_
         try go_wp2
         (try (rw [drewN_self w40];generalize hq_ : World.drewN w40 _ = w40;have n0_ : Aside0 (Kd.R (Kd.int .i64) 3 w40 w.heap.size (fun k_=>some k_ ≠ (.slice Ao41 t303.length co41 : Value).ownBlock) (.slice Ao39 t300.length co39) t300):=⟨by rw [← hq_];exact (rk_ HO_5)⟩;have n1_ : Aside0 (Kd.R (Kd.int .i64) 3 w40 w.heap.size (fun k_=>some k_ ≠ (.slice Ao39 t300.length co39 : Value).ownBlock) (.slice Ao41 t303.length co41) t303):=⟨by rw [← hq_];exact (rk_ HO_6)⟩;have n2_ : Aside0 (w40.heap[gb298]? = some (.cells #[.int .i64 a0_0,.bool a0_1,.string a0_2,.string a0_3,.slice (some ad306) l0_4.length c0_4,.slice A0_5 l0_5.length c0_5] 25 (0,0))):=⟨by rw [← hq_];exact (bk_ BK298)⟩;have n3_ : Aside0 (w40.heap[gb299]? = some (.cells #[.int .i64 a1_0,.bool a1_1,.string a1_2,.string a1_3,.slice A1_4 l1_4.length c1_4,.slice A1_5 l1_5.length c1_5] 25 (0,0))):=⟨by rw [← hq_];exact (bk_ BK299)⟩;have n4_ : Aside0 (Below w.heap.size w w40):=⟨by rw [← hq_];exact (hb_ HB)⟩;clear HO_5 HO_6 BK298 BK299 HB hq_;have HO_5:=n0_;have HO_6:=n1_;have BK298:=n2_;have BK299:=n3_;have HB:=n4_;clear n0_ n1_ n2_ n3_ n4_))
         have n0_:=ad_ (Kd.R_drew HO_5.out);have n1_:=ad_ (Kd.R_drew HO_6.out);have n2_:=ad_ (blk_drew BK298.out);have n3_:=ad_ (blk_drew BK299.out);have n4_:=ad_ (below_drew1 HB.out);clear HO_5;clear HO_6;clear BK298;clear BK299;clear HB;have HO_5:=n0_;have HO_6:=n1_;have BK298:=n2_;have BK299:=n3_;have HB:=n4_;clear n0_ n1_ n2_ n3_ n4_;have p310 : 0 ≤ (x7_1 : Int):=od_ aa_;have q310 : x7_1 < (l0_5.length : Int):=od_ aa_;obtain ⟨ad310,A310_4,c310_4,A310_5,c310_5,e310,hx310_0,hx310_1,hx310_2,hx310_3,hx310_4,hx310_5,hl310_4,hi310_4,hl310_5,hi310_5⟩:=at_T25 HR0_5.out x7_1 p310 q310;have hw310_5:=hx310_5;have hw310_4:=hx310_4;have hw310_3:=hx310_3;have hw310_2:=hx310_2;have hw310_1:=hx310_1;have hw310_0:=hx310_0;cases e310;replace hx310_0:=(HB.out.cell (wb_ w _ hx310_0)).trans hx310_0;replace hx310_1:=(HB.out.cell (wb_ w _ hx310_1)).trans hx310_1;replace hx310_2:=(HB.out.cell (wb_ w _ hx310_2)).trans hx310_2;replace hx310_3:=(HB.out.cell (wb_ w _ hx310_3)).trans hx310_3;replace hx310_4:=(HB.out.cell (wb_ w _ hx310_4)).trans hx310_4;replace hx310_5:=(HB.out.cell (wb_ w _ hx310_5)).trans hx310_5;have HR310_4:=ad_ hi310_4;have HC310_4:=ad_ hl310_4;clear hi310_4 hl310_4;have HR310_5:=ad_ hi310_5;have HC310_5:=ad_ hl310_5;clear hi310_5 hl310_5;replace p310:=eq_true p310;replace q310:=eq_true q310;have p311 : 0 ≤ (t309 : Int):=od_ aa_;have q311 : t309 < (l1_5.length : Int):=od_ aa_;obtain ⟨ad311,A311_4,c311_4,A311_5,c311_5,e311,hx311_0,hx311_1,hx311_2,hx311_3,hx311_4,hx311_5,hl311_4,hi311_4,hl311_5,hi311_5⟩:=at_T25 HR1_5.out t309 p311 q311
         have hw311_5:=hx311_5;have hw311_4:=hx311_4;have hw311_3:=hx311_3;have hw311_2:=hx311_2;have hw311_1:=hx311_1;have hw311_0:=hx311_0;cases e311;replace hx311_0:=(HB.out.cell (wb_ w _ hx311_0)).trans hx311_0;replace hx311_1:=(HB.out.cell (wb_ w _ hx311_1)).trans hx311_1;replace hx311_2:=(HB.out.cell (wb_ w _ hx311_2)).trans hx311_2;replace hx311_3:=(HB.out.cell (wb_ w _ hx311_3)).trans hx311_3;replace hx311_4:=(HB.out.cell (wb_ w _ hx311_4)).trans hx311_4;replace hx311_5:=(HB.out.cell (wb_ w _ hx311_5)).trans hx311_5;have HR311_4:=ad_ hi311_4;have HC311_4:=ad_ hl311_4;clear hi311_4 hl311_4;have HR311_5:=ad_ hi311_5;have HC311_5:=ad_ hl311_5;clear hi311_5 hl311_5;replace p311:=eq_true p311;replace q311:=eq_true q311;refine start_ (n:=16) (S:=fun w'=>w'.cell? ⟨gb298,0,none⟩ = some (.int .i64 a0_0) ∧ w'.cell? ⟨gb298,1,none⟩ = some (.bool a0_1) ∧ w'.cell? ⟨gb298,2,none⟩ = some (.string a0_2) ∧ w'.cell? ⟨gb298,3,none⟩ = some (.string a0_3) ∧ w'.cell? ⟨gb298,4,none⟩ = some (.slice (some ad306) l0_4.length c0_4) ∧ w'.cell? ⟨gb298,5,none⟩ = some (.slice (some ad310) l0_5.length c0_5) ∧ w'.cell? ⟨gb299,0,none⟩ = some (.int .i64 a1_0) ∧ w'.cell? ⟨gb299,1,none⟩ = some (.bool a1_1) ∧ w'.cell? ⟨gb299,2,none⟩ = some (.string a1_2) ∧ w'.cell? ⟨gb299,3,none⟩ = some (.string a1_3) ∧ w'.cell? ⟨gb299,4,none⟩ = some (.slice A1_4 l1_4.length c1_4) ∧ w'.cell? ⟨gb299,5,none⟩ = some (.slice (some ad311) l1_5.length c1_5) ∧ w'.cell? (ad310.add ((x7_1).toNat * 6)) = some (.int .i64 ((rd_T25 l0_5 x7_1).f0)) ∧ w'.cell? ⟨(ad310.add ((x7_1).toNat * 6)).block,(ad310.add ((x7_1).toNat * 6)).off + 1,none⟩ = some (.bool ((rd_T25 l0_5 x7_1).f1)) ∧ w'.cell? ⟨(ad310.add ((x7_1).toNat * 6)).block,(ad310.add ((x7_1).toNat * 6)).off + 2,none⟩ = some (.string ((rd_T25 l0_5 x7_1).f2)) ∧ w'.cell? ⟨(ad310.add ((x7_1).toNat * 6)).block,(ad310.add ((x7_1).toNat * 6)).off + 3,none⟩ = some (.string ((rd_T25 l0_5 x7_1).f3)) ∧ w'.cell? ⟨(ad310.add ((x7_1).toNat * 6)).block,(ad310.add ((x7_1).toNat * 6)).off + 4,none⟩ = some (.slice A310_4 ((rd_T25 l0_5 x7_1).f4).length c310_4) ∧ w'.cell? ⟨(ad310.add ((x7_1).toNat * 6)).block,(ad310.add ((x7_1).toNat * 6)).off + 5,none⟩ = some (.slice A310_5 ((rd_T25 l0_5 x7_1).f5).length c310_5) ∧ w'.cell? (ad311.add ((t309).toNat * 6)) = some (.int .i64 ((rd_T25 l1_5 t309).f0)) ∧ w'.cell? ⟨(ad311.add ((t309).toNat * 6)).block,(ad311.add ((t309).toNat * 6)).off + 1,none⟩ = some (.bool ((rd_T25 l1_5 t309).f1)) ∧ w'.cell? ⟨(ad311.add ((t309).toNat * 6)).block,(ad311.add ((t309).toNat * 6)).off + 2,none⟩ = some (.string ((rd_T25 l1_5 t309).f2)) ∧ w'.cell? ⟨(ad311.add ((t309).toNat * 6)).block,(ad311.add ((t309).toNat * 6)).off + 3,none⟩ = some (.string ((rd_T25 l1_5 t309).f3)) ∧ w'.cell? ⟨(ad311.add ((t309).toNat * 6)).block,(ad311.add ((t309).toNat * 6)).off + 4,none⟩ = some (.slice A311_4 ((rd_T25 l1_5 t309).f4).length c311_4) ∧ w'.cell? ⟨(ad311.add ((t309).toNat * 6)).block,(ad311.add ((t309).toNat * 6)).off + 5,none⟩ = some (.slice A311_5 ((rd_T25 l1_5 t309).f5).length c311_5)) (ds:=[]) #[false,false,false,false,false,false,false,false,false,false,false,false,false,false,false,false] (by kernel_rfl) rfl rfl ⟨(bc_ BK298.out 0).trans rfl,(bc_ BK298.out 1).trans rfl,(bc_ BK298.out 2).trans rfl,(bc_ BK298.out 3).trans rfl,(bc_ BK298.out 4).trans rfl,(bc_ BK298.out 5).trans rfl,(bc_ BK299.out 0).trans rfl,(bc_ BK299.out 1).trans rfl,(bc_ BK299.out 2).trans rfl,(bc_ BK299.out 3).trans rfl,(bc_ BK299.out 4).trans rfl,(bc_ BK299.out 5).trans rfl,((HB.out.cell (wb_ w _ hw310_0)).trans hw310_0),((HB.out.cell (wb_ w _ hw310_1)).trans hw310_1),((HB.out.cell (wb_ w _ hw310_2)).trans hw310_2),((HB.out.cell (wb_ w _ hw310_3)).trans hw310_3),((HB.out.cell (wb_ w _ hw310_4)).trans hw310_4),((HB.out.cell (wb_ w _ hw310_5)).trans hw310_5),((HB.out.cell (wb_ w _ hw311_0)).trans hw311_0),((HB.out.cell (wb_ w _ hw311_1)).trans hw311_1),((HB.out.cell (wb_ w _ hw311_2)).trans hw311_2),((HB.out.cell (wb_ w _ hw311_3)).trans hw311_3),((HB.out.cell (wb_ w _ hw311_4)).trans hw311_4),((HB.out.cell (wb_ w _ hw311_5)).trans hw311_5)⟩ (fun hHeld=>?_);refine with_tabW quarryref17_covers.tab7 quarryref17_covers.bits7 (fun HT_ HW_=>?_)
         generalize w40.drew = w42 at HO_5 HO_6 BK298 BK299 HB HR310_4 HR310_5 HR311_4 HR311_5 hx310_0 hx310_1 hx310_2 hx310_3 hx310_4 hx310_5 hx311_0 hx311_1 hx311_2 hx311_3 hx311_4 hx311_5 hHeld ⊢
         refine pure_ (i:=0) (N:=some 42) (v:=?_) (a':=?_) #[true,false,false,false,false,false,false,false,false,false,false,false,false,false,false,false] rfl rfl (any_of HT_.out (by kernel_rfl)) (fun _ _ _ h=>h) (Or.inl ⟨by rfl,?_⟩) ?_ ?_;rotate_left
         ·intro w';go_simp;with_reducible rfl
         rotate_left
         ·simp only [Act.put,se1_,se2_,se3_,i64_w,i32_w];rfl
         refine pure_ (i:=1) (N:=some 43) (v:=?_) (a':=?_) #[true,true,false,false,false,false,false,false,false,false,false,false,false,false,false,false] rfl rfl (any_of HT_.out (by kernel_rfl)) (fun _ _ _ h=>h) (Or.inl ⟨by rfl,?_⟩) ?_ ?_;rotate_left
         ·intro w';go_simp;with_reducible rfl
         rotate_left
         ·simp only [Act.put,se1_,se2_,se3_,i64_w,i32_w];rfl
         refine pure_ (i:=2) (N:=some 44) (v:=?_) (a':=?_) #[true,true,true,false,false,false,false,false,false,false,false,false,false,false,false,false] rfl rfl (any_of HT_.out (by kernel_rfl)) (fun _ _ _ h=>h) (Or.inl ⟨by rfl,?_⟩) ?_ ?_;rotate_left
         ·intro w';go_simp;with_reducible rfl
         rotate_left
         ·simp only [Act.put,se1_,se2_,se3_,i64_w,i32_w];rfl
         refine pure_ (i:=3) (N:=some 45) (v:=?_) (a':=?_) #[true,true,true,true,false,false,false,false,false,false,false,false,false,false,false,false] rfl rfl (any_of HT_.out (by kernel_rfl)) (fun _ _ _ h=>h) (Or.inl ⟨by rfl,?_⟩) ?_ ?_;rotate_left
         ·intro w';go_simp;with_reducible rfl
         rotate_left
         ·simp only [Act.put,se1_,se2_,se3_,i64_w,i32_w];rfl
         refine pure_ (i:=5) (N:=some 47) (v:=?_) (a':=?_) #[true,true,true,true,false,true,false,false,false,false,false,false,false,false,false,false] rfl rfl (any_of HT_.out (by kernel_rfl)) (fun _ _ _ h=>h) (Or.inl ⟨by rfl,?_⟩) ?_ ?_;rotate_left
         ·intro w';go_simp;with_reducible rfl
         rotate_left
         ·simp only [Act.put,se1_,se2_,se3_,i64_w,i32_w];rfl
         refine pure_ (i:=8) (N:=some 50) (v:=?_) (a':=?_) #[true,true,true,true,false,true,false,false,true,false,false,false,false,false,false,false] rfl rfl (any_of HT_.out (by kernel_rfl)) (fun _ _ _ h=>h) (Or.inl ⟨by rfl,?_⟩) ?_ ?_;rotate_left
         ·intro w';go_simp;with_reducible rfl
         rotate_left
         ·simp only [Act.put,se1_,se2_,se3_,i64_w,i32_w];rfl
         refine pure_ (i:=10) (N:=some 52) (v:=?_) (a':=?_) #[true,true,true,true,false,true,false,false,true,false,true,false,false,false,false,false] rfl rfl (any_of HT_.out (by kernel_rfl)) (fun _ _ _ h=>h) (Or.inl ⟨by rfl,?_⟩) ?_ ?_;rotate_left
         ·intro w';go_simp;with_reducible rfl
         rotate_left
         ·simp only [Act.put,se1_,se2_,se3_,i64_w,i32_w];rfl
         refine take_ (i:=4) (N:=some 46) (v:=?_) (a':=?_) #[true,true,true,true,true,true,false,false,true,false,true,false,false,false,false,false] rfl rfl (take_ofW HT_.out HW_.out (by kernel_rfl)) (fun _ _ _ h=>h) (Or.inl ⟨by rfl,?_⟩) hHeld ?_ ?_;rotate_left
         ·rintro w' ⟨s0,s1,s2,s3,s4,s5,s6,s7,s8,s9,s10,s11,s12,s13,s14,s15,s16,s17,s18,s19,s20,s21,s22,s23⟩;go_simp;with_reducible rfl
         rotate_left
         ·simp only [Act.put,se1_,se2_,se3_,i64_w,i32_w];rfl
         refine pure_ (i:=6) (N:=some 48) (v:=?_) (a':=?_) #[true,true,true,true,true,true,true,false,true,false,true,false,false,false,false,false] rfl rfl (any_of HT_.out (by kernel_rfl)) (fun _ _ _ h=>h) (Or.inl ⟨by rfl,?_⟩) ?_ ?_;rotate_left
         ·intro w';go_simp;with_reducible rfl
         rotate_left
         ·simp only [Act.put,se1_,se2_,se3_,i64_w,i32_w];rfl
         refine take_ (i:=7) (N:=some 49) (v:=?_) (a':=?_) #[true,true,true,true,true,true,true,true,true,false,true,false,false,false,false,false] rfl rfl (take_ofW HT_.out HW_.out (by kernel_rfl)) (fun _ _ _ h=>h) (Or.inl ⟨by rfl,?_⟩) hHeld ?_ ?_;rotate_left
         ·rintro w' ⟨s0,s1,s2,s3,s4,s5,s6,s7,s8,s9,s10,s11,s12,s13,s14,s15,s16,s17,s18,s19,s20,s21,s22,s23⟩;go_simp;with_reducible rfl
         rotate_left
         ·simp only [Act.put,se1_,se2_,se3_,i64_w,i32_w];rfl
         refine take_ (i:=9) (N:=some 51) (v:=?_) (a':=?_) #[true,true,true,true,true,true,true,true,true,true,true,false,false,false,false,false] rfl rfl (take_ofW HT_.out HW_.out (by kernel_rfl)) (fun _ _ _ h=>h) (Or.inl ⟨by rfl,?_⟩) hHeld ?_ ?_;rotate_left
         ·rintro w' ⟨s0,s1,s2,s3,s4,s5,s6,s7,s8,s9,s10,s11,s12,s13,s14,s15,s16,s17,s18,s19,s20,s21,s22,s23⟩;go_simp;with_reducible rfl
         rotate_left
         ·simp only [Act.put,se1_,se2_,se3_,i64_w,i32_w];rfl
         refine pure_ (i:=11) (N:=some 53) (v:=?_) (a':=?_) #[true,true,true,true,true,true,true,true,true,true,true,true,false,false,false,false] rfl rfl (any_of HT_.out (by kernel_rfl)) (fun _ _ _ h=>h) (Or.inl ⟨by rfl,?_⟩) ?_ ?_;rotate_left
         ·intro w';go_simp;with_reducible rfl
         rotate_left
         ·simp only [Act.put,se1_,se2_,se3_,i64_w,i32_w];rfl
         refine take_ (i:=12) (N:=some 54) (v:=?_) (a':=?_) #[true,true,true,true,true,true,true,true,true,true,true,true,true,false,false,false] rfl rfl (take_ofW HT_.out HW_.out (by kernel_rfl)) (fun _ _ _ h=>h) (Or.inl ⟨by rfl,?_⟩) hHeld ?_ ?_;rotate_left
         ·rintro w' ⟨s0,s1,s2,s3,s4,s5,s6,s7,s8,s9,s10,s11,s12,s13,s14,s15,s16,s17,s18,s19,s20,s21,s22,s23⟩;go_simp;with_reducible rfl
         rotate_left
         ·simp only [Act.put,se1_,se2_,se3_,i64_w,i32_w];rfl
         refine one_ (i:=13) (N:=some 55) #[true,true,true,true,true,true,true,true,true,true,true,true,true,true,false,false] rfl rfl (one_of HT_.out (by kernel_rfl)) (by decide) (fun K hK=>?_);refine goes_ Tryd.func20 (by kernel_rfl) rfl #[.agg #[.int .i64 ((rd_T25 l0_5 x7_1).f0),.bool ((rd_T25 l0_5 x7_1).f1),.string ((rd_T25 l0_5 x7_1).f2),.string ((rd_T25 l0_5 x7_1).f3),.slice A310_4 ((rd_T25 l0_5 x7_1).f4).length c310_4,.slice A310_5 ((rd_T25 l0_5 x7_1).f5).length c310_5],.agg #[.int .i64 ((rd_T25 l1_5 t309).f0),.bool ((rd_T25 l1_5 t309).f1),.string ((rd_T25 l1_5 t309).f2),.string ((rd_T25 l1_5 t309).f3),.slice A311_4 ((rd_T25 l1_5 t309).f4).length c311_4,.slice A311_5 ((rd_T25 l1_5 t309).f5).length c311_5]] (by rfl) rfl rfl am_ ?_
         with_reducible refine (HREC.out ((rd_T25 l0_5 x7_1).f0) ((rd_T25 l0_5 x7_1).f1) ((rd_T25 l0_5 x7_1).f2) ((rd_T25 l0_5 x7_1).f3) _ _ ((rd_T25 l0_5 x7_1).f4) _ _ ((rd_T25 l0_5 x7_1).f5) ((rd_T25 l1_5 t309).f0) ((rd_T25 l1_5 t309).f1) ((rd_T25 l1_5 t309).f2) ((rd_T25 l1_5 t309).f3) _ _ ((rd_T25 l1_5 t309).f4) _ _ ((rd_T25 l1_5 t309).f5) false _ ?side1 ?side2 ?side3 ?side4 ?side5 ?side6 ?side7 ?side8 A26.out).mono ?_
         (case side1=>repeat (first|exact (cb_ HR310_4.out HB.out)|(with_reducible refine ca_ ?_ _)|(with_reducible refine kd_ ?_ _)|(with_reducible refine ke_ ?_)))
         (case side2=>exact HC310_4.out)
         (case side3=>repeat (first|exact (cb_ HR310_5.out HB.out)|(with_reducible refine ca_ ?_ _)|(with_reducible refine kd_ ?_ _)|(with_reducible refine ke_ ?_)))
         (case side4=>exact HC310_5.out)
         (case side5=>repeat (first|exact (cb_ HR311_4.out HB.out)|(with_reducible refine ca_ ?_ _)|(with_reducible refine kd_ ?_ _)|(with_reducible refine ke_ ?_)))
         (case side6=>exact HC311_4.out)
         (case side7=>repeat (first|exact (cb_ HR311_5.out HB.out)|(with_reducible refine ca_ ?_ _)|(with_reducible refine kd_ ?_ _)|(with_reducible refine ke_ ?_)))
         (case side8=>exact HC311_5.out)
         rintro e w43 ⟨rfl,hb⟩;refine ⟨_,rfl,?_⟩;have n0_:=ad_ (Kd.R_below (rk_ HO_5) hb);have n1_:=ad_ (Kd.R_below (rk_ HO_6) hb);have n2_:=ad_ (bkb_ BK298 hb);have n3_:=ad_ (bkb_ BK299 hb);have n4_:=ad_ (bw_ (hb_ HB) hb);clear HO_5;clear HO_6;clear BK298;clear BK299;clear HB;have HO_5:=n0_;have HO_6:=n1_;have BK298:=n2_;have BK299:=n3_;have HB:=n4_;clear n0_ n1_ n2_ n3_ n4_
         (try clear hb)
         (try clear hb2)
         (try clear hk)
         (try clear hi)
         refine hK.out _ _ ⟨(bc_ BK298.out 0).trans rfl,(bc_ BK298.out 1).trans rfl,(bc_ BK298.out 2).trans rfl,(bc_ BK298.out 3).trans rfl,(bc_ BK298.out 4).trans rfl,(bc_ BK298.out 5).trans rfl,(bc_ BK299.out 0).trans rfl,(bc_ BK299.out 1).trans rfl,(bc_ BK299.out 2).trans rfl,(bc_ BK299.out 3).trans rfl,(bc_ BK299.out 4).trans rfl,(bc_ BK299.out 5).trans rfl,((HB.out.cell (wb_ w _ hw310_0)).trans hw310_0),((HB.out.cell (wb_ w _ hw310_1)).trans hw310_1),((HB.out.cell (wb_ w _ hw310_2)).trans hw310_2),((HB.out.cell (wb_ w _ hw310_3)).trans hw310_3),((HB.out.cell (wb_ w _ hw310_4)).trans hw310_4),((HB.out.cell (wb_ w _ hw310_5)).trans hw310_5),((HB.out.cell (wb_ w _ hw311_0)).trans hw311_0),((HB.out.cell (wb_ w _ hw311_1)).trans hw311_1),((HB.out.cell (wb_ w _ hw311_2)).trans hw311_2),((HB.out.cell (wb_ w _ hw311_3)).trans hw311_3),((HB.out.cell (wb_ w _ hw311_4)).trans hw311_4),((HB.out.cell (wb_ w _ hw311_5)).trans hw311_5)⟩ (fun hHeld=>?_);clear hK K;refine norm_ (a':=?_) ?_ ?_;rotate_left
         ·show Act.put _ (some 55) _ = _
          simp only [Act.put,se1_,se2_,se3_,i64_w,i32_w];rfl
         refine pure_ (i:=14) (N:=some 56) (v:=?_) (a':=?_) #[true,true,true,true,true,true,true,true,true,true,true,true,true,true,true,false] rfl rfl (any_of HT_.out (by kernel_rfl)) (fun _ _ _ h=>h) (Or.inl ⟨by rfl,?_⟩) ?_ ?_;rotate_left
         ·intro w';go_simp;with_reducible rfl
         rotate_left
         ·simp only [Act.put,se1_,se2_,se3_,i64_w,i32_w];rfl
         refine pure_ (i:=15) (N:=some 57) (v:=?_) (a':=?_) #[true,true,true,true,true,true,true,true,true,true,true,true,true,true,true,true] rfl rfl (any_of HT_.out (by kernel_rfl)) (fun _ _ _ h=>h) (Or.inl ⟨by rfl,?_⟩) ?_ ?_;rotate_left
         ·intro w';go_simp;with_reducible rfl
         rotate_left
         ·simp only [Act.put,se1_,se2_,se3_,i64_w,i32_w];rfl
         refine done_ (done_of HT_.out (by kernel_rfl)) ?_
         try go_wp2
         go_ret;exact ⟨er_,(hb_ HB)⟩
        rw [if_neg c25] at H
        exact absurd H (by simp)
       rw [if_neg c24] at H
       exact absurd H (by simp)
      rw [if_neg c23] at H
      exact absurd H (by simp)
     rw [if_neg c13] at H
     have c13b0 : (t307 == x7_1) = false:=be_ c13;have c13b1 : (t307 != x7_1) = true:=bne_iff_ne.mpr c13;have H':=ad_ H;clear H;have hnb44:=NB298_299.out;have hnc44:=NB299_298.out;obtain ⟨hcz45_0,hcz45_1,hcz45_2,hcz45_3,hcz45_4,hcz45_5,hfz45_0,hfz45_1,hfz45_2,hfz45_3,hfz45_4,hfz45_5⟩:=cf6_ BK298
     try go_wp2
     have n0_:=ad_ (Kd.R_drew HO_5.out);have n1_:=ad_ (Kd.R_drew HO_6.out);have n2_:=ad_ (blk_drew BK298.out);have n3_:=ad_ (blk_drew BK299.out);have n4_:=ad_ (below_drew1 HB.out);clear HO_5;clear HO_6;clear BK298;clear BK299;clear HB;have HO_5:=n0_;have HO_6:=n1_;have BK298:=n2_;have BK299:=n3_;have HB:=n4_;clear n0_ n1_ n2_ n3_ n4_;have p306 : 0 ≤ (x7_1 : Int):=od_ aa_;have q306 : x7_1 < (l0_4.length : Int):=od_ aa_;obtain ⟨ad306,e306,hx306_0⟩:=Kd.at_string HR0_4.out x7_1 p306 q306;have hw306_0:=hx306_0;cases e306;replace hx306_0:=(HB.out.cell (wb_ w _ hx306_0)).trans hx306_0;replace p306:=eq_true p306;replace q306:=eq_true q306;obtain ⟨Ao47,co47,eo47⟩:=Kd.R_slice HO_5.out
     (first|subst eo47|(injection eo47 with f1_ f2_ f3_;have f4_:=f1_.symm;have f5_:=f3_.symm;clear f1_ f2_ f3_;subst f4_;subst f5_))
     refine start_ (n:=11) (S:=fun w'=>w'.cell? ⟨gb298,0,none⟩ = some (.int .i64 a0_0) ∧ w'.cell? ⟨gb298,1,none⟩ = some (.bool a0_1) ∧ w'.cell? ⟨gb298,2,none⟩ = some (.string a0_2) ∧ w'.cell? ⟨gb298,3,none⟩ = some (.string a0_3) ∧ w'.cell? ⟨gb298,4,none⟩ = some (.slice (some ad306) l0_4.length c0_4) ∧ w'.cell? ⟨gb298,5,none⟩ = some (.slice A0_5 l0_5.length c0_5) ∧ w'.cell? (ad306.add (x7_1).toNat) = some (.string (rdOf ByteArray.empty l0_4 x7_1))) (ds:=[]) #[false,false,false,false,false,false,false,false,false,false,false] (by kernel_rfl) rfl rfl ⟨(bc_ BK298.out 0).trans rfl,(bc_ BK298.out 1).trans rfl,(bc_ BK298.out 2).trans rfl,(bc_ BK298.out 3).trans rfl,(bc_ BK298.out 4).trans rfl,(bc_ BK298.out 5).trans rfl,((HB.out.cell (wb_ w _ hw306_0)).trans hw306_0)⟩ (fun hHeld=>?_);refine with_tabW quarryref17_covers.tab5 quarryref17_covers.bits5 (fun HT_ HW_=>?_)
     generalize wr.drew = w46 at HO_5 HO_6 BK298 BK299 HB hx306_0 hHeld ⊢
     refine pure_ (i:=0) (N:=some 22) (v:=?_) (a':=?_) #[true,false,false,false,false,false,false,false,false,false,false] rfl rfl (any_of HT_.out (by kernel_rfl)) (fun _ _ _ h=>h) (Or.inl ⟨by rfl,?_⟩) ?_ ?_;rotate_left
     ·intro w';go_simp;with_reducible rfl
     rotate_left
     ·simp only [Act.put,se1_,se2_,se3_,i64_w,i32_w];rfl
     refine pure_ (i:=2) (N:=some 24) (v:=?_) (a':=?_) #[true,false,true,false,false,false,false,false,false,false,false] rfl rfl (any_of HT_.out (by kernel_rfl)) (fun _ _ _ h=>h) (Or.inl ⟨by rfl,?_⟩) ?_ ?_;rotate_left
     ·intro w';go_simp;with_reducible rfl
     rotate_left
     ·simp only [Act.put,se1_,se2_,se3_,i64_w,i32_w];rfl
     refine pure_ (i:=3) (N:=some 25) (v:=?_) (a':=?_) #[true,false,true,true,false,false,false,false,false,false,false] rfl rfl (any_of HT_.out (by kernel_rfl)) (fun _ _ _ h=>h) (Or.inl ⟨by rfl,?_⟩) ?_ ?_;rotate_left
     ·intro w';go_simp;with_reducible rfl
     rotate_left
     ·simp only [Act.put,se1_,se2_,se3_,i64_w,i32_w];rfl
     refine pure_ (i:=5) (N:=some 27) (v:=?_) (a':=?_) #[true,false,true,true,false,true,false,false,false,false,false] rfl rfl (any_of HT_.out (by kernel_rfl)) (fun _ _ _ h=>h) (Or.inl ⟨by rfl,?_⟩) ?_ ?_;rotate_left
     ·intro w';go_simp;with_reducible rfl
     rotate_left
     ·simp only [Act.put,se1_,se2_,se3_,i64_w,i32_w];rfl
     refine pure_ (i:=9) (N:=some 31) (v:=?_) (a':=?_) #[true,false,true,true,false,true,false,false,false,true,false] rfl rfl (any_of HT_.out (by kernel_rfl)) (fun _ _ _ h=>h) (Or.inl ⟨by rfl,?_⟩) ?_ ?_;rotate_left
     ·intro w';go_simp;with_reducible rfl
     rotate_left
     ·simp only [Act.put,se1_,se2_,se3_,i64_w,i32_w];rfl
     refine take_ (i:=1) (N:=some 23) (v:=?_) (a':=?_) #[true,true,true,true,false,true,false,false,false,true,false] rfl rfl (take_ofW HT_.out HW_.out (by kernel_rfl)) (fun _ _ _ h=>h) (Or.inl ⟨by rfl,?_⟩) hHeld ?_ ?_;rotate_left
     ·rintro w' ⟨s0,s1,s2,s3,s4,s5,s6⟩;go_simp;with_reducible rfl
     rotate_left
     ·simp only [Act.put,se1_,se2_,se3_,i64_w,i32_w];rfl
     refine take_ (i:=4) (N:=some 26) (v:=?_) (a':=?_) #[true,true,true,true,true,true,false,false,false,true,false] rfl rfl (take_ofW HT_.out HW_.out (by kernel_rfl)) (fun _ _ _ h=>h) (Or.inl ⟨by rfl,?_⟩) hHeld ?_ ?_;rotate_left
     ·rintro w' ⟨s0,s1,s2,s3,s4,s5,s6⟩;go_simp;with_reducible rfl
     rotate_left
     ·simp only [Act.put,se1_,se2_,se3_,i64_w,i32_w];rfl
     refine pure_ (i:=6) (N:=some 28) (v:=?_) (a':=?_) #[true,true,true,true,true,true,true,false,false,true,false] rfl rfl (any_of HT_.out (by kernel_rfl)) (fun _ _ _ h=>h) (Or.inl ⟨by rfl,?_⟩) ?_ ?_;rotate_left
     ·intro w';go_simp;with_reducible rfl
     rotate_left
     ·simp only [Act.put,se1_,se2_,se3_,i64_w,i32_w];rfl
     refine take_ (i:=7) (N:=some 29) (v:=?_) (a':=?_) #[true,true,true,true,true,true,true,true,false,true,false] rfl rfl (take_ofW HT_.out HW_.out (by kernel_rfl)) (fun _ _ _ h=>h) (Or.inl ⟨by rfl,?_⟩) hHeld ?_ ?_;rotate_left
     ·rintro w' ⟨s0,s1,s2,s3,s4,s5,s6⟩;go_simp;with_reducible rfl
     rotate_left
     ·simp only [Act.put,se1_,se2_,se3_,i64_w,i32_w];rfl
     refine one_ (i:=8) (N:=some 30) #[true,true,true,true,true,true,true,true,true,true,false] rfl rfl (one_of HT_.out (by kernel_rfl)) (by decide) (fun K hK=>?_);refine goes_ Tryd.func47 (by kernel_rfl) rfl #[.slice (some ad306) l0_4.length c0_4,.slice Ao47 t300.length co47,.string (rdOf ByteArray.empty l0_4 x7_1)] (by rfl) rfl rfl am_ ?_
     with_reducible refine (quarryref17_Place.calls k1 _ _ l0_4 _ _ t300 (rdOf ByteArray.empty l0_4 x7_1) t307 _ ?side1 ?side2 ?side3 ?side4 A12.out).mono ?_
     (case side1=>repeat (first|exact (cb_ HR0_4.out HB.out)|(with_reducible refine ca_ ?_ _)|(with_reducible refine kd_ ?_ _)|(with_reducible refine ke_ ?_)))
     (case side2=>exact HC0_4.out)
     (case side3=>repeat (first|exact (Kd.R_reads' HO_5.out).2.2|(with_reducible refine ca_ ?_ _)|(with_reducible refine kd_ ?_ _)|(with_reducible refine ke_ ?_)))
     (case side4=>exact (Kd.R_reads' HO_5.out).2.1)
     rintro e w' ⟨rfl,⟨nd,rfl⟩⟩;refine ⟨_,rfl,?_⟩;refine hK.out _ _ ⟨(bc_ BK298.out 0).trans rfl,(bc_ BK298.out 1).trans rfl,(bc_ BK298.out 2).trans rfl,(bc_ BK298.out 3).trans rfl,(bc_ BK298.out 4).trans rfl,(bc_ BK298.out 5).trans rfl,((HB.out.cell (wb_ w _ hw306_0)).trans hw306_0)⟩ (fun hHeld=>?_);clear hK K;refine norm_ (a':=?_) ?_ ?_;rotate_left
     ·show Act.put _ (some 30) _ = _
      simp only [Act.put,se1_,se2_,se3_,i64_w,i32_w];rfl
     refine pure_ (i:=10) (N:=some 32) (v:=?_) (a':=?_) #[true,true,true,true,true,true,true,true,true,true,true] rfl rfl (any_of HT_.out (by kernel_rfl)) (fun _ _ _ h=>h) (Or.inl ⟨by rfl,?_⟩) ?_ ?_;rotate_left
     ·intro w';go_simp;with_reducible rfl
     rotate_left
     ·simp only [Act.put,se1_,se2_,se3_,i64_w,i32_w];rfl
     refine done_ (done_of HT_.out (by kernel_rfl)) ?_
     try go_wp2
     go_roundg k1
     case measure=>have:=HK1.out;omega
     case rel=>exact ⟨(wrap64 (x7_1 + 1)),rr_,(by first|exact H'|(subst_vars;exact H')),⟨by have:=HK1.out;omega⟩,⟨(rk_ HO_5)⟩,⟨(rk_ HO_6)⟩,⟨(bk_ BK298)⟩,⟨(bk_ BK299)⟩,⟨(hb_ HB)⟩⟩
    rw [if_neg c11] at H
    exact absurd H (by simp)
   rw [if_neg c10] at H
   have c10b0 : decide (x7_1 < (l0_4.length : Int)) = false:=df_ c10;clear c10;obtain rfl:=si_ H;have hnb48:=NB298_299.out;have hnc48:=NB299_298.out;obtain ⟨hcz49_0,hcz49_1,hcz49_2,hcz49_3,hcz49_4,hcz49_5,hfz49_0,hfz49_1,hfz49_2,hfz49_3,hfz49_4,hfz49_5⟩:=cf6_ BK298;go_wp2
   go_ret;exact ⟨er_,(hb_ HB)⟩
end Go.Proofs.YtfaegleohhemkaaDoor.PTreeLikes
