-- By shrink.py.
import Derived.Test.YtfaegleohhemkaaDoorZPTreeLikesx0
import Derived.Test.YtfaegleohhemkaaDoorZPTreeLikesx30
namespace Go.Proofs.YtfaegleohhemkaaDoor.PTreeLikes
open Go.RowKit Go.Proofs.YtfaegleohhemkaaDoorW.PrintWords Go.Proofs.YtfaegleohhemkaaDoorW.PrintLast Go.Proofs.YtfaegleohhemkaaDoorW.PrintMore
attribute [local go_sem] max2_int min2_int max_two min_two max_three min_three max_four min_four
set_option linter.unusedVariables false
set_option linter.unusedSimpArgs false
def quarryref11_Cmp.j0 : Nat → Bool → Bool → ByteArray → Int → Bool → ByteArray → Int → Option (Int × Int)
 | 0,_,_,_,_,_,_,_=>none
 | k + 1,x15,x256000,x256001,x256002,x257000,x257001,x257002=>if x15 = true then (some (0,1)) else ((quarryref11_sign.f x256000 x256001 x256002).bind fun t259=>((quarryref11_sign.f x257000 x257001 x257002).bind fun t260=>(if t259 < t260 then (some ((-1),0)) else (if t259 > t260 then (some (1,0)) else (if t259 = 0 then (some (0,0)) else ((quarryref11_above.f x256000 x256001 x256002 x257000 x257001 x257002).bind fun t261=>(if t261 = true then (some (t259,0)) else ((quarryref11_above.f x257000 x257001 x257002 x256000 x256001 x256002).bind fun t262=>(if t262 = true then (some (wrap64 (-t259),0)) else (some (0,0)))))))))))
def quarryref11_Cmp.f (k : Nat) (a0_0 : Bool) (a0_1 : ByteArray) (a0_2 : Int) (a1_0 : Bool) (a1_1 : ByteArray) (a1_2 : Int) : Option (Int × Int):=(quarryref11_Formed.f k a0_0 a0_1 a0_2).bind fun t257=>(if t257 = true then ((quarryref11_Formed.f k a1_0 a1_1 a1_2).bind fun t258=>(quarryref11_Cmp.j0 k (!t258) a0_0 a0_1 a0_2 a1_0 a1_1 a1_2)) else (quarryref11_Cmp.j0 k true a0_0 a0_1 a0_2 a1_0 a1_1 a1_2))
theorem quarryref11_Cmp.mono_l : ∀ k,(∀ y0 y1 y2 y3 y4 y5 y6,LeO (quarryref11_Cmp.j0 k y0 y1 y2 y3 y4 y5 y6) (quarryref11_Cmp.j0 (k + 1) y0 y1 y2 y3 y4 y5 y6))
 | 0=>fun _ _ _ _ _ _ _ r h=>by simp [quarryref11_Cmp.j0] at h
 | k + 1=>by
  have ih0:=quarryref11_Cmp.mono_l k;intro y0 y1 y2 y3 y4 y5 y6
  unfold quarryref11_Cmp.j0
  repeat' first
  | (with_reducible exact ih0 _ _ _ _ _ _ _)
  | (with_reducible exact quarryref11_Formed.mono _ _ _ _)
  | (with_reducible exact LeO.refl _)
  | (with_reducible exact LeO.none _)
  | (with_reducible refine LeO.ite ?_ ?_)
  | (with_reducible refine LeO.bind ?_ (fun _=>?_))
  | exact ih0 _ _ _ _ _ _ _
  | exact LeO.none _
  | refine LeO.ite ?_ ?_
  | refine LeO.bind ?_ (fun _=>?_)
theorem quarryref11_Cmp.mono : ∀ a0 a1 a2 a3 a4 a5 k,LeO (quarryref11_Cmp.f k a0 a1 a2 a3 a4 a5) (quarryref11_Cmp.f (k + 1) a0 a1 a2 a3 a4 a5):=by
 intro a0 a1 a2 a3 a4 a5 k;have ih0:=quarryref11_Cmp.mono_l k
 unfold quarryref11_Cmp.f
 repeat' first
   | (with_reducible exact ih0 _ _ _ _ _ _ _)
   | (with_reducible exact quarryref11_Formed.mono _ _ _ _)
   | (with_reducible exact LeO.refl _)
   | (with_reducible exact LeO.none _)
   | (with_reducible refine LeO.ite ?_ ?_)
   | (with_reducible refine LeO.bind ?_ (fun _=>?_))
   | exact ih0 _ _ _ _ _ _ _
   | exact LeO.none _
   | refine LeO.ite ?_ ?_
   | refine LeO.bind ?_ (fun _=>?_)
set_option maxHeartbeats 8000000 in
set_option maxRecDepth 100000 in
theorem quarryref11_Cmp.calls (k : Nat) (a0_0 : Bool) (a0_1 : ByteArray) (a0_2 : Int) (a1_0 : Bool) (a1_1 : ByteArray) (a1_2 : Int) (r1 : Int) (r2 : Int) (w : World) (h : quarryref11_Cmp.f k a0_0 a0_1 a0_2 a1_0 a1_1 a1_2 = some (r1,r2)) :
  Calls Tryd.prog 32 #[.agg #[.bool a0_0,.string a0_1,.int .i64 a0_2],.agg #[.bool a1_0,.string a1_1,.int .i64 a1_2]] w fun e w'=>e = .returned (.tuple #[.int .i64 r1,.int .i64 r2]) ∧ Below w.heap.size w w':=by
 have hu48:=Tryd.underlying48;have HB:=ad_ (Below.refl w.heap.size w);have H : ((quarryref11_Formed.f k a0_0 a0_1 a0_2).bind fun t257=>(if t257 = true then ((quarryref11_Formed.f k a1_0 a1_1 a1_2).bind fun t258=>(quarryref11_Cmp.j0 k (!t258) a0_0 a0_1 a0_2 a1_0 a1_1 a1_2)) else (quarryref11_Cmp.j0 k true a0_0 a0_1 a0_2 a1_0 a1_1 a1_2))) = some (r1,r2):=h;clear h;have HC3:=ad_ H;clear H;go_enter Tryd.func32,Tryd.ntmps32
 go_upto_region 1 with (first|((with_reducible refine gate_dst (N:=2) rfl ?_);refine box_event ?hg (N:=2) ?hd (cs:=#[.bool a0_0,.string a0_1,.int .i64 a0_2]) (t:=48) ?hr ?_;(case hd=>rfl);(case hg=>rfl);(case hr=>first|(go_simp;done)|(go_simp;rfl));intro gb255 hg w4 hbox hb;have n_:=J_ (bw_ (hb_ HB) hb) (J_ (hbox) (J_ (bs_ hg HB) (ad_ (bs_ hg HB))));clear HB;obtain ⟨HB,BK255,GW255,GE255⟩:=n_;clear hb hbox hg)|((with_reducible refine gate_dst (N:=3) rfl ?_);refine box_event ?hg (N:=3) ?hd (cs:=#[.bool a1_0,.string a1_1,.int .i64 a1_2]) (t:=48) ?hr ?_;(case hd=>rfl);(case hg=>rfl);(case hr=>first|(go_simp;done)|(go_simp;rfl));intro gb256 hg w5 hbox hb;have n_:=J_ (bkb_ BK255 hb) (J_ (bw_ (hb_ HB) hb) (J_ (hbox) (J_ (bs_ hg HB) (J_ (bs_ hg HB) (J_ ((by rw [hg];exact Nat.ne_of_lt (bkl_ BK255) : gb255 ≠ gb256)) (ad_ ((by rw [hg];exact Nat.ne_of_gt (bkl_ BK255) : gb256 ≠ gb255))))))));clear BK255 HB;obtain ⟨BK255,HB,BK256,GW256,GE256,NB255_256,NB256_255⟩:=n_;clear hb hbox hg))
 (try simp only [Act.put,List.setIfInBounds_toArray,List.set_cons_zero,List.set_cons_succ])
 go_cut [15] (fun v15 wc=>∃ (kq : Nat) (x15_2 : Bool),v15 = .bool x15_2 ∧ Aside0 (quarryref11_Cmp.j0 kq x15_2 a0_0 a0_1 a0_2 a1_0 a1_1 a1_2 = some (r1,r2)) ∧ Aside0 (kq ≤ k) ∧ Aside0 (wc.heap[gb255]? = some (.cells #[.bool a0_0,.string a0_1,.int .i64 a0_2] 48 (0,0))) ∧ Aside0 (wc.heap[gb256]? = some (.cells #[.bool a1_0,.string a1_1,.int .i64 a1_2] 48 (0,0))) ∧ Aside0 (Below w.heap.size w wc))
 case first =>
  have H:=HC3.out;clear HC3;replace H:=Option.bind_eq_some_iff.mp H;obtain ⟨t257,A60,H⟩:=H
  try dsimp only at H
  have A6:=ad_ A60;clear A60
  by_cases c7 : t257 = true
  ·subst c7
   rw [if_pos rfl] at H
   replace H:=Option.bind_eq_some_iff.mp H;obtain ⟨t258,A80,H⟩:=H
   try dsimp only at H
   have A8:=ad_ A80;clear A80;have H':=ad_ H;clear H;have hnb9:=NB255_256.out;have hnc9:=NB256_255.out;obtain ⟨hcz10_0,hcz10_1,hcz10_2,hfz10_0,hfz10_1,hfz10_2⟩:=cf3_ BK255
   go_wp2_with (first|((with_reducible refine gate_callee (f:=43) rfl ?_);refine goesL_ (some 9) rfl rfl Tryd.func43 (by kernel_rfl) rfl #[.agg #[.bool a0_0,.string a0_1,.int .i64 a0_2]] rfl am_ ?_;(with_reducible refine (quarryref11_Formed.calls k a0_0 a0_1 a0_2 true _ A6.out).mono ?_);rintro e w11 ⟨rfl,hb⟩;refine ⟨_,rfl,?_⟩;have n_:=J_ (bkb_ BK255 hb) (J_ (bkb_ BK256 hb) (ad_ (bw_ (hb_ HB) hb)));clear BK255 BK256 HB;obtain ⟨BK255,BK256,HB⟩:=n_;(try clear hb);(try clear hb2);(try clear hk);(try clear hi);obtain ⟨hcz12_0,hcz12_1,hcz12_2,hfz12_0,hfz12_1,hfz12_2⟩:=cf3_ BK256)|(go_at_call 43;(with_reducible refine (quarryref11_Formed.calls k a1_0 a1_1 a1_2 t258 _ A8.out).mono ?_);rintro e w13 ⟨rfl,hb⟩;have n_:=J_ (bkb_ BK255 hb) (J_ (bkb_ BK256 hb) (ad_ (bw_ (hb_ HB) hb)));clear BK255 BK256 HB;obtain ⟨BK255,BK256,HB⟩:=n_;(try clear hb);(try clear hb2);(try clear hk);(try clear hi)))
   go_meet
   case rel=>exact ⟨_,(!t258),rr_,(by first|exact H'|(subst_vars;exact H')),⟨by first|omega|exact Nat.le_refl _⟩,⟨(bk_ BK255)⟩,⟨(bk_ BK256)⟩,⟨(hb_ HB)⟩⟩
  replace c7:=Bool.eq_false_iff.mpr c7;subst c7
  rw [if_neg (show ¬ (false = true) by decide)] at H
  have H':=ad_ H;clear H;have hnb14:=NB255_256.out;have hnc14:=NB256_255.out;obtain ⟨hcz15_0,hcz15_1,hcz15_2,hfz15_0,hfz15_1,hfz15_2⟩:=cf3_ BK255
  go_wp2_with (first|((with_reducible refine gate_callee (f:=43) rfl ?_);refine goesL_ (some 9) rfl rfl Tryd.func43 (by kernel_rfl) rfl #[.agg #[.bool a0_0,.string a0_1,.int .i64 a0_2]] rfl am_ ?_;(with_reducible refine (quarryref11_Formed.calls k a0_0 a0_1 a0_2 false _ A6.out).mono ?_);rintro e w16 ⟨rfl,hb⟩;refine ⟨_,rfl,?_⟩;have n_:=J_ (bkb_ BK255 hb) (J_ (bkb_ BK256 hb) (ad_ (bw_ (hb_ HB) hb)));clear BK255 BK256 HB;obtain ⟨BK255,BK256,HB⟩:=n_;(try clear hb);(try clear hb2);(try clear hk);(try clear hi)))
  go_meet
  case rel=>exact ⟨_,(true),rr_,(by first|exact H'|(subst_vars;exact H')),⟨by first|omega|exact Nat.le_refl _⟩,⟨(bk_ BK255)⟩,⟨(bk_ BK256)⟩,⟨(hb_ HB)⟩⟩
 case rest =>
  clear HC3;obtain ⟨kq,x15_2,rfl,HA,HJ2,BK255,BK256,HB⟩:=hcut
  cases kq with
  | zero=>exact absurd HA.out (by simp [quarryref11_Cmp.j0])
  | succ kj2 =>
   have H:=HA.out;clear HA
   simp only [quarryref11_Cmp.j0] at H
   by_cases c17 : x15_2 = true
   ·subst c17
    rw [if_pos rfl] at H
    simp only [Option.some.injEq,Prod.mk.injEq] at H
    obtain ⟨rfl,rfl⟩:=H;go_wp2
    go_ret2
    exact ⟨er_,(hb_ HB)⟩
   replace c17:=Bool.eq_false_iff.mpr c17;subst c17
   rw [if_neg (show ¬ (false = true) by decide)] at H
   replace H:=Option.bind_eq_some_iff.mp H;obtain ⟨t259,A180,H⟩:=H
   try dsimp only at H
   have A18:=ad_ A180;clear A180;replace H:=Option.bind_eq_some_iff.mp H;obtain ⟨t260,A190,H⟩:=H
   try dsimp only at H
   have A19:=ad_ A190;clear A190
   by_cases c20 : t259 < t260
   ·rw [if_pos c20] at H
    have c20b0 : decide (t259 < t260) = true:=dt_ c20;clear c20
    simp only [Option.some.injEq,Prod.mk.injEq] at H
    obtain ⟨rfl,rfl⟩:=H
    try go_wp2
    have n0_:=ad_ (blk_drew BK255.out);have n1_:=ad_ (blk_drew BK256.out);have n2_:=ad_ (below_drew1 HB.out);clear BK255;clear BK256;clear HB;have BK255:=n0_;have BK256:=n1_;have HB:=n2_;clear n0_ n1_ n2_;refine start_ (n:=6) (S:=fun w'=>w'.cell? ⟨gb255,0,none⟩ = some (.bool a0_0) ∧ w'.cell? ⟨gb255,1,none⟩ = some (.string a0_1) ∧ w'.cell? ⟨gb255,2,none⟩ = some (.int .i64 a0_2) ∧ w'.cell? ⟨gb256,0,none⟩ = some (.bool a1_0) ∧ w'.cell? ⟨gb256,1,none⟩ = some (.string a1_1) ∧ w'.cell? ⟨gb256,2,none⟩ = some (.int .i64 a1_2)) (ds:=[]) #[false,false,false,false,false,false] (by kernel_rfl) rfl rfl ⟨(bc_ BK255.out 0).trans rfl,(bc_ BK255.out 1).trans rfl,(bc_ BK255.out 2).trans rfl,(bc_ BK256.out 0).trans rfl,(bc_ BK256.out 1).trans rfl,(bc_ BK256.out 2).trans rfl⟩ (fun hHeld=>?_)
    generalize wc.drew = w21 at BK255 BK256 HB hHeld ⊢
    refine take_ (i:=0) (N:=some 16) (v:=?_) (a':=?_) #[true,false,false,false,false,false] rfl rfl (by kernel_rfl) (fun _ _ _ h=>h) (Or.inl ⟨by rfl,?_⟩) hHeld ?_ ?_;rotate_left
    ·rintro w' ⟨s0,s1,s2,s3,s4,s5⟩;go_simp;with_reducible rfl
    rotate_left
    ·simp only [Act.put,se1_,se2_,se3_,i64_w,i32_w];rfl
    refine take_ (i:=2) (N:=some 18) (v:=?_) (a':=?_) #[true,false,true,false,false,false] rfl rfl (by kernel_rfl) (fun _ _ _ h=>h) (Or.inl ⟨by rfl,?_⟩) hHeld ?_ ?_;rotate_left
    ·rintro w' ⟨s0,s1,s2,s3,s4,s5⟩;go_simp;with_reducible rfl
    rotate_left
    ·simp only [Act.put,se1_,se2_,se3_,i64_w,i32_w];rfl
    refine one_ (i:=1) (N:=some 17) #[true,true,true,false,false,false] rfl rfl (by kernel_rfl) (by decide) (fun K hK=>?_);refine goes_ Tryd.func44 (by kernel_rfl) rfl #[.agg #[.bool a0_0,.string a0_1,.int .i64 a0_2]] (by rfl) rfl rfl am_ ?_
    with_reducible refine (quarryref11_sign.calls a0_0 a0_1 a0_2 t259 _ A18.out).mono ?_
    rintro e w22 ⟨rfl,hb⟩;refine ⟨_,rfl,?_⟩;have n0_:=ad_ (bkb_ BK255 hb);have n1_:=ad_ (bkb_ BK256 hb);have n2_:=ad_ (bw_ (hb_ HB) hb);clear BK255;clear BK256;clear HB;have BK255:=n0_;have BK256:=n1_;have HB:=n2_;clear n0_ n1_ n2_
    (try clear hb)
    (try clear hb2)
    (try clear hk)
    (try clear hi)
    refine hK.out _ _ ⟨(bc_ BK255.out 0).trans rfl,(bc_ BK255.out 1).trans rfl,(bc_ BK255.out 2).trans rfl,(bc_ BK256.out 0).trans rfl,(bc_ BK256.out 1).trans rfl,(bc_ BK256.out 2).trans rfl⟩ (fun hHeld=>?_);clear hK K;refine norm_ (a':=?_) ?_ ?_;rotate_left
    ·show Act.put _ (some 17) _ = _
     simp only [Act.put,se1_,se2_,se3_,i64_w,i32_w];rfl
    refine one_ (i:=3) (N:=some 19) #[true,true,true,true,false,false] rfl rfl (by kernel_rfl) (by decide) (fun K hK=>?_);refine goes_ Tryd.func44 (by kernel_rfl) rfl #[.agg #[.bool a1_0,.string a1_1,.int .i64 a1_2]] (by rfl) rfl rfl am_ ?_
    with_reducible refine (quarryref11_sign.calls a1_0 a1_1 a1_2 t260 _ A19.out).mono ?_
    rintro e w23 ⟨rfl,hb⟩;refine ⟨_,rfl,?_⟩;have n0_:=ad_ (bkb_ BK255 hb);have n1_:=ad_ (bkb_ BK256 hb);have n2_:=ad_ (bw_ (hb_ HB) hb);clear BK255;clear BK256;clear HB;have BK255:=n0_;have BK256:=n1_;have HB:=n2_;clear n0_ n1_ n2_
    (try clear hb)
    (try clear hb2)
    (try clear hk)
    (try clear hi)
    refine hK.out _ _ ⟨(bc_ BK255.out 0).trans rfl,(bc_ BK255.out 1).trans rfl,(bc_ BK255.out 2).trans rfl,(bc_ BK256.out 0).trans rfl,(bc_ BK256.out 1).trans rfl,(bc_ BK256.out 2).trans rfl⟩ (fun hHeld=>?_);clear hK K;refine norm_ (a':=?_) ?_ ?_;rotate_left
    ·show Act.put _ (some 19) _ = _
     simp only [Act.put,se1_,se2_,se3_,i64_w,i32_w];rfl
    refine pure_ (i:=4) (N:=some 6) (v:=?_) (a':=?_) #[true,true,true,true,true,false] rfl rfl (by kernel_rfl) (fun _ _ _ h=>h) (Or.inl ⟨by rfl,?_⟩) ?_ ?_;rotate_left
    ·intro w';go_simp;with_reducible rfl
    rotate_left
    ·simp only [Act.put,se1_,se2_,se3_,i64_w,i32_w];rfl
    refine pure_ (i:=5) (N:=some 7) (v:=?_) (a':=?_) #[true,true,true,true,true,true] rfl rfl (by kernel_rfl) (fun _ _ _ h=>h) (Or.inl ⟨by rfl,?_⟩) ?_ ?_;rotate_left
    ·intro w';go_simp;with_reducible rfl
    rotate_left
    ·simp only [Act.put,se1_,se2_,se3_,i64_w,i32_w];rfl
    refine done_ (by kernel_rfl) ?_
    try go_wp2
    go_ret2
    exact ⟨er_,(hb_ HB)⟩
   rw [if_neg c20] at H
   have c20b0 : decide (t259 < t260) = false:=df_ c20;clear c20
   by_cases c24 : t259 > t260
   ·rw [if_pos c24] at H
    have c24b0 : decide (t260 < t259) = true:=dt_ c24;clear c24
    simp only [Option.some.injEq,Prod.mk.injEq] at H
    obtain ⟨rfl,rfl⟩:=H
    try go_wp2
    have n0_:=ad_ (blk_drew BK255.out);have n1_:=ad_ (blk_drew BK256.out);have n2_:=ad_ (below_drew1 HB.out);clear BK255;clear BK256;clear HB;have BK255:=n0_;have BK256:=n1_;have HB:=n2_;clear n0_ n1_ n2_;refine start_ (n:=6) (S:=fun w'=>w'.cell? ⟨gb255,0,none⟩ = some (.bool a0_0) ∧ w'.cell? ⟨gb255,1,none⟩ = some (.string a0_1) ∧ w'.cell? ⟨gb255,2,none⟩ = some (.int .i64 a0_2) ∧ w'.cell? ⟨gb256,0,none⟩ = some (.bool a1_0) ∧ w'.cell? ⟨gb256,1,none⟩ = some (.string a1_1) ∧ w'.cell? ⟨gb256,2,none⟩ = some (.int .i64 a1_2)) (ds:=[]) #[false,false,false,false,false,false] (by kernel_rfl) rfl rfl ⟨(bc_ BK255.out 0).trans rfl,(bc_ BK255.out 1).trans rfl,(bc_ BK255.out 2).trans rfl,(bc_ BK256.out 0).trans rfl,(bc_ BK256.out 1).trans rfl,(bc_ BK256.out 2).trans rfl⟩ (fun hHeld=>?_)
    generalize wc.drew = w25 at BK255 BK256 HB hHeld ⊢
    refine take_ (i:=0) (N:=some 16) (v:=?_) (a':=?_) #[true,false,false,false,false,false] rfl rfl (by kernel_rfl) (fun _ _ _ h=>h) (Or.inl ⟨by rfl,?_⟩) hHeld ?_ ?_;rotate_left
    ·rintro w' ⟨s0,s1,s2,s3,s4,s5⟩;go_simp;with_reducible rfl
    rotate_left
    ·simp only [Act.put,se1_,se2_,se3_,i64_w,i32_w];rfl
    refine take_ (i:=2) (N:=some 18) (v:=?_) (a':=?_) #[true,false,true,false,false,false] rfl rfl (by kernel_rfl) (fun _ _ _ h=>h) (Or.inl ⟨by rfl,?_⟩) hHeld ?_ ?_;rotate_left
    ·rintro w' ⟨s0,s1,s2,s3,s4,s5⟩;go_simp;with_reducible rfl
    rotate_left
    ·simp only [Act.put,se1_,se2_,se3_,i64_w,i32_w];rfl
    refine one_ (i:=1) (N:=some 17) #[true,true,true,false,false,false] rfl rfl (by kernel_rfl) (by decide) (fun K hK=>?_);refine goes_ Tryd.func44 (by kernel_rfl) rfl #[.agg #[.bool a0_0,.string a0_1,.int .i64 a0_2]] (by rfl) rfl rfl am_ ?_
    with_reducible refine (quarryref11_sign.calls a0_0 a0_1 a0_2 t259 _ A18.out).mono ?_
    rintro e w26 ⟨rfl,hb⟩;refine ⟨_,rfl,?_⟩;have n0_:=ad_ (bkb_ BK255 hb);have n1_:=ad_ (bkb_ BK256 hb);have n2_:=ad_ (bw_ (hb_ HB) hb);clear BK255;clear BK256;clear HB;have BK255:=n0_;have BK256:=n1_;have HB:=n2_;clear n0_ n1_ n2_
    (try clear hb)
    (try clear hb2)
    (try clear hk)
    (try clear hi)
    refine hK.out _ _ ⟨(bc_ BK255.out 0).trans rfl,(bc_ BK255.out 1).trans rfl,(bc_ BK255.out 2).trans rfl,(bc_ BK256.out 0).trans rfl,(bc_ BK256.out 1).trans rfl,(bc_ BK256.out 2).trans rfl⟩ (fun hHeld=>?_);clear hK K;refine norm_ (a':=?_) ?_ ?_;rotate_left
    ·show Act.put _ (some 17) _ = _
     simp only [Act.put,se1_,se2_,se3_,i64_w,i32_w];rfl
    refine one_ (i:=3) (N:=some 19) #[true,true,true,true,false,false] rfl rfl (by kernel_rfl) (by decide) (fun K hK=>?_);refine goes_ Tryd.func44 (by kernel_rfl) rfl #[.agg #[.bool a1_0,.string a1_1,.int .i64 a1_2]] (by rfl) rfl rfl am_ ?_
    with_reducible refine (quarryref11_sign.calls a1_0 a1_1 a1_2 t260 _ A19.out).mono ?_
    rintro e w27 ⟨rfl,hb⟩;refine ⟨_,rfl,?_⟩;have n0_:=ad_ (bkb_ BK255 hb);have n1_:=ad_ (bkb_ BK256 hb);have n2_:=ad_ (bw_ (hb_ HB) hb);clear BK255;clear BK256;clear HB;have BK255:=n0_;have BK256:=n1_;have HB:=n2_;clear n0_ n1_ n2_
    (try clear hb)
    (try clear hb2)
    (try clear hk)
    (try clear hi)
    refine hK.out _ _ ⟨(bc_ BK255.out 0).trans rfl,(bc_ BK255.out 1).trans rfl,(bc_ BK255.out 2).trans rfl,(bc_ BK256.out 0).trans rfl,(bc_ BK256.out 1).trans rfl,(bc_ BK256.out 2).trans rfl⟩ (fun hHeld=>?_);clear hK K;refine norm_ (a':=?_) ?_ ?_;rotate_left
    ·show Act.put _ (some 19) _ = _
     simp only [Act.put,se1_,se2_,se3_,i64_w,i32_w];rfl
    refine pure_ (i:=4) (N:=some 6) (v:=?_) (a':=?_) #[true,true,true,true,true,false] rfl rfl (by kernel_rfl) (fun _ _ _ h=>h) (Or.inl ⟨by rfl,?_⟩) ?_ ?_;rotate_left
    ·intro w';go_simp;with_reducible rfl
    rotate_left
    ·simp only [Act.put,se1_,se2_,se3_,i64_w,i32_w];rfl
    refine pure_ (i:=5) (N:=some 7) (v:=?_) (a':=?_) #[true,true,true,true,true,true] rfl rfl (by kernel_rfl) (fun _ _ _ h=>h) (Or.inl ⟨by rfl,?_⟩) ?_ ?_;rotate_left
    ·intro w';go_simp;with_reducible rfl
    rotate_left
    ·simp only [Act.put,se1_,se2_,se3_,i64_w,i32_w];rfl
    refine done_ (by kernel_rfl) ?_
    try go_wp2
    go_ret2
    exact ⟨er_,(hb_ HB)⟩
   rw [if_neg c24] at H
   have c24b0 : decide (t260 < t259) = false:=df_ c24;clear c24
   by_cases c28 : t259 = 0
   ·rw [if_pos c28] at H
    have c28b0 : (t259 == 0) = true:=beq_iff_eq.mpr c28;have c28b1 : (t259 != 0) = false:=bne_eq_false_iff_eq.mpr c28;clear c28
    simp only [Option.some.injEq,Prod.mk.injEq] at H
    obtain ⟨rfl,rfl⟩:=H
    try go_wp2
    have n0_:=ad_ (blk_drew BK255.out);have n1_:=ad_ (blk_drew BK256.out);have n2_:=ad_ (below_drew1 HB.out);clear BK255;clear BK256;clear HB;have BK255:=n0_;have BK256:=n1_;have HB:=n2_;clear n0_ n1_ n2_;refine start_ (n:=6) (S:=fun w'=>w'.cell? ⟨gb255,0,none⟩ = some (.bool a0_0) ∧ w'.cell? ⟨gb255,1,none⟩ = some (.string a0_1) ∧ w'.cell? ⟨gb255,2,none⟩ = some (.int .i64 a0_2) ∧ w'.cell? ⟨gb256,0,none⟩ = some (.bool a1_0) ∧ w'.cell? ⟨gb256,1,none⟩ = some (.string a1_1) ∧ w'.cell? ⟨gb256,2,none⟩ = some (.int .i64 a1_2)) (ds:=[]) #[false,false,false,false,false,false] (by kernel_rfl) rfl rfl ⟨(bc_ BK255.out 0).trans rfl,(bc_ BK255.out 1).trans rfl,(bc_ BK255.out 2).trans rfl,(bc_ BK256.out 0).trans rfl,(bc_ BK256.out 1).trans rfl,(bc_ BK256.out 2).trans rfl⟩ (fun hHeld=>?_)
    generalize wc.drew = w29 at BK255 BK256 HB hHeld ⊢
    refine take_ (i:=0) (N:=some 16) (v:=?_) (a':=?_) #[true,false,false,false,false,false] rfl rfl (by kernel_rfl) (fun _ _ _ h=>h) (Or.inl ⟨by rfl,?_⟩) hHeld ?_ ?_;rotate_left
    ·rintro w' ⟨s0,s1,s2,s3,s4,s5⟩;go_simp;with_reducible rfl
    rotate_left
    ·simp only [Act.put,se1_,se2_,se3_,i64_w,i32_w];rfl
    refine take_ (i:=2) (N:=some 18) (v:=?_) (a':=?_) #[true,false,true,false,false,false] rfl rfl (by kernel_rfl) (fun _ _ _ h=>h) (Or.inl ⟨by rfl,?_⟩) hHeld ?_ ?_;rotate_left
    ·rintro w' ⟨s0,s1,s2,s3,s4,s5⟩;go_simp;with_reducible rfl
    rotate_left
    ·simp only [Act.put,se1_,se2_,se3_,i64_w,i32_w];rfl
    refine one_ (i:=1) (N:=some 17) #[true,true,true,false,false,false] rfl rfl (by kernel_rfl) (by decide) (fun K hK=>?_);refine goes_ Tryd.func44 (by kernel_rfl) rfl #[.agg #[.bool a0_0,.string a0_1,.int .i64 a0_2]] (by rfl) rfl rfl am_ ?_
    with_reducible refine (quarryref11_sign.calls a0_0 a0_1 a0_2 t259 _ A18.out).mono ?_
    rintro e w30 ⟨rfl,hb⟩;refine ⟨_,rfl,?_⟩;have n0_:=ad_ (bkb_ BK255 hb);have n1_:=ad_ (bkb_ BK256 hb);have n2_:=ad_ (bw_ (hb_ HB) hb);clear BK255;clear BK256;clear HB;have BK255:=n0_;have BK256:=n1_;have HB:=n2_;clear n0_ n1_ n2_
    (try clear hb)
    (try clear hb2)
    (try clear hk)
    (try clear hi)
    refine hK.out _ _ ⟨(bc_ BK255.out 0).trans rfl,(bc_ BK255.out 1).trans rfl,(bc_ BK255.out 2).trans rfl,(bc_ BK256.out 0).trans rfl,(bc_ BK256.out 1).trans rfl,(bc_ BK256.out 2).trans rfl⟩ (fun hHeld=>?_);clear hK K;refine norm_ (a':=?_) ?_ ?_;rotate_left
    ·show Act.put _ (some 17) _ = _
     simp only [Act.put,se1_,se2_,se3_,i64_w,i32_w];rfl
    refine one_ (i:=3) (N:=some 19) #[true,true,true,true,false,false] rfl rfl (by kernel_rfl) (by decide) (fun K hK=>?_);refine goes_ Tryd.func44 (by kernel_rfl) rfl #[.agg #[.bool a1_0,.string a1_1,.int .i64 a1_2]] (by rfl) rfl rfl am_ ?_
    with_reducible refine (quarryref11_sign.calls a1_0 a1_1 a1_2 t260 _ A19.out).mono ?_
    rintro e w31 ⟨rfl,hb⟩;refine ⟨_,rfl,?_⟩;have n0_:=ad_ (bkb_ BK255 hb);have n1_:=ad_ (bkb_ BK256 hb);have n2_:=ad_ (bw_ (hb_ HB) hb);clear BK255;clear BK256;clear HB;have BK255:=n0_;have BK256:=n1_;have HB:=n2_;clear n0_ n1_ n2_
    (try clear hb)
    (try clear hb2)
    (try clear hk)
    (try clear hi)
    refine hK.out _ _ ⟨(bc_ BK255.out 0).trans rfl,(bc_ BK255.out 1).trans rfl,(bc_ BK255.out 2).trans rfl,(bc_ BK256.out 0).trans rfl,(bc_ BK256.out 1).trans rfl,(bc_ BK256.out 2).trans rfl⟩ (fun hHeld=>?_);clear hK K;refine norm_ (a':=?_) ?_ ?_;rotate_left
    ·show Act.put _ (some 19) _ = _
     simp only [Act.put,se1_,se2_,se3_,i64_w,i32_w];rfl
    refine pure_ (i:=4) (N:=some 6) (v:=?_) (a':=?_) #[true,true,true,true,true,false] rfl rfl (by kernel_rfl) (fun _ _ _ h=>h) (Or.inl ⟨by rfl,?_⟩) ?_ ?_;rotate_left
    ·intro w';go_simp;with_reducible rfl
    rotate_left
    ·simp only [Act.put,se1_,se2_,se3_,i64_w,i32_w];rfl
    refine pure_ (i:=5) (N:=some 7) (v:=?_) (a':=?_) #[true,true,true,true,true,true] rfl rfl (by kernel_rfl) (fun _ _ _ h=>h) (Or.inl ⟨by rfl,?_⟩) ?_ ?_;rotate_left
    ·intro w';go_simp;with_reducible rfl
    rotate_left
    ·simp only [Act.put,se1_,se2_,se3_,i64_w,i32_w];rfl
    refine done_ (by kernel_rfl) ?_
    try go_wp2
    go_ret2
    exact ⟨er_,(hb_ HB)⟩
   rw [if_neg c28] at H
   have c28b0 : (t259 == 0) = false:=be_ c28;have c28b1 : (t259 != 0) = true:=bne_iff_ne.mpr c28;replace H:=Option.bind_eq_some_iff.mp H;obtain ⟨t261,A320,H⟩:=H
   try dsimp only at H
   have A32:=ad_ A320;clear A320
   by_cases c33 : t261 = true
   ·subst c33
    rw [if_pos rfl] at H
    simp only [Option.some.injEq,Prod.mk.injEq] at H
    obtain ⟨rfl,rfl⟩:=H
    try go_wp2
    have n0_:=ad_ (blk_drew BK255.out);have n1_:=ad_ (blk_drew BK256.out);have n2_:=ad_ (below_drew1 HB.out);clear BK255;clear BK256;clear HB;have BK255:=n0_;have BK256:=n1_;have HB:=n2_;clear n0_ n1_ n2_;refine start_ (n:=6) (S:=fun w'=>w'.cell? ⟨gb255,0,none⟩ = some (.bool a0_0) ∧ w'.cell? ⟨gb255,1,none⟩ = some (.string a0_1) ∧ w'.cell? ⟨gb255,2,none⟩ = some (.int .i64 a0_2) ∧ w'.cell? ⟨gb256,0,none⟩ = some (.bool a1_0) ∧ w'.cell? ⟨gb256,1,none⟩ = some (.string a1_1) ∧ w'.cell? ⟨gb256,2,none⟩ = some (.int .i64 a1_2)) (ds:=[]) #[false,false,false,false,false,false] (by kernel_rfl) rfl rfl ⟨(bc_ BK255.out 0).trans rfl,(bc_ BK255.out 1).trans rfl,(bc_ BK255.out 2).trans rfl,(bc_ BK256.out 0).trans rfl,(bc_ BK256.out 1).trans rfl,(bc_ BK256.out 2).trans rfl⟩ (fun hHeld=>?_)
    generalize wc.drew = w34 at BK255 BK256 HB hHeld ⊢
    refine take_ (i:=0) (N:=some 16) (v:=?_) (a':=?_) #[true,false,false,false,false,false] rfl rfl (by kernel_rfl) (fun _ _ _ h=>h) (Or.inl ⟨by rfl,?_⟩) hHeld ?_ ?_;rotate_left
    ·rintro w' ⟨s0,s1,s2,s3,s4,s5⟩;go_simp;with_reducible rfl
    rotate_left
    ·simp only [Act.put,se1_,se2_,se3_,i64_w,i32_w];rfl
    refine take_ (i:=2) (N:=some 18) (v:=?_) (a':=?_) #[true,false,true,false,false,false] rfl rfl (by kernel_rfl) (fun _ _ _ h=>h) (Or.inl ⟨by rfl,?_⟩) hHeld ?_ ?_;rotate_left
    ·rintro w' ⟨s0,s1,s2,s3,s4,s5⟩;go_simp;with_reducible rfl
    rotate_left
    ·simp only [Act.put,se1_,se2_,se3_,i64_w,i32_w];rfl
    refine one_ (i:=1) (N:=some 17) #[true,true,true,false,false,false] rfl rfl (by kernel_rfl) (by decide) (fun K hK=>?_);refine goes_ Tryd.func44 (by kernel_rfl) rfl #[.agg #[.bool a0_0,.string a0_1,.int .i64 a0_2]] (by rfl) rfl rfl am_ ?_
    with_reducible refine (quarryref11_sign.calls a0_0 a0_1 a0_2 t259 _ A18.out).mono ?_
    rintro e w35 ⟨rfl,hb⟩;refine ⟨_,rfl,?_⟩;have n0_:=ad_ (bkb_ BK255 hb);have n1_:=ad_ (bkb_ BK256 hb);have n2_:=ad_ (bw_ (hb_ HB) hb);clear BK255;clear BK256;clear HB;have BK255:=n0_;have BK256:=n1_;have HB:=n2_;clear n0_ n1_ n2_
    (try clear hb)
    (try clear hb2)
    (try clear hk)
    (try clear hi)
    refine hK.out _ _ ⟨(bc_ BK255.out 0).trans rfl,(bc_ BK255.out 1).trans rfl,(bc_ BK255.out 2).trans rfl,(bc_ BK256.out 0).trans rfl,(bc_ BK256.out 1).trans rfl,(bc_ BK256.out 2).trans rfl⟩ (fun hHeld=>?_);clear hK K;refine norm_ (a':=?_) ?_ ?_;rotate_left
    ·show Act.put _ (some 17) _ = _
     simp only [Act.put,se1_,se2_,se3_,i64_w,i32_w];rfl
    refine one_ (i:=3) (N:=some 19) #[true,true,true,true,false,false] rfl rfl (by kernel_rfl) (by decide) (fun K hK=>?_);refine goes_ Tryd.func44 (by kernel_rfl) rfl #[.agg #[.bool a1_0,.string a1_1,.int .i64 a1_2]] (by rfl) rfl rfl am_ ?_
    with_reducible refine (quarryref11_sign.calls a1_0 a1_1 a1_2 t260 _ A19.out).mono ?_
    rintro e w36 ⟨rfl,hb⟩;refine ⟨_,rfl,?_⟩;have n0_:=ad_ (bkb_ BK255 hb);have n1_:=ad_ (bkb_ BK256 hb);have n2_:=ad_ (bw_ (hb_ HB) hb);clear BK255;clear BK256;clear HB;have BK255:=n0_;have BK256:=n1_;have HB:=n2_;clear n0_ n1_ n2_
    (try clear hb)
    (try clear hb2)
    (try clear hk)
    (try clear hi)
    refine hK.out _ _ ⟨(bc_ BK255.out 0).trans rfl,(bc_ BK255.out 1).trans rfl,(bc_ BK255.out 2).trans rfl,(bc_ BK256.out 0).trans rfl,(bc_ BK256.out 1).trans rfl,(bc_ BK256.out 2).trans rfl⟩ (fun hHeld=>?_);clear hK K;refine norm_ (a':=?_) ?_ ?_;rotate_left
    ·show Act.put _ (some 19) _ = _
     simp only [Act.put,se1_,se2_,se3_,i64_w,i32_w];rfl
    refine pure_ (i:=4) (N:=some 6) (v:=?_) (a':=?_) #[true,true,true,true,true,false] rfl rfl (by kernel_rfl) (fun _ _ _ h=>h) (Or.inl ⟨by rfl,?_⟩) ?_ ?_;rotate_left
    ·intro w';go_simp;with_reducible rfl
    rotate_left
    ·simp only [Act.put,se1_,se2_,se3_,i64_w,i32_w];rfl
    refine pure_ (i:=5) (N:=some 7) (v:=?_) (a':=?_) #[true,true,true,true,true,true] rfl rfl (by kernel_rfl) (fun _ _ _ h=>h) (Or.inl ⟨by rfl,?_⟩) ?_ ?_;rotate_left
    ·intro w';go_simp;with_reducible rfl
    rotate_left
    ·simp only [Act.put,se1_,se2_,se3_,i64_w,i32_w];rfl
    refine done_ (by kernel_rfl) ?_;have hnb37:=NB255_256.out;have hnc37:=NB256_255.out;obtain ⟨hcz38_0,hcz38_1,hcz38_2,hfz38_0,hfz38_1,hfz38_2⟩:=cf3_ BK255;obtain ⟨hcz39_0,hcz39_1,hcz39_2,hfz39_0,hfz39_1,hfz39_2⟩:=cf3_ BK256
    try go_wp2_with (first|((with_reducible refine gate_callee (f:=45) rfl ?_);refine goesL_ (some 30) rfl rfl Tryd.func45 (by kernel_rfl) rfl #[.agg #[.bool a0_0,.string a0_1,.int .i64 a0_2],.agg #[.bool a1_0,.string a1_1,.int .i64 a1_2]] rfl am_ ?_;(with_reducible refine (quarryref11_above.calls a0_0 a0_1 a0_2 a1_0 a1_1 a1_2 true _ A32.out).mono ?_);rintro e w40 ⟨rfl,hb⟩;refine ⟨_,rfl,?_⟩;have n_:=J_ (bkb_ BK255 hb) (J_ (bkb_ BK256 hb) (ad_ (bw_ (hb_ HB) hb)));clear BK255 BK256 HB;obtain ⟨BK255,BK256,HB⟩:=n_;(try clear hb);(try clear hb2);(try clear hk);(try clear hi)))
    go_ret2
    exact ⟨er_,(hb_ HB)⟩
   replace c33:=Bool.eq_false_iff.mpr c33;subst c33
   rw [if_neg (show ¬ (false = true) by decide)] at H
   replace H:=Option.bind_eq_some_iff.mp H;obtain ⟨t262,A410,H⟩:=H
   try dsimp only at H
   have A41:=ad_ A410;clear A410
   by_cases c42 : t262 = true
   ·subst c42
    rw [if_pos rfl] at H
    simp only [Option.some.injEq,Prod.mk.injEq] at H
    obtain ⟨rfl,rfl⟩:=H
    try go_wp2
    have n0_:=ad_ (blk_drew BK255.out);have n1_:=ad_ (blk_drew BK256.out);have n2_:=ad_ (below_drew1 HB.out);clear BK255;clear BK256;clear HB;have BK255:=n0_;have BK256:=n1_;have HB:=n2_;clear n0_ n1_ n2_;refine start_ (n:=6) (S:=fun w'=>w'.cell? ⟨gb255,0,none⟩ = some (.bool a0_0) ∧ w'.cell? ⟨gb255,1,none⟩ = some (.string a0_1) ∧ w'.cell? ⟨gb255,2,none⟩ = some (.int .i64 a0_2) ∧ w'.cell? ⟨gb256,0,none⟩ = some (.bool a1_0) ∧ w'.cell? ⟨gb256,1,none⟩ = some (.string a1_1) ∧ w'.cell? ⟨gb256,2,none⟩ = some (.int .i64 a1_2)) (ds:=[]) #[false,false,false,false,false,false] (by kernel_rfl) rfl rfl ⟨(bc_ BK255.out 0).trans rfl,(bc_ BK255.out 1).trans rfl,(bc_ BK255.out 2).trans rfl,(bc_ BK256.out 0).trans rfl,(bc_ BK256.out 1).trans rfl,(bc_ BK256.out 2).trans rfl⟩ (fun hHeld=>?_)
    generalize wc.drew = w43 at BK255 BK256 HB hHeld ⊢
    refine take_ (i:=0) (N:=some 16) (v:=?_) (a':=?_) #[true,false,false,false,false,false] rfl rfl (by kernel_rfl) (fun _ _ _ h=>h) (Or.inl ⟨by rfl,?_⟩) hHeld ?_ ?_;rotate_left
    ·rintro w' ⟨s0,s1,s2,s3,s4,s5⟩;go_simp;with_reducible rfl
    rotate_left
    ·simp only [Act.put,se1_,se2_,se3_,i64_w,i32_w];rfl
    refine take_ (i:=2) (N:=some 18) (v:=?_) (a':=?_) #[true,false,true,false,false,false] rfl rfl (by kernel_rfl) (fun _ _ _ h=>h) (Or.inl ⟨by rfl,?_⟩) hHeld ?_ ?_;rotate_left
    ·rintro w' ⟨s0,s1,s2,s3,s4,s5⟩;go_simp;with_reducible rfl
    rotate_left
    ·simp only [Act.put,se1_,se2_,se3_,i64_w,i32_w];rfl
    refine one_ (i:=1) (N:=some 17) #[true,true,true,false,false,false] rfl rfl (by kernel_rfl) (by decide) (fun K hK=>?_);refine goes_ Tryd.func44 (by kernel_rfl) rfl #[.agg #[.bool a0_0,.string a0_1,.int .i64 a0_2]] (by rfl) rfl rfl am_ ?_
    with_reducible refine (quarryref11_sign.calls a0_0 a0_1 a0_2 t259 _ A18.out).mono ?_
    rintro e w44 ⟨rfl,hb⟩;refine ⟨_,rfl,?_⟩;have n0_:=ad_ (bkb_ BK255 hb);have n1_:=ad_ (bkb_ BK256 hb);have n2_:=ad_ (bw_ (hb_ HB) hb);clear BK255;clear BK256;clear HB;have BK255:=n0_;have BK256:=n1_;have HB:=n2_;clear n0_ n1_ n2_
    (try clear hb)
    (try clear hb2)
    (try clear hk)
    (try clear hi)
    refine hK.out _ _ ⟨(bc_ BK255.out 0).trans rfl,(bc_ BK255.out 1).trans rfl,(bc_ BK255.out 2).trans rfl,(bc_ BK256.out 0).trans rfl,(bc_ BK256.out 1).trans rfl,(bc_ BK256.out 2).trans rfl⟩ (fun hHeld=>?_);clear hK K;refine norm_ (a':=?_) ?_ ?_;rotate_left
    ·show Act.put _ (some 17) _ = _
     simp only [Act.put,se1_,se2_,se3_,i64_w,i32_w];rfl
    refine one_ (i:=3) (N:=some 19) #[true,true,true,true,false,false] rfl rfl (by kernel_rfl) (by decide) (fun K hK=>?_);refine goes_ Tryd.func44 (by kernel_rfl) rfl #[.agg #[.bool a1_0,.string a1_1,.int .i64 a1_2]] (by rfl) rfl rfl am_ ?_
    with_reducible refine (quarryref11_sign.calls a1_0 a1_1 a1_2 t260 _ A19.out).mono ?_
    rintro e w45 ⟨rfl,hb⟩;refine ⟨_,rfl,?_⟩;have n0_:=ad_ (bkb_ BK255 hb);have n1_:=ad_ (bkb_ BK256 hb);have n2_:=ad_ (bw_ (hb_ HB) hb);clear BK255;clear BK256;clear HB;have BK255:=n0_;have BK256:=n1_;have HB:=n2_;clear n0_ n1_ n2_
    (try clear hb)
    (try clear hb2)
    (try clear hk)
    (try clear hi)
    refine hK.out _ _ ⟨(bc_ BK255.out 0).trans rfl,(bc_ BK255.out 1).trans rfl,(bc_ BK255.out 2).trans rfl,(bc_ BK256.out 0).trans rfl,(bc_ BK256.out 1).trans rfl,(bc_ BK256.out 2).trans rfl⟩ (fun hHeld=>?_);clear hK K;refine norm_ (a':=?_) ?_ ?_;rotate_left
    ·show Act.put _ (some 19) _ = _
     simp only [Act.put,se1_,se2_,se3_,i64_w,i32_w];rfl
    refine pure_ (i:=4) (N:=some 6) (v:=?_) (a':=?_) #[true,true,true,true,true,false] rfl rfl (by kernel_rfl) (fun _ _ _ h=>h) (Or.inl ⟨by rfl,?_⟩) ?_ ?_;rotate_left
    ·intro w';go_simp;with_reducible rfl
    rotate_left
    ·simp only [Act.put,se1_,se2_,se3_,i64_w,i32_w];rfl
    refine pure_ (i:=5) (N:=some 7) (v:=?_) (a':=?_) #[true,true,true,true,true,true] rfl rfl (by kernel_rfl) (fun _ _ _ h=>h) (Or.inl ⟨by rfl,?_⟩) ?_ ?_;rotate_left
    ·intro w';go_simp;with_reducible rfl
    rotate_left
    ·simp only [Act.put,se1_,se2_,se3_,i64_w,i32_w];rfl
    refine done_ (by kernel_rfl) ?_;have hnb46:=NB255_256.out;have hnc46:=NB256_255.out;obtain ⟨hcz47_0,hcz47_1,hcz47_2,hfz47_0,hfz47_1,hfz47_2⟩:=cf3_ BK255;obtain ⟨hcz48_0,hcz48_1,hcz48_2,hfz48_0,hfz48_1,hfz48_2⟩:=cf3_ BK256
    try go_wp2_with (first|((with_reducible refine gate_callee (f:=45) rfl ?_);refine goesL_ (some 30) rfl rfl Tryd.func45 (by kernel_rfl) rfl #[.agg #[.bool a0_0,.string a0_1,.int .i64 a0_2],.agg #[.bool a1_0,.string a1_1,.int .i64 a1_2]] rfl am_ ?_;(with_reducible refine (quarryref11_above.calls a0_0 a0_1 a0_2 a1_0 a1_1 a1_2 false _ A32.out).mono ?_);rintro e w49 ⟨rfl,hb⟩;refine ⟨_,rfl,?_⟩;have n_:=J_ (bkb_ BK255 hb) (J_ (bkb_ BK256 hb) (ad_ (bw_ (hb_ HB) hb)));clear BK255 BK256 HB;obtain ⟨BK255,BK256,HB⟩:=n_;(try clear hb);(try clear hb2);(try clear hk);(try clear hi);obtain ⟨hcz50_0,hcz50_1,hcz50_2,hfz50_0,hfz50_1,hfz50_2⟩:=cf3_ BK256;obtain ⟨hcz51_0,hcz51_1,hcz51_2,hfz51_0,hfz51_1,hfz51_2⟩:=cf3_ BK255)|((with_reducible refine gate_callee (f:=45) rfl ?_);refine goesL_ (some 34) rfl rfl Tryd.func45 (by kernel_rfl) rfl #[.agg #[.bool a1_0,.string a1_1,.int .i64 a1_2],.agg #[.bool a0_0,.string a0_1,.int .i64 a0_2]] rfl am_ ?_;(with_reducible refine (quarryref11_above.calls a1_0 a1_1 a1_2 a0_0 a0_1 a0_2 true _ A41.out).mono ?_);rintro e w52 ⟨rfl,hb⟩;refine ⟨_,rfl,?_⟩;have n_:=J_ (bkb_ BK255 hb) (J_ (bkb_ BK256 hb) (ad_ (bw_ (hb_ HB) hb)));clear BK255 BK256 HB;obtain ⟨BK255,BK256,HB⟩:=n_;(try clear hb);(try clear hb2);(try clear hk);(try clear hi)))
    go_ret2
    exact ⟨er_,(hb_ HB)⟩
   replace c42:=Bool.eq_false_iff.mpr c42;subst c42
   rw [if_neg (show ¬ (false = true) by decide)] at H
   simp only [Option.some.injEq,Prod.mk.injEq] at H
   obtain ⟨rfl,rfl⟩:=H
   try go_wp2
   have n0_:=ad_ (blk_drew BK255.out);have n1_:=ad_ (blk_drew BK256.out);have n2_:=ad_ (below_drew1 HB.out);clear BK255;clear BK256;clear HB;have BK255:=n0_;have BK256:=n1_;have HB:=n2_;clear n0_ n1_ n2_;refine start_ (n:=6) (S:=fun w'=>w'.cell? ⟨gb255,0,none⟩ = some (.bool a0_0) ∧ w'.cell? ⟨gb255,1,none⟩ = some (.string a0_1) ∧ w'.cell? ⟨gb255,2,none⟩ = some (.int .i64 a0_2) ∧ w'.cell? ⟨gb256,0,none⟩ = some (.bool a1_0) ∧ w'.cell? ⟨gb256,1,none⟩ = some (.string a1_1) ∧ w'.cell? ⟨gb256,2,none⟩ = some (.int .i64 a1_2)) (ds:=[]) #[false,false,false,false,false,false] (by kernel_rfl) rfl rfl ⟨(bc_ BK255.out 0).trans rfl,(bc_ BK255.out 1).trans rfl,(bc_ BK255.out 2).trans rfl,(bc_ BK256.out 0).trans rfl,(bc_ BK256.out 1).trans rfl,(bc_ BK256.out 2).trans rfl⟩ (fun hHeld=>?_)
   generalize wc.drew = w53 at BK255 BK256 HB hHeld ⊢
   refine take_ (i:=0) (N:=some 16) (v:=?_) (a':=?_) #[true,false,false,false,false,false] rfl rfl (by kernel_rfl) (fun _ _ _ h=>h) (Or.inl ⟨by rfl,?_⟩) hHeld ?_ ?_;rotate_left
   ·rintro w' ⟨s0,s1,s2,s3,s4,s5⟩;go_simp;with_reducible rfl
   rotate_left
   ·simp only [Act.put,se1_,se2_,se3_,i64_w,i32_w];rfl
   refine take_ (i:=2) (N:=some 18) (v:=?_) (a':=?_) #[true,false,true,false,false,false] rfl rfl (by kernel_rfl) (fun _ _ _ h=>h) (Or.inl ⟨by rfl,?_⟩) hHeld ?_ ?_;rotate_left
   ·rintro w' ⟨s0,s1,s2,s3,s4,s5⟩;go_simp;with_reducible rfl
   rotate_left
   ·simp only [Act.put,se1_,se2_,se3_,i64_w,i32_w];rfl
   refine one_ (i:=1) (N:=some 17) #[true,true,true,false,false,false] rfl rfl (by kernel_rfl) (by decide) (fun K hK=>?_);refine goes_ Tryd.func44 (by kernel_rfl) rfl #[.agg #[.bool a0_0,.string a0_1,.int .i64 a0_2]] (by rfl) rfl rfl am_ ?_
   with_reducible refine (quarryref11_sign.calls a0_0 a0_1 a0_2 t259 _ A18.out).mono ?_
   rintro e w54 ⟨rfl,hb⟩;refine ⟨_,rfl,?_⟩;have n0_:=ad_ (bkb_ BK255 hb);have n1_:=ad_ (bkb_ BK256 hb);have n2_:=ad_ (bw_ (hb_ HB) hb);clear BK255;clear BK256;clear HB;have BK255:=n0_;have BK256:=n1_;have HB:=n2_;clear n0_ n1_ n2_
   (try clear hb)
   (try clear hb2)
   (try clear hk)
   (try clear hi)
   refine hK.out _ _ ⟨(bc_ BK255.out 0).trans rfl,(bc_ BK255.out 1).trans rfl,(bc_ BK255.out 2).trans rfl,(bc_ BK256.out 0).trans rfl,(bc_ BK256.out 1).trans rfl,(bc_ BK256.out 2).trans rfl⟩ (fun hHeld=>?_);clear hK K;refine norm_ (a':=?_) ?_ ?_;rotate_left
   ·show Act.put _ (some 17) _ = _
    simp only [Act.put,se1_,se2_,se3_,i64_w,i32_w];rfl
   refine one_ (i:=3) (N:=some 19) #[true,true,true,true,false,false] rfl rfl (by kernel_rfl) (by decide) (fun K hK=>?_);refine goes_ Tryd.func44 (by kernel_rfl) rfl #[.agg #[.bool a1_0,.string a1_1,.int .i64 a1_2]] (by rfl) rfl rfl am_ ?_
   with_reducible refine (quarryref11_sign.calls a1_0 a1_1 a1_2 t260 _ A19.out).mono ?_
   rintro e w55 ⟨rfl,hb⟩;refine ⟨_,rfl,?_⟩;have n0_:=ad_ (bkb_ BK255 hb);have n1_:=ad_ (bkb_ BK256 hb);have n2_:=ad_ (bw_ (hb_ HB) hb);clear BK255;clear BK256;clear HB;have BK255:=n0_;have BK256:=n1_;have HB:=n2_;clear n0_ n1_ n2_
   (try clear hb)
   (try clear hb2)
   (try clear hk)
   (try clear hi)
   refine hK.out _ _ ⟨(bc_ BK255.out 0).trans rfl,(bc_ BK255.out 1).trans rfl,(bc_ BK255.out 2).trans rfl,(bc_ BK256.out 0).trans rfl,(bc_ BK256.out 1).trans rfl,(bc_ BK256.out 2).trans rfl⟩ (fun hHeld=>?_);clear hK K;refine norm_ (a':=?_) ?_ ?_;rotate_left
   ·show Act.put _ (some 19) _ = _
    simp only [Act.put,se1_,se2_,se3_,i64_w,i32_w];rfl
   refine pure_ (i:=4) (N:=some 6) (v:=?_) (a':=?_) #[true,true,true,true,true,false] rfl rfl (by kernel_rfl) (fun _ _ _ h=>h) (Or.inl ⟨by rfl,?_⟩) ?_ ?_;rotate_left
   ·intro w';go_simp;with_reducible rfl
   rotate_left
   ·simp only [Act.put,se1_,se2_,se3_,i64_w,i32_w];rfl
   refine pure_ (i:=5) (N:=some 7) (v:=?_) (a':=?_) #[true,true,true,true,true,true] rfl rfl (by kernel_rfl) (fun _ _ _ h=>h) (Or.inl ⟨by rfl,?_⟩) ?_ ?_;rotate_left
   ·intro w';go_simp;with_reducible rfl
   rotate_left
   ·simp only [Act.put,se1_,se2_,se3_,i64_w,i32_w];rfl
   refine done_ (by kernel_rfl) ?_;have hnb56:=NB255_256.out;have hnc56:=NB256_255.out;obtain ⟨hcz57_0,hcz57_1,hcz57_2,hfz57_0,hfz57_1,hfz57_2⟩:=cf3_ BK255;obtain ⟨hcz58_0,hcz58_1,hcz58_2,hfz58_0,hfz58_1,hfz58_2⟩:=cf3_ BK256
   try go_wp2_with (first|((with_reducible refine gate_callee (f:=45) rfl ?_);refine goesL_ (some 30) rfl rfl Tryd.func45 (by kernel_rfl) rfl #[.agg #[.bool a0_0,.string a0_1,.int .i64 a0_2],.agg #[.bool a1_0,.string a1_1,.int .i64 a1_2]] rfl am_ ?_;(with_reducible refine (quarryref11_above.calls a0_0 a0_1 a0_2 a1_0 a1_1 a1_2 false _ A32.out).mono ?_);rintro e w59 ⟨rfl,hb⟩;refine ⟨_,rfl,?_⟩;have n_:=J_ (bkb_ BK255 hb) (J_ (bkb_ BK256 hb) (ad_ (bw_ (hb_ HB) hb)));clear BK255 BK256 HB;obtain ⟨BK255,BK256,HB⟩:=n_;(try clear hb);(try clear hb2);(try clear hk);(try clear hi);obtain ⟨hcz60_0,hcz60_1,hcz60_2,hfz60_0,hfz60_1,hfz60_2⟩:=cf3_ BK256;obtain ⟨hcz61_0,hcz61_1,hcz61_2,hfz61_0,hfz61_1,hfz61_2⟩:=cf3_ BK255)|((with_reducible refine gate_callee (f:=45) rfl ?_);refine goesL_ (some 34) rfl rfl Tryd.func45 (by kernel_rfl) rfl #[.agg #[.bool a1_0,.string a1_1,.int .i64 a1_2],.agg #[.bool a0_0,.string a0_1,.int .i64 a0_2]] rfl am_ ?_;(with_reducible refine (quarryref11_above.calls a1_0 a1_1 a1_2 a0_0 a0_1 a0_2 false _ A41.out).mono ?_);rintro e w62 ⟨rfl,hb⟩;refine ⟨_,rfl,?_⟩;have n_:=J_ (bkb_ BK255 hb) (J_ (bkb_ BK256 hb) (ad_ (bw_ (hb_ HB) hb)));clear BK255 BK256 HB;obtain ⟨BK255,BK256,HB⟩:=n_;(try clear hb);(try clear hb2);(try clear hk);(try clear hi)))
   go_ret2
   exact ⟨er_,(hb_ HB)⟩
end Go.Proofs.YtfaegleohhemkaaDoor.PTreeLikes
