-- By shrink.py.
import Derived.Test.YtfaegleohhemkaaDoorZPTreeLikesx0
import Derived.Test.YtfaegleohhemkaaDoorZTreeLikesW1
namespace Go.Proofs.YtfaegleohhemkaaDoor.PTreeLikes
open Go.RowKit Go.Proofs.YtfaegleohhemkaaDoorW.PrintWords Go.Proofs.YtfaegleohhemkaaDoorW.PrintLast Go.Proofs.YtfaegleohhemkaaDoorW.PrintMore
attribute [local go_sem] max2_int min2_int max_two min_two max_three min_three max_four min_four
set_option linter.unusedVariables false
set_option linter.unusedSimpArgs false
attribute [local go_sem] str_gtr str_leq str_geq
mutual
def quarryref17_Ordered.l0 : Nat → List ByteArray → List Int → Int → Option (List Int)
 | 0,_,_,_=>none
 | k + 1,x0,x3,x4=>if x4 < (x0.length : Int) then (if x3.length < 17592186044416 then (quarryref17_Ordered.l0 k x0 (x3 ++ [x4]) (wrap64 (x4 + 1))) else (none)) else (quarryref17_Ordered.l1 k x0 x3 1)
def quarryref17_Ordered.l1 : Nat → List ByteArray → List Int → Int → Option (List Int)
 | 0,_,_,_=>none
 | k + 1,x0,x3,x5=>if x5 < (x0.length : Int) then (quarryref17_Ordered.l2 k x0 x3 x5 ([] : List Int) 0) else (some x3)
def quarryref17_Ordered.l2 : Nat → List ByteArray → List Int → Int → List Int → Int → Option (List Int)
 | 0,_,_,_,_,_=>none
 | k + 1,x0,x3,x5,x6,x7=>if x7 < (x0.length : Int) then (quarryref17_Ordered.l3 k x0 x3 x5 x6 x7 (mn (wrap64 (x7 + x5)) (x0.length : Int)) (mn (wrap64 ((mn (wrap64 (x7 + x5)) (x0.length : Int)) + x5)) (x0.length : Int)) x7 (mn (wrap64 (x7 + x5)) (x0.length : Int))) else (quarryref17_Ordered.l1 k x0 x6 (wrap64 (2 * x5)))
def quarryref17_Ordered.l3 : Nat → List ByteArray → List Int → Int → List Int → Int → Int → Int → Int → Int → Option (List Int)
 | 0,_,_,_,_,_,_,_,_,_=>none
 | k + 1,x0,x3,x5,x6,x7,x8,x9,x10,x11=>if x10 < x8 then (quarryref17_Ordered.j4 k x0 x3 x5 x6 x7 x8 x9 x10 x11 true) else (quarryref17_Ordered.j4 k x0 x3 x5 x6 x7 x8 x9 x10 x11 (decide (x11 < x9)))
def quarryref17_Ordered.j4 : Nat → List ByteArray → List Int → Int → List Int → Int → Int → Int → Int → Int → Bool → Option (List Int)
 | 0,_,_,_,_,_,_,_,_,_,_=>none
 | k + 1,x0,x3,x5,x6,x7,x8,x9,x10,x11,x57=>if x57 = true then (if x11 = x9 then (if 0 ≤ x10 then (if x10 < (x3.length : Int) then (if x6.length < 17592186044416 then (quarryref17_Ordered.l3 k x0 x3 x5 (x6 ++ [rd x3 x10]) x7 x8 x9 (wrap64 (x10 + 1)) x11) else (none)) else (none)) else (none)) else (if x10 < x8 then (if 0 ≤ x10 then (if x10 < (x3.length : Int) then (if 0 ≤ (rd x3 x10) then (if (rd x3 x10) < (x0.length : Int) then (if 0 ≤ x11 then (if x11 < (x3.length : Int) then (if 0 ≤ (rd x3 x11) then (if (rd x3 x11) < (x0.length : Int) then (if ((Op.bytesLess ((rdOf ByteArray.empty x0 (rd x3 x11)).toList) ((rdOf ByteArray.empty x0 (rd x3 x10)).toList)) = true) then (if x6.length < 17592186044416 then (quarryref17_Ordered.l3 k x0 x3 x5 (x6 ++ [rd x3 x11]) x7 x8 x9 x10 (wrap64 (x11 + 1))) else (none)) else (if x6.length < 17592186044416 then (quarryref17_Ordered.l3 k x0 x3 x5 (x6 ++ [rd x3 x10]) x7 x8 x9 (wrap64 (x10 + 1)) x11) else (none))) else (none)) else (none)) else (none)) else (none)) else (none)) else (none)) else (none)) else (none)) else (if 0 ≤ x11 then (if x11 < (x3.length : Int) then (if x6.length < 17592186044416 then (quarryref17_Ordered.l3 k x0 x3 x5 (x6 ++ [rd x3 x11]) x7 x8 x9 x10 (wrap64 (x11 + 1))) else (none)) else (none)) else (none)))) else (quarryref17_Ordered.l2 k x0 x3 x5 x6 (wrap64 (x7 + (wrap64 (2 * x5)))))
end
def quarryref17_Ordered.f (k : Nat) (l0 : List ByteArray) : Option (List Int):=quarryref17_Ordered.l0 k l0 ([] : List Int) 0
theorem quarryref17_Ordered.mono_l : ∀ k,(∀ y0 y1 y2,LeO (quarryref17_Ordered.l0 k y0 y1 y2) (quarryref17_Ordered.l0 (k + 1) y0 y1 y2)) ∧ (∀ y0 y1 y2,LeO (quarryref17_Ordered.l1 k y0 y1 y2) (quarryref17_Ordered.l1 (k + 1) y0 y1 y2)) ∧ (∀ y0 y1 y2 y3 y4,LeO (quarryref17_Ordered.l2 k y0 y1 y2 y3 y4) (quarryref17_Ordered.l2 (k + 1) y0 y1 y2 y3 y4)) ∧ (∀ y0 y1 y2 y3 y4 y5 y6 y7 y8,LeO (quarryref17_Ordered.l3 k y0 y1 y2 y3 y4 y5 y6 y7 y8) (quarryref17_Ordered.l3 (k + 1) y0 y1 y2 y3 y4 y5 y6 y7 y8)) ∧ (∀ y0 y1 y2 y3 y4 y5 y6 y7 y8 y9,LeO (quarryref17_Ordered.j4 k y0 y1 y2 y3 y4 y5 y6 y7 y8 y9) (quarryref17_Ordered.j4 (k + 1) y0 y1 y2 y3 y4 y5 y6 y7 y8 y9))
 | 0=>⟨fun _ _ _ r h=>by simp [quarryref17_Ordered.l0] at h,fun _ _ _ r h=>by simp [quarryref17_Ordered.l1] at h,fun _ _ _ _ _ r h=>by simp [quarryref17_Ordered.l2] at h,fun _ _ _ _ _ _ _ _ _ r h=>by simp [quarryref17_Ordered.l3] at h,fun _ _ _ _ _ _ _ _ _ _ r h=>by simp [quarryref17_Ordered.j4] at h⟩
 | k + 1=>by
  obtain ⟨ih0,ih1,ih2,ih3,ih4⟩:=quarryref17_Ordered.mono_l k;refine ⟨?_,?_,?_,?_,?_⟩
  ·intro y0 y1 y2
   unfold quarryref17_Ordered.l0
   repeat' first
   | (with_reducible exact ih0 _ _ _)
   | (with_reducible exact ih1 _ _ _)
   | (with_reducible exact ih2 _ _ _ _ _)
   | (with_reducible exact ih3 _ _ _ _ _ _ _ _ _)
   | (with_reducible exact ih4 _ _ _ _ _ _ _ _ _ _)
   | (with_reducible exact LeO.refl _)
   | (with_reducible exact LeO.none _)
   | (with_reducible refine LeO.ite ?_ ?_)
   | (with_reducible refine LeO.bind ?_ (fun _=>?_))
   | exact ih0 _ _ _
   | exact ih1 _ _ _
   | exact ih2 _ _ _ _ _
   | exact ih3 _ _ _ _ _ _ _ _ _
   | exact ih4 _ _ _ _ _ _ _ _ _ _
   | exact LeO.none _
   | refine LeO.ite ?_ ?_
   | refine LeO.bind ?_ (fun _=>?_)
  ·intro y0 y1 y2
   unfold quarryref17_Ordered.l1
   repeat' first
   | (with_reducible exact ih0 _ _ _)
   | (with_reducible exact ih1 _ _ _)
   | (with_reducible exact ih2 _ _ _ _ _)
   | (with_reducible exact ih3 _ _ _ _ _ _ _ _ _)
   | (with_reducible exact ih4 _ _ _ _ _ _ _ _ _ _)
   | (with_reducible exact LeO.refl _)
   | (with_reducible exact LeO.none _)
   | (with_reducible refine LeO.ite ?_ ?_)
   | (with_reducible refine LeO.bind ?_ (fun _=>?_))
   | exact ih0 _ _ _
   | exact ih1 _ _ _
   | exact ih2 _ _ _ _ _
   | exact ih3 _ _ _ _ _ _ _ _ _
   | exact ih4 _ _ _ _ _ _ _ _ _ _
   | exact LeO.none _
   | refine LeO.ite ?_ ?_
   | refine LeO.bind ?_ (fun _=>?_)
  ·intro y0 y1 y2 y3 y4
   unfold quarryref17_Ordered.l2
   repeat' first
   | (with_reducible exact ih0 _ _ _)
   | (with_reducible exact ih1 _ _ _)
   | (with_reducible exact ih2 _ _ _ _ _)
   | (with_reducible exact ih3 _ _ _ _ _ _ _ _ _)
   | (with_reducible exact ih4 _ _ _ _ _ _ _ _ _ _)
   | (with_reducible exact LeO.refl _)
   | (with_reducible exact LeO.none _)
   | (with_reducible refine LeO.ite ?_ ?_)
   | (with_reducible refine LeO.bind ?_ (fun _=>?_))
   | exact ih0 _ _ _
   | exact ih1 _ _ _
   | exact ih2 _ _ _ _ _
   | exact ih3 _ _ _ _ _ _ _ _ _
   | exact ih4 _ _ _ _ _ _ _ _ _ _
   | exact LeO.none _
   | refine LeO.ite ?_ ?_
   | refine LeO.bind ?_ (fun _=>?_)
  ·intro y0 y1 y2 y3 y4 y5 y6 y7 y8
   unfold quarryref17_Ordered.l3
   repeat' first
   | (with_reducible exact ih0 _ _ _)
   | (with_reducible exact ih1 _ _ _)
   | (with_reducible exact ih2 _ _ _ _ _)
   | (with_reducible exact ih3 _ _ _ _ _ _ _ _ _)
   | (with_reducible exact ih4 _ _ _ _ _ _ _ _ _ _)
   | (with_reducible exact LeO.refl _)
   | (with_reducible exact LeO.none _)
   | (with_reducible refine LeO.ite ?_ ?_)
   | (with_reducible refine LeO.bind ?_ (fun _=>?_))
   | exact ih0 _ _ _
   | exact ih1 _ _ _
   | exact ih2 _ _ _ _ _
   | exact ih3 _ _ _ _ _ _ _ _ _
   | exact ih4 _ _ _ _ _ _ _ _ _ _
   | exact LeO.none _
   | refine LeO.ite ?_ ?_
   | refine LeO.bind ?_ (fun _=>?_)
  intro y0 y1 y2 y3 y4 y5 y6 y7 y8 y9
  unfold quarryref17_Ordered.j4
  repeat' first
  | (with_reducible exact ih0 _ _ _)
  | (with_reducible exact ih1 _ _ _)
  | (with_reducible exact ih2 _ _ _ _ _)
  | (with_reducible exact ih3 _ _ _ _ _ _ _ _ _)
  | (with_reducible exact ih4 _ _ _ _ _ _ _ _ _ _)
  | (with_reducible exact LeO.refl _)
  | (with_reducible exact LeO.none _)
  | (with_reducible refine LeO.ite ?_ ?_)
  | (with_reducible refine LeO.bind ?_ (fun _=>?_))
  | exact ih0 _ _ _
  | exact ih1 _ _ _
  | exact ih2 _ _ _ _ _
  | exact ih3 _ _ _ _ _ _ _ _ _
  | exact ih4 _ _ _ _ _ _ _ _ _ _
  | exact LeO.none _
  | refine LeO.ite ?_ ?_
  | refine LeO.bind ?_ (fun _=>?_)
theorem quarryref17_Ordered.mono : ∀ a0 k,LeO (quarryref17_Ordered.f k a0) (quarryref17_Ordered.f (k + 1) a0):=by
 intro a0 k;obtain ⟨ih0,ih1,ih2,ih3,ih4⟩:=quarryref17_Ordered.mono_l k
 unfold quarryref17_Ordered.f
 repeat' first
   | (with_reducible exact ih0 _ _ _)
   | (with_reducible exact ih1 _ _ _)
   | (with_reducible exact ih2 _ _ _ _ _)
   | (with_reducible exact ih3 _ _ _ _ _ _ _ _ _)
   | (with_reducible exact ih4 _ _ _ _ _ _ _ _ _ _)
   | (with_reducible exact LeO.refl _)
   | (with_reducible exact LeO.none _)
   | (with_reducible refine LeO.ite ?_ ?_)
   | (with_reducible refine LeO.bind ?_ (fun _=>?_))
   | exact ih0 _ _ _
   | exact ih1 _ _ _
   | exact ih2 _ _ _ _ _
   | exact ih3 _ _ _ _ _ _ _ _ _
   | exact ih4 _ _ _ _ _ _ _ _ _ _
   | exact LeO.none _
   | refine LeO.ite ?_ ?_
   | refine LeO.bind ?_ (fun _=>?_)
set_option maxHeartbeats 8000000 in
set_option maxRecDepth 100000 in
theorem quarryref17_Ordered.calls (k : Nat) (A0 : Option Addr) (c0 : Nat) (l0 : List ByteArray) (r : List Int) (w : World) (hr0 : Kd.C Kd.string w A0 l0.length l0) (hc0 : l0.length ≤ c0) (h : quarryref17_Ordered.f k l0 = some r) :
  Calls Tryd.prog 46 #[.slice A0 l0.length c0] w fun e w'=>∃ v0_ : Value,e = .returned (v0_) ∧ Kd.R (Kd.int .i64) 3 w' w.heap.size (fun _=>True) v0_ r ∧ Below w.heap.size w w':=by
 have HR0:=ad_ hr0;have HC0:=ad_ hc0;clear hr0 hc0;have HB:=ad_ (Below.refl w.heap.size w);have H : (quarryref17_Ordered.l0 k l0 ([] : List Int) 0) = some r:=h;clear h;have H':=ad_ H;clear H;go_enter Tryd.func46,Tryd.ntmps46;go_wp2
 repeat (go_quiet (fail);try go_wp2)
 go_loopg [3,4] k (fun kq v3 v4 w'=>∃ (x3_1 : List Int) (x4_1 : Int),v4 = .int .i64 x4_1 ∧ Aside0 (quarryref17_Ordered.l0 kq l0 x3_1 x4_1 = some r) ∧ Aside0 (kq ≤ k) ∧ Aside0 (Kd.R (Kd.int .i64) 3 w' w.heap.size (fun _=>True) v3 x3_1) ∧ Aside0 (Below w.heap.size w w'))
 case atStart=>exact ⟨(([] : List Int)),(0),rr_,H',⟨Nat.le_refl _⟩,⟨by first|exact Kd.R_nil _ _ _ _ _|exact Kd.N_nil _ _ _ _ _|exact Kd.V_nil _ _ _ _ _|exact Kd.Q_nil _ _ _ _ _|exact Kd.S_nil _ _ _ _ _⟩,⟨(hb_ HB)⟩⟩
 case round =>
  clear H'
  try clear HB
  obtain ⟨x3_1,x4_1,rfl,HA,HK1,HO_3,HB⟩:=hrel
  cases gk with
  | zero=>exact absurd HA.out (by simp [quarryref17_Ordered.l0])
  | succ k1 =>
   have H:=HA.out;clear HA
   simp only [quarryref17_Ordered.l0] at H
   by_cases c2 : x4_1 < (l0.length : Int)
   ·rw [if_pos c2] at H
    have c2b0 : decide (x4_1 < (l0.length : Int)) = true:=dt_ c2;clear c2
    by_cases c3 : x3_1.length < 17592186044416
    ·rw [if_pos c3] at H
     have LMc3:=ad_ c3;clear c3
     obtain ⟨y263,hy263⟩ : ∃ y_ : List Int,y_ = (x3_1 ++ [x4_1]):=⟨_,rfl⟩
     replace H : (quarryref17_Ordered.l0 k1 l0 y263 (wrap64 (x4_1 + 1))) = some r:=by first|(rw [hy263];with_reducible exact H)|(have H2_:=(Option.bind_some _ _).symm.trans H;rw [hy263];with_reducible exact H2_)|(have H2_:=(Option.bind_some _ _).symm.trans H;with_reducible exact H2_)|with_reducible exact H|(rw [hy263];exact H)|exact H
     have Ny263:=ad_ hy263;clear hy263;have H':=ad_ H;clear H
     go_wp2_with (first|((with_reducible refine gate_builtin (b:=.append) (xs:=#[.tmp 18,.tmp 20]) rfl ?_);at_builtin;refine Kd.R_append (Kd.int .i64) (w0:=w) w.heap.size rfl (.tmp 18) (.tmp 20) 61 3 (.int .i64 0) 8 rfl Tryd.underlying61 info3 rfl (by decide) (by omega) u3 x3_1 x4_1 [.int .i64 x4_1] (fun _=>True) (fun _=>False) rfl rfl ?aP (fun _ hk=>hk.elim) ?aF ?aO ?aB ?aS ?aL ?_;(case aP=>exact rfl);(case aB=>exact (hb_ HB));(case aF=>exact (fun _ _=>trivial));(case aO=>exact (rk_ HO_3));(case aS=>exact (below_size (hb_ HB)));(case aL=>have:=LMc3.out;first|omega|exact Nat.le_of_lt this);intro v264 w4 ho hb hg hat;rw [← Ny263.out] at ho;have n_:=J_ (hb) (ad_ (ho));clear HB HO_3;obtain ⟨HB,HO265⟩:=n_;clear ho hb hg hat))
     repeat (go_quiet (first|((with_reducible refine gate_builtin (b:=.append) (xs:=#[.tmp 18,.tmp 20]) rfl ?_);at_builtin;refine Kd.R_append (Kd.int .i64) (w0:=w) w.heap.size rfl (.tmp 18) (.tmp 20) 61 3 (.int .i64 0) 8 rfl Tryd.underlying61 info3 rfl (by decide) (by omega) u3 x3_1 x4_1 [.int .i64 x4_1] (fun _=>True) (fun _=>False) rfl rfl ?aP (fun _ hk=>hk.elim) ?aF ?aO ?aB ?aS ?aL ?_;(case aP=>exact rfl);(case aB=>exact (hb_ HB));(case aF=>exact (fun _ _=>trivial));(case aO=>exact (rk_ HO_3));(case aS=>exact (below_size (hb_ HB)));(case aL=>have:=LMc3.out;first|omega|exact Nat.le_of_lt this);intro v264 w4 ho hb hg hat;rw [← Ny263.out] at ho;have n_:=J_ (hb) (ad_ (ho));clear HB HO_3;obtain ⟨HB,HO265⟩:=n_;clear ho hb hg hat));try go_wp2_with (first|((with_reducible refine gate_builtin (b:=.append) (xs:=#[.tmp 18,.tmp 20]) rfl ?_);at_builtin;refine Kd.R_append (Kd.int .i64) (w0:=w) w.heap.size rfl (.tmp 18) (.tmp 20) 61 3 (.int .i64 0) 8 rfl Tryd.underlying61 info3 rfl (by decide) (by omega) u3 x3_1 x4_1 [.int .i64 x4_1] (fun _=>True) (fun _=>False) rfl rfl ?aP (fun _ hk=>hk.elim) ?aF ?aO ?aB ?aS ?aL ?_;(case aP=>exact rfl);(case aB=>exact (hb_ HB));(case aF=>exact (fun _ _=>trivial));(case aO=>exact (rk_ HO_3));(case aS=>exact (below_size (hb_ HB)));(case aL=>have:=LMc3.out;first|omega|exact Nat.le_of_lt this);intro v264 w4 ho hb hg hat;rw [← Ny263.out] at ho;have n_:=J_ (hb) (ad_ (ho));clear HB HO_3;obtain ⟨HB,HO265⟩:=n_;clear ho hb hg hat)))
     go_roundg k1
     case measure=>have:=HK1.out;omega
     case rel=>exact ⟨(y263),(wrap64 (x4_1 + 1)),rr_,(by first|exact H'|(subst_vars;exact H')),⟨by have:=HK1.out;omega⟩,⟨(rk_ HO265)⟩,⟨(hb_ HB)⟩⟩
    rw [if_neg c3] at H
    exact absurd H (by simp)
   rw [if_neg c2] at H
   have c2b0 : decide (x4_1 < (l0.length : Int)) = false:=df_ c2;clear c2;have H':=ad_ H;clear H;go_wp2
   repeat (go_quiet (fail);try go_wp2)
   go_loopg [3,5] k1 (fun kq v3 v5 w'=>∃ (x3_2 : List Int) (x5_2 : Int),v5 = .int .i64 x5_2 ∧ Aside0 (quarryref17_Ordered.l1 kq l0 x3_2 x5_2 = some r) ∧ Aside0 (kq ≤ k1) ∧ Aside0 (Kd.R (Kd.int .i64) 3 w' w.heap.size (fun _=>True) v3 x3_2) ∧ Aside0 (Below w.heap.size w w'))
   case atStart=>exact ⟨(x3_1),(1),rr_,H',⟨Nat.le_refl _⟩,⟨(rk_ HO_3)⟩,⟨(hb_ HB)⟩⟩
   case round =>
    clear H'
    try clear HO_3
    try clear HB
    obtain ⟨x3_2,x5_2,rfl,HA,HK2,HO_3,HB⟩:=hrel
    cases gk with
    | zero=>exact absurd HA.out (by simp [quarryref17_Ordered.l1])
    | succ k2 =>
     have H:=HA.out;clear HA
     simp only [quarryref17_Ordered.l1] at H
     by_cases c5 : x5_2 < (l0.length : Int)
     ·rw [if_pos c5] at H
      have c5b0 : decide (x5_2 < (l0.length : Int)) = true:=dt_ c5;clear c5;have H':=ad_ H;clear H;go_wp2
      repeat (go_quiet (fail);try go_wp2)
      go_loopg [6,7] k2 (fun kq v6 v7 w'=>∃ (x6_3 : List Int) (x7_3 : Int),v7 = .int .i64 x7_3 ∧ Aside0 (quarryref17_Ordered.l2 kq l0 x3_2 x5_2 x6_3 x7_3 = some r) ∧ Aside0 (kq ≤ k2) ∧ Aside0 (Kd.R (Kd.int .i64) 3 w' w.heap.size (fun k_=>some k_ ≠ (v6 : Value).ownBlock) u3 x3_2) ∧ Aside0 (Kd.R (Kd.int .i64) 3 w' w.heap.size (fun k_=>some k_ ≠ (u3 : Value).ownBlock) v6 x6_3) ∧ Aside0 (Below w.heap.size w w'))
      case atStart=>exact ⟨(([] : List Int)),(0),rr_,H',⟨Nat.le_refl _⟩,⟨by (with_reducible repeat (first|apply Kd.R_alloc|apply Kd.R_drewN|apply Kd.R_drew));exact Kd.R_mono HO_3.out (fun _ hk=>(by simp [Value.ownBlock]))⟩,⟨by first|exact Kd.R_nil _ _ _ _ _|exact Kd.N_nil _ _ _ _ _|exact Kd.V_nil _ _ _ _ _|exact Kd.Q_nil _ _ _ _ _|exact Kd.S_nil _ _ _ _ _⟩,⟨(hb_ HB)⟩⟩
      case round =>
       clear H'
       try clear HO_3
       try clear HB
       obtain ⟨x6_3,x7_3,rfl,HA,HK3,HO_3,HO_6,HB⟩:=hrel
       cases gk with
       | zero=>exact absurd HA.out (by simp [quarryref17_Ordered.l2])
       | succ k3 =>
        have H:=HA.out;clear HA
        simp only [quarryref17_Ordered.l2] at H
        by_cases c6 : x7_3 < (l0.length : Int)
        ·rw [if_pos c6] at H
         have c6b0 : decide (x7_3 < (l0.length : Int)) = true:=dt_ c6;clear c6
         obtain ⟨ji7,hji7⟩ : ∃ j_ : Int,(mn (wrap64 (x7_3 + x5_2)) (l0.length : Int)) = j_:=⟨_,rfl⟩
         replace H : (quarryref17_Ordered.l3 k3 l0 x3_2 x5_2 x6_3 x7_3 ji7 (mn (wrap64 ((ji7) + x5_2)) (l0.length : Int)) x7_3 ji7) = some r:=by first|(rw [hji7] at H;exact H)|(simp only [hji7] at H ⊢;exact H)
         have hji7_ : (if (l0.length : Int) < (wrap64 (x7_3 + x5_2)) then (l0.length : Int) else (wrap64 (x7_3 + x5_2))) = ji7:=hji7
         obtain ⟨ji8,hji8⟩ : ∃ j_ : Int,(mn (wrap64 ((ji7) + x5_2)) (l0.length : Int)) = j_:=⟨_,rfl⟩
         replace H : (quarryref17_Ordered.l3 k3 l0 x3_2 x5_2 x6_3 x7_3 ji7 ji8 x7_3 ji7) = some r:=by first|(rw [hji8] at H;exact H)|(simp only [hji8] at H ⊢;exact H)
         have hji8_ : (if (l0.length : Int) < (wrap64 ((ji7) + x5_2)) then (l0.length : Int) else (wrap64 ((ji7) + x5_2))) = ji8:=hji8;have H':=ad_ H;clear H;go_wp2
         repeat (go_quiet (fail);try go_wp2)
         go_loopg [6,10,11] k3 (fun kq v6 v10 v11 w'=>∃ (x6_4 : List Int) (x10_4 : Int) (x11_4 : Int),v10 = .int .i64 x10_4 ∧ v11 = .int .i64 x11_4 ∧ Aside0 (quarryref17_Ordered.l3 kq l0 x3_2 x5_2 x6_4 x7_3 ji7 ji8 x10_4 x11_4 = some r) ∧ Aside0 (kq ≤ k3) ∧ Aside0 (Kd.R (Kd.int .i64) 3 w' w.heap.size (fun k_=>some k_ ≠ (v6 : Value).ownBlock) u3 x3_2) ∧ Aside0 (Kd.R (Kd.int .i64) 3 w' w.heap.size (fun k_=>some k_ ≠ (u3 : Value).ownBlock) v6 x6_4) ∧ Aside0 (Below w.heap.size w w'))
         case atStart=>exact ⟨(x6_3),(x7_3),(ji7),rr_,(by first|rfl|(simp;done)|(simp only [← hji7] <;> (first|rfl|simp))|(simp [*];done)),H',⟨Nat.le_refl _⟩,⟨(rk_ HO_3)⟩,⟨(rk_ HO_6)⟩,⟨(hb_ HB)⟩⟩
         case round =>
          clear H'
          try clear HO_3
          try clear HO_6
          try clear HB
          obtain ⟨x6_4,x10_4,x11_4,rfl,rfl,HA,HK4,HO_3,HO_6,HB⟩:=hrel
          cases gk with
          | zero=>exact absurd HA.out (by simp [quarryref17_Ordered.l3])
          | succ k4 =>
           have H:=HA.out;clear HA
           simp only [quarryref17_Ordered.l3] at H
           have HC9:=ad_ H;clear H
           go_upto_region 16 with (fail)
           repeat (go_quiet (fail);go_upto_region 16 with (fail))
           go_cut [57] (fun v57 wc=>∃ (kq : Nat) (x57_8 : Bool),v57 = .bool x57_8 ∧ Aside0 (quarryref17_Ordered.j4 kq l0 x3_2 x5_2 x6_4 x7_3 ji7 ji8 x10_4 x11_4 x57_8 = some r) ∧ Aside0 (kq ≤ k4) ∧ Aside0 (Kd.R (Kd.int .i64) 3 wc w.heap.size (fun k_=>some k_ ≠ (u6 : Value).ownBlock) u3 x3_2) ∧ Aside0 (Kd.R (Kd.int .i64) 3 wc w.heap.size (fun k_=>some k_ ≠ (u3 : Value).ownBlock) u6 x6_4) ∧ Aside0 (Below w.heap.size w wc))
           case first =>
            have H:=HC9.out;clear HC9
            by_cases c10 : x10_4 < ji7
            ·rw [if_pos c10] at H
             have c10b0 : decide (x10_4 < ji7) = true:=dt_ c10;clear c10
             (first|rw [c10b0]|(simp only [i64_w,i32_w];rw [c10b0])|skip)
             have H':=ad_ H;clear H;go_wp2
             repeat (go_quiet (fail);try go_wp2)
             go_meet
             case rel=>exact ⟨_,(true),rr_,(by first|exact H'|(subst_vars;exact H')),⟨by have:=HK1.out;have:=HK2.out;have:=HK3.out;have:=HK4.out;first|omega|exact Nat.le_refl _⟩,⟨(rk_ HO_3)⟩,⟨(rk_ HO_6)⟩,⟨(hb_ HB)⟩⟩
            rw [if_neg c10] at H
            have c10b0 : decide (x10_4 < ji7) = false:=df_ c10;clear c10
            (first|rw [c10b0]|(simp only [i64_w,i32_w];rw [c10b0])|skip)
            have H':=ad_ H;clear H;go_wp2
            repeat (go_quiet (fail);try go_wp2)
            go_meet
            case rel=>exact ⟨_,(decide (x11_4 < ji8)),(by first|rfl|(simp;done)|(simp only [← hji8] <;> (first|rfl|simp))|(simp [*];done)),(by first|exact H'|(subst_vars;exact H')),⟨by have:=HK1.out;have:=HK2.out;have:=HK3.out;have:=HK4.out;first|omega|exact Nat.le_refl _⟩,⟨(rk_ HO_3)⟩,⟨(rk_ HO_6)⟩,⟨(hb_ HB)⟩⟩
           case rest =>
            clear HC9;obtain ⟨kq,x57_8,rfl,HA,HJ8,HO_3,HO_6,HB⟩:=hcut
            cases kq with
            | zero=>exact absurd HA.out (by simp [quarryref17_Ordered.j4])
            | succ kj8 =>
             have H:=HA.out;clear HA
             simp only [quarryref17_Ordered.j4] at H
             by_cases c11 : x57_8 = true
             ·subst c11
              rw [if_pos rfl] at H
              by_cases c12 : x11_4 = ji8
              ·rw [if_pos c12] at H
               have c12b0 : (x11_4 == ji8) = true:=beq_iff_eq.mpr c12;have c12b1 : (x11_4 != ji8) = false:=bne_eq_false_iff_eq.mpr c12;clear c12
               by_cases c13 : 0 ≤ x10_4
               ·rw [if_pos c13] at H
                have c13b0 : decide (0 ≤ x10_4) = true:=dt_ c13;clear c13
                by_cases c14 : x10_4 < (x3_2.length : Int)
                ·rw [if_pos c14] at H
                 have c14b0 : decide (x10_4 < (x3_2.length : Int)) = true:=dt_ c14;clear c14
                 by_cases c15 : x6_4.length < 17592186044416
                 ·rw [if_pos c15] at H
                  have LMc15:=ad_ c15;clear c15
                  obtain ⟨y267,hy267⟩ : ∃ y_ : List Int,y_ = (x6_4 ++ [rd x3_2 x10_4]):=⟨_,rfl⟩
                  replace H : (quarryref17_Ordered.l3 kj8 l0 x3_2 x5_2 y267 x7_3 ji7 ji8 (wrap64 (x10_4 + 1)) x11_4) = some r:=by first|(rw [hy267];with_reducible exact H)|(have H2_:=(Option.bind_some _ _).symm.trans H;rw [hy267];with_reducible exact H2_)|(have H2_:=(Option.bind_some _ _).symm.trans H;with_reducible exact H2_)|with_reducible exact H|(rw [hy267];exact H)|exact H
                  have Ny267:=ad_ hy267;clear hy267;have H':=ad_ H;clear H;obtain ⟨Ao16,co16,eo16⟩:=Kd.R_slice HO_3.out;subst eo16;have p266 : 0 ≤ (x10_4 : Int):=od_ aa_;have q266 : x10_4 < (x3_2.length : Int):=od_ aa_;obtain ⟨ad266,e266,hx266_0⟩:=Kd.at_int (Kd.R_reads' HO_3.out).2.2 x10_4 p266 q266;cases e266;replace p266:=eq_true p266;replace q266:=eq_true q266
                  go_wp2_with (first|((with_reducible refine gate_builtin (b:=.append) (xs:=#[.tmp 83,.tmp 88]) rfl ?_);at_builtin;refine Kd.R_append (Kd.int .i64) (w0:=w) w.heap.size rfl (.tmp 83) (.tmp 88) 61 3 (.int .i64 0) 8 rfl Tryd.underlying61 info3 rfl (by decide) (by omega) u6 x6_4 (rd x3_2 x10_4) [.int .i64 (rd x3_2 x10_4)] (fun k_=>some k_ ≠ (.slice (some ad266) x3_2.length co16 : Value).ownBlock) (fun _=>False) rfl rfl ?aP (fun _ hk=>hk.elim) ?aF ?aO ?aB ?aS ?aL ?_;(case aP=>exact rfl);(case aB=>exact (hb_ HB));(case aF=>exact (fun k_ hk=>Kd.fresh' (Kd.R_lt (rk_ HO_3)) k_ hk));(case aO=>exact (rk_ HO_6));(case aS=>exact (below_size (hb_ HB)));(case aL=>have:=LMc15.out;first|omega|exact Nat.le_of_lt this);intro v268 w17 ho hb hg hat;rw [← Ny267.out] at ho;have n_:=J_ (Kd.R_after (ok:=(fun _=>True)) (by (with_reducible repeat (first|apply Kd.R_alloc|apply Kd.R_drewN|apply Kd.R_drew));exact Kd.R_mono HO_3.out (fun _ hk=>⟨trivial,hk⟩)) hg hat) (J_ (hb) (ad_ (ho)));clear HO_3 HB HO_6;obtain ⟨HO_3,HB,HO269⟩:=n_;clear ho hb hg hat))
                  repeat (go_quiet (first|((with_reducible refine gate_builtin (b:=.append) (xs:=#[.tmp 83,.tmp 88]) rfl ?_);at_builtin;refine Kd.R_append (Kd.int .i64) (w0:=w) w.heap.size rfl (.tmp 83) (.tmp 88) 61 3 (.int .i64 0) 8 rfl Tryd.underlying61 info3 rfl (by decide) (by omega) u6 x6_4 (rd x3_2 x10_4) [.int .i64 (rd x3_2 x10_4)] (fun k_=>some k_ ≠ (.slice (some ad266) x3_2.length co16 : Value).ownBlock) (fun _=>False) rfl rfl ?aP (fun _ hk=>hk.elim) ?aF ?aO ?aB ?aS ?aL ?_;(case aP=>exact rfl);(case aB=>exact (hb_ HB));(case aF=>exact (fun k_ hk=>Kd.fresh' (Kd.R_lt (rk_ HO_3)) k_ hk));(case aO=>exact (rk_ HO_6));(case aS=>exact (below_size (hb_ HB)));(case aL=>have:=LMc15.out;first|omega|exact Nat.le_of_lt this);intro v268 w17 ho hb hg hat;rw [← Ny267.out] at ho;have n_:=J_ (Kd.R_after (ok:=(fun _=>True)) (by (with_reducible repeat (first|apply Kd.R_alloc|apply Kd.R_drewN|apply Kd.R_drew));exact Kd.R_mono HO_3.out (fun _ hk=>⟨trivial,hk⟩)) hg hat) (J_ (hb) (ad_ (ho)));clear HO_3 HB HO_6;obtain ⟨HO_3,HB,HO269⟩:=n_;clear ho hb hg hat));try go_wp2_with (first|((with_reducible refine gate_builtin (b:=.append) (xs:=#[.tmp 83,.tmp 88]) rfl ?_);at_builtin;refine Kd.R_append (Kd.int .i64) (w0:=w) w.heap.size rfl (.tmp 83) (.tmp 88) 61 3 (.int .i64 0) 8 rfl Tryd.underlying61 info3 rfl (by decide) (by omega) u6 x6_4 (rd x3_2 x10_4) [.int .i64 (rd x3_2 x10_4)] (fun k_=>some k_ ≠ (.slice (some ad266) x3_2.length co16 : Value).ownBlock) (fun _=>False) rfl rfl ?aP (fun _ hk=>hk.elim) ?aF ?aO ?aB ?aS ?aL ?_;(case aP=>exact rfl);(case aB=>exact (hb_ HB));(case aF=>exact (fun k_ hk=>Kd.fresh' (Kd.R_lt (rk_ HO_3)) k_ hk));(case aO=>exact (rk_ HO_6));(case aS=>exact (below_size (hb_ HB)));(case aL=>have:=LMc15.out;first|omega|exact Nat.le_of_lt this);intro v268 w17 ho hb hg hat;rw [← Ny267.out] at ho;have n_:=J_ (Kd.R_after (ok:=(fun _=>True)) (by (with_reducible repeat (first|apply Kd.R_alloc|apply Kd.R_drewN|apply Kd.R_drew));exact Kd.R_mono HO_3.out (fun _ hk=>⟨trivial,hk⟩)) hg hat) (J_ (hb) (ad_ (ho)));clear HO_3 HB HO_6;obtain ⟨HO_3,HB,HO269⟩:=n_;clear ho hb hg hat)))
                  go_roundg kj8
                  case measure=>have:=HK1.out;have:=HK2.out;have:=HK3.out;have:=HK4.out;have:=HJ8.out;omega
                  case rel=>exact ⟨(y267),(wrap64 (x10_4 + 1)),(x11_4),rr_,rr_,(by first|exact H'|(subst_vars;exact H')),⟨by have:=HK1.out;have:=HK2.out;have:=HK3.out;have:=HK4.out;have:=HJ8.out;omega⟩,⟨by (with_reducible repeat (first|apply Kd.R_alloc|apply Kd.R_drewN|apply Kd.R_drew));exact Kd.R_mono HO_3.out (fun _ hk=>hk.2)⟩,⟨(rk_ HO269)⟩,⟨(hb_ HB)⟩⟩
                 rw [if_neg c15] at H
                 exact absurd H (by simp)
                rw [if_neg c14] at H
                exact absurd H (by simp)
               rw [if_neg c13] at H
               exact absurd H (by simp)
              rw [if_neg c12] at H
              have c12b0 : (x11_4 == ji8) = false:=be_ c12;have c12b1 : (x11_4 != ji8) = true:=bne_iff_ne.mpr c12
              by_cases c18 : x10_4 < ji7
              ·rw [if_pos c18] at H
               have c18b0 : decide (x10_4 < ji7) = true:=dt_ c18;clear c18
               by_cases c19 : 0 ≤ x10_4
               ·rw [if_pos c19] at H
                have c19b0 : decide (0 ≤ x10_4) = true:=dt_ c19;clear c19
                by_cases c20 : x10_4 < (x3_2.length : Int)
                ·rw [if_pos c20] at H
                 have c20b0 : decide (x10_4 < (x3_2.length : Int)) = true:=dt_ c20;clear c20
                 by_cases c21 : 0 ≤ (rd x3_2 x10_4)
                 ·rw [if_pos c21] at H
                  have c21b0 : decide (0 ≤ (rd x3_2 x10_4)) = true:=dt_ c21;clear c21
                  by_cases c22 : (rd x3_2 x10_4) < (l0.length : Int)
                  ·rw [if_pos c22] at H
                   have c22b0 : decide ((rd x3_2 x10_4) < (l0.length : Int)) = true:=dt_ c22;clear c22
                   by_cases c23 : 0 ≤ x11_4
                   ·rw [if_pos c23] at H
                    have c23b0 : decide (0 ≤ x11_4) = true:=dt_ c23;clear c23
                    by_cases c24 : x11_4 < (x3_2.length : Int)
                    ·rw [if_pos c24] at H
                     have c24b0 : decide (x11_4 < (x3_2.length : Int)) = true:=dt_ c24;clear c24
                     by_cases c25 : 0 ≤ (rd x3_2 x11_4)
                     ·rw [if_pos c25] at H
                      have c25b0 : decide (0 ≤ (rd x3_2 x11_4)) = true:=dt_ c25;clear c25
                      by_cases c26 : (rd x3_2 x11_4) < (l0.length : Int)
                      ·rw [if_pos c26] at H
                       have c26b0 : decide ((rd x3_2 x11_4) < (l0.length : Int)) = true:=dt_ c26;clear c26
                       by_cases c27 : ((Op.bytesLess ((rdOf ByteArray.empty l0 (rd x3_2 x11_4)).toList) ((rdOf ByteArray.empty l0 (rd x3_2 x10_4)).toList)) = true)
                       ·rw [if_pos c27] at H
                        have c27b0 : (Op.bytesLess ((rdOf ByteArray.empty l0 (rd x3_2 x11_4)).toList) ((rdOf ByteArray.empty l0 (rd x3_2 x10_4)).toList)) = true:=c27;clear c27
                        by_cases c28 : x6_4.length < 17592186044416
                        ·rw [if_pos c28] at H
                         have LMc28:=ad_ c28;clear c28
                         obtain ⟨y275,hy275⟩ : ∃ y_ : List Int,y_ = (x6_4 ++ [rd x3_2 x11_4]):=⟨_,rfl⟩
                         replace H : (quarryref17_Ordered.l3 kj8 l0 x3_2 x5_2 y275 x7_3 ji7 ji8 x10_4 (wrap64 (x11_4 + 1))) = some r:=by first|(rw [hy275];with_reducible exact H)|(have H2_:=(Option.bind_some _ _).symm.trans H;rw [hy275];with_reducible exact H2_)|(have H2_:=(Option.bind_some _ _).symm.trans H;with_reducible exact H2_)|with_reducible exact H|(rw [hy275];exact H)|exact H
                         have Ny275:=ad_ hy275;clear hy275;have H':=ad_ H;clear H;obtain ⟨Ao29,co29,eo29⟩:=Kd.R_slice HO_3.out;subst eo29;have p270 : 0 ≤ (x10_4 : Int):=od_ aa_;have q270 : x10_4 < (x3_2.length : Int):=od_ aa_;obtain ⟨ad270,e270,hx270_0⟩:=Kd.at_int (Kd.R_reads' HO_3.out).2.2 x10_4 p270 q270;cases e270;replace p270:=eq_true p270;replace q270:=eq_true q270;have p271 : 0 ≤ ((rd x3_2 x10_4) : Int):=od_ aa_;have q271 : (rd x3_2 x10_4) < (l0.length : Int):=od_ aa_;obtain ⟨ad271,e271,hx271_0⟩:=Kd.at_string HR0.out (rd x3_2 x10_4) p271 q271;cases e271;replace hx271_0:=(HB.out.cell (wb_ w _ hx271_0)).trans hx271_0;replace p271:=eq_true p271;replace q271:=eq_true q271;have p272 : 0 ≤ (x11_4 : Int):=od_ aa_;have q272 : x11_4 < (x3_2.length : Int):=od_ aa_;obtain ⟨ad272,e272,hx272_0⟩:=Kd.at_int (Kd.R_reads' HO_3.out).2.2 x11_4 p272 q272;obtain rfl : ad270 = ad272:=(by injection e272);replace p272:=eq_true p272;replace q272:=eq_true q272;have p273 : 0 ≤ ((rd x3_2 x11_4) : Int):=od_ aa_;have q273 : (rd x3_2 x11_4) < (l0.length : Int):=od_ aa_;obtain ⟨ad273,e273,hx273_0⟩:=Kd.at_string HR0.out (rd x3_2 x11_4) p273 q273;obtain rfl : ad271 = ad273:=(by injection e273);replace hx273_0:=(HB.out.cell (wb_ w _ hx273_0)).trans hx273_0;replace p273:=eq_true p273;replace q273:=eq_true q273;have p274 : 0 ≤ (x11_4 : Int):=od_ aa_;have q274 : x11_4 < (x3_2.length : Int):=od_ aa_;obtain ⟨ad274,e274,hx274_0⟩:=Kd.at_int (Kd.R_reads' HO_3.out).2.2 x11_4 p274 q274;obtain rfl : ad270 = ad274:=(by injection e274)
                         replace p274:=eq_true p274;replace q274:=eq_true q274
                         go_wp2_with (first|((with_reducible refine gate_builtin (b:=.append) (xs:=#[.tmp 92,.tmp 97]) rfl ?_);at_builtin;refine Kd.R_append (Kd.int .i64) (w0:=w) w.heap.size rfl (.tmp 92) (.tmp 97) 61 3 (.int .i64 0) 8 rfl Tryd.underlying61 info3 rfl (by decide) (by omega) u6 x6_4 (rd x3_2 x11_4) [.int .i64 (rd x3_2 x11_4)] (fun k_=>some k_ ≠ (.slice (some ad270) x3_2.length co29 : Value).ownBlock) (fun _=>False) rfl rfl ?aP (fun _ hk=>hk.elim) ?aF ?aO ?aB ?aS ?aL ?_;(case aP=>exact rfl);(case aB=>exact (hb_ HB));(case aF=>exact (fun k_ hk=>Kd.fresh' (Kd.R_lt (rk_ HO_3)) k_ hk));(case aO=>exact (rk_ HO_6));(case aS=>exact (below_size (hb_ HB)));(case aL=>have:=LMc28.out;first|omega|exact Nat.le_of_lt this);intro v276 w30 ho hb hg hat;rw [← Ny275.out] at ho;have n_:=J_ (Kd.R_after (ok:=(fun _=>True)) (by (with_reducible repeat (first|apply Kd.R_alloc|apply Kd.R_drewN|apply Kd.R_drew));exact Kd.R_mono HO_3.out (fun _ hk=>⟨trivial,hk⟩)) hg hat) (J_ (hb) (ad_ (ho)));clear HO_3 HB HO_6;obtain ⟨HO_3,HB,HO277⟩:=n_;clear ho hb hg hat))
                         repeat (go_quiet (first|((with_reducible refine gate_builtin (b:=.append) (xs:=#[.tmp 92,.tmp 97]) rfl ?_);at_builtin;refine Kd.R_append (Kd.int .i64) (w0:=w) w.heap.size rfl (.tmp 92) (.tmp 97) 61 3 (.int .i64 0) 8 rfl Tryd.underlying61 info3 rfl (by decide) (by omega) u6 x6_4 (rd x3_2 x11_4) [.int .i64 (rd x3_2 x11_4)] (fun k_=>some k_ ≠ (.slice (some ad270) x3_2.length co29 : Value).ownBlock) (fun _=>False) rfl rfl ?aP (fun _ hk=>hk.elim) ?aF ?aO ?aB ?aS ?aL ?_;(case aP=>exact rfl);(case aB=>exact (hb_ HB));(case aF=>exact (fun k_ hk=>Kd.fresh' (Kd.R_lt (rk_ HO_3)) k_ hk));(case aO=>exact (rk_ HO_6));(case aS=>exact (below_size (hb_ HB)));(case aL=>have:=LMc28.out;first|omega|exact Nat.le_of_lt this);intro v276 w30 ho hb hg hat;rw [← Ny275.out] at ho;have n_:=J_ (Kd.R_after (ok:=(fun _=>True)) (by (with_reducible repeat (first|apply Kd.R_alloc|apply Kd.R_drewN|apply Kd.R_drew));exact Kd.R_mono HO_3.out (fun _ hk=>⟨trivial,hk⟩)) hg hat) (J_ (hb) (ad_ (ho)));clear HO_3 HB HO_6;obtain ⟨HO_3,HB,HO277⟩:=n_;clear ho hb hg hat));try go_wp2_with (first|((with_reducible refine gate_builtin (b:=.append) (xs:=#[.tmp 92,.tmp 97]) rfl ?_);at_builtin;refine Kd.R_append (Kd.int .i64) (w0:=w) w.heap.size rfl (.tmp 92) (.tmp 97) 61 3 (.int .i64 0) 8 rfl Tryd.underlying61 info3 rfl (by decide) (by omega) u6 x6_4 (rd x3_2 x11_4) [.int .i64 (rd x3_2 x11_4)] (fun k_=>some k_ ≠ (.slice (some ad270) x3_2.length co29 : Value).ownBlock) (fun _=>False) rfl rfl ?aP (fun _ hk=>hk.elim) ?aF ?aO ?aB ?aS ?aL ?_;(case aP=>exact rfl);(case aB=>exact (hb_ HB));(case aF=>exact (fun k_ hk=>Kd.fresh' (Kd.R_lt (rk_ HO_3)) k_ hk));(case aO=>exact (rk_ HO_6));(case aS=>exact (below_size (hb_ HB)));(case aL=>have:=LMc28.out;first|omega|exact Nat.le_of_lt this);intro v276 w30 ho hb hg hat;rw [← Ny275.out] at ho;have n_:=J_ (Kd.R_after (ok:=(fun _=>True)) (by (with_reducible repeat (first|apply Kd.R_alloc|apply Kd.R_drewN|apply Kd.R_drew));exact Kd.R_mono HO_3.out (fun _ hk=>⟨trivial,hk⟩)) hg hat) (J_ (hb) (ad_ (ho)));clear HO_3 HB HO_6;obtain ⟨HO_3,HB,HO277⟩:=n_;clear ho hb hg hat)))
                         go_roundg kj8
                         case measure=>have:=HK1.out;have:=HK2.out;have:=HK3.out;have:=HK4.out;have:=HJ8.out;omega
                         case rel=>exact ⟨(y275),(x10_4),(wrap64 (x11_4 + 1)),rr_,rr_,(by first|exact H'|(subst_vars;exact H')),⟨by have:=HK1.out;have:=HK2.out;have:=HK3.out;have:=HK4.out;have:=HJ8.out;omega⟩,⟨by (with_reducible repeat (first|apply Kd.R_alloc|apply Kd.R_drewN|apply Kd.R_drew));exact Kd.R_mono HO_3.out (fun _ hk=>hk.2)⟩,⟨(rk_ HO277)⟩,⟨(hb_ HB)⟩⟩
                        rw [if_neg c28] at H
                        exact absurd H (by simp)
                       rw [if_neg c27] at H
                       have c27b0 : (Op.bytesLess ((rdOf ByteArray.empty l0 (rd x3_2 x11_4)).toList) ((rdOf ByteArray.empty l0 (rd x3_2 x10_4)).toList)) = false:=by simpa using c27
                       clear c27
                       by_cases c31 : x6_4.length < 17592186044416
                       ·rw [if_pos c31] at H
                        have LMc31:=ad_ c31;clear c31
                        obtain ⟨y279,hy279⟩ : ∃ y_ : List Int,y_ = (x6_4 ++ [rd x3_2 x10_4]):=⟨_,rfl⟩
                        replace H : (quarryref17_Ordered.l3 kj8 l0 x3_2 x5_2 y279 x7_3 ji7 ji8 (wrap64 (x10_4 + 1)) x11_4) = some r:=by first|(rw [hy279];with_reducible exact H)|(have H2_:=(Option.bind_some _ _).symm.trans H;rw [hy279];with_reducible exact H2_)|(have H2_:=(Option.bind_some _ _).symm.trans H;with_reducible exact H2_)|with_reducible exact H|(rw [hy279];exact H)|exact H
                        have Ny279:=ad_ hy279;clear hy279;have H':=ad_ H;clear H;obtain ⟨Ao32,co32,eo32⟩:=Kd.R_slice HO_3.out;subst eo32;have p270 : 0 ≤ (x10_4 : Int):=od_ aa_;have q270 : x10_4 < (x3_2.length : Int):=od_ aa_;obtain ⟨ad270,e270,hx270_0⟩:=Kd.at_int (Kd.R_reads' HO_3.out).2.2 x10_4 p270 q270;cases e270;replace p270:=eq_true p270;replace q270:=eq_true q270;have p271 : 0 ≤ ((rd x3_2 x10_4) : Int):=od_ aa_;have q271 : (rd x3_2 x10_4) < (l0.length : Int):=od_ aa_;obtain ⟨ad271,e271,hx271_0⟩:=Kd.at_string HR0.out (rd x3_2 x10_4) p271 q271;cases e271;replace hx271_0:=(HB.out.cell (wb_ w _ hx271_0)).trans hx271_0;replace p271:=eq_true p271;replace q271:=eq_true q271;have p272 : 0 ≤ (x11_4 : Int):=od_ aa_;have q272 : x11_4 < (x3_2.length : Int):=od_ aa_;obtain ⟨ad272,e272,hx272_0⟩:=Kd.at_int (Kd.R_reads' HO_3.out).2.2 x11_4 p272 q272;obtain rfl : ad270 = ad272:=(by injection e272);replace p272:=eq_true p272;replace q272:=eq_true q272;have p273 : 0 ≤ ((rd x3_2 x11_4) : Int):=od_ aa_;have q273 : (rd x3_2 x11_4) < (l0.length : Int):=od_ aa_;obtain ⟨ad273,e273,hx273_0⟩:=Kd.at_string HR0.out (rd x3_2 x11_4) p273 q273;obtain rfl : ad271 = ad273:=(by injection e273);replace hx273_0:=(HB.out.cell (wb_ w _ hx273_0)).trans hx273_0;replace p273:=eq_true p273;replace q273:=eq_true q273;have p278 : 0 ≤ (x10_4 : Int):=od_ aa_;have q278 : x10_4 < (x3_2.length : Int):=od_ aa_;obtain ⟨ad278,e278,hx278_0⟩:=Kd.at_int (Kd.R_reads' HO_3.out).2.2 x10_4 p278 q278;obtain rfl : ad270 = ad278:=(by injection e278)
                        replace p278:=eq_true p278;replace q278:=eq_true q278
                        go_wp2_with (first|((with_reducible refine gate_builtin (b:=.append) (xs:=#[.tmp 83,.tmp 88]) rfl ?_);at_builtin;refine Kd.R_append (Kd.int .i64) (w0:=w) w.heap.size rfl (.tmp 83) (.tmp 88) 61 3 (.int .i64 0) 8 rfl Tryd.underlying61 info3 rfl (by decide) (by omega) u6 x6_4 (rd x3_2 x10_4) [.int .i64 (rd x3_2 x10_4)] (fun k_=>some k_ ≠ (.slice (some ad270) x3_2.length co32 : Value).ownBlock) (fun _=>False) rfl rfl ?aP (fun _ hk=>hk.elim) ?aF ?aO ?aB ?aS ?aL ?_;(case aP=>exact rfl);(case aB=>exact (hb_ HB));(case aF=>exact (fun k_ hk=>Kd.fresh' (Kd.R_lt (rk_ HO_3)) k_ hk));(case aO=>exact (rk_ HO_6));(case aS=>exact (below_size (hb_ HB)));(case aL=>have:=LMc31.out;first|omega|exact Nat.le_of_lt this);intro v280 w33 ho hb hg hat;rw [← Ny279.out] at ho;have n_:=J_ (Kd.R_after (ok:=(fun _=>True)) (by (with_reducible repeat (first|apply Kd.R_alloc|apply Kd.R_drewN|apply Kd.R_drew));exact Kd.R_mono HO_3.out (fun _ hk=>⟨trivial,hk⟩)) hg hat) (J_ (hb) (ad_ (ho)));clear HO_3 HB HO_6;obtain ⟨HO_3,HB,HO281⟩:=n_;clear ho hb hg hat))
                        repeat (go_quiet (first|((with_reducible refine gate_builtin (b:=.append) (xs:=#[.tmp 83,.tmp 88]) rfl ?_);at_builtin;refine Kd.R_append (Kd.int .i64) (w0:=w) w.heap.size rfl (.tmp 83) (.tmp 88) 61 3 (.int .i64 0) 8 rfl Tryd.underlying61 info3 rfl (by decide) (by omega) u6 x6_4 (rd x3_2 x10_4) [.int .i64 (rd x3_2 x10_4)] (fun k_=>some k_ ≠ (.slice (some ad270) x3_2.length co32 : Value).ownBlock) (fun _=>False) rfl rfl ?aP (fun _ hk=>hk.elim) ?aF ?aO ?aB ?aS ?aL ?_;(case aP=>exact rfl);(case aB=>exact (hb_ HB));(case aF=>exact (fun k_ hk=>Kd.fresh' (Kd.R_lt (rk_ HO_3)) k_ hk));(case aO=>exact (rk_ HO_6));(case aS=>exact (below_size (hb_ HB)));(case aL=>have:=LMc31.out;first|omega|exact Nat.le_of_lt this);intro v280 w33 ho hb hg hat;rw [← Ny279.out] at ho;have n_:=J_ (Kd.R_after (ok:=(fun _=>True)) (by (with_reducible repeat (first|apply Kd.R_alloc|apply Kd.R_drewN|apply Kd.R_drew));exact Kd.R_mono HO_3.out (fun _ hk=>⟨trivial,hk⟩)) hg hat) (J_ (hb) (ad_ (ho)));clear HO_3 HB HO_6;obtain ⟨HO_3,HB,HO281⟩:=n_;clear ho hb hg hat));try go_wp2_with (first|((with_reducible refine gate_builtin (b:=.append) (xs:=#[.tmp 83,.tmp 88]) rfl ?_);at_builtin;refine Kd.R_append (Kd.int .i64) (w0:=w) w.heap.size rfl (.tmp 83) (.tmp 88) 61 3 (.int .i64 0) 8 rfl Tryd.underlying61 info3 rfl (by decide) (by omega) u6 x6_4 (rd x3_2 x10_4) [.int .i64 (rd x3_2 x10_4)] (fun k_=>some k_ ≠ (.slice (some ad270) x3_2.length co32 : Value).ownBlock) (fun _=>False) rfl rfl ?aP (fun _ hk=>hk.elim) ?aF ?aO ?aB ?aS ?aL ?_;(case aP=>exact rfl);(case aB=>exact (hb_ HB));(case aF=>exact (fun k_ hk=>Kd.fresh' (Kd.R_lt (rk_ HO_3)) k_ hk));(case aO=>exact (rk_ HO_6));(case aS=>exact (below_size (hb_ HB)));(case aL=>have:=LMc31.out;first|omega|exact Nat.le_of_lt this);intro v280 w33 ho hb hg hat;rw [← Ny279.out] at ho;have n_:=J_ (Kd.R_after (ok:=(fun _=>True)) (by (with_reducible repeat (first|apply Kd.R_alloc|apply Kd.R_drewN|apply Kd.R_drew));exact Kd.R_mono HO_3.out (fun _ hk=>⟨trivial,hk⟩)) hg hat) (J_ (hb) (ad_ (ho)));clear HO_3 HB HO_6;obtain ⟨HO_3,HB,HO281⟩:=n_;clear ho hb hg hat)))
                        go_roundg kj8
                        case measure=>have:=HK1.out;have:=HK2.out;have:=HK3.out;have:=HK4.out;have:=HJ8.out;omega
                        case rel=>exact ⟨(y279),(wrap64 (x10_4 + 1)),(x11_4),rr_,rr_,(by first|exact H'|(subst_vars;exact H')),⟨by have:=HK1.out;have:=HK2.out;have:=HK3.out;have:=HK4.out;have:=HJ8.out;omega⟩,⟨by (with_reducible repeat (first|apply Kd.R_alloc|apply Kd.R_drewN|apply Kd.R_drew));exact Kd.R_mono HO_3.out (fun _ hk=>hk.2)⟩,⟨(rk_ HO281)⟩,⟨(hb_ HB)⟩⟩
                       rw [if_neg c31] at H
                       exact absurd H (by simp)
                      rw [if_neg c26] at H
                      exact absurd H (by simp)
                     rw [if_neg c25] at H
                     exact absurd H (by simp)
                    rw [if_neg c24] at H
                    exact absurd H (by simp)
                   rw [if_neg c23] at H
                   exact absurd H (by simp)
                  rw [if_neg c22] at H
                  exact absurd H (by simp)
                 rw [if_neg c21] at H
                 exact absurd H (by simp)
                rw [if_neg c20] at H
                exact absurd H (by simp)
               rw [if_neg c19] at H
               exact absurd H (by simp)
              rw [if_neg c18] at H
              have c18b0 : decide (x10_4 < ji7) = false:=df_ c18;clear c18
              by_cases c34 : 0 ≤ x11_4
              ·rw [if_pos c34] at H
               have c34b0 : decide (0 ≤ x11_4) = true:=dt_ c34;clear c34
               by_cases c35 : x11_4 < (x3_2.length : Int)
               ·rw [if_pos c35] at H
                have c35b0 : decide (x11_4 < (x3_2.length : Int)) = true:=dt_ c35;clear c35
                by_cases c36 : x6_4.length < 17592186044416
                ·rw [if_pos c36] at H
                 have LMc36:=ad_ c36;clear c36
                 obtain ⟨y283,hy283⟩ : ∃ y_ : List Int,y_ = (x6_4 ++ [rd x3_2 x11_4]):=⟨_,rfl⟩
                 replace H : (quarryref17_Ordered.l3 kj8 l0 x3_2 x5_2 y283 x7_3 ji7 ji8 x10_4 (wrap64 (x11_4 + 1))) = some r:=by first|(rw [hy283];with_reducible exact H)|(have H2_:=(Option.bind_some _ _).symm.trans H;rw [hy283];with_reducible exact H2_)|(have H2_:=(Option.bind_some _ _).symm.trans H;with_reducible exact H2_)|with_reducible exact H|(rw [hy283];exact H)|exact H
                 have Ny283:=ad_ hy283;clear hy283;have H':=ad_ H;clear H;obtain ⟨Ao37,co37,eo37⟩:=Kd.R_slice HO_3.out;subst eo37;have p282 : 0 ≤ (x11_4 : Int):=od_ aa_;have q282 : x11_4 < (x3_2.length : Int):=od_ aa_;obtain ⟨ad282,e282,hx282_0⟩:=Kd.at_int (Kd.R_reads' HO_3.out).2.2 x11_4 p282 q282;cases e282;replace p282:=eq_true p282;replace q282:=eq_true q282
                 go_wp2_with (first|((with_reducible refine gate_builtin (b:=.append) (xs:=#[.tmp 92,.tmp 97]) rfl ?_);at_builtin;refine Kd.R_append (Kd.int .i64) (w0:=w) w.heap.size rfl (.tmp 92) (.tmp 97) 61 3 (.int .i64 0) 8 rfl Tryd.underlying61 info3 rfl (by decide) (by omega) u6 x6_4 (rd x3_2 x11_4) [.int .i64 (rd x3_2 x11_4)] (fun k_=>some k_ ≠ (.slice (some ad282) x3_2.length co37 : Value).ownBlock) (fun _=>False) rfl rfl ?aP (fun _ hk=>hk.elim) ?aF ?aO ?aB ?aS ?aL ?_;(case aP=>exact rfl);(case aB=>exact (hb_ HB));(case aF=>exact (fun k_ hk=>Kd.fresh' (Kd.R_lt (rk_ HO_3)) k_ hk));(case aO=>exact (rk_ HO_6));(case aS=>exact (below_size (hb_ HB)));(case aL=>have:=LMc36.out;first|omega|exact Nat.le_of_lt this);intro v284 w38 ho hb hg hat;rw [← Ny283.out] at ho;have n_:=J_ (Kd.R_after (ok:=(fun _=>True)) (by (with_reducible repeat (first|apply Kd.R_alloc|apply Kd.R_drewN|apply Kd.R_drew));exact Kd.R_mono HO_3.out (fun _ hk=>⟨trivial,hk⟩)) hg hat) (J_ (hb) (ad_ (ho)));clear HO_3 HB HO_6;obtain ⟨HO_3,HB,HO285⟩:=n_;clear ho hb hg hat))
                 repeat (go_quiet (first|((with_reducible refine gate_builtin (b:=.append) (xs:=#[.tmp 92,.tmp 97]) rfl ?_);at_builtin;refine Kd.R_append (Kd.int .i64) (w0:=w) w.heap.size rfl (.tmp 92) (.tmp 97) 61 3 (.int .i64 0) 8 rfl Tryd.underlying61 info3 rfl (by decide) (by omega) u6 x6_4 (rd x3_2 x11_4) [.int .i64 (rd x3_2 x11_4)] (fun k_=>some k_ ≠ (.slice (some ad282) x3_2.length co37 : Value).ownBlock) (fun _=>False) rfl rfl ?aP (fun _ hk=>hk.elim) ?aF ?aO ?aB ?aS ?aL ?_;(case aP=>exact rfl);(case aB=>exact (hb_ HB));(case aF=>exact (fun k_ hk=>Kd.fresh' (Kd.R_lt (rk_ HO_3)) k_ hk));(case aO=>exact (rk_ HO_6));(case aS=>exact (below_size (hb_ HB)));(case aL=>have:=LMc36.out;first|omega|exact Nat.le_of_lt this);intro v284 w38 ho hb hg hat;rw [← Ny283.out] at ho;have n_:=J_ (Kd.R_after (ok:=(fun _=>True)) (by (with_reducible repeat (first|apply Kd.R_alloc|apply Kd.R_drewN|apply Kd.R_drew));exact Kd.R_mono HO_3.out (fun _ hk=>⟨trivial,hk⟩)) hg hat) (J_ (hb) (ad_ (ho)));clear HO_3 HB HO_6;obtain ⟨HO_3,HB,HO285⟩:=n_;clear ho hb hg hat));try go_wp2_with (first|((with_reducible refine gate_builtin (b:=.append) (xs:=#[.tmp 92,.tmp 97]) rfl ?_);at_builtin;refine Kd.R_append (Kd.int .i64) (w0:=w) w.heap.size rfl (.tmp 92) (.tmp 97) 61 3 (.int .i64 0) 8 rfl Tryd.underlying61 info3 rfl (by decide) (by omega) u6 x6_4 (rd x3_2 x11_4) [.int .i64 (rd x3_2 x11_4)] (fun k_=>some k_ ≠ (.slice (some ad282) x3_2.length co37 : Value).ownBlock) (fun _=>False) rfl rfl ?aP (fun _ hk=>hk.elim) ?aF ?aO ?aB ?aS ?aL ?_;(case aP=>exact rfl);(case aB=>exact (hb_ HB));(case aF=>exact (fun k_ hk=>Kd.fresh' (Kd.R_lt (rk_ HO_3)) k_ hk));(case aO=>exact (rk_ HO_6));(case aS=>exact (below_size (hb_ HB)));(case aL=>have:=LMc36.out;first|omega|exact Nat.le_of_lt this);intro v284 w38 ho hb hg hat;rw [← Ny283.out] at ho;have n_:=J_ (Kd.R_after (ok:=(fun _=>True)) (by (with_reducible repeat (first|apply Kd.R_alloc|apply Kd.R_drewN|apply Kd.R_drew));exact Kd.R_mono HO_3.out (fun _ hk=>⟨trivial,hk⟩)) hg hat) (J_ (hb) (ad_ (ho)));clear HO_3 HB HO_6;obtain ⟨HO_3,HB,HO285⟩:=n_;clear ho hb hg hat)))
                 go_roundg kj8
                 case measure=>have:=HK1.out;have:=HK2.out;have:=HK3.out;have:=HK4.out;have:=HJ8.out;omega
                 case rel=>exact ⟨(y283),(x10_4),(wrap64 (x11_4 + 1)),rr_,rr_,(by first|exact H'|(subst_vars;exact H')),⟨by have:=HK1.out;have:=HK2.out;have:=HK3.out;have:=HK4.out;have:=HJ8.out;omega⟩,⟨by (with_reducible repeat (first|apply Kd.R_alloc|apply Kd.R_drewN|apply Kd.R_drew));exact Kd.R_mono HO_3.out (fun _ hk=>hk.2)⟩,⟨(rk_ HO285)⟩,⟨(hb_ HB)⟩⟩
                rw [if_neg c36] at H
                exact absurd H (by simp)
               rw [if_neg c35] at H
               exact absurd H (by simp)
              rw [if_neg c34] at H
              exact absurd H (by simp)
             replace c11:=Bool.eq_false_iff.mpr c11;subst c11
             rw [if_neg (show ¬ (false = true) by decide)] at H
             have H':=ad_ H;clear H;go_wp2
             repeat (go_quiet (fail);try go_wp2)
             go_roundg kj8
             case measure=>have:=HK1.out;have:=HK2.out;have:=HK3.out;have:=HK4.out;have:=HJ8.out;omega
             case rel=>exact ⟨(x6_4),(wrap64 (x7_3 + (wrap64 (2 * x5_2)))),rr_,(by first|exact H'|(subst_vars;exact H')),⟨by have:=HK1.out;have:=HK2.out;have:=HK3.out;have:=HK4.out;have:=HJ8.out;omega⟩,⟨(rk_ HO_3)⟩,⟨(rk_ HO_6)⟩,⟨(hb_ HB)⟩⟩
        rw [if_neg c6] at H
        have c6b0 : decide (x7_3 < (l0.length : Int)) = false:=df_ c6;clear c6;have H':=ad_ H;clear H;go_wp2
        repeat (go_quiet (fail);try go_wp2)
        go_roundg k3
        case measure=>have:=HK1.out;have:=HK2.out;have:=HK3.out;omega
        case rel=>exact ⟨(x6_3),(wrap64 (2 * x5_2)),rr_,(by first|exact H'|(subst_vars;exact H')),⟨by have:=HK1.out;have:=HK2.out;have:=HK3.out;omega⟩,⟨by (with_reducible repeat (first|apply Kd.R_alloc|apply Kd.R_drewN|apply Kd.R_drew));exact Kd.R_mono HO_6.out (fun _ hk=>trivial)⟩,⟨(hb_ HB)⟩⟩
     rw [if_neg c5] at H
     have c5b0 : decide (x5_2 < (l0.length : Int)) = false:=df_ c5;clear c5;obtain rfl:=si_ H;go_wp2
     repeat (go_quiet (fail);try go_wp2)
     go_ret;exact ⟨_,er_,(rk_ HO_3),(hb_ HB)⟩
def quarryref17_Place.l0 : Nat → List ByteArray → List Int → ByteArray → Int → Int → Option (Int)
 | 0,_,_,_,_,_=>none
 | k + 1,x0,x1,x2,x7,x8=>if x7 < x8 then (if 0 ≤ (wrap64 (Int.tdiv (wrap64 (x7 + x8)) 2)) then (if (wrap64 (Int.tdiv (wrap64 (x7 + x8)) 2)) < (x1.length : Int) then (if 0 ≤ (rd x1 (wrap64 (Int.tdiv (wrap64 (x7 + x8)) 2))) then (if (rd x1 (wrap64 (Int.tdiv (wrap64 (x7 + x8)) 2))) < (x0.length : Int) then (if (Op.bytesLess ((rdOf ByteArray.empty x0 (rd x1 (wrap64 (Int.tdiv (wrap64 (x7 + x8)) 2)))).toList) x2.toList) = true then (quarryref17_Place.l0 k x0 x1 x2 (wrap64 ((wrap64 (Int.tdiv (wrap64 (x7 + x8)) 2)) + 1)) x8) else (quarryref17_Place.l0 k x0 x1 x2 x7 (wrap64 (Int.tdiv (wrap64 (x7 + x8)) 2)))) else (none)) else (none)) else (none)) else (none)) else (if x7 = (x1.length : Int) then (some (-1)) else (if 0 ≤ x7 then (if x7 < (x1.length : Int) then (if 0 ≤ (rd x1 x7) then (if (rd x1 x7) < (x0.length : Int) then (if (rdOf ByteArray.empty x0 (rd x1 x7)).toList = x2.toList then (some (rd x1 x7)) else (some (-1))) else (none)) else (none)) else (none)) else (none)))
def quarryref17_Place.f (k : Nat) (l0 : List ByteArray) (l1 : List Int) (a2 : ByteArray) : Option (Int):=quarryref17_Place.l0 k l0 l1 a2 0 (l1.length : Int)
theorem quarryref17_Place.mono_l : ∀ k,(∀ y0 y1 y2 y3 y4,LeO (quarryref17_Place.l0 k y0 y1 y2 y3 y4) (quarryref17_Place.l0 (k + 1) y0 y1 y2 y3 y4))
 | 0=>fun _ _ _ _ _ r h=>by simp [quarryref17_Place.l0] at h
 | k + 1=>by
  have ih0:=quarryref17_Place.mono_l k;intro y0 y1 y2 y3 y4
  unfold quarryref17_Place.l0
  repeat' first
  | (with_reducible exact ih0 _ _ _ _ _)
  | (with_reducible exact LeO.refl _)
  | (with_reducible exact LeO.none _)
  | (with_reducible refine LeO.ite ?_ ?_)
  | (with_reducible refine LeO.bind ?_ (fun _=>?_))
  | exact ih0 _ _ _ _ _
  | exact LeO.none _
  | refine LeO.ite ?_ ?_
  | refine LeO.bind ?_ (fun _=>?_)
theorem quarryref17_Place.mono : ∀ a0 a1 a2 k,LeO (quarryref17_Place.f k a0 a1 a2) (quarryref17_Place.f (k + 1) a0 a1 a2):=by
 intro a0 a1 a2 k;have ih0:=quarryref17_Place.mono_l k
 unfold quarryref17_Place.f
 repeat' first
   | (with_reducible exact ih0 _ _ _ _ _)
   | (with_reducible exact LeO.refl _)
   | (with_reducible exact LeO.none _)
   | (with_reducible refine LeO.ite ?_ ?_)
   | (with_reducible refine LeO.bind ?_ (fun _=>?_))
   | exact ih0 _ _ _ _ _
   | exact LeO.none _
   | refine LeO.ite ?_ ?_
   | refine LeO.bind ?_ (fun _=>?_)
set_option maxHeartbeats 8000000 in
set_option maxRecDepth 100000 in
theorem quarryref17_Place.calls (k : Nat) (A0 : Option Addr) (c0 : Nat) (l0 : List ByteArray) (A1 : Option Addr) (c1 : Nat) (l1 : List Int) (a2 : ByteArray) (r : Int) (w : World) (hr0 : Kd.C Kd.string w A0 l0.length l0) (hc0 : l0.length ≤ c0) (hr1 : Kd.C (Kd.int .i64) w A1 l1.length l1) (hc1 : l1.length ≤ c1) (h : quarryref17_Place.f k l0 l1 a2 = some r) :
  Calls Tryd.prog 47 #[.slice A0 l0.length c0,.slice A1 l1.length c1,.string a2] w fun e w'=>e = .returned (.int .i64 r) ∧ Drawn0 w w':=by
 have HR0:=ad_ hr0;have HC0:=ad_ hc0;clear hr0 hc0;have HR1:=ad_ hr1;have HC1:=ad_ hc1;clear hr1 hc1;have H : (quarryref17_Place.l0 k l0 l1 a2 0 (l1.length : Int)) = some r:=h;clear h;have H':=ad_ H;clear H;go_enter Tryd.func47,Tryd.ntmps47;go_wp2
 go_loopg [7,8] k (fun kq v7 v8 w'=>∃ (x7_1 : Int) (x8_1 : Int),v7 = .int .i64 x7_1 ∧ v8 = .int .i64 x8_1 ∧ Aside0 (quarryref17_Place.l0 kq l0 l1 a2 x7_1 x8_1 = some r) ∧ Aside0 (kq ≤ k) ∧ Drawn0 w w')
 case atStart=>exact ⟨(0),((l1.length : Int)),rr_,rr_,H',⟨Nat.le_refl _⟩,by repeat (first|exact Drawn0.refl _|apply Drawn0.step)⟩
 case round =>
  clear H';obtain ⟨x7_1,x8_1,rfl,rfl,HA,HK1,⟨m1,rfl⟩⟩:=hrel
  cases gk with
  | zero=>exact absurd HA.out (by simp [quarryref17_Place.l0])
  | succ k1 =>
   have H:=HA.out;clear HA
   simp only [quarryref17_Place.l0] at H
   by_cases c4 : x7_1 < x8_1
   ·rw [if_pos c4] at H
    have c4b0 : decide (x7_1 < x8_1) = true:=dt_ c4;clear c4
    obtain ⟨ji5,hji5⟩ : ∃ j_ : Int,(wrap64 (Int.tdiv (wrap64 (x7_1 + x8_1)) 2)) = j_:=⟨_,rfl⟩
    replace H : (if 0 ≤ (ji5) then (if (ji5) < (l1.length : Int) then (if 0 ≤ (rd l1 (ji5)) then (if (rd l1 (ji5)) < (l0.length : Int) then (if (Op.bytesLess ((rdOf ByteArray.empty l0 (rd l1 (ji5))).toList) a2.toList) = true then (quarryref17_Place.l0 k1 l0 l1 a2 (wrap64 ((ji5) + 1)) x8_1) else (quarryref17_Place.l0 k1 l0 l1 a2 x7_1 ji5)) else (none)) else (none)) else (none)) else (none)) = some r:=by first|(rw [hji5] at H;exact H)|(simp only [hji5] at H ⊢;exact H)
    have hji5w : (IntKind.i64.wrap (Int.tdiv (wrap64 (x7_1 + x8_1)) 2)) = ji5:=(i64_w _).trans hji5
    by_cases c6 : 0 ≤ (ji5)
    ·rw [if_pos c6] at H
     have c6b0 : decide (0 ≤ (ji5)) = true:=dt_ c6;clear c6
     by_cases c7 : (ji5) < (l1.length : Int)
     ·rw [if_pos c7] at H
      have c7b0 : decide ((ji5) < (l1.length : Int)) = true:=dt_ c7;clear c7
      by_cases c8 : 0 ≤ (rd l1 (ji5))
      ·rw [if_pos c8] at H
       have c8b0 : decide (0 ≤ (rd l1 (ji5))) = true:=dt_ c8;clear c8
       by_cases c9 : (rd l1 (ji5)) < (l0.length : Int)
       ·rw [if_pos c9] at H
        have c9b0 : decide ((rd l1 (ji5)) < (l0.length : Int)) = true:=dt_ c9;clear c9
        by_cases c10 : (Op.bytesLess ((rdOf ByteArray.empty l0 (rd l1 (ji5))).toList) a2.toList) = true
        ·rw [if_pos c10] at H
         have c10b0 : (Op.bytesLess ((rdOf ByteArray.empty l0 (rd l1 (ji5))).toList) a2.toList) = true:=c10;clear c10;have H':=ad_ H;clear H;have p286 : 0 ≤ ((ji5) : Int):=od_ aa_;have q286 : (ji5) < (l1.length : Int):=od_ aa_;obtain ⟨ad286,e286,hx286_0⟩:=Kd.at_int HR1.out (ji5) p286 q286;cases e286;replace p286:=eq_true p286;replace q286:=eq_true q286;have p287 : 0 ≤ ((rd l1 (ji5)) : Int):=od_ aa_;have q287 : (rd l1 (ji5)) < (l0.length : Int):=od_ aa_;obtain ⟨ad287,e287,hx287_0⟩:=Kd.at_string HR0.out (rd l1 (ji5)) p287 q287;cases e287;replace p287:=eq_true p287;replace q287:=eq_true q287;go_wp2
         go_roundg k1
         case measure=>have:=HK1.out;omega
         case rel=>exact ⟨(wrap64 ((ji5) + 1)),(x8_1),(by first|rfl|(simp;done)|(simp only [← hji5] <;> (first|rfl|simp))|(simp [*];done)),rr_,(by first|exact H'|(subst_vars;exact H')),⟨by have:=HK1.out;omega⟩,by repeat (first|exact Drawn0.refl _|apply Drawn0.step)⟩
        rw [if_neg c10] at H
        have c10b0 : (Op.bytesLess ((rdOf ByteArray.empty l0 (rd l1 (ji5))).toList) a2.toList) = false:=by simpa using c10
        clear c10;have H':=ad_ H;clear H;have p286 : 0 ≤ ((ji5) : Int):=od_ aa_;have q286 : (ji5) < (l1.length : Int):=od_ aa_;obtain ⟨ad286,e286,hx286_0⟩:=Kd.at_int HR1.out (ji5) p286 q286;cases e286;replace p286:=eq_true p286;replace q286:=eq_true q286;have p287 : 0 ≤ ((rd l1 (ji5)) : Int):=od_ aa_;have q287 : (rd l1 (ji5)) < (l0.length : Int):=od_ aa_;obtain ⟨ad287,e287,hx287_0⟩:=Kd.at_string HR0.out (rd l1 (ji5)) p287 q287;cases e287;replace p287:=eq_true p287;replace q287:=eq_true q287;go_wp2
        go_roundg k1
        case measure=>have:=HK1.out;omega
        case rel=>exact ⟨(x7_1),(ji5),rr_,(by first|rfl|(simp;done)|(simp only [← hji5] <;> (first|rfl|simp))|(simp [*];done)),(by first|exact H'|(subst_vars;exact H')),⟨by have:=HK1.out;omega⟩,by repeat (first|exact Drawn0.refl _|apply Drawn0.step)⟩
       rw [if_neg c9] at H
       exact absurd H (by simp)
      rw [if_neg c8] at H
      exact absurd H (by simp)
     rw [if_neg c7] at H
     exact absurd H (by simp)
    rw [if_neg c6] at H
    exact absurd H (by simp)
   rw [if_neg c4] at H
   have c4b0 : decide (x7_1 < x8_1) = false:=df_ c4;clear c4
   by_cases c11 : x7_1 = (l1.length : Int)
   ·rw [if_pos c11] at H
    have c11b0 : (x7_1 == (l1.length : Int)) = true:=beq_iff_eq.mpr c11;have c11b1 : (x7_1 != (l1.length : Int)) = false:=bne_eq_false_iff_eq.mpr c11;clear c11;obtain rfl:=si_ H;go_wp2
    go_ret;exact ⟨by first|rfl|(simp;done)|(simp [*];done),by repeat (first|exact Drawn0.refl _|apply Drawn0.step)⟩
   rw [if_neg c11] at H
   have c11b0 : (x7_1 == (l1.length : Int)) = false:=be_ c11;have c11b1 : (x7_1 != (l1.length : Int)) = true:=bne_iff_ne.mpr c11
   by_cases c12 : 0 ≤ x7_1
   ·rw [if_pos c12] at H
    have c12b0 : decide (0 ≤ x7_1) = true:=dt_ c12;clear c12
    by_cases c13 : x7_1 < (l1.length : Int)
    ·rw [if_pos c13] at H
     have c13b0 : decide (x7_1 < (l1.length : Int)) = true:=dt_ c13;clear c13
     by_cases c14 : 0 ≤ (rd l1 x7_1)
     ·rw [if_pos c14] at H
      have c14b0 : decide (0 ≤ (rd l1 x7_1)) = true:=dt_ c14;clear c14
      by_cases c15 : (rd l1 x7_1) < (l0.length : Int)
      ·rw [if_pos c15] at H
       have c15b0 : decide ((rd l1 x7_1) < (l0.length : Int)) = true:=dt_ c15;clear c15
       by_cases c16 : (rdOf ByteArray.empty l0 (rd l1 x7_1)).toList = a2.toList
       ·rw [if_pos c16] at H
        have c16b0 : ((rdOf ByteArray.empty l0 (rd l1 x7_1)).toList == a2.toList) = true:=beq_iff_eq.mpr c16;have c16b1 : ((rdOf ByteArray.empty l0 (rd l1 x7_1)).toList != a2.toList) = false:=bne_eq_false_iff_eq.mpr c16;clear c16;obtain rfl:=si_ H;have p288 : 0 ≤ (x7_1 : Int):=od_ aa_;have q288 : x7_1 < (l1.length : Int):=od_ aa_;obtain ⟨ad288,e288,hx288_0⟩:=Kd.at_int HR1.out x7_1 p288 q288;cases e288;replace p288:=eq_true p288;replace q288:=eq_true q288;have p289 : 0 ≤ ((rd l1 x7_1) : Int):=od_ aa_;have q289 : (rd l1 x7_1) < (l0.length : Int):=od_ aa_;obtain ⟨ad289,e289,hx289_0⟩:=Kd.at_string HR0.out (rd l1 x7_1) p289 q289;cases e289;replace p289:=eq_true p289;replace q289:=eq_true q289;have p290 : 0 ≤ (x7_1 : Int):=od_ aa_;have q290 : x7_1 < (l1.length : Int):=od_ aa_;obtain ⟨ad290,e290,hx290_0⟩:=Kd.at_int HR1.out x7_1 p290 q290;obtain rfl : ad288 = ad290:=(by injection e290);replace p290:=eq_true p290;replace q290:=eq_true q290;go_wp2
        go_ret;exact ⟨by first|rfl|(simp;done)|(simp [*];done),by repeat (first|exact Drawn0.refl _|apply Drawn0.step)⟩
       rw [if_neg c16] at H
       have c16b0 : ((rdOf ByteArray.empty l0 (rd l1 x7_1)).toList == a2.toList) = false:=be_ c16;have c16b1 : ((rdOf ByteArray.empty l0 (rd l1 x7_1)).toList != a2.toList) = true:=bne_iff_ne.mpr c16;obtain rfl:=si_ H;have p288 : 0 ≤ (x7_1 : Int):=od_ aa_;have q288 : x7_1 < (l1.length : Int):=od_ aa_;obtain ⟨ad288,e288,hx288_0⟩:=Kd.at_int HR1.out x7_1 p288 q288;cases e288;replace p288:=eq_true p288;replace q288:=eq_true q288;have p289 : 0 ≤ ((rd l1 x7_1) : Int):=od_ aa_;have q289 : (rd l1 x7_1) < (l0.length : Int):=od_ aa_;obtain ⟨ad289,e289,hx289_0⟩:=Kd.at_string HR0.out (rd l1 x7_1) p289 q289;cases e289;replace p289:=eq_true p289;replace q289:=eq_true q289;go_wp2
       go_ret;exact ⟨by first|rfl|(simp;done)|(simp [*];done),by repeat (first|exact Drawn0.refl _|apply Drawn0.step)⟩
      rw [if_neg c15] at H
      exact absurd H (by simp)
     rw [if_neg c14] at H
     exact absurd H (by simp)
    rw [if_neg c13] at H
    exact absurd H (by simp)
   rw [if_neg c12] at H
   exact absurd H (by simp)
end Go.Proofs.YtfaegleohhemkaaDoor.PTreeLikes
