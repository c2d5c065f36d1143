-- Written by shrink.py, a program of this session: what the law needs of the print and its words. Lean checks it.
import Derived.Test.YtppenppagkfigaaDoorZPPointerFindsx0
import Derived.Test.YtppenppagkfigaaDoorZPPointerFindsx20
import Derived.Test.YtppenppagkfigaaDoorZPPointerFindsx21
namespace Go.Proofs.YtppenppagkfigaaDoor.PPointerFinds
open Go.RowKit Go.Proofs.YtppenppagkfigaaDoorW.PrintWords Go.Proofs.YtppenppagkfigaaDoorW.PrintLast Go.Proofs.YtppenppagkfigaaDoorW.PrintMore
attribute [local go_sem] max2_int min2_int max_two min_two max_three min_three max_four min_four
set_option linter.unusedVariables false
set_option linter.unusedSimpArgs false
def quarryref11_Read.j0 : Nat → ByteArray → Int → Bool → Option (Bool × ByteArray × Int × Int × Int)
 | 0,_,_,_=>none
 | k + 1,x0,x1,x19=>if x19 = true then (some (false,(⟨#[]⟩ : ByteArray),0,0,2)) else ((quarryref11_scan.f k x0 x1).bind fun bt236=>(if bt236.2.2.2.2.2 = true then ((quarryref11_number.f k bt236.2.2.2.1 1000000000000000).bind fun t243=>(if bt236.2.1.size + bt236.2.2.1.size ≤ 9223372036854775807 then ((quarryref11_Make.f k bt236.1 (bt236.2.1 ++ bt236.2.2.1) (wrap64 (t243 - (bt236.2.2.1.size : Int)))).bind fun bt244=>(if bt244.2.2.2 = true then (some (bt244.1,bt244.2.1,bt244.2.2.1,bt236.2.2.2.2.1,0)) else (some (false,(⟨#[]⟩ : ByteArray),0,bt236.2.2.2.2.1,111)))) else (none))) else (some (false,(⟨#[]⟩ : ByteArray),0,bt236.2.2.2.2.1,110))))
def quarryref11_Read.f (k : Nat) (a0 : ByteArray) (a1 : Int) : Option (Bool × ByteArray × Int × Int × Int):=if a1 < 0 then (quarryref11_Read.j0 k a0 a1 true) else (quarryref11_Read.j0 k a0 a1 (decide (a1 > (a0.size : Int))))
set_option maxHeartbeats 8000000 in
set_option maxRecDepth 100000 in
theorem quarryref11_Read.calls (k : Nat) (a0 : ByteArray) (a1 : Int) (r1 : Bool) (r2 : ByteArray) (r3 : Int) (r4 : Int) (r5 : Int) (w : World) (h : quarryref11_Read.f k a0 a1 = some (r1,r2,r3,r4,r5)) :
  Calls Tryd.prog 77 #[.string a0,.int .i64 a1] w fun e w'=>e = .returned (.tuple #[.agg #[.bool r1,.string r2,.int .i64 r3],.int .i64 r4,.int .i64 r5]) ∧ Below w.heap.size w w':=by
 have hu85:=Tryd.underlying85
 have hu121:=Tryd.underlying121
 have HB:=Aside0.mk (Below.refl w.heap.size w)
 have H : (if a1 < 0 then (quarryref11_Read.j0 k a0 a1 true) else (quarryref11_Read.j0 k a0 a1 (decide (a1 > (a0.size : Int))))) = some (r1,r2,r3,r4,r5):=h
 clear h
 have HC3:=Aside0.mk H
 clear H
 go_enter Tryd.func77,Tryd.ntmps77
 go_upto_region 1 with (first|((with_reducible refine gate_dst (N:=4) rfl ?_);(try (refine gate_guard (by rfl) ?_;dsimp only));refine box_event ?hg (N:=4) ?hd (cs:=#[.bool false,.string (⟨#[]⟩ : ByteArray),.int .i64 0]) (t:=85) ?hr ?_;(case hd=>rfl);(case hg=>rfl);(case hr=>first|(go_simp;done)|(go_simp;rfl));intro gb235 hg w4 hbox hb;have n_:=J_ (below_step (hb_ HB) hb) (J_ (hbox) (J_ (bs_ hg HB) (Aside0.mk (bs_ hg HB))));clear HB;obtain ⟨HB,BK235,GW235,GE235⟩:=n_;clear hb hbox hg))
 (try simp only [Act.put,List.setIfInBounds_toArray,List.set_cons_zero,List.set_cons_succ])
 go_cut [19] (fun v19 wc=>∃ (kq : Nat) (x19_2 : Bool),v19 = .bool x19_2 ∧ Aside0 (quarryref11_Read.j0 kq a0 a1 x19_2 = some (r1,r2,r3,r4,r5)) ∧ Aside0 (kq ≤ k) ∧ Aside0 (wc.heap[gb235]? = some (.cells #[.bool false,.string (⟨#[]⟩ : ByteArray),.int .i64 0] 85 (0,0))) ∧ Aside0 (Below w.heap.size w wc))
 case first =>
  have H:=HC3.out
  clear HC3
  by_cases c5 : a1 < 0
  ·rw [if_pos c5] at H
   have c5b0 : decide (a1 < 0) = true:=decide_eq_true c5
   clear c5
   (first|rw [c5b0]|(simp only [i64_w,i32_w];rw [c5b0])|skip)
   have H':=Aside0.mk H
   clear H
   go_wp2
   go_meet
   case rel=>exact ⟨_,(true),rr_,(by first|exact H'|(subst_vars;exact H')),⟨by first|omega|exact Nat.le_refl _⟩,⟨(bk_ BK235)⟩,⟨(hb_ HB)⟩⟩
  ·rw [if_neg c5] at H
   have c5b0 : decide (a1 < 0) = false:=decide_eq_false c5
   clear c5
   (first|rw [c5b0]|(simp only [i64_w,i32_w];rw [c5b0])|skip)
   have H':=Aside0.mk H
   clear H
   go_wp2
   go_meet
   case rel=>exact ⟨_,(decide (a1 > (a0.size : Int))),rr_,(by first|exact H'|(subst_vars;exact H')),⟨by first|omega|exact Nat.le_refl _⟩,⟨(bk_ BK235)⟩,⟨(hb_ HB)⟩⟩
 case rest =>
  clear HC3
  obtain ⟨kq,x19_2,rfl,HA,HJ2,BK235,HB⟩:=hcut
  cases kq with
  | zero=>exact absurd HA.out (by simp [quarryref11_Read.j0])
  | succ kj2 =>
   have H:=HA.out
   clear HA
   simp only [quarryref11_Read.j0] at H
   by_cases c6 : x19_2 = true
   ·subst c6
    have H1 : (some (false,(⟨#[]⟩ : ByteArray),0,0,2)) = some (r1,r2,r3,r4,r5):=by rw [if_pos rfl] at H;exact H
    clear H
    have H:=H1
    clear H1
    simp only [Option.some.injEq,Prod.mk.injEq] at H
    obtain ⟨rfl,rfl,rfl,rfl,rfl⟩:=H
    obtain ⟨hcz7_0,hcz7_1,hcz7_2,hfz7_0,hfz7_1,hfz7_2⟩:=cf3_ BK235
    go_wp2
    refine bodyPost_ret (results_ctt rfl _ _ gb235 85 #[.bool false,.string (⟨#[]⟩ : ByteArray),.int .i64 0] (0,0) _ rfl (by (with_reducible repeat (first|refine blk_drewN ?_ _|refine blk_drew ?_|refine blk_alloc ?_ _));refine bp_ (cs:=#[.bool false,.string (⟨#[]⟩ : ByteArray),.int .i64 0]) ?_ 2 _;refine bp_ (cs:=#[.bool false,.string (⟨#[]⟩ : ByteArray),.int .i64 0]) ?_ 1 _;refine bp_ (cs:=#[.bool false,.string (⟨#[]⟩ : ByteArray),.int .i64 0]) ?_ 0 _;(with_reducible repeat (first|refine blk_drewN ?_ _|refine blk_drew ?_|refine blk_alloc ?_ _));exact BK235.out) Tryd.underlying85 rfl (by kernel_rfl)) rfl ?_
    exact ⟨er_,(hb_ HB)⟩
   ·replace c6:=Bool.eq_false_iff.mpr c6
    subst c6
    have H1 : ((quarryref11_scan.f kj2 a0 a1).bind fun bt236=>(if bt236.2.2.2.2.2 = true then ((quarryref11_number.f kj2 bt236.2.2.2.1 1000000000000000).bind fun t243=>(if bt236.2.1.size + bt236.2.2.1.size ≤ 9223372036854775807 then ((quarryref11_Make.f kj2 bt236.1 (bt236.2.1 ++ bt236.2.2.1) (wrap64 (t243 - (bt236.2.2.1.size : Int)))).bind fun bt244=>(if bt244.2.2.2 = true then (some (bt244.1,bt244.2.1,bt244.2.2.1,bt236.2.2.2.2.1,0)) else (some (false,(⟨#[]⟩ : ByteArray),0,bt236.2.2.2.2.1,111)))) else (none))) else (some (false,(⟨#[]⟩ : ByteArray),0,bt236.2.2.2.2.1,110)))) = some (r1,r2,r3,r4,r5):=by rw [if_neg (show ¬ (false = true) by decide)] at H;exact H
    clear H
    have H:=H1
    clear H1
    replace H:=Option.bind_eq_some_iff.mp H
    obtain ⟨⟨t236,t237,t238,t239,t240,t241⟩,A80,H⟩:=H
    replace H : (if t241 = true then ((quarryref11_number.f kj2 t239 1000000000000000).bind fun t243=>(if t237.size + t238.size ≤ 9223372036854775807 then ((quarryref11_Make.f kj2 t236 (t237 ++ t238) (wrap64 (t243 - (t238.size : Int)))).bind fun bt244=>(if bt244.2.2.2 = true then (some (bt244.1,bt244.2.1,bt244.2.2.1,t240,0)) else (some (false,(⟨#[]⟩ : ByteArray),0,t240,111)))) else (none))) else (some (false,(⟨#[]⟩ : ByteArray),0,t240,110))) = some (r1,r2,r3,r4,r5):=H
    have A8:=Aside0.mk A80
    clear A80
    by_cases c9 : t241 = true
    ·subst c9
     have H1 : ((quarryref11_number.f kj2 t239 1000000000000000).bind fun t243=>(if t237.size + t238.size ≤ 9223372036854775807 then ((quarryref11_Make.f kj2 t236 (t237 ++ t238) (wrap64 (t243 - (t238.size : Int)))).bind fun bt244=>(if bt244.2.2.2 = true then (some (bt244.1,bt244.2.1,bt244.2.2.1,t240,0)) else (some (false,(⟨#[]⟩ : ByteArray),0,t240,111)))) else (none))) = some (r1,r2,r3,r4,r5):=by rw [if_pos rfl] at H;exact H
     clear H
     have H:=H1
     clear H1
     replace H:=Option.bind_eq_some_iff.mp H
     obtain ⟨t243,A100,H⟩:=H
     replace H : (if t237.size + t238.size ≤ 9223372036854775807 then ((quarryref11_Make.f kj2 t236 (t237 ++ t238) (wrap64 (t243 - (t238.size : Int)))).bind fun bt244=>(if bt244.2.2.2 = true then (some (bt244.1,bt244.2.1,bt244.2.2.1,t240,0)) else (some (false,(⟨#[]⟩ : ByteArray),0,t240,111)))) else (none)) = some (r1,r2,r3,r4,r5):=H
     have A10:=Aside0.mk A100
     clear A100
     by_cases c11 : t237.size + t238.size ≤ 9223372036854775807
     ·rw [if_pos c11] at H
      have c11b0:=eq_true c11
      have c11b1 : decide (t237.size + t238.size ≤ 9223372036854775807) = true:=decide_eq_true c11
      try have c11b2 : (9223372036854775807 < t237.size + t238.size) = False:=eq_false (Nat.not_lt.2 c11)
      replace H:=Option.bind_eq_some_iff.mp H
      obtain ⟨⟨t244,t245,t246,t247⟩,A120,H⟩:=H
      replace H : (if t247 = true then (some (t244,t245,t246,t240,0)) else (some (false,(⟨#[]⟩ : ByteArray),0,t240,111))) = some (r1,r2,r3,r4,r5):=H
      have A12:=Aside0.mk A120
      clear A120
      by_cases c13 : t247 = true
      ·subst c13
       have H1 : (some (t244,t245,t246,t240,0)) = some (r1,r2,r3,r4,r5):=by rw [if_pos rfl] at H;exact H
       clear H
       have H:=H1
       clear H1
       simp only [Option.some.injEq,Prod.mk.injEq] at H
       obtain ⟨rfl,rfl,rfl,rfl,rfl⟩:=H
       go_wp2_with (first|((with_reducible refine gate_callee (f:=84) rfl ?_);refine goesL_ (some 24) rfl rfl Tryd.func84 (by kernel_rfl) rfl #[.string a0,.int .i64 a1] rfl am_ ?_;(with_reducible refine (quarryref11_scan.calls kj2 a0 a1 t236 t237 t238 t239 t240 true _ A8.out).mono ?_);rintro e w14 ⟨rfl,hb⟩;refine ⟨_,rfl,?_⟩;have n_:=J_ (bkb_ BK235 hb) (Aside0.mk (below_step (hb_ HB) hb));clear BK235 HB;obtain ⟨BK235,HB⟩:=n_;(try clear hb);(try clear hb2);(try clear hk);(try clear hi))|((with_reducible refine gate_dst (N:=7) rfl ?_);(try (refine gate_guard (by rfl) ?_;dsimp only));refine box_event ?hg (N:=7) ?hd (cs:=#[.bool false,.string (⟨#[]⟩ : ByteArray),.string (⟨#[]⟩ : ByteArray),.string (⟨#[]⟩ : ByteArray)]) (t:=121) ?hr ?_;(case hd=>rfl);(case hg=>rfl);(case hr=>first|(go_simp;done)|(go_simp;rfl));intro gb242 hg w15 hbox hb;have n_:=J_ (bkb_ BK235 hb) (J_ (below_step (hb_ HB) hb) (J_ (hbox) (J_ (bs_ hg HB) (J_ (bs_ hg HB) (J_ ((by rw [hg];exact Nat.ne_of_lt (bkl_ BK235) : gb235 ≠ gb242)) (Aside0.mk ((by rw [hg];exact Nat.ne_of_gt (bkl_ BK235) : gb242 ≠ gb235))))))));clear BK235 HB;obtain ⟨BK235,HB,BK242,GW242,GE242,NB235_242,NB242_235⟩:=n_;clear hb hbox hg;have hnb16:=NB242_235.out;have hnc16:=NB235_242.out;obtain ⟨hcz17_0,hcz17_1,hcz17_2,hcz17_3,hfz17_0,hfz17_1,hfz17_2,hfz17_3⟩:=cf4_ BK242)|((with_reducible refine gate_callee (f:=85) rfl ?_);refine goesL_ (some 34) rfl rfl Tryd.func85 (by kernel_rfl) rfl #[.string t239,.int .i64 1000000000000000] rfl am_ ?_;(with_reducible refine (quarryref11_number.calls kj2 t239 1000000000000000 t243 _ A10.out).mono ?_);rintro e w' ⟨rfl,⟨nd,rfl⟩⟩;refine ⟨_,rfl,?_⟩)|((with_reducible refine gate_callee (f:=86) rfl ?_);refine goesL_ (some 48) rfl rfl Tryd.func86 (by kernel_rfl) rfl #[.bool t236,.string (t237 ++ t238),.int .i64 (wrap64 (t243 - (t238.size : Int)))] rfl am_ ?_;(with_reducible refine (quarryref11_Make.calls kj2 t236 (t237 ++ t238) (wrap64 (t243 - (t238.size : Int))) t244 t245 t246 true _ A12.out).mono ?_);rintro e w18 ⟨rfl,hb⟩;refine ⟨_,rfl,?_⟩;have n_:=J_ (blk_below (g:=gb235) (o:=.cells #[.bool false,.string (⟨#[]⟩ : ByteArray),.int .i64 0] 85 (0,0)) ((bf_ NB235_242 BK235)) hb) (J_ (blk_below (g:=gb242) (o:=.cells #[.bool t236,.string t237,.string t238,.string t239] 121 (0,0)) (by (with_reducible repeat (first|refine blk_drewN ?_ _|refine blk_drew ?_|refine blk_alloc ?_ _));refine bp_ (cs:=#[.bool t236,.string t237,.string t238,.string (⟨#[]⟩ : ByteArray)]) ?_ 3 _;refine bp_ (cs:=#[.bool t236,.string t237,.string (⟨#[]⟩ : ByteArray),.string (⟨#[]⟩ : ByteArray)]) ?_ 2 _;refine bp_ (cs:=#[.bool t236,.string (⟨#[]⟩ : ByteArray),.string (⟨#[]⟩ : ByteArray),.string (⟨#[]⟩ : ByteArray)]) ?_ 1 _;refine bp_ (cs:=#[.bool false,.string (⟨#[]⟩ : ByteArray),.string (⟨#[]⟩ : ByteArray),.string (⟨#[]⟩ : ByteArray)]) ?_ 0 _;(with_reducible repeat (first|refine blk_drewN ?_ _|refine blk_drew ?_|refine blk_alloc ?_ _));exact BK242.out) hb) (Aside0.mk (below_step (hb_ HB) hb)));clear BK235 BK242 HB;obtain ⟨BK235,BK242,HB⟩:=n_;(try clear hb);(try clear hb2);(try clear hk);(try clear hi))|((with_reducible refine gate_dst (N:=11) rfl ?_);(try (refine gate_guard (by rfl) ?_;dsimp only));refine box_event ?hg (N:=11) ?hd (cs:=#[.bool false,.string (⟨#[]⟩ : ByteArray),.int .i64 0]) (t:=85) ?hr ?_;(case hd=>rfl);(case hg=>rfl);(case hr=>first|(go_simp;done)|(go_simp;rfl));intro gb248 hg w19 hbox hb;have n_:=J_ (bkb_ BK235 hb) (J_ (bkb_ BK242 hb) (J_ (below_step (hb_ HB) hb) (J_ (hbox) (J_ (bs_ hg HB) (J_ (bs_ hg HB) (J_ ((by rw [hg];exact Nat.ne_of_lt (bkl_ BK235) : gb235 ≠ gb248)) (J_ ((by rw [hg];exact Nat.ne_of_gt (bkl_ BK235) : gb248 ≠ gb235)) (J_ ((by rw [hg];exact Nat.ne_of_lt (bkl_ BK242) : gb242 ≠ gb248)) (Aside0.mk ((by rw [hg];exact Nat.ne_of_gt (bkl_ BK242) : gb248 ≠ gb242)))))))))));clear BK235 BK242 HB;obtain ⟨BK235,BK242,HB,BK248,GW248,GE248,NB235_248,NB248_235,NB242_248,NB248_242⟩:=n_;clear hb hbox hg;have hnb20:=NB248_235.out;have hnc20:=NB235_248.out;have hnb21:=NB248_242.out;have hnc21:=NB242_248.out;obtain ⟨hcz22_0,hcz22_1,hcz22_2,hfz22_0,hfz22_1,hfz22_2⟩:=cf3_ BK248;obtain ⟨hcz23_0,hcz23_1,hcz23_2,hfz23_0,hfz23_1,hfz23_2⟩:=cf3_ BK235))
       refine bodyPost_ret (results_ctt rfl _ _ gb235 85 #[.bool t244,.string t245,.int .i64 t246] (0,0) _ rfl (by (with_reducible repeat (first|refine blk_drewN ?_ _|refine blk_drew ?_|refine blk_alloc ?_ _));refine bp_ (cs:=#[.bool t244,.string t245,.int .i64 0]) ?_ 2 _;refine bp_ (cs:=#[.bool t244,.string (⟨#[]⟩ : ByteArray),.int .i64 0]) ?_ 1 _;refine bp_ (cs:=#[.bool false,.string (⟨#[]⟩ : ByteArray),.int .i64 0]) ?_ 0 _;(with_reducible repeat (first|refine blk_drewN ?_ _|refine blk_drew ?_|refine blk_alloc ?_ _));refine blk_far ?_ NB235_248.out _;(with_reducible repeat (first|refine blk_drewN ?_ _|refine blk_drew ?_|refine blk_alloc ?_ _));refine blk_far ?_ NB235_248.out _;(with_reducible repeat (first|refine blk_drewN ?_ _|refine blk_drew ?_|refine blk_alloc ?_ _));refine blk_far ?_ NB235_248.out _;(with_reducible repeat (first|refine blk_drewN ?_ _|refine blk_drew ?_|refine blk_alloc ?_ _));exact BK235.out) Tryd.underlying85 rfl (by kernel_rfl)) rfl ?_
       exact ⟨er_,(hb_ HB)⟩
      ·replace c13:=Bool.eq_false_iff.mpr c13
       subst c13
       have H1 : (some (false,(⟨#[]⟩ : ByteArray),0,t240,111)) = some (r1,r2,r3,r4,r5):=by rw [if_neg (show ¬ (false = true) by decide)] at H;exact H
       clear H
       have H:=H1
       clear H1
       simp only [Option.some.injEq,Prod.mk.injEq] at H
       obtain ⟨rfl,rfl,rfl,rfl,rfl⟩:=H
       go_wp2_with (first|((with_reducible refine gate_callee (f:=84) rfl ?_);refine goesL_ (some 24) rfl rfl Tryd.func84 (by kernel_rfl) rfl #[.string a0,.int .i64 a1] rfl am_ ?_;(with_reducible refine (quarryref11_scan.calls kj2 a0 a1 t236 t237 t238 t239 t240 true _ A8.out).mono ?_);rintro e w24 ⟨rfl,hb⟩;refine ⟨_,rfl,?_⟩;have n_:=J_ (bkb_ BK235 hb) (Aside0.mk (below_step (hb_ HB) hb));clear BK235 HB;obtain ⟨BK235,HB⟩:=n_;(try clear hb);(try clear hb2);(try clear hk);(try clear hi))|((with_reducible refine gate_dst (N:=7) rfl ?_);(try (refine gate_guard (by rfl) ?_;dsimp only));refine box_event ?hg (N:=7) ?hd (cs:=#[.bool false,.string (⟨#[]⟩ : ByteArray),.string (⟨#[]⟩ : ByteArray),.string (⟨#[]⟩ : ByteArray)]) (t:=121) ?hr ?_;(case hd=>rfl);(case hg=>rfl);(case hr=>first|(go_simp;done)|(go_simp;rfl));intro gb242 hg w25 hbox hb;have n_:=J_ (bkb_ BK235 hb) (J_ (below_step (hb_ HB) hb) (J_ (hbox) (J_ (bs_ hg HB) (J_ (bs_ hg HB) (J_ ((by rw [hg];exact Nat.ne_of_lt (bkl_ BK235) : gb235 ≠ gb242)) (Aside0.mk ((by rw [hg];exact Nat.ne_of_gt (bkl_ BK235) : gb242 ≠ gb235))))))));clear BK235 HB;obtain ⟨BK235,HB,BK242,GW242,GE242,NB235_242,NB242_235⟩:=n_;clear hb hbox hg;have hnb26:=NB242_235.out;have hnc26:=NB235_242.out;obtain ⟨hcz27_0,hcz27_1,hcz27_2,hcz27_3,hfz27_0,hfz27_1,hfz27_2,hfz27_3⟩:=cf4_ BK242)|((with_reducible refine gate_callee (f:=85) rfl ?_);refine goesL_ (some 34) rfl rfl Tryd.func85 (by kernel_rfl) rfl #[.string t239,.int .i64 1000000000000000] rfl am_ ?_;(with_reducible refine (quarryref11_number.calls kj2 t239 1000000000000000 t243 _ A10.out).mono ?_);rintro e w' ⟨rfl,⟨nd,rfl⟩⟩;refine ⟨_,rfl,?_⟩)|((with_reducible refine gate_callee (f:=86) rfl ?_);refine goesL_ (some 48) rfl rfl Tryd.func86 (by kernel_rfl) rfl #[.bool t236,.string (t237 ++ t238),.int .i64 (wrap64 (t243 - (t238.size : Int)))] rfl am_ ?_;(with_reducible refine (quarryref11_Make.calls kj2 t236 (t237 ++ t238) (wrap64 (t243 - (t238.size : Int))) t244 t245 t246 false _ A12.out).mono ?_);rintro e w28 ⟨rfl,hb⟩;refine ⟨_,rfl,?_⟩;have n_:=J_ (blk_below (g:=gb235) (o:=.cells #[.bool false,.string (⟨#[]⟩ : ByteArray),.int .i64 0] 85 (0,0)) ((bf_ NB235_242 BK235)) hb) (J_ (blk_below (g:=gb242) (o:=.cells #[.bool t236,.string t237,.string t238,.string t239] 121 (0,0)) (by (with_reducible repeat (first|refine blk_drewN ?_ _|refine blk_drew ?_|refine blk_alloc ?_ _));refine bp_ (cs:=#[.bool t236,.string t237,.string t238,.string (⟨#[]⟩ : ByteArray)]) ?_ 3 _;refine bp_ (cs:=#[.bool t236,.string t237,.string (⟨#[]⟩ : ByteArray),.string (⟨#[]⟩ : ByteArray)]) ?_ 2 _;refine bp_ (cs:=#[.bool t236,.string (⟨#[]⟩ : ByteArray),.string (⟨#[]⟩ : ByteArray),.string (⟨#[]⟩ : ByteArray)]) ?_ 1 _;refine bp_ (cs:=#[.bool false,.string (⟨#[]⟩ : ByteArray),.string (⟨#[]⟩ : ByteArray),.string (⟨#[]⟩ : ByteArray)]) ?_ 0 _;(with_reducible repeat (first|refine blk_drewN ?_ _|refine blk_drew ?_|refine blk_alloc ?_ _));exact BK242.out) hb) (Aside0.mk (below_step (hb_ HB) hb)));clear BK235 BK242 HB;obtain ⟨BK235,BK242,HB⟩:=n_;(try clear hb);(try clear hb2);(try clear hk);(try clear hi))|((with_reducible refine gate_dst (N:=11) rfl ?_);(try (refine gate_guard (by rfl) ?_;dsimp only));refine box_event ?hg (N:=11) ?hd (cs:=#[.bool false,.string (⟨#[]⟩ : ByteArray),.int .i64 0]) (t:=85) ?hr ?_;(case hd=>rfl);(case hg=>rfl);(case hr=>first|(go_simp;done)|(go_simp;rfl));intro gb248 hg w29 hbox hb;have n_:=J_ (bkb_ BK235 hb) (J_ (bkb_ BK242 hb) (J_ (below_step (hb_ HB) hb) (J_ (hbox) (J_ (bs_ hg HB) (J_ (bs_ hg HB) (J_ ((by rw [hg];exact Nat.ne_of_lt (bkl_ BK235) : gb235 ≠ gb248)) (J_ ((by rw [hg];exact Nat.ne_of_gt (bkl_ BK235) : gb248 ≠ gb235)) (J_ ((by rw [hg];exact Nat.ne_of_lt (bkl_ BK242) : gb242 ≠ gb248)) (Aside0.mk ((by rw [hg];exact Nat.ne_of_gt (bkl_ BK242) : gb248 ≠ gb242)))))))))));clear BK235 BK242 HB;obtain ⟨BK235,BK242,HB,BK248,GW248,GE248,NB235_248,NB248_235,NB242_248,NB248_242⟩:=n_;clear hb hbox hg;have hnb30:=NB248_235.out;have hnc30:=NB235_248.out;have hnb31:=NB248_242.out;have hnc31:=NB242_248.out;obtain ⟨hcz32_0,hcz32_1,hcz32_2,hfz32_0,hfz32_1,hfz32_2⟩:=cf3_ BK248;obtain ⟨hcz33_0,hcz33_1,hcz33_2,hfz33_0,hfz33_1,hfz33_2⟩:=cf3_ BK235))
       refine bodyPost_ret (results_ctt rfl _ _ gb235 85 #[.bool false,.string (⟨#[]⟩ : ByteArray),.int .i64 0] (0,0) _ rfl (by (with_reducible repeat (first|refine blk_drewN ?_ _|refine blk_drew ?_|refine blk_alloc ?_ _));refine bp_ (cs:=#[.bool false,.string (⟨#[]⟩ : ByteArray),.int .i64 0]) ?_ 2 _;refine bp_ (cs:=#[.bool false,.string (⟨#[]⟩ : ByteArray),.int .i64 0]) ?_ 1 _;refine bp_ (cs:=#[.bool false,.string (⟨#[]⟩ : ByteArray),.int .i64 0]) ?_ 0 _;(with_reducible repeat (first|refine blk_drewN ?_ _|refine blk_drew ?_|refine blk_alloc ?_ _));refine blk_far ?_ NB235_248.out _;(with_reducible repeat (first|refine blk_drewN ?_ _|refine blk_drew ?_|refine blk_alloc ?_ _));refine blk_far ?_ NB235_248.out _;(with_reducible repeat (first|refine blk_drewN ?_ _|refine blk_drew ?_|refine blk_alloc ?_ _));refine blk_far ?_ NB235_248.out _;(with_reducible repeat (first|refine blk_drewN ?_ _|refine blk_drew ?_|refine blk_alloc ?_ _));exact BK235.out) Tryd.underlying85 rfl (by kernel_rfl)) rfl ?_
       exact ⟨er_,(hb_ HB)⟩
     ·rw [if_neg c11] at H
      exact absurd H (by simp)
    ·replace c9:=Bool.eq_false_iff.mpr c9
     subst c9
     have H1 : (some (false,(⟨#[]⟩ : ByteArray),0,t240,110)) = some (r1,r2,r3,r4,r5):=by rw [if_neg (show ¬ (false = true) by decide)] at H;exact H
     clear H
     have H:=H1
     clear H1
     simp only [Option.some.injEq,Prod.mk.injEq] at H
     obtain ⟨rfl,rfl,rfl,rfl,rfl⟩:=H
     go_wp2_with (first|((with_reducible refine gate_callee (f:=84) rfl ?_);refine goesL_ (some 24) rfl rfl Tryd.func84 (by kernel_rfl) rfl #[.string a0,.int .i64 a1] rfl am_ ?_;(with_reducible refine (quarryref11_scan.calls kj2 a0 a1 t236 t237 t238 t239 t240 false _ A8.out).mono ?_);rintro e w34 ⟨rfl,hb⟩;refine ⟨_,rfl,?_⟩;have n_:=J_ (bkb_ BK235 hb) (Aside0.mk (below_step (hb_ HB) hb));clear BK235 HB;obtain ⟨BK235,HB⟩:=n_;(try clear hb);(try clear hb2);(try clear hk);(try clear hi))|((with_reducible refine gate_dst (N:=7) rfl ?_);(try (refine gate_guard (by rfl) ?_;dsimp only));refine box_event ?hg (N:=7) ?hd (cs:=#[.bool false,.string (⟨#[]⟩ : ByteArray),.string (⟨#[]⟩ : ByteArray),.string (⟨#[]⟩ : ByteArray)]) (t:=121) ?hr ?_;(case hd=>rfl);(case hg=>rfl);(case hr=>first|(go_simp;done)|(go_simp;rfl));intro gb242 hg w35 hbox hb;have n_:=J_ (bkb_ BK235 hb) (J_ (below_step (hb_ HB) hb) (J_ (hbox) (J_ (bs_ hg HB) (J_ (bs_ hg HB) (J_ ((by rw [hg];exact Nat.ne_of_lt (bkl_ BK235) : gb235 ≠ gb242)) (Aside0.mk ((by rw [hg];exact Nat.ne_of_gt (bkl_ BK235) : gb242 ≠ gb235))))))));clear BK235 HB;obtain ⟨BK235,HB,BK242,GW242,GE242,NB235_242,NB242_235⟩:=n_;clear hb hbox hg;have hnb36:=NB242_235.out;have hnc36:=NB235_242.out;obtain ⟨hcz37_0,hcz37_1,hcz37_2,hcz37_3,hfz37_0,hfz37_1,hfz37_2,hfz37_3⟩:=cf4_ BK242;obtain ⟨hcz38_0,hcz38_1,hcz38_2,hfz38_0,hfz38_1,hfz38_2⟩:=cf3_ BK235))
     refine bodyPost_ret (results_ctt rfl _ _ gb235 85 #[.bool false,.string (⟨#[]⟩ : ByteArray),.int .i64 0] (0,0) _ rfl (by (with_reducible repeat (first|refine blk_drewN ?_ _|refine blk_drew ?_|refine blk_alloc ?_ _));refine bp_ (cs:=#[.bool false,.string (⟨#[]⟩ : ByteArray),.int .i64 0]) ?_ 2 _;refine bp_ (cs:=#[.bool false,.string (⟨#[]⟩ : ByteArray),.int .i64 0]) ?_ 1 _;refine bp_ (cs:=#[.bool false,.string (⟨#[]⟩ : ByteArray),.int .i64 0]) ?_ 0 _;(with_reducible repeat (first|refine blk_drewN ?_ _|refine blk_drew ?_|refine blk_alloc ?_ _));refine blk_far ?_ NB235_242.out _;(with_reducible repeat (first|refine blk_drewN ?_ _|refine blk_drew ?_|refine blk_alloc ?_ _));refine blk_far ?_ NB235_242.out _;(with_reducible repeat (first|refine blk_drewN ?_ _|refine blk_drew ?_|refine blk_alloc ?_ _));refine blk_far ?_ NB235_242.out _;(with_reducible repeat (first|refine blk_drewN ?_ _|refine blk_drew ?_|refine blk_alloc ?_ _));refine blk_far ?_ NB235_242.out _;(with_reducible repeat (first|refine blk_drewN ?_ _|refine blk_drew ?_|refine blk_alloc ?_ _));exact BK235.out) Tryd.underlying85 rfl (by kernel_rfl)) rfl ?_
     exact ⟨er_,(hb_ HB)⟩
def quarryref11_Of.f (k : Nat) (a0 : ByteArray) : Option (Bool × ByteArray × Int × Int):=(quarryref11_Read.f k a0 0).bind fun bt250=>(if bt250.2.2.2.2 = 110 then (some (false,(⟨#[]⟩ : ByteArray),0,110)) else (if bt250.2.2.2.1 = (a0.size : Int) then (some (bt250.1,bt250.2.1,bt250.2.2.1,bt250.2.2.2.2)) else (some (false,(⟨#[]⟩ : ByteArray),0,110))))
set_option maxHeartbeats 8000000 in
set_option maxRecDepth 100000 in
theorem quarryref11_Of.calls (k : Nat) (a0 : ByteArray) (r1 : Bool) (r2 : ByteArray) (r3 : Int) (r4 : Int) (w : World) (h : quarryref11_Of.f k a0 = some (r1,r2,r3,r4)) :
  Calls Tryd.prog 66 #[.string a0] w fun e w'=>e = .returned (.tuple #[.agg #[.bool r1,.string r2,.int .i64 r3],.int .i64 r4]) ∧ Below w.heap.size w w':=by
 have hu85:=Tryd.underlying85
 have HB:=Aside0.mk (Below.refl w.heap.size w)
 have H : ((quarryref11_Read.f k a0 0).bind fun bt250=>(if bt250.2.2.2.2 = 110 then (some (false,(⟨#[]⟩ : ByteArray),0,110)) else (if bt250.2.2.2.1 = (a0.size : Int) then (some (bt250.1,bt250.2.1,bt250.2.2.1,bt250.2.2.2.2)) else (some (false,(⟨#[]⟩ : ByteArray),0,110))))) = some (r1,r2,r3,r4):=h
 clear h
 replace H:=Option.bind_eq_some_iff.mp H
 obtain ⟨⟨t250,t251,t252,t253,t254⟩,A20,H⟩:=H
 replace H : (if t254 = 110 then (some (false,(⟨#[]⟩ : ByteArray),0,110)) else (if t253 = (a0.size : Int) then (some (t250,t251,t252,t254)) else (some (false,(⟨#[]⟩ : ByteArray),0,110)))) = some (r1,r2,r3,r4):=H
 have A2:=Aside0.mk A20
 clear A20
 by_cases c3 : t254 = 110
 ·rw [if_pos c3] at H
  have c3b0 : (t254 == 110) = true:=beq_iff_eq.mpr c3
  have c3b1 : (t254 != 110) = false:=bne_eq_false_iff_eq.mpr c3
  clear c3
  simp only [Option.some.injEq,Prod.mk.injEq] at H
  obtain ⟨rfl,rfl,rfl,rfl⟩:=H
  go_enter Tryd.func66,Tryd.ntmps66
  go_wp2_with (first|((with_reducible refine gate_dst (N:=2) rfl ?_);(try (refine gate_guard (by rfl) ?_;dsimp only));refine box_event ?hg (N:=2) ?hd (cs:=#[.bool false,.string (⟨#[]⟩ : ByteArray),.int .i64 0]) (t:=85) ?hr ?_;(case hd=>rfl);(case hg=>rfl);(case hr=>first|(go_simp;done)|(go_simp;rfl));intro gb249 hg w4 hbox hb;have n_:=J_ (below_step (hb_ HB) hb) (J_ (hbox) (J_ (bs_ hg HB) (Aside0.mk (bs_ hg HB))));clear HB;obtain ⟨HB,BK249,GW249,GE249⟩:=n_;clear hb hbox hg)|((with_reducible refine gate_callee (f:=77) rfl ?_);refine goesL_ (some 9) rfl rfl Tryd.func77 (by kernel_rfl) rfl #[.string a0,.int .i64 0] rfl am_ ?_;(with_reducible refine (quarryref11_Read.calls k a0 0 t250 t251 t252 t253 t254 _ A2.out).mono ?_);rintro e w5 ⟨rfl,hb⟩;refine ⟨_,rfl,?_⟩;have n_:=J_ (bkb_ BK249 hb) (Aside0.mk (below_step (hb_ HB) hb));clear BK249 HB;obtain ⟨BK249,HB⟩:=n_;(try clear hb);(try clear hb2);(try clear hk);(try clear hi))|((with_reducible refine gate_dst (N:=4) rfl ?_);(try (refine gate_guard (by rfl) ?_;dsimp only));refine box_event ?hg (N:=4) ?hd (cs:=#[.bool false,.string (⟨#[]⟩ : ByteArray),.int .i64 0]) (t:=85) ?hr ?_;(case hd=>rfl);(case hg=>rfl);(case hr=>first|(go_simp;done)|(go_simp;rfl));intro gb255 hg w6 hbox hb;have n_:=J_ (bkb_ BK249 hb) (J_ (below_step (hb_ HB) hb) (J_ (hbox) (J_ (bs_ hg HB) (J_ (bs_ hg HB) (J_ ((by rw [hg];exact Nat.ne_of_lt (bkl_ BK249) : gb249 ≠ gb255)) (Aside0.mk ((by rw [hg];exact Nat.ne_of_gt (bkl_ BK249) : gb255 ≠ gb249))))))));clear BK249 HB;obtain ⟨BK249,HB,BK255,GW255,GE255,NB249_255,NB255_249⟩:=n_;clear hb hbox hg;have hnb7:=NB255_249.out;have hnc7:=NB249_255.out;obtain ⟨hcz8_0,hcz8_1,hcz8_2,hfz8_0,hfz8_1,hfz8_2⟩:=cf3_ BK255;obtain ⟨hcz9_0,hcz9_1,hcz9_2,hfz9_0,hfz9_1,hfz9_2⟩:=cf3_ BK249))
  refine bodyPost_ret (results_ct rfl _ _ gb249 85 #[.bool false,.string (⟨#[]⟩ : ByteArray),.int .i64 0] (0,0) _ rfl (by (with_reducible repeat (first|refine blk_drewN ?_ _|refine blk_drew ?_|refine blk_alloc ?_ _));refine bp_ (cs:=#[.bool false,.string (⟨#[]⟩ : ByteArray),.int .i64 0]) ?_ 2 _;refine bp_ (cs:=#[.bool false,.string (⟨#[]⟩ : ByteArray),.int .i64 0]) ?_ 1 _;refine bp_ (cs:=#[.bool false,.string (⟨#[]⟩ : ByteArray),.int .i64 0]) ?_ 0 _;(with_reducible repeat (first|refine blk_drewN ?_ _|refine blk_drew ?_|refine blk_alloc ?_ _));refine blk_far ?_ NB249_255.out _;(with_reducible repeat (first|refine blk_drewN ?_ _|refine blk_drew ?_|refine blk_alloc ?_ _));refine blk_far ?_ NB249_255.out _;(with_reducible repeat (first|refine blk_drewN ?_ _|refine blk_drew ?_|refine blk_alloc ?_ _));refine blk_far ?_ NB249_255.out _;(with_reducible repeat (first|refine blk_drewN ?_ _|refine blk_drew ?_|refine blk_alloc ?_ _));exact BK249.out) Tryd.underlying85 rfl (by kernel_rfl)) rfl ?_
  exact ⟨er_,(hb_ HB)⟩
 ·rw [if_neg c3] at H
  have c3b0 : (t254 == 110) = false:=beq_eq_false_iff_ne.mpr c3
  have c3b1 : (t254 != 110) = true:=bne_iff_ne.mpr c3
  by_cases c10 : t253 = (a0.size : Int)
  ·rw [if_pos c10] at H
   have c10b0 : (t253 == (a0.size : Int)) = true:=beq_iff_eq.mpr c10
   have c10b1 : (t253 != (a0.size : Int)) = false:=bne_eq_false_iff_eq.mpr c10
   clear c10
   simp only [Option.some.injEq,Prod.mk.injEq] at H
   obtain ⟨rfl,rfl,rfl,rfl⟩:=H
   go_enter Tryd.func66,Tryd.ntmps66
   go_wp2_with (first|((with_reducible refine gate_dst (N:=2) rfl ?_);(try (refine gate_guard (by rfl) ?_;dsimp only));refine box_event ?hg (N:=2) ?hd (cs:=#[.bool false,.string (⟨#[]⟩ : ByteArray),.int .i64 0]) (t:=85) ?hr ?_;(case hd=>rfl);(case hg=>rfl);(case hr=>first|(go_simp;done)|(go_simp;rfl));intro gb249 hg w11 hbox hb;have n_:=J_ (below_step (hb_ HB) hb) (J_ (hbox) (J_ (bs_ hg HB) (Aside0.mk (bs_ hg HB))));clear HB;obtain ⟨HB,BK249,GW249,GE249⟩:=n_;clear hb hbox hg)|((with_reducible refine gate_callee (f:=77) rfl ?_);refine goesL_ (some 9) rfl rfl Tryd.func77 (by kernel_rfl) rfl #[.string a0,.int .i64 0] rfl am_ ?_;(with_reducible refine (quarryref11_Read.calls k a0 0 t250 t251 t252 t253 t254 _ A2.out).mono ?_);rintro e w12 ⟨rfl,hb⟩;refine ⟨_,rfl,?_⟩;have n_:=J_ (bkb_ BK249 hb) (Aside0.mk (below_step (hb_ HB) hb));clear BK249 HB;obtain ⟨BK249,HB⟩:=n_;(try clear hb);(try clear hb2);(try clear hk);(try clear hi))|((with_reducible refine gate_dst (N:=4) rfl ?_);(try (refine gate_guard (by rfl) ?_;dsimp only));refine box_event ?hg (N:=4) ?hd (cs:=#[.bool false,.string (⟨#[]⟩ : ByteArray),.int .i64 0]) (t:=85) ?hr ?_;(case hd=>rfl);(case hg=>rfl);(case hr=>first|(go_simp;done)|(go_simp;rfl));intro gb255 hg w13 hbox hb;have n_:=J_ (bkb_ BK249 hb) (J_ (below_step (hb_ HB) hb) (J_ (hbox) (J_ (bs_ hg HB) (J_ (bs_ hg HB) (J_ ((by rw [hg];exact Nat.ne_of_lt (bkl_ BK249) : gb249 ≠ gb255)) (Aside0.mk ((by rw [hg];exact Nat.ne_of_gt (bkl_ BK249) : gb255 ≠ gb249))))))));clear BK249 HB;obtain ⟨BK249,HB,BK255,GW255,GE255,NB249_255,NB255_249⟩:=n_;clear hb hbox hg;have hnb14:=NB255_249.out;have hnc14:=NB249_255.out;obtain ⟨hcz15_0,hcz15_1,hcz15_2,hfz15_0,hfz15_1,hfz15_2⟩:=cf3_ BK255;obtain ⟨hcz16_0,hcz16_1,hcz16_2,hfz16_0,hfz16_1,hfz16_2⟩:=cf3_ BK249))
   refine bodyPost_ret (results_ct rfl _ _ gb249 85 #[.bool t250,.string t251,.int .i64 t252] (0,0) _ rfl (by (with_reducible repeat (first|refine blk_drewN ?_ _|refine blk_drew ?_|refine blk_alloc ?_ _));refine bp_ (cs:=#[.bool t250,.string t251,.int .i64 0]) ?_ 2 _;refine bp_ (cs:=#[.bool t250,.string (⟨#[]⟩ : ByteArray),.int .i64 0]) ?_ 1 _;refine bp_ (cs:=#[.bool false,.string (⟨#[]⟩ : ByteArray),.int .i64 0]) ?_ 0 _;(with_reducible repeat (first|refine blk_drewN ?_ _|refine blk_drew ?_|refine blk_alloc ?_ _));refine blk_far ?_ NB249_255.out _;(with_reducible repeat (first|refine blk_drewN ?_ _|refine blk_drew ?_|refine blk_alloc ?_ _));refine blk_far ?_ NB249_255.out _;(with_reducible repeat (first|refine blk_drewN ?_ _|refine blk_drew ?_|refine blk_alloc ?_ _));refine blk_far ?_ NB249_255.out _;(with_reducible repeat (first|refine blk_drewN ?_ _|refine blk_drew ?_|refine blk_alloc ?_ _));exact BK249.out) Tryd.underlying85 rfl (by kernel_rfl)) rfl ?_
   exact ⟨er_,(hb_ HB)⟩
  ·rw [if_neg c10] at H
   have c10b0 : (t253 == (a0.size : Int)) = false:=beq_eq_false_iff_ne.mpr c10
   have c10b1 : (t253 != (a0.size : Int)) = true:=bne_iff_ne.mpr c10
   simp only [Option.some.injEq,Prod.mk.injEq] at H
   obtain ⟨rfl,rfl,rfl,rfl⟩:=H
   go_enter Tryd.func66,Tryd.ntmps66
   go_wp2_with (first|((with_reducible refine gate_dst (N:=2) rfl ?_);(try (refine gate_guard (by rfl) ?_;dsimp only));refine box_event ?hg (N:=2) ?hd (cs:=#[.bool false,.string (⟨#[]⟩ : ByteArray),.int .i64 0]) (t:=85) ?hr ?_;(case hd=>rfl);(case hg=>rfl);(case hr=>first|(go_simp;done)|(go_simp;rfl));intro gb249 hg w17 hbox hb;have n_:=J_ (below_step (hb_ HB) hb) (J_ (hbox) (J_ (bs_ hg HB) (Aside0.mk (bs_ hg HB))));clear HB;obtain ⟨HB,BK249,GW249,GE249⟩:=n_;clear hb hbox hg)|((with_reducible refine gate_callee (f:=77) rfl ?_);refine goesL_ (some 9) rfl rfl Tryd.func77 (by kernel_rfl) rfl #[.string a0,.int .i64 0] rfl am_ ?_;(with_reducible refine (quarryref11_Read.calls k a0 0 t250 t251 t252 t253 t254 _ A2.out).mono ?_);rintro e w18 ⟨rfl,hb⟩;refine ⟨_,rfl,?_⟩;have n_:=J_ (bkb_ BK249 hb) (Aside0.mk (below_step (hb_ HB) hb));clear BK249 HB;obtain ⟨BK249,HB⟩:=n_;(try clear hb);(try clear hb2);(try clear hk);(try clear hi))|((with_reducible refine gate_dst (N:=4) rfl ?_);(try (refine gate_guard (by rfl) ?_;dsimp only));refine box_event ?hg (N:=4) ?hd (cs:=#[.bool false,.string (⟨#[]⟩ : ByteArray),.int .i64 0]) (t:=85) ?hr ?_;(case hd=>rfl);(case hg=>rfl);(case hr=>first|(go_simp;done)|(go_simp;rfl));intro gb255 hg w19 hbox hb;have n_:=J_ (bkb_ BK249 hb) (J_ (below_step (hb_ HB) hb) (J_ (hbox) (J_ (bs_ hg HB) (J_ (bs_ hg HB) (J_ ((by rw [hg];exact Nat.ne_of_lt (bkl_ BK249) : gb249 ≠ gb255)) (Aside0.mk ((by rw [hg];exact Nat.ne_of_gt (bkl_ BK249) : gb255 ≠ gb249))))))));clear BK249 HB;obtain ⟨BK249,HB,BK255,GW255,GE255,NB249_255,NB255_249⟩:=n_;clear hb hbox hg;have hnb20:=NB255_249.out;have hnc20:=NB249_255.out;obtain ⟨hcz21_0,hcz21_1,hcz21_2,hfz21_0,hfz21_1,hfz21_2⟩:=cf3_ BK255;obtain ⟨hcz22_0,hcz22_1,hcz22_2,hfz22_0,hfz22_1,hfz22_2⟩:=cf3_ BK249))
   refine bodyPost_ret (results_ct rfl _ _ gb249 85 #[.bool false,.string (⟨#[]⟩ : ByteArray),.int .i64 0] (0,0) _ rfl (by (with_reducible repeat (first|refine blk_drewN ?_ _|refine blk_drew ?_|refine blk_alloc ?_ _));refine bp_ (cs:=#[.bool false,.string (⟨#[]⟩ : ByteArray),.int .i64 0]) ?_ 2 _;refine bp_ (cs:=#[.bool false,.string (⟨#[]⟩ : ByteArray),.int .i64 0]) ?_ 1 _;refine bp_ (cs:=#[.bool false,.string (⟨#[]⟩ : ByteArray),.int .i64 0]) ?_ 0 _;(with_reducible repeat (first|refine blk_drewN ?_ _|refine blk_drew ?_|refine blk_alloc ?_ _));refine blk_far ?_ NB249_255.out _;(with_reducible repeat (first|refine blk_drewN ?_ _|refine blk_drew ?_|refine blk_alloc ?_ _));refine blk_far ?_ NB249_255.out _;(with_reducible repeat (first|refine blk_drewN ?_ _|refine blk_drew ?_|refine blk_alloc ?_ _));refine blk_far ?_ NB249_255.out _;(with_reducible repeat (first|refine blk_drewN ?_ _|refine blk_drew ?_|refine blk_alloc ?_ _));exact BK249.out) Tryd.underlying85 rfl (by kernel_rfl)) rfl ?_
   exact ⟨er_,(hb_ HB)⟩
end Go.Proofs.YtppenppagkfigaaDoor.PPointerFinds
